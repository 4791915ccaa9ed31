/- Own words for walks, thirteenth part: bytes of a text that is written out; parts of arrays as slices; more of slices. -/
import Derived.Test.YtgmmifpflllkfaaV12
namespace Go.Ev

section
variable {P : Program} {e : Env} {w w0 w' : World} {S : List Nat} {es : List Ent} {d : Option Nat} {ty t t2 et : TypeId} {pos : String} {aft : Array Edge} {g : Option (Nat × Bool)} {x y : Operand} {v : Value}
variable {n z : Nat} {ops : Array Oper} {rest : List Oper} {Q : Exit → Env → World → Prop} {op : Op} {b0 : Nat} {k : IntKind} {a : Option Addr} {l : List Nat} {m c : Nat}

theorem wU {j dj : Nat} {b : Bool} (hj : dstOf ops j = some dj) (hv : e dj = undef) : wantedE ops e (some (j, b)) = false := by
  have : (ops[j]?).bind (·.dst) = some dj := hj
  simp [wantedE, this, hv, undef]
theorem Hp.erase (h : Hp w0 S w es) (i : Nat) : Hp w0 S w (es.eraseIdx i) := by
  cases hi : es[i]? with
  | none =>
    rw [List.eraseIdx_of_length_le (List.getElem?_eq_none_iff.1 hi)]; exact h
  | some x => exact (h.pull i hi).drop_
theorem heap_freeze_other (w : World) (a : Addr) (q j : Nat) (h : j ≠ a.block) : (w.freeze a q).heap[j]? = w.heap[j]? := by
  unfold World.freeze
  split
  · rfl
  · simp [Array.getElem?_modify, Ne.symm h]
theorem cell_freeze (w : World) (a : Addr) (q : Nat) (p : Addr) : (w.freeze a q).cell? p = w.cell? p := by
  by_cases h : p.block = a.block
  · unfold World.freeze
    by_cases hq : q = 0
    · rw [if_pos hq]
    · rw [if_neg hq]
      simp only [World.cell?, Array.getElem?_modify, h, if_true]
      cases w.heap[a.block]? with
      | none => rfl
      | some o =>
        cases o <;> rfl
  · simp only [World.cell?, heap_freeze_other w a q p.block h]
theorem Rd.cells (h : Rd w k a l) (hc : ∀ p, w'.cell? p = w.cell? p) : Rd w' k a l := by
  rcases h with h | ⟨b, o, rfl, h⟩
  · exact .inl h
  · exact .inr ⟨b, o, rfl, fun j u hu => by rw [hc]; exact h j u hu⟩
/-- A block whose bytes become a text's: it is read alone from now on. -/
theorem L_cvB {i b : Nat} {cs : Array Value} (hd : Nat.blt b0 n = true) (H : Hp w0 S w es) (hi : es[i]? = some (.blk b et cs)) (ht : P.underlying t = some (.slice et)) (he : P.underlying et = some (.int .u8)) (hx : ev e x = .slice (some ⟨b, 0, none⟩) m c)
    (hk : ∀ w', Hp w0 S w' (es.set i (.ro b et cs (cs.size, cs.size + 1))) → L P n ops Q rest (upd e b0 (.slice (some ⟨b, 0, none⟩) m c)) w') :
    L P n ops Q (⟨some b0, .convert t t x, ty, pos, aft, none⟩ :: rest) e w := by
  have hb := H.get i hi
  have hsh : w.shape? b = some (et, cs.size) := by unfold World.shape?; rw [show w.heap[b]? = some (.cells cs et (0, 0)) from hb]
  have hr : (convert t t (.slice (some ⟨b, 0, none⟩) m c)).run P w = .ok (.slice (some ⟨b, 0, none⟩) m c) (w.freeze ⟨b, cs.size, none⟩ 1) := by
    simp [convert, run_underlying ht, run_underlying he, markStringish, hsh]
  have hnew : (w.freeze ⟨b, cs.size, none⟩ 1).heap[b]? = some (.cells cs et (cs.size, cs.size + 1)) := by
    unfold World.freeze
    rw [if_neg (by decide)]
    simp only [Array.getElem?_modify, if_true]
    rw [show w.heap[b]? = some (.cells cs et (0, 0)) from hb]
    rfl
  refine L_do rfl hd (R := fun v' w' => v' = .slice (some ⟨b, 0, none⟩) m c ∧ w' = w.freeze ⟨b, cs.size, none⟩ 1) (Dn.val (v := .slice (some ⟨b, 0, none⟩) m c) (w' := w.freeze ⟨b, cs.size, none⟩ 1) ?_ ⟨rfl, rfl⟩) ?_
  · simp [execOp, hx, hr]
  · rintro _ _ ⟨rfl, rfl⟩
    have hsz : (w.freeze ⟨b, cs.size, none⟩ 1).heap.size = w.heap.size := by unfold World.freeze; simp
    refine hk _ (H.put (S' := [b]) hi ⟨rfl, rfl, rfl, Nat.le_of_eq hsz.symm, fun j _ hn => heap_freeze_other w _ _ j (by simpa using hn), ?_, by simp, ?_⟩ (fun b' hb' => ?_) rfl)
    · intro y hy
      have : y = .ro b et cs (cs.size, cs.size + 1) := by simpa using hy
      subst this
      exact hnew
    · intro y hy b' hb'
      have : y = .ro b et cs (cs.size, cs.size + 1) := by simpa using hy
      subst this
      injection hb' with hb'
      exact .inl (by simp [hb'])
    · have : b' = b := by simpa using hb'
      subst this; rfl
theorem ro_sla {b i : Nat} {bt : TypeId} {fz : Nat × Nat} (H : Hp w0 S w es) (hi : es[i]? = some (.ro b bt (ua k l) fz)) (hl : l.length = m) : Sl w k (some ⟨b, 0, none⟩) m m l := by
  have hb : w.heap[b]? = some (.cells (ua k l) bt fz) := H.get i hi
  refine ⟨Rd.of fun j u hu => ?_, hl, Nat.le_refl _, fun h => by cases h⟩
  rw [Nat.zero_add]
  unfold World.cell?
  simp only [hb]
  exact ua_get hu
theorem ua_sl {b i q : Nat} {bt : TypeId} (H : Hp w0 S w es) (hi : es[i]? = some (.blk b bt (ua k l))) (hl : l.length = m) (hq : q ≤ m) : Sl w k (some ⟨b, 0, none⟩) q m (l.take q) :=
  Sl.blk H hi (by rw [List.length_take]; omega) hq fun j u hu => by
    rw [Nat.zero_add]
    refine ua_get ?_
    rw [List.getElem?_take] at hu
    split at hu
    · exact hu
    · cases hu
theorem ua_sla {b i : Nat} {bt : TypeId} (H : Hp w0 S w es) (hi : es[i]? = some (.blk b bt (ua k l))) (hl : l.length = m) : Sl w k (some ⟨b, 0, none⟩) m m l := by
  have h := ua_sl H hi hl (Nat.le_refl m)
  rwa [List.take_of_length_le (by omega)] at h
/-- A part of an array, by its place. -/
theorem Y_slAH {b q h : Nat} {kh : IntKind} {x2 : Operand} (ht : arrOf P t = some (q, 1)) (hx : ev e x = .pointer (some ⟨b, 0, none⟩)) (hh : ev e x2 = .int kh (h : Int)) (hq : h ≤ q) : Yl P ⟨d, .slice t x none (some x2) none, ty, pos, aft, g⟩ e w (.slice (some ⟨b, 0, none⟩) h q) := by
  unfold arrOf at ht
  split at ht
  · rename_i n' e' hu
    cases hinf : P.info? e' with
    | none => simp [hinf] at ht
    | some inf =>
      simp [hinf] at ht
      obtain ⟨rfl, hz⟩ := ht
      have hn : ¬ ((h : Int) < 0) := by omega
      simp [Yl, execOp, hx, hh, Instr.sliceAt, run_underlying hu, Instr.sureAddr, Instr.sliceBounds, run_sliceBound, hq, sizeOf, typeInfo, hinf, add_at]
  · cases ht
theorem Sl.pre {r : List Nat} {q : Nat} (h : Sl w k a m c (l ++ r)) (hl : l.length = q) (hq : q ≤ m) : Sl w k a q c l := by
  have h1 := h.tk hq
  rwa [List.take_append_of_le_length (by omega), List.take_of_length_le (by omega)] at h1
theorem Sl.as {l' : List Nat} (h : Sl w k a m c l) (e : l = l') : Sl w k a m c l' := e ▸ h
theorem own_length {q : Nat} (h : (Ent.own v t 1 q (us k l)).ok w) : l.length = q := by
  have := h.1
  rwa [us_length, Nat.mul_one] at this
theorem Sl.nil (w : World) (k : IntKind) : Sl w k none 0 0 [] := ⟨.inl rfl, rfl, Nat.le_refl _, fun _ => rfl⟩
theorem app_lt {q : Nat} {l1 l2 : List Nat} (h1 : ∀ u ∈ l1, u < q) (h2 : ∀ u ∈ l2, u < q) : ∀ u ∈ l1 ++ l2, u < q := fun u hu => by
  rcases List.mem_append.1 hu with h | h
  · exact h1 u h
  · exact h2 u h
theorem cons_lt {q i : Nat} {l1 : List Nat} (h1 : i < q) (h2 : ∀ u ∈ l1, u < q) : ∀ u ∈ i :: l1, u < q := fun u hu => by
  rcases List.mem_cons.1 hu with h | h
  · rw [h]; exact h1
  · exact h2 u h
theorem wrapNeg {j : Nat} (h0 : 0 < j) (h : j ≤ 9223372036854775807) : IntKind.u64.wrap (-(j : Int)) = ((18446744073709551616 - j : Nat) : Int) := by
  simp only [IntKind.wrap, IntKind.bits, IntKind.signed]
  simp
  omega
end
end Go.Ev
