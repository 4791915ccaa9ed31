/- Own words for walks, seventeenth part: rows of one's own cut and written; handed-in slices of structs. -/
import Derived.Test.YtgmmifpflllkfaaV16
namespace Go.Ev

section
variable {P : Program} {e : Env} {w w0 w' : World} {S : List Nat} {es X Y : List Ent} {d : Option Nat} {ty t t2 et : TypeId} {pos : String} {aft : Array Edge} {g : Option (Nat × Bool)} {x y : Operand} {v : Value}
variable {n z : Nat} {ops : Array Oper} {rest : List Oper} {Q : Exit → Env → World → Prop} {op : Op} {b0 : Nat} {k : IntKind} {a : Option Addr} {l : List Nat} {m c : Nat}

/-- An operation under a guard that lets it. -/
theorem L_g (hg : wantedE ops e g = true) (h : L P n ops Q (⟨d, op, ty, pos, aft, none⟩ :: rest) e w) : L P n ops Q (⟨d, op, ty, pos, aft, g⟩ :: rest) e w := by
  intro a ha
  have h1 := h a ha
  simp only [wpList] at h1 ⊢
  rw [ha.wanted] at h1 ⊢
  rw [if_pos hg]
  rw [if_pos (show wantedE ops e none = true from rfl)] at h1
  exact h1
theorem mem_one {x : Ent} {i : Nat} (hi : es[i]? = some x) : ∀ y ∈ [x], y ∈ es := fun y hy => by
  rw [List.mem_singleton.1 hy]
  exact List.mem_of_getElem? hi
theorem us_take (k : IntKind) (l : List Nat) (q : Nat) : us k (l.take q) = (us k l).take q := List.map_take
/-- A row's beginning: what stands behind may be written over. -/
theorem Hp.ownTake {i q : Nat} {es' : List Ent} (H : Hp w0 S w es) (hi : es[i]? = some (.own (.slice a m c) et 1 m (us k l))) (hq : q ≤ m) (he : es.set i (.own (.slice a q c) et 1 q (us k (l.take q))) = es') : Hp w0 S w es' := by
  refine H.say hi (fun h => ?_) (fun b hb => ?_) he
  · rcases h with ⟨h1, h2⟩
    have hl : l.length = m := by rw [us_length, Nat.mul_one] at h1; exact h1
    refine ⟨by rw [us_length, List.length_take, hl]; omega, ?_⟩
    rcases h2 with ⟨e1, e2⟩ | ⟨b, cap, cur, e1, hb, hg, hn, hcm, hcs, htk⟩
    · injection e1 with e1 e3 e4
      subst e1 e4
      exact .inl ⟨by congr 1; omega, by omega⟩
    · injection e1 with e1 e3 e4
      subst e1 e4
      refine .inr ⟨b, c, cur, rfl, hb, hg, by omega, hcm, hcs, ?_⟩
      rw [us_take, ← htk, List.take_take]
      congr 1; omega
  · cases a with
    | none => exact hb
    | some p => exact hb
theorem us_set (k : IntKind) (l : List Nat) (j u : Nat) : us k (l.set j u) = (us k l).set j (.int k (u : Int)) := by simp [us, List.map_set]
/-- A cell of a row of one's own is written. -/
theorem L_stO {i q j u : Nat} (hs : scal P t = true) (H : Hp w0 S w es) (hi : es[i]? = some (.own v et 1 q (us k l))) (hx : ev e x = plv v j) (hj : j < q) (hy : ev e y = .int k (u : Int))
    (hk : ∀ w', Hp w0 S w' (es.set i (.own v et 1 q (us k (l.set j u)))) → L P n ops Q rest e w') : L P n ops Q (⟨none, .store t x y, ty, pos, aft, none⟩ :: rest) e w := by
  have hlt : i < es.length := (List.getElem?_eq_some_iff.1 hi).1
  rcases H.own_blk hi with ⟨_, h0, _⟩ | ⟨b, cap, cs, rfl, hn, hc, hcs, htk, H2⟩
  · omega
  · rw [Nat.mul_one] at hcs htk
    have hx' : ev e x = .pointer (some ⟨b, j, none⟩) := by rw [hx]; simp [plv, pl, add_at]
    refine L_st (v := .int k (u : Int)) (bt := et) (cs := cs) hs H2 (i := i) (by simp [hlt]) hx' hy rfl (by omega) rfl (fun w' H3 => hk w' ?_)
    refine H3.say (i := i) (x := .blk b et (cs.set! j (.int k (u : Int)))) (by simp [hlt]) (own_of_blk (z := 1) (xs := us k (l.set j u)) hn hc (by simp [hcs]) ?_) (fun b' hb' => hb') (by simp)
    rw [Nat.mul_one, us_set, ← htk]
    simp [Array.set!_eq_setIfInBounds, Array.toList_setIfInBounds, List.take_set]
theorem L_stR {i j u : Nat} (hs : scal P t = true) (H : Hp w0 S w es) (hi : es[i]? = some (.own (.slice a m c) et 1 m (us k l))) (hx : ev e x = pl a j) (hj : j < m) (hy : ev e y = .int k (u : Int))
    (hk : ∀ w', Hp w0 S w' (es.set i (.own (.slice a m c) et 1 m (us k (l.set j u)))) → L P n ops Q rest e w') : L P n ops Q (⟨none, .store t x y, ty, pos, aft, none⟩ :: rest) e w :=
  L_stO hs H hi hx hj hy hk

theorem set_lt {q j u : Nat} {l1 : List Nat} (h1 : ∀ u ∈ l1, u < q) (h2 : u < q) : ∀ x ∈ l1.set j u, x < q := fun x hx => by
  rcases List.mem_or_eq_of_mem_set hx with h | rfl
  · exact h1 x h
  · exact h2
/-- What was there has stayed. -/
def Stay (w0 w : World) : Prop := ∀ j, j < w0.heap.size → w.heap[j]? = w0.heap[j]?
theorem Hp.stay (H : Hp w0 [] w es) : Stay w0 w := fun j hj => H.frame j hj (by simp)
theorem Sl.stay (h : Sl w0 k a m c l) (H : Stay w0 w) : Sl w k a m c l := Seen.old (X := []) h w H (by simp)
theorem Y_minZ {k' : IntKind} {p q z : Int} {ts : Array TypeId} (hx : ev e x = .int k p) (hy : ev e y = .int k' q) (hz : (if q < p then q else p) = z) : Yl P ⟨d, .call { callee := .builtin .min, args := #[x, y], argTypes := ts }, ty, pos, aft, g⟩ e w (.int k z) := hz ▸ Y_min hx hy

/-! ### Slices of structs that are handed in -/
/-- cells x: what stands in the cells of an element. -/
structure Tab (w : World) {T : Type} (cells : T → List Value) (z : Nat) (a : Option Addr) (m c : Nat) (L : List T) : Prop where
  len : L.length = m
  cap : m ≤ c
  rd : L = [] ∨ ∃ b o, a = some ⟨b, o, none⟩ ∧ ∀ i x, L[i]? = some x → ∀ j u, (cells x)[j]? = some u → w.cell? ⟨b, o + i * z + j, none⟩ = some u
section
variable {T : Type} {cells : T → List Value} {L : List T}
theorem Tab.hp (h : Tab w0 cells z a m c L) (H : Hp w0 [] w es) : Tab w cells z a m c L := by
  refine ⟨h.len, h.cap, ?_⟩
  rcases h.rd with h1 | ⟨b, o, rfl, h1⟩
  · exact .inl h1
  · refine .inr ⟨b, o, rfl, fun i x hx j u hu => ?_⟩
    have h2 := h1 i x hx j u hu
    rw [← h2]
    exact World.cell?_of_block (H.frame b (cell_lt h2) (by simp))
theorem Tab.stay (h : Tab w0 cells z a m c L) (H : Stay w0 w) : Tab w cells z a m c L := by
  refine ⟨h.len, h.cap, ?_⟩
  rcases h.rd with h1 | ⟨b, o, rfl, h1⟩
  · exact .inl h1
  · refine .inr ⟨b, o, rfl, fun i x hx j u hu => ?_⟩
    have h2 := h1 i x hx j u hu
    rw [← h2]
    exact World.cell?_of_block (H b (cell_lt h2))
theorem Tab.at (h : Tab w cells z a m c L) {j : Nat} (hj : j < m) : ∃ x, L[j]? = some x := ⟨_, List.getElem?_eq_getElem (by rw [h.len]; exact hj)⟩
theorem Tab.lt (h : Tab w cells z a m c L) {j : Nat} {x : T} (hx : L[j]? = some x) : j < m := by
  have := (List.getElem?_eq_some_iff.1 hx).1
  rwa [h.len] at this
theorem Tab.open (h : Tab w cells z a m c L) {j : Nat} {x : T} (hx : L[j]? = some x) : ∃ b o, a = some ⟨b, o, none⟩ ∧ ∀ i x, L[i]? = some x → ∀ j u, (cells x)[j]? = some u → w.cell? ⟨b, o + i * z + j, none⟩ = some u := by
  rcases h.rd with rfl | h1
  · simp at hx
  · exact h1
theorem Y_idxT {j : Nat} {kj : IntKind} {i : Int} {x0 : T} (ht : slOf P t = some (et, z)) (hs : Tab w cells z a m c L) (hL : L[j]? = some x0) (hx : ev e x = .slice a m c) (hy : ev e y = .int kj i) (hi : i = (j : Int)) :
    Yl P ⟨d, .indexAddr t x y, ty, pos, aft, g⟩ e w (pl a (j * z + 0)) := by
  obtain ⟨b, o, rfl, _⟩ := hs.open hL
  have := Y_idxS (P := P) (w := w) (e := e) (d := d) (ty := ty) (pos := pos) (aft := aft) (g := g) (x := x) (y := y) (b := b) (o := o) (cap := c) j (o + j * z) ht hx hy hi (hs.lt hL) rfl
  rw [show pl (some ⟨b, o, none⟩) (j * z + 0) = .pointer (some ⟨b, o + j * z, none⟩) by simp [pl, add_at]]
  exact this
theorem Y_fldT {j f off s q : Nat} {x0 : T} (ht : fldOf P t f = some (off, s)) (h0 : Nat.beq s 0 = false) (hs : Tab w cells z a m c L) (hL : L[j]? = some x0) (hx : ev e x = pl a q) :
    Yl P ⟨d, .fieldAddr t x f, ty, pos, aft, g⟩ e w (pl a (q + off)) := by
  obtain ⟨b, o, rfl, _⟩ := hs.open hL
  rw [show pl (some ⟨b, o, none⟩) q = .pointer (some ⟨b, o + q, none⟩) by simp [pl, add_at]] at hx
  rw [show pl (some ⟨b, o, none⟩) (q + off) = .pointer (some ⟨b, o + q + off, none⟩) by simp [pl, add_at, Nat.add_assoc]]
  exact Y_fld ht h0 hx rfl
theorem Y_ldT {j q off : Nat} {x0 : T} (hsc : scal P t = true) (hs : Tab w cells z a m c L) (hL : L[j]? = some x0) (hx : ev e x = pl a q) (hq : q = j * z + off) (hc : (cells x0)[off]? = some v) : Yl P ⟨d, .load t x, ty, pos, aft, g⟩ e w v := by
  obtain ⟨b, o, rfl, h⟩ := hs.open hL
  subst hq
  rw [show pl (some ⟨b, o, none⟩) (j * z + off) = .pointer (some ⟨b, o + j * z + off, none⟩) by simp [pl, add_at, Nat.add_assoc]] at hx
  exact Y_ldc hsc hx (h j x0 hL off v hc)
end
end
end Go.Ev
