/- Own words for walks, sixteenth part: slices that are seen wherever the memory goes; pointers and slices beside nil; objects. -/
import Derived.Test.YtgmmifpflllkfaaV15
import Derived.LaidEqlPtr
namespace Go.Ev

section
variable {P : Program} {e : Env} {w w0 w' : World} {S : List Nat} {es X Y : List Ent} {d : Option Nat} {ty t t2 et : TypeId} {pos : String} {aft : Array Edge} {g : Option (Nat × Bool)} {x y : Operand} {v : Value}
variable {n z : Nat} {ops : Array Oper} {rest : List Oper} {Q : Exit → Env → World → Prop} {op : Op} {b0 : Nat} {k : IntKind} {a : Option Addr} {l : List Nat} {m c : Nat}

/-- A part, alone. -/
theorem Hp.self {x : Ent} (h : x.ok w) : Hp w x.foot.toList w [x] :=
  ⟨rfl, rfl, rfl, Nat.le_refl _, fun _ _ _ => rfl, by simpa using h, by simp, fun y hy b hb => by
    have : y = x := by simpa using hy
    subst this
    exact .inl (by simp [hb])⟩

/-- A slice that is there in every world in which what was there has stayed and the parts X stand. -/
def Seen (w0 : World) (X : List Ent) (k : IntKind) (a : Option Addr) (m c : Nat) (l : List Nat) : Prop :=
  ∀ w', (∀ j, j < w0.heap.size → w'.heap[j]? = w0.heap[j]?) → (∀ x ∈ X, x.ok w') → Sl w' k a m c l
theorem Seen.hp (h : Seen w0 X k a m c l) (H : Hp w0 [] w es) (hs : ∀ x ∈ X, x ∈ es) : Sl w k a m c l := h w (fun j hj => H.frame j hj (by simp)) (fun x hx => H.ok x (hs x hx))
theorem Seen.mono (h : Seen w0 X k a m c l) (hs : ∀ x ∈ X, x ∈ Y) : Seen w0 Y k a m c l := fun w' h1 h2 => h w' h1 fun x hx => h2 x (hs x hx)
theorem Seen.old (h : Sl w0 k a m c l) : Seen w0 X k a m c l := fun w' h1 _ => by
  refine ⟨?_, h.len, h.cap, h.non⟩
  rcases h.rd with h2 | ⟨b, o, rfl, h2⟩
  · exact .inl h2
  · refine .inr ⟨b, o, rfl, fun j u hu => ?_⟩
    have h3 := h2 j u hu
    rw [← h3]
    exact World.cell?_of_block (h1 b (cell_lt h3))
theorem Seen.own {i q : Nat} (hi : X[i]? = some (.own (.slice a m c) et 1 q (us k l))) : Seen w0 X k a m c l := fun _ _ h2 => Sl.own (Hp.self (h2 _ (List.mem_of_getElem? hi))) (i := 0) rfl
theorem Seen.ro {b i : Nat} {bt : TypeId} {fz : Nat × Nat} (hi : X[i]? = some (.ro b bt (ua k l) fz)) (hl : l.length = m) : Seen w0 X k (some ⟨b, 0, none⟩) m m l := fun _ _ h2 => ro_sla (Hp.self (h2 _ (List.mem_of_getElem? hi))) (i := 0) rfl hl
theorem Seen.blk {b i : Nat} {bt : TypeId} (hi : X[i]? = some (.blk b bt (ua k l))) (hl : l.length = m) : Seen w0 X k (some ⟨b, 0, none⟩) m m l := fun _ _ h2 => ua_sla (Hp.self (h2 _ (List.mem_of_getElem? hi))) (i := 0) rfl hl
theorem Seen.map {a' : Option Addr} {m' c' : Nat} {l' : List Nat} (h : Seen w0 X k a m c l) (hf : ∀ w, Sl w k a m c l → Sl w k a' m' c' l') : Seen w0 X k a' m' c' l' := fun w' h1 h2 => hf w' (h w' h1 h2)
theorem Seen.nil : Seen w0 X k none 0 0 [] := fun w' _ _ => Sl.nil w' k
theorem Seen.len (h : Seen w0 X k a m c l) (H : Hp w0 [] w es) (hs : ∀ x ∈ X, x ∈ es) : l.length = m := (h.hp H hs).len

theorem own_one {i q : Nat} {xs : List Value} (H : Hp w0 S w es) (hi : es[i]? = some (.own v et z q xs)) : v.oneCell' = true := by
  obtain ⟨a, c, rfl⟩ := H.own_len hi
  rfl

/-! ### append, of what is known of a slice -/
theorem Dn_appL {i p q c by_ : Nat} {zv : Array Value} {l1 l2 : List Nat} {R : Value → World → Prop} (H : Hp w0 S w es) (hi : es[i]? = some (.own v et 1 p (us k l1))) (hs : slOf P t = some (et, 1)) (hz : zeroOf P et = some zv) (hzs : zv.size = 1) (hb : szOf P et = some by_)
    (hx : ev e x = v) (hy : ev e y = .slice a q c) (hr : Sl w k a q c l2) (hfit : p + q ≤ 4294967296 ∧ by_ ≤ 16)
    (hk : ∀ v' w', Hp w0 S w' (es.set i (.own v' et 1 (p + q) (us k (l1 ++ l2)))) → R v' w') : Dn P ⟨d, .call { callee := .builtin .append, args := #[x, y], argTypes := #[t, t] }, ty, pos, aft, g⟩ e w R :=
  Dn_appR H hi hs hz hzs hb hx hy hr.rd hr.len hfit hr.non hk
theorem Dn_appO {i j p q by_ : Nat} {v2 : Value} {zv : Array Value} {l1 l2 : List Nat} {R : Value → World → Prop} (H : Hp w0 S w es) (hi : es[i]? = some (.own v et 1 p (us k l1))) (hj : es[j]? = some (.own v2 et 1 q (us k l2))) (hs : slOf P t = some (et, 1)) (hz : zeroOf P et = some zv) (hzs : zv.size = 1) (hb : szOf P et = some by_)
    (hx : ev e x = v) (hy : ev e y = v2) (hfit : p + q ≤ 4294967296 ∧ by_ ≤ 16)
    (hk : ∀ v' w', Hp w0 S w' (es.set i (.own v' et 1 (p + q) (us k (l1 ++ l2)))) → R v' w') : Dn P ⟨d, .call { callee := .builtin .append, args := #[x, y], argTypes := #[t, t] }, ty, pos, aft, g⟩ e w R := by
  obtain ⟨a, c, rfl⟩ := Sl.opn H hj
  exact Dn_appL H hi hs hz hzs hb hx hy (Sl.own H hj) hfit hk
theorem Sl.ownv {i q : Nat} (H : Hp w0 S w es) (hi : es[i]? = some (.own v et 1 q (us k l))) : ∃ a c, v = .slice a q c ∧ Sl w k a q c l := by
  obtain ⟨a, c, rfl⟩ := Sl.opn H hi
  exact ⟨a, c, rfl, Sl.own H hi⟩

/-- A row's length and numbers in other words. -/
theorem Hp.asL {i q q' : Nat} {l' : List Nat} {es' : List Ent} (H : Hp w0 S w es) (hi : es[i]? = some (.own v et z q (us k l))) (hq : q = q') (hl : l = l') (he : es.set i (.own v et z q' (us k l')) = es') : Hp w0 S w es' := by
  subst hq hl
  exact H.say hi (fun h => h) (fun _ h => h) he

/-! ### nil -/
theorem Y_eqP {p : Option Addr} (ht : P.underlying t = some (.pointer (P.pointee t))) (hx : ev e x = .pointer p) (hy : ev e y = .pointer none) : Yl P ⟨d, .binOp .eql t x y t2, ty, pos, aft, g⟩ e w (.bool p.isNone) := by
  have hq : eqGuard .eql t x y (.pointer p) (.pointer none) = pure () := eqGuard_at_pointer ..
  simp [Yl, execOp, hx, hy, hq, run_eql_pointer_nil w t p ht]
theorem Y_neP {p : Option Addr} (ht : P.underlying t = some (.pointer (P.pointee t))) (hx : ev e x = .pointer p) (hy : ev e y = .pointer none) : Yl P ⟨d, .binOp .neq t x y t2, ty, pos, aft, g⟩ e w (.bool (!p.isNone)) := by
  have hq : eqGuard .neq t x y (.pointer p) (.pointer none) = pure () := eqGuard_at_pointer ..
  simp [Yl, execOp, hx, hy, hq, run_neq_pointer_nil w t p ht]
theorem Y_eqPP {te : TypeId} {p : Addr} (ht : P.underlying t = some (.pointer te)) (hte : (P.info? te).isSome = true) (hx : ev e x = .pointer (some p)) (hy : ev e y = .pointer (some p)) : Yl P ⟨d, .binOp .eql t x y t2, ty, pos, aft, g⟩ e w (.bool true) := by
  obtain ⟨j, hte⟩ := Option.isSome_iff_exists.1 hte
  have hq : eqGuard .eql t x y (.pointer (some p)) (.pointer (some p)) = pure () := eqGuard_at_pointer ..
  simp [Yl, execOp, hx, hy, hq, run_eql_ptr_same w p ht hte]
theorem Y_nePP {te : TypeId} {p : Addr} (ht : P.underlying t = some (.pointer te)) (hte : (P.info? te).isSome = true) (hx : ev e x = .pointer (some p)) (hy : ev e y = .pointer (some p)) : Yl P ⟨d, .binOp .neq t x y t2, ty, pos, aft, g⟩ e w (.bool false) := by
  obtain ⟨j, hte⟩ := Option.isSome_iff_exists.1 hte
  have hq : eqGuard .neq t x y (.pointer (some p)) (.pointer (some p)) = pure () := eqGuard_at_pointer ..
  have h : ∀ d : Nat, (Op.equalIn (d + 1) t (.pointer (some p)) (.pointer (some p))).run P w = .ok true w := fun d => by
    simp [Op.equalIn, run_underlying ht, sizeOf, typeInfo, hte, run_sameAddr_same]
  simp [Yl, execOp, hx, hy, hq, binOp, Op.equal, Op.maxDepth, h 9999]
theorem Y_eqSn (ht : P.underlying t = some (.slice et)) (hx : ev e x = .slice a m c) (hy : ev e y = .slice none 0 0) : Yl P ⟨d, .binOp .eql t x y t2, ty, pos, aft, g⟩ e w (.bool a.isNone) := by
  have hq : eqGuard .eql t x y (.slice a m c) (.slice none 0 0) = pure () := eqGuard_at_slice ..
  have h : ∀ d : Nat, (Op.equalIn (d + 1) t (.slice a m c) (.slice none 0 0)).run P w = .ok a.isNone w := fun d => by
    cases a <;> simp [Op.equalIn, run_underlying ht]
  simp [Yl, execOp, hx, hy, hq, binOp, Op.equal, Op.maxDepth, h 9999]
theorem Sl.isNone (h : Sl w k a m c l) (hn : a.isNone = true) : a = none ∧ m = 0 ∧ c = 0 ∧ l = [] := by
  have h1 : a = none := by simpa using hn
  have h2 := h.non h1
  have h3 := h.cap
  have h4 : m = 0 := by omega
  exact ⟨h1, h4, h2, List.eq_nil_of_length_eq_zero (h.len.trans h4)⟩
/-- Texts that differ. -/
theorem Y_neT {l1 l2 : List Nat} (hu : P.underlying t = some .string) (h1 : ∀ u ∈ l1, u < 256) (h2 : ∀ u ∈ l2, u < 256) (hx : ev e x = .string (bs l1)) (hy : ev e y = .string (bs l2)) :
    Yl P ⟨d, .binOp .neq t x y t2, ty, pos, aft, g⟩ e w (.bool (!decide (l1 = l2))) := by
  have hq : eqGuard .neq t x y (.string (bs l1)) (.string (bs l2)) = pure () := by simp [eqGuard]
  simp [Yl, execOp, hx, hy, hq, binOp_string_neq, bs_inj h1 h2, bne]
/-- min. -/
theorem Y_min {k' : IntKind} {a b : Int} {ts : Array TypeId} (hx : ev e x = .int k a) (hy : ev e y = .int k' b) : Yl P ⟨d, .call { callee := .builtin .min, args := #[x, y], argTypes := ts }, ty, pos, aft, g⟩ e w (.int k (if b < a then b else a)) := by
  simp [Yl, execOp, resolve, invoke, builtin, hx, hy, run_min_int2]
end
end Go.Ev
