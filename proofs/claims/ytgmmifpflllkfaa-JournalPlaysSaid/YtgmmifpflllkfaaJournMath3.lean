/- Layer 22 (journal): what the statements ask. -/
import Derived.Test.YtgmmifpflllkfaaJournMath2
import Derived.Test.YtgmmifpflllkfaaV23
namespace Go.Jn
open Go.Ev
theorem digs4 (n : Nat) : Pk.digs n 4 = [n / 2 ^ 24 % 256, n / 2 ^ 16 % 256, n / 2 ^ 8 % 256, n % 256] := by
  simp [Pk.digs, List.range_succ]
theorem val4_lt {b : List Nat} (hb : ∀ u ∈ b, u < 256) (h : b.length ≤ 4) : Pk.val b < 4294967296 := by
  match b, h with
  | [], _ => decide
  | [x], _ => have := hb x (by simp); simp only [Pk.val, List.foldl_cons, List.foldl_nil]; omega
  | [x, y], _ => have := hb x (by simp); have := hb y (by simp); simp only [Pk.val, List.foldl_cons, List.foldl_nil]; omega
  | [x, y, z], _ => have := hb x (by simp); have := hb y (by simp); have := hb z (by simp); simp only [Pk.val, List.foldl_cons, List.foldl_nil]; omega
  | [x, y, z, u], _ => have := hb x (by simp); have := hb y (by simp); have := hb z (by simp); have := hb u (by simp); simp only [Pk.val, List.foldl_cons, List.foldl_nil]; omega
theorem num_lt {l : List Nat} (hl : ∀ u ∈ l, u < 256) (p : Nat) : num l p < 4294967296 :=
  val4_lt (fun u hu => hl u (List.mem_of_mem_drop (List.mem_of_mem_take hu))) (by rw [List.length_take]; omega)
theorem rec_len {l : List Nat} {p : Nat} (h : p + 8 + num l p ≤ l.length) : (rec_ l p).length = num l p := by
  rw [rec_, List.length_take, List.length_drop]; omega
/-- A row of slices within a slice of bytes. -/
def Cuts (w0 : World) (a : Option Addr) (m c : Nat) (l : List Nat) (K : List Lt) : Prop := ∀ Y, Seen w0 Y .u8 a m c l → ∀ x ∈ K, Seen w0 Y .u8 x.a x.l.length x.c x.l
theorem Cuts.nil {w0 : World} {a : Option Addr} {m c : Nat} {l : List Nat} : Cuts w0 a m c l [] := fun _ _ x hx => by simp at hx
theorem Cuts.snoc {w0 : World} {a : Option Addr} {m c : Nat} {l : List Nat} {K : List Lt} {x : Lt} (h : Cuts w0 a m c l K) (hx : ∀ Y, Seen w0 Y .u8 a m c l → Seen w0 Y .u8 x.a x.l.length x.c x.l) : Cuts w0 a m c l (K ++ [x]) := fun Y hY y hy => by
  rcases List.mem_append.1 hy with h1 | h1
  · exact h Y hY y h1
  · rw [List.mem_singleton.1 h1]; exact hx Y hY
theorem rec_seen {w0 : World} {a : Option Addr} {m c : Nat} {l : List Nat} {p : Nat} (hl : l.length = m) (h : p + 8 + num l p ≤ m) (Y : List Ent) (hY : Seen w0 Y .u8 a m c l) : Seen w0 Y .u8 (cutA a c (p + 8)) (rec_ l p).length (c - (p + 8)) (rec_ l p) := by
  have e1 : (rec_ l p).length = p + 8 + num l p - (p + 8) := by rw [rec_len (by omega)]; omega
  refine hY.map fun w hs => ?_
  have h1 := hs.mid (lo := p + 8) (hi := p + 8 + num l p) (by omega) h
  rw [← e1] at h1
  have e2 : (l.drop (p + 8)).take (rec_ l p).length = rec_ l p := by rw [rec_len (by omega)]; rfl
  rw [e2] at h1
  exact h1
theorem at77 {l : List Nat} {m : Nat} (h : l.length = m) : (l ++ [77])[m]? = some 77 := by
  rw [List.getElem?_append_right (by omega)]; simp [h]
theorem End.ok {l : List Nat} {L : List (List Nat)} {p : Nat} (h : End l L p) (hl : l.length ≤ 16777216) (hlt : ∀ u ∈ l, u < 256) : ok L := by
  have := read_ok hl hlt
  rwa [h.read] at this
theorem End.same {l : List Nat} {L L' : List (List Nat)} {p p' : Nat} (h : End l L p) (h' : End l L' p') : L = L' ∧ p = p' := by
  have h1 := h.read.symm.trans h'.read
  exact ⟨congrArg Prod.fst h1, congrArg Prod.snd h1⟩
/-- What may be spoiled. -/
def Sp (Q : List Lt) : Prop := ∀ x ∈ Q, (∀ u ∈ x.l, u < 256) ∧ x.l.length ≤ 60000
theorem ok.sp {Q : List Lt} (h : ok (keys Q)) : Sp Q := fun x hx => h.lt _ (keys_mem hx)
theorem Sp.set {Q : List Lt} {i : Nat} {x : Lt} (h : Sp Q) (hx : (∀ u ∈ x.l, u < 256) ∧ x.l.length ≤ 60000) : Sp (Q.set i x) := fun y hy => by
  rcases List.mem_or_eq_of_mem_set hy with h1 | rfl
  · exact h y h1
  · exact hx
theorem rows_same {Q : List Lt} {i : Nat} {x : Lt} {y : List Nat} (h : Q[i]? = some x) (hl : y.length = x.l.length) : rows Q = rows (Q.set i ⟨x.a, x.c, y⟩) := by
  have h1 : Q.set i x = Q := by
    obtain ⟨h2, rfl⟩ := List.getElem?_eq_some_iff.1 h
    exact List.set_getElem_self h2
  rw [← rows_bytes (l := x.l) (l' := y) hl.symm Q i]
  conv => lhs; rw [← h1]
/-! Opening -/
/-- A disk that holds bytes. -/
def dof (l : List Nat) : Dk.D := ⟨l, 0, false, false⟩
theorem dof_ok {l : List Nat} (h : l.length ≤ 16777216) (hlt : ∀ u ∈ l, u < 256) : Dk.ok (dof l) := ⟨h, hlt, (fun h' => by cases h'), by show (_ : Int) ≤ 0; decide, by show (0 : Int) ≤ _; decide⟩
theorem add_new {l : List Nat} (h : l.length ≤ 16777216) : Dk.add Dk.new l = (0, dof l) := by
  unfold Dk.add
  rw [if_neg (by simp [Dk.new]), if_neg (by simp [Dk.new]; omega)]
  simp [Dk.through, Dk.new, Dk.ready, dof]
theorem opens_dof (l : List Nat) : opens (dof l) = (0, dof (l.take (read l).2)) := by
  have h := (read_end l).1.le
  unfold opens
  rw [if_neg (by simp [dof])]
  show (if (read l).2 < l.length then _ else _) = _
  split
  · unfold Dk.cut
    rw [if_neg (by simp [dof]), if_neg (by show ¬ ((((read l).2 : Nat) : Int) < 0 ∨ (l.length : Int) < (((read l).2 : Nat) : Int)); omega)]
    simp [Dk.through, Dk.ready, dof]
  · rw [List.take_of_length_le (by omega)]
def f0 (l : List Nat) : Dk.D := (Dk.add Dk.new l).2
def f1 (l : List Nat) : Dk.D := (opens (f0 l)).2
section
variable {l : List Nat} (h : l.length ≤ 16777216)
include h
theorem f0_is : f0 l = dof l := by rw [f0, add_new h]
theorem f1_is : f1 l = dof (l.take (read l).2) := by rw [f1, f0_is h, opens_dof]
theorem f0_ok (hlt : ∀ u ∈ l, u < 256) : Dk.ok (f0 l) := by rw [f0_is h]; exact dof_ok h hlt
theorem f1_ok (hlt : ∀ u ∈ l, u < 256) : Dk.ok (f1 l) := opens_ok (f0_ok h hlt)
theorem f0_add : (Dk.add Dk.new l).1 = 0 := by rw [add_new h]
theorem f0_opens : (opens (f0 l)).1 = 0 := by rw [f0_is h, opens_dof]
theorem f0_l : (f0 l).l = l := by rw [f0_is h]; rfl
theorem f1_ready : Dk.ready (f1 l) = 0 := by rw [f1_is h]; rfl
theorem f1_told {L : List (List Nat)} {p : Nat} (hE : End l L p) : Dk.told (f1 l) = l.take p := by
  rw [f1_is h, hE.read]; rfl
end
theorem rcode_lt {L : List (List Nat)} {i : Nat} (h : i < L.length) : rcode L ((i : Nat) : Int) = 0 := if_pos ⟨by omega, by omega⟩
theorem rcode_ge {L : List (List Nat)} {i : Nat} (h : L.length ≤ i) : rcode L ((i : Nat) : Int) = 7 := if_neg (fun h' => by have := h'.2; omega)
theorem rcode_neg {L : List (List Nat)} : rcode L (-1) = 7 := if_neg (fun h' => by have := h'.1; omega)
def g0 : Dk.D := (Dk.arm Dk.new ((0 : Nat) : Int)).2
def g1 : Dk.D := (Dk.add g0 [120]).2
def g2 : Dk.D := (opens g1).2
theorem g0_ok : Dk.ok g0 := Dk.arm_ok Dk.new_ok (by decide) (by decide)
theorem g1_ok : Dk.ok g1 := Dk.add_ok g0_ok (by decide)
theorem g2_ok : Dk.ok g2 := opens_ok g1_ok
theorem g1_opens : (opens g1).1 = 210 := by rfl
end Go.Jn
