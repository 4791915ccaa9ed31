/- Layer 22 (journal): what befalls a journal. -/
import Derived.Test.YtgmmifpflllkfaaJournMath4
namespace Go.Jn
open Go.Ev
/-- What is asked. -/
structure Op where
  kind : Int
  n : Int
  y : Lt
deriving Inhabited
def Op.cells (x : Op) : List Value := [.int .i64 x.kind, .int .i64 x.n, .slice x.y.a x.y.l.length x.y.c]
structure Op.good (W : World) (x : Op) : Prop where
  sl : Sl W .u8 x.y.a x.y.l.length x.y.c x.y.l
  lt : ∀ u ∈ x.y.l, u < 256
  big : x.y.l.length ≤ 140737488351232
def sum (L : List Op) : Nat := (L.map (·.y.l.length)).sum
theorem sum_snoc {L : List Op} {i : Nat} {x : Op} (h : L[i]? = some x) : sum (L.take (i + 1)) = sum (L.take i) + x.y.l.length := by
  rw [List.take_add_one, h]
  simp [sum]
theorem sum_mem {L : List Op} {x : Op} (h : x ∈ L) : x.y.l.length ≤ sum L := by
  induction L with
  | nil => simp at h
  | cons y r ih =>
    have e : sum (y :: r) = y.y.l.length + sum r := by simp [sum]
    rw [e]
    rcases List.mem_cons.1 h with rfl | h
    · omega
    · have := ih h; omega
theorem sum_take (L : List Op) (i : Nat) : sum (L.take i) ≤ sum L := by
  have : L = L.take i ++ L.drop i := (List.take_append_drop i L).symm
  conv => rhs; rw [this]
  unfold sum
  rw [List.map_append, List.sum_append]
  exact Nat.le_add_right _ _
/-- A journal's disk, and the records that are sure. -/
structure Run (d : Dk.D) (L : List (List Nat)) (dn : Bool) (q : Nat) : Prop where
  ok : Dk.ok d
  mayL : ∀ x ∈ L, may x
  len : (lines L).length ≤ q
  off : d.off = dn
  st : ∃ t, torn t ∧ d.l = lines L ++ t ∧ (dn = false → t = [])
variable {d : Dk.D} {L : List (List Nat)} {dn : Bool} {q : Nat} {x : List Nat}
theorem Run.mono {q' : Nat} (h : Run d L dn q) (hq : q ≤ q') : Run d L dn q' := ⟨h.ok, h.mayL, Nat.le_trans h.len hq, h.off, h.st⟩
theorem Run.on (h : Run d L false q) : d.l = lines L := by
  obtain ⟨t, _, h2, h3⟩ := h.st
  rw [h3 rfl, List.append_nil] at h2
  exact h2
theorem Run.new : Run e0 [] false 0 := by
  refine ⟨e0_ok, by simp, by simp [lines], by rw [e0_is]; rfl, [], .inl rfl, by rw [e0_is]; rfl, fun _ => rfl⟩
theorem Run.new0 : Run Dk.new [] false 0 := ⟨Dk.new_ok, by simp, by simp [lines], rfl, [], .inl rfl, rfl, fun _ => rfl⟩
theorem addL0 {L : List (List Nat)} (h : (add d x).1 = 0) : addL d L x = L ++ [x] := if_pos h
theorem addLn {L : List (List Nat)} (h : (add d x).1 ≠ 0) : addL d L x = L := if_neg h
theorem add_zero (h : x.length = 0) : add d x = (2, d) := if_pos h
theorem add_long (h : 60000 < x.length) : add d x = (3, d) := by rw [add, if_neg (by omega), if_pos h]
theorem Run.add (h : Run d L false q) (hx : may x) (hq : q + x.length + 8 ≤ 16777216) (hlt : ∀ u ∈ x, u < 256) :
    ((add d x).1 = 0 ∧ Run (add d x).2 (L ++ [x]) false (q + x.length + 8)) ∨ ((add d x).1 = 210 ∧ Run (add d x).2 L true q) := by
  have hl := form_len x
  have hon := h.on
  have hlen := h.len
  have hok : Dk.ok (Jn.add d x).2 := add_ok h.ok hlt
  have e : Jn.add d x = (Dk.ready (Dk.through d (form x).length).2, ⟨d.l ++ (form x).take (Dk.through d (form x).length).1, (Dk.through d (form x).length).2.left, (Dk.through d (form x).length).2.armed, (Dk.through d (form x).length).2.off⟩) := by
    unfold Jn.add Dk.add
    rw [if_neg hx.1, if_neg (by have := hx.2; omega), if_neg (by rw [h.off]; simp), if_neg (by rw [hon]; omega)]
  rw [e] at hok ⊢
  have hoff := h.off
  by_cases ha : d.armed = true
  · by_cases hk : min (form x).length d.left.toNat < (form x).length
    · right
      refine ⟨by simp [Dk.ready, Dk.through, ha, hk], hok, h.mayL, hlen, by simp [Dk.through, ha, hk], (form x).take (min (form x).length d.left.toNat), .inr ⟨x, _, hx, by rw [← hl]; exact hk, rfl⟩, by simp [Dk.through, ha, hon], fun h => by cases h⟩
    · have hk2 : min (form x).length d.left.toNat = (form x).length := by
        have := Nat.min_le_left (form x).length d.left.toNat
        omega
      left
      refine ⟨by simp [Dk.ready, Dk.through, ha, hk, hoff], hok, ?_, ?_, by simp [Dk.through, ha, hk, hoff], [], .inl rfl, ?_, fun _ => rfl⟩
      · intro y hy
        rcases List.mem_append.1 hy with h1 | h1
        · exact h.mayL y h1
        · rw [List.mem_singleton.1 h1]; exact hx
      · rw [lines_snoc, List.length_append, hl]; omega
      · rw [lines_snoc, List.append_nil]
        simp only [Dk.through, ha, if_true, hk2, List.take_length, hon]
  · left
    refine ⟨by simp [Dk.ready, Dk.through, ha, hoff], hok, ?_, ?_, by simp [Dk.through, ha, hoff], [], .inl rfl, ?_, fun _ => rfl⟩
    · intro y hy
      rcases List.mem_append.1 hy with h1 | h1
      · exact h.mayL y h1
      · rw [List.mem_singleton.1 h1]; exact hx
    · rw [lines_snoc, List.length_append, hl]; omega
    · rw [lines_snoc, List.append_nil]
      simp [Dk.through, ha, hon]
theorem Run.arm {n : Nat} (h : Run d L false q) (hn : n < 100000) : (Dk.arm d ((n : Nat) : Int)).1 = 0 ∧ Run (Dk.arm d ((n : Nat) : Int)).2 L false q := by
  have e : Dk.arm d ((n : Nat) : Int) = (0, ⟨d.l, n, decide (0 ≤ ((n : Nat) : Int)), d.off⟩) := by
    unfold Dk.arm
    rw [if_neg (by rw [h.off]; simp), if_neg (by omega)]
  have hok := Dk.arm_ok (n := ((n : Nat) : Int)) h.ok (by omega) (by omega)
  rw [e] at hok ⊢
  exact ⟨rfl, hok, h.mayL, h.len, h.off, h.st⟩
theorem Run.read (h : Run d L dn q) : Jn.read d.l = (L, (lines L).length) := by
  obtain ⟨t, h1, h2, _⟩ := h.st
  rw [h2]
  exact read_lines h.mayL h1
theorem Run.opens (h : Run d L dn q) : (Jn.opens (Dk.restart d).2).1 = 0 ∧ Run (Jn.opens (Dk.restart d).2).2 L false q := by
  have hok : Dk.ok (Jn.opens (Dk.restart d).2).2 := opens_ok (Dk.restart_ok h.ok)
  obtain ⟨t, h1, h2, _⟩ := h.st
  have hr := h.read
  have e : Jn.opens (Dk.restart d).2 = (0, ⟨lines L, d.left, false, false⟩) := by
    unfold Jn.opens Dk.restart
    rw [if_neg (by simp)]
    show (if (Jn.read d.l).2 < d.l.length then _ else _) = _
    rw [hr]
    split
    · unfold Dk.cut
      rw [if_neg (by simp), if_neg (by show ¬ ((((lines L).length : Nat) : Int) < 0 ∨ (d.l.length : Int) < (((lines L).length : Nat) : Int)); rw [h2, List.length_append]; omega)]
      simp [Dk.through, Dk.ready, h2]
    · rename_i h3
      have h4 : t = [] := by
        rw [h2, List.length_append] at h3
        exact List.eq_nil_of_length_eq_zero (by simp only at h3; omega)
      rw [h2, h4, List.append_nil]
  rw [e] at hok ⊢
  exact ⟨rfl, hok, h.mayL, h.len, rfl, [], .inl rfl, (List.append_nil _).symm, fun _ => rfl⟩
theorem Run.opened (h : Run d L dn q) : (Jn.read (Dk.restart d).2.l).1 = L := by
  have := h.read
  show (Jn.read d.l).1 = L
  rw [this]
end Go.Jn
