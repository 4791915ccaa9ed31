/- Layer 22 (journal): lines of records on a disk. -/
import Derived.Test.YtgmmifpflllkfaaJournMath3
namespace Go.Jn
open Go.Ev
theorem dof_l (X : List Nat) : (dof X).l = X := rfl
theorem add_dof {X x : List Nat} (hx : may x) (h : X.length + x.length + 8 ≤ 16777216) : add (dof X) x = (0, dof (X ++ form x)) := by
  have hl := form_len x
  unfold add Dk.add
  rw [if_neg hx.1, if_neg (by have := hx.2; omega), if_neg (by simp [dof]), if_neg (by rw [dof_l]; omega)]
  simp [Dk.through, dof, Dk.ready]
theorem read_whole {L : List (List Nat)} (h : ∀ x ∈ L, may x) : read (lines L) = (L, (lines L).length) := by
  have := read_lines (t := []) h (.inl rfl)
  rwa [List.append_nil] at this
theorem opens_lines {L : List (List Nat)} (h : ∀ x ∈ L, may x) : opens (dof (lines L)) = (0, dof (lines L)) := by
  rw [opens_dof, read_whole h, List.take_of_length_le (Nat.le_refl _)]
theorem lines_le {B : Nat} : ∀ {L : List (List Nat)}, (∀ x ∈ L, x.length ≤ B) → (lines L).length ≤ L.length * (B + 8)
  | [], _ => Nat.zero_le _
  | x :: r, h => by
    have h1 := h x List.mem_cons_self
    have h2 := lines_le (B := B) (L := r) fun y hy => h y (List.mem_cons_of_mem _ hy)
    rw [show lines (x :: r) = form x ++ lines r by simp [lines], List.length_append, form_len, List.length_cons, Nat.succ_mul]
    omega
theorem lines_cons (x : List Nat) (r : List (List Nat)) : lines (x :: r) = form x ++ lines r := by simp [lines]
theorem lines_take_le (L : List (List Nat)) (i : Nat) : (lines (L.take i)).length ≤ (lines L).length := by
  have : L = L.take i ++ L.drop i := (List.take_append_drop i L).symm
  conv => rhs; rw [this, lines_append, List.length_append]
  omega
/-- Records' bytes, cut. -/
theorem cut_lines {L : List (List Nat)} {n k : Nat} (h : ∀ x ∈ L, may x) (hk : k ≤ L.length) (hn : n ≤ (lines L).length) (h1 : (lines (L.take k)).length ≤ n) (h2 : k < L.length → n < (lines (L.take (k + 1))).length) :
    ∃ t, (lines L).take n = lines (L.take k) ++ t ∧ torn t ∧ t.length = n - (lines (L.take k)).length := by
  have e : lines L = lines (L.take k) ++ lines (L.drop k) := by rw [← lines_append, List.take_append_drop]
  have hd : (lines L).length = (lines (L.take k)).length + (lines (L.drop k)).length := by rw [e, List.length_append]
  refine ⟨(lines (L.drop k)).take (n - (lines (L.take k)).length), ?_, ?_, by rw [List.length_take]; omega⟩
  · conv => lhs; rw [e]
    rw [List.take_append, List.take_of_length_le h1]
  · rcases Nat.lt_or_ge k L.length with hlt | hge
    · right
      refine ⟨L[k], n - (lines (L.take k)).length, h _ (List.getElem_mem hlt), ?_, ?_⟩
      · have h3 := h2 hlt
        rw [List.take_add_one, List.getElem?_eq_getElem hlt, Option.toList_some, lines_snoc, List.length_append, form_len] at h3
        omega
      · rw [List.drop_eq_getElem_cons hlt, lines_cons, List.take_append_of_le_length]
        have h3 := h2 hlt
        rw [List.take_add_one, List.getElem?_eq_getElem hlt, Option.toList_some, lines_snoc, List.length_append] at h3
        omega
    · left
      rw [List.drop_of_length_le hge]
      simp [lines]
/-- A disk whose power goes at once. -/
def armed (X : List Nat) : Dk.D := ⟨X, 0, true, false⟩
theorem arm_dof (X : List Nat) : Dk.arm (dof X) ((0 : Nat) : Int) = (0, armed X) := rfl
theorem opens_armed (X : List Nat) : opens (armed X) = if (read X).2 < X.length then (210, ⟨X, 0, false, true⟩) else (0, armed X) := by
  have h := (read_end X).1.le
  unfold opens
  rw [if_neg (by simp [armed])]
  show (if (read X).2 < X.length then _ else _) = _
  split
  · unfold Dk.cut
    rw [if_neg (by simp [armed]), if_neg (by show ¬ ((((read X).2 : Nat) : Int) < 0 ∨ (X.length : Int) < (((read X).2 : Nat) : Int)); omega)]
    simp [Dk.through, Dk.ready, armed]
  · rfl
theorem restart_armed (X : List Nat) : (Dk.restart (opens (armed X)).2).2 = dof X := by
  rw [opens_armed]
  split <;> rfl
/-- Where the first records end. -/
def ends (L : List (List Nat)) (i : Nat) : List Nat := (List.range i).map fun j => (lines (L.take (j + 1))).length
theorem ends_snoc {L : List (List Nat)} {i : Nat} {x : List Nat} (h : L[i]? = some x) : ends L (i + 1) = ends L i ++ [(lines (L.take i)).length + (form x).length] := by
  unfold ends
  rw [List.range_succ, List.map_append]
  congr 1
  rw [List.map_singleton, List.take_add_one, h, Option.toList_some, lines_snoc, List.length_append]
theorem ends_get {L : List (List Nat)} {E : List Nat} {i j x : Nat} (hE : E = ends L i) (h : E[j]? = some x) : x = (lines (L.take (j + 1))).length := by
  subst hE
  unfold ends at h
  rw [List.getElem?_map] at h
  obtain ⟨k, hk, rfl⟩ := Option.map_eq_some_iff.1 h
  obtain ⟨h1, h2⟩ := List.getElem?_eq_some_iff.1 hk
  rw [List.getElem_range] at h2
  rw [h2]
theorem ends_len (L : List (List Nat)) (i : Nat) : (ends L i).length = i := by simp [ends]
theorem take_snoc {L : List (List Nat)} {i : Nat} {x : List Nat} (h : L[i]? = some x) : L.take (i + 1) = L.take i ++ [x] := by
  rw [List.take_add_one, h]; rfl
theorem opens_torn {X : List Nat} {L : List (List Nat)} {p : Nat} (h : read X = (L, p)) (hp : p < X.length) : (opens (armed X)).1 = 210 := by rw [opens_armed, h, if_pos hp]
theorem opens_full {X : List Nat} {L : List (List Nat)} {p : Nat} (h : read X = (L, p)) (hp : ¬ p < X.length) : (opens (armed X)).1 = 0 := by rw [opens_armed, h, if_neg hp]
theorem restart_code (d : Dk.D) : (Dk.restart d).1 = 0 := rfl
theorem lines_nil : lines [] = [] := rfl
theorem ends_nil {L : List (List Nat)} : ends L 0 = [] := rfl
end Go.Jn
