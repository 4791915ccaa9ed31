/- Layer 22 (journal): lines of records, torn or whole. -/
import Derived.Test.YtgmmifpflllkfaaJournMath
import Derived.Test.YtgmmifpflllkfaaBackMath
namespace Go.Jn
/-- What may be a record. -/
def may (x : List Nat) : Prop := x.length ≠ 0 ∧ x.length ≤ 60000
/-- Records' bytes, one behind the other. -/
def lines (L : List (List Nat)) : List Nat := (L.map form).flatten
theorem lines_snoc (L : List (List Nat)) (x : List Nat) : lines (L ++ [x]) = lines L ++ form x := by simp [lines]
theorem lines_append (A B : List (List Nat)) : lines (A ++ B) = lines A ++ lines B := by simp [lines]
theorem lines_lt {L : List (List Nat)} (h : ∀ x ∈ L, ∀ u ∈ x, u < 256) : ∀ u ∈ lines L, u < 256 := by
  intro u hu
  obtain ⟨y, hy, h1⟩ := List.mem_flatten.1 hu
  obtain ⟨x, hx, rfl⟩ := List.mem_map.1 hy
  exact form_lt (h x hx) u h1
theorem num_form (A B : List Nat) {x : List Nat} (h : x.length ≤ 60000) : num (A ++ (form x ++ B)) A.length = x.length := by
  unfold num form
  rw [List.drop_left, List.append_assoc, List.append_assoc, List.take_left' (by rw [Pk.digs_len])]
  exact Pk.val_all (by omega) (by omega)
theorem rec_form (A B : List Nat) {x : List Nat} (h : x.length ≤ 60000) : rec_ (A ++ (form x ++ B)) A.length = x := by
  unfold rec_
  rw [num_form A B h]
  have e : A ++ (form x ++ B) = (A ++ (Pk.digs x.length 4 ++ sum4 x)) ++ (x ++ B) := by simp [form, List.append_assoc]
  rw [e, List.drop_left' (by rw [List.length_append, List.length_append, Pk.digs_len, sum4_len]), List.take_left' rfl]
theorem told_form (A B : List Nat) (x : List Nat) : told (A ++ (form x ++ B)) A.length = sum4 x := by
  unfold told
  have e : A ++ (form x ++ B) = (A ++ Pk.digs x.length 4) ++ (sum4 x ++ (x ++ B)) := by simp [form, List.append_assoc]
  rw [e, List.drop_left' (by rw [List.length_append, Pk.digs_len]), List.take_left' (sum4_len x)]
theorem is_form (A B : List Nat) {x : List Nat} (h : may x) : isRec (A ++ (form x ++ B)) A.length := by
  have hl : (A ++ (form x ++ B)).length = A.length + (x.length + 8) + B.length := by rw [List.length_append, List.length_append, form_len]; omega
  unfold isRec
  rw [num_form A B h.2, rec_form A B h.2, told_form, hl]
  exact ⟨by omega, h.1, h.2, by omega, rfl⟩
/-- What is no record: fewer bytes than one's. -/
theorem not_torn (A : List Nat) {x : List Nat} (h : may x) {k : Nat} (hk : k < x.length + 8) : ¬ isRec (A ++ (form x).take k) A.length := by
  intro hr
  have h8 := hr.1
  have hn := hr.2.2.2.1
  have hl : (A ++ (form x).take k).length = A.length + k := by rw [List.length_append, List.length_take, form_len]; omega
  rw [hl] at h8 hn
  have : num (A ++ (form x).take k) A.length = x.length := by
    have e := num_form A [] h.2
    rw [List.append_nil] at e
    rw [← e]
    unfold num
    rw [List.drop_left, List.drop_left, List.take_take, Nat.min_eq_left (by omega)]
  omega
theorem not_end (A : List Nat) : ¬ isRec A A.length := fun hr => by have := hr.1; omega
theorem Rd_lines {L : List (List Nat)} (t : List Nat) (h : ∀ x ∈ L, may x) : Rd (lines L ++ t) L (lines L).length := by
  have key : ∀ k, k ≤ L.length → Rd (lines L ++ t) (L.take k) (lines (L.take k)).length := by
    intro k
    induction k with
    | zero => intro _; exact .nil
    | succ k ih =>
      intro hk
      have hlt : k < L.length := by omega
      have e1 : L.take (k + 1) = L.take k ++ [L[k]] := by rw [List.take_add_one, List.getElem?_eq_getElem hlt]; rfl
      have e2 : lines L ++ t = lines (L.take k) ++ (form L[k] ++ (lines (L.drop (k + 1)) ++ t)) := by
        have : L = L.take k ++ ([L[k]] ++ L.drop (k + 1)) := by rw [← List.append_assoc, ← e1, List.take_append_drop]
        conv => lhs; rw [this]
        rw [lines_append, lines_append]
        simp [lines, List.append_assoc]
      have hm := h L[k] (List.getElem_mem hlt)
      have hi := ih (by omega)
      have h1 : isRec (lines L ++ t) (lines (L.take k)).length := by rw [e2]; exact is_form _ _ hm
      have h2 : rec_ (lines L ++ t) (lines (L.take k)).length = L[k] := by rw [e2]; exact rec_form _ _ hm.2
      have h3 : num (lines L ++ t) (lines (L.take k)).length = L[k].length := by rw [e2]; exact num_form _ _ hm.2
      have h4 := Rd.snoc hi h1
      rw [h2, h3] at h4
      rw [e1, lines_snoc, List.length_append, form_len]
      rw [show (lines (L.take k)).length + (L[k].length + 8) = (lines (L.take k)).length + 8 + L[k].length by omega]
      exact h4
  have := key L.length (Nat.le_refl _)
  rwa [List.take_of_length_le (Nat.le_refl _)] at this
/-- What stands behind the last record: nothing, or some of a record's bytes. -/
def torn (t : List Nat) : Prop := t = [] ∨ ∃ x k, may x ∧ k < x.length + 8 ∧ t = (form x).take k
theorem read_lines {L : List (List Nat)} {t : List Nat} (h : ∀ x ∈ L, may x) (ht : torn t) : read (lines L ++ t) = (L, (lines L).length) := by
  refine End.read ⟨Rd_lines t h, ?_⟩
  rcases ht with rfl | ⟨x, k, hx, hk, rfl⟩
  · rw [List.append_nil]; exact not_end _
  · exact not_torn _ hx hk
/-! What is known -/
def e0 : Dk.D := (opens Dk.new).2
def e1 : Dk.D := (add e0 [97]).2
def e2 : Dk.D := (Dk.arm e1 7).2
def e3 : Dk.D := (add e2 [98]).2
def e4 : Dk.D := (Dk.restart e3).2
def e5 : Dk.D := (opens e4).2
theorem opens_new : opens Dk.new = (0, Dk.new) := by
  have h : read ([] : List Nat) = ([], 0) := rfl
  unfold opens
  rw [if_neg (by simp [Dk.new]), show Dk.new.l = [] from rfl, h]
  rfl
theorem e0_is : e0 = Dk.new := by rw [e0, opens_new]
theorem add_97 : add e0 [97] = (0, ⟨form [97], 0, false, false⟩) := by
  rw [e0_is]
  have h9 : (form [97]).length = 9 := form_len _
  unfold add Dk.add
  rw [if_neg (by decide), if_neg (by decide), if_neg (by simp [Dk.new]), if_neg (by rw [h9]; simp [Dk.new])]
  simp [Dk.through, Dk.new, Dk.ready]
theorem e1_is : e1 = ⟨form [97], 0, false, false⟩ := by rw [e1, add_97]
theorem arm_7 : Dk.arm e1 ((7 : Nat) : Int) = (0, ⟨form [97], 7, true, false⟩) := by rw [e1_is]; rfl
theorem e2_is : e2 = ⟨form [97], 7, true, false⟩ := by rw [e2]; exact congrArg Prod.snd arm_7
theorem add_98 : add e2 [98] = (210, ⟨form [97] ++ (form [98]).take 7, 0, false, true⟩) := by
  rw [e2_is]
  have h9 : (form [97]).length = 9 := form_len _
  have h8 : (form [98]).length = 9 := form_len _
  unfold add Dk.add
  rw [if_neg (by decide), if_neg (by decide), if_neg (by simp), if_neg (by rw [h8]; simp only; rw [h9]; omega)]
  simp [Dk.through, Dk.ready, h8]
theorem e3_is : e3 = ⟨form [97] ++ (form [98]).take 7, 0, false, true⟩ := by rw [e3, add_98]
theorem e4_is : e4 = ⟨form [97] ++ (form [98]).take 7, 0, false, false⟩ := by rw [e4, e3_is]; rfl
theorem read_e4 : read e4.l = ([[97]], 9) := by
  have h := read_lines (L := [[97]]) (t := (form [98]).take 7) (by intro x hx; rw [List.mem_singleton.1 hx]; exact ⟨by decide, by decide⟩) (.inr ⟨[98], 7, ⟨by decide, by decide⟩, by decide, rfl⟩)
  have h9 : (form [97]).length = 9 := form_len _
  rw [show lines [[97]] = form [97] by simp [lines], h9] at h
  rw [e4_is]
  exact h
theorem opens_e4 : opens e4 = (0, ⟨form [97], 0, false, false⟩) := by
  have h9 : (form [97]).length = 9 := form_len _
  have h8 : (form [98]).length = 9 := form_len _
  unfold opens
  rw [read_e4, e4_is]
  rw [if_neg (by simp), if_pos (by simp only [List.length_append, List.length_take, h9, h8]; decide)]
  unfold Dk.cut
  rw [if_neg (by simp), if_neg (by simp only [List.length_append, List.length_take, h9, h8]; decide)]
  simp only [Dk.through, Dk.ready]
  rw [List.take_left' (by rw [h9]; rfl)]
  rfl
theorem e5_len : e5.l.length = 9 := by
  rw [e5, opens_e4]
  exact form_len _
theorem lt97 : ∀ u ∈ [97], u < 256 := by decide
theorem lt98 : ∀ u ∈ [98], u < 256 := by decide
theorem e0_ok : Dk.ok e0 := opens_ok Dk.new_ok
theorem e1_ok : Dk.ok e1 := add_ok e0_ok lt97
theorem e2_ok : Dk.ok e2 := Dk.arm_ok e1_ok (by decide) (by decide)
theorem e3_ok : Dk.ok e3 := add_ok e2_ok lt98
theorem e4_ok : Dk.ok e4 := Dk.restart_ok e3_ok
theorem e5_ok : Dk.ok e5 := opens_ok e4_ok
theorem at_one : at_ [[97]] ((0 : Nat) : Int) = [97] := rfl
theorem rcode_one : rcode [[97]] ((0 : Nat) : Int) = 0 := rfl
theorem kadd1 : (add e0 [97]).1 = 0 := by rw [add_97]
theorem karm : (Dk.arm e1 ((7 : Nat) : Int)).1 = 0 := by rw [arm_7]
theorem kadd2 : (add e2 [98]).1 = 210 := by rw [add_98]
theorem kre : (Dk.restart e3).1 = 0 := rfl
theorem kop0 : (opens Dk.new).1 = 0 := by rw [opens_new]
theorem kop1 : (opens e4).1 = 0 := by rw [opens_e4]
theorem kread0 : (read Dk.new.l).1 = [] := rfl
theorem kread1 : (read e4.l).1 = [[97]] := by rw [read_e4]
end Go.Jn
