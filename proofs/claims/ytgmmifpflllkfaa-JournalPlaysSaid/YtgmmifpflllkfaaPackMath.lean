/- Layer 17 (pack), in plain numbers. -/
namespace Go.Pk
def digs (n s : Nat) : List Nat := (List.range s).map fun j => n / 2 ^ (8 * (s - 1 - j)) % 256
def num (l : List Nat) (e n : Nat) (s : Int) : List Nat × Nat :=
  if e ≠ 0 then (l, e) else if s < 1 ∨ 8 < s then (l, 2) else if s < 8 ∧ n / 2 ^ (8 * s.toNat) ≠ 0 then (l, 6) else (l ++ digs n s.toNat, 0)
def raw (l : List Nat) (e : Nat) (b : List Nat) : List Nat × Nat := if e ≠ 0 then (l, e) else (l ++ b, 0)
def text (l : List Nat) (e : Nat) (b : List Nat) : List Nat × Nat :=
  if e ≠ 0 then (l, e) else if 60000 < b.length then (l, 3) else (l ++ digs b.length 2 ++ b, 0)
theorem digs_len (n s : Nat) : (digs n s).length = s := by simp [digs]
theorem digs_lt (n s : Nat) : ∀ u ∈ digs n s, u < 256 := fun u hu => by
  obtain ⟨j, _, rfl⟩ := List.mem_map.1 hu
  exact Nat.mod_lt _ (by decide)
theorem num_lt {l : List Nat} {e n : Nat} {s : Int} (h : ∀ u ∈ l, u < 256) : ∀ u ∈ (num l e n s).1, u < 256 := by
  unfold num
  split
  · exact h
  · split
    · exact h
    · split
      · exact h
      · intro u hu
        rcases List.mem_append.1 hu with h1 | h1
        · exact h u h1
        · exact digs_lt _ _ u h1
theorem raw_lt {l b : List Nat} {e : Nat} (h : ∀ u ∈ l, u < 256) (hb : ∀ u ∈ b, u < 256) : ∀ u ∈ (raw l e b).1, u < 256 := by
  unfold raw
  split
  · exact h
  · intro u hu
    rcases List.mem_append.1 hu with h1 | h1
    · exact h u h1
    · exact hb u h1
theorem text_lt {l b : List Nat} {e : Nat} (h : ∀ u ∈ l, u < 256) (hb : ∀ u ∈ b, u < 256) : ∀ u ∈ (text l e b).1, u < 256 := by
  unfold text
  split
  · exact h
  · split
    · exact h
    · intro u hu
      rcases List.mem_append.1 hu with h1 | h1
      · rcases List.mem_append.1 h1 with h1 | h1
        · exact h u h1
        · exact digs_lt _ _ u h1
      · exact hb u h1
theorem num_len {l : List Nat} {e n : Nat} {s : Int} : (num l e n s).1.length ≤ l.length + 8 := by
  unfold num
  split
  · simp
  · split
    · simp
    · split
      · simp
      · rw [List.length_append, digs_len]; omega
theorem raw_len {l b : List Nat} {e : Nat} : (raw l e b).1.length ≤ l.length + b.length := by
  unfold raw
  split
  · simp
  · simp
theorem text_len {l b : List Nat} {e : Nat} : (text l e b).1.length ≤ l.length + 2 + b.length := by
  unfold text
  split
  · simp; omega
  · split
    · simp; omega
    · simp [digs_len]; omega
theorem and16 {m : Nat} (h : m ≤ 60000) : m &&& 65535 = m := by
  rw [show (65535 : Nat) = 2 ^ 16 - 1 from rfl, Nat.and_two_pow_sub_one_eq_mod]
  exact Nat.mod_eq_of_lt (by omega)
theorem num2 {l : List Nat} {m : Nat} (h : m ≤ 60000) : num l 0 m ((2 : Nat) : Int) = (l ++ digs m 2, 0) := by
  have h1 : m / 2 ^ (8 * 2) = 0 := Nat.div_eq_of_lt (by omega)
  simp [num, h1]
theorem wtext {l b : List Nat} {e e' m x : Nat} (hb : b.length = m) (hx : x = m &&& 65535) (he : (e ≠ 0 ∧ e' = e) ∨ (e = 0 ∧ 60000 < m ∧ e' = 3) ∨ (e = 0 ∧ m ≤ 60000 ∧ e' = 0)) :
    text l e b = ((raw (num l e' x ((2 : Nat) : Int)).1 (num l e' x ((2 : Nat) : Int)).2 b).1, (raw (num l e' x ((2 : Nat) : Int)).1 (num l e' x ((2 : Nat) : Int)).2 b).2) := by
  rcases he with ⟨h1, rfl⟩ | ⟨rfl, h2, rfl⟩ | ⟨rfl, h2, rfl⟩
  · simp [text, num, raw, h1]
  · simp [text, num, raw, hb, h2]
  · rw [and16 h2] at hx
    subst hx
    rw [num2 h2]
    simp [text, raw, hb, Nat.not_lt.2 h2]
theorem rtext {l b : List Nat} {m : Nat} (hb : b.length = m) (h2 : m ≤ 60000) :
    text l 0 b = ((raw (num l 0 m ((2 : Nat) : Int)).1 (num l 0 m ((2 : Nat) : Int)).2 b).1, (raw (num l 0 m ((2 : Nat) : Int)).1 (num l 0 m ((2 : Nat) : Int)).2 b).2) := by
  rw [num2 h2]
  simp [text, raw, hb, Nat.not_lt.2 h2]
def told (l : List Nat) (e : Nat) : List Nat := if e = 0 then l else []
theorem told_lt {l : List Nat} {e : Nat} (h : ∀ u ∈ l, u < 256) : ∀ u ∈ told l e, u < 256 := by
  unfold told
  split
  · exact h
  · simp
theorem told_len {l : List Nat} {e : Nat} : (told l e).length ≤ l.length := by
  unfold told
  split
  · exact Nat.le_refl _
  · exact Nat.zero_le _
end Go.Pk
