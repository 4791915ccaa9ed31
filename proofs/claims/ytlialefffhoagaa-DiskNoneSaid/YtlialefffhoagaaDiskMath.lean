/- Layer 21 (disk), in plain numbers. -/
namespace Go.Dk
structure D where
  l : List Nat
  left : Int
  armed : Bool
  off : Bool
/-- What always holds. -/
structure ok (d : D) : Prop where
  len : d.l.length ≤ 16777216
  lt : ∀ u ∈ d.l, u < 256
  pos : d.armed = true → 0 ≤ d.left
  lo : -9223372036854775808 ≤ d.left
  hi : d.left ≤ 9223372036854775807
def new : D := ⟨[], 0, false, false⟩
theorem new_ok : ok new := ⟨by simp [new], by simp [new], by simp [new], by simp [new], by simp [new]⟩
def through (d : D) (n : Nat) : Nat × D :=
  if d.armed = true then (min n d.left.toNat, ⟨d.l, d.left - (min n d.left.toNat : Nat), !decide (min n d.left.toNat < n), d.off || decide (min n d.left.toNat < n)⟩) else (n, d)
theorem through_le (d : D) (n : Nat) : (through d n).1 ≤ n := by
  unfold through
  split
  · exact Nat.min_le_left _ _
  · exact Nat.le_refl _
theorem through_l (d : D) (n : Nat) : (through d n).2.l = d.l := by
  unfold through
  split <;> rfl
theorem through_ok {d : D} (h : ok d) (n : Nat) : ok (through d n).2 := by
  unfold through
  split
  · rename_i ha
    have hp := h.pos ha
    have h1 := h.lo
    have h2 := h.hi
    have h3 : min n d.left.toNat ≤ d.left.toNat := Nat.min_le_right _ _
    refine ⟨h.len, h.lt, fun _ => ?_, ?_, ?_⟩
    · show 0 ≤ d.left - (min n d.left.toNat : Nat); omega
    · show _ ≤ d.left - (min n d.left.toNat : Nat); omega
    · show d.left - (min n d.left.toNat : Nat) ≤ _; omega
  · exact h
def ready (d : D) : Nat := if d.off = true then 210 else 0
theorem off_of {d : D} (h : ready d ≠ 0) : d.off = true := by
  unfold ready at h
  split at h
  · assumption
  · exact absurd rfl h
theorem on_of {d : D} (h : ready d = 0) : ¬ d.off = true := fun h2 => by simp [ready, h2] at h
def add (d : D) (b : List Nat) : Nat × D :=
  if d.off = true then (210, d) else if 16777216 < d.l.length + b.length then (9, d)
  else (ready (through d b.length).2, ⟨d.l ++ b.take (through d b.length).1, (through d b.length).2.left, (through d b.length).2.armed, (through d b.length).2.off⟩)
theorem add_ok {d : D} {b : List Nat} (h : ok d) (hb : ∀ u ∈ b, u < 256) : ok (add d b).2 := by
  unfold add
  split
  · exact h
  · split
    · exact h
    · rename_i h2
      have ht := through_ok h b.length
      refine ⟨?_, ?_, ht.pos, ht.lo, ht.hi⟩
      · show (d.l ++ b.take _).length ≤ _
        rw [List.length_append, List.length_take]
        have := Nat.min_le_right (through d b.length).1 b.length
        omega
      · intro u hu
        rcases List.mem_append.1 hu with h3 | h3
        · exact h.lt u h3
        · exact hb u (List.mem_of_mem_take h3)
def cut (d : D) (n : Int) : Nat × D :=
  if d.off = true then (210, d) else if n < 0 ∨ (d.l.length : Int) < n then (2, d)
  else (ready (through d 1).2, ⟨if (through d 1).1 = 1 then d.l.take n.toNat else d.l, (through d 1).2.left, (through d 1).2.armed, (through d 1).2.off⟩)
theorem cut_ok {d : D} {n : Int} (h : ok d) : ok (cut d n).2 := by
  unfold cut
  split
  · exact h
  · split
    · exact h
    · have ht := through_ok h 1
      refine ⟨?_, ?_, ht.pos, ht.lo, ht.hi⟩
      · show (if _ then _ else _ : List Nat).length ≤ _
        have := h.len
        split
        · rw [List.length_take]; omega
        · exact this
      · intro u hu
        have hu' : u ∈ (if (through d 1).1 = 1 then d.l.take n.toNat else d.l) := hu
        split at hu'
        · exact h.lt u (List.mem_of_mem_take hu')
        · exact h.lt u hu'
def arm (d : D) (n : Int) : Nat × D :=
  if d.off = true then (210, d) else if n < -1 then (2, d) else (0, ⟨d.l, n, decide (0 ≤ n), d.off⟩)
theorem arm_ok {d : D} {n : Int} (h : ok d) (h1 : -9223372036854775808 ≤ n) (h2 : n ≤ 9223372036854775807) : ok (arm d n).2 := by
  unfold arm
  split
  · exact h
  · split
    · exact h
    · exact ⟨h.len, h.lt, fun h3 => of_decide_eq_true h3, h1, h2⟩
def restart (d : D) : Nat × D := (0, ⟨d.l, d.left, false, false⟩)
theorem restart_ok {d : D} (h : ok d) : ok (restart d).2 := ⟨h.len, h.lt, (fun h' => by cases h'), h.lo, h.hi⟩
def told (d : D) : List Nat := if d.off = true then [] else d.l
theorem told_lt {d : D} (h : ok d) : ∀ u ∈ told d, u < 256 := by
  unfold told
  split
  · simp
  · exact h.lt
theorem told_len {d : D} (h : ok d) : (told d).length ≤ 16777216 := by
  unfold told
  split
  · simp
  · exact h.len
theorem add_off {d : D} {b : List Nat} (h : d.off = true) : add d b = (ready d, ⟨d.l, d.left, d.armed, d.off⟩) := by rw [add, if_pos h, ready, if_pos h]
theorem cut_off {d : D} {n : Int} (h : d.off = true) : cut d n = (ready d, ⟨d.l, d.left, d.armed, d.off⟩) := by rw [cut, if_pos h, ready, if_pos h]
theorem arm_off {d : D} {n : Int} (h : d.off = true) : arm d n = (ready d, ⟨d.l, d.left, d.armed, d.off⟩) := by rw [arm, if_pos h, ready, if_pos h]
/-- The reference's step. -/
def step (d : D) : Bool × D :=
  if d.armed = true ∧ d.left = 0 then (false, ⟨d.l, d.left, false, true⟩) else if d.armed = true then (true, ⟨d.l, d.left - 1, d.armed, d.off⟩) else (true, d)
theorem step_through {d : D} (h : ok d) : step d = (decide ((through d 1).1 = 1), (through d 1).2) := by
  unfold step through
  by_cases ha : d.armed = true
  · have hp := h.pos ha
    by_cases h0 : d.left = 0
    · simp [ha, h0]
    · have h1 : 1 ≤ d.left.toNat := by omega
      have h2 : min 1 d.left.toNat = 1 := Nat.min_eq_left h1
      simp [ha, h0, h2]
  · simp [ha]
end Go.Dk
