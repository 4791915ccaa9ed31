/- Layer 21 (disk), in plain numbers. -/
namespace Go.Dk
structure D where
  l : List Nat
  left : Int
  armed : Bool
  off : Bool
/-- What always holds. -/
structure ok (d : D) : Prop where
  len : d.l.length ≤ 16777216
  lt : ∀ u ∈ d.l, u < 256
  pos : d.armed = true → 0 ≤ d.left
  lo : -9223372036854775808 ≤ d.left
  hi : d.left ≤ 9223372036854775807
def new : D := ⟨[], 0, false, false⟩
theorem new_ok : ok new := ⟨by simp [new], by simp [new], by simp [new], by simp [new], by simp [new]⟩
def through (d : D) (n : Nat) : Nat × D :=
  if d.armed = true then (min n d.left.toNat, ⟨d.l, d.left - (min n d.left.toNat : Nat), !decide (min n d.left.toNat < n), d.off || decide (min n d.left.toNat < n)⟩) else (n, d)
theorem through_le (d : D) (n : Nat) : (through d n).1 ≤ n := by
  unfold through
  split
  · exact Nat.min_le_left _ _
  · exact Nat.le_refl _
theorem through_l (d : D) (n : Nat) : (through d n).2.l = d.l := by
  unfold through
  split <;> rfl
theorem through_ok {d : D} (h : ok d) (n : Nat) : ok (through d n).2 := by
  unfold through
  split
  · rename_i ha
    have hp := h.pos ha
    have h1 := h.lo
    have h2 := h.hi
    have h3 : min n d.left.toNat ≤ d.left.toNat := Nat.min_le_right _ _
    refine ⟨h.len, h.lt, fun _ => ?_, ?_, ?_⟩
    · show 0 ≤ d.left - (min n d.left.toNat : Nat); omega
    · show _ ≤ d.left - (min n d.left.toNat : Nat); omega
    · show d.left - (min n d.left.toNat : Nat) ≤ _; omega
  · exact h
def ready (d : D) : Nat := if d.off = true then 210 else 0
theorem off_of {d : D} (h : ready d ≠ 0) : d.off = true := by
  unfold ready at h
  split at h
  · assumption
  · exact absurd rfl h
theorem on_of {d : D} (h : ready d = 0) : ¬ d.off = true := fun h2 => by simp [ready, h2] at h
def add (d : D) (b : List Nat) : Nat × D :=
  if d.off = true then (210, d) else if 16777216 < d.l.length + b.length then (9, d)
  else (ready (through d b.length).2, ⟨d.l ++ b.take (through d b.length).1, (through d b.length).2.left, (through d b.length).2.armed, (through d b.length).2.off⟩)
theorem add_ok {d : D} {b : List Nat} (h : ok d) (hb : ∀ u ∈ b, u < 256) : ok (add d b).2 := by
  unfold add
  split
  · exact h
  · split
    · exact h
    · rename_i h2
      have ht := through_ok h b.length
      refine ⟨?_, ?_, ht.pos, ht.lo, ht.hi⟩
      · show (d.l ++ b.take _).length ≤ _
        rw [List.length_append, List.length_take]
        have := Nat.min_le_right (through d b.length).1 b.length
        omega
      · intro u hu
        rcases List.mem_append.1 hu with h3 | h3
        · exact h.lt u h3
        · exact hb u (List.mem_of_mem_take h3)
def cut (d : D) (n : Int) : Nat × D :=
  if d.off = true then (210, d) else if n < 0 ∨ (d.l.length : Int) < n then (2, d)
  else (ready (through d 1).2, ⟨if (through d 1).1 = 1 then d.l.take n.toNat else d.l, (through d 1).2.left, (through d 1).2.armed, (through d 1).2.off⟩)
theorem cut_ok {d : D} {n : Int} (h : ok d) : ok (cut d n).2 := by
  unfold cut
  split
  · exact h
  · split
    · exact h
    · have ht := through_ok h 1
      refine ⟨?_, ?_, ht.pos, ht.lo, ht.hi⟩
      · show (if _ then _ else _ : List Nat).length ≤ _
        have := h.len
        split
        · rw [List.length_take]; omega
        · exact this
      · intro u hu
        have hu' : u ∈ (if (through d 1).1 = 1 then d.l.take n.toNat else d.l) := hu
        split at hu'
        · exact h.lt u (List.mem_of_mem_take hu')
        · exact h.lt u hu'
def arm (d : D) (n : Int) : Nat × D :=
  if d.off = true then (210, d) else if n < -1 then (2, d) else (0, ⟨d.l, n, decide (0 ≤ n), d.off⟩)
theorem arm_ok {d : D} {n : Int} (h : ok d) (h1 : -9223372036854775808 ≤ n) (h2 : n ≤ 9223372036854775807) : ok (arm d n).2 := by
  unfold arm
  split
  · exact h
  · split
    · exact h
    · exact ⟨h.len, h.lt, fun h3 => of_decide_eq_true h3, h1, h2⟩
def restart (d : D) : Nat × D := (0, ⟨d.l, d.left, false, false⟩)
theorem restart_ok {d : D} (h : ok d) : ok (restart d).2 := ⟨h.len, h.lt, (fun h' => by cases h'), h.lo, h.hi⟩
def told (d : D) : List Nat := if d.off = true then [] else d.l
theorem told_lt {d : D} (h : ok d) : ∀ u ∈ told d, u < 256 := by
  unfold told
  split
  · simp
  · exact h.lt
theorem told_len {d : D} (h : ok d) : (told d).length ≤ 16777216 := by
  unfold told
  split
  · simp
  · exact h.len
theorem add_off {d : D} {b : List Nat} (h : d.off = true) : add d b = (ready d, ⟨d.l, d.left, d.armed, d.off⟩) := by rw [add, if_pos h, ready, if_pos h]
theorem cut_off {d : D} {n : Int} (h : d.off = true) : cut d n = (ready d, ⟨d.l, d.left, d.armed, d.off⟩) := by rw [cut, if_pos h, ready, if_pos h]
theorem arm_off {d : D} {n : Int} (h : d.off = true) : arm d n = (ready d, ⟨d.l, d.left, d.armed, d.off⟩) := by rw [arm, if_pos h, ready, if_pos h]
/-- The reference's step. -/
def step (d : D) : Bool × D :=
  if d.armed = true ∧ d.left = 0 then (false, ⟨d.l, d.left, false, true⟩) else if d.armed = true then (true, ⟨d.l, d.left - 1, d.armed, d.off⟩) else (true, d)
theorem step_through {d : D} (h : ok d) : step d = (decide ((through d 1).1 = 1), (through d 1).2) := by
  unfold step through
  by_cases ha : d.armed = true
  · have hp := h.pos ha
    by_cases h0 : d.left = 0
    · simp [ha, h0]
    · have h1 : 1 ≤ d.left.toNat := by omega
      have h2 : min 1 d.left.toNat = 1 := Nat.min_eq_left h1
      simp [ha, h0, h2]
  · simp [ha]
theorem through1_stop {d : D} (h : (through d 1).1 ≠ 1) : (through d 1).2.off = true := by
  unfold through at *
  split at h
  · rename_i ha
    rw [if_pos ha]
    have h2 : min 1 d.left.toNat < 1 := by
      have := Nat.min_le_left 1 d.left.toNat
      have h3 : min 1 d.left.toNat ≠ 1 := h
      omega
    simp [h2]
  · exact absurd rfl h
theorem through1_go {d : D} (ho : ¬ d.off = true) (h : (through d 1).1 = 1) : ¬ (through d 1).2.off = true := by
  unfold through at *
  split at h
  · rename_i ha
    rw [if_pos ha]
    have h2 : ¬ min 1 d.left.toNat < 1 := by
      have h3 : min 1 d.left.toNat = 1 := h
      omega
    simp [h2, ho]
  · rename_i ha
    rw [if_neg ha]; exact ho
theorem cut_stop {d : D} {s : Int} (h : ok d) (ho : ¬ d.off = true) (hs : ¬ (s < 0 ∨ (d.l.length : Int) < s)) (hst : (step d).1 = false) : cut d s = (210, ⟨d.l, (step d).2.left, (step d).2.armed, (step d).2.off⟩) := by
  rw [step_through h] at hst ⊢
  have h1 : (through d 1).1 ≠ 1 := by simpa using hst
  rw [cut, if_neg ho, if_neg hs, if_neg h1, ready, if_pos (through1_stop h1)]
theorem cut_go {d : D} {s : Int} (h : ok d) (ho : ¬ d.off = true) (hs : ¬ (s < 0 ∨ (d.l.length : Int) < s)) (hst : (step d).1 = true) : cut d s = (0, ⟨d.l.take s.toNat, (step d).2.left, (step d).2.armed, (step d).2.off⟩) := by
  rw [step_through h] at hst ⊢
  have h1 : (through d 1).1 = 1 := by simpa using hst
  rw [cut, if_neg ho, if_neg hs, if_pos h1, ready, if_neg (through1_go ho h1)]
/-! ### Byte by byte -/
def Mid (d : D) (j : Nat) (x : Int) : Prop := (d.armed = true → x = d.left - j ∧ (j : Int) ≤ d.left) ∧ (¬ d.armed = true → x = d.left)
theorem mid0 {d : D} (h : ok d) : Mid d 0 d.left := ⟨fun ha => ⟨by omega, by have := h.pos ha; omega⟩, fun _ => rfl⟩
variable {d : D} {b : List Nat} {j : Nat} {x : Int}
theorem mid_ok (h : ok d) (hb : ∀ u ∈ b, u < 256) (hl : d.l.length + j ≤ 16777216) (hm : Mid d j x) : ok ⟨d.l ++ b.take j, x, d.armed, d.off⟩ := by
  have h1 := h.lo
  have h2 := h.hi
  refine ⟨?_, ?_, fun ha => ?_, ?_, ?_⟩
  · show (d.l ++ b.take j).length ≤ _
    rw [List.length_append, List.length_take]
    have := Nat.min_le_left j b.length
    omega
  · intro u hu
    rcases List.mem_append.1 hu with h3 | h3
    · exact h.lt u h3
    · exact hb u (List.mem_of_mem_take h3)
  · have := hm.1 ha; show 0 ≤ x; omega
  · show _ ≤ x
    by_cases ha : d.armed = true
    · have := hm.1 ha; omega
    · have := hm.2 ha; omega
  · show x ≤ _
    by_cases ha : d.armed = true
    · have := hm.1 ha; omega
    · have := hm.2 ha; omega
theorem mid_stop (ho : ¬ d.off = true) (hl : d.l.length + b.length ≤ 16777216) (hm : Mid d j x) (hj : j < b.length) (hs : (step ⟨d.l ++ b.take j, x, d.armed, d.off⟩).1 = false) :
    add d b = (210, ⟨d.l ++ b.take j, (step ⟨d.l ++ b.take j, x, d.armed, d.off⟩).2.left, (step ⟨d.l ++ b.take j, x, d.armed, d.off⟩).2.armed, (step ⟨d.l ++ b.take j, x, d.armed, d.off⟩).2.off⟩) := by
  by_cases ha : d.armed = true
  · obtain ⟨h1, h2⟩ := hm.1 ha
    by_cases h0 : x = 0
    · have h3 : d.left.toNat = j := by omega
      have h4 : min b.length j = j := Nat.min_eq_right (Nat.le_of_lt hj)
      have h5 : d.left - (j : Int) = 0 := by omega
      subst h0
      rw [add, if_neg ho, if_neg (by omega)]
      simp [step, through, ha, h3, h4, h5, hj, ready]
    · simp [step, h0, ha] at hs
  · simp [step, ha] at hs
theorem mid_go (hm : Mid d j x) (hs : (step ⟨d.l ++ b.take j, x, d.armed, d.off⟩).1 = true) :
    (step ⟨d.l ++ b.take j, x, d.armed, d.off⟩).2.armed = d.armed ∧ (step ⟨d.l ++ b.take j, x, d.armed, d.off⟩).2.off = d.off ∧ Mid d (j + 1) (step ⟨d.l ++ b.take j, x, d.armed, d.off⟩).2.left := by
  by_cases ha : d.armed = true
  · obtain ⟨h1, h2⟩ := hm.1 ha
    by_cases h0 : x = 0
    · simp [step, h0, ha] at hs
    · simp only [step, ha, h0, and_false, if_false, if_true]
      refine ⟨trivial, trivial, fun _ => ⟨by omega, by omega⟩, fun h => absurd ha h⟩
  · have h1 := hm.2 ha
    refine ⟨by simp [step, ha], by simp [step, ha], fun h => absurd h ha, fun _ => ?_⟩
    simpa [step, ha] using h1
theorem mid_end (ho : ¬ d.off = true) (hl : d.l.length + b.length ≤ 16777216) (hm : Mid d b.length x) : add d b = (0, ⟨d.l ++ b.take b.length, x, d.armed, d.off⟩) := by
  rw [add, if_neg ho, if_neg (by omega)]
  by_cases ha : d.armed = true
  · obtain ⟨h1, h2⟩ := hm.1 ha
    have h3 : min b.length d.left.toNat = b.length := Nat.min_eq_left (by omega)
    simp [through, ha, h3, ready, ho, h1]
  · have h1 := hm.2 ha
    simp [through, ha, ready, ho, h1]
end Go.Dk
