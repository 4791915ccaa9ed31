/- Layer 21 (disk): what is there is a beginning of what was added, in plain numbers. -/
import Derived.Test.YtlialefffhoagaaDiskMath
namespace Go.Dk
theorem add_on {d : D} {b : List Nat} (ho : d.off = false) (hl : d.l.length + b.length ≤ 16777216) :
    ((add d b).1 = 0 ∧ (add d b).2.l = d.l ++ b ∧ (add d b).2.off = false) ∨ ((add d b).1 ≠ 0 ∧ (add d b).2.off = true ∧ ∃ k, (add d b).2.l = d.l ++ b.take k) := by
  have ho' : ¬ d.off = true := by simp [ho]
  have e : add d b = (ready (through d b.length).2, ⟨d.l ++ b.take (through d b.length).1, (through d b.length).2.left, (through d b.length).2.armed, (through d b.length).2.off⟩) := by
    rw [add, if_neg ho', if_neg (by omega)]
  rw [e]
  by_cases ha : d.armed = true
  · by_cases hk : min b.length d.left.toNat < b.length
    · refine .inr ⟨?_, ?_, _, rfl⟩
      · simp [through, ha, hk, ready]
      · simp [through, ha, hk]
    · have hm : min b.length d.left.toNat = b.length := by have := Nat.min_le_left b.length d.left.toNat; omega
      refine .inl ⟨?_, ?_, ?_⟩
      · simp [through, ha, hm, ready, ho]
      · simp [through, ha, hm]
      · simp [through, ha, hm, ho]
  · refine .inl ⟨?_, ?_, ?_⟩
    · simp [through, ha, ready, ho]
    · simp [through, ha]
    · simp [through, ha, ho]
/-- What was answered OK is a beginning of what is there, and that of what was tried. -/
structure Beg (d : D) (s t : List Nat) : Prop where
  ok : ok d
  lt : ∀ u ∈ t, u < 256
  hs : s <+: d.l
  ht : d.l <+: t
  on : d.off = false → d.l = t
theorem beg0 {n : Int} (h1 : -9223372036854775808 ≤ n) (h2 : n ≤ 9223372036854775807) (h3 : 0 ≤ n) : Beg (arm new n).2 [] [] := by
  have e : arm new n = (0, ⟨[], n, decide (0 ≤ n), false⟩) := by
    rw [arm, if_neg (by simp [new]), if_neg (by omega)]
    rfl
  have h := arm_ok (n := n) new_ok h1 h2
  rw [e] at h ⊢
  exact ⟨h, by simp, List.prefix_refl _, List.prefix_refl _, fun _ => rfl⟩
theorem arm0 {n : Int} (h3 : 0 ≤ n) : (arm new n).1 = 0 := by
  rw [arm, if_neg (by simp [new]), if_neg (by omega)]
variable {d : D} {s t b : List Nat}
theorem Beg.yes (h : Beg d s t) (ho : d.off = false) (hb : ∀ u ∈ b, u < 256) (hl : t.length + b.length ≤ 16777216) (h1 : (add d b).1 = 0) : Beg (add d b).2 (t ++ b) (t ++ b) := by
  have e := h.on ho
  have hlt : ∀ u ∈ t ++ b, u < 256 := fun u hu => (List.mem_append.1 hu).elim (h.lt u) (hb u)
  rcases add_on (b := b) ho (by rw [e]; exact hl) with ⟨_, h2, h3⟩ | ⟨h2, _⟩
  · rw [e] at h2
    exact ⟨add_ok h.ok hb, hlt, by rw [h2]; exact List.prefix_refl _, by rw [h2]; exact List.prefix_refl _, fun _ => h2⟩
  · exact absurd h1 h2
theorem Beg.no (h : Beg d s t) (ho : d.off = false) (hb : ∀ u ∈ b, u < 256) (hl : t.length + b.length ≤ 16777216) (h1 : (add d b).1 ≠ 0) : Beg (add d b).2 s (t ++ b) := by
  have e := h.on ho
  have hlt : ∀ u ∈ t ++ b, u < 256 := fun u hu => (List.mem_append.1 hu).elim (h.lt u) (hb u)
  rcases add_on (b := b) ho (by rw [e]; exact hl) with ⟨h2, _⟩ | ⟨_, h2, k, h3⟩
  · exact absurd h2 h1
  · refine ⟨add_ok h.ok hb, hlt, ?_, ?_, fun h4 => ?_⟩
    · rw [h3]; exact h.hs.trans (List.prefix_append _ _)
    · rw [h3, e]; exact List.prefix_append_right_inj t |>.2 (List.take_prefix _ _)
    · rw [h2] at h4; cases h4
theorem Beg.slen (h : Beg d s t) : s.length ≤ d.l.length := h.hs.length_le
theorem Beg.tlen (h : Beg d s t) : d.l.length ≤ t.length := h.ht.length_le
theorem Beg.eq (h : Beg d s t) : d.l = t.take d.l.length := (List.prefix_iff_eq_take.1 h.ht)
theorem told_re (d : D) : told (restart d).2 = d.l := if_neg (by simp [restart])
theorem told_on {d : D} (h : d.off = false) : told d = d.l := by simp [told, h]
end Go.Dk
