/- Layer 17 (pack): reading, in plain numbers. -/
import Derived.Test.YtgmmifpflllkfaaPackMath
namespace Go.Pk
/-- What is read, the place then, the fault then. -/
def take (l : List Nat) (p e : Nat) (n : Int) : List Nat × Nat × Nat :=
  if e ≠ 0 then ([], p, e) else if n < 0 then ([], p, 2) else if (l.length : Int) - p < n then ([], p, 4) else ((l.drop p).take n.toNat, p + n.toNat, 0)
def fail (e f : Nat) : Nat := if e = 0 then f else e
/-- Bytes as a number. -/
def val (b : List Nat) : Nat := b.foldl (fun a c => (a * 256 + c) % 18446744073709551616) 0
theorem val_snoc {b : List Nat} {i c : Nat} (h : b[i]? = some c) : val (b.take (i + 1)) = (val (b.take i) * 256 + c) % 18446744073709551616 := by
  rw [List.take_add_one, h]
  simp [val]
theorem or_step {a c : Nat} (h : c < 256) : a * 2 ^ 8 % 18446744073709551616 ||| c = (a * 256 + c) % 18446744073709551616 := by
  have h1 : a * 2 ^ 8 % 18446744073709551616 = 2 ^ 8 * (a % 72057594037927936) := by omega
  rw [h1, ← Nat.two_pow_add_eq_or_of_lt (i := 8) h]
  omega
theorem take_lt {l : List Nat} {p e : Nat} {n : Int} (h : ∀ u ∈ l, u < 256) : ∀ u ∈ (take l p e n).1, u < 256 := by
  unfold take
  split
  · simp
  · split
    · simp
    · split
      · simp
      · intro u hu
        exact h u (List.mem_of_mem_drop (List.mem_of_mem_take hu))
theorem take_at {l : List Nat} {p e : Nat} {n : Int} (h : p ≤ l.length) : (take l p e n).2.1 ≤ l.length := by
  unfold take
  split
  · exact h
  · split
    · exact h
    · split
      · exact h
      · show p + n.toNat ≤ _
        omega
theorem take_len (l : List Nat) (p e : Nat) (n : Int) : (take l p e n).1.length ≤ l.length := by
  unfold take
  split
  · simp
  · split
    · simp
    · split
      · simp
      · simp only [List.length_take, List.length_drop]; omega
def rdone (l : List Nat) (p e : Nat) : Nat × Nat := if e = 0 ∧ p < l.length then (5, p) else (e, p)
def rnum (l : List Nat) (p e : Nat) (s : Int) : Nat × Nat × Nat :=
  if s < 1 ∨ 8 < s then (val (take l p (fail e 2) s).1, (take l p (fail e 2) s).2) else (val (take l p e s).1, (take l p e s).2)
theorem val_lt (b : List Nat) : val b < 18446744073709551616 := by
  unfold val
  rcases List.eq_nil_or_concat b with rfl | ⟨r, c, rfl⟩
  · decide
  · rw [List.concat_eq_append, List.foldl_append]
    exact Nat.mod_lt _ (by decide)
theorem rnum_lt (l : List Nat) (p e : Nat) (s : Int) : (rnum l p e s).1 < 18446744073709551616 := by
  unfold rnum
  split <;> exact val_lt _
theorem take_two (l : List Nat) (p e : Nat) : (take l p e 2).1.length ≤ 2 := by
  unfold take
  split
  · simp
  · split
    · simp
    · split
      · simp
      · simp only [List.length_take]
        exact Nat.min_le_left _ _
theorem val2_lt {b : List Nat} (h : b.length ≤ 2) (hb : ∀ u ∈ b, u < 256) : val b < 65536 := by
  match b, h with
  | [], _ => decide
  | [x], _ => have := hb x (by simp); simp [val]; omega
  | [x, y], _ => have := hb x (by simp); have := hb y (by simp); simp [val]; omega
theorem rnum2_lt {l : List Nat} (hl : ∀ u ∈ l, u < 256) (p e : Nat) : (rnum l p e ((2 : Nat) : Int)).1 < 65536 := by
  unfold rnum
  split <;> exact val2_lt (take_two _ _ _) (take_lt hl)
theorem rnum_at {l : List Nat} {p e : Nat} {s : Int} (h : p ≤ l.length) : (rnum l p e s).2.1 ≤ l.length := by
  unfold rnum
  split <;> exact take_at h
/-- The fault behind the length. -/
def rlong (q : Nat × Nat × Nat) (most : Int) : Nat := if most < q.1 ∨ 60000 < q.1 then fail q.2.2 3 else q.2.2
def rtxt (l : List Nat) (p e : Nat) (most : Int) : List Nat × Nat × Nat :=
  if e ≠ 0 then ([], p, e) else
  let t := take l (rnum l p e ((2 : Nat) : Int)).2.1 (rlong (rnum l p e ((2 : Nat) : Int)) most) ((rnum l p e ((2 : Nat) : Int)).1 : Nat)
  (t.1, (if t.2.2 ≠ 0 then p else t.2.1), t.2.2)
theorem rtxt_lt {l : List Nat} {p e : Nat} {most : Int} (h : ∀ u ∈ l, u < 256) : ∀ u ∈ (rtxt l p e most).1, u < 256 := by
  unfold rtxt
  split
  · simp
  · exact take_lt h
theorem rtxt_len (l : List Nat) (p e : Nat) (most : Int) : (rtxt l p e most).1.length ≤ l.length := by
  unfold rtxt
  split
  · simp
  · exact take_len _ _ _ _
theorem rtxt_at {l : List Nat} {p e : Nat} {most : Int} (h : p ≤ l.length) : (rtxt l p e most).2.1 ≤ l.length := by
  unfold rtxt
  split
  · exact h
  · show (if _ then _ else _ : Nat) ≤ _
    split
    · exact h
    · exact take_at (rnum_at h)
theorem rtxt_is {l : List Nat} {p e n E A : Nat} {most : Int} {T : List Nat × Nat × Nat} (he : e = 0) (hn : n = (rnum l p e ((2 : Nat) : Int)).1)
    (hE : ((most < n ∨ 60000 < n) ∧ E = fail (rnum l p e ((2 : Nat) : Int)).2.2 3) ∨ (¬ (most < n ∨ 60000 < n) ∧ E = (rnum l p e ((2 : Nat) : Int)).2.2) ∨
      ((rnum l p e ((2 : Nat) : Int)).2.2 ≠ 0 ∧ E = (rnum l p e ((2 : Nat) : Int)).2.2) ∨ ((rnum l p e ((2 : Nat) : Int)).2.2 = 0 ∧ (most < n ∨ 60000 < n) ∧ E = 3))
    (hT : T = take l (rnum l p e ((2 : Nat) : Int)).2.1 E ((n : Nat) : Int)) (hA : (T.2.2 ≠ 0 ∧ A = p) ∨ (T.2.2 = 0 ∧ A = T.2.1)) : rtxt l p e most = (T.1, A, T.2.2) := by
  subst hn
  have h1 : rlong (rnum l p e ((2 : Nat) : Int)) most = E := by
    unfold rlong
    rcases hE with ⟨h, rfl⟩ | ⟨h, rfl⟩ | ⟨h, rfl⟩ | ⟨h0, h, rfl⟩
    · rw [if_pos h]
    · rw [if_neg h]
    · split
      · exact if_neg h
      · rfl
    · rw [if_pos h]
      exact if_pos h0
  unfold rtxt
  rw [if_neg (by omega), h1]
  subst hT
  rcases hA with ⟨h, rfl⟩ | ⟨h, rfl⟩
  · simp only [if_pos h]
  · simp only [h, ne_eq, not_true_eq_false, if_false]
theorem take_nil {l : List Nat} {p e : Nat} {n : Int} (h : (take l p e n).2.2 ≠ 0) : (take l p e n).1 = [] := by
  unfold take at h ⊢
  split
  · rfl
  · split
    · rfl
    · split
      · rfl
      · next h1 h2 h3 => rw [if_neg h1, if_neg h2, if_neg h3] at h; exact absurd rfl h
theorem rtxt_nil {l : List Nat} {p e : Nat} {most : Int} (he : e ≠ 0) : rtxt l p e most = ([], p, e) := by
  unfold rtxt
  rw [if_pos he]
end Go.Pk
