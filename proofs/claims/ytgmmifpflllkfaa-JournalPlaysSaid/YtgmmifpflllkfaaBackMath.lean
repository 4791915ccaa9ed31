/- Layer 17 (pack): what was written is read. -/
import Derived.Test.YtgmmifpflllkfaaPackTab
import Derived.Test.YtgmmifpflllkfaaReadMath
namespace Go.Pk
/-- What a call makes of what was written. -/
def wop (s : List Nat × Nat) (x : Op) : List Nat × Nat :=
  if x.kind = 0 then num s.1 s.2 x.n x.size else if x.kind = 1 then raw s.1 s.2 x.l else if x.kind = 2 then text s.1 s.2 x.l else s
def wst (L : List Op) : List Nat × Nat := L.foldl wop ([], 0)
theorem wst_succ {L : List Op} {i : Nat} {x : Op} (h : L[i]? = some x) : wst (L.take (i + 1)) = wop (wst (L.take i)) x := by
  rw [List.take_add_one, h]
  simp [wst]
theorem num_ok {l : List Nat} {e n : Nat} {s : Int} (h : (num l e n s).2 = 0) (hn : n < 18446744073709551616) :
    e = 0 ∧ num l e n s = (l ++ digs n s.toNat, 0) ∧ 1 ≤ s ∧ s ≤ 8 ∧ n < 2 ^ (8 * s.toNat) := by
  unfold num at h
  split at h
  · next h1 => exact absurd h h1
  · split at h
    · exact absurd h (by simp)
    · split at h
      · exact absurd h (by simp)
      · next h1 h2 h3 =>
        refine ⟨by omega, ?_, by omega, by omega, ?_⟩
        · unfold num
          rw [if_neg h1, if_neg h2, if_neg h3]
        · by_cases h8 : s < 8
          · have h4 : n / 2 ^ (8 * s.toNat) = 0 := by
              by_cases h5 : n / 2 ^ (8 * s.toNat) = 0
              · exact h5
              · exact absurd ⟨h8, h5⟩ h3
            rcases Nat.div_eq_zero_iff.1 h4 with h5 | h5
            · exact absurd h5 (Nat.pos_iff_ne_zero.1 (Nat.two_pow_pos _))
            · exact h5
          · have : s = 8 := by omega
            subst this
            exact hn
theorem raw_ok {l b : List Nat} {e : Nat} (h : (raw l e b).2 = 0) : e = 0 ∧ raw l e b = (l ++ b, 0) := by
  unfold raw at h ⊢
  split at h
  · next h1 => exact absurd h h1
  · next h1 => exact ⟨by omega, by rw [if_neg h1]⟩
theorem text_ok {l b : List Nat} {e : Nat} (h : (text l e b).2 = 0) : e = 0 ∧ text l e b = (l ++ digs b.length 2 ++ b, 0) ∧ b.length ≤ 60000 := by
  unfold text at h
  split at h
  · next h1 => exact absurd h h1
  · split at h
    · exact absurd h (by simp)
    · next h1 h2 =>
      refine ⟨by omega, ?_, by omega⟩
      unfold text
      rw [if_neg h1, if_neg h2]
theorem wop_ok {s : List Nat × Nat} {x : Op} (h : (wop s x).2 = 0) (hn : x.n < 18446744073709551616) : s.2 = 0 ∧ ∃ d, (wop s x).1 = s.1 ++ d := by
  unfold wop at h ⊢
  split at h
  · next h0 =>
    rw [if_pos h0]
    have := num_ok h hn
    exact ⟨this.1, _, congrArg Prod.fst this.2.1⟩
  · next h0 =>
    rw [if_neg h0]
    split at h
    · next h1 =>
      rw [if_pos h1]
      have := raw_ok h
      exact ⟨this.1, _, congrArg Prod.fst this.2⟩
    · next h1 =>
      rw [if_neg h1]
      split at h
      · next h2 =>
        rw [if_pos h2]
        have := text_ok h
        exact ⟨this.1, _, (congrArg Prod.fst this.2.1).trans (List.append_assoc _ _ _)⟩
      · next h2 =>
        rw [if_neg h2]
        exact ⟨h, [], (List.append_nil _).symm⟩
theorem fold_pre (M : List Op) (hM : ∀ x ∈ M, x.n < 18446744073709551616) : ∀ s : List Nat × Nat, (M.foldl wop s).2 = 0 → s.2 = 0 ∧ ∃ d, (M.foldl wop s).1 = s.1 ++ d := by
  induction M with
  | nil => exact fun s h => ⟨h, [], (List.append_nil _).symm⟩
  | cons x r ih =>
    intro s h
    obtain ⟨h1, d, h2⟩ := ih (fun y hy => hM y (List.mem_cons_of_mem _ hy)) (wop s x) h
    obtain ⟨h3, d2, h4⟩ := wop_ok h1 (hM x (List.mem_cons_self ..))
    exact ⟨h3, d2 ++ d, by show ((r.foldl wop (wop s x)).1) = _; rw [h2, h4, List.append_assoc]⟩
theorem wst_pre {L : List Op} (hM : ∀ x ∈ L, x.n < 18446744073709551616) (h : (wst L).2 = 0) (i : Nat) : (wst (L.take i)).2 = 0 ∧ ∃ d, (wst L).1 = (wst (L.take i)).1 ++ d := by
  have e : wst L = (L.drop i).foldl wop (wst (L.take i)) := by
    unfold wst
    rw [← List.foldl_append, List.take_append_drop]
  rw [e] at h ⊢
  exact fold_pre _ (fun x hx => hM x (List.mem_of_mem_drop hx)) _ h
theorem take_mid (q d r : List Nat) : take (q ++ d ++ r) q.length 0 ((d.length : Nat) : Int) = (d, q.length + d.length, 0) := by
  unfold take
  rw [if_neg (by decide), if_neg (by omega), if_neg (by rw [List.length_append, List.length_append]; omega), Int.toNat_natCast]
  rw [List.append_assoc, List.drop_left, List.take_left]
theorem val_digs {n s : Nat} (h : n < 2 ^ (8 * s)) (hn : n < 18446744073709551616) (i : Nat) : i ≤ s → val ((digs n s).take i) = n / 2 ^ (8 * (s - i)) := by
  induction i with
  | zero =>
    intro _
    rw [List.take_zero]
    exact (Nat.div_eq_of_lt h).symm
  | succ i ih =>
    intro hi
    have hg : (digs n s)[i]? = some (n / 2 ^ (8 * (s - 1 - i)) % 256) := by
      unfold digs
      rw [List.getElem?_map, List.getElem?_range (by omega)]
      rfl
    rw [val_snoc hg, ih (by omega)]
    have e : 2 ^ (8 * (s - i)) = 2 ^ (8 * (s - 1 - i)) * 256 := by
      rw [show (256 : Nat) = 2 ^ 8 from rfl, ← Nat.pow_add]
      congr 1
      omega
    rw [e, ← Nat.div_div_eq_div_mul, show s - (i + 1) = s - 1 - i by omega]
    have hm : n / 2 ^ (8 * (s - 1 - i)) ≤ n := Nat.div_le_self _ _
    omega
theorem val_all {n s : Nat} (h : n < 2 ^ (8 * s)) (hn : n < 18446744073709551616) : val (digs n s) = n := by
  have e := val_digs h hn s (Nat.le_refl _)
  rw [List.take_of_length_le (by rw [digs_len]; exact Nat.le_refl _), Nat.sub_self] at e
  rw [e]
  exact Nat.div_one n
theorem rnum_mid {n : Nat} {s : Int} (q r : List Nat) (h1 : 1 ≤ s) (h8 : s ≤ 8) (h : n < 2 ^ (8 * s.toNat)) (hn : n < 18446744073709551616) :
    rnum (q ++ digs n s.toNat ++ r) q.length 0 s = (n, q.length + s.toNat, 0) := by
  unfold rnum
  rw [if_neg (by omega)]
  have e := take_mid q (digs n s.toNat) r
  rw [digs_len, Int.toNat_of_nonneg (by omega)] at e
  rw [e, val_all h hn]
/-- A number that was written is read. -/
theorem back0 {L : List Op} {i : Nat} {x : Op} (hM : ∀ x ∈ L, x.n < 18446744073709551616) (h : (wst L).2 = 0) (hx : L[i]? = some x) (hk : x.kind = 0) :
    rnum (wst L).1 (wst (L.take i)).1.length 0 x.size = (x.n, (wst (L.take (i + 1))).1.length, 0) := by
  obtain ⟨h1, r, h2⟩ := wst_pre hM h (i + 1)
  have e := wst_succ hx
  rw [e] at h1 h2 ⊢
  have e0 : wop (wst (L.take i)) x = num (wst (L.take i)).1 (wst (L.take i)).2 x.n x.size := by unfold wop; rw [if_pos hk]
  rw [e0] at h1 h2 ⊢
  have hn := hM x (List.mem_of_getElem? hx)
  obtain ⟨_, h3, h4, h5, h6⟩ := num_ok h1 hn
  rw [h2, h3, rnum_mid _ _ h4 h5 h6 hn, List.length_append, digs_len]
theorem back1 {L : List Op} {i : Nat} {x : Op} (hM : ∀ x ∈ L, x.n < 18446744073709551616) (h : (wst L).2 = 0) (hx : L[i]? = some x) (hk : x.kind = 1) {m : Nat} (hm : x.l.length = m) :
    take (wst L).1 (wst (L.take i)).1.length 0 ((m : Nat) : Int) = (x.l, (wst (L.take (i + 1))).1.length, 0) := by
  obtain ⟨h1, r, h2⟩ := wst_pre hM h (i + 1)
  have e := wst_succ hx
  rw [e] at h1 h2 ⊢
  have e0 : wop (wst (L.take i)) x = raw (wst (L.take i)).1 (wst (L.take i)).2 x.l := by unfold wop; rw [if_neg (by omega), if_pos hk]
  rw [e0] at h1 h2 ⊢
  obtain ⟨_, h3⟩ := raw_ok h1
  subst hm
  rw [h2, h3, take_mid, List.length_append]
theorem back2 {L : List Op} {i : Nat} {x : Op} (hM : ∀ x ∈ L, x.n < 18446744073709551616) (h : (wst L).2 = 0) (hx : L[i]? = some x) (hk : x.kind = 2) :
    rtxt (wst L).1 (wst (L.take i)).1.length 0 ((60000 : Nat) : Int) = (x.l, (wst (L.take (i + 1))).1.length, 0) := by
  obtain ⟨h1, r, h2⟩ := wst_pre hM h (i + 1)
  have e := wst_succ hx
  rw [e] at h1 h2 ⊢
  have e0 : wop (wst (L.take i)) x = text (wst (L.take i)).1 (wst (L.take i)).2 x.l := by unfold wop; rw [if_neg (by omega), if_neg (by omega), if_pos hk]
  rw [e0] at h1 h2 ⊢
  obtain ⟨_, h3, h4⟩ := text_ok h1
  generalize hq : (wst (L.take i)).1 = q at *
  rw [h2, h3]
  have hn : rnum (q ++ digs x.l.length 2 ++ x.l ++ r) q.length 0 ((2 : Nat) : Int) = (x.l.length, q.length + 2, 0) := by
    have := rnum_mid (n := x.l.length) (s := ((2 : Nat) : Int)) q (x.l ++ r) (by decide) (by decide) (by show _ < 65536; omega) (by omega)
    rw [← List.append_assoc] at this
    exact this
  have ht := take_mid (q ++ digs x.l.length 2) x.l r
  rw [List.length_append, digs_len] at ht
  unfold rtxt
  rw [if_neg (by decide)]
  have hl : rlong (x.l.length, q.length + 2, 0) ((60000 : Nat) : Int) = 0 := by
    unfold rlong
    rw [if_neg (by simp only; omega)]
  simp only [hn, hl, ht]
  rw [if_neg (by decide), List.length_append, List.length_append, digs_len]
theorem back3 {L : List Op} {i : Nat} {x : Op} (hx : L[i]? = some x) (h0 : x.kind ≠ 0) (h1 : x.kind ≠ 1) (h2 : x.kind ≠ 2) : wst (L.take (i + 1)) = wst (L.take i) := by
  rw [wst_succ hx]
  unfold wop
  rw [if_neg h0, if_neg h1, if_neg h2]
theorem wst_le {L : List Op} (hM : ∀ x ∈ L, x.n < 18446744073709551616) (h : (wst L).2 = 0) (i : Nat) : (wst (L.take i)).1.length ≤ (wst L).1.length := by
  obtain ⟨_, d, e⟩ := wst_pre hM h i
  rw [e, List.length_append]
  omega
theorem back_done {L : List Op} {i : Nat} (hi : L.length ≤ i) : rdone (wst L).1 (wst (L.take i)).1.length 0 = (0, (wst L).1.length) := by
  rw [List.take_of_length_le hi]
  unfold rdone
  rw [if_neg (by omega)]
theorem back_left {L : List Op} {i : Nat} (hi : L.length ≤ i) : (((wst L).1.length : Nat) : Int) - (((wst (L.take i)).1.length : Nat) : Int) = 0 := by
  rw [List.take_of_length_le hi]
  omega
end Go.Pk
