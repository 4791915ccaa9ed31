/- Plain numbers: bits, one by one. No program in sight. -/
import Derived.Test.YtbjpaggkmlgnoaaLimbMath4
import Derived.Test.YtbjpaggkmlgnoaaLimbMath3
namespace Lm
theorem bits_succ (n E : Nat) : bits (n + 1) E = bits n E ++ [E / 2 ^ n % 2] := by simp [bits, List.range_succ]
theorem bits_step {E i x13 x16 x17 : Nat} (hx : (w4 E)[i / 64]? = some x13) (h16 : x16 = x13 / 2 ^ (i % 64)) (h17 : x17 = x16 % 2) : bits (i + 1) E = bits i E ++ [x17] := by
  have h := bit_math (m := i) hx
  rw [Nat.and_one_is_mod] at h
  rw [bits_succ, h17, h16, h]
theorem bits_length (n E : Nat) : (bits n E).length = n := by simp [bits]
theorem dv_bits (n : Nat) : ∀ E, E < 2 ^ n → dv 2 (bits n E) = E := by
  induction n with
  | zero => intro E h; have : E = 0 := by simpa using h
            subst this; rfl
  | succ n ih =>
    intro E h
    have e : bits (n + 1) E = E % 2 :: bits n (E / 2) := by
      simp only [bits, List.range_succ_eq_map, List.map_cons, List.map_map, Nat.pow_zero, Nat.div_one]
      congr 1
      refine List.map_congr_left fun i _ => ?_
      simp only [Function.comp, Nat.succ_eq_add_one, Nat.pow_succ, Nat.mul_comm (2 ^ i) 2, Nat.div_div_eq_div_mul]
    rw [e, dv, ih (E / 2) (by rw [Nat.pow_succ] at h; omega)]
    exact Nat.mod_add_div E 2
/-- Told ones, then ones. -/
def onesL (low : List Nat) (m : Nat) : List Nat := low ++ List.replicate (m - low.length) 1
theorem onesL_init {low : List Nat} {q : Nat} (h : low.length = q) : onesL low q = [] ++ low := by simp [onesL, h]
theorem onesL_step {low : List Nat} {q m : Nat} (h : low.length = q) (hm : q ≤ m) : onesL low (m + 1) = onesL low m ++ [1] := by
  rw [onesL, onesL, List.append_assoc, ← List.replicate_succ', show m + 1 - low.length = m - low.length + 1 by omega]
theorem onesL_length {low : List Nat} {q m : Nat} (h : low.length = q) (hm : q ≤ m) : (onesL low m).length = m := by simp [onesL]; omega
theorem onesL_lt {low : List Nat} (h : ∀ u ∈ low, u < 2) (m : Nat) : ∀ u ∈ onesL low m, u < 2 := by
  intro u hu
  rcases List.mem_append.1 hu with hu | hu
  · exact h u hu
  · have := (List.mem_replicate.1 hu).2; omega
theorem dropc {l : List Nat} {i x : Nat} (hx : l[i]? = some x) : l.drop i = x :: l.drop (i + 1) := by
  obtain ⟨hi, rfl⟩ := List.getElem?_eq_some_iff.1 hx
  exact List.drop_eq_getElem_cons hi
theorem pow_bit1 {A N N' M i x : Nat} {l : List Nat} (hV : N = powm A (dv 2 (l.drop (i + 1)))) (h' : N' = N * N % p) (hx : l[i]? = some x) (h1 : (x : Int) = 1) (hM : M = N' * A % p) : M = powm A (dv 2 (l.drop i)) := by
  rw [hM, h', hV, powm_dbl, powm_succ, dropc hx, dv]
  congr 1; omega
theorem pow_bit0 {A N N' i x : Nat} {l : List Nat} (hl : ∀ u ∈ l, u < 2) (hV : N = powm A (dv 2 (l.drop (i + 1)))) (h' : N' = N * N % p) (hx : l[i]? = some x) (h1 : ¬ (x : Int) = 1) : N' = powm A (dv 2 (l.drop i)) := by
  have := hl x (List.mem_of_getElem? hx)
  rw [h', hV, powm_dbl, dropc hx, dv]
  congr 1; omega
theorem pow_bits {A n N : Nat} {l : List Nat} (hl : l.length = n) (h : N = 1 % p) : N = powm A (dv 2 (l.drop n)) := by
  rw [List.drop_of_length_le (by omega), dv, powm_zero, h]; rfl
theorem powm_mod (A E : Nat) : powm (A % p) E = powm A E := by rw [powm_def, powm_def, ← Nat.pow_mod]
theorem q_pow {A B N : Nat} (hB : B < 115792089237316195423570985008687907853269984665640564039457584007913129639936) (h : N = A % p) : decide (w4 (powm A B) = w4 (powm N (dv 2 (bits 256 B)))) = true := by
  rw [h, powm_mod, dv_bits 256 B hB]; exact decide_eq_true rfl
theorem q_inv {A N M E : Nat} (h : N = A % p) (h2 : M = powm N E) : decide (w4 (powm A E) = w4 M) = true := by
  rw [h2, h, powm_mod]; exact decide_eq_true rfl
theorem inv_bits : dv 2 (onesL [1, 1, 0, 1, 0] 255) = 57896044618658097711785492504343953926634992332820282019728792003956564819947 := by decide +kernel
theorem i_bits : dv 2 (onesL [1, 1, 0, 1] 253) = 14474011154664524427946373126085988481658748083205070504932198000989141204987 := by decide +kernel
theorem root_bits : dv 2 (onesL [0] 252) = 7237005577332262213973186563042994240829374041602535252466099000494570602494 := by decide +kernel
end Lm
namespace Lm
open Go.Ev.Nt
/-! ### The document's root -/
noncomputable def rx (w : Nat) : Nat := powm w 7237005577332262213973186563042994240829374041602535252466099000494570602494
noncomputable def rx2 (w : Nat) : Nat := if rx w * rx w % p = w then rx w else rx w * ii % p
noncomputable def rroot (w : Nat) : Nat := absm (rx2 w)
noncomputable def rrootB (w : Nat) : Bool := decide (rx2 w * rx2 w % p = w)
theorem rroot_lt (w : Nat) : rroot w < 115792089237316195423570985008687907853269984665640564039457584007913129639936 := absm_lt _
theorem powm_ltp (A E : Nat) : powm A E < p := by rw [powm_def]; exact Nat.mod_lt _ p_pos
theorem ltwp {x A E : Nat} (h : x = powm A E) : x < p := by rw [h]; exact powm_ltp A E
theorem rx2_t {A N : Nat} (hA : A < 115792089237316195423570985008687907853269984665640564039457584007913129639936) (h : (!decide (n8 (powm A (dv 2 (onesL [0] 252)) * powm A (dv 2 (onesL [0] 252)) % p) = n8 A)) = true) (hN : N = powm A (dv 2 (onesL [0] 252)) * ii % p) : N = rx2 A := by
  rw [Bool.not_eq_true', decide_eq_false_iff_not, n8_inj (modp_lt _) hA, root_bits] at h
  rw [hN, rx2, rx, root_bits, if_neg h]
theorem rx2_f {A : Nat} (hA : A < 115792089237316195423570985008687907853269984665640564039457584007913129639936) (h : (!decide (n8 (powm A (dv 2 (onesL [0] 252)) * powm A (dv 2 (onesL [0] 252)) % p) = n8 A)) = false) : powm A (dv 2 (onesL [0] 252)) = rx2 A := by
  rw [Bool.not_eq_false', decide_eq_true_eq, n8_inj (modp_lt _) hA, root_bits] at h
  rw [rx2, rx, root_bits, if_pos h]
theorem rroot_fin1 {A X : Nat} (h : X = rx2 A) : absm X = rroot A := by rw [h]; rfl
theorem rroot_fin2 {A X : Nat} (hA : A < 115792089237316195423570985008687907853269984665640564039457584007913129639936) (h : X = rx2 A) : decide (n8 (X * X % p) = n8 A) = rrootB A := by
  rw [rrootB, h]; exact decide_eq_decide.2 (n8_inj (modp_lt _) hA)
theorem zero_fin {A : Nat} (hA : A < 115792089237316195423570985008687907853269984665640564039457584007913129639936) : decide (n8 A = [0, 0, 0, 0, 0, 0, 0, 0]) = decide (A = 0) := decide_eq_decide.2 (n8_inj (y := 0) hA (by decide))
/-- The quotient. -/
noncomputable def rq (u v : Nat) : Nat := u * powm v 57896044618658097711785492504343953926634992332820282019728792003956564819947 % p
noncomputable def refN (u v : Nat) : Nat := if u = 0 then 0 else if v = 0 then 0 else if rrootB (rq u v) = true then rroot (rq u v) else rroot (rq u v * ii % p)
noncomputable def refB (u v : Nat) : Bool := if u = 0 then true else if v = 0 then false else rrootB (rq u v)
theorem lt_rroot {x w : Nat} (h : x = rroot w) : x < 115792089237316195423570985008687907853269984665640564039457584007913129639936 := by rw [h]; exact rroot_lt _
theorem refN_lt (u v : Nat) : refN u v < 115792089237316195423570985008687907853269984665640564039457584007913129639936 := by
  unfold refN; split
  · decide
  · split
    · decide
    · split <;> exact rroot_lt _
theorem lt_ref {x u v : Nat} (h : x = refN u v) : x < 115792089237316195423570985008687907853269984665640564039457584007913129639936 := by rw [h]; exact refN_lt _ _
theorem n8_zero : [0, 0, 0, 0, 0, 0, 0, 0] = n8 0 := rfl
theorem ref_u {u v : Nat} (h : u = 0) : n8 0 = n8 (refN u v) ∧ true = refB u v := by rw [refN, refB, if_pos h, if_pos h]; exact ⟨rfl, rfl⟩
theorem ref_v {u v : Nat} (h : ¬ u = 0) (h2 : v = 0) : n8 0 = n8 (refN u v) ∧ false = refB u v := by rw [refN, refB, if_neg h, if_pos h2, if_neg h, if_pos h2]; exact ⟨rfl, rfl⟩
theorem ref_t {u v W N : Nat} {q : Bool} (h : ¬ u = 0) (h2 : ¬ v = 0) (hW : W = rq u v) (hN : N = rroot W) (hq : q = rrootB W) (h3 : q = true) : n8 N = n8 (refN u v) ∧ true = refB u v := by
  rw [refN, refB, if_neg h, if_neg h2, if_neg h, if_neg h2, ← hW, ← hq, if_pos h3, hN, h3]; exact ⟨rfl, rfl⟩
theorem ref_f {u v W N : Nat} {q : Bool} (h : ¬ u = 0) (h2 : ¬ v = 0) (hW : W = rq u v) (hN : N = rroot (W * ii % p)) (hq : q = rrootB W) (h3 : q = false) : n8 N = n8 (refN u v) ∧ false = refB u v := by
  rw [refN, refB, if_neg h, if_neg h2, if_neg h, if_neg h2, ← hW, ← hq, if_neg (by rw [h3]; decide), hN, h3]; exact ⟨rfl, rfl⟩

/-! ### The two roots are one -/
theorem fe_rx {m : Nat} (h : p = 8 * m + 5) (w : Nat) : fe (rx w) = fe w ^ (m + 1) := by
  have e : 7237005577332262213973186563042994240829374041602535252466099000494570602494 = m + 1 := by
    have := hm
    omega
  rw [rx, e, fe_pow]
theorem rx2_sq {w y : Nat} (hw : w < p) (h : fe y * fe y = fe w) : fe (rx2 w) * fe (rx2 w) = fe w ∧ rrootB w = true := by
  have key : fe (rx2 w) * fe (rx2 w) = fe w := by
    have h1 := ref_root prm hm fe_ii h (fe_rx hm w)
    by_cases h2 : rx w * rx w % p = w
    · rw [rx2, if_pos h2, ← fe_mm, h2]
    · have h3 : fe (rx w) * fe (rx w) ≠ fe w := fun h0 => h2 (low (Nat.mod_lt _ p_pos) hw (by rw [fe_mm]; exact h0))
      rw [rx2, if_neg h2, fe_mm]
      exact h1.resolve_left h3
  refine ⟨key, ?_⟩
  rw [rrootB, decide_eq_true_eq]
  exact low (Nat.mod_lt _ p_pos) hw (by rw [fe_mm]; exact key)
theorem rroot_of {w y : Nat} (hw : w < p) (h : fe y * fe y = fe w) : rroot w = absm y :=
  absm_of (sq_eq prm ((rx2_sq hw h).1.trans h.symm))
theorem fe_rq {u v : Nat} (hv : fe v ≠ 0) : fe v * fe (rq u v) = fe u := by
  have e := ferm prm hv
  rw [show p - 1 = 57896044618658097711785492504343953926634992332820282019728792003956564819947 + 1 from by decide] at e
  rw [rq, fe_mm, fe_pow]
  generalize 57896044618658097711785492504343953926634992332820282019728792003956564819947 = n at e ⊢
  exact n_quot e
theorem fe_mod0 {u : Nat} (h : u % p = 0) : fe u = 0 := by rw [fe, ← fc_zero, fc_eq, h, Nat.zero_mod]
theorem fe_mod1 {u : Nat} (h : ¬ u % p = 0) : fe u ≠ 0 := fun h0 => h (by rw [fe, ← fc_zero, fc_eq, Nat.zero_mod] at h0; exact h0)
theorem roots_one (u v : Nat) : rootN u v = refN (u % p) (v % p) ∧ rootB u v = refB (u % p) (v % p) := by
  by_cases hu : u % p = 0
  · have := root_u0 (v := v) (fe_mod0 hu)
    rw [refN, refB, if_pos hu, if_pos hu, rootN_eq, absm_nought this.1, this.2]; exact ⟨rfl, rfl⟩
  · have hu' := fe_mod1 hu
    by_cases hv : v % p = 0
    · have := root_v0 hu' (fe_mod0 hv)
      rw [refN, refB, if_neg hu, if_pos hv, if_neg hu, if_pos hv, rootN_eq, absm_nought this.1, this.2]; exact ⟨rfl, rfl⟩
    · have hv' := fe_mod1 hv
      have hs := root_sq_ok hu' hv'
      have hq := fe_rq (u := u % p) (v := v % p) (by rw [fe_mod]; exact hv')
      rw [fe_mod, fe_mod] at hq
      have hlow : rq (u % p) (v % p) < p := Nat.mod_lt _ p_pos
      rw [refN, refB, if_neg hu, if_neg hv, if_neg hu, if_neg hv]
      generalize hW : rq (u % p) (v % p) = W at *
      cases hb : rootB u v with
      | true =>
        have h1 : fe (rr u v) * fe (rr u v) = fe W := cancel prm hv' ((hs.1 hb).trans hq.symm)
        have h2 := rx2_sq hlow h1
        rw [if_pos h2.2, h2.2, rootN_eq, rroot_of hlow h1]; exact ⟨rfl, rfl⟩
      | false =>
        have h1 : fe (rr u v) * fe (rr u v) = fe W * fe ii := cancel prm hv' ((hs.2 hb).trans (n_assoc hq))
        have hf : rrootB W = false := by
          cases h0 : rrootB W with
          | false => rfl
          | true =>
            exfalso
            rw [rrootB, decide_eq_true_eq] at h0
            have h2 : fe (rx2 W) * fe (rx2 W) = fe W := by rw [← fe_mm, h0]
            have hne : fe (rx2 W) ≠ 0 := fun h3 => hu' (by rw [← hq, ← h2, h3]; exact n_zero3 _)
            have e := ferm prm hne
            rw [show p - 1 = 57896044618658097711785492504343953926634992332820282019728792003956564819947 + 1 from by decide] at e
            generalize 57896044618658097711785492504343953926634992332820282019728792003956564819947 = n at e
            rw [← h2] at h1
            exact i_no_square prm hm fe_ii (n_ratio e h1)
        rw [hf, if_neg (by decide), rootN_eq, rroot_of (y := rr u v) (Nat.mod_lt _ p_pos) (by rw [fe_mm, h1])]; exact ⟨rfl, rfl⟩
theorem q_root1 {N u v : Nat} (h : N = rootN u v) : decide (w4 N = w4 (refN (u % p) (v % p))) = true := by rw [h, (roots_one u v).1]; exact decide_eq_true rfl
theorem q_root2 {q : Bool} {u v : Nat} (h : q = rootB u v) : (q == refB (u % p) (v % p)) = true := by rw [h, (roots_one u v).2]; exact beq_self_eq_true _
end Lm
