/- Plain numbers of layer 2: sums, differences, products and powers of the document, and the field. No program in sight. -/
import Derived.Test.YthjdikgdhmlmcaaResMath4
namespace Lm
theorem b32_dv {B : Nat} (hB : B < 115792089237316195423570985008687907853269984665640564039457584007913129639936) : dv 256 (b32 B) = B := dv_dg 256 32 B hB
theorem ordsub_lt (x : Nat) : ord - x < 115792089237316195423570985008687907853269984665640564039457584007913129639936 := by have := ord_lt; omega
theorem hz_set {l : List Nat} {i x : Nat} (h : ∀ j, i ≤ j → l.getD j 0 = 0) : ∀ j, i + 1 ≤ j → (l.set i x).getD j 0 = 0 := fun j hj => by rw [getD_set_ne (by omega)]; exact h j (by omega)
theorem hz_zero (n i : Nat) : ∀ j, i ≤ j → (List.replicate n 0).getD j 0 = 0 := fun _ _ => rep0
theorem sum_start (A B n : Nat) : dv 256 (List.replicate n 0) + 256 ^ 0 * 0 = A % 256 ^ 0 + B % 256 ^ 0 := by rw [dv_rep, Nat.pow_zero, Nat.mod_one, Nat.mod_one]
theorem dif_start (A B n : Nat) : dv 256 (List.replicate n 0) + B % 256 ^ 0 = A % 256 ^ 0 + 256 ^ 0 * 0 := by rw [dv_rep, Nat.pow_zero, Nat.mod_one, Nat.mod_one]
theorem mul_start0 (b n : Nat) (la lb : List Nat) : dv b (List.replicate n 0) = dv b (la.take 0) * dv b lb := by rw [dv_rep, List.take_zero, dv, Nat.zero_mul]
theorem mulg_begin {b : Nat} {l la lb : List Nat} {i : Nat} {T' : Nat} (h : dv b l = T') : dv b l + b ^ (i + 0) * 0 = T' + b ^ i * (la.getD i 0 * dv b (lb.take 0)) := by rw [h, List.take_zero, dv, Nat.mul_zero, Nat.mul_zero, Nat.mul_zero]
theorem prod8 {x y : Nat} (hx : x < 256) (hy : y < 256) : x * y ≤ 65025 := Nat.mul_le_mul (Nat.le_of_lt_succ hx) (Nat.le_of_lt_succ hy)
theorem carry8_lt {c u x y t c' : Nat} (hx : x < 256) (hy : y < 256) (hu : u < 256) (hc : c < 256) (ht : t = c + u + x * y) (h : c' = t / 256) : c' < 256 := by
  have := prod8 hx hy
  generalize x * y = q at *
  omega
theorem mm8 {t s : Nat} (h : s = t % 256 % 256) : s = t % 256 := by rw [h, Nat.mod_mod]
theorem low8 {c s : Nat} (hc : c < 256) (h : s = c % 256) : s = c := by rw [h, Nat.mod_eq_of_lt hc]
theorem times8_fin {A B i : Nat} (hA : A < 115792089237316195423570985008687907853269984665640564039457584007913129639936) (hB : B < 115792089237316195423570985008687907853269984665640564039457584007913129639936) (h : ¬ i < 32) (hi : i ≤ 32) : dv 256 ((b32 A).take i) * dv 256 (b32 B) = A * B := by
  obtain rfl : i = 32 := by omega
  rw [List.take_of_length_le (by rw [b32_length]; exact Nat.le_refl _), b32_dv hA, b32_dv hB]
theorem inv_e {x8 x9 : Nat} (hx : (b32 ord)[0]? = some x8) (h : x9 = (x8 + (256 - 2)) % 256) : (b32 ord).set 0 x9 = b32 (ord - 2) := by
  obtain ⟨_, rfl⟩ := b32_get hx
  rw [h]
  decide
theorem bit8 {E i x y z : Nat} (hx : (b32 E)[i / 8]? = some x) (hy : y = x / 2 ^ (i % 8)) (hz : z = y % 2) : z = E / 2 ^ i % 2 := by
  obtain ⟨_, rfl⟩ := b32_get hx
  have e : 256 ^ (i / 8) = 2 ^ (8 * (i / 8)) := pow8 _
  have e2 : 256 = 2 ^ (i % 8) * (2 * 2 ^ (8 - i % 8 - 1)) := by
    rw [show 256 = 2 ^ 8 from rfl, ← Nat.pow_succ', ← Nat.pow_add]; congr 1; omega
  rw [hz, hy, e, show E / 2 ^ (8 * (i / 8)) % 256 = E / 2 ^ (8 * (i / 8)) % (2 ^ (i % 8) * (2 * 2 ^ (8 - i % 8 - 1))) from by rw [← e2], Nat.mod_mul_right_div_self, Nat.mod_mul_right_mod, Nat.div_div_eq_div_mul, ← Nat.pow_add]
  congr 3; omega

/-! ### The field -/
open Go.Ev.Nt
instance : NeZero ord := ⟨by decide⟩
theorem prmo : Prm ord := prm_l6
abbrev fo (n : Nat) : Fin ord := fc ord n
theorem o_low {A B : Nat} (hA : A < ord) (hB : B < ord) (h : fo A = fo B) : A = B := by
  have := fc_eq.1 h
  rwa [Nat.mod_eq_of_lt hA, Nat.mod_eq_of_lt hB] at this
theorem fo_mm (a b : Nat) : fo (a * b % ord) = fo a * fo b := by rw [fo, fc_mod, fc_mul]
theorem fo_pow (A E : Nat) : fo (powo A E) = fo A ^ E := by rw [powo_def, fo, fc_mod, fc_pow]
theorem o_inv {A : Nat} (h : A % ord ≠ 0) : A * powo A 7237005577332262213973186563042994240857116359379907606001950938285454250987 % ord = 1 := by
  have hA : fo A ≠ 0 := fun h0 => h (by rw [fo, ← fc_zero, fc_eq, Nat.zero_mod] at h0; exact h0)
  refine o_low (Nat.mod_lt _ ord_pos) (by decide) ?_
  have e := ferm prmo hA
  rw [show ord - 1 = 7237005577332262213973186563042994240857116359379907606001950938285454250987 + 1 from by decide] at e
  rw [show fo 1 = 1 from fc_one, fo_mm, fo_pow]
  generalize 7237005577332262213973186563042994240857116359379907606001950938285454250987 = n at e ⊢
  exact (n_pow_succ _ _).symm.trans e
theorem o_assoc (A B C : Nat) : (A * B % ord) * C % ord = A * (B * C % ord) % ord := by rw [Nat.mod_mul_mod, Nat.mul_mod_mod, Nat.mul_assoc]
theorem o_distr (A B C : Nat) : A * ((B % ord + C % ord) % ord) % ord = ((A * B % ord) % ord + (A * C % ord) % ord) % ord := by
  rw [Nat.mul_mod_mod, Nat.mod_mod, Nat.mod_mod, Nat.mul_add, Nat.add_mod, Nat.mul_mod_mod, Nat.mul_mod_mod]
theorem o_plus (A B C : Nat) : (((A % ord + B % ord) % ord) % ord + C % ord) % ord = (A % ord + ((C % ord + B % ord) % ord) % ord) % ord := by
  simp only [Nat.mod_mod, Nat.mod_add_mod, Nat.add_mod_mod]
  congr 1; omega
theorem o_self (A : Nat) : (A % ord + (ord - A % ord) % ord) % ord = 0 := by
  have h : A % ord < ord := Nat.mod_lt _ ord_pos
  rw [Nat.add_mod_mod, show A % ord + (ord - A % ord) = ord by omega, Nat.mod_self]
theorem o_back {A B N : Nat} (hN : N = (A % ord + 0 % ord) % ord) : (((A % ord + (ord - B % ord) % ord) % ord) % ord + B % ord) % ord = N := by
  have h : B % ord < ord := Nat.mod_lt _ ord_pos
  have e0 : 0 % ord = 0 := by decide
  rw [hN, e0, Nat.add_zero]
  simp only [Nat.mod_mod, Nat.mod_add_mod, Nat.add_mod_mod]
  rw [show A + (ord - B % ord) + B = A + (ord * (B / ord + 1)) by
    have := Nat.div_add_mod B ord
    rw [Nat.mul_add, Nat.mul_one]; omega, Nat.add_mul_mod_self_left]
theorem not_may (x : Nat) : (!(decide (x % ord < ord))) = false := by rw [decide_eq_true (Nat.mod_lt x ord_pos)]; rfl
theorem not_may_of {N x : Nat} (h : N = x % ord) : (!(decide (N < ord))) = false := by rw [h]; exact not_may x
theorem own_eq {A N : Nat} (h : N = (A % ord + 0 % ord) % ord) : N = A % ord := by
  have e0 : 0 % ord = 0 := by decide
  rw [h, e0, Nat.add_zero, Nat.mod_mod]
theorem q_own {A N : Nat} (hA : A < 115792089237316195423570985008687907853269984665640564039457584007913129639936) (h : N = (A % ord + 0 % ord) % ord) : ((decide (A < ord)) != (decide (b32 N = b32 A))) = false := by
  have e : b32 N = b32 A ↔ A < ord := by
    rw [own_eq h, b32_inj (modo_lt A) hA]
    exact ⟨fun e => by rw [← e]; exact Nat.mod_lt _ ord_pos, Nat.mod_eq_of_lt⟩
  rw [decide_eq_decide.2 e, bne_self_eq_false]
theorem q_one1 {A N : Nat} (h : N = (A % ord + 0 % ord) % ord) (hb : decide (b32 N = b32 0) = false) : decide (b32 (A * powo A 7237005577332262213973186563042994240857116359379907606001950938285454250987 % ord) = b32 1) = true := by
  rw [o_inv, decide_eq_true rfl]
  intro h0
  rw [own_eq h, h0] at hb
  exact absurd rfl (of_decide_eq_false hb)
theorem q_one0 {A N M X : Nat} (h : N = (A % ord + 0 % ord) % ord) (hb : decide (b32 N = b32 0) = true) (hM : M = ((A * X % ord) % ord + 1 % ord) % ord) : decide (b32 M = b32 1) = true := by
  have h0 : A % ord = 0 := by
    have := of_decide_eq_true hb
    rw [own_eq h, b32_inj (modo_lt A) (by decide)] at this
    exact this
  have e : M = 1 := by
    rw [hM, Nat.mul_mod, h0, Nat.zero_mul]; decide
  rw [e, decide_eq_true rfl]
theorem known2 : decide (b32 (2 * powo 2 7237005577332262213973186563042994240857116359379907606001950938285454250987 % ord) = b32 1) = true := by
  rw [o_inv (by decide), decide_eq_true rfl]
theorem known_may : (!(decide (ord < ord))) = true := by rw [decide_eq_false (Nat.lt_irrefl _)]; rfl
theorem known_plus : (ord % ord + 2 % ord) % ord = 2 := by decide
end Lm
