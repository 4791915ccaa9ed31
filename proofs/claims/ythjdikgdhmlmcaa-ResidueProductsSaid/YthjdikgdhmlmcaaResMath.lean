/- Plain numbers of layer 2: what is left of a number by l; no program in sight. -/
import Derived.Test.YthjdikgdhmlmcaaLimbMath5
import Derived.Test.YthjdikgdhmlmcaaNF
import Derived.Test.YthjdikgdhmlmcaaNT2
namespace Lm
/-- l. -/
def ord : Nat := 7237005577332262213973186563042994240857116359379907606001950938285454250989
theorem ord_pos : 0 < ord := by decide
theorem ord_lt : ord < 115792089237316195423570985008687907853269984665640564039457584007913129639936 := by decide
theorem modo_lt (x : Nat) : x % ord < 115792089237316195423570985008687907853269984665640564039457584007913129639936 := Nat.lt_trans (Nat.mod_lt x ord_pos) ord_lt
theorem lto {x y : Nat} (h : x = y % ord) : x < 115792089237316195423570985008687907853269984665640564039457584007913129639936 := by rw [h]; exact modo_lt y
theorem ltoo {x y : Nat} (h : x = y % ord) : x < ord := by rw [h]; exact Nat.mod_lt _ ord_pos

/-! ### Words out of bytes -/
theorem read_g {n N i x y d : Nat} (hi : i < 8 * n) (hx : (dg 18446744073709551616 n (N % 256 ^ i))[i / 8]? = some x) (hd : d = N / 256 ^ i % 256) (hy : y = x ||| (d * 2 ^ (8 * (i % 8)) % 18446744073709551616)) : (dg 18446744073709551616 n (N % 256 ^ i)).set (i / 8) y = dg 18446744073709551616 n (N % 256 ^ (i + 1)) := by
  have hk : i / 8 < n := by omega
  have hx' : x = N % 256 ^ i / 18446744073709551616 ^ (i / 8) % 18446744073709551616 := by
    rw [dg_get hk] at hx; exact (Option.some.inj hx).symm
  have hd' : d < 256 := by rw [hd]; exact Nat.mod_lt _ (by decide)
  have hr : i = 8 * (i / 8) + i % 8 := by omega
  have hMM : ∀ k, 18446744073709551616 ^ k = 2 ^ (64 * k) := fun k => by rw [show 18446744073709551616 = 2 ^ 64 from rfl, ← Nat.pow_mul]
  rw [hMM] at hx'
  generalize hkk : i / 8 = k at *
  generalize hrr : i % 8 = r at *
  have hr8 : r < 8 := by omega
  have e1 : 256 ^ i = 2 ^ (64 * k) * 2 ^ (8 * r) := by rw [pow8, ← Nat.pow_add]; congr 1; omega
  have hx2 : x = N / 2 ^ (64 * k) % 2 ^ (8 * r) := by
    rw [hx', e1, Nat.mod_mul_right_div_self]
    exact Nat.mod_eq_of_lt (Nat.lt_of_lt_of_le (Nat.mod_lt _ (Nat.two_pow_pos _)) (by rw [show 18446744073709551616 = 2 ^ 64 from rfl]; exact Nat.pow_le_pow_right (by decide) (by omega)))
  have hxl : x < 2 ^ (8 * r) := by rw [hx2]; exact Nat.mod_lt _ (Nat.two_pow_pos _)
  have hdl : d * 2 ^ (8 * r) % 18446744073709551616 = d * 2 ^ (8 * r) := by
    refine Nat.mod_eq_of_lt (Nat.lt_of_lt_of_le ((Nat.mul_lt_mul_right (Nat.two_pow_pos _)).2 hd') ?_)
    rw [show 256 = 2 ^ 8 from rfl, ← Nat.pow_add, show 18446744073709551616 = 2 ^ 64 from rfl]
    exact Nat.pow_le_pow_right (by decide) (by omega)
  have hy2 : y = x + 2 ^ (8 * r) * d := by
    rw [hy, hdl, Nat.or_comm, Nat.mul_comm d, ← Nat.two_pow_add_eq_or_of_lt hxl, Nat.add_comm]
  have hP : 18446744073709551616 ^ n = 256 ^ (8 * n) := by rw [show 18446744073709551616 = 256 ^ 8 from rfl, ← Nat.pow_mul]
  have hlt : ∀ j, j ≤ 8 * n → N % 256 ^ j < 18446744073709551616 ^ n := fun j hj => Nat.lt_of_lt_of_le (Nat.mod_lt _ (Nat.pow_pos (by decide))) (by rw [hP]; exact Nat.pow_le_pow_right (by decide) hj)
  have hgk : (dg 18446744073709551616 n (N % 256 ^ i))[k]'(by rw [dg_length]; omega) = x := (List.getElem?_eq_some_iff.1 hx).2
  have hs := dv_set 18446744073709551616 (dg 18446744073709551616 n (N % 256 ^ i)) k y (by rw [dg_length]; omega)
  rw [hgk, dv_dg 18446744073709551616 n _ (hlt i (by omega)), hMM] at hs
  have hy64 : y < 18446744073709551616 := by
    rw [hy]; exact Nat.or_lt_two_pow (n := 64) (Nat.lt_of_lt_of_le hxl (Nat.pow_le_pow_right (by decide) (by omega))) (Nat.mod_lt _ (by decide))
  have h4 : N % 256 ^ (i + 1) = N % 256 ^ i + 256 ^ i * d := by rw [hd, Nat.pow_succ, Nat.mod_mul]
  have h5 : 2 ^ (64 * k) * (x + 2 ^ (8 * r) * d) = 2 ^ (64 * k) * x + 256 ^ i * d := by rw [Nat.mul_add, ← Nat.mul_assoc, ← e1]
  rw [hy2, h5] at hs
  have e2 : dv 18446744073709551616 ((dg 18446744073709551616 n (N % 256 ^ i)).set k y) = N % 256 ^ (i + 1) := by rw [hy2, h4]; omega
  have hr : ∀ u ∈ (dg 18446744073709551616 n (N % 256 ^ i)).set k y, u < 18446744073709551616 := fun u hu => by
    rcases List.mem_or_eq_of_mem_set hu with h | h
    · obtain ⟨j, _, rfl⟩ := List.mem_map.1 h
      exact Nat.mod_lt _ (by decide)
    · rw [h]; exact hy64
  have := dg_dv hr
  rw [List.length_set, dg_length, e2] at this
  exact this.symm
theorem dg_lt {b n N : Nat} (hb : 0 < b) : ∀ u ∈ dg b n N, u < b := by
  intro u hu
  obtain ⟨j, _, rfl⟩ := List.mem_map.1 hu
  exact Nat.mod_lt _ hb
theorem w4_dg (N : Nat) : w4 N = dg 18446744073709551616 4 N := by simp [w4, dg, List.range_succ]
theorem w8_init (N : Nat) : [0, 0, 0, 0, 0, 0, 0, 0] = dg 18446744073709551616 8 (N % 256 ^ 0) := by rw [Nat.pow_zero, Nat.mod_one]; rfl
theorem w8_done {N i : Nat} (hN : N < 256 ^ 64) (h : ¬ i < 64) (hi : i ≤ 64) : N % 256 ^ i = N := by
  obtain rfl : i = 64 := by omega
  exact Nat.mod_eq_of_lt hN
theorem dg_at {b n N i x : Nat} (h : (dg b n N)[i]? = some x) : i < n ∧ x = N / b ^ i % b := by
  have hi : i < n := by rw [← dg_length b n N]; exact (List.getElem?_eq_some_iff.1 h).1
  rw [dg_get hi] at h
  exact ⟨hi, (Option.some.inj h).symm⟩

/-! ### What is left by l, bit by bit -/
theorem shl1 {w i y j : Nat} (rw_ : w < 18446744073709551616) (hi : i ≤ 1) (hy : y = (w * 2 ^ 1 % 18446744073709551616) ||| i) (hj : j = w / 2 ^ 63) : y + 18446744073709551616 * j = 2 * w + i ∧ y < 18446744073709551616 ∧ j ≤ 1 := by
  have e : w * 2 ^ 1 % 18446744073709551616 = 2 ^ 1 * (w % 2 ^ 63) := by omega
  rw [e, ← Nat.two_pow_add_eq_or_of_lt (by omega : i < 2 ^ 1)] at hy
  omega
theorem rest_v {w0 w1 w2 w3 b i1 i2 i3 : Nat} (r0 : w0 < 18446744073709551616) (r1 : w1 < 18446744073709551616) (r2 : w2 < 18446744073709551616) (r3 : w3 < 18446744073709551616) (hb : b ≤ 1) (h1 : i1 = w0 / 2 ^ 63) (h2 : i2 = w1 / 2 ^ 63) (h3 : i3 = w2 / 2 ^ 63) (hQ : wv [w0, w1, w2, w3] < ord) :
    wv [(w0 * 2 ^ 1 % 18446744073709551616) ||| b, (w1 * 2 ^ 1 % 18446744073709551616) ||| i1, (w2 * 2 ^ 1 % 18446744073709551616) ||| i2, (w3 * 2 ^ 1 % 18446744073709551616) ||| i3] = 2 * wv [w0, w1, w2, w3] + b := by
  obtain ⟨a0, b0, c0⟩ := shl1 r0 hb rfl h1
  obtain ⟨a1, b1, c1⟩ := shl1 r1 c0 rfl h2
  obtain ⟨a2, b2, c2⟩ := shl1 r2 c1 rfl h3
  obtain ⟨a3, b3, c3⟩ := shl1 r3 c2 rfl rfl
  generalize (w0 * 2 ^ 1 % 18446744073709551616) ||| b = y0 at *
  generalize (w1 * 2 ^ 1 % 18446744073709551616) ||| i1 = y1 at *
  generalize (w2 * 2 ^ 1 % 18446744073709551616) ||| i2 = y2 at *
  generalize (w3 * 2 ^ 1 % 18446744073709551616) ||| i3 = y3 at *
  simp only [dv, ord] at hQ ⊢
  omega
theorem words_bit {l : List Nat} {n i x x24 b : Nat} (hl : l.length = n) (hr : ∀ u ∈ l, u < 18446744073709551616) (hx : l[i / 64]? = some x) (h24 : x24 = x / 2 ^ (i % 64)) (hb : b = x24 &&& 1) : b = wv l / 2 ^ i % 2 := by
  have e := dg_dv hr
  rw [hl] at e
  rw [← e] at hx
  obtain ⟨_, rfl⟩ := dg_at hx
  have hM : 18446744073709551616 ^ (i / 64) = 2 ^ (64 * (i / 64)) := by rw [show 18446744073709551616 = 2 ^ 64 from rfl, ← Nat.pow_mul]
  have e2 : 18446744073709551616 = 2 ^ (i % 64) * (2 * 2 ^ (64 - i % 64 - 1)) := by
    rw [show 18446744073709551616 = 2 ^ 64 from rfl, ← Nat.pow_succ', ← Nat.pow_add]; congr 1; omega
  rw [hb, Nat.and_one_is_mod, h24, hM]
  rw [show dv 18446744073709551616 l / 2 ^ (64 * (i / 64)) % 18446744073709551616 = dv 18446744073709551616 l / 2 ^ (64 * (i / 64)) % (2 ^ (i % 64) * (2 * 2 ^ (64 - i % 64 - 1))) from by rw [← e2], Nat.mod_mul_right_div_self, Nat.mod_mul_right_mod, Nat.div_div_eq_div_mul, ← Nat.pow_add]
  congr 3; omega
theorem half_mod {N i q b : Nat} (hq : q = N / 2 ^ (i + 1) % ord) (hb : b = N / 2 ^ i % 2) : N / 2 ^ i % ord = (2 * q + b) % ord := by
  have e : N / 2 ^ i = 2 * (N / 2 ^ (i + 1)) + b := by rw [Nat.pow_succ, ← Nat.div_div_eq_div_mul, hb]; omega
  rw [e, hq, Nat.add_mod (2 * (N / 2 ^ (i + 1))), Nat.mul_mod 2 (N / 2 ^ (i + 1)), Nat.add_mod (2 * _), Nat.mul_mod 2 (_ % ord), Nat.mod_mod]
theorem wv_ord : wv (w4 ord) = ord := wv_w4 ord_lt
theorem rest_t {w0 w1 w2 w3 b i1 i2 i3 n x x24 i k N : Nat} {l : List Nat} (r0 : w0 < 18446744073709551616) (r1 : w1 < 18446744073709551616) (r2 : w2 < 18446744073709551616) (r3 : w3 < 18446744073709551616) (hl : l.length = n ∧ ∀ u ∈ l, u < 18446744073709551616) (hx : l[i / 64]? = some x) (h24 : x24 = x / 2 ^ (i % 64)) (hb : b = x24 &&& 1)
    (h1 : i1 = w0 / 2 ^ 63) (h2 : i2 = w1 / 2 ^ 63) (h3 : i3 = w2 / 2 ^ 63) (hw : wv [w0, w1, w2, w3] = wv l / 2 ^ (i + 1) % ord)
    (hN : N = (wv [(w0 * 2 ^ 1 % 18446744073709551616) ||| b, (w1 * 2 ^ 1 % 18446744073709551616) ||| i1, (w2 * 2 ^ 1 % 18446744073709551616) ||| i2, (w3 * 2 ^ 1 % 18446744073709551616) ||| i3] + (115792089237316195423570985008687907853269984665640564039457584007913129639936 - wv (w4 ord))) % 115792089237316195423570985008687907853269984665640564039457584007913129639936)
    (hk : k = if wv [(w0 * 2 ^ 1 % 18446744073709551616) ||| b, (w1 * 2 ^ 1 % 18446744073709551616) ||| i1, (w2 * 2 ^ 1 % 18446744073709551616) ||| i2, (w3 * 2 ^ 1 % 18446744073709551616) ||| i3] < wv (w4 ord) then 1 else 0) :
    ((k : Int) = 0 → wv (w4 N) = wv l / 2 ^ i % ord) ∧ (¬ (k : Int) = 0 → wv [(w0 * 2 ^ 1 % 18446744073709551616) ||| b, (w1 * 2 ^ 1 % 18446744073709551616) ||| i1, (w2 * 2 ^ 1 % 18446744073709551616) ||| i2, (w3 * 2 ^ 1 % 18446744073709551616) ||| i3] = wv l / 2 ^ i % ord) := by
  have hbit := words_bit hl.1 hl.2 hx h24 hb
  have hb1 : b ≤ 1 := by rw [hbit]; omega
  have hQ : wv [w0, w1, w2, w3] < ord := by rw [hw]; exact Nat.mod_lt _ ord_pos
  have hv := rest_v r0 r1 r2 r3 hb1 h1 h2 h3 hQ
  rw [hv, wv_ord] at hN hk
  rw [hv, half_mod hw hbit]
  generalize wv [w0, w1, w2, w3] = q at *
  have ho : 2 * ord < 115792089237316195423570985008687907853269984665640564039457584007913129639936 := by decide
  constructor
  · intro h0
    have hge : ord ≤ 2 * q + b := by
      by_cases h : 2 * q + b < ord
      · rw [if_pos h] at hk; omega
      · omega
    have hN' : N = 2 * q + b - ord := by rw [hN]; omega
    rw [wv_w4 (by rw [hN']; omega), hN', Nat.mod_eq_sub_mod hge, Nat.mod_eq_of_lt (by omega)]
  · intro h0
    have hlt : 2 * q + b < ord := by
      by_cases h : 2 * q + b < ord
      · exact h
      · rw [if_neg h] at hk; omega
    rw [Nat.mod_eq_of_lt hlt]
theorem rest_init {n : Nat} {l : List Nat} (hl : l.length = n ∧ ∀ u ∈ l, u < 18446744073709551616) : wv [0, 0, 0, 0] = wv l / 2 ^ (64 * n) % ord := by
  have h := dv_lt_pow hl.2
  rw [hl.1] at h
  have e : 2 ^ (64 * n) = 18446744073709551616 ^ n := by rw [show 18446744073709551616 = 2 ^ 64 from rfl, ← Nat.pow_mul]
  rw [e, Nat.div_eq_of_lt h, Nat.zero_mod]; rfl
theorem rest_done {w0 w1 w2 w3 N j : Nat} (r0 : w0 < 18446744073709551616) (r1 : w1 < 18446744073709551616) (r2 : w2 < 18446744073709551616) (r3 : w3 < 18446744073709551616) (hj : j = 0) (hw : wv [w0, w1, w2, w3] = N / 2 ^ j % ord) : [w0, w1, w2, w3] = w4 (N % ord) := by
  rw [hj, Nat.pow_zero, Nat.div_one] at hw
  exact w4_ext r0 r1 r2 r3 hw

/-! ### Sums, differences, products, powers -/
theorem may_fin {k A : Nat} (hA : A < 115792089237316195423570985008687907853269984665640564039457584007913129639936) (hk : k = if wv (w4 A) < wv (w4 ord) then 1 else 0) : (((k : Nat) : Int) == ((1 : Nat) : Int)) = decide (A < ord) := by
  rw [wv_w4 hA, wv_ord] at hk
  by_cases h : A < ord
  · rw [if_pos h] at hk; rw [hk, decide_eq_true h]; rfl
  · rw [if_neg h] at hk; rw [hk, decide_eq_false h]; rfl
theorem wide_val {A : Nat} (hA : A < 256 ^ 64) : wv (dg 18446744073709551616 8 A) = A := dv_dg 18446744073709551616 8 A (by rw [show 18446744073709551616 ^ 8 = 256 ^ 64 from by decide]; exact hA)
theorem two_ord : 2 * ord < 115792089237316195423570985008687907853269984665640564039457584007913129639936 := by decide
theorem plus_fin {A B x y : Nat} (h : y = (wv [A % ord % 18446744073709551616, A % ord / 18446744073709551616 % 18446744073709551616, A % ord / 340282366920938463463374607431768211456 % 18446744073709551616, A % ord / 6277101735386680763835789423207666416102355444464034512896 % 18446744073709551616] + wv [B % ord % 18446744073709551616, B % ord / 18446744073709551616 % 18446744073709551616, B % ord / 340282366920938463463374607431768211456 % 18446744073709551616, B % ord / 6277101735386680763835789423207666416102355444464034512896 % 18446744073709551616]) % 115792089237316195423570985008687907853269984665640564039457584007913129639936) (hx : x = wv (w4 y)) : x = A % ord + B % ord := by
  have h1 : wv [A % ord % 18446744073709551616, A % ord / 18446744073709551616 % 18446744073709551616, A % ord / 340282366920938463463374607431768211456 % 18446744073709551616, A % ord / 6277101735386680763835789423207666416102355444464034512896 % 18446744073709551616] = A % ord := wv_w4 (modo_lt A)
  have h2 : wv [B % ord % 18446744073709551616, B % ord / 18446744073709551616 % 18446744073709551616, B % ord / 340282366920938463463374607431768211456 % 18446744073709551616, B % ord / 6277101735386680763835789423207666416102355444464034512896 % 18446744073709551616] = B % ord := wv_w4 (modo_lt B)
  have h3 : A % ord < ord := Nat.mod_lt _ ord_pos
  have h4 : B % ord < ord := Nat.mod_lt _ ord_pos
  have h5 := two_ord
  rw [h1, h2, Nat.mod_eq_of_lt (by omega)] at h
  rw [hx, h, wv_w4 (by omega)]
theorem plus_sum {A B x0 x1 x2 x3 k0 k1 k2 : Nat} (e0 : x0 = (A % ord % 18446744073709551616 + B % ord % 18446744073709551616 + 0) % 18446744073709551616) (f0 : k0 = (A % ord % 18446744073709551616 + B % ord % 18446744073709551616 + 0) / 18446744073709551616)
    (e1 : x1 = (A % ord / 18446744073709551616 % 18446744073709551616 + B % ord / 18446744073709551616 % 18446744073709551616 + k0) % 18446744073709551616) (f1 : k1 = (A % ord / 18446744073709551616 % 18446744073709551616 + B % ord / 18446744073709551616 % 18446744073709551616 + k0) / 18446744073709551616) (e2 : x2 = (A % ord / 340282366920938463463374607431768211456 % 18446744073709551616 + B % ord / 340282366920938463463374607431768211456 % 18446744073709551616 + k1) % 18446744073709551616) (f2 : k2 = (A % ord / 340282366920938463463374607431768211456 % 18446744073709551616 + B % ord / 340282366920938463463374607431768211456 % 18446744073709551616 + k1) / 18446744073709551616)
    (e3 : x3 = (A % ord / 6277101735386680763835789423207666416102355444464034512896 % 18446744073709551616 + B % ord / 6277101735386680763835789423207666416102355444464034512896 % 18446744073709551616 + k2) % 18446744073709551616) : wv [x0, x1, x2, x3] = A % ord + B % ord := by
  obtain ⟨h, _⟩ := plus_math f0 f1 f2 rfl
  rw [← e0, ← e1, ← e2, ← e3] at h
  exact plus_fin rfl (congrArg wv h)
theorem times_fin {A B i : Nat} (h : ¬ i < 4) (hi : i ≤ 4) : wv ((w4 (A % ord)).take i) * wv (w4 (B % ord)) % ord = A * B % ord := by
  obtain rfl : i = 4 := by omega
  rw [show (w4 (A % ord)).take 4 = w4 (A % ord) from rfl, wv_w4 (modo_lt A), wv_w4 (modo_lt B), ← Nat.mul_mod]
theorem minus_o (B : Nat) : (wv (w4 ord) + (115792089237316195423570985008687907853269984665640564039457584007913129639936 - wv (w4 (B % ord)))) % 115792089237316195423570985008687907853269984665640564039457584007913129639936 = ord - B % ord := by
  rw [wv_ord, wv_w4 (modo_lt B)]
  have h1 : B % ord < ord := Nat.mod_lt _ ord_pos
  have h2 := ord_lt
  omega
theorem powo_ex : ∃ f : Nat → Nat → Nat, ∀ A E, f A E = A ^ E % ord := ⟨fun A E => A ^ E % ord, fun _ _ => rfl⟩
noncomputable def powo : Nat → Nat → Nat := Classical.choose powo_ex
theorem powo_def (A E : Nat) : powo A E = A ^ E % ord := Classical.choose_spec powo_ex A E
theorem powo_lt (A E : Nat) : powo A E < 115792089237316195423570985008687907853269984665640564039457584007913129639936 := by rw [powo_def]; exact modo_lt _
theorem ltpo {x A E : Nat} (h : x = powo A E) : x < 115792089237316195423570985008687907853269984665640564039457584007913129639936 := by rw [h]; exact powo_lt A E
theorem powo_zero (A : Nat) : powo A 0 = 1 := by rw [powo_def, Nat.pow_zero]; decide
theorem powo_dbl (A E : Nat) : powo A E * powo A E % ord = powo A (2 * E) := by
  rw [powo_def, powo_def, ← Nat.mul_mod, ← Nat.pow_add, ← Nat.two_mul]
theorem powo_succ (A E : Nat) : powo A E * A % ord = powo A (E + 1) := by
  rw [powo_def, powo_def, Nat.mod_mul_mod, Nat.pow_succ]
theorem powo_low (A E : Nat) : powo A E % ord = powo A E := by rw [powo_def, Nat.mod_mod]
theorem tm {a b : Nat} : (a % ord) * (b % ord) % ord = a * b % ord := (Nat.mul_mod a b ord).symm
theorem po_sq {A E m N N' : Nat} (hN : N = powo A (E / 2 ^ (m + 1))) (h' : N' = N * N % ord) : N' = powo A (2 * (E / 2 ^ (m + 1))) := by rw [h', hN, powo_dbl]
theorem po_step1 {A E m N N' M y : Nat} (hN : N = powo A (E / 2 ^ (m + 1))) (h' : N' = N * N % ord) (hy : y = E / 2 ^ m % 2) (h1 : (y : Int) = 1) (hM : M = N' * A % ord) : M = powo A (E / 2 ^ m) := by
  rw [hM, po_sq hN h', powo_succ]; congr 1
  have e := half_up E m; omega
theorem po_step0 {A E m N N' y : Nat} (hN : N = powo A (E / 2 ^ (m + 1))) (h' : N' = N * N % ord) (hy : y = E / 2 ^ m % 2) (h1 : ¬ (y : Int) = 1) : N' = powo A (E / 2 ^ m) := by
  rw [po_sq hN h']; congr 1
  have e := half_up E m; omega
theorem po_init {A E n : Nat} (h : E < 2 ^ n) : 1 = powo A (E / 2 ^ n) := by rw [Nat.div_eq_of_lt h, powo_zero]
theorem po_done {A E j : Nat} (h : j = 0) : powo A (E / 2 ^ j) = powo A E := by rw [h, Nat.pow_zero, Nat.div_one]
theorem ord2 : (wv (w4 ord) + (115792089237316195423570985008687907853269984665640564039457584007913129639936 - wv [2, 0, 0, 0])) % 115792089237316195423570985008687907853269984665640564039457584007913129639936 = ord - 2 := by decide
end Lm
