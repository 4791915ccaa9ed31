/- Plain number theory in core Lean: Fermat's little theorem, and a certificate that a number is prime. No program in sight. -/
import Derived.KernelRfl
namespace Go.Ev.Nt

def Prm (p : Nat) : Prop := 2 ≤ p ∧ ∀ d, d ∣ p → d = 1 ∨ d = p

theorem Prm.pos {p : Nat} (h : Prm p) : 0 < p := by have := h.1; omega
theorem Prm.coprime {p a : Nat} (h : Prm p) (ha : ¬ p ∣ a) : Nat.Coprime p a := by
  rcases h.2 _ (Nat.gcd_dvd_left p a) with h1 | h1
  · exact h1
  · exact absurd (h1 ▸ Nat.gcd_dvd_right p a) ha
theorem Prm.dvd_mul {p a b : Nat} (h : Prm p) (hd : p ∣ a * b) : p ∣ a ∨ p ∣ b := by
  by_cases ha : p ∣ a
  · exact .inl ha
  · exact .inr ((h.coprime ha).dvd_of_dvd_mul_left hd)

/-! ### Choosing -/
def ch : Nat → Nat → Nat
  | _, 0 => 1
  | 0, _ + 1 => 0
  | n + 1, k + 1 => ch n k + ch n (k + 1)
theorem ch_zero (n : Nat) : ch n 0 = 1 := by cases n <;> rfl
theorem ch_above : ∀ (n k : Nat), n < k → ch n k = 0
  | 0, k + 1, _ => rfl
  | n + 1, k + 1, h => by rw [ch, ch_above n k (by omega), ch_above n (k + 1) (by omega)]
theorem ch_mul : ∀ (n k : Nat), (k + 1) * ch (n + 1) (k + 1) = (n + 1) * ch n k
  | 0, 0 => rfl
  | 0, k + 1 => by rw [ch_above 1 (k + 2) (by omega), ch_above 0 (k + 1) (by omega)]; simp
  | n + 1, 0 => by
    have h := ch_mul n 0
    rw [ch_zero] at h ⊢
    rw [ch, ch_zero]; omega
  | n + 1, k + 1 => by
    have h1 := ch_mul n k
    have h2 := ch_mul n (k + 1)
    rw [ch]
    have e : ch (n + 1) (k + 1) = ch n k + ch n (k + 1) := by rw [ch]
    have a1 : (k + 1 + 1) * (ch (n + 1) (k + 1) + ch (n + 1) (k + 1 + 1)) = (k + 1) * ch (n + 1) (k + 1) + ch (n + 1) (k + 1) + (k + 1 + 1) * ch (n + 1) (k + 1 + 1) := by
      rw [Nat.mul_add, Nat.add_mul (k + 1) 1 (ch (n + 1) (k + 1)), Nat.one_mul]
    rw [a1, h1, h2, Nat.add_mul (n + 1) 1 (ch (n + 1) (k + 1)), Nat.one_mul, e, Nat.mul_add]
    omega
theorem ch_self : ∀ n, ch n n = 1
  | 0 => rfl
  | n + 1 => by rw [ch, ch_self n, ch_above n (n + 1) (by omega)]
theorem ch_dvd {p k : Nat} (h : Prm p) (h0 : 0 < k) (hk : k < p) : p ∣ ch p k := by
  obtain ⟨n, rfl⟩ : ∃ n, p = n + 1 := ⟨p - 1, by omega⟩
  obtain ⟨j, rfl⟩ : ∃ j, k = j + 1 := ⟨k - 1, by omega⟩
  have e := ch_mul n j
  have : n + 1 ∣ (j + 1) * ch (n + 1) (j + 1) := e ▸ Nat.dvd_mul_right _ _
  rcases h.dvd_mul this with h1 | h1
  · exact absurd (Nat.le_of_dvd (by omega) h1) (by omega)
  · exact h1

/-- The sum of the first m terms of (a + 1)^n. -/
def T (n a : Nat) : Nat → Nat
  | 0 => 0
  | m + 1 => T n a m + ch n m * a ^ m
theorem T_step (n a : Nat) : ∀ m, T (n + 1) a (m + 1) = T n a (m + 1) + a * T n a m
  | 0 => by simp [T, ch_zero]
  | m + 1 => by
    have h := T_step n a m
    have e1 : T (n + 1) a (m + 2) = T (n + 1) a (m + 1) + ch (n + 1) (m + 1) * a ^ (m + 1) := rfl
    have e2 : T n a (m + 2) = T n a (m + 1) + ch n (m + 1) * a ^ (m + 1) := rfl
    have e3 : T n a (m + 1) = T n a m + ch n m * a ^ m := rfl
    have e4 : ch (n + 1) (m + 1) = ch n m + ch n (m + 1) := by rw [ch]
    have e5 : a * (T n a m + ch n m * a ^ m) = a * T n a m + ch n m * a ^ (m + 1) := by
      rw [Nat.mul_add, Nat.pow_succ, Nat.mul_left_comm, Nat.mul_comm a (a ^ m)]
    rw [e1, h, e2, e4, Nat.add_mul, e3, e5]
    omega
theorem T_pow (a : Nat) : ∀ n, T n a (n + 1) = (a + 1) ^ n
  | 0 => by simp [T, ch_zero]
  | n + 1 => by
    rw [T_step, T, ch_above n (n + 1) (by omega), T_pow a n, Nat.pow_succ (a + 1), Nat.mul_add, Nat.zero_mul, Nat.mul_comm a]
    omega
theorem T_mod {p : Nat} (h : Prm p) (a : Nat) : ∀ m, m + 1 ≤ p → T p a (m + 1) % p = 1 % p
  | 0, _ => by simp [T, ch_zero]
  | m + 1, hm => by
    have h1 := T_mod h a m (by omega)
    obtain ⟨c, hc⟩ := ch_dvd h (k := m + 1) (by omega) (by omega)
    rw [T, hc, Nat.mul_assoc, Nat.add_mul_mod_self_left, h1]
theorem pow_succ_mod {p : Nat} (h : Prm p) (a : Nat) : (a + 1) ^ p % p = (a ^ p + 1) % p := by
  have h2 := h.1
  obtain ⟨n, rfl⟩ : ∃ n, p = n + 1 := ⟨p - 1, by omega⟩
  rw [← T_pow, T, ch_self, Nat.one_mul, Nat.add_mod, T_mod h a n (by omega), ← Nat.add_mod, Nat.add_comm]

/-- Fermat. -/
theorem fermat {p : Nat} (h : Prm p) : ∀ a, a ^ p % p = a % p
  | 0 => by rw [Nat.zero_pow h.pos]
  | a + 1 => by rw [pow_succ_mod h, Nat.add_mod, fermat h a, ← Nat.add_mod]
theorem fermat1 {p a : Nat} (h : Prm p) (ha : ¬ p ∣ a) : a ^ (p - 1) % p = 1 := by
  have h2 := h.1
  have e := fermat h a
  have e1 : a ^ p = a * a ^ (p - 1) := by rw [← Nat.pow_succ', Nat.succ_eq_add_one, Nat.sub_add_cancel (by omega)]
  have hpos : 0 < a := Nat.pos_of_ne_zero fun h0 => ha (h0 ▸ Nat.dvd_zero p)
  have h1 : 1 ≤ a ^ (p - 1) := Nat.pow_pos hpos
  have hd : p ∣ a * (a ^ (p - 1) - 1) := by
    rw [Nat.mul_sub, Nat.mul_one, ← e1]
    exact Nat.dvd_of_mod_eq_zero (Nat.sub_mod_eq_zero_of_mod_eq e)
  have hd1 := (h.coprime ha).dvd_of_dvd_mul_left hd
  obtain ⟨c, hc⟩ := hd1
  have h3 : a ^ (p - 1) = 1 + p * c := by omega
  rw [h3, Nat.add_mul_mod_self_left, Nat.mod_eq_of_lt (by omega)]

/-! ### Powers that are 1 -/
theorem pow_mod_mul {b r m : Nat} (h : b ^ m % r = 1 % r) (k : Nat) : b ^ (m * k) % r = 1 % r := by
  rw [Nat.pow_mul, Nat.pow_mod, h]
  rcases Nat.lt_or_ge 1 r with h1 | h1
  · rw [Nat.mod_eq_of_lt h1, Nat.one_pow, Nat.mod_eq_of_lt h1]
  · rcases (by omega : r = 0 ∨ r = 1) with rfl | rfl
    · simp
    · omega
theorem pow_gcd {b r : Nat} : ∀ (m n : Nat), b ^ m % r = 1 % r → b ^ n % r = 1 % r → b ^ (Nat.gcd m n) % r = 1 % r := by
  intro m n
  induction m, n using Nat.gcd.induction with
  | H0 n => intro _ h; rwa [Nat.gcd_zero_left]
  | H1 m n hm ih =>
    intro h1 h2
    rw [Nat.gcd_rec]
    refine ih ?_ h1
    have e : b ^ n = b ^ (m * (n / m)) * b ^ (n % m) := by rw [← Nat.pow_add, Nat.div_add_mod]
    rw [e, Nat.mul_mod, pow_mod_mul h1, ← Nat.mul_mod, Nat.one_mul] at h2
    exact h2

/-! ### A certificate -/
theorem prm_divisor : ∀ (n m : Nat), m ≤ n → 2 ≤ m → ∃ r, Prm r ∧ r ∣ m
  | 0, m, h, h2 => by omega
  | n + 1, m, h, h2 => by
    by_cases hp : Prm m
    · exact ⟨m, hp, Nat.dvd_refl m⟩
    · have : ∃ d, d ∣ m ∧ d ≠ 1 ∧ d ≠ m := Classical.byContradiction fun hn => hp ⟨h2, fun d hd => Classical.byContradiction fun hne => hn ⟨d, hd, fun e => hne (.inl e), fun e => hne (.inr e)⟩⟩
      obtain ⟨d, hd, h1, hm⟩ := this
      have hle := Nat.le_of_dvd (by omega) hd
      have hpos := Nat.pos_of_dvd_of_pos hd (by omega)
      obtain ⟨r, hr, hrd⟩ := prm_divisor n d (by omega) (by omega)
      exact ⟨r, hr, Nat.dvd_trans hrd hd⟩
theorem prm_of_small {N : Nat} (h2 : 2 ≤ N) (h : ∀ r, Prm r → r ∣ N → N < r * r) : Prm N := by
  refine ⟨h2, fun d hd => Classical.byContradiction fun hne => ?_⟩
  obtain ⟨e, he⟩ := hd
  have hd1 : d ≠ 1 := fun x => hne (.inl x)
  have hdN : d ≠ N := fun x => hne (.inr x)
  have hd0 : d ≠ 0 := fun x => by subst x; omega
  have he0 : e ≠ 0 := fun x => by subst x; omega
  have he1 : e ≠ 1 := fun x => by subst x; omega
  rcases Nat.le_total d e with hle | hle
  · obtain ⟨r, hr, hrd⟩ := prm_divisor d d (Nat.le_refl d) (by omega)
    have h1 := h r hr (Nat.dvd_trans hrd ⟨e, he⟩)
    have h3 := Nat.le_of_dvd (by omega) hrd
    have h4 : r * r ≤ d * e := Nat.mul_le_mul h3 (Nat.le_trans h3 hle)
    omega
  · obtain ⟨r, hr, hrd⟩ := prm_divisor e e (Nat.le_refl e) (by omega)
    have h1 := h r hr (Nat.dvd_trans hrd ⟨d, by rw [he, Nat.mul_comm]⟩)
    have h3 := Nat.le_of_dvd (by omega) hrd
    have h4 : r * r ≤ d * e := Nat.mul_le_mul (Nat.le_trans h3 hle) h3
    omega

/-- The prime divisors of N are 1 more than a multiple of q. -/
theorem pock {N q R a : Nat} (hq : Prm q) (hN : N = q * R + 1) (h1 : a ^ (q * R) % N = 1) (h2 : Nat.gcd (a ^ R % N + (N - 1)) N = 1) {r : Nat} (hr : Prm r) (hd : r ∣ N) : ∃ k, r = q * k + 1 := by
  have hr2 := hr.1
  obtain ⟨c, hc⟩ := hd
  have m1 : ∀ x, x % N % r = x % r := fun x => by rw [hc, Nat.mod_mul_right_mod]
  have e1 : (a ^ R) ^ q % r = 1 % r := by rw [← Nat.pow_mul, Nat.mul_comm R q, ← m1, h1]
  have hra : ¬ r ∣ a ^ R := fun hx => by
    have : (a ^ R) ^ q % r = 0 := Nat.mod_eq_zero_of_dvd (Nat.dvd_trans hx ⟨(a ^ R) ^ (q - 1), by rw [← Nat.pow_succ', Nat.succ_eq_add_one, Nat.sub_add_cancel hq.pos]⟩)
    rw [this, Nat.mod_eq_of_lt (by omega)] at e1
    omega
  have e2 : (a ^ R) ^ (r - 1) % r = 1 % r := by rw [fermat1 hr hra, Nat.mod_eq_of_lt (by omega)]
  have e3 := pow_gcd _ _ e1 e2
  rcases hq.2 _ (Nat.gcd_dvd_left q (r - 1)) with h | h
  · rw [h, Nat.pow_one] at e3
    have hN1 : r ∣ a ^ R % N + (N - 1) := by
      refine Nat.dvd_of_mod_eq_zero ?_
      rw [Nat.add_mod, m1, e3, ← Nat.add_mod]
      have : 1 + (N - 1) = r * c := by omega
      rw [this, Nat.mul_mod_right]
    have := Nat.dvd_gcd hN1 ⟨c, hc⟩
    rw [h2] at this
    have := Nat.le_of_dvd (by omega) this
    omega
  · obtain ⟨k, hk⟩ := h ▸ Nat.gcd_dvd_right q (r - 1)
    exact ⟨k, by omega⟩

/-- Candidates: none of q k + 1, k up to the given number, divides N. -/
def cand (N q : Nat) : Nat → Bool
  | 0 => true
  | k + 1 => (N % (q * (k + 1) + 1) != 0) && cand N q k
theorem cand_of {N q : Nat} : ∀ {n : Nat}, cand N q n = true → ∀ k, 1 ≤ k → k ≤ n → N % (q * k + 1) ≠ 0
  | 0, _, k, h1, h2 => by omega
  | n + 1, h, k, h1, h2 => by
    rw [cand, Bool.and_eq_true] at h
    rcases Nat.lt_or_ge n k with hk | hk
    · obtain rfl : k = n + 1 := by omega
      simpa using h.1
    · exact cand_of h.2 k h1 hk
theorem pock_prm {N q R a K : Nat} (hq : Prm q) (hN : N = q * R + 1) (hN2 : 2 ≤ N) (h1 : a ^ (q * R) % N = 1) (h2 : Nat.gcd (a ^ R % N + (N - 1)) N = 1)
    (hc : cand N q K = true) (hK : N < (q * (K + 1) + 1) * (q * (K + 1) + 1)) : Prm N := by
  refine prm_of_small hN2 fun r hr hd => ?_
  obtain ⟨k, rfl⟩ := pock hq hN h1 h2 hr hd
  have hr2 := hr.1
  have hk : 1 ≤ k := Nat.pos_of_ne_zero fun h0 => by subst h0; omega
  rcases Nat.lt_or_ge K k with h | h
  · have : q * (K + 1) + 1 ≤ q * k + 1 := Nat.succ_le_succ (Nat.mul_le_mul_left q h)
    exact Nat.lt_of_lt_of_le hK (Nat.mul_le_mul this this)
  · exact absurd (Nat.mod_eq_zero_of_dvd hd) (cand_of hc k hk h)
theorem trial_prm {N K : Nat} (h2 : 2 ≤ N) (hc : cand N 1 K = true) (hK : N < (K + 2) * (K + 2)) : Prm N := by
  refine prm_of_small h2 fun r hr hd => ?_
  have hr2 := hr.1
  rcases Nat.lt_or_ge (K + 1) r with h | h
  · exact Nat.lt_of_lt_of_le hK (Nat.mul_le_mul h h)
  · have := cand_of hc (r - 1) (by omega) (by omega)
    rw [Nat.one_mul, Nat.sub_add_cancel (by omega)] at this
    exact absurd (Nat.mod_eq_zero_of_dvd hd) this

/-! ### Powers modulo, reckoned -/
def pm (n : Nat) : Nat → Nat → Nat → Nat
  | 0, _, _ => 1 % n
  | f + 1, a, e => bif e == 0 then 1 % n else bif e % 2 == 0 then pm n f (a * a % n) (e / 2) else a * pm n f (a * a % n) (e / 2) % n
theorem pm_eq (n : Nat) : ∀ (f a e : Nat), e < 2 ^ f → pm n f a e = a ^ e % n
  | 0, a, e, h => by
    obtain rfl : e = 0 := by simpa using h
    rfl
  | f + 1, a, e, h => by
    have ih := pm_eq n f (a * a % n) (e / 2) (by rw [Nat.pow_succ] at h; omega)
    have e1 : (a * a % n) ^ (e / 2) % n = a ^ (2 * (e / 2)) % n := by
      rw [← Nat.pow_mod, Nat.pow_mul, Nat.pow_two]
    rw [pm, ih, e1]
    by_cases h0 : e = 0
    · subst h0; simp
    · have hb : (e == 0) = false := by simpa using h0
      rw [hb, cond_false]
      rcases Nat.mod_two_eq_zero_or_one e with h1 | h1
      · have : 2 * (e / 2) = e := by omega
        simp [h1, this]
      · have h3 : e = 2 * (e / 2) + 1 := by omega
        have h4 : (e % 2 == 0) = false := by simp [h1]
        rw [h4, cond_false, Nat.mul_mod, Nat.mod_mod, ← Nat.mul_mod]
        conv => rhs; rw [h3, Nat.pow_succ, Nat.mul_comm]
end Go.Ev.Nt
