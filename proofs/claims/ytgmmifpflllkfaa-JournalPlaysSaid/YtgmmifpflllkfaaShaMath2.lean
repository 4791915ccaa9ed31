/- The sums of layer 6: what the walks' last steps ask. -/
import Derived.Test.YtgmmifpflllkfaaShaMath
namespace Sm

theorem rot_amt32 {j : Nat} (h0 : 0 < j) (h : j < 32) : (18446744073709551616 - j) &&& 31 = 32 - j := by
  rw [show (31 : Nat) = 2 ^ 5 - 1 from rfl, Nat.and_two_pow_sub_one_eq_mod]; omega
theorem rot_amt64 {j : Nat} (h0 : 0 < j) (h : j < 64) : (18446744073709551616 - j) &&& 63 = 64 - j := by
  rw [show (63 : Nat) = 2 ^ 6 - 1 from rfl, Nat.and_two_pow_sub_one_eq_mod]; omega
theorem rot_fin32 {j x : Nat} (h0 : 0 < j) (h : j < 32) (hx : x < 4294967296) : x * 2 ^ (32 - j) % 4294967296 ||| x / 2 ^ ((32 + (18446744073709551616 - (32 - j))) % 18446744073709551616) = ror 32 j x := by
  rw [show (32 + (18446744073709551616 - (32 - j))) % 18446744073709551616 = j by omega]
  exact ror_or (B := 32) h hx
theorem rot_fin64 {j x : Nat} (h0 : 0 < j) (h : j < 64) (hx : x < 18446744073709551616) : x * 2 ^ (64 - j) % 18446744073709551616 ||| x / 2 ^ ((64 + (18446744073709551616 - (64 - j))) % 18446744073709551616) = ror 64 j x := by
  rw [show (64 + (18446744073709551616 - (64 - j))) % 18446744073709551616 = j by omega]
  exact ror_or (B := 64) h hx
theorem cut32 {x : Nat} : x * 2 ^ 32 % 18446744073709551616 / 2 ^ 32 = x % 4294967296 := cut_eq (B := 32) (by decide)
theorem cut64 {x : Nat} : x * 2 ^ 0 % 18446744073709551616 / 2 ^ 0 = x % 18446744073709551616 := cut_eq (B := 64) (by decide)
theorem right32 {x n : Nat} : (x / 2 ^ n + x * 2 ^ (32 - n) % 18446744073709551616) % 18446744073709551616 % 4294967296 = ror 32 n x := ror_ref (B := 32) (by decide)
theorem right64 {x n : Nat} : (x / 2 ^ n + x * 2 ^ (64 - n) % 18446744073709551616) % 18446744073709551616 % 18446744073709551616 = ror 64 n x := ror_ref (B := 64) (by decide)
end Sm
namespace Sm
theorem ror_lt64_32 (n x : Nat) : ror 32 n x < 18446744073709551616 := Nat.lt_of_lt_of_le (ror_lt 32 n x) (by decide)
theorem ror_lt64_64 (n x : Nat) : ror 64 n x < 18446744073709551616 := ror_lt 64 n x
end Sm
namespace Sm
theorem m256_0 (x : Nat) : mix k256 0 x = (ror 32 2 x ^^^ ror 32 13 x) ^^^ ror 32 22 x := by simp [mix, k256]
theorem m256_1 (x : Nat) : mix k256 1 x = (ror 32 6 x ^^^ ror 32 11 x) ^^^ ror 32 25 x := by simp [mix, k256]
theorem m256_2 (x : Nat) : mix k256 2 x = (ror 32 7 x ^^^ ror 32 18 x) ^^^ x / 2 ^ 3 := by simp [mix, k256]
theorem m256_3 (x : Nat) : mix k256 3 x = (ror 32 17 x ^^^ ror 32 19 x) ^^^ x / 2 ^ 10 := by simp [mix, k256]
theorem m512_0 (x : Nat) : mix k512 0 x = (ror 64 28 x ^^^ ror 64 34 x) ^^^ ror 64 39 x := by simp [mix, k512]
theorem m512_1 (x : Nat) : mix k512 1 x = (ror 64 14 x ^^^ ror 64 18 x) ^^^ ror 64 41 x := by simp [mix, k512]
theorem m512_2 (x : Nat) : mix k512 2 x = (ror 64 1 x ^^^ ror 64 8 x) ^^^ x / 2 ^ 7 := by simp [mix, k512]
theorem m512_3 (x : Nat) : mix k512 3 x = (ror 64 19 x ^^^ ror 64 61 x) ^^^ x / 2 ^ 6 := by simp [mix, k512]
end Sm
namespace Sm
theorem or_add {i a b : Nat} (hb : b < 2 ^ i) : a * 2 ^ i ||| b = a * 2 ^ i + b := by
  rw [Nat.mul_comm, ← Nat.two_pow_add_eq_or_of_lt hb]
theorem four {l : List Nat} {i b0 b1 b2 b3 : Nat} (h0 : l[i]? = some b0) (h1 : l[i + 1]? = some b1) (h2 : l[i + 2]? = some b2) (h3 : l[i + 3]? = some b3) : (l.drop i).take 4 = [b0, b1, b2, b3] := by
  apply List.ext_getElem?
  intro j
  rw [List.getElem?_take, List.getElem?_drop]
  match j with
  | 0 => simpa using h0
  | 1 => simpa using h1
  | 2 => simpa using h2
  | 3 => simpa using h3
  | j + 4 => simp; omega
theorem word256_lo {l W : List Nat} {t b0 b1 b2 b3 : Nat} (ht' : ((t : Nat) : Int) < ((16 : Nat) : Int)) (hl : ∀ u ∈ l, u < 256) (h0 : l[4 * t]? = some b0) (h1 : l[4 * t + 1]? = some b1) (h2 : l[4 * t + 2]? = some b2) (h3 : l[4 * t + 3]? = some b3) :
    (((b0 * 2 ^ 24 % 4294967296) ||| (b1 * 2 ^ 16 % 4294967296)) ||| (b2 * 2 ^ 8 % 4294967296)) ||| b3 = word k256 l W t := by
  have ht : t < 16 := by omega
  have m : ∀ {i u : Nat}, l[i]? = some u → u < 256 := fun h => hl _ (List.mem_of_getElem? h)
  have r0 := m h0
  have r1 := m h1
  have r2 := m h2
  have r3 := m h3
  have e0 : b0 * 2 ^ 24 % 4294967296 = b0 * 2 ^ 24 := Nat.mod_eq_of_lt (by omega)
  have e1 : b1 * 2 ^ 16 % 4294967296 = b1 * 2 ^ 16 := Nat.mod_eq_of_lt (by omega)
  have e2 : b2 * 2 ^ 8 % 4294967296 = b2 * 2 ^ 8 := Nat.mod_eq_of_lt (by omega)
  rw [e0, e1, e2, or_add (by omega : b1 * 2 ^ 16 < 2 ^ 24), show b0 * 2 ^ 24 + b1 * 2 ^ 16 = (b0 * 2 ^ 8 + b1) * 2 ^ 16 by omega, or_add (by omega : b2 * 2 ^ 8 < 2 ^ 16),
    show (b0 * 2 ^ 8 + b1) * 2 ^ 16 + b2 * 2 ^ 8 = ((b0 * 2 ^ 8 + b1) * 2 ^ 8 + b2) * 2 ^ 8 by omega, or_add (by omega : b3 < 2 ^ 8)]
  unfold word
  rw [if_pos ht, show size k256 = 4 from rfl, Nat.mul_comm t 4, four h0 h1 h2 h3]
  simp only [be, List.foldl_cons, List.foldl_nil]
  omega
theorem word256_hi {l W : List Nat} {t x y u v : Nat} (ht' : ¬ ((t : Nat) : Int) < ((16 : Nat) : Int)) (hx : x = W.getD (t - 2) 0) (hy : y = W.getD (t - 15) 0) (hu : u = W.getD (t - 7) 0) (hv : v = W.getD (t - 16) 0) :
    ((((((ror 32 17 x ^^^ ror 32 19 x) ^^^ x / 2 ^ 10) + u) % 4294967296 + ((ror 32 7 y ^^^ ror 32 18 y) ^^^ y / 2 ^ 3)) % 4294967296) + v) % 4294967296 = word k256 l W t := by
  have ht : ¬ t < 16 := by omega
  unfold word
  rw [if_neg ht, m256_3, m256_2, ← hx, ← hy, ← hu, ← hv, show 2 ^ k256.B = 4294967296 from rfl]
  generalize (ror 32 17 x ^^^ ror 32 19 x) ^^^ x / 2 ^ 10 = p
  generalize (ror 32 7 y ^^^ ror 32 18 y) ^^^ y / 2 ^ 3 = q
  omega
theorem word512_hi {l W : List Nat} {t x y u v : Nat} (ht' : ¬ ((t : Nat) : Int) < ((16 : Nat) : Int)) (hx : x = W.getD (t - 2) 0) (hy : y = W.getD (t - 15) 0) (hu : u = W.getD (t - 7) 0) (hv : v = W.getD (t - 16) 0) :
    ((((((ror 64 19 x ^^^ ror 64 61 x) ^^^ x / 2 ^ 6) + u) % 18446744073709551616 + ((ror 64 1 y ^^^ ror 64 8 y) ^^^ y / 2 ^ 7)) % 18446744073709551616) + v) % 18446744073709551616 = word k512 l W t := by
  have ht : ¬ t < 16 := by omega
  unfold word
  rw [if_neg ht, m512_3, m512_2, ← hx, ← hy, ← hu, ← hv, show 2 ^ k512.B = 18446744073709551616 from rfl]
  generalize (ror 64 19 x ^^^ ror 64 61 x) ^^^ x / 2 ^ 6 = p
  generalize (ror 64 1 y ^^^ ror 64 8 y) ^^^ y / 2 ^ 7 = q
  omega
theorem get_of {l : List Nat} {i x : Nat} (h : l[i]? = some x) : x = l.getD i 0 := by simp [List.getD, h]
theorem step256 {W : List Nat} {S : V8} {t a b c d e f g h k w m1 m0 x1 x2 xa xe : Nat} (hV : V8.mk a b c d e f g h = rounds k256 W S t) (hk : k = k256.ks.getD t 0) (hw : w = W.getD t 0)
    (hm1 : m1 = (ror 32 6 e ^^^ ror 32 11 e) ^^^ ror 32 25 e) (hm0 : m0 = (ror 32 2 a ^^^ ror 32 13 a) ^^^ ror 32 22 a)
    (h1 : x1 = (((((((h + m1) % 4294967296) + ((e &&& f) ^^^ ((4294967295 - e) &&& g))) % 4294967296) + k) % 4294967296) + w) % 4294967296)
    (h2 : x2 = (m0 + (((a &&& b) ^^^ (a &&& c)) ^^^ (b &&& c))) % 4294967296) (ha : xa = (x1 + x2) % 4294967296) (he : xe = (d + x1) % 4294967296) :
    V8.mk xa a b c xe e f g = rounds k256 W S (t + 1) := by
  rw [rounds, ← hV, ← hk, ← hw]
  unfold step
  simp only [m256_1, m256_0, ← hm1, ← hm0, show k256.B = 32 from rfl, ch, maj, show 2 ^ 32 - 1 = 4294967295 from rfl, show 2 ^ 32 = 4294967296 from rfl]
  congr 1 <;> omega
theorem step512 {W : List Nat} {S : V8} {t a b c d e f g h k w m1 m0 x1 x2 xa xe : Nat} (hV : V8.mk a b c d e f g h = rounds k512 W S t) (hk : k = k512.ks.getD t 0) (hw : w = W.getD t 0)
    (hm1 : m1 = (ror 64 14 e ^^^ ror 64 18 e) ^^^ ror 64 41 e) (hm0 : m0 = (ror 64 28 a ^^^ ror 64 34 a) ^^^ ror 64 39 a)
    (h1 : x1 = (((((((h + m1) % 18446744073709551616) + ((e &&& f) ^^^ ((18446744073709551615 - e) &&& g))) % 18446744073709551616) + k) % 18446744073709551616) + w) % 18446744073709551616)
    (h2 : x2 = (m0 + (((a &&& b) ^^^ (a &&& c)) ^^^ (b &&& c))) % 18446744073709551616) (ha : xa = (x1 + x2) % 18446744073709551616) (he : xe = (d + x1) % 18446744073709551616) :
    V8.mk xa a b c xe e f g = rounds k512 W S (t + 1) := by
  rw [rounds, ← hV, ← hk, ← hw]
  unfold step
  simp only [m512_1, m512_0, ← hm1, ← hm0, show k512.B = 64 from rfl, ch, maj, show 2 ^ 64 - 1 = 18446744073709551615 from rfl, show 2 ^ 64 = 18446744073709551616 from rfl]
  congr 1 <;> omega
end Sm
namespace Sm
theorem sched_set0 {q : Kd} {blk l : List Nat} {n t : Nat} (h : t < n) : (sched q blk t ++ List.replicate (n - t) 0).set t (be (l.take 0)) = sched q blk t ++ List.replicate (n - t) 0 := by
  obtain ⟨m, rfl⟩ : ∃ m, n = t + 1 + m := ⟨n - (t + 1), by omega⟩
  rw [show t + 1 + m - t = m + 1 by omega, List.replicate_succ, List.set_append_right _ _ (by rw [sched_len]; omega), sched_len, Nat.sub_self]; rfl
theorem set_get {l : List Nat} {t v x : Nat} (ht : t < l.length) (h : (l.set t v)[t]? = some x) : x = v := by
  rw [List.getElem?_set_self ht] at h
  exact (Option.some.inj h).symm
theorem be512_step {l l2 : List Nat} {t i x48 x49 x44 : Nat} (hl2 : l2 = (l.drop (8 * t)).take (8 * t + 8 - 8 * t)) (hl : ∀ u ∈ l, u < 256) (hi : i < 8) (h48 : x48 = be ((l.drop (t * 8)).take i)) (h49 : x49 = x48 * 2 ^ 8 % 18446744073709551616) (h44 : l2[i]? = some x44) :
    x49 ||| x44 = be ((l.drop (t * 8)).take (i + 1)) := by
  subst hl2
  rw [show 8 * t + 8 - 8 * t = 8 by omega, List.getElem?_take_of_lt hi, Nat.mul_comm 8 t] at h44
  have e : (l.drop (t * 8)).take (i + 1) = (l.drop (t * 8)).take i ++ [x44] := by rw [List.take_add_one, h44]; rfl
  have r44 : x44 < 256 := hl _ (List.mem_of_mem_drop (List.mem_of_getElem? h44))
  have hb := be_lt ((l.drop (t * 8)).take i) fun u hu => hl u (List.mem_of_mem_drop (List.mem_of_mem_take hu))
  have hlen : ((l.drop (t * 8)).take i).length ≤ i := by rw [List.length_take]; omega
  have h7 : 256 ^ ((l.drop (t * 8)).take i).length ≤ 256 ^ 7 := Nat.pow_le_pow_right (by omega) (by omega)
  rw [e, be_step, ← h48]
  have h256 : (256 : Nat) ^ 7 = 72057594037927936 := by decide
  rw [← h48] at hb
  rw [h49, Nat.mod_eq_of_lt (by omega), or_add (by omega : x44 < 2 ^ 8)]
theorem word512_lo {l W : List Nat} {t i : Nat} (ht' : ((t : Nat) : Int) < ((16 : Nat) : Int)) (hi : i = 8) : be ((l.drop (t * 8)).take i) = word k512 l W t := by
  subst hi
  have ht : t < 16 := by omega
  unfold word
  rw [if_pos ht]; rfl
end Sm
namespace Sm
theorem rep_snoc (p : List Nat) (j : Nat) : (p ++ List.replicate j 0) ++ [0] = p ++ List.replicate (j + 1) 0 := by
  rw [List.append_assoc, List.replicate_succ']
theorem rep_zero (p : List Nat) : p = p ++ List.replicate 0 0 := (List.append_nil p).symm
theorem fill256 (n : Nat) : fillN k256 n = (120 - (n + 1) % 64) % 64 := rfl
theorem fill512 (n : Nat) : fillN k512 n = (240 - (n + 1) % 128) % 128 := rfl
theorem fill256_lt (n : Nat) : fillN k256 n < 128 := by rw [fill256]; omega
theorem fill512_lt (n : Nat) : fillN k512 n < 128 := by rw [fill512]; omega
theorem fill256_next {m n j : Nat} (hm : m % 64 = n % 64) (hj : j ≤ fillN k256 n) (h : (((m + 1 + j) % 64 : Nat) : Int) ≠ ((56 : Nat) : Int)) : j + 1 ≤ fillN k256 n := by
  rw [fill256] at *; omega
theorem fill512_next {m n j : Nat} (hm : m % 128 = n % 128) (hj : j ≤ fillN k512 n) (h : (((m + 1 + j) % 128 : Nat) : Int) ≠ ((112 : Nat) : Int)) : j + 1 ≤ fillN k512 n := by
  rw [fill512] at *; omega
theorem fill256_end {m n j : Nat} (hm : m % 64 = n % 64) (hj : j ≤ fillN k256 n) (h : (((m + 1 + j) % 64 : Nat) : Int) = ((56 : Nat) : Int)) : j = fillN k256 n := by
  rw [fill256] at *; omega
theorem fill512_end {m n j : Nat} (hm : m % 128 = n % 128) (hj : j ≤ fillN k512 n) (h : (((m + 1 + j) % 128 : Nat) : Int) = ((112 : Nat) : Int)) : j = fillN k512 n := by
  rw [fill512] at *; omega
theorem num_step {n j x45 x48 x49 : Nat} (hn : n ≤ 16777216) (hj : j < 8) (h45 : x45 = 8 * n % 18446744073709551616) (h48 : x48 = x45 / 2 ^ (8 * (7 - j))) (h49 : x49 = x48 % 256) : (bytes 8 (8 * n)).take j ++ [x49] = (bytes 8 (8 * n)).take (j + 1) := by
  refine take_snoc ?_
  have e : 8 * n % 18446744073709551616 = 8 * n := Nat.mod_eq_of_lt (by omega)
  rw [bytes_get hj, h49, h48, h45, e]
theorem rest_end {q : Kd} {l : List Nat} {n s : Nat} (hq : 4 ≤ size q) (hn : n ≤ 16777216) (hs : s = 2 * size q - 8) : ((l ++ [128]) ++ List.replicate (fillN q n + s) 0) ++ (bytes 8 (8 * n)).take 8 = l ++ pad q n := by
  rw [pad_eq hq (by omega), hs, List.take_of_length_le (by rw [bytes_len]; exact Nat.le_refl _)]
  simp
end Sm
namespace Sm
theorem run256_next {l : List Nat} {j : Nat} (h : 64 * j + 64 ≤ l.length) : comp k256 (run k256 (full k256 l) j) ((l.drop (64 * j)).take 64) = run k256 (full k256 l) (j + 1) := by
  rw [run, show 16 * size k256 = 64 from rfl, Nat.mul_comm j, full_blk h]
theorem run512_next {l : List Nat} {j : Nat} (h : 128 * j + 128 ≤ l.length) : comp k512 (run k512 (full k512 l) j) ((l.drop (128 * j)).take 128) = run k512 (full k512 l) (j + 1) := by
  rw [run, show 16 * size k512 = 128 from rfl, Nat.mul_comm j, full_blk h]
theorem run256_on {F : List Nat} {j i : Nat} : comp k256 (run k256 F (j + i)) (((F.drop (64 * j)).drop (64 * i)).take 64) = run k256 F (j + (i + 1)) := by
  rw [← Nat.add_assoc, run, show 16 * size k256 = 64 from rfl, List.drop_drop, show 64 * j + 64 * i = (j + i) * 64 by omega]
theorem run512_on {F : List Nat} {j i : Nat} : comp k512 (run k512 F (j + i)) (((F.drop (128 * j)).drop (128 * i)).take 128) = run k512 F (j + (i + 1)) := by
  rw [← Nat.add_assoc, run, show 16 * size k512 = 128 from rfl, List.drop_drop, show 128 * j + 128 * i = (j + i) * 128 by omega]
theorem rest_mod256 {l : List Nat} {j M : Nat} (h : ((full k256 l).drop (64 * j)).length = M) : M % 64 = 0 := by
  have := full_mod (q := k256) (.inl rfl) l
  rw [show 16 * size k256 = 64 from rfl] at this
  rw [List.length_drop] at h; omega
theorem rest_mod512 {l : List Nat} {j M : Nat} (h : ((full k512 l).drop (128 * j)).length = M) : M % 128 = 0 := by
  have := full_mod (q := k512) (.inr rfl) l
  rw [show 16 * size k512 = 128 from rfl] at this
  rw [List.length_drop] at h; omega
theorem blocks256 {l : List Nat} {j i M : Nat} (h : ((full k256 l).drop (64 * j)).length = M) (hj : 64 * j ≤ l.length) (hi : 64 * i = M) : j + i = (full k256 l).length / 64 := by
  have h2 : l.length ≤ (full k256 l).length := by rw [full, List.length_append]; omega
  rw [List.length_drop] at h; omega
theorem blocks512 {l : List Nat} {j i M : Nat} (h : ((full k512 l).drop (128 * j)).length = M) (hj : 128 * j ≤ l.length) (hi : 128 * i = M) : j + i = (full k512 l).length / 128 := by
  have h2 : l.length ≤ (full k512 l).length := by rw [full, List.length_append]; omega
  rw [List.length_drop] at h; omega
theorem sum256_get {l : List Nat} {t x y z : Nat} (ht : t < 32) (hx : (run k256 (full k256 l) ((full k256 l).length / 64)).l[t / 4]? = some x) (hy : y = x / 2 ^ (24 - 8 * (t % 4))) (hz : z = y % 256) : (sum k256 l)[t]? = some z := by
  unfold sum
  rw [out_get (q := k256) (by decide) ht, show size k256 = 4 from rfl, show 16 * 4 = 64 from rfl, ← get_of hx, hz, hy, show 8 * (4 - 1 - t % 4) = 24 - 8 * (t % 4) by omega]
theorem sum512_get {l : List Nat} {t x y z : Nat} (ht : t < 64) (hx : (run k512 (full k512 l) ((full k512 l).length / 128)).l[t / 8]? = some x) (hy : y = x / 2 ^ (56 - 8 * (t % 8))) (hz : z = y % 256) : (sum k512 l)[t]? = some z := by
  unfold sum
  rw [out_get (q := k512) (by decide) ht, show size k512 = 8 from rfl, show 16 * 8 = 128 from rfl, ← get_of hx, hz, hy, show 8 * (8 - 1 - t % 8) = 56 - 8 * (t % 8) by omega]
end Sm
