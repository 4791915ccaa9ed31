/- The sums of layer 6: what the reference's walks' last steps ask. -/
import Derived.Test.YtgmmifpflllkfaaShaMath2
namespace Sm
theorem bytes_cons {i m x y : Nat} (hx : x = m / 2 ^ (8 * i)) (hy : y = x % 256) : [y] ++ bytes i m = bytes (i + 1) m := by
  rw [bytes_succ, hy, hx]; rfl
theorem num_div {i m x y : Nat} (hx : x = m / 2 ^ (8 * i)) (hy : y = x / 256) : y = m / 2 ^ (8 * (i + 1)) := by
  rw [hy, hx, Nat.div_div_eq_div_mul, show 8 * (i + 1) = 8 * i + 8 by omega, Nat.pow_add]
theorem full_end {q : Kd} {l : List Nat} {n : Nat} (hn : l.length = n) : ((l ++ [128]) ++ List.replicate (fillN q n) 0) ++ bytes (2 * size q) (8 * n) = full q l := by
  rw [full, pad, hn]; simp
theorem hs_get256 : ∀ i, i < 8 → (V8.of k256.hs).l[i]? = some (k512.hs.getD i 0 / 2 ^ 32) := by decide
theorem hs_get512 : ∀ i, i < 8 → (V8.of k512.hs).l[i]? = some (k512.hs.getD i 0 / 2 ^ 0) := by decide
theorem blk256 {F : List Nat} {j t i b : Nat} (ht : t < 16) (hi : i < 4) (h : F[64 * j + t * 4 + i]? = some b) : (((F.drop (64 * j)).take 64).drop (t * 4))[i]? = some b := by
  rw [List.getElem?_drop, List.getElem?_take_of_lt (by omega), List.getElem?_drop, ← Nat.add_assoc]; exact h
theorem blk512 {F : List Nat} {j t i b : Nat} (ht : t < 16) (hi : i < 8) (h : F[128 * j + t * 8 + i]? = some b) : (((F.drop (128 * j)).take 128).drop (t * 8))[i]? = some b := by
  rw [List.getElem?_drop, List.getElem?_take_of_lt (by omega), List.getElem?_drop, ← Nat.add_assoc]; exact h
theorem be_ref {L : List Nat} {i xb x b y : Nat} (hL : ∀ u ∈ L, u < 256) (hi : i < 8) (hb : L[i]? = some b) (hxb : xb = be (L.take i)) (hx : x = xb * 256 % 18446744073709551616) (hy : y = (x + b) % 18446744073709551616) : y = be (L.take (i + 1)) := by
  have e : L.take (i + 1) = L.take i ++ [b] := by rw [List.take_add_one, hb]; rfl
  have rb : b < 256 := hL _ (List.mem_of_getElem? hb)
  have hbe := be_lt (L.take i) fun u hu => hL u (List.mem_of_mem_take hu)
  have hlen : (L.take i).length ≤ i := by rw [List.length_take]; omega
  have h7 : 256 ^ (L.take i).length ≤ 256 ^ 7 := Nat.pow_le_pow_right (by omega) (by omega)
  have h256 : (256 : Nat) ^ 7 = 72057594037927936 := by decide
  rw [e, be_step, ← hxb]
  rw [← hxb] at hbe
  omega
theorem be_ltM {L : List Nat} {i xb : Nat} (hL : ∀ u ∈ L, u < 256) (hi : i ≤ 8) (hxb : xb = be (L.take i)) : xb < 18446744073709551616 := by
  rw [hxb]
  refine Nat.lt_of_lt_of_le (be_lt _ fun u hu => hL u (List.mem_of_mem_take hu)) (Nat.le_trans (Nat.pow_le_pow_right (by decide) (by rw [List.length_take]; omega : _ ≤ 8)) (by decide))
theorem wordr_lo {q : Kd} {B W : List Nat} {t i xb : Nat} (ht' : ((t : Nat) : Int) < ((16 : Nat) : Int)) (hi : i = size q) (hxb : xb = be ((B.drop (t * size q)).take i)) : xb = word q B W t := by
  subst hi
  unfold word
  rw [if_pos (by omega), hxb]
theorem wordr256_hi {B W : List Nat} {t x y u v z : Nat} (ht' : ¬ ((t : Nat) : Int) < ((16 : Nat) : Int)) (hx : W[t - 2]? = some x) (hy : W[t - 15]? = some y) (hu : W[t - 7]? = some u) (hv : W[t - 16]? = some v)
    (hz : z = (((((mix k256 3 x + u) % 18446744073709551616) + mix k256 2 y) % 18446744073709551616) + v) % 18446744073709551616 % 4294967296) : z = word k256 B W t := by
  unfold word
  rw [if_neg (by omega), ← get_of hx, ← get_of hy, ← get_of hu, ← get_of hv, hz, show 2 ^ k256.B = 4294967296 from rfl]; omega
theorem wordr512_hi {B W : List Nat} {t x y u v z : Nat} (ht' : ¬ ((t : Nat) : Int) < ((16 : Nat) : Int)) (hx : W[t - 2]? = some x) (hy : W[t - 15]? = some y) (hu : W[t - 7]? = some u) (hv : W[t - 16]? = some v)
    (hz : z = (((((mix k512 3 x + u) % 18446744073709551616) + mix k512 2 y) % 18446744073709551616) + v) % 18446744073709551616 % 18446744073709551616) : z = word k512 B W t := by
  unfold word
  rw [if_neg (by omega), ← get_of hx, ← get_of hy, ← get_of hu, ← get_of hv, hz, show 2 ^ k512.B = 18446744073709551616 from rfl]; omega
theorem stepr256 {W : List Nat} {S : V8} {t a b c d e f g h w cc mm x1 x2 xa xe : Nat} (ht : t < 64) (hV : V8.mk a b c d e f g h = rounds k256 W S t) (hlt : (V8.mk a b c d e f g h).lt 4294967296) (hw : W[t]? = some w)
    (hc : cc = (e &&& f) ^^^ ((18446744073709551615 - e) &&& g)) (hm : mm = ((a &&& b) ^^^ (a &&& c)) ^^^ (b &&& c))
    (h1 : x1 = (((((((h + mix k256 1 e) % 18446744073709551616) + cc % 4294967296) % 18446744073709551616) + k512.ks.getD t 0 / 2 ^ 32) % 18446744073709551616) + w) % 18446744073709551616)
    (h2 : x2 = (mix k256 0 a + mm) % 18446744073709551616) (he : xe = (d + x1) % 18446744073709551616 % 4294967296) (ha : xa = (x1 + x2) % 18446744073709551616 % 4294967296) :
    V8.mk xa a b c xe e f g = rounds k256 W S (t + 1) := by
  rw [rounds, ← hV, ← get_of hw, ← ks_ref t ht]
  unfold step
  have hcc : cc % 4294967296 = ch 32 e f g := by rw [hc]; exact ch_ref (B := 32) (by decide) hlt.2.2.2.2.1 hlt.2.2.2.2.2.2.1
  simp only [show k256.B = 32 from rfl, ← hcc, maj, ← hm, show 2 ^ 32 = 4294967296 from rfl] at *
  congr 1 <;> omega
theorem stepr512 {W : List Nat} {S : V8} {t a b c d e f g h w cc mm x1 x2 xa xe : Nat} (_ : t < 80) (hV : V8.mk a b c d e f g h = rounds k512 W S t) (hlt : (V8.mk a b c d e f g h).lt 18446744073709551616) (hw : W[t]? = some w)
    (hc : cc = (e &&& f) ^^^ ((18446744073709551615 - e) &&& g)) (hm : mm = ((a &&& b) ^^^ (a &&& c)) ^^^ (b &&& c))
    (h1 : x1 = (((((((h + mix k512 1 e) % 18446744073709551616) + cc % 18446744073709551616) % 18446744073709551616) + k512.ks.getD t 0 / 2 ^ 0) % 18446744073709551616) + w) % 18446744073709551616)
    (h2 : x2 = (mix k512 0 a + mm) % 18446744073709551616) (he : xe = (d + x1) % 18446744073709551616 % 18446744073709551616) (ha : xa = (x1 + x2) % 18446744073709551616 % 18446744073709551616) :
    V8.mk xa a b c xe e f g = rounds k512 W S (t + 1) := by
  rw [rounds, ← hV, ← get_of hw]
  unfold step
  have hcc : cc % 18446744073709551616 = ch 64 e f g := by rw [hc]; exact ch_ref (B := 64) (by decide) hlt.2.2.2.2.1 hlt.2.2.2.2.2.2.1
  rw [Nat.pow_zero, Nat.div_one] at h1
  simp only [show k512.B = 64 from rfl, ← hcc, maj, ← hm, show 2 ^ 64 = 18446744073709551616 from rfl] at *
  congr 1 <;> omega
theorem ks_lt (t : Nat) : k512.ks.getD t 0 < 18446744073709551616 := by
  rw [List.getD]
  cases h : k512.ks[t]? with
  | none => exact by decide
  | some x => exact ks512_lt x (List.mem_of_getElem? h)
theorem hs_lt (t : Nat) : k512.hs.getD t 0 < 18446744073709551616 := by
  rw [List.getD]
  cases h : k512.hs[t]? with
  | none => exact by decide
  | some x => exact (by decide : ∀ u ∈ k512.hs, u < 18446744073709551616) x (List.mem_of_getElem? h)
theorem outr_get {q : Kd} {S : V8} {s i j x y z : Nat} (hs : size q = s) (hi : i < 8) (hj : j < s) (hx : S.l[i]? = some x) (hy : y = x / 2 ^ (8 * (s - 1 - j))) (hz : z = y % 256) : (out q S)[s * i + j]? = some z := by
  have h1 : s * i + s ≤ s * 8 := by rw [← Nat.mul_succ]; exact Nat.mul_le_mul_left _ hi
  rw [out_get (by omega) (by omega), hs, Nat.mul_add_div (by omega), Nat.mul_add_mod, Nat.div_eq_of_lt hj, Nat.mod_eq_of_lt hj, Nat.add_zero, ← get_of hx, hz, hy]
end Sm
namespace Sm
theorem addv256 {F : List Nat} {j va vb vc vd ve vf vg vh xa xb xc xd xe xf xg xh : Nat} (hV : V8.mk va vb vc vd ve vf vg vh = rounds k256 (sched k256 ((F.drop (64 * j)).take 64) 64) (run k256 F j) 64)
    (ha : xa = ((run k256 F j).a + va) % 18446744073709551616 % 4294967296) (hb : xb = ((run k256 F j).b + vb) % 18446744073709551616 % 4294967296) (hc : xc = ((run k256 F j).c + vc) % 18446744073709551616 % 4294967296) (hd : xd = ((run k256 F j).d + vd) % 18446744073709551616 % 4294967296) (he : xe = ((run k256 F j).e + ve) % 18446744073709551616 % 4294967296) (hf : xf = ((run k256 F j).f + vf) % 18446744073709551616 % 4294967296) (hg : xg = ((run k256 F j).g + vg) % 18446744073709551616 % 4294967296) (hh : xh = ((run k256 F j).h + vh) % 18446744073709551616 % 4294967296) : [xa, xb, xc, xd, xe, xf, xg, xh] = (run k256 F (j + 1)).l := by
  rw [run, show 16 * size k256 = 64 from rfl, Nat.mul_comm j, comp, show k256.n = 64 from rfl, ← hV, show k256.B = 32 from rfl]
  simp only [addV, V8.l, show 2 ^ 32 = 4294967296 from rfl]
  rw [ha, hb, hc, hd, he, hf, hg, hh]
  simp only [Nat.mod_mod_of_dvd _ (by decide : 4294967296 ∣ 18446744073709551616)]
theorem addv512 {F : List Nat} {j va vb vc vd ve vf vg vh xa xb xc xd xe xf xg xh : Nat} (hV : V8.mk va vb vc vd ve vf vg vh = rounds k512 (sched k512 ((F.drop (128 * j)).take 128) 80) (run k512 F j) 80)
    (ha : xa = ((run k512 F j).a + va) % 18446744073709551616 % 18446744073709551616) (hb : xb = ((run k512 F j).b + vb) % 18446744073709551616 % 18446744073709551616) (hc : xc = ((run k512 F j).c + vc) % 18446744073709551616 % 18446744073709551616) (hd : xd = ((run k512 F j).d + vd) % 18446744073709551616 % 18446744073709551616) (he : xe = ((run k512 F j).e + ve) % 18446744073709551616 % 18446744073709551616) (hf : xf = ((run k512 F j).f + vf) % 18446744073709551616 % 18446744073709551616) (hg : xg = ((run k512 F j).g + vg) % 18446744073709551616 % 18446744073709551616) (hh : xh = ((run k512 F j).h + vh) % 18446744073709551616 % 18446744073709551616) : [xa, xb, xc, xd, xe, xf, xg, xh] = (run k512 F (j + 1)).l := by
  rw [run, show 16 * size k512 = 128 from rfl, Nat.mul_comm j, comp, show k512.n = 80 from rfl, ← hV, show k512.B = 64 from rfl]
  simp only [addV, V8.l, show 2 ^ 64 = 18446744073709551616 from rfl]
  rw [ha, hb, hc, hd, he, hf, hg, hh]
  simp only [Nat.mod_mod]
end Sm
namespace Sm
theorem last77 {l : List Nat} {n x : Nat} (hl : l.length = n) (h : (l ++ [77])[n]? = some x) : (((x : Nat) : Int) == ((77 : Nat) : Int)) = true := by
  rw [List.getElem?_append_right (by omega), hl, Nat.sub_self] at h
  obtain rfl : 77 = x := by simpa using h
  rfl
end Sm
