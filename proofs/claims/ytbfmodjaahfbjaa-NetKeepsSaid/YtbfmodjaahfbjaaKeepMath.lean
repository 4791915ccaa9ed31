/- Layer 27 (net): letters stay in their order, in plain numbers. -/
import Derived.Test.YtbfmodjaahfbjaaV21
namespace Go.Nt
open Go.Ev
theorem wcode_zero {K : List Key} {n : Int} (h : ok K) (h0 : K ≠ []) (hl : K.length < 200) : wcode K n = 0 := by
  have := (h.letter n).2
  rw [wcode, if_neg h0, scode, if_neg (by omega), if_neg (by omega)]
theorem scode_zero {K : List Key} {m : Nat} (h : m ≤ 60000) (hl : K.length < 200) : scode K m = 0 := by
  rw [scode, if_neg (by omega), if_neg (by omega)]
theorem send_zero {K : List Key} {x : Key} (h : x.2.2.length ≤ 60000) (hl : K.length < 200) : send K x = K ++ [x] := by
  rw [send, if_neg (by omega), if_neg (by omega)]
theorem letter_at {K M : List Lt} {x : Lt} {n : Int} {i : Nat} (hk : keys M = keys K) (hi : i = un n % K.length) (h : M[i]? = some x) : letter (keys K) n = x.key := by
  have h2 : i = at_ (keys K) n := by rw [at_, keys_len]; exact hi
  rw [← hk] at h2 ⊢
  exact at_get h2 h
theorem keeps_twice {K M : List Lt} {x : Lt} {n : Int} {i : Nat} (ho : ok (keys K)) (h0 : K.length ≠ 0) (hl : K.length < 200) (hk : keys M = keys K) (hi : i = un n % K.length) (h : M[i]? = some x) : twice (keys K) n = keys (M ++ [x]) := by
  have h1 := letter_at hk hi h
  have h2 := (ho.letter n).2
  rw [h1] at h2
  rw [twice_at (keys_ne h0) h1, keys_snoc, hk]
  exact send_zero h2 (by rw [keys_len]; exact hl)
theorem keeps_left {K M : List Lt} {n : Int} {i : Nat} (hk : keys M = keys K) (hi : i = un n % K.length) : left (keys K) n = keys (M.take i ++ M.drop (i + 1)) := by
  rw [← List.eraseIdx_eq_take_drop_succ, keys_erase, hk, left, at_, keys_len, hi]
theorem left_len {K : List Key} {n : Int} : (left K n).length ≤ K.length := List.length_eraseIdx_le _ _
theorem twice_len {K : List Key} {n : Int} : (twice K n).length ≤ K.length + 1 := by
  unfold twice
  split
  · omega
  · unfold send
    split
    · omega
    · split
      · omega
      · rw [List.length_append]; simp
end Go.Nt
