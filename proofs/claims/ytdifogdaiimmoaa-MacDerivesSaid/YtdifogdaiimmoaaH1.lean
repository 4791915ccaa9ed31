/- Walks of layers 6 and 7 (sums, macs) and of their references. Printed by mac.py. -/
import Derived.Test.YtdifogdaiimmoaaV13
import Derived.Test.YtdifogdaiimmoaaShaMath2
import Derived.Test.YtdifogdaiimmoaaProg
namespace Go.Proofs.Ytdifogdaiimmoaa
open Go.Ev
set_option maxRecDepth 100000
theorem T_some3 : (Try.prog.underlying 3).isSome = true := by kernel_rfl
theorem T_kind56 : kindOf Try.prog 56 = some .u64 := by kernel_rfl
theorem rot32_n (x j : Nat) (h0 : 0 < j) (hj : j < 32) (hx : x < 4294967296) (w0 : World) :
    Calls Try.prog 33 #[Value.int .u32 ((x : Nat) : Int), Value.int .i64 (-((j : Nat) : Int))] w0 (fun r_ w' => r_ = .returned (.int .u32 ((Sm.ror 32 j x : Nat) : Int)) ∧ Keep w0 w') := by
  refine F_in Try.func33 rfl Try.ntmps33 rfl ?_
  intro e he
  have p_0 : e 0 = Value.int .u32 ((x : Nat) : Int) := he 0 _ rfl
  have p_1 : e 1 = Value.int .i64 (-((j : Nat) : Int)) := he 1 _ rfl
  have H := Hp.start w0 []
  refine W_seq ?_
  refine W_rg ?_
  refine L_as rfl ?_
  refine L_nil ?_
  refine Th_n ?_
  refine W_seq ?_
  refine W_rg ?_
  refine L_mv rfl ?_
  refine L_y rfl (Y_convI (k := .i64) (n := -((j : Nat) : Int)) (z := ((18446744073709551616 - j : Nat) : Int)) T_some3 T_kind56 p_1 (wrapNeg (by omega) (by omega))) ?_
  refine L_yr (z := (18446744073709551616 - j) &&& 31) (m := 18446744073709551616) rfl (Yu_and (k := .u64) rfl (18446744073709551616 - j) 31 (by show _ < 18446744073709551616; omega) (by decide) rfl rfl) (Nat.lt_of_le_of_lt (Nat.and_le_left) (by show _ < 18446744073709551616; omega)) ?_; intro x8 hx8 rx8
  refine L_as rfl ?_
  refine L_nil ?_
  refine Th_n ?_
  refine W_seq ?_
  refine W_rg ?_
  refine L_mv rfl ?_
  refine L_mv rfl ?_
  refine L_yr (z := x * 2 ^ x8 % 4294967296) (m := 4294967296) rfl (Yu_shl (k := .u32) rfl x x8 p_0 rfl) (Nat.mod_lt _ (by decide)) ?_; intro x11 hx11 rx11
  refine L_mv rfl ?_
  refine L_mv rfl ?_
  refine L_yr (z := (32 + (18446744073709551616 - x8)) % 18446744073709551616) (m := 18446744073709551616) rfl (Yu_sub (k := .u64) rfl 32 x8 (Nat.le_of_lt rx8) rfl rfl) (Nat.mod_lt _ (by decide)) ?_; intro x14 hx14 rx14
  refine L_yr (z := x / 2 ^ x14) (m := 4294967296) rfl (Yu_shr (k := .u32) x x14 hx p_0 rfl) (Nat.lt_of_le_of_lt (Nat.div_le_self _ _) hx) ?_; intro x15 hx15 rx15
  refine L_yr (z := x11 ||| x15) (m := 4294967296) rfl (Yu_or (k := .u32) rfl x11 x15 rx11 rx15 rfl rfl) (Nat.or_lt_two_pow (n := 32) rx11 rx15) ?_; intro x16 hx16 rx16
  refine L_as rfl ?_
  refine L_nil ?_
  refine Th_n ?_
  refine W_ret ?_
  refine P_ret (vs := [Value.int .u32 ((x16 : Nat) : Int)]) (v := Value.int .u32 ((x16 : Nat) : Int)) rfl (.tmp rfl (Res.nil)) rfl ?_
  refine ⟨?_, H.nil_⟩
  rw [Sm.rot_amt32 h0 hj] at hx8
  rw [hx16, hx11, hx15, hx14, hx8, Sm.rot_fin32 h0 hj hx]

theorem rot64_n (x j : Nat) (h0 : 0 < j) (hj : j < 64) (hx : x < 18446744073709551616) (w0 : World) :
    Calls Try.prog 34 #[Value.int .u64 ((x : Nat) : Int), Value.int .i64 (-((j : Nat) : Int))] w0 (fun r_ w' => r_ = .returned (.int .u64 ((Sm.ror 64 j x : Nat) : Int)) ∧ Keep w0 w') := by
  refine F_in Try.func34 rfl Try.ntmps34 rfl ?_
  intro e he
  have p_0 : e 0 = Value.int .u64 ((x : Nat) : Int) := he 0 _ rfl
  have p_1 : e 1 = Value.int .i64 (-((j : Nat) : Int)) := he 1 _ rfl
  have H := Hp.start w0 []
  refine W_seq ?_
  refine W_rg ?_
  refine L_as rfl ?_
  refine L_nil ?_
  refine Th_n ?_
  refine W_seq ?_
  refine W_rg ?_
  refine L_mv rfl ?_
  refine L_y rfl (Y_convI (k := .i64) (n := -((j : Nat) : Int)) (z := ((18446744073709551616 - j : Nat) : Int)) T_some3 T_kind56 p_1 (wrapNeg (by omega) (by omega))) ?_
  refine L_yr (z := (18446744073709551616 - j) &&& 63) (m := 18446744073709551616) rfl (Yu_and (k := .u64) rfl (18446744073709551616 - j) 63 (by show _ < 18446744073709551616; omega) (by decide) rfl rfl) (Nat.lt_of_le_of_lt (Nat.and_le_left) (by show _ < 18446744073709551616; omega)) ?_; intro x8 hx8 rx8
  refine L_as rfl ?_
  refine L_nil ?_
  refine Th_n ?_
  refine W_seq ?_
  refine W_rg ?_
  refine L_mv rfl ?_
  refine L_mv rfl ?_
  refine L_yr (z := x * 2 ^ x8 % 18446744073709551616) (m := 18446744073709551616) rfl (Yu_shl (k := .u64) rfl x x8 p_0 rfl) (Nat.mod_lt _ (by decide)) ?_; intro x11 hx11 rx11
  refine L_mv rfl ?_
  refine L_mv rfl ?_
  refine L_yr (z := (64 + (18446744073709551616 - x8)) % 18446744073709551616) (m := 18446744073709551616) rfl (Yu_sub (k := .u64) rfl 64 x8 (Nat.le_of_lt rx8) rfl rfl) (Nat.mod_lt _ (by decide)) ?_; intro x14 hx14 rx14
  refine L_yr (z := x / 2 ^ x14) (m := 18446744073709551616) rfl (Yu_shr (k := .u64) x x14 hx p_0 rfl) (Nat.lt_of_le_of_lt (Nat.div_le_self _ _) hx) ?_; intro x15 hx15 rx15
  refine L_yr (z := x11 ||| x15) (m := 18446744073709551616) rfl (Yu_or (k := .u64) rfl x11 x15 rx11 rx15 rfl rfl) (Nat.or_lt_two_pow (n := 64) rx11 rx15) ?_; intro x16 hx16 rx16
  refine L_as rfl ?_
  refine L_nil ?_
  refine Th_n ?_
  refine W_ret ?_
  refine P_ret (vs := [Value.int .u64 ((x16 : Nat) : Int)]) (v := Value.int .u64 ((x16 : Nat) : Int)) rfl (.tmp rfl (Res.nil)) rfl ?_
  refine ⟨?_, H.nil_⟩
  rw [Sm.rot_amt64 h0 hj] at hx8
  rw [hx16, hx11, hx15, hx14, hx8, Sm.rot_fin64 h0 hj hx]
end Go.Proofs.Ytdifogdaiimmoaa
