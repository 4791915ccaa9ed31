/- Walks of layer 17 (pack) and of its reference. Printed by pack.py. -/
import Derived.Test.YtidepfhfconkaaaK4
namespace Go.Proofs.Ytidepfhfconkaaa
open Go.Ev
set_option maxRecDepth 100000
set_option linter.unusedVariables false
set_option linter.unusedSimpArgs false
theorem T_kind55 : kindOf Try.prog 55 = some .u64 := by kernel_rfl
theorem digits (n k : Nat) (w0 : World) (hn : n < 18446744073709551616) (h1 : 1 ≤ k) (hk : k ≤ 8) :
    Calls Try.prog 28 #[Value.int .u64 ((n : Nat) : Int), Value.int .i64 ((k : Nat) : Int)] w0 (fun r_ w' => ∃ v, r_ = .returned v ∧ Hp w0 [] w' [.own v 5 1 k (us .u8 (Pk.digs n k))]) := by
  refine F_in Try.func28 rfl Try.ntmps28 rfl ?_
  intro e he
  have p_0 : e 0 = Value.int .u64 ((n : Nat) : Int) := he 0 _ rfl
  have p_1 : e 1 = Value.int .i64 ((k : Nat) : Int) := he 1 _ rfl
  have H := Hp.start w0 []
  refine W_seq ?_
  refine W_rg ?_
  refine L_as rfl ?_
  refine L_nil ?_
  refine Th_n ?_
  refine W_seq ?_
  refine W_rg ?_
  refine L_as rfl ?_
  have H_2 : Hp w0 [] w0 [Ent.own (Value.slice none 0 0) 5 1 0 (us .u8 [])] := H.nilOwn 5 1
  refine L_nil ?_
  refine Th_n ?_
  refine W_seq ?_
  refine W_seq ?_
  refine W_rg ?_
  refine L_mv rfl ?_
  refine L_y rfl (Y_sub (k := .i64) (a := ((k : Nat) : Int)) (b := ((1 : Nat) : Int)) (z := (((k : Nat) : Int) - ((1 : Nat) : Int))) p_1 rfl (wi (by omega))) ?_
  refine L_as rfl ?_
  refine L_nil ?_
  refine Th_n ?_
  refine W_block ?_
  have H_3 : Hp w0 [] w0 [Ent.own (Value.slice none 0 0) 5 1 0 (us .u8 ((List.range 0).map fun j_ => n / 2 ^ (8 * (k - 1 - j_)) % 256))] := H_2.asL (i := 0) rfl rfl (by simp) rfl
  refine W_loop (fun mu_ e w => ∃ i : Nat, ∃ vi : Value, mu_ = k - i ∧ e 0 = Value.int .u64 ((n : Nat) : Int) ∧ e 5 = vi ∧ e 6 = Value.int .i64 ((k : Int) - 1 - (i : Int)) ∧ Hp w0 [] w [Ent.own vi 5 1 i (us .u8 ((List.range i).map fun j_ => n / 2 ^ (8 * (k - 1 - j_)) % 256))] ∧ i ≤ k) _ ⟨0, (Value.slice none 0 0), rfl, p_0, rfl, (Eq.trans rfl (congrArg (Value.int .i64) (show (((k : Nat) : Int) - ((1 : Nat) : Int)) = (k : Int) - 1 - ((0 : Nat) : Int) by omega))), H_3, (Nat.zero_le _)⟩ ?_
  rintro mu_ e_2 w_2 ⟨i, vi, rfl, e_2_0, e_2_5, e_2_6, H_4, hi⟩
  refine W_seq ?_
  refine W_seq ?_
  refine W_rg ?_
  refine L_mv rfl ?_
  refine L_y rfl (Y_geq (k := .i64) (a := ((k : Int) - 1 - (i : Int))) (b := ((0 : Nat) : Int)) e_2_6 rfl) ?_
  refine L_nil ?_
  refine Th_n ?_
  refine W_cond (b := (decide (((0 : Nat) : Int) ≤ ((k : Int) - 1 - (i : Int))))) rfl (fun hc => ?_) (fun hc => ?_)
  ·
    have hc' := of_decide_eq_true hc
    refine W_skip ?_
    refine Th_n ?_
    refine W_seq ?_
    refine W_block ?_
    refine W_rg ?_
    refine L_mv rfl ?_
    refine L_mv rfl ?_
    refine L_mv rfl ?_
    refine L_y rfl (Y_mul (k := .i64) (a := ((8 : Nat) : Int)) (b := ((k - 1 - i : Nat) : Int)) (z := ((8 * (k - 1 - i) : Nat) : Int)) rfl (e_2_6.trans (congrArg (Value.int .i64) (show (k : Int) - 1 - (i : Int) = ((k - 1 - i : Nat) : Int) by omega))) (wi (by omega))) ?_
    refine L_y rfl (Y_convI (k := .i64) (n := ((8 * (k - 1 - i) : Nat) : Int)) (z := ((8 * (k - 1 - i) : Nat) : Int)) T_some3 T_kind55 rfl (wrapS rfl (by first | decide | (show _ < 18446744073709551616; omega)))) ?_
    refine L_yr (z := n / 2 ^ (8 * (k - 1 - i))) (m := 18446744073709551616) rfl (Yu_shr (k := .u64) n (8 * (k - 1 - i)) hn e_2_0 rfl) (Nat.lt_of_le_of_lt (Nat.div_le_self _ _) hn) ?_; intro x18 hx18 rx18
    refine L_yr (z := x18 % 256) (m := 256) rfl (Y_convI (k := .u64) (n := ((x18 : Nat) : Int)) (z := ((x18 % 256 : Nat) : Int)) T_some32 T_kind5 rfl (wrapM rfl rfl)) (Nat.mod_lt _ (by decide)) ?_; intro x19 hx19 rx19
    refine L_bsl (cs := ua .u8 [x19]) rfl H_4 (pv := [(0, Value.int .u8 ((x19 : Nat) : Int))]) T_sl25 T_zero5 rfl (Bpc rfl Bp0) (by kernel_rfl) ?_; intro bk20 w_3 H_5
    refine L_appS rfl H_5 (i := 1) rfl T_sl25 T_zero5 rfl T_szb5 e_2_5 rfl (news_ua (H_5.get 0 rfl)) rfl (by omega) ?_; intro v21 w_4 Hx
    have H_6 : Hp w0 [] w_4 [Ent.blk bk20 5 (ua .u8 [x19]), Ent.own v21 5 1 (i + 1) (us .u8 (((List.range i).map fun j_ => n / 2 ^ (8 * (k - 1 - j_)) % 256) ++ [x19]))] := Hx
    refine L_as rfl ?_
    refine L_nil ?_
    refine InB_n ?_
    refine Th_n ?_
    refine W_rg ?_
    refine L_mv rfl ?_
    refine L_y rfl (Y_sub (k := .i64) (a := ((k - 1 - i : Nat) : Int)) (b := ((1 : Nat) : Int)) (z := (((k - 1 - i : Nat) : Int) - ((1 : Nat) : Int))) (e_2_6.trans (congrArg (Value.int .i64) (show (k : Int) - 1 - (i : Int) = ((k - 1 - i : Nat) : Int) by omega))) rfl (wi (by omega))) ?_
    refine L_as rfl ?_
    refine L_nil ?_
    have H_7 : Hp w0 [] w_4 [Ent.blk bk20 5 (ua .u8 [x19]), Ent.own v21 5 1 (i + 1) (us .u8 ((List.range (i + 1)).map fun j_ => n / 2 ^ (8 * (k - 1 - j_)) % 256))] := H_6.asL (i := 1) rfl rfl (by rw [List.range_succ, List.map_append, hx19, hx18]; rfl) rfl
    refine Th_n ⟨_, ?_, _, _, rfl, e_2_0, rfl, (Eq.trans rfl (congrArg (Value.int .i64) (show (((k - 1 - i : Nat) : Int) - ((1 : Nat) : Int)) = (k : Int) - 1 - ((i + 1 : Nat) : Int) by omega))), H_7.drop_, (by omega)⟩
    omega
  ·
    have hc' := of_decide_eq_false hc
    refine W_exit ?_
    refine Th_x ?_
    refine Th_x ?_
    refine InB_hit ?_
    refine Th_n ?_
    refine W_seq ?_
    refine W_rg ?_
    refine L_mv rfl ?_
    refine L_as rfl ?_
    refine L_nil ?_
    refine Th_n ?_
    refine W_ret ?_
    refine P_ret (vs := [vi]) (v := vi) rfl (.tmp e_2_5 (Res.nil)) rfl ?_
    obtain rfl : i = k := (by omega)
    exact ⟨_, rfl, H_4⟩
end Go.Proofs.Ytidepfhfconkaaa
