/- Walks of layer 2 and of its reference. Printed by residue.py. -/
import Derived.Test.YthjdikgdhmlmcaaE5
import Derived.Test.YthjdikgdhmlmcaaResMath2
namespace Go.Proofs.Ythjdikgdhmlmcaa
open Go.Ev
theorem T_zero22 : zeroOf Try.prog 22 = some (ua .u8 [0, 0, 0, 0, 0, 0, 0, 0, 0, 0, 0, 0, 0, 0, 0, 0, 0, 0, 0, 0, 0, 0, 0, 0, 0, 0, 0, 0, 0, 0, 0, 0]) := by kernel_rfl
theorem T_row22 : rowOf Try.prog 22 = some 32 := by kernel_rfl
theorem T_en29 : enters Try.prog 29 = true := by kernel_rfl
theorem T_arr22 : arrOf Try.prog 22 = some (32, 1) := by kernel_rfl
theorem T_zero53 : zeroOf Try.prog 53 = some (ua .u64 [0, 0, 0, 0, 0, 0, 0, 0, 0]) := by kernel_rfl
theorem T_arr53 : arrOf Try.prog 53 = some (9, 1) := by kernel_rfl
theorem T_row53 : rowOf Try.prog 53 = some 9 := by kernel_rfl
theorem rorder_n (w0 : World) :
    Calls Try.prog 29 #[] w0 (fun r_ w' => r_ = .returned (.agg (ua .u8 (Lm.b32 Lm.ord))) ∧ Keep w0 w') := by
  refine F_in Try.func29 rfl Try.ntmps29 rfl ?_
  intro e he
  have H := Hp.start w0 []
  refine W_seq ?_
  refine W_rg ?_
  refine L_alloc rfl H T_zero22 ?_; intro bk0 w_2 H_2
  refine L_nil ?_
  refine Th_n ?_
  refine W_seq ?_
  refine W_rg ?_
  refine L_y rfl (Y_build (pv := [(0, Value.int .u8 ((237 : Nat) : Int)), (1, Value.int .u8 ((211 : Nat) : Int)), (2, Value.int .u8 ((245 : Nat) : Int)), (3, Value.int .u8 ((92 : Nat) : Int)), (4, Value.int .u8 ((26 : Nat) : Int)), (5, Value.int .u8 ((99 : Nat) : Int)), (6, Value.int .u8 ((18 : Nat) : Int)), (7, Value.int .u8 ((88 : Nat) : Int)), (8, Value.int .u8 ((214 : Nat) : Int)), (9, Value.int .u8 ((156 : Nat) : Int)), (10, Value.int .u8 ((247 : Nat) : Int)), (11, Value.int .u8 ((162 : Nat) : Int)), (12, Value.int .u8 ((222 : Nat) : Int)), (13, Value.int .u8 ((249 : Nat) : Int)), (14, Value.int .u8 ((222 : Nat) : Int)), (15, Value.int .u8 ((20 : Nat) : Int)), (31, Value.int .u8 ((16 : Nat) : Int))]) (cs := ua .u8 [237, 211, 245, 92, 26, 99, 18, 88, 214, 156, 247, 162, 222, 249, 222, 20, 0, 0, 0, 0, 0, 0, 0, 0, 0, 0, 0, 0, 0, 0, 0, 16]) (Bpc rfl (Bpc rfl (Bpc rfl (Bpc rfl (Bpc rfl (Bpc rfl (Bpc rfl (Bpc rfl (Bpc rfl (Bpc rfl (Bpc rfl (Bpc rfl (Bpc rfl (Bpc rfl (Bpc rfl (Bpc rfl (Bpc rfl Bp0))))))))))))))))) (by kernel_rfl)) ?_
  refine L_str (ds := ua .u8 [237, 211, 245, 92, 26, 99, 18, 88, 214, 156, 247, 162, 222, 249, 222, 20, 0, 0, 0, 0, 0, 0, 0, 0, 0, 0, 0, 0, 0, 0, 0, 16]) T_row22 H_2 (i := 0) rfl rfl rfl rfl rfl (ua_one _ _) (l' := [.blk bk0 22 (ua .u8 [237, 211, 245, 92, 26, 99, 18, 88, 214, 156, 247, 162, 222, 249, 222, 20, 0, 0, 0, 0, 0, 0, 0, 0, 0, 0, 0, 0, 0, 0, 0, 16])]) rfl ?_; intro w_3 H_3
  refine L_nil ?_
  refine Th_n ?_
  refine W_ret ?_
  refine P_ret (vs := [Value.agg (ua .u8 [237, 211, 245, 92, 26, 99, 18, 88, 214, 156, 247, 162, 222, 249, 222, 20, 0, 0, 0, 0, 0, 0, 0, 0, 0, 0, 0, 0, 0, 0, 0, 16])]) (v := Value.agg (ua .u8 [237, 211, 245, 92, 26, 99, 18, 88, 214, 156, 247, 162, 222, 249, 222, 20, 0, 0, 0, 0, 0, 0, 0, 0, 0, 0, 0, 0, 0, 0, 0, 16])) rfl (.cell rfl (loadVar_row T_row22 H_3 (i := 0) rfl rfl) (Res.nil)) rfl ?_
  refine ⟨?_, H_3.nil_⟩
  rw [show Lm.b32 Lm.ord = [237, 211, 245, 92, 26, 99, 18, 88, 214, 156, 247, 162, 222, 249, 222, 20, 0, 0, 0, 0, 0, 0, 0, 0, 0, 0, 0, 0, 0, 0, 0, 16] from by decide]

theorem rofn_n (n : Nat) (rn : n < 18446744073709551616) (w0 : World) :
    Calls Try.prog 20 #[Value.int .u64 ((n : Nat) : Int)] w0 (fun r_ w' => r_ = .returned (.agg (ua .u8 (Lm.b32 n))) ∧ Keep w0 w') := by
  refine F_in Try.func20 rfl Try.ntmps20 rfl ?_
  intro e he
  have p_0 : e 0 = Value.int .u64 ((n : Nat) : Int) := he 0 _ rfl
  have H := Hp.start w0 []
  refine W_seq ?_
  refine W_rg ?_
  refine L_alloc rfl H T_zero23 ?_; intro bk2 w_2 H_2
  refine L_nil ?_
  refine Th_n ?_
  refine W_seq ?_
  refine W_rg ?_
  refine L_alloc rfl H_2 T_zero23 ?_; intro bk3 w_3 H_3
  refine L_nil ?_
  refine Th_n ?_
  refine W_seq ?_
  refine W_seq ?_
  refine W_rg ?_
  refine L_as rfl ?_
  refine L_nil ?_
  refine Th_n ?_
  refine W_block ?_
  refine W_loop (fun mu_ e w => ∃ i : Nat, ∃ x : Nat, ∃ l : List Nat, mu_ = 8 - i ∧ e 0 = Value.int .u64 ((x : Nat) : Int) ∧ e 2 = Value.pointer (some ⟨bk2, 0, none⟩) ∧ e 3 = Value.pointer (some ⟨bk3, 0, none⟩) ∧ e 4 = Value.int .i64 ((i : Nat) : Int) ∧ Hp w0 [] w [.blk bk3 23 (ua .u8 l), .blk bk2 23 (ua .u8 [0, 0, 0, 0, 0, 0, 0, 0, 0, 0, 0, 0, 0, 0, 0, 0, 0, 0, 0, 0, 0, 0, 0, 0, 0, 0, 0, 0, 0, 0, 0, 0])] ∧ i ≤ 8 ∧ x < 18446744073709551616 ∧ x = n / 256 ^ i ∧ Wd 32 256 l ∧ l = Lm.pb n i) _ ⟨0, n, [0, 0, 0, 0, 0, 0, 0, 0, 0, 0, 0, 0, 0, 0, 0, 0, 0, 0, 0, 0, 0, 0, 0, 0, 0, 0, 0, 0, 0, 0, 0, 0], rfl, p_0, rfl, rfl, rfl, H_3, (by decide), rn, (by simp), ⟨rfl, by decide⟩, (Lm.pb_zero _)⟩ ?_
  rintro mu_ e_2 w_4 ⟨i, x, l, rfl, e_2_0, e_2_2, e_2_3, e_2_4, H_4, hi, rx, hx, hl, hV⟩
  refine W_seq ?_
  refine W_seq ?_
  refine W_rg ?_
  refine L_mv rfl ?_
  refine L_y rfl (Y_lss (k := .i64) (a := ((i : Nat) : Int)) (b := ((8 : Nat) : Int)) e_2_4 rfl) ?_
  refine L_nil ?_
  refine Th_n ?_
  refine W_cond (b := (decide (((i : Nat) : Int) < ((8 : Nat) : Int)))) rfl (fun hc => ?_) (fun hc => ?_)
  ·
    have hc' := of_decide_eq_true hc
    refine W_skip ?_
    refine Th_n ?_
    refine W_seq ?_
    refine W_block ?_
    refine W_seq ?_
    refine W_rg ?_
    refine L_mv rfl ?_
    refine L_mv rfl ?_
    refine L_yr (z := x % 256) (m := 18446744073709551616) rfl (Yu_rem (k := .u64) x 256 e_2_0 rfl (by decide)) (Nat.lt_of_le_of_lt (Nat.mod_le _ _) rx) ?_; intro x11 hx11 rx11
    refine L_yr (z := x11 % 256) (m := 256) rfl (Y_convI (k := .u64) (n := ((x11 : Nat) : Int)) (z := ((x11 % 256 : Nat) : Int)) T_some30 T_kind5 rfl (wrapM rfl rfl)) (Nat.mod_lt _ (by decide)) ?_; intro x12 hx12 rx12
    refine L_y rfl (Y_idxA i i T_arr23 e_2_3 e_2_4 rfl (by omega) (zz1 _)) ?_
    refine L_st (v := Value.int .u8 ((x12 : Nat) : Int)) T_scal5 H_4 (i := 0) rfl rfl rfl rfl (by rw [ua_size]; have := hl.1; omega) (l' := [.blk bk3 23 (ua .u8 (l.set i x12)), .blk bk2 23 (ua .u8 [0, 0, 0, 0, 0, 0, 0, 0, 0, 0, 0, 0, 0, 0, 0, 0, 0, 0, 0, 0, 0, 0, 0, 0, 0, 0, 0, 0, 0, 0, 0, 0])]) (by rw [ua_set]; rfl) ?_; intro w_5 H_5
    refine L_nil ?_
    refine Th_n ?_
    refine W_rg ?_
    refine L_mv rfl ?_
    refine L_yr (z := x / 256) (m := 18446744073709551616) rfl (Yu_quo (k := .u64) rfl x 256 rx e_2_0 rfl (by decide)) (Nat.lt_of_le_of_lt (Nat.div_le_self _ _) rx) ?_; intro x15 hx15 rx15
    refine L_as rfl ?_
    refine L_nil ?_
    refine InB_n ?_
    refine Th_n ?_
    refine W_rg ?_
    refine L_mv rfl ?_
    refine L_y rfl (Y_add (k := .i64) (a := ((i : Nat) : Int)) (b := ((1 : Nat) : Int)) (z := ((i + 1 : Nat) : Int)) e_2_4 rfl (wi (by omega))) ?_
    refine L_as rfl ?_
    refine L_nil ?_
    refine Th_n ⟨_, ?_, i + 1, x15, l.set i x12, rfl, rfl, e_2_2, e_2_3, rfl, H_5, (by omega), rx15, (Lm.of_step hx hx15), (Wd.set hl (by assumption)), (by rw [hV]; exact Lm.pb_set (by rw [hx12, hx11, hx, Nat.mod_mod]))⟩
    omega
  ·
    have hc' := of_decide_eq_false hc
    refine W_exit ?_
    refine Th_x ?_
    refine Th_x ?_
    refine InB_hit ?_
    refine Th_n ?_
    refine W_seq ?_
    refine W_rg ?_
    refine L_y rfl (Y_ldr T_row23 H_4 (i := 0) rfl e_2_3 (by rw [ua_size]; exact hl.1)) ?_
    refine L_str (ds := ua .u8 l) T_row23 H_4 (i := 1) rfl e_2_2 rfl rfl (by rw [ua_size]; exact hl.1) (ua_one _ _) (l' := [.blk bk3 23 (ua .u8 l), .blk bk2 23 (ua .u8 l)]) rfl ?_; intro w_6 H_6
    refine L_nil ?_
    refine Th_n ?_
    refine W_ret ?_
    refine P_ret (vs := [Value.agg (ua .u8 l)]) (v := Value.agg (ua .u8 l)) rfl (.cell e_2_2 (loadVar_row T_row23 H_6 (i := 1) rfl (by rw [ua_size]; exact hl.1)) (Res.nil)) rfl ?_
    refine ⟨?_, H_6.nil_⟩
    obtain rfl : i = 8 := by omega
    rw [hV, Lm.pb_full8 rn]

theorem rmay_n (A : Nat) (hA : A < 115792089237316195423570985008687907853269984665640564039457584007913129639936) (w0 : World) :
    Calls Try.prog 19 #[Value.agg (ua .u8 (Lm.b32 A))] w0 (fun r_ w' => r_ = .returned (.bool (decide (A < Lm.ord))) ∧ Keep w0 w') := by
  refine F_in Try.func19 rfl Try.ntmps19 rfl ?_
  intro e he
  have p_0 : e 0 = Value.agg (ua .u8 (Lm.b32 A)) := he 0 _ rfl
  have H := Hp.start w0 []
  refine W_seq ?_
  refine W_rg ?_
  refine L_box rfl H p_0 (cs := ua .u8 (Lm.b32 A)) rfl ?_; intro bk1 w_2 H_2
  refine L_as rfl ?_
  refine L_nil ?_
  refine Th_n ?_
  refine W_seq ?_
  refine W_rg ?_
  refine L_callv rfl rfl T_en29 (A0) (rorder_n _) ?_
  rintro _ w_3 ⟨rfl, hkp⟩; refine ⟨_, rfl, ?_⟩; have H_3 := H_2.keep hkp
  refine L_alloc rfl H_3 T_zero22 ?_; intro bk3 w_4 H_4
  refine L_str (ds := ua .u8 (Lm.b32 Lm.ord)) T_row22 H_4 (i := 0) rfl rfl rfl rfl (by rw [ua_size]; exact (b32_wd Lm.ord).1) (ua_one _ _) (l' := [.blk bk3 22 (ua .u8 (Lm.b32 Lm.ord)), .blk bk1 23 (ua .u8 (Lm.b32 A))]) rfl ?_; intro w_5 H_5
  refine L_nil ?_
  refine Th_n ?_
  refine W_seq ?_
  refine W_seq ?_
  refine W_rg ?_
  refine L_as rfl ?_
  refine L_nil ?_
  refine Th_n ?_
  refine W_block ?_
  refine W_loop (fun mu_ e w => ∃ j : Nat, mu_ = 2 * j ∧ e 1 = Value.pointer (some ⟨bk1, 0, none⟩) ∧ e 3 = Value.pointer (some ⟨bk3, 0, none⟩) ∧ e 4 = Value.int .i64 (((j : Nat) : Int) - ((1 : Nat) : Int)) ∧ Hp w0 [] w [.blk bk3 22 (ua .u8 (Lm.b32 Lm.ord)), .blk bk1 23 (ua .u8 (Lm.b32 A))] ∧ j ≤ 32 ∧ A / 256 ^ j = Lm.ord / 256 ^ j) _ ⟨32, rfl, rfl, rfl, rfl, H_5, (by decide), (Lm.may_start hA)⟩ ?_
  rintro mu_ e_2 w_6 ⟨j, rfl, e_2_1, e_2_3, e_2_4, H_6, hj, hV⟩
  refine W_seq ?_
  refine W_seq ?_
  refine W_rg ?_
  refine L_mv rfl ?_
  refine L_y rfl (Y_geq (k := .i64) (a := (((j : Nat) : Int) - ((1 : Nat) : Int))) (b := ((0 : Nat) : Int)) e_2_4 rfl) ?_
  refine L_nil ?_
  refine Th_n ?_
  refine W_cond (b := (decide (((0 : Nat) : Int) ≤ (((j : Nat) : Int) - ((1 : Nat) : Int))))) rfl (fun hc => ?_) (fun hc => ?_)
  ·
    obtain ⟨i, rfl⟩ : ∃ i, j = i + 1 := by have := of_decide_eq_true hc; exact ⟨j - 1, by omega⟩
    have ejm := e_2_4.trans (congrArg (Value.int .i64) (by omega : ((i + 1 : Nat) : Int) - ((1 : Nat) : Int) = ((i : Nat) : Int)))
    refine W_skip ?_
    refine Th_n ?_
    refine W_seq ?_
    refine W_block ?_
    refine W_seq ?_
    obtain ⟨x12, hx12⟩ : ∃ u, (Lm.b32 A)[i]? = some u := ⟨_, List.getElem?_eq_getElem (by have := (b32_wd A).1; omega)⟩
    have rx12 := (b32_wd A).2 _ (List.mem_of_getElem? hx12)
    obtain ⟨x15, hx15⟩ : ∃ u, (Lm.b32 Lm.ord)[i]? = some u := ⟨_, List.getElem?_eq_getElem (by have := (b32_wd Lm.ord).1; omega)⟩
    have rx15 := (b32_wd Lm.ord).2 _ (List.mem_of_getElem? hx15)
    refine W_quiet H_6 6 [Value.int .i64 ((i : Nat) : Int), Value.pointer (some ⟨bk1, i, none⟩), Value.int .u8 ((x12 : Nat) : Int), Value.int .i64 ((i : Nat) : Int), Value.pointer (some ⟨bk3, i, none⟩), Value.int .u8 ((x15 : Nat) : Int)] T_mixed (by kernel_rfl) ?_ ?_
    ·
      refine .plain rfl (Pl_y rfl (fun w hBw => congrArg (fun v => Result.ok (Next.value v) w) ejm)) ?_
      refine .plain rfl (Pl_y rfl (fun w hBw => Y_idxA i i T_arr23 e_2_1 rfl rfl (by omega) (zz1 _))) ?_
      refine .plain rfl (Pl_y rfl (fun w hBw => Y_ld T_scal5 hBw (i := 1) rfl rfl (ua_get hx12))) ?_
      refine .plain rfl (Pl_y rfl (fun w hBw => congrArg (fun v => Result.ok (Next.value v) w) ejm)) ?_
      refine .plain rfl (Pl_y rfl (fun w hBw => Y_idxA i i T_arr22 e_2_3 rfl rfl (by omega) (zz1 _))) ?_
      refine .plain rfl (Pl_y rfl (fun w hBw => Y_ld T_scal5 hBw (i := 0) rfl rfl (ua_get hx15))) ?_
      exact .nil _
    ·
      intro e_3 w_7 hAg H_7
      have e_3_1 : e_3 1 = Value.pointer (some ⟨bk1, 0, none⟩) := (hAg 1 rfl).trans e_2_1
      have e_3_3 : e_3 3 = Value.pointer (some ⟨bk3, 0, none⟩) := (hAg 3 rfl).trans e_2_3
      have e_3_4 : e_3 4 = Value.int .i64 ((i : Nat) : Int) := (hAg 4 rfl).trans ejm
      have e_3_12 : e_3 12 = Value.int .u8 ((x12 : Nat) : Int) := (hAg 12 rfl).trans rfl
      have e_3_15 : e_3 15 = Value.int .u8 ((x15 : Nat) : Int) := (hAg 15 rfl).trans rfl
      refine L_y rfl (Y_neq (k := .u8) (a := ((x12 : Nat) : Int)) (b := ((x15 : Nat) : Int)) e_3_12 e_3_15) ?_
      refine L_nil ?_
      refine Th_n ?_
      refine W_cond (b := (((x12 : Nat) : Int) != ((x15 : Nat) : Int))) rfl (fun hc_2 => ?_) (fun hc_2 => ?_)
      ·
        have hc_2' := ne_of_bne hc_2
        refine W_seq ?_
        refine W_quiet H_7 6 [Value.int .i64 ((i : Nat) : Int), Value.pointer (some ⟨bk1, i, none⟩), Value.int .u8 ((x12 : Nat) : Int), Value.int .i64 ((i : Nat) : Int), Value.pointer (some ⟨bk3, i, none⟩), Value.int .u8 ((x15 : Nat) : Int)] T_mixed (by kernel_rfl) ?_ ?_
        ·
          refine .plain rfl (Pl_y rfl (fun w hBw => congrArg (fun v => Result.ok (Next.value v) w) e_3_4)) ?_
          refine .plain rfl (Pl_y rfl (fun w hBw => Y_idxA i i T_arr23 e_3_1 rfl rfl (by omega) (zz1 _))) ?_
          refine .plain rfl (Pl_y rfl (fun w hBw => Y_ld T_scal5 hBw (i := 1) rfl rfl (ua_get hx12))) ?_
          refine .plain rfl (Pl_y rfl (fun w hBw => congrArg (fun v => Result.ok (Next.value v) w) e_3_4)) ?_
          refine .plain rfl (Pl_y rfl (fun w hBw => Y_idxA i i T_arr22 e_3_3 rfl rfl (by omega) (zz1 _))) ?_
          refine .plain rfl (Pl_y rfl (fun w hBw => Y_ld T_scal5 hBw (i := 0) rfl rfl (ua_get hx15))) ?_
          exact .nil _
        ·
          intro e_4 w_8 hAg H_8
          have e_4_19 : e_4 19 = Value.int .u8 ((x12 : Nat) : Int) := (hAg 19 rfl).trans rfl
          have e_4_22 : e_4 22 = Value.int .u8 ((x15 : Nat) : Int) := (hAg 22 rfl).trans rfl
          refine L_y rfl (Y_lss (k := .u8) (a := ((x12 : Nat) : Int)) (b := ((x15 : Nat) : Int)) e_4_19 e_4_22) ?_
          refine L_as rfl ?_
          refine L_nil ?_
          refine Th_n ?_
          refine W_ret ?_
          refine InB_r ?_
          refine Th_r ?_
          refine Th_r ?_
          refine InB_r ?_
          refine Th_r ?_
          refine P_ret (vs := [Value.bool (decide (((x12 : Nat) : Int) < ((x15 : Nat) : Int)))]) (v := Value.bool (decide (((x12 : Nat) : Int) < ((x15 : Nat) : Int)))) rfl (.tmp rfl (Res.nil)) rfl ?_
          refine ⟨?_, H_8.nil_⟩
          rw [Lm.may_ne hV (Lm.b32_get hx12).2 (Lm.b32_get hx15).2 hc_2']
      ·
        have hc_2' := eq_of_bne_false hc_2
        refine W_skip ?_
        refine InB_n ?_
        refine Th_n ?_
        refine W_rg ?_
        refine L_mv rfl ?_
        refine L_y rfl (Y_sub (k := .i64) (a := ((i : Nat) : Int)) (b := ((1 : Nat) : Int)) (z := (((i : Nat) : Int) - ((1 : Nat) : Int))) e_3_4 rfl (wi (by omega))) ?_
        refine L_as rfl ?_
        refine L_nil ?_
        refine Th_n ⟨_, ?_, i, rfl, e_3_1, e_3_3, rfl, H_7, (by omega), (Lm.may_eq hV (Lm.b32_get hx12).2 (Lm.b32_get hx15).2 hc_2')⟩
        omega
  ·
    have hj0 : j = 0 := by have := of_decide_eq_false hc; omega
    refine W_exit ?_
    refine Th_x ?_
    refine Th_x ?_
    refine InB_hit ?_
    refine Th_n ?_
    refine W_seq ?_
    refine W_rg ?_
    refine L_as rfl ?_
    refine L_nil ?_
    refine Th_n ?_
    refine W_ret ?_
    refine P_ret (vs := [Value.bool false]) (v := Value.bool false) rfl (.tmp rfl (Res.nil)) rfl ?_
    refine ⟨?_, H_6.nil_⟩
    rw [← Lm.may_end hj0 hV]

theorem d9_wd (N : Nat) : Wd 9 18446744073709551616 (Lm.dg 4294967296 9 N) := ⟨Lm.dg_length _ _ _, fun u h => Nat.lt_trans (Lm.dg_lt (by decide) u h) (by decide)⟩

theorem often_n (k : Nat) (hk : k < 9) (w0 : World) :
    Calls Try.prog 33 #[Value.int .i64 ((k : Nat) : Int)] w0 (fun r_ w' => r_ = .returned (.agg (ua .u64 (Lm.dg 4294967296 9 (Lm.ord * 2 ^ k)))) ∧ Keep w0 w') := by
  refine F_in Try.func33 rfl Try.ntmps33 rfl ?_
  intro e he
  have p_0 : e 0 = Value.int .i64 ((k : Nat) : Int) := he 0 _ rfl
  have H := Hp.start w0 []
  refine W_seq ?_
  refine W_rg ?_
  refine L_alloc rfl H T_zero53 ?_; intro bk2 w_2 H_2
  refine L_nil ?_
  refine Th_n ?_
  refine W_seq ?_
  refine W_rg ?_
  refine L_callv rfl rfl T_en29 (A0) (rorder_n _) ?_
  rintro _ w_3 ⟨rfl, hkp⟩; refine ⟨_, rfl, ?_⟩; have H_3 := H_2.keep hkp
  refine L_alloc rfl H_3 T_zero22 ?_; intro bk3 w_4 H_4
  refine L_str (ds := ua .u8 (Lm.b32 Lm.ord)) T_row22 H_4 (i := 0) rfl rfl rfl rfl (by rw [ua_size]; exact (b32_wd Lm.ord).1) (ua_one _ _) (l' := [.blk bk3 22 (ua .u8 (Lm.b32 Lm.ord)), .blk bk2 53 (ua .u64 [0, 0, 0, 0, 0, 0, 0, 0, 0])]) rfl ?_; intro w_5 H_5
  refine L_nil ?_
  refine Th_n ?_
  refine W_seq ?_
  refine W_rg ?_
  refine L_alloc rfl H_5 T_zero53 ?_; intro bk4 w_6 H_6
  refine L_nil ?_
  refine Th_n ?_
  refine W_seq ?_
  refine W_seq ?_
  refine W_rg ?_
  refine L_as rfl ?_
  refine L_nil ?_
  refine Th_n ?_
  refine W_block ?_
  refine W_loop (fun mu_ e w => ∃ j : Nat, ∃ m : List Nat, mu_ = 2 * j ∧ e 0 = Value.int .i64 ((k : Nat) : Int) ∧ e 2 = Value.pointer (some ⟨bk2, 0, none⟩) ∧ e 3 = Value.pointer (some ⟨bk3, 0, none⟩) ∧ e 4 = Value.pointer (some ⟨bk4, 0, none⟩) ∧ e 5 = Value.int .i64 (((j : Nat) : Int) - ((1 : Nat) : Int)) ∧ Hp w0 [] w [.blk bk4 53 (ua .u64 m), .blk bk3 22 (ua .u8 (Lm.b32 Lm.ord)), .blk bk2 53 (ua .u64 [0, 0, 0, 0, 0, 0, 0, 0, 0])] ∧ j ≤ 32 ∧ Wd 9 18446744073709551616 m ∧ m = Lm.rdg 9 Lm.ord j) _ ⟨32, [0, 0, 0, 0, 0, 0, 0, 0, 0], rfl, p_0, rfl, rfl, rfl, rfl, H_6, (by decide), ⟨rfl, by decide⟩, Lm.rdg_init⟩ ?_
  rintro mu_ e_2 w_7 ⟨j, m, rfl, e_2_0, e_2_2, e_2_3, e_2_4, e_2_5, H_7, hj, hm, hV⟩
  refine W_seq ?_
  refine W_seq ?_
  refine W_rg ?_
  refine L_mv rfl ?_
  refine L_y rfl (Y_geq (k := .i64) (a := (((j : Nat) : Int) - ((1 : Nat) : Int))) (b := ((0 : Nat) : Int)) e_2_5 rfl) ?_
  refine L_nil ?_
  refine Th_n ?_
  refine W_cond (b := (decide (((0 : Nat) : Int) ≤ (((j : Nat) : Int) - ((1 : Nat) : Int))))) rfl (fun hc => ?_) (fun hc => ?_)
  ·
    obtain ⟨i, rfl⟩ : ∃ i, j = i + 1 := by have := of_decide_eq_true hc; exact ⟨j - 1, by omega⟩
    have ejm := e_2_5.trans (congrArg (Value.int .i64) (by omega : ((i + 1 : Nat) : Int) - ((1 : Nat) : Int) = ((i : Nat) : Int)))
    refine W_skip ?_
    refine Th_n ?_
    refine W_seq ?_
    refine W_block ?_
    obtain ⟨x18, hx18⟩ : ∃ u, m[i / 4]? = some u := ⟨_, List.getElem?_eq_getElem (by have := hm.1; omega)⟩
    have rx18 := hm.2 _ (List.mem_of_getElem? hx18)
    obtain ⟨x22, hx22⟩ : ∃ u, (Lm.b32 Lm.ord)[i]? = some u := ⟨_, List.getElem?_eq_getElem (by have := (b32_wd Lm.ord).1; omega)⟩
    have rx22 := (b32_wd Lm.ord).2 _ (List.mem_of_getElem? hx22)
    refine W_quiet H_7 12 [Value.int .i64 ((i : Nat) : Int), Value.int .i64 ((i / 4 : Nat) : Int), Value.int .i64 ((i : Nat) : Int), Value.int .i64 ((i / 4 : Nat) : Int), Value.pointer (some ⟨bk4, i / 4, none⟩), Value.int .u64 ((x18 : Nat) : Int), Value.int .u64 ((256 * x18 % 18446744073709551616 : Nat) : Int), Value.int .i64 ((i : Nat) : Int), Value.pointer (some ⟨bk3, i, none⟩), Value.int .u8 ((x22 : Nat) : Int), Value.int .u64 ((x22 : Nat) : Int), Value.int .u64 ((((256 * x18 % 18446744073709551616) + x22) % 18446744073709551616 : Nat) : Int)] T_mixed (by kernel_rfl) ?_ ?_
    ·
      refine .plain rfl (Pl_y rfl (fun w hBw => congrArg (fun v => Result.ok (Next.value v) w) ejm)) ?_
      refine .plain rfl (Pl_y rfl (fun w hBw => Y_quo (k := .i64) (a := ((i : Nat) : Int)) (b := ((4 : Nat) : Int)) (z := ((i / 4 : Nat) : Int)) rfl rfl (by omega) (wiq (by omega)))) ?_
      refine .plain rfl (Pl_y rfl (fun w hBw => congrArg (fun v => Result.ok (Next.value v) w) ejm)) ?_
      refine .plain rfl (Pl_y rfl (fun w hBw => Y_quo (k := .i64) (a := ((i : Nat) : Int)) (b := ((4 : Nat) : Int)) (z := ((i / 4 : Nat) : Int)) rfl rfl (by omega) (wiq (by omega)))) ?_
      refine .plain rfl (Pl_y rfl (fun w hBw => Y_idxA (i / 4) (i / 4) T_arr53 e_2_4 rfl rfl (by omega) (zz1 _))) ?_
      refine .plain rfl (Pl_y rfl (fun w hBw => Y_ld T_scal30 hBw (i := 0) rfl rfl (ua_get hx18))) ?_
      refine .plain rfl (Pl_y rfl (fun w hBw => Yu_mul (k := .u64) rfl 256 x18 rfl rfl)) ?_
      refine .plain rfl (Pl_y rfl (fun w hBw => congrArg (fun v => Result.ok (Next.value v) w) ejm)) ?_
      refine .plain rfl (Pl_y rfl (fun w hBw => Y_idxA i i T_arr22 e_2_3 rfl rfl (by omega) (zz1 _))) ?_
      refine .plain rfl (Pl_y rfl (fun w hBw => Y_ld T_scal5 hBw (i := 1) rfl rfl (ua_get hx22))) ?_
      refine .plain rfl (Pl_y rfl (fun w hBw => Y_convI (k := .u8) (n := ((x22 : Nat) : Int)) (z := ((x22 : Nat) : Int)) T_some5 T_kind30 rfl (wrapS rfl (by exact Nat.lt_of_lt_of_le rx22 (by decide))))) ?_
      refine .plain rfl (Pl_y rfl (fun w hBw => Yu_add (k := .u64) rfl (256 * x18 % 18446744073709551616) x22 rfl rfl)) ?_
      exact .nil _
    ·
      intro e_3 w_8 hAg H_8
      have e_3_0 : e_3 0 = Value.int .i64 ((k : Nat) : Int) := (hAg 0 rfl).trans e_2_0
      have e_3_2 : e_3 2 = Value.pointer (some ⟨bk2, 0, none⟩) := (hAg 2 rfl).trans e_2_2
      have e_3_3 : e_3 3 = Value.pointer (some ⟨bk3, 0, none⟩) := (hAg 3 rfl).trans e_2_3
      have e_3_4 : e_3 4 = Value.pointer (some ⟨bk4, 0, none⟩) := (hAg 4 rfl).trans e_2_4
      have e_3_5 : e_3 5 = Value.int .i64 ((i : Nat) : Int) := (hAg 5 rfl).trans ejm
      obtain ⟨x14, hx14⟩ : ∃ x : Nat, x = i / 4 := ⟨_, rfl⟩
      have e_3_14 : e_3 14 = Value.int .i64 ((x14 : Nat) : Int) := (hAg 14 rfl).trans (by rw [hx14]; exact rfl)
      obtain ⟨x24, hx24⟩ : ∃ x : Nat, x = ((256 * x18 % 18446744073709551616) + x22) % 18446744073709551616 := ⟨_, rfl⟩
      have rx24 : x24 < 18446744073709551616 := by rw [hx24]; exact (Nat.mod_lt _ (by decide))
      have e_3_24 : e_3 24 = Value.int .u64 ((x24 : Nat) : Int) := (hAg 24 rfl).trans (by rw [hx24]; exact rfl)
      refine L_y rfl (Y_idxA x14 x14 T_arr53 e_3_4 e_3_14 rfl (by omega) (zz1 _)) ?_
      refine L_st (v := Value.int .u64 ((x24 : Nat) : Int)) T_scal30 H_8 (i := 0) rfl rfl e_3_24 rfl (by rw [ua_size]; have := hm.1; omega) (l' := [.blk bk4 53 (ua .u64 (m.set x14 x24)), .blk bk3 22 (ua .u8 (Lm.b32 Lm.ord)), .blk bk2 53 (ua .u64 [0, 0, 0, 0, 0, 0, 0, 0, 0])]) (by rw [ua_set]; rfl) ?_; intro w_9 H_9
      refine L_nil ?_
      refine InB_n ?_
      refine Th_n ?_
      refine W_rg ?_
      refine L_mv rfl ?_
      refine L_y rfl (Y_sub (k := .i64) (a := ((i : Nat) : Int)) (b := ((1 : Nat) : Int)) (z := (((i : Nat) : Int) - ((1 : Nat) : Int))) e_3_5 rfl (wi (by omega))) ?_
      refine L_as rfl ?_
      refine L_nil ?_
      refine Th_n ⟨_, ?_, i, m.set x14 x24, rfl, e_3_0, e_3_2, e_3_3, e_3_4, rfl, H_9, (by omega), (Wd.set hm (by assumption)), (by subst hV hx14; exact Lm.rdg_set (by omega) hx18 (Lm.b32_get hx22).2 hx24)⟩
      omega
  ·
    have hj0 : j = 0 := by have := of_decide_eq_false hc; omega
    refine W_exit ?_
    refine Th_x ?_
    refine Th_x ?_
    obtain rfl : m = Lm.dg 4294967296 9 Lm.ord := by rw [hV, hj0, Lm.rdg_done]
    refine InB_hit ?_
    refine Th_n ?_
    refine W_seq ?_
    refine W_rg ?_
    refine L_as rfl ?_
    refine L_nil ?_
    refine Th_n ?_
    refine W_seq ?_
    refine W_seq ?_
    refine W_rg ?_
    refine L_as rfl ?_
    refine L_nil ?_
    refine Th_n ?_
    refine W_block ?_
    refine W_loop (fun mu_ e w => ∃ i : Nat, ∃ c : Nat, ∃ l : List Nat, mu_ = 9 - i ∧ e 0 = Value.int .i64 ((k : Nat) : Int) ∧ e 2 = Value.pointer (some ⟨bk2, 0, none⟩) ∧ e 4 = Value.pointer (some ⟨bk4, 0, none⟩) ∧ e 6 = Value.int .u64 ((c : Nat) : Int) ∧ e 7 = Value.int .i64 ((i : Nat) : Int) ∧ Hp w0 [] w [.blk bk4 53 (ua .u64 l), .blk bk3 22 (ua .u8 (Lm.b32 Lm.ord)), .blk bk2 53 (ua .u64 [0, 0, 0, 0, 0, 0, 0, 0, 0])] ∧ i ≤ 9 ∧ c < 18446744073709551616 ∧ c = (Lm.ord % 4294967296 ^ i) * 2 ^ k / 4294967296 ^ i ∧ Wd 9 18446744073709551616 l ∧ l = Lm.shd k i) _ ⟨0, 0, Lm.dg 4294967296 9 Lm.ord, rfl, e_2_0, e_2_2, e_2_4, rfl, rfl, H_7, (by decide), (by decide), (by rw [Nat.pow_zero, Nat.mod_one, Nat.zero_mul]), (d9_wd _), (Lm.shd_init k)⟩ ?_
    rintro mu_ e_4 w_10 ⟨i, c, l, rfl, e_4_0, e_4_2, e_4_4, e_4_6, e_4_7, H_10, hi, rc, hc0, hl, hW⟩
    refine W_seq ?_
    refine W_seq ?_
    refine W_rg ?_
    refine L_mv rfl ?_
    refine L_y rfl (Y_lss (k := .i64) (a := ((i : Nat) : Int)) (b := ((9 : Nat) : Int)) e_4_7 rfl) ?_
    refine L_nil ?_
    refine Th_n ?_
    refine W_cond (b := (decide (((i : Nat) : Int) < ((9 : Nat) : Int)))) rfl (fun hc_2 => ?_) (fun hc_2 => ?_)
    ·
      have hc_2' := of_decide_eq_true hc_2
      refine W_skip ?_
      refine Th_n ?_
      refine W_seq ?_
      refine W_block ?_
      refine W_seq ?_
      refine W_rg ?_
      refine L_mv rfl ?_
      refine L_mv rfl ?_
      refine L_y rfl (Y_idxA i i T_arr53 e_4_4 e_4_7 rfl (by omega) (zz1 _)) ?_
      obtain ⟨x33, hx33⟩ : ∃ u, l[i]? = some u := ⟨_, List.getElem?_eq_getElem (by have := hl.1; omega)⟩
      have rx33 := hl.2 _ (List.mem_of_getElem? hx33)
      refine L_y rfl (Y_ld T_scal30 H_10 (i := 0) rfl rfl (ua_get hx33)) ?_
      refine L_mv rfl ?_
      refine L_yr (z := x33 * 2 ^ k % 18446744073709551616) (m := 18446744073709551616) rfl (Yu_shl (k := .u64) rfl x33 k rfl e_4_0) (Nat.mod_lt _ (by decide)) ?_; intro x35 hx35 rx35
      refine L_yr (z := (c + x35) % 18446744073709551616) (m := 18446744073709551616) rfl (Yu_add (k := .u64) rfl c x35 e_4_6 rfl) (Nat.mod_lt _ (by decide)) ?_; intro x36 hx36 rx36
      refine L_as rfl ?_
      refine L_nil ?_
      refine Th_n ?_
      refine W_seq ?_
      refine W_rg ?_
      refine L_mv rfl ?_
      refine L_mv rfl ?_
      refine L_yr (z := x36 % 4294967296) (m := 18446744073709551616) rfl (Yu_rem (k := .u64) x36 4294967296 rfl rfl (by decide)) (Nat.lt_of_le_of_lt (Nat.mod_le _ _) rx36) ?_; intro x39 hx39 rx39
      refine L_y rfl (Y_idxA i i T_arr53 e_4_4 e_4_7 rfl (by omega) (zz1 _)) ?_
      refine L_st (v := Value.int .u64 ((x39 : Nat) : Int)) T_scal30 H_10 (i := 0) rfl rfl rfl rfl (by rw [ua_size]; have := hl.1; omega) (l' := [.blk bk4 53 (ua .u64 (l.set i x39)), .blk bk3 22 (ua .u8 (Lm.b32 Lm.ord)), .blk bk2 53 (ua .u64 [0, 0, 0, 0, 0, 0, 0, 0, 0])]) (by rw [ua_set]; rfl) ?_; intro w_11 H_11
      refine L_nil ?_
      refine Th_n ?_
      refine W_rg ?_
      refine L_mv rfl ?_
      refine L_yr (z := x36 / 4294967296) (m := 18446744073709551616) rfl (Yu_quo (k := .u64) rfl x36 4294967296 rx36 rfl rfl (by decide)) (Nat.lt_of_le_of_lt (Nat.div_le_self _ _) rx36) ?_; intro x42 hx42 rx42
      refine L_as rfl ?_
      refine L_nil ?_
      refine InB_n ?_
      refine Th_n ?_
      refine W_rg ?_
      refine L_mv rfl ?_
      refine L_y rfl (Y_add (k := .i64) (a := ((i : Nat) : Int)) (b := ((1 : Nat) : Int)) (z := ((i + 1 : Nat) : Int)) e_4_7 rfl (wi (by omega))) ?_
      refine L_as rfl ?_
      refine L_nil ?_
      refine Th_n ⟨_, ?_, i + 1, x42, l.set i x39, rfl, e_4_0, e_4_2, e_4_4, rfl, rfl, H_11, (by omega), rx42, (by subst hW hc0; exact Lm.shd_carry hk hx33 (hx36.trans (by rw [hx35])) hx42), (Wd.set hl (by assumption)), (by subst hW hc0; exact Lm.shd_step hk hx33 (hx36.trans (by rw [hx35])) hx39)⟩
      omega
    ·
      have hc_2' := of_decide_eq_false hc_2
      refine W_exit ?_
      refine Th_x ?_
      refine Th_x ?_
      refine InB_hit ?_
      refine Th_n ?_
      refine W_seq ?_
      refine W_rg ?_
      refine L_y rfl (Y_ldr T_row53 H_10 (i := 0) rfl e_4_4 (by rw [ua_size]; exact hl.1)) ?_
      refine L_str (ds := ua .u64 l) T_row53 H_10 (i := 2) rfl e_4_2 rfl rfl (by rw [ua_size]; exact hl.1) (ua_one _ _) (l' := [.blk bk4 53 (ua .u64 l), .blk bk3 22 (ua .u8 (Lm.b32 Lm.ord)), .blk bk2 53 (ua .u64 l)]) rfl ?_; intro w_12 H_12
      refine L_nil ?_
      refine Th_n ?_
      refine W_ret ?_
      refine P_ret (vs := [Value.agg (ua .u64 l)]) (v := Value.agg (ua .u64 l)) rfl (.cell e_4_2 (loadVar_row T_row53 H_12 (i := 2) rfl (by rw [ua_size]; exact hl.1)) (Res.nil)) rfl ?_
      refine ⟨?_, H_12.nil_⟩
      rw [hW, Lm.shd_done (by omega) hi]
end Go.Proofs.Ythjdikgdhmlmcaa
