/- Walks of layer 17 (pack) and of its reference. Printed by pack.py. -/
import Derived.Test.YtidepfhfconkaaaK7
namespace Go.Proofs.Ytidepfhfconkaaa
open Go.Ev
set_option maxRecDepth 100000
set_option linter.unusedVariables false
set_option linter.unusedSimpArgs false
theorem T_en16 : enters Try.prog 16 = true := by kernel_rfl
theorem T_en30 : enters Try.prog 30 = true := by kernel_rfl
theorem T_en17 : enters Try.prog 17 = true := by kernel_rfl
theorem T_en18 : enters Try.prog 18 = true := by kernel_rfl
theorem T_en19 : enters Try.prog 19 = true := by kernel_rfl
theorem T_en20 : enters Try.prog 20 = true := by kernel_rfl
theorem T_en21 : enters Try.prog 21 = true := by kernel_rfl
theorem T_en8 : enters Try.prog 8 = true := by kernel_rfl
theorem dFail0 (w0 : World) :
    Calls Try.prog 16 #[Value.pointer none, Value.int .i64 ((2 : Nat) : Int)] w0 (fun r_ w' => r_ = .returned (Value.tuple #[]) ∧ Keep w0 w') := by
  refine F_in Try.func16 rfl Try.ntmps16 rfl ?_
  intro e he
  have p_0 : e 0 = Value.pointer none := he 0 _ rfl
  have p_1 : e 1 = Value.int .i64 ((2 : Nat) : Int) := he 1 _ rfl
  have H := Hp.start w0 []
  refine W_seq ?_
  refine W_rg ?_
  refine L_mv rfl ?_
  refine L_y rfl (Y_neP Try.underlying42 p_0 rfl) ?_
  refine L_mv rfl ?_
  refine G_no (wN (b := true) rfl rfl) rfl ?_
  refine G_no (wN (b := true) rfl rfl) rfl ?_
  refine G_no (wN (b := true) rfl rfl) rfl ?_
  refine G_no (wN (b := true) rfl rfl) rfl ?_
  refine G_no (wN (b := true) rfl rfl) rfl ?_
  refine L_y rfl (Y_pickF rfl) ?_
  refine L_nil ?_
  refine Th_n ?_
  refine W_false rfl ?_
  refine W_skip ?_
  refine P_end (vs := []) (v := Value.tuple #[]) rfl (Res.nil) rfl ?_
  refine ⟨?_, H.nil_⟩
  rfl

theorem dDone0 (w0 : World) :
    Calls Try.prog 17 #[Value.pointer none] w0 (fun r_ w' => r_ = .returned (Value.tuple #[.int .i64 ((1 : Nat) : Int), .int .i64 ((0 : Nat) : Int)]) ∧ Keep w0 w') := by
  refine F_in Try.func17 rfl Try.ntmps17 rfl ?_
  intro e he
  have p_0 : e 0 = Value.pointer none := he 0 _ rfl
  have H := Hp.start w0 []
  refine W_seq ?_
  refine W_rg ?_
  refine L_as rfl ?_
  refine L_as rfl ?_
  refine L_nil ?_
  refine Th_n ?_
  refine W_seq ?_
  refine W_block ?_
  refine W_seq ?_
  refine W_rg ?_
  refine L_mv rfl ?_
  refine L_y rfl (Y_eqP Try.underlying42 p_0 rfl) ?_
  refine L_as rfl ?_
  refine L_nil ?_
  refine Th_n ?_
  refine W_true rfl ?_
  refine W_seq ?_
  refine W_rg ?_
  refine L_as rfl ?_
  refine L_as rfl ?_
  refine L_nil ?_
  refine Th_n ?_
  refine W_ret ?_
  refine InB_r ?_
  refine Th_r ?_
  refine P_ret (vs := [Value.int .i64 ((1 : Nat) : Int), Value.int .i64 ((0 : Nat) : Int)]) (v := Value.tuple #[Value.int .i64 ((1 : Nat) : Int), Value.int .i64 ((0 : Nat) : Int)]) rfl (.tmp rfl (.tmp rfl (Res.nil))) rfl ?_
  refine ⟨?_, H.nil_⟩
  rfl

theorem dTake0 (s : Int) (w0 : World) :
    Calls Try.prog 30 #[Value.pointer none, Value.int .i64 (s)] w0 (fun r_ w' => r_ = .returned (Value.slice none 0 0) ∧ Keep w0 w') := by
  refine F_in Try.func30 rfl Try.ntmps30 rfl ?_
  intro e he
  have p_0 : e 0 = Value.pointer none := he 0 _ rfl
  have p_1 : e 1 = Value.int .i64 (s) := he 1 _ rfl
  have H := Hp.start w0 []
  refine W_seq ?_
  refine W_rg ?_
  refine L_as rfl ?_
  refine L_nil ?_
  refine Th_n ?_
  refine W_seq ?_
  refine W_block ?_
  refine W_seq ?_
  refine W_rg ?_
  refine L_mv rfl ?_
  refine L_y rfl (Y_eqP Try.underlying42 p_0 rfl) ?_
  refine L_mv rfl ?_
  refine G_no (wN (b := false) rfl rfl) rfl ?_
  refine G_no (wN (b := false) rfl rfl) rfl ?_
  refine G_no (wN (b := false) rfl rfl) rfl ?_
  refine G_no (wN (b := false) rfl rfl) rfl ?_
  refine G_no (wN (b := false) rfl rfl) rfl ?_
  refine L_y rfl (Y_pickT rfl) ?_
  refine L_as rfl ?_
  refine L_nil ?_
  refine Th_n ?_
  refine W_true rfl ?_
  refine W_seq ?_
  refine W_rg ?_
  refine L_as rfl ?_
  refine L_nil ?_
  refine Th_n ?_
  refine W_ret ?_
  refine InB_r ?_
  refine Th_r ?_
  refine P_ret (vs := [Value.slice none 0 0]) (v := Value.slice none 0 0) rfl (.tmp rfl (Res.nil)) rfl ?_
  refine ⟨?_, H.nil_⟩
  rfl

theorem dLeft0 (w0 : World) :
    Calls Try.prog 21 #[Value.pointer none] w0 (fun r_ w' => r_ = .returned (.int .i64 ((0 : Nat) : Int)) ∧ Keep w0 w') := by
  refine F_in Try.func21 rfl Try.ntmps21 rfl ?_
  intro e he
  have p_0 : e 0 = Value.pointer none := he 0 _ rfl
  have H := Hp.start w0 []
  refine W_seq ?_
  refine W_rg ?_
  refine L_as rfl ?_
  refine L_nil ?_
  refine Th_n ?_
  refine W_seq ?_
  refine W_seq ?_
  refine W_rg ?_
  refine L_mv rfl ?_
  refine L_y rfl (Y_eqP Try.underlying42 p_0 rfl) ?_
  refine L_nil ?_
  refine Th_n ?_
  refine W_true rfl ?_
  refine W_seq ?_
  refine W_rg ?_
  refine L_as rfl ?_
  refine L_nil ?_
  refine Th_n ?_
  refine W_ret ?_
  refine Th_r ?_
  refine P_ret (vs := [Value.int .i64 ((0 : Nat) : Int)]) (v := Value.int .i64 ((0 : Nat) : Int)) rfl (.tmp rfl (Res.nil)) rfl ?_
  refine ⟨?_, H.nil_⟩
  rfl

theorem dText0 (s : Int) (w0 : World) :
    Calls Try.prog 20 #[Value.pointer none, Value.int .i64 (s)] w0 (fun r_ w' => r_ = .returned (Value.slice none 0 0) ∧ Keep w0 w') := by
  refine F_in Try.func20 rfl Try.ntmps20 rfl ?_
  intro e he
  have p_0 : e 0 = Value.pointer none := he 0 _ rfl
  have p_1 : e 1 = Value.int .i64 (s) := he 1 _ rfl
  have H := Hp.start w0 []
  refine W_seq ?_
  refine W_rg ?_
  refine L_as rfl ?_
  refine L_nil ?_
  refine Th_n ?_
  refine W_seq ?_
  refine W_seq ?_
  refine W_rg ?_
  refine L_mv rfl ?_
  refine L_y rfl (Y_eqP Try.underlying42 p_0 rfl) ?_
  refine L_mv rfl ?_
  refine G_no (wN (b := false) rfl rfl) rfl ?_
  refine G_no (wN (b := false) rfl rfl) rfl ?_
  refine G_no (wN (b := false) rfl rfl) rfl ?_
  refine G_no (wN (b := false) rfl rfl) rfl ?_
  refine G_no (wN (b := false) rfl rfl) rfl ?_
  refine L_y rfl (Y_pickT rfl) ?_
  refine L_nil ?_
  refine Th_n ?_
  refine W_true rfl ?_
  refine W_seq ?_
  refine W_rg ?_
  refine L_as rfl ?_
  refine L_nil ?_
  refine Th_n ?_
  refine W_ret ?_
  refine Th_r ?_
  refine P_ret (vs := [Value.slice none 0 0]) (v := Value.slice none 0 0) rfl (.tmp rfl (Res.nil)) rfl ?_
  refine ⟨?_, H.nil_⟩
  rfl

theorem dNum0 (s : Int) (w0 : World) :
    Calls Try.prog 18 #[Value.pointer none, Value.int .i64 (s)] w0 (fun r_ w' => r_ = .returned (.int .u64 ((0 : Nat) : Int)) ∧ Keep w0 w') := by
  refine F_in Try.func18 rfl Try.ntmps18 rfl ?_
  intro e he
  have p_0 : e 0 = Value.pointer none := he 0 _ rfl
  have p_1 : e 1 = Value.int .i64 (s) := he 1 _ rfl
  have H := Hp.start w0 []
  refine W_seq ?_
  refine W_rg ?_
  refine L_as rfl ?_
  refine L_nil ?_
  refine Th_n ?_
  refine W_seq ?_
  refine W_seq ?_
  refine W_rg ?_
  refine L_mv rfl ?_
  refine L_y rfl (Y_lss (k := .i64) (a := s) (b := ((1 : Nat) : Int)) p_1 rfl) ?_
  refine L_mv rfl ?_
  rcases Bool.eq_false_or_eq_true (decide (s < ((1 : Nat) : Int))) with hb | hb
  ·
    have hb' := of_decide_eq_true hb
    refine G_no (wN (b := false) rfl (congrArg Value.bool hb)) rfl ?_
    refine G_no (wN (b := false) rfl (congrArg Value.bool hb)) rfl ?_
    refine L_y rfl (Y_pickT (congrArg Value.bool hb)) ?_
    refine L_nil ?_
    refine Th_n ?_
    refine W_true rfl ?_
    refine W_rg ?_
    refine L_mv rfl ?_
    refine L_callv rfl rfl T_en16 (A2 p_0 rfl) (dFail0 _) ?_
    rintro _ w_2 ⟨rfl, hkp⟩; refine ⟨_, rfl, ?_⟩; have H_2 := H.keep hkp
    refine L_nil ?_
    refine Th_n ?_
    refine W_seq ?_
    refine W_rg ?_
    refine L_as rfl ?_
    refine L_nil ?_
    refine Th_n ?_
    refine W_seq ?_
    refine W_seq ?_
    refine W_rg ?_
    refine L_mv rfl ?_
    refine L_mv rfl ?_
    refine L_callv rfl rfl T_en30 (A2 p_0 p_1) (dTake0 s _) ?_
    rintro _ w_3 ⟨rfl, hkp_2⟩; refine ⟨_, rfl, ?_⟩; have H_3 := H_2.keep hkp_2
    refine L_y rfl (Y_lenS T_sl25 rfl) ?_
    refine L_mv rfl ?_
    refine L_nil ?_
    refine Th_n ?_
    refine W_block ?_
    refine W_loop (fun mu_ e w => mu_ = 0 ∧ e 5 = Value.int .u64 ((0 : Nat) : Int) ∧ e 18 = Value.slice none 0 0 ∧ e 19 = Value.int .i64 ((0 : Nat) : Int) ∧ e 20 = Value.int .i64 ((0 : Nat) : Int) ∧ Hp w0 [] w []) _ ⟨rfl, rfl, rfl, rfl, rfl, H_3⟩ ?_
    rintro mu_ e_2 w_4 ⟨rfl, e_2_5, e_2_18, e_2_19, e_2_20, H_4⟩
    refine W_seq ?_
    refine W_rg ?_
    refine L_y rfl (Y_lss (k := .i64) (a := ((0 : Nat) : Int)) (b := ((0 : Nat) : Int)) e_2_20 e_2_19) ?_
    refine L_nil ?_
    refine Th_n ?_
    refine W_seq ?_
    refine W_false (congrArg Value.bool (by decide : (decide (((0 : Nat) : Int) < ((0 : Nat) : Int))) = false)) ?_
    refine W_exit ?_
    refine Th_x ?_
    refine Th_x ?_
    refine InB_hit ?_
    refine Th_n ?_
    refine W_seq ?_
    refine W_rg ?_
    refine L_mv rfl ?_
    refine L_as rfl ?_
    refine L_nil ?_
    refine Th_n ?_
    refine W_ret ?_
    refine P_ret (vs := [Value.int .u64 ((0 : Nat) : Int)]) (v := Value.int .u64 ((0 : Nat) : Int)) rfl (.tmp e_2_5 (Res.nil)) rfl ?_
    refine ⟨?_, H_4.nil_⟩
    rfl
  ·
    have hb' := of_decide_eq_false hb
    refine G_mv (wE rfl (congrArg Value.bool hb)) rfl ?_
    refine G_y (wE rfl (congrArg Value.bool hb)) rfl (Y_gtr (k := .i64) (a := s) (b := ((8 : Nat) : Int)) p_1 rfl) ?_
    refine L_y rfl (Y_pickF (congrArg Value.bool hb)) ?_
    refine L_nil ?_
    refine Th_n ?_
    refine W_cond (b := (decide (((8 : Nat) : Int) < s))) rfl (fun hc => ?_) (fun hc => ?_)
    ·
      have hc' := of_decide_eq_true hc
      refine W_rg ?_
      refine L_mv rfl ?_
      refine L_callv rfl rfl T_en16 (A2 p_0 rfl) (dFail0 _) ?_
      rintro _ w_5 ⟨rfl, hkp_3⟩; refine ⟨_, rfl, ?_⟩; have H_5 := H.keep hkp_3
      refine L_nil ?_
      refine Th_n ?_
      refine W_seq ?_
      refine W_rg ?_
      refine L_as rfl ?_
      refine L_nil ?_
      refine Th_n ?_
      refine W_seq ?_
      refine W_seq ?_
      refine W_rg ?_
      refine L_mv rfl ?_
      refine L_mv rfl ?_
      refine L_callv rfl rfl T_en30 (A2 p_0 p_1) (dTake0 s _) ?_
      rintro _ w_6 ⟨rfl, hkp_4⟩; refine ⟨_, rfl, ?_⟩; have H_6 := H_5.keep hkp_4
      refine L_y rfl (Y_lenS T_sl25 rfl) ?_
      refine L_mv rfl ?_
      refine L_nil ?_
      refine Th_n ?_
      refine W_block ?_
      refine W_loop (fun mu_ e w => mu_ = 0 ∧ e 5 = Value.int .u64 ((0 : Nat) : Int) ∧ e 18 = Value.slice none 0 0 ∧ e 19 = Value.int .i64 ((0 : Nat) : Int) ∧ e 20 = Value.int .i64 ((0 : Nat) : Int) ∧ Hp w0 [] w []) _ ⟨rfl, rfl, rfl, rfl, rfl, H_6⟩ ?_
      rintro mu_ e_3 w_7 ⟨rfl, e_3_5, e_3_18, e_3_19, e_3_20, H_7⟩
      refine W_seq ?_
      refine W_rg ?_
      refine L_y rfl (Y_lss (k := .i64) (a := ((0 : Nat) : Int)) (b := ((0 : Nat) : Int)) e_3_20 e_3_19) ?_
      refine L_nil ?_
      refine Th_n ?_
      refine W_seq ?_
      refine W_false (congrArg Value.bool (by decide : (decide (((0 : Nat) : Int) < ((0 : Nat) : Int))) = false)) ?_
      refine W_exit ?_
      refine Th_x ?_
      refine Th_x ?_
      refine InB_hit ?_
      refine Th_n ?_
      refine W_seq ?_
      refine W_rg ?_
      refine L_mv rfl ?_
      refine L_as rfl ?_
      refine L_nil ?_
      refine Th_n ?_
      refine W_ret ?_
      refine P_ret (vs := [Value.int .u64 ((0 : Nat) : Int)]) (v := Value.int .u64 ((0 : Nat) : Int)) rfl (.tmp e_3_5 (Res.nil)) rfl ?_
      refine ⟨?_, H_7.nil_⟩
      rfl
    ·
      have hc' := of_decide_eq_false hc
      refine W_skip ?_
      refine Th_n ?_
      refine W_seq ?_
      refine W_rg ?_
      refine L_as rfl ?_
      refine L_nil ?_
      refine Th_n ?_
      refine W_seq ?_
      refine W_seq ?_
      refine W_rg ?_
      refine L_mv rfl ?_
      refine L_mv rfl ?_
      refine L_callv rfl rfl T_en30 (A2 p_0 p_1) (dTake0 s _) ?_
      rintro _ w_8 ⟨rfl, hkp_5⟩; refine ⟨_, rfl, ?_⟩; have H_8 := H.keep hkp_5
      refine L_y rfl (Y_lenS T_sl25 rfl) ?_
      refine L_mv rfl ?_
      refine L_nil ?_
      refine Th_n ?_
      refine W_block ?_
      refine W_loop (fun mu_ e w => mu_ = 0 ∧ e 5 = Value.int .u64 ((0 : Nat) : Int) ∧ e 18 = Value.slice none 0 0 ∧ e 19 = Value.int .i64 ((0 : Nat) : Int) ∧ e 20 = Value.int .i64 ((0 : Nat) : Int) ∧ Hp w0 [] w []) _ ⟨rfl, rfl, rfl, rfl, rfl, H_8⟩ ?_
      rintro mu_ e_4 w_9 ⟨rfl, e_4_5, e_4_18, e_4_19, e_4_20, H_9⟩
      refine W_seq ?_
      refine W_rg ?_
      refine L_y rfl (Y_lss (k := .i64) (a := ((0 : Nat) : Int)) (b := ((0 : Nat) : Int)) e_4_20 e_4_19) ?_
      refine L_nil ?_
      refine Th_n ?_
      refine W_seq ?_
      refine W_false (congrArg Value.bool (by decide : (decide (((0 : Nat) : Int) < ((0 : Nat) : Int))) = false)) ?_
      refine W_exit ?_
      refine Th_x ?_
      refine Th_x ?_
      refine InB_hit ?_
      refine Th_n ?_
      refine W_seq ?_
      refine W_rg ?_
      refine L_mv rfl ?_
      refine L_as rfl ?_
      refine L_nil ?_
      refine Th_n ?_
      refine W_ret ?_
      refine P_ret (vs := [Value.int .u64 ((0 : Nat) : Int)]) (v := Value.int .u64 ((0 : Nat) : Int)) rfl (.tmp e_4_5 (Res.nil)) rfl ?_
      refine ⟨?_, H_9.nil_⟩
      rfl

theorem dRaw0 (s : Int) (w0 : World) :
    Calls Try.prog 19 #[Value.pointer none, Value.int .i64 (s)] w0 (fun r_ w' => ∃ v, r_ = .returned v ∧ Hp w0 [] w' [.own v 5 1 0 (us .u8 [])]) := by
  refine F_in Try.func19 rfl Try.ntmps19 rfl ?_
  intro e he
  have p_0 : e 0 = Value.pointer none := he 0 _ rfl
  have p_1 : e 1 = Value.int .i64 (s) := he 1 _ rfl
  have H := Hp.start w0 []
  refine W_seq ?_
  refine W_rg ?_
  refine L_as rfl ?_
  refine L_nil ?_
  refine Th_n ?_
  refine W_seq ?_
  refine W_rg ?_
  refine L_mv rfl ?_
  refine L_mv rfl ?_
  refine L_callv rfl rfl T_en30 (A2 p_0 p_1) (dTake0 s _) ?_
  rintro _ w_2 ⟨rfl, hkp⟩; refine ⟨_, rfl, ?_⟩; have H_2 := H.keep hkp
  refine L_callv rfl rfl T_en29 (A1 rfl) (clone _ _ _ _ _ (by omega) (Sl.nil _ _)) ?_
  rintro _ w_3 ⟨v8, rfl, hkp_2⟩; refine ⟨_, rfl, ?_⟩; have H_3 := H_2.more hkp_2
  refine L_as rfl ?_
  refine L_nil ?_
  refine Th_n ?_
  refine W_ret ?_
  refine P_ret (vs := [v8]) (v := v8) rfl (.tmp rfl (Res.nil)) rfl ?_
  exact ⟨_, rfl, H_3⟩

theorem packNone_n (n : Nat) (s : Int) (hn : n < 18446744073709551616) (w0 : World) :
    Calls Try.prog 4 #[Value.int .u64 ((n : Nat) : Int), Value.int .i64 (s)] w0 (fun r_ w' => r_ = .returned (.bool true) ∧ Keep w0 w') := by
  refine F_in Try.func4 rfl Try.ntmps4 rfl ?_
  intro e he
  have p_0 : e 0 = Value.int .u64 ((n : Nat) : Int) := he 0 _ rfl
  have p_1 : e 1 = Value.int .i64 (s) := he 1 _ rfl
  have H := Hp.start w0 []
  refine W_seq ?_
  refine W_rg ?_
  refine L_as rfl ?_
  refine L_nil ?_
  refine Th_n ?_
  refine W_seq ?_
  refine W_rg ?_
  refine L_as rfl ?_
  refine L_nil ?_
  refine Th_n ?_
  refine W_seq ?_
  refine W_rg ?_
  refine L_as rfl ?_
  refine L_nil ?_
  refine Th_n ?_
  refine W_seq ?_
  refine W_rg ?_
  refine L_mv rfl ?_
  refine L_callv rfl rfl T_en15 (A1 rfl) (wDone0 _) ?_
  rintro _ w_2 ⟨rfl, hkp⟩; refine ⟨_, rfl, ?_⟩; have H_2 := H.keep hkp
  refine L_mv rfl ?_
  refine L_y rfl (Y_ext rfl rfl) ?_
  refine L_y rfl (Y_ext rfl rfl) ?_
  refine L_as rfl ?_
  refine L_as rfl ?_
  refine L_nil ?_
  refine Th_n ?_
  refine W_seq ?_
  refine W_rg ?_
  refine L_mv rfl ?_
  refine L_callv rfl rfl T_en16 (A2 rfl rfl) (dFail0 _) ?_
  rintro _ w_3 ⟨rfl, hkp_2⟩; refine ⟨_, rfl, ?_⟩; have H_3 := H_2.keep hkp_2
  refine L_nil ?_
  refine Th_n ?_
  refine W_seq ?_
  refine W_rg ?_
  refine L_mv rfl ?_
  refine L_callv rfl rfl T_en17 (A1 rfl) (dDone0 _) ?_
  rintro _ w_4 ⟨rfl, hkp_3⟩; refine ⟨_, rfl, ?_⟩; have H_4 := H_3.keep hkp_3
  refine L_mv rfl ?_
  refine L_y rfl (Y_ext rfl rfl) ?_
  refine L_y rfl (Y_ext rfl rfl) ?_
  refine L_as rfl ?_
  refine L_as rfl ?_
  refine L_nil ?_
  refine Th_n ?_
  refine W_seq ?_
  refine W_rg ?_
  refine L_mv rfl ?_
  refine L_mv rfl ?_
  refine L_mv rfl ?_
  refine L_callv rfl rfl T_en9 (A3 rfl p_0 p_1) (wNum0 n s _) ?_
  rintro _ w_5 ⟨rfl, hkp_4⟩; refine ⟨_, rfl, ?_⟩; have H_5 := H_4.keep hkp_4
  refine L_y rfl (Y_eqP Try.underlying35 rfl rfl) ?_
  refine L_mv rfl ?_
  refine G_mv (wE rfl rfl) rfl ?_
  refine L_callv (wE rfl rfl) rfl T_en11 (A2 rfl rfl) (wRaw0 _) ?_
  rintro _ w_6 ⟨rfl, hkp_5⟩; refine ⟨_, rfl, ?_⟩; have H_6 := H_5.keep hkp_5
  refine G_y (wE rfl rfl) rfl (Y_eqP Try.underlying35 rfl rfl) ?_
  refine L_y rfl (Y_pickT rfl) ?_
  refine L_mv rfl ?_
  refine G_mv (wE rfl rfl) rfl ?_
  refine L_callv (wE rfl rfl) rfl T_en13 (A2 rfl rfl) (wText0 _) ?_
  rintro _ w_7 ⟨rfl, hkp_6⟩; refine ⟨_, rfl, ?_⟩; have H_7 := H_6.keep hkp_6
  refine G_y (wE rfl rfl) rfl (Y_eqP Try.underlying35 rfl rfl) ?_
  refine L_y rfl (Y_pickT rfl) ?_
  refine L_mv rfl ?_
  refine G_mv (wE rfl rfl) rfl ?_
  refine G_y (wE rfl rfl) rfl (Y_eql (k := .i64) (a := ((1 : Nat) : Int)) (b := ((1 : Nat) : Int)) rfl rfl) ?_
  refine L_y rfl (Y_pickT rfl) ?_
  refine L_mv rfl ?_
  refine G_mv (wE rfl (congrArg Value.bool (by decide : (((1 : Nat) : Int) == ((1 : Nat) : Int)) = true))) rfl ?_
  refine G_mv (wE rfl (congrArg Value.bool (by decide : (((1 : Nat) : Int) == ((1 : Nat) : Int)) = true))) rfl ?_
  refine L_callv (wE rfl (congrArg Value.bool (by decide : (((1 : Nat) : Int) == ((1 : Nat) : Int)) = true))) rfl T_en18 (A2 rfl p_1) (dNum0 s _) ?_
  rintro _ w_8 ⟨rfl, hkp_7⟩; refine ⟨_, rfl, ?_⟩; have H_8 := H_7.keep hkp_7
  refine G_y (wE rfl (congrArg Value.bool (by decide : (((1 : Nat) : Int) == ((1 : Nat) : Int)) = true))) rfl (Y_eql (k := .u64) (a := ((0 : Nat) : Int)) (b := ((0 : Nat) : Int)) rfl rfl) ?_
  refine L_y rfl (Y_pickT (congrArg Value.bool (by decide : (((1 : Nat) : Int) == ((1 : Nat) : Int)) = true))) ?_
  refine L_mv rfl ?_
  refine G_mv (wE rfl (congrArg Value.bool (by decide : (((0 : Nat) : Int) == ((0 : Nat) : Int)) = true))) rfl ?_
  refine G_mv (wE rfl (congrArg Value.bool (by decide : (((0 : Nat) : Int) == ((0 : Nat) : Int)) = true))) rfl ?_
  refine L_callv (wE rfl (congrArg Value.bool (by decide : (((0 : Nat) : Int) == ((0 : Nat) : Int)) = true))) rfl T_en19 (A2 rfl p_1) (dRaw0 s _) ?_
  rintro _ w_9 ⟨v51, rfl, hkp_8⟩; refine ⟨_, rfl, ?_⟩; have H_9 := H_8.more hkp_8
  refine G_y (wE rfl (congrArg Value.bool (by decide : (((0 : Nat) : Int) == ((0 : Nat) : Int)) = true))) rfl (Y_lenO T_sl25 H_9 (i := 0) rfl rfl) ?_
  refine G_y (wE rfl (congrArg Value.bool (by decide : (((0 : Nat) : Int) == ((0 : Nat) : Int)) = true))) rfl (Y_eql (k := .i64) (a := ((0 : Nat) : Int)) (b := ((0 : Nat) : Int)) rfl rfl) ?_
  refine L_y rfl (Y_pickT (congrArg Value.bool (by decide : (((0 : Nat) : Int) == ((0 : Nat) : Int)) = true))) ?_
  refine L_mv rfl ?_
  refine G_mv (wE rfl (congrArg Value.bool (by decide : (((0 : Nat) : Int) == ((0 : Nat) : Int)) = true))) rfl ?_
  refine G_mv (wE rfl (congrArg Value.bool (by decide : (((0 : Nat) : Int) == ((0 : Nat) : Int)) = true))) rfl ?_
  refine L_callv (wE rfl (congrArg Value.bool (by decide : (((0 : Nat) : Int) == ((0 : Nat) : Int)) = true))) rfl T_en20 (A2 rfl p_1) (dText0 s _) ?_
  rintro _ w_10 ⟨rfl, hkp_9⟩; refine ⟨_, rfl, ?_⟩; have H_10 := H_9.keep hkp_9
  refine G_y (wE rfl (congrArg Value.bool (by decide : (((0 : Nat) : Int) == ((0 : Nat) : Int)) = true))) rfl (Y_lenS T_sl25 rfl) ?_
  refine G_y (wE rfl (congrArg Value.bool (by decide : (((0 : Nat) : Int) == ((0 : Nat) : Int)) = true))) rfl (Y_eql (k := .i64) (a := ((0 : Nat) : Int)) (b := ((0 : Nat) : Int)) rfl rfl) ?_
  refine L_y rfl (Y_pickT (congrArg Value.bool (by decide : (((0 : Nat) : Int) == ((0 : Nat) : Int)) = true))) ?_
  refine L_mv rfl ?_
  refine G_mv (wE rfl (congrArg Value.bool (by decide : (((0 : Nat) : Int) == ((0 : Nat) : Int)) = true))) rfl ?_
  refine L_callv (wE rfl (congrArg Value.bool (by decide : (((0 : Nat) : Int) == ((0 : Nat) : Int)) = true))) rfl T_en21 (A1 rfl) (dLeft0 _) ?_
  rintro _ w_11 ⟨rfl, hkp_10⟩; refine ⟨_, rfl, ?_⟩; have H_11 := H_10.keep hkp_10
  refine G_y (wE rfl (congrArg Value.bool (by decide : (((0 : Nat) : Int) == ((0 : Nat) : Int)) = true))) rfl (Y_eql (k := .i64) (a := ((0 : Nat) : Int)) (b := ((0 : Nat) : Int)) rfl rfl) ?_
  refine L_y rfl (Y_pickT (congrArg Value.bool (by decide : (((0 : Nat) : Int) == ((0 : Nat) : Int)) = true))) ?_
  refine L_mv rfl ?_
  refine G_mv (wE rfl (congrArg Value.bool (by decide : (((0 : Nat) : Int) == ((0 : Nat) : Int)) = true))) rfl ?_
  refine G_y (wE rfl (congrArg Value.bool (by decide : (((0 : Nat) : Int) == ((0 : Nat) : Int)) = true))) rfl (Y_eql (k := .i64) (a := ((1 : Nat) : Int)) (b := ((1 : Nat) : Int)) rfl rfl) ?_
  refine L_y rfl (Y_pickT (congrArg Value.bool (by decide : (((0 : Nat) : Int) == ((0 : Nat) : Int)) = true))) ?_
  refine L_mv rfl ?_
  refine G_mv (wE rfl (congrArg Value.bool (by decide : (((1 : Nat) : Int) == ((1 : Nat) : Int)) = true))) rfl ?_
  refine G_y (wE rfl (congrArg Value.bool (by decide : (((1 : Nat) : Int) == ((1 : Nat) : Int)) = true))) rfl (Y_eql (k := .i64) (a := ((0 : Nat) : Int)) (b := ((0 : Nat) : Int)) rfl rfl) ?_
  refine L_y rfl (Y_pickT (congrArg Value.bool (by decide : (((1 : Nat) : Int) == ((1 : Nat) : Int)) = true))) ?_
  refine L_mv rfl ?_
  refine L_callv (wE rfl (congrArg Value.bool (by decide : (((0 : Nat) : Int) == ((0 : Nat) : Int)) = true))) rfl T_en8 (A0) (known_n _) ?_
  rintro _ w_12 ⟨rfl, hkp_11⟩; refine ⟨_, rfl, ?_⟩; have H_12 := H_11.keep hkp_11
  refine L_y rfl (Y_pickT (congrArg Value.bool (by decide : (((0 : Nat) : Int) == ((0 : Nat) : Int)) = true))) ?_
  refine L_as rfl ?_
  refine L_nil ?_
  refine Th_n ?_
  refine W_ret ?_
  refine P_ret (vs := [Value.bool true]) (v := Value.bool true) rfl (.tmp rfl (Res.nil)) rfl ?_
  refine ⟨?_, H_12.nil_⟩
  rfl
end Go.Proofs.Ytidepfhfconkaaa
