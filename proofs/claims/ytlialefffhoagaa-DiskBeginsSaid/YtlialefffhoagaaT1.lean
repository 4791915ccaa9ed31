/- Walks of layer 21 (disk) and of its reference. Printed by disk.py. -/
import Derived.Test.YtlialefffhoagaaV17
import Derived.Test.YtlialefffhoagaaDiskMath
import Derived.Test.YtlialefffhoagaaProg
namespace Go.Proofs.Ytlialefffhoagaa
open Go.Ev
set_option maxRecDepth 100000
set_option linter.unusedVariables false
set_option linter.unusedSimpArgs false
theorem T_en24 : enters Try.prog 24 = true := by kernel_rfl
theorem dReady0 (w0 : World) :
    Calls Try.prog 24 #[Value.pointer none] w0 (fun r_ w' => r_ = .returned (.int .i64 ((1 : Nat) : Int)) ∧ Keep w0 w') := by
  refine F_in Try.func24 rfl Try.ntmps24 rfl ?_
  intro e he
  have p_0 : e 0 = Value.pointer none := he 0 _ rfl
  have H := Hp.start w0 []
  refine W_seq ?_
  refine W_rg ?_
  refine L_as rfl ?_
  refine L_nil ?_
  refine Th_n ?_
  refine W_seq ?_
  refine W_block ?_
  refine W_seq ?_
  refine W_rg ?_
  refine L_mv rfl ?_
  refine L_y rfl (Y_eqP Try.underlying25 p_0 rfl) ?_
  refine L_as rfl ?_
  refine L_nil ?_
  refine Th_n ?_
  refine W_true rfl ?_
  refine W_seq ?_
  refine W_rg ?_
  refine L_as rfl ?_
  refine L_nil ?_
  refine Th_n ?_
  refine W_ret ?_
  refine InB_r ?_
  refine Th_r ?_
  refine P_ret (vs := [Value.int .i64 ((1 : Nat) : Int)]) (v := Value.int .i64 ((1 : Nat) : Int)) rfl (.tmp rfl (Res.nil)) rfl ?_
  refine ⟨?_, H.nil_⟩
  rfl

theorem dAdd0 (w0 : World) :
    Calls Try.prog 11 #[Value.pointer none, Value.slice none 0 0] w0 (fun r_ w' => r_ = .returned (.int .i64 ((1 : Nat) : Int)) ∧ Keep w0 w') := by
  refine F_in Try.func11 rfl Try.ntmps11 rfl ?_
  intro e he
  have p_0 : e 0 = Value.pointer none := he 0 _ rfl
  have p_1 : e 1 = Value.slice none 0 0 := he 1 _ rfl
  have H := Hp.start w0 []
  refine W_seq ?_
  refine W_rg ?_
  refine L_as rfl ?_
  refine L_nil ?_
  refine Th_n ?_
  refine W_seq ?_
  refine W_seq ?_
  refine W_rg ?_
  refine L_mv rfl ?_
  refine L_callv rfl rfl T_en24 (A1 p_0) (dReady0 _) ?_
  rintro _ w_2 ⟨rfl, hkp⟩; refine ⟨_, rfl, ?_⟩; have H_2 := H.keep hkp
  refine L_as rfl ?_
  refine L_nil ?_
  refine Th_n ?_
  refine W_seq ?_
  refine W_rg ?_
  refine L_mv rfl ?_
  refine L_y rfl (Y_neq (k := .i64) (a := ((1 : Nat) : Int)) (b := ((0 : Nat) : Int)) rfl rfl) ?_
  refine L_nil ?_
  refine Th_n ?_
  refine W_true (congrArg Value.bool (by decide : (((1 : Nat) : Int) != ((0 : Nat) : Int)) = true)) ?_
  refine W_seq ?_
  refine W_rg ?_
  refine L_mv rfl ?_
  refine L_as rfl ?_
  refine L_nil ?_
  refine Th_n ?_
  refine W_ret ?_
  refine Th_r ?_
  refine P_ret (vs := [Value.int .i64 ((1 : Nat) : Int)]) (v := Value.int .i64 ((1 : Nat) : Int)) rfl (.tmp rfl (Res.nil)) rfl ?_
  refine ⟨?_, H_2.nil_⟩
  rfl

theorem dCut0 (s : Int) (w0 : World) :
    Calls Try.prog 16 #[Value.pointer none, Value.int .i64 (s)] w0 (fun r_ w' => r_ = .returned (.int .i64 ((1 : Nat) : Int)) ∧ Keep w0 w') := by
  refine F_in Try.func16 rfl Try.ntmps16 rfl ?_
  intro e he
  have p_0 : e 0 = Value.pointer none := he 0 _ rfl
  have p_1 : e 1 = Value.int .i64 (s) := he 1 _ rfl
  have H := Hp.start w0 []
  refine W_seq ?_
  refine W_rg ?_
  refine L_as rfl ?_
  refine L_nil ?_
  refine Th_n ?_
  refine W_seq ?_
  refine W_seq ?_
  refine W_rg ?_
  refine L_mv rfl ?_
  refine L_callv rfl rfl T_en24 (A1 p_0) (dReady0 _) ?_
  rintro _ w_2 ⟨rfl, hkp⟩; refine ⟨_, rfl, ?_⟩; have H_2 := H.keep hkp
  refine L_as rfl ?_
  refine L_nil ?_
  refine Th_n ?_
  refine W_seq ?_
  refine W_rg ?_
  refine L_mv rfl ?_
  refine L_y rfl (Y_neq (k := .i64) (a := ((1 : Nat) : Int)) (b := ((0 : Nat) : Int)) rfl rfl) ?_
  refine L_nil ?_
  refine Th_n ?_
  refine W_true (congrArg Value.bool (by decide : (((1 : Nat) : Int) != ((0 : Nat) : Int)) = true)) ?_
  refine W_seq ?_
  refine W_rg ?_
  refine L_mv rfl ?_
  refine L_as rfl ?_
  refine L_nil ?_
  refine Th_n ?_
  refine W_ret ?_
  refine Th_r ?_
  refine P_ret (vs := [Value.int .i64 ((1 : Nat) : Int)]) (v := Value.int .i64 ((1 : Nat) : Int)) rfl (.tmp rfl (Res.nil)) rfl ?_
  refine ⟨?_, H_2.nil_⟩
  rfl

theorem dArm0 (s : Int) (w0 : World) :
    Calls Try.prog 9 #[Value.pointer none, Value.int .i64 (s)] w0 (fun r_ w' => r_ = .returned (.int .i64 ((1 : Nat) : Int)) ∧ Keep w0 w') := by
  refine F_in Try.func9 rfl Try.ntmps9 rfl ?_
  intro e he
  have p_0 : e 0 = Value.pointer none := he 0 _ rfl
  have p_1 : e 1 = Value.int .i64 (s) := he 1 _ rfl
  have H := Hp.start w0 []
  refine W_seq ?_
  refine W_rg ?_
  refine L_as rfl ?_
  refine L_nil ?_
  refine Th_n ?_
  refine W_seq ?_
  refine W_seq ?_
  refine W_rg ?_
  refine L_mv rfl ?_
  refine L_callv rfl rfl T_en24 (A1 p_0) (dReady0 _) ?_
  rintro _ w_2 ⟨rfl, hkp⟩; refine ⟨_, rfl, ?_⟩; have H_2 := H.keep hkp
  refine L_as rfl ?_
  refine L_nil ?_
  refine Th_n ?_
  refine W_seq ?_
  refine W_rg ?_
  refine L_mv rfl ?_
  refine L_y rfl (Y_neq (k := .i64) (a := ((1 : Nat) : Int)) (b := ((0 : Nat) : Int)) rfl rfl) ?_
  refine L_nil ?_
  refine Th_n ?_
  refine W_true (congrArg Value.bool (by decide : (((1 : Nat) : Int) != ((0 : Nat) : Int)) = true)) ?_
  refine W_seq ?_
  refine W_rg ?_
  refine L_mv rfl ?_
  refine L_as rfl ?_
  refine L_nil ?_
  refine Th_n ?_
  refine W_ret ?_
  refine Th_r ?_
  refine P_ret (vs := [Value.int .i64 ((1 : Nat) : Int)]) (v := Value.int .i64 ((1 : Nat) : Int)) rfl (.tmp rfl (Res.nil)) rfl ?_
  refine ⟨?_, H_2.nil_⟩
  rfl

theorem dRestart0 (w0 : World) :
    Calls Try.prog 12 #[Value.pointer none] w0 (fun r_ w' => r_ = .returned (.int .i64 ((1 : Nat) : Int)) ∧ Keep w0 w') := by
  refine F_in Try.func12 rfl Try.ntmps12 rfl ?_
  intro e he
  have p_0 : e 0 = Value.pointer none := he 0 _ rfl
  have H := Hp.start w0 []
  refine W_seq ?_
  refine W_rg ?_
  refine L_as rfl ?_
  refine L_nil ?_
  refine Th_n ?_
  refine W_seq ?_
  refine W_seq ?_
  refine W_rg ?_
  refine L_mv rfl ?_
  refine L_y rfl (Y_eqP Try.underlying25 p_0 rfl) ?_
  refine L_nil ?_
  refine Th_n ?_
  refine W_true rfl ?_
  refine W_seq ?_
  refine W_rg ?_
  refine L_as rfl ?_
  refine L_nil ?_
  refine Th_n ?_
  refine W_ret ?_
  refine Th_r ?_
  refine P_ret (vs := [Value.int .i64 ((1 : Nat) : Int)]) (v := Value.int .i64 ((1 : Nat) : Int)) rfl (.tmp rfl (Res.nil)) rfl ?_
  refine ⟨?_, H.nil_⟩
  rfl

theorem dBytes0 (w0 : World) :
    Calls Try.prog 13 #[Value.pointer none] w0 (fun r_ w' => r_ = .returned (Value.tuple #[.slice none 0 0, .int .i64 ((1 : Nat) : Int)]) ∧ Keep w0 w') := by
  refine F_in Try.func13 rfl Try.ntmps13 rfl ?_
  intro e he
  have p_0 : e 0 = Value.pointer none := he 0 _ rfl
  have H := Hp.start w0 []
  refine W_seq ?_
  refine W_rg ?_
  refine L_as rfl ?_
  refine L_as rfl ?_
  refine L_nil ?_
  refine Th_n ?_
  refine W_seq ?_
  refine W_seq ?_
  refine W_rg ?_
  refine L_mv rfl ?_
  refine L_callv rfl rfl T_en24 (A1 p_0) (dReady0 _) ?_
  rintro _ w_2 ⟨rfl, hkp⟩; refine ⟨_, rfl, ?_⟩; have H_2 := H.keep hkp
  refine L_as rfl ?_
  refine L_nil ?_
  refine Th_n ?_
  refine W_seq ?_
  refine W_rg ?_
  refine L_mv rfl ?_
  refine L_y rfl (Y_neq (k := .i64) (a := ((1 : Nat) : Int)) (b := ((0 : Nat) : Int)) rfl rfl) ?_
  refine L_nil ?_
  refine Th_n ?_
  refine W_true (congrArg Value.bool (by decide : (((1 : Nat) : Int) != ((0 : Nat) : Int)) = true)) ?_
  refine W_seq ?_
  refine W_rg ?_
  refine L_mv rfl ?_
  refine L_as rfl ?_
  refine L_as rfl ?_
  refine L_nil ?_
  refine Th_n ?_
  refine W_ret ?_
  refine Th_r ?_
  refine P_ret (vs := [Value.slice none 0 0, Value.int .i64 ((1 : Nat) : Int)]) (v := Value.tuple #[Value.slice none 0 0, Value.int .i64 ((1 : Nat) : Int)]) rfl (.tmp rfl (.tmp rfl (Res.nil))) rfl ?_
  refine ⟨?_, H_2.nil_⟩
  rfl

theorem dLen0 (w0 : World) :
    Calls Try.prog 21 #[Value.pointer none] w0 (fun r_ w' => r_ = .returned (.int .i64 ((0 : Nat) : Int)) ∧ Keep w0 w') := by
  refine F_in Try.func21 rfl Try.ntmps21 rfl ?_
  intro e he
  have p_0 : e 0 = Value.pointer none := he 0 _ rfl
  have H := Hp.start w0 []
  refine W_seq ?_
  refine W_rg ?_
  refine L_as rfl ?_
  refine L_nil ?_
  refine Th_n ?_
  refine W_seq ?_
  refine W_seq ?_
  refine W_rg ?_
  refine L_mv rfl ?_
  refine L_y rfl (Y_eqP Try.underlying25 p_0 rfl) ?_
  refine L_nil ?_
  refine Th_n ?_
  refine W_true rfl ?_
  refine W_seq ?_
  refine W_rg ?_
  refine L_as rfl ?_
  refine L_nil ?_
  refine Th_n ?_
  refine W_ret ?_
  refine Th_r ?_
  refine P_ret (vs := [Value.int .i64 ((0 : Nat) : Int)]) (v := Value.int .i64 ((0 : Nat) : Int)) rfl (.tmp rfl (Res.nil)) rfl ?_
  refine ⟨?_, H.nil_⟩
  rfl

theorem dDown0 (w0 : World) :
    Calls Try.prog 10 #[Value.pointer none] w0 (fun r_ w' => r_ = .returned (.bool false) ∧ Keep w0 w') := by
  refine F_in Try.func10 rfl Try.ntmps10 rfl ?_
  intro e he
  have p_0 : e 0 = Value.pointer none := he 0 _ rfl
  have H := Hp.start w0 []
  refine W_seq ?_
  refine W_rg ?_
  refine L_as rfl ?_
  refine L_nil ?_
  refine Th_n ?_
  refine W_seq ?_
  refine W_rg ?_
  refine L_mv rfl ?_
  refine L_y rfl (Y_neP Try.underlying25 p_0 rfl) ?_
  refine L_mv rfl ?_
  refine G_no (wN (b := true) rfl rfl) rfl ?_
  refine G_no (wN (b := true) rfl rfl) rfl ?_
  refine G_no (wN (b := true) rfl rfl) rfl ?_
  refine G_no (wN (b := true) rfl rfl) rfl ?_
  refine L_y rfl (Y_pickF rfl) ?_
  refine L_as rfl ?_
  refine L_nil ?_
  refine Th_n ?_
  refine W_ret ?_
  refine P_ret (vs := [Value.bool false]) (v := Value.bool false) rfl (.tmp rfl (Res.nil)) rfl ?_
  refine ⟨?_, H.nil_⟩
  rfl

theorem dCopy0 (w0 : World) :
    Calls Try.prog 20 #[Value.pointer none] w0 (fun r_ w' => r_ = .returned (.pointer none) ∧ Keep w0 w') := by
  refine F_in Try.func20 rfl Try.ntmps20 rfl ?_
  intro e he
  have p_0 : e 0 = Value.pointer none := he 0 _ rfl
  have H := Hp.start w0 []
  refine W_seq ?_
  refine W_rg ?_
  refine L_as rfl ?_
  refine L_nil ?_
  refine Th_n ?_
  refine W_seq ?_
  refine W_seq ?_
  refine W_rg ?_
  refine L_mv rfl ?_
  refine L_y rfl (Y_eqP Try.underlying25 p_0 rfl) ?_
  refine L_nil ?_
  refine Th_n ?_
  refine W_true rfl ?_
  refine W_seq ?_
  refine W_rg ?_
  refine L_as rfl ?_
  refine L_nil ?_
  refine Th_n ?_
  refine W_ret ?_
  refine Th_r ?_
  refine P_ret (vs := [Value.pointer none]) (v := Value.pointer none) rfl (.tmp rfl (Res.nil)) rfl ?_
  refine ⟨?_, H.nil_⟩
  rfl
end Go.Proofs.Ytlialefffhoagaa
