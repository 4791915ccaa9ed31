/- Walks of layer 17 (pack) and of its reference. Printed by pack.py. -/
import Derived.Test.YtidepfhfconkaaaV16
import Derived.Test.YtidepfhfconkaaaPackMath
import Derived.Test.YtidepfhfconkaaaProg
namespace Go.Proofs.Ytidepfhfconkaaa
open Go.Ev
set_option maxRecDepth 100000
set_option linter.unusedVariables false
set_option linter.unusedSimpArgs false
theorem T_sl25 : slOf Try.prog 25 = some (5, 1) := by kernel_rfl
theorem T_some3 : (Try.prog.underlying 3).isSome = true := by kernel_rfl
theorem T_kind32 : kindOf Try.prog 32 = some .u64 := by kernel_rfl
theorem T_en9 : enters Try.prog 9 = true := by kernel_rfl
theorem T_en11 : enters Try.prog 11 = true := by kernel_rfl
theorem wNum0 (n : Nat) (s : Int) (w0 : World) :
    Calls Try.prog 9 #[Value.pointer none, Value.int .u64 ((n : Nat) : Int), Value.int .i64 (s)] w0 (fun r_ w' => r_ = .returned (Value.pointer none) ∧ Keep w0 w') := by
  refine F_in Try.func9 rfl Try.ntmps9 rfl ?_
  intro e he
  have p_0 : e 0 = Value.pointer none := he 0 _ rfl
  have p_1 : e 1 = Value.int .u64 ((n : Nat) : Int) := he 1 _ rfl
  have p_2 : e 2 = Value.int .i64 (s) := he 2 _ rfl
  have H := Hp.start w0 []
  refine W_seq ?_
  refine W_rg ?_
  refine L_as rfl ?_
  refine L_nil ?_
  refine Th_n ?_
  refine W_seq ?_
  refine W_block ?_
  refine W_seq ?_
  refine W_rg ?_
  refine L_mv rfl ?_
  refine L_y rfl (Y_eqP Try.underlying35 p_0 rfl) ?_
  refine L_mv rfl ?_
  refine G_no (wN (b := false) rfl rfl) rfl ?_
  refine G_no (wN (b := false) rfl rfl) rfl ?_
  refine G_no (wN (b := false) rfl rfl) rfl ?_
  refine G_no (wN (b := false) rfl rfl) rfl ?_
  refine G_no (wN (b := false) rfl rfl) rfl ?_
  refine L_y rfl (Y_pickT rfl) ?_
  refine L_as rfl ?_
  refine L_nil ?_
  refine Th_n ?_
  refine W_true rfl ?_
  refine W_seq ?_
  refine W_rg ?_
  refine L_mv rfl ?_
  refine L_as rfl ?_
  refine L_nil ?_
  refine Th_n ?_
  refine W_ret ?_
  refine InB_r ?_
  refine Th_r ?_
  refine P_ret (vs := [Value.pointer none]) (v := Value.pointer none) rfl (.tmp p_0 (Res.nil)) rfl ?_
  refine ⟨?_, H.nil_⟩
  rfl

theorem wRaw0 (w0 : World) :
    Calls Try.prog 11 #[Value.pointer none, Value.slice none 0 0] w0 (fun r_ w' => r_ = .returned (Value.pointer none) ∧ Keep w0 w') := by
  refine F_in Try.func11 rfl Try.ntmps11 rfl ?_
  intro e he
  have p_0 : e 0 = Value.pointer none := he 0 _ rfl
  have p_1 : e 1 = Value.slice none 0 0 := he 1 _ rfl
  have H := Hp.start w0 []
  refine W_seq ?_
  refine W_rg ?_
  refine L_as rfl ?_
  refine L_nil ?_
  refine Th_n ?_
  refine W_seq ?_
  refine W_seq ?_
  refine W_rg ?_
  refine L_mv rfl ?_
  refine L_y rfl (Y_neP Try.underlying35 p_0 rfl) ?_
  refine L_mv rfl ?_
  refine G_no (wN (b := true) rfl rfl) rfl ?_
  refine G_no (wN (b := true) rfl rfl) rfl ?_
  refine G_no (wN (b := true) rfl rfl) rfl ?_
  refine G_no (wN (b := true) rfl rfl) rfl ?_
  refine G_no (wN (b := true) rfl rfl) rfl ?_
  refine L_y rfl (Y_pickF rfl) ?_
  refine L_nil ?_
  refine Th_n ?_
  refine W_false rfl ?_
  refine W_skip ?_
  refine Th_n ?_
  refine W_seq ?_
  refine W_rg ?_
  refine L_mv rfl ?_
  refine L_as rfl ?_
  refine L_nil ?_
  refine Th_n ?_
  refine W_ret ?_
  refine P_ret (vs := [Value.pointer none]) (v := Value.pointer none) rfl (.tmp p_0 (Res.nil)) rfl ?_
  refine ⟨?_, H.nil_⟩
  rfl

theorem wText0 (w0 : World) :
    Calls Try.prog 13 #[Value.pointer none, Value.slice none 0 0] w0 (fun r_ w' => r_ = .returned (Value.pointer none) ∧ Keep w0 w') := by
  refine F_in Try.func13 rfl Try.ntmps13 rfl ?_
  intro e he
  have p_0 : e 0 = Value.pointer none := he 0 _ rfl
  have p_1 : e 1 = Value.slice none 0 0 := he 1 _ rfl
  have H := Hp.start w0 []
  refine W_seq ?_
  refine W_rg ?_
  refine L_as rfl ?_
  refine L_nil ?_
  refine Th_n ?_
  refine W_seq ?_
  refine W_seq ?_
  refine W_rg ?_
  refine L_mv rfl ?_
  refine L_y rfl (Y_neP Try.underlying35 p_0 rfl) ?_
  refine L_mv rfl ?_
  refine G_no (wN (b := true) rfl rfl) rfl ?_
  refine G_no (wN (b := true) rfl rfl) rfl ?_
  refine G_no (wN (b := true) rfl rfl) rfl ?_
  refine G_no (wN (b := true) rfl rfl) rfl ?_
  refine G_no (wN (b := true) rfl rfl) rfl ?_
  refine L_y rfl (Y_pickF rfl) ?_
  refine L_mv rfl ?_
  refine G_no (wN (b := true) rfl rfl) rfl ?_
  refine G_no (wN (b := true) rfl rfl) rfl ?_
  refine G_no (wN (b := true) rfl rfl) rfl ?_
  refine L_y rfl (Y_pickF rfl) ?_
  refine L_nil ?_
  refine Th_n ?_
  refine W_false rfl ?_
  refine W_skip ?_
  refine Th_n ?_
  refine W_seq ?_
  refine W_rg ?_
  refine L_mv rfl ?_
  refine L_mv rfl ?_
  refine L_y rfl (Y_lenS T_sl25 p_1) ?_
  refine L_y rfl (Y_convI (k := .i64) (n := ((0 : Nat) : Int)) (z := ((0 : Nat) : Int)) T_some3 T_kind32 rfl (wrapS rfl (by first | decide | (show _ < 18446744073709551616; omega)))) ?_
  refine L_yr (z := 0 &&& 65535) (m := 18446744073709551616) rfl (Yu_and (k := .u64) rfl 0 65535 (by decide) (by decide) rfl rfl) (Nat.lt_of_le_of_lt (Nat.and_le_left) (by decide)) ?_; intro x26 hx26 rx26
  refine L_callv rfl rfl T_en9 (A3 p_0 rfl rfl) (wNum0 x26 ((2 : Nat) : Int) _) ?_
  rintro _ w_2 ⟨rfl, hkp⟩; refine ⟨_, rfl, ?_⟩; have H_2 := H.keep hkp
  refine L_mv rfl ?_
  refine L_callv rfl rfl T_en11 (A2 rfl p_1) (wRaw0 _) ?_
  rintro _ w_3 ⟨rfl, hkp_2⟩; refine ⟨_, rfl, ?_⟩; have H_3 := H_2.keep hkp_2
  refine L_as rfl ?_
  refine L_nil ?_
  refine Th_n ?_
  refine W_ret ?_
  refine P_ret (vs := [Value.pointer none]) (v := Value.pointer none) rfl (.tmp rfl (Res.nil)) rfl ?_
  refine ⟨?_, H_3.nil_⟩
  rfl

theorem wDone0 (w0 : World) :
    Calls Try.prog 15 #[Value.pointer none] w0 (fun r_ w' => r_ = .returned (Value.tuple #[.slice none 0 0, .int .i64 ((1 : Nat) : Int)]) ∧ Keep w0 w') := by
  refine F_in Try.func15 rfl Try.ntmps15 rfl ?_
  intro e he
  have p_0 : e 0 = Value.pointer none := he 0 _ rfl
  have H := Hp.start w0 []
  refine W_seq ?_
  refine W_rg ?_
  refine L_as rfl ?_
  refine L_as rfl ?_
  refine L_nil ?_
  refine Th_n ?_
  refine W_seq ?_
  refine W_block ?_
  refine W_seq ?_
  refine W_rg ?_
  refine L_mv rfl ?_
  refine L_y rfl (Y_eqP Try.underlying35 p_0 rfl) ?_
  refine L_as rfl ?_
  refine L_nil ?_
  refine Th_n ?_
  refine W_true rfl ?_
  refine W_seq ?_
  refine W_rg ?_
  refine L_as rfl ?_
  refine L_as rfl ?_
  refine L_nil ?_
  refine Th_n ?_
  refine W_ret ?_
  refine InB_r ?_
  refine Th_r ?_
  refine P_ret (vs := [Value.slice none 0 0, Value.int .i64 ((1 : Nat) : Int)]) (v := Value.tuple #[Value.slice none 0 0, Value.int .i64 ((1 : Nat) : Int)]) rfl (.tmp rfl (.tmp rfl (Res.nil))) rfl ?_
  refine ⟨?_, H.nil_⟩
  rfl
end Go.Proofs.Ytidepfhfconkaaa
