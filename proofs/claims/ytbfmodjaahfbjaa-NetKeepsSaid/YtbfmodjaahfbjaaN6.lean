/- Walks of layer 27 (net) and of its reference. Printed by net.py. -/
import Derived.Test.YtbfmodjaahfbjaaN5
namespace Go.Proofs.Ytbfmodjaahfbjaa
open Go.Ev
set_option maxRecDepth 100000
set_option linter.unusedVariables false
set_option linter.unusedSimpArgs false
theorem delete_n {w0 w : World} {X : List Ent} {a : Option Addr} {n c i : Nat} {K : List Lt} (hi : i < n) (hn : n ≤ 4294967) (H : Hp w0 [] w (Ent.own (Value.slice a n c) 31 3 n (rows K) :: X)) :
    Calls Try.prog 23 #[Value.slice a n c, Value.int .i64 ((i : Nat) : Int), Value.int .i64 ((i + 1 : Nat) : Int)] w (fun r_ w' => r_ = .returned (.slice a (n - 1) c) ∧ Hp w0 [] w' (.own (.slice a (n - 1) c) 31 3 (n - 1) (rows (K.eraseIdx i)) :: X)) := by
  have hT := Ts.own H (i := 0) rfl
  have hcap := hT.tab.cap
  have hlen := hT.tab.len
  refine F_in Try.func23 rfl Try.ntmps23 rfl ?_
  intro e he
  have p_0 : e 0 = Value.slice a n c := he 0 _ rfl
  have p_1 : e 1 = Value.int .i64 ((i : Nat) : Int) := he 1 _ rfl
  have p_2 : e 2 = Value.int .i64 ((i + 1 : Nat) : Int) := he 2 _ rfl
  refine W_seq ?_
  refine W_rg ?_
  refine L_as rfl ?_
  refine L_nil ?_
  refine Th_n ?_
  refine W_seq ?_
  refine W_rg ?_
  refine L_mv rfl ?_
  refine L_mv rfl ?_
  refine L_mv rfl ?_
  refine L_mv rfl ?_
  refine L_y rfl (Y_lenS T_sl35 p_0) ?_
  refine L_y rfl (Y_cutZ3 (lo := i) (hi := i + 1) (mx := n) T_sl35 p_0 p_1 p_2 rfl (by omega) (by omega) (by omega)) ?_
  refine L_nil ?_
  refine Th_n ?_
  refine W_seq ?_
  refine W_seq ?_
  refine W_rg ?_
  refine L_mv rfl ?_
  refine L_mv rfl ?_
  refine L_y rfl (Y_eql (k := .i64) (a := ((i : Nat) : Int)) (b := ((i + 1 : Nat) : Int)) p_1 p_2) ?_
  refine L_nil ?_
  refine Th_n ?_
  refine W_false (congrArg Value.bool ((by rw [beq_eq_false_iff_ne]; omega) : (((i : Nat) : Int) == ((i + 1 : Nat) : Int)) = false)) ?_
  refine W_skip ?_
  refine Th_n ?_
  refine W_seq ?_
  refine W_rg ?_
  refine L_mv rfl ?_
  refine L_y rfl (Y_lenS T_sl35 p_0) ?_
  refine L_as rfl ?_
  refine L_nil ?_
  refine Th_n ?_
  refine W_seq ?_
  refine W_quiet H 6 [Value.slice a n c, Value.int .i64 ((i : Nat) : Int), Value.slice a i c, Value.slice a n c, Value.int .i64 ((i + 1 : Nat) : Int), Value.slice (cutZ 3 a c (i + 1)) (n - (i + 1)) (c - (i + 1))] T_mixed (by kernel_rfl) ?_ ?_
  ·
    refine .plain rfl (Pl_y rfl (fun w hBw => congrArg (fun v => Result.ok (Next.value v) w) p_0)) ?_
    refine .plain rfl (Pl_y rfl (fun w hBw => congrArg (fun v => Result.ok (Next.value v) w) p_1)) ?_
    refine .plain rfl (Pl_y rfl (fun w hBw => Y_cutZH (hi := i) T_sl35 rfl rfl (Nat.le_trans (by omega) (Ts.own hBw (i := 0) rfl).tab.cap))) ?_
    refine .plain rfl (Pl_y rfl (fun w hBw => congrArg (fun v => Result.ok (Next.value v) w) p_0)) ?_
    refine .plain rfl (Pl_y rfl (fun w hBw => congrArg (fun v => Result.ok (Next.value v) w) p_2)) ?_
    refine .plain rfl (Pl_y rfl (fun w hBw => Y_cutZL (lo := i + 1) T_sl35 rfl rfl (by omega))) ?_
    exact .nil _
  ·
    intro e_2 w_2 hAg H_2
    have e_2_7 : e_2 7 = Value.int .i64 ((n : Nat) : Int) := (hAg 7 rfl).trans rfl
    have e_2_22 : e_2 22 = Value.slice a i c := (hAg 22 rfl).trans rfl
    have e_2_25 : e_2 25 = Value.slice (cutZ 3 a c (i + 1)) (n - (i + 1)) (c - (i + 1)) := (hAg 25 rfl).trans rfl
    refine L_appIn (i := i) (j := i + 1) rfl H_2 (p := 0) rfl T_sl35 T_zero31 e_2_22 e_2_25 (by omega) (by omega) (by omega) ?_; intro w_3 Hx
    have H_3 : Hp w0 [] w_3 (Ent.own (Value.slice a (i + (n - (i + 1))) c) 31 3 (i + (n - (i + 1))) (rows (K.take i ++ K.drop (i + 1))) :: X) := Hx
    refine L_as rfl ?_
    refine L_nil ?_
    refine Th_n ?_
    refine W_seq ?_
    refine W_rg ?_
    refine L_mv rfl ?_
    refine L_mv rfl ?_
    refine L_y rfl (Y_lenS T_sl35 rfl) ?_
    refine L_mv rfl ?_
    refine L_y rfl (Y_cutZLH (lo := i + (n - (i + 1))) (hi := n) T_sl35 rfl rfl e_2_7 (by omega) (by omega)) ?_
    refine L_clear H_3 (p := 0) rfl T_sl35 T_zero31 rfl (allOne3 _ _ _ _ _) rfl (by omega) ?_; intro w_4 H_4
    refine L_nil ?_
    refine Th_n ?_
    refine W_seq ?_
    refine W_rg ?_
    refine L_mv rfl ?_
    refine L_as rfl ?_
    refine L_nil ?_
    refine Th_n ?_
    refine W_ret ?_
    refine P_ret (vs := [Value.slice a (i + (n - (i + 1))) c]) (v := Value.slice a (i + (n - (i + 1))) c) rfl (.tmp rfl (Res.nil)) rfl ?_
    have e1 : i + (n - (i + 1)) = n - 1 := by omega
    have e2 : K.take i ++ K.drop (i + 1) = K.eraseIdx i := (List.eraseIdx_eq_take_drop_succ K i).symm
    refine ⟨by rw [e1], ?_⟩; have h := H_4; rw [e1, e2] at h; exact h
end Go.Proofs.Ytbfmodjaahfbjaa
