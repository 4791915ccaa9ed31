/- Walks of layer 27 (net) and of its reference. Printed by net.py. -/
import Derived.Test.YtbfmodjaahfbjaaN13
namespace Go.Proofs.Ytbfmodjaahfbjaa
open Go.Ev
set_option maxRecDepth 100000
set_option linter.unusedVariables false
set_option linter.unusedSimpArgs false
theorem same_n {f1 t1 : Int} {a1 : Option Addr} {m1 c1 : Nat} {l1 : List Nat} {f2 t2 : Int} {a2 : Option Addr} {m2 c2 : Nat} {l2 : List Nat} (w0 : World) (hs1 : Sl w0 .u8 a1 m1 c1 l1) (hlt1 : ∀ u ∈ l1, u < 256) (hs2 : Sl w0 .u8 a2 m2 c2 l2) (hlt2 : ∀ u ∈ l2, u < 256) :
    Calls Try.prog 14 #[Value.agg #[Value.int .i64 (f1), Value.int .i64 (t1), Value.slice a1 m1 c1], Value.agg #[Value.int .i64 (f2), Value.int .i64 (t2), Value.slice a2 m2 c2]] w0 (fun r_ w' => r_ = .returned (.bool (decide (((f1, t1, l1) : Key) = (f2, t2, l2)))) ∧ Keep w0 w') := by
  refine F_in Try.func14 rfl Try.ntmps14 rfl ?_
  intro e he
  have p_0 : e 0 = Value.agg #[Value.int .i64 (f1), Value.int .i64 (t1), Value.slice a1 m1 c1] := he 0 _ rfl
  have p_1 : e 1 = Value.agg #[Value.int .i64 (f2), Value.int .i64 (t2), Value.slice a2 m2 c2] := he 1 _ rfl
  have H := Hp.start w0 []
  refine W_seq ?_
  refine W_rg ?_
  refine L_box rfl H p_0 (cs := #[Value.int .i64 (f1), Value.int .i64 (t1), Value.slice a1 m1 c1]) rfl ?_; intro bk2 w_2 H_2
  refine L_box rfl H_2 p_1 (cs := #[Value.int .i64 (f2), Value.int .i64 (t2), Value.slice a2 m2 c2]) rfl ?_; intro bk3 w_3 H_3
  refine L_as rfl ?_
  refine L_nil ?_
  refine Th_n ?_
  refine W_seq ?_
  refine W_rg ?_
  refine L_y rfl (Y_fld T_fld31_0 rfl rfl rfl) ?_
  refine L_y rfl (Y_ld T_scal3 H_3 (i := 1) rfl rfl rfl) ?_
  refine L_y rfl (Y_fld T_fld31_0 rfl rfl rfl) ?_
  refine L_y rfl (Y_ld T_scal3 H_3 (i := 0) rfl rfl rfl) ?_
  refine L_y rfl (Y_eql (k := .i64) (a := f1) (b := f2) rfl rfl) ?_
  refine L_mv rfl ?_
  rcases Bool.eq_false_or_eq_true (f1 == f2) with hb | hb
  ·
    have hb' := eq_of_beq hb
    refine G_y (wE rfl (congrArg Value.bool hb)) rfl (Y_fld T_fld31_1 rfl rfl rfl) ?_
    refine G_y (wE rfl (congrArg Value.bool hb)) rfl (Y_ld T_scal3 H_3 (i := 1) rfl rfl rfl) ?_
    refine G_y (wE rfl (congrArg Value.bool hb)) rfl (Y_fld T_fld31_1 rfl rfl rfl) ?_
    refine G_y (wE rfl (congrArg Value.bool hb)) rfl (Y_ld T_scal3 H_3 (i := 0) rfl rfl rfl) ?_
    refine G_y (wE rfl (congrArg Value.bool hb)) rfl (Y_eql (k := .i64) (a := t1) (b := t2) rfl rfl) ?_
    refine L_y rfl (Y_pickT (congrArg Value.bool hb)) ?_
    refine L_mv rfl ?_
    rcases Bool.eq_false_or_eq_true (t1 == t2) with hb_2 | hb_2
    ·
      have hb_2' := eq_of_beq hb_2
      refine G_y (wE rfl (congrArg Value.bool hb_2)) rfl (Y_fld T_fld31_2 rfl rfl rfl) ?_
      refine G_y (wE rfl (congrArg Value.bool hb_2)) rfl (Y_ld T_scal29 H_3 (i := 1) rfl rfl rfl) ?_
      refine G_y (wE rfl (congrArg Value.bool hb_2)) rfl (Y_strL Try.underlying29 Try.underlying5 Try.underlying9 rfl (hs1.hp H_3)) ?_
      refine G_y (wE rfl (congrArg Value.bool hb_2)) rfl (Y_fld T_fld31_2 rfl rfl rfl) ?_
      refine G_y (wE rfl (congrArg Value.bool hb_2)) rfl (Y_ld T_scal29 H_3 (i := 0) rfl rfl rfl) ?_
      refine G_y (wE rfl (congrArg Value.bool hb_2)) rfl (Y_strL Try.underlying29 Try.underlying5 Try.underlying9 rfl (hs2.hp H_3)) ?_
      refine G_y (wE rfl (congrArg Value.bool hb_2)) rfl (Y_eqT (l1 := l1) (l2 := l2) Try.underlying9 hlt1 hlt2 rfl rfl) ?_
      refine L_y rfl (Y_pickT (congrArg Value.bool hb_2)) ?_
      refine L_as rfl ?_
      refine L_nil ?_
      refine Th_n ?_
      refine W_ret ?_
      refine P_ret (vs := [Value.bool (decide (l1 = l2))]) (v := Value.bool (decide (l1 = l2))) rfl (.tmp rfl (Res.nil)) rfl ?_
      refine ⟨?_, H_3.nil_⟩
      congr 2; first | (simp [*]; done) | simp_all
    ·
      have hb_2' := ne_of_beq_false hb_2
      refine G_no (wN (b := true) rfl (congrArg Value.bool hb_2)) rfl ?_
      refine G_no (wN (b := true) rfl (congrArg Value.bool hb_2)) rfl ?_
      refine G_no (wN (b := true) rfl (congrArg Value.bool hb_2)) rfl ?_
      refine G_no (wN (b := true) rfl (congrArg Value.bool hb_2)) rfl ?_
      refine G_no (wN (b := true) rfl (congrArg Value.bool hb_2)) rfl ?_
      refine G_no (wN (b := true) rfl (congrArg Value.bool hb_2)) rfl ?_
      refine G_no (wN (b := true) rfl (congrArg Value.bool hb_2)) rfl ?_
      refine L_y rfl (Y_pickF (congrArg Value.bool hb_2)) ?_
      refine L_as rfl ?_
      refine L_nil ?_
      refine Th_n ?_
      refine W_ret ?_
      refine P_ret (vs := [Value.bool false]) (v := Value.bool false) rfl (.tmp rfl (Res.nil)) rfl ?_
      refine ⟨?_, H_3.nil_⟩
      congr 2; first | (simp [*]; done) | simp_all
  ·
    have hb' := ne_of_beq_false hb
    refine G_no (wN (b := true) rfl (congrArg Value.bool hb)) rfl ?_
    refine G_no (wN (b := true) rfl (congrArg Value.bool hb)) rfl ?_
    refine G_no (wN (b := true) rfl (congrArg Value.bool hb)) rfl ?_
    refine G_no (wN (b := true) rfl (congrArg Value.bool hb)) rfl ?_
    refine G_no (wN (b := true) rfl (congrArg Value.bool hb)) rfl ?_
    refine L_y rfl (Y_pickF (congrArg Value.bool hb)) ?_
    refine L_mv rfl ?_
    refine G_no (wN (b := true) rfl rfl) rfl ?_
    refine G_no (wN (b := true) rfl rfl) rfl ?_
    refine G_no (wN (b := true) rfl rfl) rfl ?_
    refine G_no (wN (b := true) rfl rfl) rfl ?_
    refine G_no (wN (b := true) rfl rfl) rfl ?_
    refine G_no (wN (b := true) rfl rfl) rfl ?_
    refine G_no (wN (b := true) rfl rfl) rfl ?_
    refine L_y rfl (Y_pickF rfl) ?_
    refine L_as rfl ?_
    refine L_nil ?_
    refine Th_n ?_
    refine W_ret ?_
    refine P_ret (vs := [Value.bool false]) (v := Value.bool false) rfl (.tmp rfl (Res.nil)) rfl ?_
    refine ⟨?_, H_3.nil_⟩
    congr 2; first | (simp [*]; done) | simp_all
end Go.Proofs.Ytbfmodjaahfbjaa
