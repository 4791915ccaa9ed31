/- Walks of layer 17 (pack) and of its reference. Printed by pack.py. -/
import Derived.Test.YtidepfhfconkaaaK8
import Derived.Test.YtidepfhfconkaaaPackTab
namespace Go.Proofs.Ytidepfhfconkaaa
open Go.Ev
set_option maxRecDepth 100000
set_option linter.unusedVariables false
set_option linter.unusedSimpArgs false
theorem T_sl22 : slOf Try.prog 22 = some (34, 4) := by kernel_rfl
theorem T_fld34_3 : fldOf Try.prog 34 3 = some (3, 1) := by kernel_rfl
theorem large_n (a : Option Addr) (m c : Nat) (L : List Pk.Op) (w0 : World) (hT : Tab w0 Pk.Op.cells 4 a m c L) (hg : ∀ x ∈ L, Pk.Op.good w0 x) :
    Calls Try.prog 7 #[Value.slice a m c] w0 (fun r_ w' => r_ = .returned (.bool (Pk.large L)) ∧ Keep w0 w') := by
  refine F_in Try.func7 rfl Try.ntmps7 rfl ?_
  intro e he
  have p_0 : e 0 = Value.slice a m c := he 0 _ rfl
  have H := Hp.start w0 []
  refine W_seq ?_
  refine W_rg ?_
  refine L_as rfl ?_
  refine L_nil ?_
  refine Th_n ?_
  refine W_seq ?_
  refine W_rg ?_
  refine L_as rfl ?_
  refine L_nil ?_
  refine Th_n ?_
  refine W_seq ?_
  refine W_seq ?_
  refine W_rg ?_
  refine L_as rfl ?_
  refine L_nil ?_
  refine Th_n ?_
  refine W_block ?_
  refine W_loop (fun mu_ e w => ∃ i : Nat, ∃ s0 : Nat, mu_ = m - i ∧ e 0 = Value.slice a m c ∧ e 3 = Value.int .i64 ((s0 : Nat) : Int) ∧ e 4 = Value.int .i64 ((i : Nat) : Int) ∧ Hp w0 [] w [] ∧ s0 = Pk.sum (L.take i) ∧ s0 ≤ i * 140737488351232 ∧ i ≤ m ∧ i ≤ 201) _ ⟨0, 0, rfl, p_0, rfl, rfl, H, rfl, (Nat.zero_le _), (Nat.zero_le _), (Nat.zero_le _)⟩ ?_
  rintro mu_ e_2 w_2 ⟨i, s0, rfl, e_2_0, e_2_3, e_2_4, H_2, hs, hB, hi, hi2⟩
  refine W_seq ?_
  refine W_seq ?_
  refine W_rg ?_
  refine L_mv rfl ?_
  refine L_mv rfl ?_
  refine L_y rfl (Y_lenS T_sl22 e_2_0) ?_
  refine L_y rfl (Y_lss (k := .i64) (a := ((i : Nat) : Int)) (b := ((m : Nat) : Int)) e_2_4 rfl) ?_
  refine L_mv rfl ?_
  rcases Bool.eq_false_or_eq_true (decide (((i : Nat) : Int) < ((m : Nat) : Int))) with hb | hb
  ·
    have hb' := of_decide_eq_true hb
    refine G_mv (wE rfl (congrArg Value.bool hb)) rfl ?_
    refine G_y (wE rfl (congrArg Value.bool hb)) rfl (Y_lss (k := .i64) (a := ((i : Nat) : Int)) (b := ((201 : Nat) : Int)) e_2_4 rfl) ?_
    refine L_y rfl (Y_pickT (congrArg Value.bool hb)) ?_
    refine L_nil ?_
    refine Th_n ?_
    refine W_cond (b := (decide (((i : Nat) : Int) < ((201 : Nat) : Int)))) rfl (fun hc => ?_) (fun hc => ?_)
    ·
      have hc' := of_decide_eq_true hc
      refine W_skip ?_
      refine Th_n ?_
      refine W_seq ?_
      refine W_block ?_
      refine W_rg ?_
      refine L_mv rfl ?_
      refine L_mv rfl ?_
      refine L_mv rfl ?_
      obtain ⟨el18, hel18⟩ := hT.at (j := i) (by omega)
      have gel18 := hg el18 (List.mem_of_getElem? hel18)
      have bel18 := gel18.big
      have lel18 := gel18.sl.len
      have sel18 := gel18.s1
      have tel18 := gel18.s2
      refine L_y rfl (Y_idxT (j := i) T_sl22 (hT.hp H_2) hel18 e_2_0 e_2_4 rfl) ?_
      refine L_y rfl (Y_fldT T_fld34_3 rfl (hT.hp H_2) hel18 rfl) ?_
      refine L_y rfl (Y_ldT (j := i) (off := 3) T_scal25 (hT.hp H_2) hel18 rfl rfl rfl) ?_
      refine L_y rfl (Y_lenS T_sl25 rfl) ?_
      refine L_y rfl (Y_add (k := .i64) (a := ((s0 : Nat) : Int)) (b := ((el18.m : Nat) : Int)) (z := ((s0 + el18.m : Nat) : Int)) e_2_3 rfl (wi (by omega))) ?_
      refine L_as rfl ?_
      refine L_nil ?_
      refine InB_n ?_
      refine Th_n ?_
      refine W_rg ?_
      refine L_mv rfl ?_
      refine L_y rfl (Y_add (k := .i64) (a := ((i : Nat) : Int)) (b := ((1 : Nat) : Int)) (z := ((i + 1 : Nat) : Int)) e_2_4 rfl (wi (by omega))) ?_
      refine L_as rfl ?_
      refine L_nil ?_
      refine Th_n ⟨_, ?_, (i + 1), _, rfl, e_2_0, rfl, rfl, H_2, (by rw [hs, Pk.sum_snoc hel18]), (by omega), (by omega), (by omega)⟩
      omega
    ·
      have hc' := of_decide_eq_false hc
      refine W_exit ?_
      refine Th_x ?_
      refine Th_x ?_
      refine InB_hit ?_
      refine Th_n ?_
      refine W_seq ?_
      refine W_rg ?_
      refine L_mv rfl ?_
      refine L_y rfl (Y_lenS T_sl22 e_2_0) ?_
      refine L_y rfl (Y_gtr (k := .i64) (a := ((m : Nat) : Int)) (b := ((200 : Nat) : Int)) rfl rfl) ?_
      refine L_mv rfl ?_
      rcases Bool.eq_false_or_eq_true (decide (((200 : Nat) : Int) < ((m : Nat) : Int))) with hb_2 | hb_2
      ·
        have hb_2' := of_decide_eq_true hb_2
        refine G_no (wN (b := false) rfl (congrArg Value.bool hb_2)) rfl ?_
        refine G_no (wN (b := false) rfl (congrArg Value.bool hb_2)) rfl ?_
        refine L_y rfl (Y_pickT (congrArg Value.bool hb_2)) ?_
        refine L_as rfl ?_
        refine L_nil ?_
        refine Th_n ?_
        refine W_ret ?_
        refine P_ret (vs := [Value.bool true]) (v := Value.bool true) rfl (.tmp rfl (Res.nil)) rfl ?_
        refine ⟨?_, H_2.nil_⟩
        have hl := hT.len
        congr 1; congr 1
        first | (have : 200 < L.length := (by omega); simp [Pk.large, this]; done) | (obtain rfl : i = m := (by omega); have e1 : s0 = Pk.sum L := (by rw [hs, List.take_of_length_le (by omega)]); have e2 : ¬ 200 < L.length := (by omega); subst e1; simp [Pk.large, e2] <;> omega)
      ·
        have hb_2' := of_decide_eq_false hb_2
        refine G_mv (wE rfl (congrArg Value.bool hb_2)) rfl ?_
        refine G_y (wE rfl (congrArg Value.bool hb_2)) rfl (Y_gtr (k := .i64) (a := ((s0 : Nat) : Int)) (b := ((300000 : Nat) : Int)) e_2_3 rfl) ?_
        refine L_y rfl (Y_pickF (congrArg Value.bool hb_2)) ?_
        refine L_as rfl ?_
        refine L_nil ?_
        refine Th_n ?_
        refine W_ret ?_
        refine P_ret (vs := [Value.bool (decide (((300000 : Nat) : Int) < ((s0 : Nat) : Int)))]) (v := Value.bool (decide (((300000 : Nat) : Int) < ((s0 : Nat) : Int)))) rfl (.tmp rfl (Res.nil)) rfl ?_
        refine ⟨?_, H_2.nil_⟩
        have hl := hT.len
        congr 1; congr 1
        first | (have : 200 < L.length := (by omega); simp [Pk.large, this]; done) | (obtain rfl : i = m := (by omega); have e1 : s0 = Pk.sum L := (by rw [hs, List.take_of_length_le (by omega)]); have e2 : ¬ 200 < L.length := (by omega); subst e1; simp [Pk.large, e2] <;> omega)
  ·
    have hb' := of_decide_eq_false hb
    refine G_no (wN (b := true) rfl (congrArg Value.bool hb)) rfl ?_
    refine G_no (wN (b := true) rfl (congrArg Value.bool hb)) rfl ?_
    refine L_y rfl (Y_pickF (congrArg Value.bool hb)) ?_
    refine L_nil ?_
    refine Th_n ?_
    refine W_false rfl ?_
    refine W_exit ?_
    refine Th_x ?_
    refine Th_x ?_
    refine InB_hit ?_
    refine Th_n ?_
    refine W_seq ?_
    refine W_rg ?_
    refine L_mv rfl ?_
    refine L_y rfl (Y_lenS T_sl22 e_2_0) ?_
    refine L_y rfl (Y_gtr (k := .i64) (a := ((m : Nat) : Int)) (b := ((200 : Nat) : Int)) rfl rfl) ?_
    refine L_mv rfl ?_
    rcases Bool.eq_false_or_eq_true (decide (((200 : Nat) : Int) < ((m : Nat) : Int))) with hb_3 | hb_3
    ·
      have hb_3' := of_decide_eq_true hb_3
      refine G_no (wN (b := false) rfl (congrArg Value.bool hb_3)) rfl ?_
      refine G_no (wN (b := false) rfl (congrArg Value.bool hb_3)) rfl ?_
      refine L_y rfl (Y_pickT (congrArg Value.bool hb_3)) ?_
      refine L_as rfl ?_
      refine L_nil ?_
      refine Th_n ?_
      refine W_ret ?_
      refine P_ret (vs := [Value.bool true]) (v := Value.bool true) rfl (.tmp rfl (Res.nil)) rfl ?_
      refine ⟨?_, H_2.nil_⟩
      have hl := hT.len
      congr 1; congr 1
      first | (have : 200 < L.length := (by omega); simp [Pk.large, this]; done) | (obtain rfl : i = m := (by omega); have e1 : s0 = Pk.sum L := (by rw [hs, List.take_of_length_le (by omega)]); have e2 : ¬ 200 < L.length := (by omega); subst e1; simp [Pk.large, e2] <;> omega)
    ·
      have hb_3' := of_decide_eq_false hb_3
      refine G_mv (wE rfl (congrArg Value.bool hb_3)) rfl ?_
      refine G_y (wE rfl (congrArg Value.bool hb_3)) rfl (Y_gtr (k := .i64) (a := ((s0 : Nat) : Int)) (b := ((300000 : Nat) : Int)) e_2_3 rfl) ?_
      refine L_y rfl (Y_pickF (congrArg Value.bool hb_3)) ?_
      refine L_as rfl ?_
      refine L_nil ?_
      refine Th_n ?_
      refine W_ret ?_
      refine P_ret (vs := [Value.bool (decide (((300000 : Nat) : Int) < ((s0 : Nat) : Int)))]) (v := Value.bool (decide (((300000 : Nat) : Int) < ((s0 : Nat) : Int)))) rfl (.tmp rfl (Res.nil)) rfl ?_
      refine ⟨?_, H_2.nil_⟩
      have hl := hT.len
      congr 1; congr 1
      first | (have : 200 < L.length := (by omega); simp [Pk.large, this]; done) | (obtain rfl : i = m := (by omega); have e1 : s0 = Pk.sum L := (by rw [hs, List.take_of_length_le (by omega)]); have e2 : ¬ 200 < L.length := (by omega); subst e1; simp [Pk.large, e2] <;> omega)
end Go.Proofs.Ytidepfhfconkaaa
