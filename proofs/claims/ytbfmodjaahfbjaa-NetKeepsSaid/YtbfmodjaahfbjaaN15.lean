/- Walks of layer 27 (net) and of its reference. Printed by net.py. -/
import Derived.Test.YtbfmodjaahfbjaaN14
namespace Go.Proofs.Ytbfmodjaahfbjaa
open Go.Ev
set_option maxRecDepth 100000
set_option linter.unusedVariables false
set_option linter.unusedSimpArgs false
theorem T_en14 : enters Try.prog 14 = true := by kernel_rfl
theorem sameAll_n {a1 a2 : Option Addr} {m1 c1 m2 c2 : Nat} {A B : List Lt} (w0 : World) (hA : Ts w0 a1 m1 c1 A) (hB : Ts w0 a2 m2 c2 B) (hm : m1 ≤ 4294967) (hsA : ∀ x ∈ A, Sl w0 .u8 x.a x.l.length x.c x.l) (hsB : ∀ x ∈ B, Sl w0 .u8 x.a x.l.length x.c x.l) (hkA : ∀ x ∈ A, ∀ u ∈ x.l, u < 256) (hkB : ∀ x ∈ B, ∀ u ∈ x.l, u < 256) :
    Calls Try.prog 11 #[Value.slice a1 m1 c1, Value.slice a2 m2 c2] w0 (fun r_ w' => r_ = .returned (.bool (decide (keys A = keys B))) ∧ Keep w0 w') := by
  have hAl := hA.tab.len
  have hBl := hB.tab.len
  refine F_in Try.func11 rfl Try.ntmps11 rfl ?_
  intro e he
  have p_0 : e 0 = Value.slice a1 m1 c1 := he 0 _ rfl
  have p_1 : e 1 = Value.slice a2 m2 c2 := he 1 _ rfl
  have H := Hp.start w0 []
  refine W_seq ?_
  refine W_rg ?_
  refine L_as rfl ?_
  refine L_nil ?_
  refine Th_n ?_
  refine W_seq ?_
  refine W_seq ?_
  refine W_rg ?_
  refine L_mv rfl ?_
  refine L_y rfl (Y_lenS T_sl35 p_0) ?_
  refine L_mv rfl ?_
  refine L_y rfl (Y_lenS T_sl35 p_1) ?_
  refine L_y rfl (Y_neq (k := .i64) (a := ((m1 : Nat) : Int)) (b := ((m2 : Nat) : Int)) rfl rfl) ?_
  refine L_nil ?_
  refine Th_n ?_
  refine W_cond (b := (((m1 : Nat) : Int) != ((m2 : Nat) : Int))) rfl (fun hc => ?_) (fun hc => ?_)
  ·
    have hc' := ne_of_bne hc
    refine W_seq ?_
    refine W_rg ?_
    refine L_as rfl ?_
    refine L_nil ?_
    refine Th_n ?_
    refine W_ret ?_
    refine Th_r ?_
    refine P_ret (vs := [Value.bool false]) (v := Value.bool false) rfl (.tmp rfl (Res.nil)) rfl ?_
    refine ⟨?_, H.nil_⟩; congr 2; symm
    refine decide_eq_false fun h => ?_; have := congrArg List.length h; rw [keys_len, keys_len] at this; omega
  ·
    have hc' := eq_of_bne_false hc
    refine W_skip ?_
    refine Th_n ?_
    refine W_seq ?_
    refine W_seq ?_
    refine W_rg ?_
    refine L_as rfl ?_
    refine L_nil ?_
    refine Th_n ?_
    refine W_block ?_
    refine W_loop (fun mu_ e w => ∃ i : Nat, mu_ = m1 - i ∧ e 0 = Value.slice a1 m1 c1 ∧ e 1 = Value.slice a2 m2 c2 ∧ e 5 = Value.int .i64 ((i : Nat) : Int) ∧ Hp w0 [] w [] ∧ keys (A.take i) = keys (B.take i) ∧ i ≤ m1) _ ⟨0, rfl, p_0, p_1, rfl, H, rfl, (Nat.zero_le _)⟩ ?_
    rintro mu_ e_2 w_2 ⟨i, rfl, e_2_0, e_2_1, e_2_5, H_2, hkk, hi⟩
    refine W_seq ?_
    refine W_seq ?_
    refine W_rg ?_
    refine L_mv rfl ?_
    refine L_mv rfl ?_
    refine L_y rfl (Y_lenS T_sl35 e_2_0) ?_
    refine L_y rfl (Y_lss (k := .i64) (a := ((i : Nat) : Int)) (b := ((m1 : Nat) : Int)) e_2_5 rfl) ?_
    refine L_nil ?_
    refine Th_n ?_
    refine W_cond (b := (decide (((i : Nat) : Int) < ((m1 : Nat) : Int)))) rfl (fun hc_2 => ?_) (fun hc_2 => ?_)
    ·
      have hc_2' := of_decide_eq_true hc_2
      refine W_skip ?_
      refine Th_n ?_
      refine W_seq ?_
      refine W_block ?_
      refine W_seq ?_
      obtain ⟨el19, hel19⟩ := (hA.hp H_2).tab.at (j := i) (by omega)
      have mel19 := List.mem_of_getElem? hel19
      obtain ⟨el23, hel23⟩ := (hB.hp H_2).tab.at (j := i) (by omega)
      have mel23 := List.mem_of_getElem? hel23
      refine W_quiet H_2 8 [Value.slice a1 m1 c1, Value.int .i64 ((i : Nat) : Int), pl a1 (i * 3 + 0), Value.agg #[Value.int .i64 (el19.f), Value.int .i64 (el19.t), Value.slice el19.a el19.l.length el19.c], Value.slice a2 m2 c2, Value.int .i64 ((i : Nat) : Int), pl a2 (i * 3 + 0), Value.agg #[Value.int .i64 (el23.f), Value.int .i64 (el23.t), Value.slice el23.a el23.l.length el23.c]] T_mixed (by kernel_rfl) ?_ ?_
      ·
        refine .plain rfl (Pl_y rfl (fun w hBw => congrArg (fun v => Result.ok (Next.value v) w) e_2_0)) ?_
        refine .plain rfl (Pl_y rfl (fun w hBw => congrArg (fun v => Result.ok (Next.value v) w) e_2_5)) ?_
        refine .plain rfl (Pl_y rfl (fun w hBw => Y_idxT (j := i) T_sl35 (hA.hp hBw).tab hel19 rfl rfl rfl)) ?_
        refine .plain rfl (Pl_y rfl (fun w hBw => Y_ldTs (j := i) T_row31 (hA.hp hBw).tab hel19 rfl rfl)) ?_
        refine .plain rfl (Pl_y rfl (fun w hBw => congrArg (fun v => Result.ok (Next.value v) w) e_2_1)) ?_
        refine .plain rfl (Pl_y rfl (fun w hBw => congrArg (fun v => Result.ok (Next.value v) w) e_2_5)) ?_
        refine .plain rfl (Pl_y rfl (fun w hBw => Y_idxT (j := i) T_sl35 (hB.hp hBw).tab hel23 rfl rfl rfl)) ?_
        refine .plain rfl (Pl_y rfl (fun w hBw => Y_ldTs (j := i) T_row31 (hB.hp hBw).tab hel23 rfl rfl)) ?_
        exact .nil _
      ·
        intro e_3 w_3 hAg H_3
        have e_3_0 : e_3 0 = Value.slice a1 m1 c1 := (hAg 0 rfl).trans e_2_0
        have e_3_1 : e_3 1 = Value.slice a2 m2 c2 := (hAg 1 rfl).trans e_2_1
        have e_3_5 : e_3 5 = Value.int .i64 ((i : Nat) : Int) := (hAg 5 rfl).trans e_2_5
        have e_3_20 : e_3 20 = Value.agg #[Value.int .i64 (el19.f), Value.int .i64 (el19.t), Value.slice el19.a el19.l.length el19.c] := (hAg 20 rfl).trans rfl
        have e_3_24 : e_3 24 = Value.agg #[Value.int .i64 (el23.f), Value.int .i64 (el23.t), Value.slice el23.a el23.l.length el23.c] := (hAg 24 rfl).trans rfl
        refine L_callv rfl rfl T_en14 (A2 e_3_20 e_3_24) (same_n (l1 := el19.l) (l2 := el23.l) _ ((hsA _ mel19).hp H_3) (hkA _ mel19) ((hsB _ mel23).hp H_3) (hkB _ mel23)) ?_
        rintro _ w_4 ⟨rfl, hkp⟩; refine ⟨_, rfl, ?_⟩; have H_4 := H_3.keep hkp
        refine L_y rfl (Y_not (b := (decide (((el19.f, el19.t, el19.l) : Key) = ((el23.f, el23.t, el23.l) : Key)))) rfl) ?_
        refine L_nil ?_
        refine Th_n ?_
        refine W_cond (b := (!(decide (((el19.f, el19.t, el19.l) : Key) = ((el23.f, el23.t, el23.l) : Key))))) rfl (fun hc_3 => ?_) (fun hc_3 => ?_)
        ·
          refine W_seq ?_
          refine W_rg ?_
          refine L_as rfl ?_
          refine L_nil ?_
          refine Th_n ?_
          refine W_ret ?_
          refine InB_r ?_
          refine Th_r ?_
          refine Th_r ?_
          refine InB_r ?_
          refine Th_r ?_
          refine P_ret (vs := [Value.bool false]) (v := Value.bool false) rfl (.tmp rfl (Res.nil)) rfl ?_
          refine ⟨?_, H_4.nil_⟩; congr 2; symm
          refine decide_eq_false fun h => ?_; have h1 := keys_get hel19; have h2 := keys_get hel23; rw [h, h2] at h1; have h3 : Lt.key el19 = Lt.key el23 := (Option.some.inj h1).symm; simp [Lt.key] at h3; simp_all
        ·
          refine W_skip ?_
          refine InB_n ?_
          refine Th_n ?_
          refine W_rg ?_
          refine L_mv rfl ?_
          refine L_y rfl (Y_add (k := .i64) (a := ((i : Nat) : Int)) (b := ((1 : Nat) : Int)) (z := ((i + 1 : Nat) : Int)) e_3_5 rfl (wi (by omega))) ?_
          refine L_as rfl ?_
          refine L_nil ?_
          refine Th_n ⟨_, ?_, (i + 1), rfl, e_3_0, e_3_1, rfl, H_4, (by rw [List.take_add_one, List.take_add_one, hel19, hel23]; simp only [Option.toList_some, keys_snoc, hkk]; congr 2; simp_all [Lt.key]), (by omega)⟩
          omega
    ·
      have hc_2' := of_decide_eq_false hc_2
      refine W_exit ?_
      refine Th_x ?_
      refine Th_x ?_
      refine InB_hit ?_
      refine Th_n ?_
      refine W_seq ?_
      refine W_rg ?_
      refine L_as rfl ?_
      refine L_nil ?_
      refine Th_n ?_
      refine W_ret ?_
      refine P_ret (vs := [Value.bool true]) (v := Value.bool true) rfl (.tmp rfl (Res.nil)) rfl ?_
      refine ⟨?_, H_2.nil_⟩; congr 2; symm
      refine decide_eq_true ?_; obtain rfl : i = m1 := (by omega); rw [List.take_of_length_le (by omega), List.take_of_length_le (by omega)] at hkk; exact hkk
end Go.Proofs.Ytbfmodjaahfbjaa
