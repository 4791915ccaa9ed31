/- Walks of layer 17 (pack) and of its reference. Printed by pack.py. -/
import Derived.Test.YtidepfhfconkaaaK3
namespace Go.Proofs.Ytidepfhfconkaaa
open Go.Ev
set_option maxRecDepth 100000
set_option linter.unusedVariables false
set_option linter.unusedSimpArgs false
theorem T_en29 : enters Try.prog 29 = true := by kernel_rfl
theorem wDone {w0 w : World} {X : List Ent} {bw : Nat} {v : Value} {l : List Nat} {er : Nat} (hl : l.length ≤ 4294967000) (hlt : ∀ u ∈ l, u < 256) (H : Hp w0 [] w (.blk bw 28 #[v, .int .i64 ((er : Nat) : Int)] :: .own v 5 1 (l).length (us .u8 (l)) :: X)) :
    Calls Try.prog 15 #[Value.pointer (some ⟨bw, 0, none⟩)] w (fun r_ w' => ∃ v', r_ = .returned (.tuple #[v', .int .i64 ((er : Nat) : Int)]) ∧ Hp w0 [] w' (.own v' 5 1 (Pk.told l er).length (us .u8 (Pk.told l er)) :: .blk bw 28 #[v, .int .i64 ((er : Nat) : Int)] :: .own v 5 1 (l).length (us .u8 (l)) :: X)) := by
  refine F_in Try.func15 rfl Try.ntmps15 rfl ?_
  intro e he
  have p_0 : e 0 = Value.pointer (some ⟨bw, 0, none⟩) := he 0 _ rfl
  refine W_seq ?_
  refine W_rg ?_
  refine L_as rfl ?_
  refine L_as rfl ?_
  refine L_nil ?_
  refine Th_n ?_
  refine W_seq ?_
  refine W_block ?_
  refine W_seq ?_
  refine W_rg ?_
  refine L_mv rfl ?_
  refine L_y rfl (Y_eqP Try.underlying35 p_0 rfl) ?_
  refine L_as rfl ?_
  refine L_nil ?_
  refine Th_n ?_
  refine W_false rfl ?_
  refine W_seq ?_
  refine W_rg ?_
  refine L_mv rfl ?_
  refine L_y rfl (Y_nil p_0) ?_
  refine L_y rfl (Y_fld T_fld28_1 rfl rfl rfl) ?_
  refine L_y rfl (Y_ld T_scal26 H (i := 0) rfl rfl rfl) ?_
  refine L_y rfl (Y_neq (k := .i64) (a := ((er : Nat) : Int)) (b := ((0 : Nat) : Int)) rfl rfl) ?_
  refine L_as rfl ?_
  refine L_nil ?_
  refine Th_n ?_
  refine W_cond (b := (((er : Nat) : Int) != ((0 : Nat) : Int))) rfl (fun hc => ?_) (fun hc => ?_)
  ·
    have hc' := ne_of_bne hc
    refine W_seq ?_
    refine W_quiet H 5 [Value.pointer (some ⟨bw, 0, none⟩), Value.pointer (some ⟨bw, 0, none⟩), Value.pointer (some ⟨bw, 1, none⟩), Value.int .i64 ((er : Nat) : Int), Value.slice none 0 0] T_mixed (by kernel_rfl) ?_ ?_
    ·
      refine .plain rfl (Pl_y rfl (fun w hBw => congrArg (fun v => Result.ok (Next.value v) w) p_0)) ?_
      refine .plain rfl (Pl_y rfl (fun w hBw => Y_nil rfl)) ?_
      refine .plain rfl (Pl_y rfl (fun w hBw => Y_fld T_fld28_1 rfl rfl rfl)) ?_
      refine .plain rfl (Pl_y rfl (fun w hBw => Y_ld T_scal26 hBw (i := 0) rfl rfl rfl)) ?_
      refine .plain rfl (Pl_y rfl (fun w hBw => rfl)) ?_
      exact .nil _
    ·
      intro e_2 w_2 hAg H_2
      have e_2_2 : e_2 2 = Value.slice none 0 0 := (hAg 2 rfl).trans rfl
      have e_2_16 : e_2 16 = Value.int .i64 ((er : Nat) : Int) := (hAg 16 rfl).trans rfl
      refine L_as rfl ?_
      refine L_nil ?_
      refine Th_n ?_
      refine W_ret ?_
      refine InB_r ?_
      refine Th_r ?_
      refine P_ret (vs := [Value.slice none 0 0, Value.int .i64 ((er : Nat) : Int)]) (v := Value.tuple #[Value.slice none 0 0, Value.int .i64 ((er : Nat) : Int)]) rfl (.tmp e_2_2 (.tmp e_2_16 (Res.nil))) rfl ?_
      refine ⟨Value.slice none 0 0, rfl, ?_⟩; rw [show Pk.told l er = [] from if_neg (by omega)]; exact H_2.nilOwn 5 1
  ·
    have hc' := eq_of_bne_false hc
    refine W_skip ?_
    refine InB_n ?_
    refine Th_n ?_
    refine W_seq ?_
    refine W_rg ?_
    refine L_mv rfl ?_
    refine L_y rfl (Y_nil p_0) ?_
    refine L_y rfl (Y_fld T_fld28_0 rfl rfl rfl) ?_
    refine L_y rfl (Y_ld T_scal25 H (i := 0) rfl rfl rfl) ?_
    obtain ⟨a_, c_, rfl⟩ := Sl.opn H (i := 1) rfl
    refine L_callv rfl rfl T_en29 (A1 rfl) (clone _ _ _ _ _ (by omega) (Sl.own H (i := 1) rfl)) ?_
    rintro _ w_3 ⟨v21, rfl, hkp⟩; refine ⟨_, rfl, ?_⟩; have H_3 := H.more hkp
    refine L_as rfl ?_
    refine L_as rfl ?_
    refine L_nil ?_
    refine Th_n ?_
    refine W_ret ?_
    refine P_ret (vs := [v21, Value.int .i64 ((0 : Nat) : Int)]) (v := Value.tuple #[v21, Value.int .i64 ((0 : Nat) : Int)]) rfl (.tmp rfl (.tmp rfl (Res.nil))) rfl ?_
    obtain rfl : er = 0 := (by omega)
    refine ⟨v21, rfl, ?_⟩; rw [show Pk.told l 0 = l from if_pos rfl]; exact H_3
end Go.Proofs.Ytidepfhfconkaaa
