/- Walks of layer 6 (the sums) and of its reference. Printed by sha.py. -/
import Derived.Test.YtdccphfaeockpaaH15
namespace Go.Proofs.Ytdccphfaeockpaa
open Go.Ev
set_option maxRecDepth 100000
theorem p192_wd {p : Nat} (hp : p < 1000) : Wd 16 18446744073709551616 (Sm.p192 p) := ⟨rfl, by
  intro u hu
  simp only [Sm.p192, List.mem_cons, List.not_mem_nil, or_false] at hu
  omega⟩

theorem under_p192 (la : List Nat) (p : Nat) (ha : Wd 16 18446744073709551616 la) (hp : p < 1000) (w0 : World) :
    Calls Try.prog 15 #[Value.agg (ua .u64 la), Value.int .i64 ((p : Nat) : Int), Value.int .i64 ((192 : Nat) : Int)] w0 (fun r_ w' => r_ = .returned (.bool (Sm.un la (Sm.p192 p) 16)) ∧ Keep w0 w') := by
  refine F_in Try.func15 rfl Try.ntmps15 rfl ?_
  intro e he
  have p_0 : e 0 = Value.agg (ua .u64 la) := he 0 _ rfl
  have p_1 : e 1 = Value.int .i64 ((p : Nat) : Int) := he 1 _ rfl
  have p_2 : e 2 = Value.int .i64 ((192 : Nat) : Int) := he 2 _ rfl
  have H := Hp.start w0 []
  refine W_seq ?_
  refine W_rg ?_
  refine L_box rfl H p_0 (cs := ua .u64 la) rfl ?_; intro bk3 w_2 H_2
  refine L_as rfl ?_
  refine L_nil ?_
  refine Th_n ?_
  refine W_seq ?_
  refine W_rg ?_
  refine L_alloc rfl H_2 T_zero35 ?_; intro bk7 w_3 H_3
  refine L_nil ?_
  refine Th_n ?_
  refine W_seq ?_
  refine W_rg ?_
  refine L_mv rfl ?_
  refine L_y rfl (Y_quo (k := .i64) (a := ((192 : Nat) : Int)) (b := ((16 : Nat) : Int)) (z := ((12 : Nat) : Int)) p_2 rfl (by decide) (by decide)) ?_
  refine L_mv rfl ?_
  refine L_y rfl (Y_convI (k := .i64) (n := ((p : Nat) : Int)) (z := ((p : Nat) : Int)) T_some3 T_kind31 p_1 (wrapS rfl (by first | decide | (show _ < 18446744073709551616; omega)))) ?_
  refine L_y rfl (Y_idxA 12 12 T_arr35 rfl rfl rfl (by decide) (zz1 _)) ?_
  refine L_st (v := Value.int .u64 ((p : Nat) : Int)) T_scal31 H_3 (i := 0) rfl rfl rfl rfl (Nat.le_of_ble_eq_true rfl) (l' := [Ent.blk bk7 35 (ua .u64 [0, 0, 0, 0, 0, 0, 0, 0, 0, 0, 0, 0, p, 0, 0, 0]), Ent.blk bk3 35 (ua .u64 la)]) (by rw [ua_set]; rfl) ?_; intro w_4 H_4
  refine L_nil ?_
  refine Th_n ?_
  refine W_seq ?_
  refine W_seq ?_
  refine W_rg ?_
  refine L_as rfl ?_
  refine L_nil ?_
  refine Th_n ?_
  refine W_block ?_
  have H_5 : Hp w0 [] w_4 [Ent.blk bk7 35 (ua .u64 (Sm.p192 p)), Ent.blk bk3 35 (ua .u64 la)] := by have h := H_4; exact h
  refine W_loop (fun mu_ e w => ∃ j : Nat, mu_ = j + 1 ∧ e 3 = Value.pointer (some ⟨bk3, 0, none⟩) ∧ e 7 = Value.pointer (some ⟨bk7, 0, none⟩) ∧ e 8 = Value.int .i64 (((j : Nat) : Int) - ((1 : Nat) : Int)) ∧ Hp w0 [] w [Ent.blk bk7 35 (ua .u64 (Sm.p192 p)), Ent.blk bk3 35 (ua .u64 la)] ∧ j ≤ 16 ∧ Sm.un la (Sm.p192 p) j = Sm.un la (Sm.p192 p) 16) _ ⟨16, rfl, rfl, rfl, rfl, H_5, (by decide), rfl⟩ ?_
  rintro mu_ e_2 w_5 ⟨j, rfl, e_2_3, e_2_7, e_2_8, H_6, hj, hV⟩
  refine W_seq ?_
  refine W_seq ?_
  refine W_rg ?_
  refine L_mv rfl ?_
  refine L_y rfl (Y_geq (k := .i64) (a := (((j : Nat) : Int) - ((1 : Nat) : Int))) (b := ((0 : Nat) : Int)) e_2_8 rfl) ?_
  refine L_nil ?_
  refine Th_n ?_
  refine W_cond (b := (decide (((0 : Nat) : Int) ≤ (((j : Nat) : Int) - ((1 : Nat) : Int))))) rfl (fun hc => ?_) (fun hc => ?_)
  ·
    obtain ⟨i, rfl⟩ : ∃ i, j = i + 1 := by have := of_decide_eq_true hc; exact ⟨j - 1, by omega⟩
    have e8i := e_2_8.trans (congrArg (Value.int .i64) (by omega : ((i + 1 : Nat) : Int) - ((1 : Nat) : Int) = ((i : Nat) : Int)))
    refine W_skip ?_
    refine Th_n ?_
    refine W_seq ?_
    refine W_block ?_
    refine W_seq ?_
    obtain ⟨x20, hx20⟩ : ∃ u, la[i]? = some u := ⟨_, List.getElem?_eq_getElem (by have := ha.1; omega)⟩
    have rx20 := ha.2 _ (List.mem_of_getElem? hx20)
    obtain ⟨x23, hx23⟩ : ∃ u, (Sm.p192 p)[i]? = some u := ⟨_, List.getElem?_eq_getElem (by have := (p192_wd hp).1; omega)⟩
    have rx23 := (p192_wd hp).2 _ (List.mem_of_getElem? hx23)
    refine W_quiet H_6 6 [Value.int .i64 ((i : Nat) : Int), Value.pointer (some ⟨bk3, i, none⟩), Value.int .u64 ((x20 : Nat) : Int), Value.int .i64 ((i : Nat) : Int), Value.pointer (some ⟨bk7, i, none⟩), Value.int .u64 ((x23 : Nat) : Int)] T_mixed (by kernel_rfl) ?_ ?_
    ·
      refine .plain rfl (Pl_y rfl (fun w hBw => congrArg (fun v => Result.ok (Next.value v) w) e8i)) ?_
      refine .plain rfl (Pl_y rfl (fun w hBw => Y_idxA i i T_arr35 e_2_3 rfl rfl (by omega) (zz1 _))) ?_
      refine .plain rfl (Pl_y rfl (fun w hBw => Y_ld T_scal31 hBw (i := 1) rfl rfl (ua_get hx20))) ?_
      refine .plain rfl (Pl_y rfl (fun w hBw => congrArg (fun v => Result.ok (Next.value v) w) e8i)) ?_
      refine .plain rfl (Pl_y rfl (fun w hBw => Y_idxA i i T_arr35 e_2_7 rfl rfl (by omega) (zz1 _))) ?_
      refine .plain rfl (Pl_y rfl (fun w hBw => Y_ld T_scal31 hBw (i := 0) rfl rfl (ua_get hx23))) ?_
      exact .nil _
    ·
      intro e_3 w_6 hAg H_7
      have e_3_3 : e_3 3 = Value.pointer (some ⟨bk3, 0, none⟩) := (hAg 3 rfl).trans e_2_3
      have e_3_7 : e_3 7 = Value.pointer (some ⟨bk7, 0, none⟩) := (hAg 7 rfl).trans e_2_7
      have e_3_8 : e_3 8 = Value.int .i64 ((i : Nat) : Int) := (hAg 8 rfl).trans e8i
      have e_3_20 : e_3 20 = Value.int .u64 ((x20 : Nat) : Int) := (hAg 20 rfl).trans rfl
      have e_3_23 : e_3 23 = Value.int .u64 ((x23 : Nat) : Int) := (hAg 23 rfl).trans rfl
      refine L_y rfl (Y_neq (k := .u64) (a := ((x20 : Nat) : Int)) (b := ((x23 : Nat) : Int)) e_3_20 e_3_23) ?_
      refine L_nil ?_
      refine Th_n ?_
      refine W_cond (b := (((x20 : Nat) : Int) != ((x23 : Nat) : Int))) rfl (fun hc_2 => ?_) (fun hc_2 => ?_)
      ·
        have hc_2' := ne_of_bne hc_2
        refine W_seq ?_
        refine W_quiet H_7 6 [Value.int .i64 ((i : Nat) : Int), Value.pointer (some ⟨bk3, i, none⟩), Value.int .u64 ((x20 : Nat) : Int), Value.int .i64 ((i : Nat) : Int), Value.pointer (some ⟨bk7, i, none⟩), Value.int .u64 ((x23 : Nat) : Int)] T_mixed (by kernel_rfl) ?_ ?_
        ·
          refine .plain rfl (Pl_y rfl (fun w hBw => congrArg (fun v => Result.ok (Next.value v) w) e_3_8)) ?_
          refine .plain rfl (Pl_y rfl (fun w hBw => Y_idxA i i T_arr35 e_3_3 rfl rfl (by omega) (zz1 _))) ?_
          refine .plain rfl (Pl_y rfl (fun w hBw => Y_ld T_scal31 hBw (i := 1) rfl rfl (ua_get hx20))) ?_
          refine .plain rfl (Pl_y rfl (fun w hBw => congrArg (fun v => Result.ok (Next.value v) w) e_3_8)) ?_
          refine .plain rfl (Pl_y rfl (fun w hBw => Y_idxA i i T_arr35 e_3_7 rfl rfl (by omega) (zz1 _))) ?_
          refine .plain rfl (Pl_y rfl (fun w hBw => Y_ld T_scal31 hBw (i := 0) rfl rfl (ua_get hx23))) ?_
          exact .nil _
        ·
          intro e_4 w_7 hAg H_8
          have e_4_27 : e_4 27 = Value.int .u64 ((x20 : Nat) : Int) := (hAg 27 rfl).trans rfl
          have e_4_30 : e_4 30 = Value.int .u64 ((x23 : Nat) : Int) := (hAg 30 rfl).trans rfl
          refine L_y rfl (Y_lss (k := .u64) (a := ((x20 : Nat) : Int)) (b := ((x23 : Nat) : Int)) e_4_27 e_4_30) ?_
          refine L_as rfl ?_
          refine L_nil ?_
          refine Th_n ?_
          refine W_ret ?_
          refine InB_r ?_
          refine Th_r ?_
          refine Th_r ?_
          refine InB_r ?_
          refine Th_r ?_
          refine P_ret (vs := [Value.bool (decide (((x20 : Nat) : Int) < ((x23 : Nat) : Int)))]) (v := Value.bool (decide (((x20 : Nat) : Int) < ((x23 : Nat) : Int)))) rfl (.tmp rfl (Res.nil)) rfl ?_
          refine ⟨?_, H_8.nil_⟩
          rw [← hV, Sm.un_ret hx20 hx23 hc_2]
      ·
        have hc_2' := eq_of_bne_false hc_2
        refine W_skip ?_
        refine InB_n ?_
        refine Th_n ?_
        refine W_rg ?_
        refine L_mv rfl ?_
        refine L_y rfl (Y_sub (k := .i64) (a := ((i : Nat) : Int)) (b := ((1 : Nat) : Int)) (z := (((i : Nat) : Int) - ((1 : Nat) : Int))) e_3_8 rfl (wi (by omega))) ?_
        refine L_as rfl ?_
        refine L_nil ?_
        refine Th_n ⟨_, ?_, i, rfl, e_3_3, e_3_7, rfl, H_7, (by omega), ((Sm.un_step hx20 hx23 hc_2).symm.trans hV)⟩
        omega
  ·
    have hj0 : j = 0 := by have := of_decide_eq_false hc; omega
    refine W_exit ?_
    refine Th_x ?_
    refine Th_x ?_
    refine InB_hit ?_
    refine Th_n ?_
    refine W_seq ?_
    refine W_rg ?_
    refine L_as rfl ?_
    refine L_nil ?_
    refine Th_n ?_
    refine W_ret ?_
    refine P_ret (vs := [Value.bool true]) (v := Value.bool true) rfl (.tmp rfl (Res.nil)) rfl ?_
    refine ⟨?_, H_6.nil_⟩
    rw [← hV, hj0]; rfl

theorem p128_wd {p : Nat} (hp : p < 1000) : Wd 16 18446744073709551616 (Sm.p128 p) := ⟨rfl, by
  intro u hu
  simp only [Sm.p128, List.mem_cons, List.not_mem_nil, or_false] at hu
  omega⟩

theorem under_p128 (la : List Nat) (p : Nat) (ha : Wd 16 18446744073709551616 la) (hp : p < 1000) (w0 : World) :
    Calls Try.prog 15 #[Value.agg (ua .u64 la), Value.int .i64 ((p : Nat) : Int), Value.int .i64 ((128 : Nat) : Int)] w0 (fun r_ w' => r_ = .returned (.bool (Sm.un la (Sm.p128 p) 16)) ∧ Keep w0 w') := by
  refine F_in Try.func15 rfl Try.ntmps15 rfl ?_
  intro e he
  have p_0 : e 0 = Value.agg (ua .u64 la) := he 0 _ rfl
  have p_1 : e 1 = Value.int .i64 ((p : Nat) : Int) := he 1 _ rfl
  have p_2 : e 2 = Value.int .i64 ((128 : Nat) : Int) := he 2 _ rfl
  have H := Hp.start w0 []
  refine W_seq ?_
  refine W_rg ?_
  refine L_box rfl H p_0 (cs := ua .u64 la) rfl ?_; intro bk3 w_2 H_2
  refine L_as rfl ?_
  refine L_nil ?_
  refine Th_n ?_
  refine W_seq ?_
  refine W_rg ?_
  refine L_alloc rfl H_2 T_zero35 ?_; intro bk7 w_3 H_3
  refine L_nil ?_
  refine Th_n ?_
  refine W_seq ?_
  refine W_rg ?_
  refine L_mv rfl ?_
  refine L_y rfl (Y_quo (k := .i64) (a := ((128 : Nat) : Int)) (b := ((16 : Nat) : Int)) (z := ((8 : Nat) : Int)) p_2 rfl (by decide) (by decide)) ?_
  refine L_mv rfl ?_
  refine L_y rfl (Y_convI (k := .i64) (n := ((p : Nat) : Int)) (z := ((p : Nat) : Int)) T_some3 T_kind31 p_1 (wrapS rfl (by first | decide | (show _ < 18446744073709551616; omega)))) ?_
  refine L_y rfl (Y_idxA 8 8 T_arr35 rfl rfl rfl (by decide) (zz1 _)) ?_
  refine L_st (v := Value.int .u64 ((p : Nat) : Int)) T_scal31 H_3 (i := 0) rfl rfl rfl rfl (Nat.le_of_ble_eq_true rfl) (l' := [Ent.blk bk7 35 (ua .u64 [0, 0, 0, 0, 0, 0, 0, 0, p, 0, 0, 0, 0, 0, 0, 0]), Ent.blk bk3 35 (ua .u64 la)]) (by rw [ua_set]; rfl) ?_; intro w_4 H_4
  refine L_nil ?_
  refine Th_n ?_
  refine W_seq ?_
  refine W_seq ?_
  refine W_rg ?_
  refine L_as rfl ?_
  refine L_nil ?_
  refine Th_n ?_
  refine W_block ?_
  have H_5 : Hp w0 [] w_4 [Ent.blk bk7 35 (ua .u64 (Sm.p128 p)), Ent.blk bk3 35 (ua .u64 la)] := by have h := H_4; exact h
  refine W_loop (fun mu_ e w => ∃ j : Nat, mu_ = j + 1 ∧ e 3 = Value.pointer (some ⟨bk3, 0, none⟩) ∧ e 7 = Value.pointer (some ⟨bk7, 0, none⟩) ∧ e 8 = Value.int .i64 (((j : Nat) : Int) - ((1 : Nat) : Int)) ∧ Hp w0 [] w [Ent.blk bk7 35 (ua .u64 (Sm.p128 p)), Ent.blk bk3 35 (ua .u64 la)] ∧ j ≤ 16 ∧ Sm.un la (Sm.p128 p) j = Sm.un la (Sm.p128 p) 16) _ ⟨16, rfl, rfl, rfl, rfl, H_5, (by decide), rfl⟩ ?_
  rintro mu_ e_2 w_5 ⟨j, rfl, e_2_3, e_2_7, e_2_8, H_6, hj, hV⟩
  refine W_seq ?_
  refine W_seq ?_
  refine W_rg ?_
  refine L_mv rfl ?_
  refine L_y rfl (Y_geq (k := .i64) (a := (((j : Nat) : Int) - ((1 : Nat) : Int))) (b := ((0 : Nat) : Int)) e_2_8 rfl) ?_
  refine L_nil ?_
  refine Th_n ?_
  refine W_cond (b := (decide (((0 : Nat) : Int) ≤ (((j : Nat) : Int) - ((1 : Nat) : Int))))) rfl (fun hc => ?_) (fun hc => ?_)
  ·
    obtain ⟨i, rfl⟩ : ∃ i, j = i + 1 := by have := of_decide_eq_true hc; exact ⟨j - 1, by omega⟩
    have e8i := e_2_8.trans (congrArg (Value.int .i64) (by omega : ((i + 1 : Nat) : Int) - ((1 : Nat) : Int) = ((i : Nat) : Int)))
    refine W_skip ?_
    refine Th_n ?_
    refine W_seq ?_
    refine W_block ?_
    refine W_seq ?_
    obtain ⟨x20, hx20⟩ : ∃ u, la[i]? = some u := ⟨_, List.getElem?_eq_getElem (by have := ha.1; omega)⟩
    have rx20 := ha.2 _ (List.mem_of_getElem? hx20)
    obtain ⟨x23, hx23⟩ : ∃ u, (Sm.p128 p)[i]? = some u := ⟨_, List.getElem?_eq_getElem (by have := (p128_wd hp).1; omega)⟩
    have rx23 := (p128_wd hp).2 _ (List.mem_of_getElem? hx23)
    refine W_quiet H_6 6 [Value.int .i64 ((i : Nat) : Int), Value.pointer (some ⟨bk3, i, none⟩), Value.int .u64 ((x20 : Nat) : Int), Value.int .i64 ((i : Nat) : Int), Value.pointer (some ⟨bk7, i, none⟩), Value.int .u64 ((x23 : Nat) : Int)] T_mixed (by kernel_rfl) ?_ ?_
    ·
      refine .plain rfl (Pl_y rfl (fun w hBw => congrArg (fun v => Result.ok (Next.value v) w) e8i)) ?_
      refine .plain rfl (Pl_y rfl (fun w hBw => Y_idxA i i T_arr35 e_2_3 rfl rfl (by omega) (zz1 _))) ?_
      refine .plain rfl (Pl_y rfl (fun w hBw => Y_ld T_scal31 hBw (i := 1) rfl rfl (ua_get hx20))) ?_
      refine .plain rfl (Pl_y rfl (fun w hBw => congrArg (fun v => Result.ok (Next.value v) w) e8i)) ?_
      refine .plain rfl (Pl_y rfl (fun w hBw => Y_idxA i i T_arr35 e_2_7 rfl rfl (by omega) (zz1 _))) ?_
      refine .plain rfl (Pl_y rfl (fun w hBw => Y_ld T_scal31 hBw (i := 0) rfl rfl (ua_get hx23))) ?_
      exact .nil _
    ·
      intro e_3 w_6 hAg H_7
      have e_3_3 : e_3 3 = Value.pointer (some ⟨bk3, 0, none⟩) := (hAg 3 rfl).trans e_2_3
      have e_3_7 : e_3 7 = Value.pointer (some ⟨bk7, 0, none⟩) := (hAg 7 rfl).trans e_2_7
      have e_3_8 : e_3 8 = Value.int .i64 ((i : Nat) : Int) := (hAg 8 rfl).trans e8i
      have e_3_20 : e_3 20 = Value.int .u64 ((x20 : Nat) : Int) := (hAg 20 rfl).trans rfl
      have e_3_23 : e_3 23 = Value.int .u64 ((x23 : Nat) : Int) := (hAg 23 rfl).trans rfl
      refine L_y rfl (Y_neq (k := .u64) (a := ((x20 : Nat) : Int)) (b := ((x23 : Nat) : Int)) e_3_20 e_3_23) ?_
      refine L_nil ?_
      refine Th_n ?_
      refine W_cond (b := (((x20 : Nat) : Int) != ((x23 : Nat) : Int))) rfl (fun hc_2 => ?_) (fun hc_2 => ?_)
      ·
        have hc_2' := ne_of_bne hc_2
        refine W_seq ?_
        refine W_quiet H_7 6 [Value.int .i64 ((i : Nat) : Int), Value.pointer (some ⟨bk3, i, none⟩), Value.int .u64 ((x20 : Nat) : Int), Value.int .i64 ((i : Nat) : Int), Value.pointer (some ⟨bk7, i, none⟩), Value.int .u64 ((x23 : Nat) : Int)] T_mixed (by kernel_rfl) ?_ ?_
        ·
          refine .plain rfl (Pl_y rfl (fun w hBw => congrArg (fun v => Result.ok (Next.value v) w) e_3_8)) ?_
          refine .plain rfl (Pl_y rfl (fun w hBw => Y_idxA i i T_arr35 e_3_3 rfl rfl (by omega) (zz1 _))) ?_
          refine .plain rfl (Pl_y rfl (fun w hBw => Y_ld T_scal31 hBw (i := 1) rfl rfl (ua_get hx20))) ?_
          refine .plain rfl (Pl_y rfl (fun w hBw => congrArg (fun v => Result.ok (Next.value v) w) e_3_8)) ?_
          refine .plain rfl (Pl_y rfl (fun w hBw => Y_idxA i i T_arr35 e_3_7 rfl rfl (by omega) (zz1 _))) ?_
          refine .plain rfl (Pl_y rfl (fun w hBw => Y_ld T_scal31 hBw (i := 0) rfl rfl (ua_get hx23))) ?_
          exact .nil _
        ·
          intro e_4 w_7 hAg H_8
          have e_4_27 : e_4 27 = Value.int .u64 ((x20 : Nat) : Int) := (hAg 27 rfl).trans rfl
          have e_4_30 : e_4 30 = Value.int .u64 ((x23 : Nat) : Int) := (hAg 30 rfl).trans rfl
          refine L_y rfl (Y_lss (k := .u64) (a := ((x20 : Nat) : Int)) (b := ((x23 : Nat) : Int)) e_4_27 e_4_30) ?_
          refine L_as rfl ?_
          refine L_nil ?_
          refine Th_n ?_
          refine W_ret ?_
          refine InB_r ?_
          refine Th_r ?_
          refine Th_r ?_
          refine InB_r ?_
          refine Th_r ?_
          refine P_ret (vs := [Value.bool (decide (((x20 : Nat) : Int) < ((x23 : Nat) : Int)))]) (v := Value.bool (decide (((x20 : Nat) : Int) < ((x23 : Nat) : Int)))) rfl (.tmp rfl (Res.nil)) rfl ?_
          refine ⟨?_, H_8.nil_⟩
          rw [← hV, Sm.un_ret hx20 hx23 hc_2]
      ·
        have hc_2' := eq_of_bne_false hc_2
        refine W_skip ?_
        refine InB_n ?_
        refine Th_n ?_
        refine W_rg ?_
        refine L_mv rfl ?_
        refine L_y rfl (Y_sub (k := .i64) (a := ((i : Nat) : Int)) (b := ((1 : Nat) : Int)) (z := (((i : Nat) : Int) - ((1 : Nat) : Int))) e_3_8 rfl (wi (by omega))) ?_
        refine L_as rfl ?_
        refine L_nil ?_
        refine Th_n ⟨_, ?_, i, rfl, e_3_3, e_3_7, rfl, H_7, (by omega), ((Sm.un_step hx20 hx23 hc_2).symm.trans hV)⟩
        omega
  ·
    have hj0 : j = 0 := by have := of_decide_eq_false hc; omega
    refine W_exit ?_
    refine Th_x ?_
    refine Th_x ?_
    refine InB_hit ?_
    refine Th_n ?_
    refine W_seq ?_
    refine W_rg ?_
    refine L_as rfl ?_
    refine L_nil ?_
    refine Th_n ?_
    refine W_ret ?_
    refine P_ret (vs := [Value.bool true]) (v := Value.bool true) rfl (.tmp rfl (Res.nil)) rfl ?_
    refine ⟨?_, H_6.nil_⟩
    rw [← hV, hj0]; rfl
end Go.Proofs.Ytdccphfaeockpaa
