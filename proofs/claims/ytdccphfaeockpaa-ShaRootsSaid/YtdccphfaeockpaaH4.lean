/- Walks of layer 6 (the sums) and of its reference. Printed by sha.py. -/
import Derived.Test.YtdccphfaeockpaaH3
namespace Go.Proofs.Ytdccphfaeockpaa
open Go.Ev
set_option maxRecDepth 100000
theorem T_zero50 : zeroOf Try.prog 50 = some (ua .u64 [0, 0, 0, 0, 0, 0, 0, 0]) := by kernel_rfl
theorem T_zero49 : zeroOf Try.prog 49 = some (ua .u64 [0, 0, 0, 0, 0, 0, 0, 0, 0, 0, 0, 0, 0, 0, 0, 0, 0, 0, 0, 0, 0, 0, 0, 0, 0, 0, 0, 0, 0, 0, 0, 0, 0, 0, 0, 0, 0, 0, 0, 0, 0, 0, 0, 0, 0, 0, 0, 0, 0, 0, 0, 0, 0, 0, 0, 0, 0, 0, 0, 0, 0, 0, 0, 0, 0, 0, 0, 0, 0, 0, 0, 0, 0, 0, 0, 0, 0, 0, 0, 0]) := by kernel_rfl
theorem T_arr49 : arrOf Try.prog 49 = some (80, 1) := by kernel_rfl
theorem T_scal31 : scal Try.prog 31 = true := by kernel_rfl
theorem T_kind31 : kindOf Try.prog 31 = some .u64 := by kernel_rfl
theorem T_en31 : enters Try.prog 31 = true := by kernel_rfl
theorem T_arr50 : arrOf Try.prog 50 = some (8, 1) := by kernel_rfl
theorem T_row50 : rowOf Try.prog 50 = some 8 := by kernel_rfl
theorem sch512_wb {l : List Nat} {t i : Nat} (h : ∀ u ∈ l, u < 256) (ht : t ≤ 80) (hi : i ≤ 8) : Wd 80 18446744073709551616 ((Sm.sched Sm.k512 l t ++ List.replicate (80 - t) 0).set t (Sm.be ((l.drop (t * 8)).take i))) :=
  Wd.set (sch512_wd h ht) (Nat.lt_of_lt_of_le (Sm.be_lt _ fun u hu => h u (List.mem_of_mem_drop (List.mem_of_mem_take hu))) (Nat.le_trans (Nat.pow_le_pow_right (by decide) (by rw [List.length_take]; omega : _ ≤ 8)) (by decide)))

theorem great_n (S : Sm.V8) (a : Option Addr) (c : Nat) (l : List Nat) (kb : Nat) (hS : S.lt 18446744073709551616) (hl : ∀ u ∈ l, u < 256) (w0 : World) (hb : Sl w0 .u8 a 128 c l) (hk : w0.heap[kb]? = some (.cells (ua .u64 Sm.k512.ks) 49 (0, 0))) :
    Calls Try.prog 23 #[Value.agg (ua .u64 [S.a, S.b, S.c, S.d, S.e, S.f, S.g, S.h]), Value.slice a 128 c, Value.pointer (some ⟨kb, 0, none⟩)] w0 (fun r_ w' => r_ = .returned (.agg (ua .u64 (Sm.comp Sm.k512 S l).l)) ∧ Keep w0 w') := by
  refine F_in Try.func23 rfl Try.ntmps23 rfl ?_
  intro e he
  have p_0 : e 0 = Value.agg (ua .u64 [S.a, S.b, S.c, S.d, S.e, S.f, S.g, S.h]) := he 0 _ rfl
  have p_1 : e 1 = Value.slice a 128 c := he 1 _ rfl
  have p_2 : e 2 = Value.pointer (some ⟨kb, 0, none⟩) := he 2 _ rfl
  have H := Hp.start w0 []
  refine W_seq ?_
  refine W_rg ?_
  refine L_box rfl H p_0 (cs := ua .u64 [S.a, S.b, S.c, S.d, S.e, S.f, S.g, S.h]) rfl ?_; intro bk3 w_2 H_2
  refine L_alloc rfl H_2 T_zero50 ?_; intro bk6 w_3 H_3
  refine L_nil ?_
  refine Th_n ?_
  refine W_seq ?_
  refine W_rg ?_
  refine L_alloc rfl H_3 T_zero49 ?_; intro bk7 w_4 H_4
  refine L_nil ?_
  refine Th_n ?_
  refine W_seq ?_
  refine W_seq ?_
  refine W_rg ?_
  refine L_mv rfl ?_
  refine L_nil ?_
  refine Th_n ?_
  refine W_block ?_
  refine W_loop (fun mu_ e w => ∃ t : Nat, mu_ = 80 - t ∧ e 1 = Value.slice a 128 c ∧ e 2 = Value.pointer (some ⟨kb, 0, none⟩) ∧ e 3 = Value.pointer (some ⟨bk3, 0, none⟩) ∧ e 6 = Value.pointer (some ⟨bk6, 0, none⟩) ∧ e 7 = Value.pointer (some ⟨bk7, 0, none⟩) ∧ e 28 = Value.int .i64 ((t : Nat) : Int) ∧ Hp w0 [] w [Ent.blk bk7 49 (ua .u64 (Sm.sched Sm.k512 l t ++ List.replicate (80 - t) 0)), Ent.blk bk6 50 (ua .u64 [0, 0, 0, 0, 0, 0, 0, 0]), Ent.blk bk3 50 (ua .u64 [S.a, S.b, S.c, S.d, S.e, S.f, S.g, S.h])] ∧ t ≤ 80) _ ⟨0, rfl, p_1, p_2, rfl, rfl, rfl, rfl, H_4, (Nat.zero_le _)⟩ ?_
  rintro mu_ e_2 w_5 ⟨t, rfl, e_2_1, e_2_2, e_2_3, e_2_6, e_2_7, e_2_28, H_5, ht⟩
  refine W_seq ?_
  refine W_rg ?_
  refine L_y rfl (Y_lss (k := .i64) (a := ((t : Nat) : Int)) (b := ((80 : Nat) : Int)) e_2_28 rfl) ?_
  refine L_nil ?_
  refine Th_n ?_
  refine W_seq ?_
  refine W_cond (b := (decide (((t : Nat) : Int) < ((80 : Nat) : Int)))) rfl (fun hc => ?_) (fun hc => ?_)
  ·
    have hc' := of_decide_eq_true hc
    refine W_skip ?_
    refine Th_n ?_
    refine W_seq ?_
    refine W_block ?_
    refine W_seq ?_
    refine W_rg ?_
    refine L_mv rfl ?_
    refine L_as rfl ?_
    refine L_nil ?_
    refine Th_n ?_
    refine W_seq ?_
    refine W_seq ?_
    refine W_rg ?_
    refine L_mv rfl ?_
    refine L_y rfl (Y_lss (k := .i64) (a := ((t : Nat) : Int)) (b := ((16 : Nat) : Int)) e_2_28 rfl) ?_
    refine L_nil ?_
    refine Th_n ?_
    refine W_cond (b := (decide (((t : Nat) : Int) < ((16 : Nat) : Int)))) rfl (fun hc_2 => ?_) (fun hc_2 => ?_)
    ·
      have hc_2' := of_decide_eq_true hc_2
      refine W_seq ?_
      refine W_seq ?_
      refine W_rg ?_
      refine L_mv rfl ?_
      refine L_mv rfl ?_
      refine L_y rfl (Y_mul (k := .i64) (a := ((8 : Nat) : Int)) (b := ((t : Nat) : Int)) (z := ((8 * t : Nat) : Int)) rfl e_2_28 (wi (by omega))) ?_
      refine L_mv rfl ?_
      refine L_y rfl (Y_mul (k := .i64) (a := ((8 : Nat) : Int)) (b := ((t : Nat) : Int)) (z := ((8 * t : Nat) : Int)) rfl e_2_28 (wi (by omega))) ?_
      refine L_y rfl (Y_add (k := .i64) (a := ((8 * t : Nat) : Int)) (b := ((8 : Nat) : Int)) (z := (((8 * t) + 8 : Nat) : Int)) rfl rfl (wi (by omega))) ?_
      refine L_y rfl (Y_cutLH (lo := 8 * t) (hi := (8 * t) + 8) T_sl22 e_2_1 rfl rfl (by omega) (Nat.le_trans (by omega) (hb.hp H_5).cap)) ?_
      refine L_y rfl (Y_lenS T_sl22 rfl) ?_
      refine L_mv rfl ?_
      refine L_nil ?_
      refine Th_n ?_
      refine W_block ?_
      have H_6 : Hp w0 [] w_5 [Ent.blk bk7 49 (ua .u64 ((Sm.sched Sm.k512 l t ++ List.replicate (80 - t) 0).set t (Sm.be ((l.drop (t * 8)).take 0)))), Ent.blk bk6 50 (ua .u64 [0, 0, 0, 0, 0, 0, 0, 0]), Ent.blk bk3 50 (ua .u64 [S.a, S.b, S.c, S.d, S.e, S.f, S.g, S.h])] := by have h := H_5; rw [← Sm.sched_set0 (l := l.drop (t * 8)) (by omega : t < 80)] at h; exact h
      refine W_loop (fun mu_ e w => ∃ i : Nat, mu_ = 8 - i ∧ e 1 = Value.slice a 128 c ∧ e 2 = Value.pointer (some ⟨kb, 0, none⟩) ∧ e 3 = Value.pointer (some ⟨bk3, 0, none⟩) ∧ e 6 = Value.pointer (some ⟨bk6, 0, none⟩) ∧ e 7 = Value.pointer (some ⟨bk7, 0, none⟩) ∧ e 8 = Value.int .i64 ((t : Nat) : Int) ∧ e 28 = Value.int .i64 ((t : Nat) : Int) ∧ e 39 = Value.slice (cutA a c (8 * t)) (((8 * t) + 8) - (8 * t)) (c - (8 * t)) ∧ e 40 = Value.int .i64 ((((8 * t) + 8) - (8 * t) : Nat) : Int) ∧ e 41 = Value.int .i64 ((i : Nat) : Int) ∧ Hp w0 [] w [Ent.blk bk7 49 (ua .u64 ((Sm.sched Sm.k512 l t ++ List.replicate (80 - t) 0).set t (Sm.be ((l.drop (t * 8)).take i)))), Ent.blk bk6 50 (ua .u64 [0, 0, 0, 0, 0, 0, 0, 0]), Ent.blk bk3 50 (ua .u64 [S.a, S.b, S.c, S.d, S.e, S.f, S.g, S.h])] ∧ i ≤ 8) _ ⟨0, rfl, e_2_1, e_2_2, e_2_3, e_2_6, e_2_7, e_2_28, e_2_28, rfl, rfl, rfl, H_6, (Nat.zero_le _)⟩ ?_
      rintro mu_ e_3 w_6 ⟨i, rfl, e_3_1, e_3_2, e_3_3, e_3_6, e_3_7, e_3_8, e_3_28, e_3_39, e_3_40, e_3_41, H_7, hi⟩
      refine W_seq ?_
      refine W_rg ?_
      refine L_y rfl (Y_lss (k := .i64) (a := ((i : Nat) : Int)) (b := ((((8 * t) + 8) - (8 * t) : Nat) : Int)) e_3_41 e_3_40) ?_
      refine L_nil ?_
      refine Th_n ?_
      refine W_seq ?_
      refine W_cond (b := (decide (((i : Nat) : Int) < ((((8 * t) + 8) - (8 * t) : Nat) : Int)))) rfl (fun hc_3 => ?_) (fun hc_3 => ?_)
      ·
        have hc_3' := of_decide_eq_true hc_3
        refine W_skip ?_
        refine Th_n ?_
        refine W_seq ?_
        refine W_block ?_
        refine W_seq ?_
        refine W_rg ?_
        refine L_y rfl (Y_idxL (j := i) T_sl22 ((hb.hp H_7).mid (by omega) (by omega)) e_3_39 e_3_41 rfl (by omega)) ?_
        obtain ⟨x44, hx44⟩ : ∃ u, ((l.drop (8 * t)).take (((8 * t) + 8) - (8 * t)))[i]? = some u := ⟨_, List.getElem?_eq_getElem (by have := (⟨((hb.hp H_7).mid (by omega) (by omega)).len, (fun u hu => hl u (List.mem_of_mem_drop (List.mem_of_mem_take hu)))⟩ : Wd (((8 * t) + 8) - (8 * t)) 256 ((l.drop (8 * t)).take (((8 * t) + 8) - (8 * t)))).1; omega)⟩
        have rx44 := (⟨((hb.hp H_7).mid (by omega) (by omega)).len, (fun u hu => hl u (List.mem_of_mem_drop (List.mem_of_mem_take hu)))⟩ : Wd (((8 * t) + 8) - (8 * t)) 256 ((l.drop (8 * t)).take (((8 * t) + 8) - (8 * t)))).2 _ (List.mem_of_getElem? hx44)
        refine L_y rfl (Y_ldR T_scal5 ((hb.hp H_7).mid (by omega) (by omega)).rd rfl (hx44)) ?_
        refine L_as rfl ?_
        refine L_nil ?_
        refine Th_n ?_
        refine W_rg ?_
        refine L_mv rfl ?_
        refine L_mv rfl ?_
        refine L_y rfl (Y_idxA t t T_arr49 e_3_7 e_3_8 rfl (by omega) (zz1 _)) ?_
        obtain ⟨x48, hx48⟩ : ∃ u, ((Sm.sched Sm.k512 l t ++ List.replicate (80 - t) 0).set t (Sm.be ((l.drop (t * 8)).take i)))[t]? = some u := ⟨_, List.getElem?_eq_getElem (by have := (sch512_wb hl ht hi).1; omega)⟩
        have rx48 := (sch512_wb hl ht hi).2 _ (List.mem_of_getElem? hx48)
        refine L_y rfl (Y_ld T_scal31 H_7 (i := 0) rfl rfl (ua_get hx48)) ?_
        refine L_yr (z := x48 * 2 ^ 8 % 18446744073709551616) (m := 18446744073709551616) rfl (Yu_shl (k := .u64) rfl x48 8 rfl rfl) (Nat.mod_lt _ (by decide)) ?_; intro x49 hx49 rx49
        refine L_mv rfl ?_
        refine L_y rfl (Y_convI (k := .u8) (n := ((x44 : Nat) : Int)) (z := ((x44 : Nat) : Int)) T_some5 T_kind31 rfl (wrapS rfl (by exact Nat.lt_of_lt_of_le rx44 (by decide)))) ?_
        refine L_yr (z := x49 ||| x44) (m := 18446744073709551616) rfl (Yu_or (k := .u64) rfl x49 x44 rx49 (Nat.lt_trans rx44 (by decide)) rfl rfl) (Nat.or_lt_two_pow (n := 64) rx49 (Nat.lt_trans rx44 (by decide))) ?_; intro x52 hx52 rx52
        refine L_y rfl (Y_idxA t t T_arr49 e_3_7 e_3_8 rfl (by omega) (zz1 _)) ?_
        refine L_st (v := Value.int .u64 ((x52 : Nat) : Int)) T_scal31 H_7 (i := 0) rfl rfl rfl rfl (by rw [ua_size]; have := (sch512_wb hl ht hi).1; omega) (l' := [Ent.blk bk7 49 (ua .u64 (((Sm.sched Sm.k512 l t ++ List.replicate (80 - t) 0).set t (Sm.be ((l.drop (t * 8)).take i))).set t x52)), Ent.blk bk6 50 (ua .u64 [0, 0, 0, 0, 0, 0, 0, 0]), Ent.blk bk3 50 (ua .u64 [S.a, S.b, S.c, S.d, S.e, S.f, S.g, S.h])]) (by rw [ua_set]; rfl) ?_; intro w_7 H_8
        refine L_nil ?_
        refine InB_n ?_
        refine Th_n ?_
        refine W_rg ?_
        refine L_y rfl (Y_add (k := .i64) (a := ((i : Nat) : Int)) (b := ((1 : Nat) : Int)) (z := ((i + 1 : Nat) : Int)) e_3_41 rfl (wi (by omega))) ?_
        refine L_mv rfl ?_
        refine L_nil ?_
        have H_9 : Hp w0 [] w_7 [Ent.blk bk7 49 (ua .u64 ((Sm.sched Sm.k512 l t ++ List.replicate (80 - t) 0).set t (Sm.be ((l.drop (t * 8)).take (i + 1))))), Ent.blk bk6 50 (ua .u64 [0, 0, 0, 0, 0, 0, 0, 0]), Ent.blk bk3 50 (ua .u64 [S.a, S.b, S.c, S.d, S.e, S.f, S.g, S.h])] := by have h := H_8; rw [List.set_set, hx52, Sm.be512_step rfl hl (by omega) (Sm.set_get (by rw [(sch512_wd hl ht).1]; omega) hx48) hx49 hx44] at h; exact h
        refine Th_n ⟨_, ?_, i + 1, rfl, e_3_1, e_3_2, e_3_3, e_3_6, e_3_7, e_3_8, e_3_28, e_3_39, e_3_40, rfl, H_9, (by omega)⟩
        omega
      ·
        have hc_3' := of_decide_eq_false hc_3
        refine W_exit ?_
        refine Th_x ?_
        refine Th_x ?_
        refine InB_hit ?_
        refine Th_n ?_
        refine W_exit ?_
        refine Th_x ?_
        refine InB_hit ?_
        refine Th_n ?_
        refine W_rg ?_
        refine L_y rfl (Y_add (k := .i64) (a := ((t : Nat) : Int)) (b := ((1 : Nat) : Int)) (z := ((t + 1 : Nat) : Int)) e_3_28 rfl (wi (by omega))) ?_
        refine L_mv rfl ?_
        refine L_nil ?_
        have H_10 : Hp w0 [] w_6 [Ent.blk bk7 49 (ua .u64 (Sm.sched Sm.k512 l (t + 1) ++ List.replicate (80 - (t + 1)) 0)), Ent.blk bk6 50 (ua .u64 [0, 0, 0, 0, 0, 0, 0, 0]), Ent.blk bk3 50 (ua .u64 [S.a, S.b, S.c, S.d, S.e, S.f, S.g, S.h])] := by have h := H_7; rw [Sm.sched_set (by omega) (Sm.word512_lo (of_decide_eq_true hc_2) (by omega))] at h; exact h
        refine Th_n ⟨_, ?_, t + 1, rfl, e_3_1, e_3_2, e_3_3, e_3_6, e_3_7, rfl, H_10, (by omega)⟩
        omega
    ·
      have hc_2' := of_decide_eq_false hc_2
      refine W_skip ?_
      refine Th_n ?_
      refine W_seq ?_
      obtain ⟨x58, hx58⟩ : ∃ u, (Sm.sched Sm.k512 l t ++ List.replicate (80 - t) 0)[t - 2]? = some u := ⟨_, List.getElem?_eq_getElem (by have := (sch512_wd hl ht).1; omega)⟩
      have rx58 := (sch512_wd hl ht).2 _ (List.mem_of_getElem? hx58)
      obtain ⟨x62, hx62⟩ : ∃ u, (Sm.sched Sm.k512 l t ++ List.replicate (80 - t) 0)[t - 15]? = some u := ⟨_, List.getElem?_eq_getElem (by have := (sch512_wd hl ht).1; omega)⟩
      have rx62 := (sch512_wd hl ht).2 _ (List.mem_of_getElem? hx62)
      refine W_quiet H_5 9 [Value.int .i64 ((t : Nat) : Int), Value.int .i64 ((t - 2 : Nat) : Int), Value.pointer (some ⟨bk7, t - 2, none⟩), Value.int .u64 ((x58 : Nat) : Int), Value.int .i64 ((t : Nat) : Int), Value.int .i64 ((t - 15 : Nat) : Int), Value.pointer (some ⟨bk7, t - 15, none⟩), Value.int .u64 ((x62 : Nat) : Int), Value.int .u64 ((x58 : Nat) : Int)] T_mixed (by kernel_rfl) ?_ ?_
      ·
        refine .plain rfl (Pl_y rfl (fun w hBw => congrArg (fun v => Result.ok (Next.value v) w) e_2_28)) ?_
        refine .plain rfl (Pl_y rfl (fun w hBw => Y_sub (k := .i64) (a := ((t : Nat) : Int)) (b := ((2 : Nat) : Int)) (z := ((t - 2 : Nat) : Int)) rfl rfl (wi (by omega)))) ?_
        refine .plain rfl (Pl_y rfl (fun w hBw => Y_idxA (t - 2) (t - 2) T_arr49 e_2_7 rfl rfl (by omega) (zz1 _))) ?_
        refine .plain rfl (Pl_y rfl (fun w hBw => Y_ld T_scal31 hBw (i := 0) rfl rfl (ua_get hx58))) ?_
        refine .plain rfl (Pl_y rfl (fun w hBw => congrArg (fun v => Result.ok (Next.value v) w) e_2_28)) ?_
        refine .plain rfl (Pl_y rfl (fun w hBw => Y_sub (k := .i64) (a := ((t : Nat) : Int)) (b := ((15 : Nat) : Int)) (z := ((t - 15 : Nat) : Int)) rfl rfl (wi (by omega)))) ?_
        refine .plain rfl (Pl_y rfl (fun w hBw => Y_idxA (t - 15) (t - 15) T_arr49 e_2_7 rfl rfl (by omega) (zz1 _))) ?_
        refine .plain rfl (Pl_y rfl (fun w hBw => Y_ld T_scal31 hBw (i := 0) rfl rfl (ua_get hx62))) ?_
        refine .plain rfl (Pl_y rfl (fun w hBw => rfl)) ?_
        exact .nil _
      ·
        intro e_4 w_8 hAg H_11
        have e_4_1 : e_4 1 = Value.slice a 128 c := (hAg 1 rfl).trans e_2_1
        have e_4_2 : e_4 2 = Value.pointer (some ⟨kb, 0, none⟩) := (hAg 2 rfl).trans e_2_2
        have e_4_3 : e_4 3 = Value.pointer (some ⟨bk3, 0, none⟩) := (hAg 3 rfl).trans e_2_3
        have e_4_6 : e_4 6 = Value.pointer (some ⟨bk6, 0, none⟩) := (hAg 6 rfl).trans e_2_6
        have e_4_7 : e_4 7 = Value.pointer (some ⟨bk7, 0, none⟩) := (hAg 7 rfl).trans e_2_7
        have e_4_8 : e_4 8 = Value.int .i64 ((t : Nat) : Int) := (hAg 8 rfl).trans e_2_28
        have e_4_11 : e_4 11 = Value.int .u64 ((x58 : Nat) : Int) := (hAg 11 rfl).trans rfl
        have e_4_28 : e_4 28 = Value.int .i64 ((t : Nat) : Int) := (hAg 28 rfl).trans e_2_28
        have e_4_62 : e_4 62 = Value.int .u64 ((x62 : Nat) : Int) := (hAg 62 rfl).trans rfl
        refine L_as rfl ?_
        refine L_nil ?_
        refine Th_n ?_
        refine W_seq ?_
        refine W_rg ?_
        refine L_mv rfl ?_
        refine L_callv rfl rfl T_en31 (A2 e_4_11 rfl) ((rot64_n x58 19 (by decide) (by decide) rx58 _).mono (fun r_ w' h => (⟨Sm.ror 64 19 x58, rfl, h⟩ : ∃ (r64 : Nat), r64 = Sm.ror 64 19 x58 ∧ r_ = .returned (Value.int .u64 ((r64 : Nat) : Int)) ∧ Keep w_8 w'))) ?_
        rintro _ w_9 ⟨r64, hr64, rfl, hkp⟩; refine ⟨_, rfl, ?_⟩; have H_12 := H_11.keep hkp
        refine L_mv rfl ?_
        refine L_callv rfl rfl T_en31 (A2 e_4_11 rfl) ((rot64_n x58 61 (by decide) (by decide) rx58 _).mono (fun r_ w' h => (⟨Sm.ror 64 61 x58, rfl, h⟩ : ∃ (r66 : Nat), r66 = Sm.ror 64 61 x58 ∧ r_ = .returned (Value.int .u64 ((r66 : Nat) : Int)) ∧ Keep w_9 w'))) ?_
        rintro _ w_10 ⟨r66, hr66, rfl, hkp_2⟩; refine ⟨_, rfl, ?_⟩; have H_13 := H_12.keep hkp_2
        refine L_yr (z := r64 ^^^ r66) (m := 18446744073709551616) rfl (Yu_xor (k := .u64) rfl r64 r66 (by rw [hr64]; exact Sm.ror_lt 64 _ _) (by rw [hr66]; exact Sm.ror_lt 64 _ _) rfl rfl) (Nat.xor_lt_two_pow (n := 64) (by rw [hr64]; exact Sm.ror_lt 64 _ _) (by rw [hr66]; exact Sm.ror_lt 64 _ _)) ?_; intro x67 hx67 rx67
        refine L_mv rfl ?_
        refine L_yr (z := x58 / 2 ^ 6) (m := 18446744073709551616) rfl (Yu_shr (k := .u64) x58 6 rx58 e_4_11 rfl) (Nat.lt_of_le_of_lt (Nat.div_le_self _ _) rx58) ?_; intro x69 hx69 rx69
        refine L_yr (z := x67 ^^^ x69) (m := 18446744073709551616) rfl (Yu_xor (k := .u64) rfl x67 x69 rx67 rx69 rfl rfl) (Nat.xor_lt_two_pow (n := 64) rx67 rx69) ?_; intro x70 hx70 rx70
        refine L_as rfl ?_
        refine L_nil ?_
        refine Th_n ?_
        refine W_seq ?_
        refine W_rg ?_
        refine L_mv rfl ?_
        refine L_callv rfl rfl T_en31 (A2 e_4_62 rfl) ((rot64_n x62 1 (by decide) (by decide) rx62 _).mono (fun r_ w' h => (⟨Sm.ror 64 1 x62, rfl, h⟩ : ∃ (r72 : Nat), r72 = Sm.ror 64 1 x62 ∧ r_ = .returned (Value.int .u64 ((r72 : Nat) : Int)) ∧ Keep w_10 w'))) ?_
        rintro _ w_11 ⟨r72, hr72, rfl, hkp_3⟩; refine ⟨_, rfl, ?_⟩; have H_14 := H_13.keep hkp_3
        refine L_mv rfl ?_
        refine L_callv rfl rfl T_en31 (A2 e_4_62 rfl) ((rot64_n x62 8 (by decide) (by decide) rx62 _).mono (fun r_ w' h => (⟨Sm.ror 64 8 x62, rfl, h⟩ : ∃ (r74 : Nat), r74 = Sm.ror 64 8 x62 ∧ r_ = .returned (Value.int .u64 ((r74 : Nat) : Int)) ∧ Keep w_11 w'))) ?_
        rintro _ w_12 ⟨r74, hr74, rfl, hkp_4⟩; refine ⟨_, rfl, ?_⟩; have H_15 := H_14.keep hkp_4
        refine L_yr (z := r72 ^^^ r74) (m := 18446744073709551616) rfl (Yu_xor (k := .u64) rfl r72 r74 (by rw [hr72]; exact Sm.ror_lt 64 _ _) (by rw [hr74]; exact Sm.ror_lt 64 _ _) rfl rfl) (Nat.xor_lt_two_pow (n := 64) (by rw [hr72]; exact Sm.ror_lt 64 _ _) (by rw [hr74]; exact Sm.ror_lt 64 _ _)) ?_; intro x75 hx75 rx75
        refine L_mv rfl ?_
        refine L_yr (z := x62 / 2 ^ 7) (m := 18446744073709551616) rfl (Yu_shr (k := .u64) x62 7 rx62 e_4_62 rfl) (Nat.lt_of_le_of_lt (Nat.div_le_self _ _) rx62) ?_; intro x77 hx77 rx77
        refine L_yr (z := x75 ^^^ x77) (m := 18446744073709551616) rfl (Yu_xor (k := .u64) rfl x75 x77 rx75 rx77 rfl rfl) (Nat.xor_lt_two_pow (n := 64) rx75 rx77) ?_; intro x78 hx78 rx78
        refine L_as rfl ?_
        refine L_nil ?_
        refine Th_n ?_
        obtain ⟨x84, hx84⟩ : ∃ u, (Sm.sched Sm.k512 l t ++ List.replicate (80 - t) 0)[t - 7]? = some u := ⟨_, List.getElem?_eq_getElem (by have := (sch512_wd hl ht).1; omega)⟩
        have rx84 := (sch512_wd hl ht).2 _ (List.mem_of_getElem? hx84)
        obtain ⟨x91, hx91⟩ : ∃ u, (Sm.sched Sm.k512 l t ++ List.replicate (80 - t) 0)[t - 16]? = some u := ⟨_, List.getElem?_eq_getElem (by have := (sch512_wd hl ht).1; omega)⟩
        have rx91 := (sch512_wd hl ht).2 _ (List.mem_of_getElem? hx91)
        refine W_quiet H_15 14 [Value.int .i64 ((t : Nat) : Int), Value.int .u64 ((x70 : Nat) : Int), Value.int .i64 ((t : Nat) : Int), Value.int .i64 ((t - 7 : Nat) : Int), Value.pointer (some ⟨bk7, t - 7, none⟩), Value.int .u64 ((x84 : Nat) : Int), Value.int .u64 (((x70 + x84) % 18446744073709551616 : Nat) : Int), Value.int .u64 ((x78 : Nat) : Int), Value.int .u64 (((((x70 + x84) % 18446744073709551616) + x78) % 18446744073709551616 : Nat) : Int), Value.int .i64 ((t : Nat) : Int), Value.int .i64 ((t - 16 : Nat) : Int), Value.pointer (some ⟨bk7, t - 16, none⟩), Value.int .u64 ((x91 : Nat) : Int), Value.int .u64 (((((((x70 + x84) % 18446744073709551616) + x78) % 18446744073709551616) + x91) % 18446744073709551616 : Nat) : Int)] T_mixed (by kernel_rfl) ?_ ?_
        ·
          refine .plain rfl (Pl_y rfl (fun w hBw => congrArg (fun v => Result.ok (Next.value v) w) e_4_8)) ?_
          refine .plain rfl (Pl_y rfl (fun w hBw => rfl)) ?_
          refine .plain rfl (Pl_y rfl (fun w hBw => congrArg (fun v => Result.ok (Next.value v) w) e_4_8)) ?_
          refine .plain rfl (Pl_y rfl (fun w hBw => Y_sub (k := .i64) (a := ((t : Nat) : Int)) (b := ((7 : Nat) : Int)) (z := ((t - 7 : Nat) : Int)) rfl rfl (wi (by omega)))) ?_
          refine .plain rfl (Pl_y rfl (fun w hBw => Y_idxA (t - 7) (t - 7) T_arr49 e_4_7 rfl rfl (by omega) (zz1 _))) ?_
          refine .plain rfl (Pl_y rfl (fun w hBw => Y_ld T_scal31 hBw (i := 0) rfl rfl (ua_get hx84))) ?_
          refine .plain rfl (Pl_y rfl (fun w hBw => Yu_add (k := .u64) rfl x70 x84 rfl rfl)) ?_
          refine .plain rfl (Pl_y rfl (fun w hBw => rfl)) ?_
          refine .plain rfl (Pl_y rfl (fun w hBw => Yu_add (k := .u64) rfl ((x70 + x84) % 18446744073709551616) x78 rfl rfl)) ?_
          refine .plain rfl (Pl_y rfl (fun w hBw => congrArg (fun v => Result.ok (Next.value v) w) e_4_8)) ?_
          refine .plain rfl (Pl_y rfl (fun w hBw => Y_sub (k := .i64) (a := ((t : Nat) : Int)) (b := ((16 : Nat) : Int)) (z := ((t - 16 : Nat) : Int)) rfl rfl (wi (by omega)))) ?_
          refine .plain rfl (Pl_y rfl (fun w hBw => Y_idxA (t - 16) (t - 16) T_arr49 e_4_7 rfl rfl (by omega) (zz1 _))) ?_
          refine .plain rfl (Pl_y rfl (fun w hBw => Y_ld T_scal31 hBw (i := 0) rfl rfl (ua_get hx91))) ?_
          refine .plain rfl (Pl_y rfl (fun w hBw => Yu_add (k := .u64) rfl ((((x70 + x84) % 18446744073709551616) + x78) % 18446744073709551616) x91 rfl rfl)) ?_
          exact .nil _
        ·
          intro e_5 w_13 hAg H_16
          have e_5_1 : e_5 1 = Value.slice a 128 c := (hAg 1 rfl).trans e_4_1
          have e_5_2 : e_5 2 = Value.pointer (some ⟨kb, 0, none⟩) := (hAg 2 rfl).trans e_4_2
          have e_5_3 : e_5 3 = Value.pointer (some ⟨bk3, 0, none⟩) := (hAg 3 rfl).trans e_4_3
          have e_5_6 : e_5 6 = Value.pointer (some ⟨bk6, 0, none⟩) := (hAg 6 rfl).trans e_4_6
          have e_5_7 : e_5 7 = Value.pointer (some ⟨bk7, 0, none⟩) := (hAg 7 rfl).trans e_4_7
          have e_5_28 : e_5 28 = Value.int .i64 ((t : Nat) : Int) := (hAg 28 rfl).trans e_4_28
          have e_5_79 : e_5 79 = Value.int .i64 ((t : Nat) : Int) := (hAg 79 rfl).trans rfl
          obtain ⟨x92, hx92⟩ : ∃ z_ : Nat, z_ = (((((x70 + x84) % 18446744073709551616) + x78) % 18446744073709551616) + x91) % 18446744073709551616 := ⟨_, rfl⟩
          have rx92 : x92 < 18446744073709551616 := by rw [hx92]; exact (Nat.mod_lt _ (by decide))
          have e_5_92 : e_5 92 = Value.int .u64 ((x92 : Nat) : Int) := (hAg 92 rfl).trans (by rw [hx92]; exact rfl)
          refine L_y rfl (Y_idxA t t T_arr49 e_5_7 e_5_79 rfl (by omega) (zz1 _)) ?_
          refine L_st (v := Value.int .u64 ((x92 : Nat) : Int)) T_scal31 H_16 (i := 0) rfl rfl e_5_92 rfl (by rw [ua_size]; have := (sch512_wd hl ht).1; omega) (l' := [Ent.blk bk7 49 (ua .u64 ((Sm.sched Sm.k512 l t ++ List.replicate (80 - t) 0).set t x92)), Ent.blk bk6 50 (ua .u64 [0, 0, 0, 0, 0, 0, 0, 0]), Ent.blk bk3 50 (ua .u64 [S.a, S.b, S.c, S.d, S.e, S.f, S.g, S.h])]) (by rw [ua_set]; rfl) ?_; intro w_14 H_17
          refine L_nil ?_
          refine InB_n ?_
          refine Th_n ?_
          refine W_rg ?_
          refine L_y rfl (Y_add (k := .i64) (a := ((t : Nat) : Int)) (b := ((1 : Nat) : Int)) (z := ((t + 1 : Nat) : Int)) e_5_28 rfl (wi (by omega))) ?_
          refine L_mv rfl ?_
          refine L_nil ?_
          have H_18 : Hp w0 [] w_14 [Ent.blk bk7 49 (ua .u64 (Sm.sched Sm.k512 l (t + 1) ++ List.replicate (80 - (t + 1)) 0)), Ent.blk bk6 50 (ua .u64 [0, 0, 0, 0, 0, 0, 0, 0]), Ent.blk bk3 50 (ua .u64 [S.a, S.b, S.c, S.d, S.e, S.f, S.g, S.h])] := by have h := H_17; rw [Sm.sched_set (by omega) (by rw [hx92, hx70, hx78, hx67, hx69, hx75, hx77, hr64, hr66, hr72, hr74]; exact Sm.word512_hi (of_decide_eq_false hc_2) (Sm.sched_get (by omega) hx58) (Sm.sched_get (by omega) hx62) (Sm.sched_get (by omega) hx84) (Sm.sched_get (by omega) hx91))] at h; exact h
          refine Th_n ⟨_, ?_, t + 1, rfl, e_5_1, e_5_2, e_5_3, e_5_6, e_5_7, rfl, H_18, (by omega)⟩
          omega
  ·
    have hc' := of_decide_eq_false hc
    refine W_exit ?_
    refine Th_x ?_
    refine Th_x ?_
    obtain rfl : t = 80 := by omega
    have H_19 : Hp w0 [] w_5 [Ent.blk bk7 49 (ua .u64 (Sm.sched Sm.k512 l 80)), Ent.blk bk6 50 (ua .u64 [0, 0, 0, 0, 0, 0, 0, 0]), Ent.blk bk3 50 (ua .u64 [S.a, S.b, S.c, S.d, S.e, S.f, S.g, S.h])] := by have h := H_5; rw [Nat.sub_self, List.replicate_zero, List.append_nil] at h; exact h
    refine InB_hit ?_
    refine Th_n ?_
    refine W_seq ?_
    refine W_quiet H_19 23 [Value.pointer (some ⟨bk3, 0, none⟩), Value.int .u64 ((S.a : Nat) : Int), Value.pointer (some ⟨bk3, 1, none⟩), Value.int .u64 ((S.b : Nat) : Int), Value.pointer (some ⟨bk3, 2, none⟩), Value.int .u64 ((S.c : Nat) : Int), Value.pointer (some ⟨bk3, 3, none⟩), Value.int .u64 ((S.d : Nat) : Int), Value.pointer (some ⟨bk3, 4, none⟩), Value.int .u64 ((S.e : Nat) : Int), Value.pointer (some ⟨bk3, 5, none⟩), Value.int .u64 ((S.f : Nat) : Int), Value.pointer (some ⟨bk3, 6, none⟩), Value.int .u64 ((S.g : Nat) : Int), Value.pointer (some ⟨bk3, 7, none⟩), Value.int .u64 ((S.h : Nat) : Int), Value.int .u64 ((S.a : Nat) : Int), Value.int .u64 ((S.b : Nat) : Int), Value.int .u64 ((S.c : Nat) : Int), Value.int .u64 ((S.d : Nat) : Int), Value.int .u64 ((S.e : Nat) : Int), Value.int .u64 ((S.f : Nat) : Int), Value.int .u64 ((S.g : Nat) : Int)] T_mixed (by kernel_rfl) ?_ ?_
    ·
      refine .plain rfl (Pl_y rfl (fun w hBw => Y_idxA 0 0 T_arr50 e_2_3 rfl rfl (by decide) (zz1 _))) ?_
      refine .plain rfl (Pl_y rfl (fun w hBw => Y_ld T_scal31 hBw (i := 2) rfl rfl rfl)) ?_
      refine .plain rfl (Pl_y rfl (fun w hBw => Y_idxA 1 1 T_arr50 e_2_3 rfl rfl (by decide) (zz1 _))) ?_
      refine .plain rfl (Pl_y rfl (fun w hBw => Y_ld T_scal31 hBw (i := 2) rfl rfl rfl)) ?_
      refine .plain rfl (Pl_y rfl (fun w hBw => Y_idxA 2 2 T_arr50 e_2_3 rfl rfl (by decide) (zz1 _))) ?_
      refine .plain rfl (Pl_y rfl (fun w hBw => Y_ld T_scal31 hBw (i := 2) rfl rfl rfl)) ?_
      refine .plain rfl (Pl_y rfl (fun w hBw => Y_idxA 3 3 T_arr50 e_2_3 rfl rfl (by decide) (zz1 _))) ?_
      refine .plain rfl (Pl_y rfl (fun w hBw => Y_ld T_scal31 hBw (i := 2) rfl rfl rfl)) ?_
      refine .plain rfl (Pl_y rfl (fun w hBw => Y_idxA 4 4 T_arr50 e_2_3 rfl rfl (by decide) (zz1 _))) ?_
      refine .plain rfl (Pl_y rfl (fun w hBw => Y_ld T_scal31 hBw (i := 2) rfl rfl rfl)) ?_
      refine .plain rfl (Pl_y rfl (fun w hBw => Y_idxA 5 5 T_arr50 e_2_3 rfl rfl (by decide) (zz1 _))) ?_
      refine .plain rfl (Pl_y rfl (fun w hBw => Y_ld T_scal31 hBw (i := 2) rfl rfl rfl)) ?_
      refine .plain rfl (Pl_y rfl (fun w hBw => Y_idxA 6 6 T_arr50 e_2_3 rfl rfl (by decide) (zz1 _))) ?_
      refine .plain rfl (Pl_y rfl (fun w hBw => Y_ld T_scal31 hBw (i := 2) rfl rfl rfl)) ?_
      refine .plain rfl (Pl_y rfl (fun w hBw => Y_idxA 7 7 T_arr50 e_2_3 rfl rfl (by decide) (zz1 _))) ?_
      refine .plain rfl (Pl_y rfl (fun w hBw => Y_ld T_scal31 hBw (i := 2) rfl rfl rfl)) ?_
      refine .plain rfl (Pl_y rfl (fun w hBw => rfl)) ?_
      refine .plain rfl (Pl_y rfl (fun w hBw => rfl)) ?_
      refine .plain rfl (Pl_y rfl (fun w hBw => rfl)) ?_
      refine .plain rfl (Pl_y rfl (fun w hBw => rfl)) ?_
      refine .plain rfl (Pl_y rfl (fun w hBw => rfl)) ?_
      refine .plain rfl (Pl_y rfl (fun w hBw => rfl)) ?_
      refine .plain rfl (Pl_y rfl (fun w hBw => rfl)) ?_
      exact .nil _
    ·
      intro e_6 w_15 hAg H_20
      have e_6_2 : e_6 2 = Value.pointer (some ⟨kb, 0, none⟩) := (hAg 2 rfl).trans e_2_2
      have e_6_3 : e_6 3 = Value.pointer (some ⟨bk3, 0, none⟩) := (hAg 3 rfl).trans e_2_3
      have e_6_6 : e_6 6 = Value.pointer (some ⟨bk6, 0, none⟩) := (hAg 6 rfl).trans e_2_6
      have e_6_7 : e_6 7 = Value.pointer (some ⟨bk7, 0, none⟩) := (hAg 7 rfl).trans e_2_7
      have e_6_15 : e_6 15 = Value.int .u64 ((S.a : Nat) : Int) := (hAg 15 rfl).trans rfl
      have e_6_16 : e_6 16 = Value.int .u64 ((S.b : Nat) : Int) := (hAg 16 rfl).trans rfl
      have e_6_17 : e_6 17 = Value.int .u64 ((S.c : Nat) : Int) := (hAg 17 rfl).trans rfl
      have e_6_18 : e_6 18 = Value.int .u64 ((S.d : Nat) : Int) := (hAg 18 rfl).trans rfl
      have e_6_19 : e_6 19 = Value.int .u64 ((S.e : Nat) : Int) := (hAg 19 rfl).trans rfl
      have e_6_20 : e_6 20 = Value.int .u64 ((S.f : Nat) : Int) := (hAg 20 rfl).trans rfl
      have e_6_21 : e_6 21 = Value.int .u64 ((S.g : Nat) : Int) := (hAg 21 rfl).trans rfl
      have e_6_110 : e_6 110 = Value.int .u64 ((S.h : Nat) : Int) := (hAg 110 rfl).trans rfl
      refine L_as rfl ?_
      refine L_nil ?_
      refine Th_n ?_
      refine W_seq ?_
      refine W_seq ?_
      refine W_rg ?_
      refine L_mv rfl ?_
      refine L_nil ?_
      refine Th_n ?_
      refine W_block ?_
      refine W_loop (fun mu_ e w => ∃ t : Nat, ∃ va : Nat, ∃ vb : Nat, ∃ vc : Nat, ∃ vd : Nat, ∃ ve : Nat, ∃ vf : Nat, ∃ vg : Nat, ∃ vh : Nat, mu_ = 80 - t ∧ e 2 = Value.pointer (some ⟨kb, 0, none⟩) ∧ e 3 = Value.pointer (some ⟨bk3, 0, none⟩) ∧ e 6 = Value.pointer (some ⟨bk6, 0, none⟩) ∧ e 7 = Value.pointer (some ⟨bk7, 0, none⟩) ∧ e 15 = Value.int .u64 ((va : Nat) : Int) ∧ e 16 = Value.int .u64 ((vb : Nat) : Int) ∧ e 17 = Value.int .u64 ((vc : Nat) : Int) ∧ e 18 = Value.int .u64 ((vd : Nat) : Int) ∧ e 19 = Value.int .u64 ((ve : Nat) : Int) ∧ e 20 = Value.int .u64 ((vf : Nat) : Int) ∧ e 21 = Value.int .u64 ((vg : Nat) : Int) ∧ e 22 = Value.int .u64 ((vh : Nat) : Int) ∧ e 111 = Value.int .i64 ((t : Nat) : Int) ∧ Hp w0 [] w [Ent.blk bk7 49 (ua .u64 (Sm.sched Sm.k512 l 80)), Ent.blk bk6 50 (ua .u64 [0, 0, 0, 0, 0, 0, 0, 0]), Ent.blk bk3 50 (ua .u64 [S.a, S.b, S.c, S.d, S.e, S.f, S.g, S.h])] ∧ t ≤ 80 ∧ Sm.V8.mk va vb vc vd ve vf vg vh = Sm.rounds Sm.k512 (Sm.sched Sm.k512 l 80) S t ∧ (Sm.V8.mk va vb vc vd ve vf vg vh).lt 18446744073709551616) _ ⟨0, S.a, S.b, S.c, S.d, S.e, S.f, S.g, S.h, rfl, e_6_2, e_6_3, e_6_6, e_6_7, e_6_15, e_6_16, e_6_17, e_6_18, e_6_19, e_6_20, e_6_21, e_6_110, rfl, H_20, (Nat.zero_le _), rfl, hS⟩ ?_
      rintro mu_ e_7 w_16 ⟨t, va, vb, vc, vd, ve, vf, vg, vh, rfl, e_7_2, e_7_3, e_7_6, e_7_7, e_7_15, e_7_16, e_7_17, e_7_18, e_7_19, e_7_20, e_7_21, e_7_22, e_7_111, H_21, ht, hV, hW⟩
      refine W_seq ?_
      refine W_rg ?_
      refine L_y rfl (Y_lss (k := .i64) (a := ((t : Nat) : Int)) (b := ((80 : Nat) : Int)) e_7_111 rfl) ?_
      refine L_nil ?_
      refine Th_n ?_
      refine W_seq ?_
      refine W_cond (b := (decide (((t : Nat) : Int) < ((80 : Nat) : Int)))) rfl (fun hc_4 => ?_) (fun hc_4 => ?_)
      ·
        have hc_4' := of_decide_eq_true hc_4
        refine W_skip ?_
        refine Th_n ?_
        refine W_seq ?_
        refine W_block ?_
        refine W_seq ?_
        refine W_rg ?_
        refine L_mv rfl ?_
        refine L_as rfl ?_
        refine L_nil ?_
        refine Th_n ?_
        refine W_seq ?_
        refine W_rg ?_
        refine L_mv rfl ?_
        refine L_callv rfl rfl T_en31 (A2 e_7_19 rfl) ((rot64_n ve 14 (by decide) (by decide) hW.2.2.2.2.1 _).mono (fun r_ w' h => (⟨Sm.ror 64 14 ve, rfl, h⟩ : ∃ (r115 : Nat), r115 = Sm.ror 64 14 ve ∧ r_ = .returned (Value.int .u64 ((r115 : Nat) : Int)) ∧ Keep w_16 w'))) ?_
        rintro _ w_17 ⟨r115, hr115, rfl, hkp_5⟩; refine ⟨_, rfl, ?_⟩; have H_22 := H_21.keep hkp_5
        refine L_mv rfl ?_
        refine L_callv rfl rfl T_en31 (A2 e_7_19 rfl) ((rot64_n ve 18 (by decide) (by decide) hW.2.2.2.2.1 _).mono (fun r_ w' h => (⟨Sm.ror 64 18 ve, rfl, h⟩ : ∃ (r117 : Nat), r117 = Sm.ror 64 18 ve ∧ r_ = .returned (Value.int .u64 ((r117 : Nat) : Int)) ∧ Keep w_17 w'))) ?_
        rintro _ w_18 ⟨r117, hr117, rfl, hkp_6⟩; refine ⟨_, rfl, ?_⟩; have H_23 := H_22.keep hkp_6
        refine L_yr (z := r115 ^^^ r117) (m := 18446744073709551616) rfl (Yu_xor (k := .u64) rfl r115 r117 (by rw [hr115]; exact Sm.ror_lt 64 _ _) (by rw [hr117]; exact Sm.ror_lt 64 _ _) rfl rfl) (Nat.xor_lt_two_pow (n := 64) (by rw [hr115]; exact Sm.ror_lt 64 _ _) (by rw [hr117]; exact Sm.ror_lt 64 _ _)) ?_; intro x118 hx118 rx118
        refine L_mv rfl ?_
        refine L_callv rfl rfl T_en31 (A2 e_7_19 rfl) ((rot64_n ve 41 (by decide) (by decide) hW.2.2.2.2.1 _).mono (fun r_ w' h => (⟨Sm.ror 64 41 ve, rfl, h⟩ : ∃ (r120 : Nat), r120 = Sm.ror 64 41 ve ∧ r_ = .returned (Value.int .u64 ((r120 : Nat) : Int)) ∧ Keep w_18 w'))) ?_
        rintro _ w_19 ⟨r120, hr120, rfl, hkp_7⟩; refine ⟨_, rfl, ?_⟩; have H_24 := H_23.keep hkp_7
        refine L_yr (z := x118 ^^^ r120) (m := 18446744073709551616) rfl (Yu_xor (k := .u64) rfl x118 r120 rx118 (by rw [hr120]; exact Sm.ror_lt 64 _ _) rfl rfl) (Nat.xor_lt_two_pow (n := 64) rx118 (by rw [hr120]; exact Sm.ror_lt 64 _ _)) ?_; intro x121 hx121 rx121
        refine L_as rfl ?_
        refine L_nil ?_
        refine Th_n ?_
        refine W_seq ?_
        refine W_rg ?_
        refine L_mv rfl ?_
        refine L_callv rfl rfl T_en31 (A2 e_7_15 rfl) ((rot64_n va 28 (by decide) (by decide) hW.1 _).mono (fun r_ w' h => (⟨Sm.ror 64 28 va, rfl, h⟩ : ∃ (r123 : Nat), r123 = Sm.ror 64 28 va ∧ r_ = .returned (Value.int .u64 ((r123 : Nat) : Int)) ∧ Keep w_19 w'))) ?_
        rintro _ w_20 ⟨r123, hr123, rfl, hkp_8⟩; refine ⟨_, rfl, ?_⟩; have H_25 := H_24.keep hkp_8
        refine L_mv rfl ?_
        refine L_callv rfl rfl T_en31 (A2 e_7_15 rfl) ((rot64_n va 34 (by decide) (by decide) hW.1 _).mono (fun r_ w' h => (⟨Sm.ror 64 34 va, rfl, h⟩ : ∃ (r125 : Nat), r125 = Sm.ror 64 34 va ∧ r_ = .returned (Value.int .u64 ((r125 : Nat) : Int)) ∧ Keep w_20 w'))) ?_
        rintro _ w_21 ⟨r125, hr125, rfl, hkp_9⟩; refine ⟨_, rfl, ?_⟩; have H_26 := H_25.keep hkp_9
        refine L_yr (z := r123 ^^^ r125) (m := 18446744073709551616) rfl (Yu_xor (k := .u64) rfl r123 r125 (by rw [hr123]; exact Sm.ror_lt 64 _ _) (by rw [hr125]; exact Sm.ror_lt 64 _ _) rfl rfl) (Nat.xor_lt_two_pow (n := 64) (by rw [hr123]; exact Sm.ror_lt 64 _ _) (by rw [hr125]; exact Sm.ror_lt 64 _ _)) ?_; intro x126 hx126 rx126
        refine L_mv rfl ?_
        refine L_callv rfl rfl T_en31 (A2 e_7_15 rfl) ((rot64_n va 39 (by decide) (by decide) hW.1 _).mono (fun r_ w' h => (⟨Sm.ror 64 39 va, rfl, h⟩ : ∃ (r128 : Nat), r128 = Sm.ror 64 39 va ∧ r_ = .returned (Value.int .u64 ((r128 : Nat) : Int)) ∧ Keep w_21 w'))) ?_
        rintro _ w_22 ⟨r128, hr128, rfl, hkp_10⟩; refine ⟨_, rfl, ?_⟩; have H_27 := H_26.keep hkp_10
        refine L_yr (z := x126 ^^^ r128) (m := 18446744073709551616) rfl (Yu_xor (k := .u64) rfl x126 r128 rx126 (by rw [hr128]; exact Sm.ror_lt 64 _ _) rfl rfl) (Nat.xor_lt_two_pow (n := 64) rx126 (by rw [hr128]; exact Sm.ror_lt 64 _ _)) ?_; intro x129 hx129 rx129
        refine L_as rfl ?_
        refine L_nil ?_
        refine Th_n ?_
        refine W_seq ?_
        obtain ⟨x146, hx146⟩ : ∃ u, Sm.k512.ks[t]? = some u := ⟨_, List.getElem?_eq_getElem (by have := ks512_wd.1; omega)⟩
        have rx146 := ks512_wd.2 _ (List.mem_of_getElem? hx146)
        obtain ⟨x150, hx150⟩ : ∃ u, (Sm.sched Sm.k512 l 80)[t]? = some u := ⟨_, List.getElem?_eq_getElem (by have := (sch512_wd' hl).1; omega)⟩
        have rx150 := (sch512_wd' hl).2 _ (List.mem_of_getElem? hx150)
        refine W_quiet H_27 21 [Value.int .u64 ((vh : Nat) : Int), Value.int .u64 ((x121 : Nat) : Int), Value.int .u64 (((vh + x121) % 18446744073709551616 : Nat) : Int), Value.int .u64 ((ve : Nat) : Int), Value.int .u64 ((vf : Nat) : Int), Value.int .u64 ((ve &&& vf : Nat) : Int), Value.int .u64 ((ve : Nat) : Int), Value.int .u64 ((18446744073709551615 - ve : Nat) : Int), Value.int .u64 ((vg : Nat) : Int), Value.int .u64 (((18446744073709551615 - ve) &&& vg : Nat) : Int), Value.int .u64 (((ve &&& vf) ^^^ ((18446744073709551615 - ve) &&& vg) : Nat) : Int), Value.int .u64 (((((vh + x121) % 18446744073709551616) + ((ve &&& vf) ^^^ ((18446744073709551615 - ve) &&& vg))) % 18446744073709551616 : Nat) : Int), Value.pointer (some ⟨kb, 0, none⟩), Value.int .i64 ((t : Nat) : Int), Value.pointer (some ⟨kb, 0, none⟩), Value.pointer (some ⟨kb, t, none⟩), Value.int .u64 ((x146 : Nat) : Int), Value.int .u64 (((((((vh + x121) % 18446744073709551616) + ((ve &&& vf) ^^^ ((18446744073709551615 - ve) &&& vg))) % 18446744073709551616) + x146) % 18446744073709551616 : Nat) : Int), Value.int .i64 ((t : Nat) : Int), Value.pointer (some ⟨bk7, t, none⟩), Value.int .u64 ((x150 : Nat) : Int)] T_mixed (by kernel_rfl) ?_ ?_
        ·
          refine .plain rfl (Pl_y rfl (fun w hBw => congrArg (fun v => Result.ok (Next.value v) w) e_7_22)) ?_
          refine .plain rfl (Pl_y rfl (fun w hBw => rfl)) ?_
          refine .plain rfl (Pl_y rfl (fun w hBw => Yu_add (k := .u64) rfl vh x121 rfl rfl)) ?_
          refine .plain rfl (Pl_y rfl (fun w hBw => congrArg (fun v => Result.ok (Next.value v) w) e_7_19)) ?_
          refine .plain rfl (Pl_y rfl (fun w hBw => congrArg (fun v => Result.ok (Next.value v) w) e_7_20)) ?_
          refine .plain rfl (Pl_y rfl (fun w hBw => Yu_and (k := .u64) rfl ve vf hW.2.2.2.2.1 hW.2.2.2.2.2.1 rfl rfl)) ?_
          refine .plain rfl (Pl_y rfl (fun w hBw => congrArg (fun v => Result.ok (Next.value v) w) e_7_19)) ?_
          refine .plain rfl (Pl_y rfl (fun w hBw => Yu_com (k := .u64) rfl ve hW.2.2.2.2.1 rfl)) ?_
          refine .plain rfl (Pl_y rfl (fun w hBw => congrArg (fun v => Result.ok (Next.value v) w) e_7_21)) ?_
          refine .plain rfl (Pl_y rfl (fun w hBw => Yu_and (k := .u64) rfl (18446744073709551615 - ve) vg (Nat.lt_of_le_of_lt (Nat.sub_le _ _) (by decide)) hW.2.2.2.2.2.2.1 rfl rfl)) ?_
          refine .plain rfl (Pl_y rfl (fun w hBw => Yu_xor (k := .u64) rfl (ve &&& vf) ((18446744073709551615 - ve) &&& vg) (Nat.lt_of_le_of_lt (Nat.and_le_left) hW.2.2.2.2.1) (Nat.lt_of_le_of_lt (Nat.and_le_left) (Nat.lt_of_le_of_lt (Nat.sub_le _ _) (by decide))) rfl rfl)) ?_
          refine .plain rfl (Pl_y rfl (fun w hBw => Yu_add (k := .u64) rfl ((vh + x121) % 18446744073709551616) ((ve &&& vf) ^^^ ((18446744073709551615 - ve) &&& vg)) rfl rfl)) ?_
          refine .plain rfl (Pl_y rfl (fun w hBw => congrArg (fun v => Result.ok (Next.value v) w) e_7_2)) ?_
          refine .plain rfl (Pl_y rfl (fun w hBw => congrArg (fun v => Result.ok (Next.value v) w) e_7_111)) ?_
          refine .plain rfl (Pl_y rfl (fun w hBw => Y_nil rfl)) ?_
          refine .plain rfl (Pl_y rfl (fun w hBw => Y_idxA t t T_arr49 rfl rfl rfl (by omega) (zz1 _))) ?_
          refine .plain rfl (Pl_y rfl (fun w hBw => Y_ldb T_scal31 (hBw.oldB hk (by simp)) rfl (ua_get hx146))) ?_
          refine .plain rfl (Pl_y rfl (fun w hBw => Yu_add (k := .u64) rfl ((((vh + x121) % 18446744073709551616) + ((ve &&& vf) ^^^ ((18446744073709551615 - ve) &&& vg))) % 18446744073709551616) x146 rfl rfl)) ?_
          refine .plain rfl (Pl_y rfl (fun w hBw => congrArg (fun v => Result.ok (Next.value v) w) e_7_111)) ?_
          refine .plain rfl (Pl_y rfl (fun w hBw => Y_idxA t t T_arr49 e_7_7 rfl rfl (by omega) (zz1 _))) ?_
          refine .plain rfl (Pl_y rfl (fun w hBw => Y_ld T_scal31 hBw (i := 0) rfl rfl (ua_get hx150))) ?_
          exact .nil _
        ·
          intro e_8 w_23 hAg H_28
          have e_8_2 : e_8 2 = Value.pointer (some ⟨kb, 0, none⟩) := (hAg 2 rfl).trans e_7_2
          have e_8_3 : e_8 3 = Value.pointer (some ⟨bk3, 0, none⟩) := (hAg 3 rfl).trans e_7_3
          have e_8_6 : e_8 6 = Value.pointer (some ⟨bk6, 0, none⟩) := (hAg 6 rfl).trans e_7_6
          have e_8_7 : e_8 7 = Value.pointer (some ⟨bk7, 0, none⟩) := (hAg 7 rfl).trans e_7_7
          have e_8_15 : e_8 15 = Value.int .u64 ((va : Nat) : Int) := (hAg 15 rfl).trans e_7_15
          have e_8_16 : e_8 16 = Value.int .u64 ((vb : Nat) : Int) := (hAg 16 rfl).trans e_7_16
          have e_8_17 : e_8 17 = Value.int .u64 ((vc : Nat) : Int) := (hAg 17 rfl).trans e_7_17
          have e_8_18 : e_8 18 = Value.int .u64 ((vd : Nat) : Int) := (hAg 18 rfl).trans e_7_18
          have e_8_19 : e_8 19 = Value.int .u64 ((ve : Nat) : Int) := (hAg 19 rfl).trans e_7_19
          have e_8_20 : e_8 20 = Value.int .u64 ((vf : Nat) : Int) := (hAg 20 rfl).trans e_7_20
          have e_8_21 : e_8 21 = Value.int .u64 ((vg : Nat) : Int) := (hAg 21 rfl).trans e_7_21
          have e_8_25 : e_8 25 = Value.int .u64 ((x129 : Nat) : Int) := (hAg 25 rfl).trans rfl
          have e_8_111 : e_8 111 = Value.int .i64 ((t : Nat) : Int) := (hAg 111 rfl).trans e_7_111
          obtain ⟨x147, hx147⟩ : ∃ z_ : Nat, z_ = (((((vh + x121) % 18446744073709551616) + ((ve &&& vf) ^^^ ((18446744073709551615 - ve) &&& vg))) % 18446744073709551616) + x146) % 18446744073709551616 := ⟨_, rfl⟩
          have rx147 : x147 < 18446744073709551616 := by rw [hx147]; exact (Nat.mod_lt _ (by decide))
          have e_8_147 : e_8 147 = Value.int .u64 ((x147 : Nat) : Int) := (hAg 147 rfl).trans (by rw [hx147]; exact rfl)
          have e_8_150 : e_8 150 = Value.int .u64 ((x150 : Nat) : Int) := (hAg 150 rfl).trans rfl
          refine L_yr (z := (x147 + x150) % 18446744073709551616) (m := 18446744073709551616) rfl (Yu_add (k := .u64) rfl x147 x150 e_8_147 e_8_150) (Nat.mod_lt _ (by decide)) ?_; intro x151 hx151 rx151
          refine L_as rfl ?_
          refine L_nil ?_
          refine Th_n ?_
          refine W_seq ?_
          refine W_rg ?_
          refine L_mv rfl ?_
          refine L_mv rfl ?_
          refine L_mv rfl ?_
          refine L_yr (z := va &&& vb) (m := 18446744073709551616) rfl (Yu_and (k := .u64) rfl va vb hW.1 hW.2.1 e_8_15 e_8_16) (Nat.lt_of_le_of_lt (Nat.and_le_left) hW.1) ?_; intro x155 hx155 rx155
          refine L_mv rfl ?_
          refine L_mv rfl ?_
          refine L_yr (z := va &&& vc) (m := 18446744073709551616) rfl (Yu_and (k := .u64) rfl va vc hW.1 hW.2.2.1 e_8_15 e_8_17) (Nat.lt_of_le_of_lt (Nat.and_le_left) hW.1) ?_; intro x158 hx158 rx158
          refine L_yr (z := x155 ^^^ x158) (m := 18446744073709551616) rfl (Yu_xor (k := .u64) rfl x155 x158 rx155 rx158 rfl rfl) (Nat.xor_lt_two_pow (n := 64) rx155 rx158) ?_; intro x159 hx159 rx159
          refine L_mv rfl ?_
          refine L_mv rfl ?_
          refine L_yr (z := vb &&& vc) (m := 18446744073709551616) rfl (Yu_and (k := .u64) rfl vb vc hW.2.1 hW.2.2.1 e_8_16 e_8_17) (Nat.lt_of_le_of_lt (Nat.and_le_left) hW.2.1) ?_; intro x162 hx162 rx162
          refine L_yr (z := x159 ^^^ x162) (m := 18446744073709551616) rfl (Yu_xor (k := .u64) rfl x159 x162 rx159 rx162 rfl rfl) (Nat.xor_lt_two_pow (n := 64) rx159 rx162) ?_; intro x163 hx163 rx163
          refine L_yr (z := (x129 + x163) % 18446744073709551616) (m := 18446744073709551616) rfl (Yu_add (k := .u64) rfl x129 x163 e_8_25 rfl) (Nat.mod_lt _ (by decide)) ?_; intro x164 hx164 rx164
          refine L_as rfl ?_
          refine L_nil ?_
          refine Th_n ?_
          refine W_rg ?_
          refine L_mv rfl ?_
          refine L_mv rfl ?_
          refine L_yr (z := (x151 + x164) % 18446744073709551616) (m := 18446744073709551616) rfl (Yu_add (k := .u64) rfl x151 x164 rfl rfl) (Nat.mod_lt _ (by decide)) ?_; intro x167 hx167 rx167
          refine L_mv rfl ?_
          refine L_mv rfl ?_
          refine L_mv rfl ?_
          refine L_mv rfl ?_
          refine L_mv rfl ?_
          refine L_yr (z := (vd + x151) % 18446744073709551616) (m := 18446744073709551616) rfl (Yu_add (k := .u64) rfl vd x151 e_8_18 rfl) (Nat.mod_lt _ (by decide)) ?_; intro x173 hx173 rx173
          refine L_mv rfl ?_
          refine L_mv rfl ?_
          refine L_mv rfl ?_
          refine L_as rfl ?_
          refine L_as rfl ?_
          refine L_as rfl ?_
          refine L_as rfl ?_
          refine L_as rfl ?_
          refine L_as rfl ?_
          refine L_as rfl ?_
          refine L_as rfl ?_
          refine L_nil ?_
          refine InB_n ?_
          refine Th_n ?_
          refine W_rg ?_
          refine L_y rfl (Y_add (k := .i64) (a := ((t : Nat) : Int)) (b := ((1 : Nat) : Int)) (z := ((t + 1 : Nat) : Int)) e_8_111 rfl (wi (by omega))) ?_
          refine L_mv rfl ?_
          refine L_nil ?_
          refine Th_n ⟨_, ?_, t + 1, x167, va, vb, vc, x173, ve, vf, vg, rfl, e_8_2, e_8_3, e_8_6, e_8_7, rfl, e_8_15, e_8_16, e_8_17, rfl, e_8_19, e_8_20, e_8_21, rfl, H_28, (by omega), (Sm.step512 (m1 := x121) (m0 := x129) hV (Sm.get_of hx146) (Sm.get_of hx150) (by rw [hx121, hx118, hr115, hr117, hr120]) (by rw [hx129, hx126, hr123, hr125, hr128]) (hx151.trans (by rw [hx147])) (hx164.trans (by rw [hx163, hx159, hx155, hx158, hx162])) hx167 hx173), ⟨rx167, hW.1, hW.2.1, hW.2.2.1, rx173, hW.2.2.2.2.1, hW.2.2.2.2.2.1, hW.2.2.2.2.2.2.1⟩⟩
          omega
      ·
        have hc_4' := of_decide_eq_false hc_4
        refine W_exit ?_
        refine Th_x ?_
        refine Th_x ?_
        refine InB_hit ?_
        refine Th_n ?_
        refine W_seq ?_
        refine W_rg ?_
        refine L_y rfl (Y_idxA 0 0 T_arr50 e_7_3 rfl rfl (by decide) (zz1 _)) ?_
        refine L_y rfl (Y_ld T_scal31 H_21 (i := 2) rfl rfl rfl) ?_
        refine L_mv rfl ?_
        refine L_yr (z := (S.a + va) % 18446744073709551616) (m := 18446744073709551616) rfl (Yu_add (k := .u64) rfl S.a va rfl e_7_15) (Nat.mod_lt _ (by decide)) ?_; intro x181 hx181 rx181
        refine L_y rfl (Y_idxA 1 1 T_arr50 e_7_3 rfl rfl (by decide) (zz1 _)) ?_
        refine L_y rfl (Y_ld T_scal31 H_21 (i := 2) rfl rfl rfl) ?_
        refine L_mv rfl ?_
        refine L_yr (z := (S.b + vb) % 18446744073709551616) (m := 18446744073709551616) rfl (Yu_add (k := .u64) rfl S.b vb rfl e_7_16) (Nat.mod_lt _ (by decide)) ?_; intro x185 hx185 rx185
        refine L_y rfl (Y_idxA 2 2 T_arr50 e_7_3 rfl rfl (by decide) (zz1 _)) ?_
        refine L_y rfl (Y_ld T_scal31 H_21 (i := 2) rfl rfl rfl) ?_
        refine L_mv rfl ?_
        refine L_yr (z := (S.c + vc) % 18446744073709551616) (m := 18446744073709551616) rfl (Yu_add (k := .u64) rfl S.c vc rfl e_7_17) (Nat.mod_lt _ (by decide)) ?_; intro x189 hx189 rx189
        refine L_y rfl (Y_idxA 3 3 T_arr50 e_7_3 rfl rfl (by decide) (zz1 _)) ?_
        refine L_y rfl (Y_ld T_scal31 H_21 (i := 2) rfl rfl rfl) ?_
        refine L_mv rfl ?_
        refine L_yr (z := (S.d + vd) % 18446744073709551616) (m := 18446744073709551616) rfl (Yu_add (k := .u64) rfl S.d vd rfl e_7_18) (Nat.mod_lt _ (by decide)) ?_; intro x193 hx193 rx193
        refine L_y rfl (Y_idxA 4 4 T_arr50 e_7_3 rfl rfl (by decide) (zz1 _)) ?_
        refine L_y rfl (Y_ld T_scal31 H_21 (i := 2) rfl rfl rfl) ?_
        refine L_mv rfl ?_
        refine L_yr (z := (S.e + ve) % 18446744073709551616) (m := 18446744073709551616) rfl (Yu_add (k := .u64) rfl S.e ve rfl e_7_19) (Nat.mod_lt _ (by decide)) ?_; intro x197 hx197 rx197
        refine L_y rfl (Y_idxA 5 5 T_arr50 e_7_3 rfl rfl (by decide) (zz1 _)) ?_
        refine L_y rfl (Y_ld T_scal31 H_21 (i := 2) rfl rfl rfl) ?_
        refine L_mv rfl ?_
        refine L_yr (z := (S.f + vf) % 18446744073709551616) (m := 18446744073709551616) rfl (Yu_add (k := .u64) rfl S.f vf rfl e_7_20) (Nat.mod_lt _ (by decide)) ?_; intro x201 hx201 rx201
        refine L_y rfl (Y_idxA 6 6 T_arr50 e_7_3 rfl rfl (by decide) (zz1 _)) ?_
        refine L_y rfl (Y_ld T_scal31 H_21 (i := 2) rfl rfl rfl) ?_
        refine L_mv rfl ?_
        refine L_yr (z := (S.g + vg) % 18446744073709551616) (m := 18446744073709551616) rfl (Yu_add (k := .u64) rfl S.g vg rfl e_7_21) (Nat.mod_lt _ (by decide)) ?_; intro x205 hx205 rx205
        refine L_y rfl (Y_idxA 7 7 T_arr50 e_7_3 rfl rfl (by decide) (zz1 _)) ?_
        refine L_y rfl (Y_ld T_scal31 H_21 (i := 2) rfl rfl rfl) ?_
        refine L_mv rfl ?_
        refine L_yr (z := (S.h + vh) % 18446744073709551616) (m := 18446744073709551616) rfl (Yu_add (k := .u64) rfl S.h vh rfl e_7_22) (Nat.mod_lt _ (by decide)) ?_; intro x209 hx209 rx209
        refine L_y rfl (Y_build (pv := [(0, Value.int .u64 ((x181 : Nat) : Int)), (1, Value.int .u64 ((x185 : Nat) : Int)), (2, Value.int .u64 ((x189 : Nat) : Int)), (3, Value.int .u64 ((x193 : Nat) : Int)), (4, Value.int .u64 ((x197 : Nat) : Int)), (5, Value.int .u64 ((x201 : Nat) : Int)), (6, Value.int .u64 ((x205 : Nat) : Int)), (7, Value.int .u64 ((x209 : Nat) : Int))]) (cs := ua .u64 [x181, x185, x189, x193, x197, x201, x205, x209]) (Bpc rfl (Bpc rfl (Bpc rfl (Bpc rfl (Bpc rfl (Bpc rfl (Bpc rfl (Bpc rfl Bp0)))))))) (by kernel_rfl)) ?_
        refine L_str (ds := ua .u64 [x181, x185, x189, x193, x197, x201, x205, x209]) T_row50 H_21 (i := 1) rfl e_7_6 rfl rfl rfl (ua_one _ _) (l' := [Ent.blk bk7 49 (ua .u64 (Sm.sched Sm.k512 l 80)), Ent.blk bk6 50 (ua .u64 [x181, x185, x189, x193, x197, x201, x205, x209]), Ent.blk bk3 50 (ua .u64 [S.a, S.b, S.c, S.d, S.e, S.f, S.g, S.h])]) rfl ?_; intro w_24 H_29
        refine L_nil ?_
        refine Th_n ?_
        refine W_ret ?_
        refine P_ret (vs := [Value.agg (ua .u64 [x181, x185, x189, x193, x197, x201, x205, x209])]) (v := Value.agg (ua .u64 [x181, x185, x189, x193, x197, x201, x205, x209])) rfl (.cell e_7_6 (loadVar_row T_row50 H_29 (i := 1) rfl rfl) (Res.nil)) rfl ?_
        refine ⟨?_, H_29.nil_⟩
        obtain rfl : t = 80 := by omega
        rw [Sm.comp, show Sm.k512.n = 80 from rfl, ← hV, hx181, hx185, hx189, hx193, hx197, hx201, hx205, hx209]
        rfl
end Go.Proofs.Ytdccphfaeockpaa
