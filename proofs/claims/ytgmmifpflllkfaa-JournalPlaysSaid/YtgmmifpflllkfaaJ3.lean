/- Walks of layers 6, 17, 21, 22: S9512, S11, nil, writer, clone, done, none, take, fail. Printed by journal.py. -/
import Derived.Test.YtgmmifpflllkfaaJ2
import Derived.Test.YtgmmifpflllkfaaV18
import Derived.Test.YtgmmifpflllkfaaPackMath
import Derived.Test.YtgmmifpflllkfaaReadMath
namespace Go.Proofs.Ytgmmifpflllkfaa
open Go.Ev
set_option maxRecDepth 100000
theorem V8wr512 (F : List Nat) (j : Nat) : Wd 8 18446744073709551616 (Sm.run Sm.k512 F j).l := ⟨rfl, Sm.V8.ltl (Sm.run_lt Sm.lt512 F j)⟩
theorem hsw512 {t : Nat} (h : t ≤ 8) : Wd 8 18446744073709551616 ((Sm.V8.of Sm.k512.hs).l.take t ++ List.replicate (8 - t) 0) :=
  ⟨by rw [List.length_append, List.length_take, show (Sm.V8.of Sm.k512.hs).l.length = 8 from rfl, List.length_replicate]; omega, app_lt (fun u hu => (by decide : ∀ u ∈ (Sm.V8.of Sm.k512.hs).l, u < 18446744073709551616) u (List.mem_of_mem_take hu)) (fun u hu => by rw [(List.mem_replicate.1 hu).2]; decide)⟩

theorem rsum512_n (a : Option Addr) (n c : Nat) (l : List Nat) (hl : ∀ u ∈ l, u < 256) (hn : n ≤ 16777216) (w0 : World) (hb : Sl w0 .u8 a n c l) :
    Calls Try.prog 49 #[Value.agg (ua .i64 [64, 80, 28, 34, 39, 14, 18, 41, 1, 8, 7, 19, 61, 6]), Value.slice a n c] w0 (fun r_ w' => ∃ a_ M_ c_, r_ = .returned (.slice a_ M_ c_) ∧ Hp w0 [] w' [.own (.slice a_ M_ c_) 5 1 M_ (us .u8 (Sm.sum Sm.k512 l))]) := by
  refine F_in Try.func49 rfl Try.ntmps49 rfl ?_
  intro e he
  have p_0 : e 0 = Value.agg (ua .i64 [64, 80, 28, 34, 39, 14, 18, 41, 1, 8, 7, 19, 61, 6]) := he 0 _ rfl
  have p_1 : e 1 = Value.slice a n c := he 1 _ rfl
  have H := Hp.start w0 []
  refine W_seq ?_
  refine W_rg ?_
  refine L_box rfl H p_0 (cs := ua .i64 [64, 80, 28, 34, 39, 14, 18, 41, 1, 8, 7, 19, 61, 6]) rfl ?_; intro bk2 w_2 H_2
  refine L_as rfl ?_
  refine L_nil ?_
  refine Th_n ?_
  refine W_seq ?_
  refine W_rg ?_
  refine L_y rfl (Y_fld T_fld87_0 rfl rfl rfl) ?_
  refine L_y rfl (Y_ld T_scal3 H_2 (i := 0) rfl rfl rfl) ?_
  refine L_y rfl (Y_quo (k := .i64) (a := ((64 : Nat) : Int)) (b := ((8 : Nat) : Int)) (z := ((8 : Nat) : Int)) rfl rfl (by decide) (by decide)) ?_
  refine L_as rfl ?_
  refine L_nil ?_
  refine Th_n ?_
  refine W_seq ?_
  refine W_rg ?_
  refine L_alloc rfl H_2 T_zero94 ?_; intro bk6 w_3 H_3
  refine L_nil ?_
  refine Th_n ?_
  refine W_seq ?_
  refine W_seq ?_
  refine W_rg ?_
  refine L_as rfl ?_
  refine L_nil ?_
  refine Th_n ?_
  refine W_block ?_
  refine W_loop (fun mu_ e w => ∃ i : Nat, mu_ = 8 - i ∧ e 1 = Value.slice a n c ∧ e 2 = Value.pointer (some ⟨bk2, 0, none⟩) ∧ e 5 = Value.int .i64 ((8 : Nat) : Int) ∧ e 6 = Value.pointer (some ⟨bk6, 0, none⟩) ∧ e 7 = Value.int .i64 ((i : Nat) : Int) ∧ Hp w0 [] w [Ent.blk bk6 94 (ua .u64 ((Sm.V8.of Sm.k512.hs).l.take i ++ List.replicate (8 - i) 0)), Ent.blk bk2 87 (ua .i64 [64, 80, 28, 34, 39, 14, 18, 41, 1, 8, 7, 19, 61, 6])] ∧ i ≤ 8) _ ⟨0, rfl, p_1, rfl, rfl, rfl, rfl, H_3, (Nat.zero_le _)⟩ ?_
  rintro mu_ e_2 w_4 ⟨i, rfl, e_2_1, e_2_2, e_2_5, e_2_6, e_2_7, H_4, hi⟩
  refine W_seq ?_
  refine W_seq ?_
  refine W_rg ?_
  refine L_mv rfl ?_
  refine L_y rfl (Y_lss (k := .i64) (a := ((i : Nat) : Int)) (b := ((8 : Nat) : Int)) e_2_7 rfl) ?_
  refine L_nil ?_
  refine Th_n ?_
  refine W_cond (b := (decide (((i : Nat) : Int) < ((8 : Nat) : Int)))) rfl (fun hc => ?_) (fun hc => ?_)
  ·
    have hc' := of_decide_eq_true hc
    refine W_skip ?_
    refine Th_n ?_
    refine W_seq ?_
    refine W_block ?_
    refine W_quiet H_4 7 [Value.int .i64 ((i : Nat) : Int), Value.int .i64 ((i : Nat) : Int), Value.int .u64 (((Sm.k512.hs.getD i 0) : Nat) : Int), Value.pointer (some ⟨bk2, 0, none⟩), Value.int .i64 ((64 : Nat) : Int), Value.int .i64 ((0 : Nat) : Int), Value.int .u64 (((Sm.k512.hs.getD i 0) / 2 ^ 0 : Nat) : Int)] T_mixed (by kernel_rfl) ?_ ?_
    ·
      refine .plain rfl (Pl_y rfl (fun w hBw => congrArg (fun v => Result.ok (Next.value v) w) e_2_7)) ?_
      refine .plain rfl (Pl_y rfl (fun w hBw => congrArg (fun v => Result.ok (Next.value v) w) e_2_7)) ?_
      refine .plain rfl (Pl_c rfl T_en52 (A1 rfl) (fun w hBw => begin_n i (by omega) _)) ?_
      refine .plain rfl (Pl_y rfl (fun w hBw => Y_fld T_fld87_0 rfl e_2_2 rfl)) ?_
      refine .plain rfl (Pl_y rfl (fun w hBw => Y_ld T_scal3 hBw (i := 1) rfl rfl rfl)) ?_
      refine .plain rfl (Pl_y rfl (fun w hBw => Y_sub (k := .i64) (a := ((64 : Nat) : Int)) (b := ((64 : Nat) : Int)) (z := ((0 : Nat) : Int)) rfl rfl (by decide))) ?_
      refine .plain rfl (Pl_y rfl (fun w hBw => Yu_shr (k := .u64) (Sm.k512.hs.getD i 0) 0 (Sm.hs_lt _) rfl rfl)) ?_
      exact .nil _
    ·
      intro e_3 w_5 hAg H_5
      have e_3_1 : e_3 1 = Value.slice a n c := (hAg 1 rfl).trans e_2_1
      have e_3_2 : e_3 2 = Value.pointer (some ⟨bk2, 0, none⟩) := (hAg 2 rfl).trans e_2_2
      have e_3_5 : e_3 5 = Value.int .i64 ((8 : Nat) : Int) := (hAg 5 rfl).trans e_2_5
      have e_3_6 : e_3 6 = Value.pointer (some ⟨bk6, 0, none⟩) := (hAg 6 rfl).trans e_2_6
      have e_3_7 : e_3 7 = Value.int .i64 ((i : Nat) : Int) := (hAg 7 rfl).trans e_2_7
      have e_3_32 : e_3 32 = Value.int .i64 ((i : Nat) : Int) := (hAg 32 rfl).trans rfl
      obtain ⟨x38, hx38⟩ : ∃ z_ : Nat, z_ = (Sm.k512.hs.getD i 0) / 2 ^ 0 := ⟨_, rfl⟩
      have rx38 : x38 < 18446744073709551616 := by rw [hx38]; exact (Nat.lt_of_le_of_lt (Nat.div_le_self _ _) (Sm.hs_lt _))
      have e_3_38 : e_3 38 = Value.int .u64 ((x38 : Nat) : Int) := (hAg 38 rfl).trans (by rw [hx38]; exact rfl)
      refine L_y rfl (Y_idxA i i T_arr94 e_3_6 e_3_32 rfl (by omega) (zz1 _)) ?_
      refine L_st (v := Value.int .u64 ((x38 : Nat) : Int)) T_scal42 H_5 (i := 0) rfl rfl e_3_38 rfl (by rw [ua_size]; have := (hsw512 hi).1; omega) (l' := [Ent.blk bk6 94 (ua .u64 (((Sm.V8.of Sm.k512.hs).l.take i ++ List.replicate (8 - i) 0).set i x38)), Ent.blk bk2 87 (ua .i64 [64, 80, 28, 34, 39, 14, 18, 41, 1, 8, 7, 19, 61, 6])]) (by rw [ua_set]; rfl) ?_; intro w_6 H_6
      refine L_nil ?_
      refine InB_n ?_
      refine Th_n ?_
      refine W_rg ?_
      refine L_mv rfl ?_
      refine L_y rfl (Y_add (k := .i64) (a := ((i : Nat) : Int)) (b := ((1 : Nat) : Int)) (z := ((i + 1 : Nat) : Int)) e_3_7 rfl (wi (by omega))) ?_
      refine L_as rfl ?_
      refine L_nil ?_
      have H_7 : Hp w0 [] w_6 [Ent.blk bk6 94 (ua .u64 ((Sm.V8.of Sm.k512.hs).l.take (i + 1) ++ List.replicate (8 - (i + 1)) 0)), Ent.blk bk2 87 (ua .i64 [64, 80, 28, 34, 39, 14, 18, 41, 1, 8, 7, 19, 61, 6])] := by have h := H_6; rw [Sm.take_set (n := 8) (by omega) rfl (by rw [hx38]; exact Sm.hs_get512 i (by omega))] at h; exact h
      refine Th_n ⟨_, ?_, i + 1, rfl, e_3_1, e_3_2, e_3_5, e_3_6, rfl, H_7, (by omega)⟩
      omega
  ·
    have hc' := of_decide_eq_false hc
    refine W_exit ?_
    refine Th_x ?_
    refine Th_x ?_
    obtain rfl : i = 8 := by omega
    have H_8 : Hp w0 [] w_4 [Ent.blk bk6 94 (ua .u64 ((Sm.run Sm.k512 (Sm.full Sm.k512 l) 0).l)), Ent.blk bk2 87 (ua .i64 [64, 80, 28, 34, 39, 14, 18, 41, 1, 8, 7, 19, 61, 6])] := by have h := H_4; exact h
    refine InB_hit ?_
    refine Th_n ?_
    refine W_seq ?_
    refine W_rg ?_
    refine L_y rfl (Y_ldr T_row87 H_8 (i := 1) rfl e_2_2 rfl) ?_
    refine L_mv rfl ?_
    refine L_callv rfl rfl T_en53 (A2 rfl e_2_1) (full512_n _ _ _ l hl hn _ (hb.hp H_8)) ?_
    rintro _ w_7 ⟨fa42, fM42, fc42, rfl, hkp⟩; refine ⟨_, rfl, ?_⟩; have H_9 := H_8.more hkp
    refine L_as rfl ?_
    refine L_nil ?_
    refine Th_n ?_
    refine W_seq ?_
    refine W_seq ?_
    refine W_rg ?_
    refine L_as rfl ?_
    refine L_nil ?_
    refine Th_n ?_
    refine W_block ?_
    have hrl := (Sl.own H_9 (i := 0) rfl).len
    have hrM := Sm.full_mod (q := Sm.k512) (by decide) l
    rw [hrl, show 16 * Sm.size Sm.k512 = 128 from rfl] at hrM
    have hfM : fM42 ≤ 16777472 := by have h1 := hrl; rw [Sm.full, List.length_append, hb.len, Sm.pad_len, show 2 * Sm.size Sm.k512 = 16 from rfl] at h1; have h2 := Sm.fill512_lt n; omega
    refine W_loop (fun mu_ e w => ∃ j : Nat, mu_ = fM42 - 128 * j ∧ e 2 = Value.pointer (some ⟨bk2, 0, none⟩) ∧ e 5 = Value.int .i64 ((8 : Nat) : Int) ∧ e 6 = Value.pointer (some ⟨bk6, 0, none⟩) ∧ e 8 = Value.slice fa42 fM42 fc42 ∧ e 9 = Value.int .i64 ((128 * j : Nat) : Int) ∧ Hp w0 [] w [Ent.own (Value.slice fa42 fM42 fc42) 5 1 fM42 (us .u8 (Sm.full Sm.k512 l)), Ent.blk bk6 94 (ua .u64 ((Sm.run Sm.k512 (Sm.full Sm.k512 l) j).l)), Ent.blk bk2 87 (ua .i64 [64, 80, 28, 34, 39, 14, 18, 41, 1, 8, 7, 19, 61, 6])] ∧ 128 * j ≤ fM42) _ ⟨0, rfl, e_2_2, e_2_5, e_2_6, rfl, rfl, H_9, (Nat.zero_le _)⟩ ?_
    rintro mu_ e_4 w_8 ⟨j, rfl, e_4_2, e_4_5, e_4_6, e_4_8, e_4_9, H_10, hj⟩
    refine W_seq ?_
    refine W_seq ?_
    refine W_rg ?_
    refine L_mv rfl ?_
    refine L_mv rfl ?_
    refine L_y rfl (Y_lenS T_sl22 e_4_8) ?_
    refine L_y rfl (Y_lss (k := .i64) (a := ((128 * j : Nat) : Int)) (b := ((fM42 : Nat) : Int)) e_4_9 rfl) ?_
    refine L_nil ?_
    refine Th_n ?_
    refine W_cond (b := (decide (((128 * j : Nat) : Int) < ((fM42 : Nat) : Int)))) rfl (fun hc_2 => ?_) (fun hc_2 => ?_)
    ·
      have hc_2' := of_decide_eq_true hc_2
      refine W_skip ?_
      refine Th_n ?_
      refine W_seq ?_
      refine W_block ?_
      refine W_seq ?_
      refine W_rg ?_
      refine L_as rfl ?_
      have H_11 : Hp w0 [] w_8 [Ent.own (Value.slice none 0 0) 42 1 0 (us .u64 []), Ent.own (Value.slice fa42 fM42 fc42) 5 1 fM42 (us .u8 (Sm.full Sm.k512 l)), Ent.blk bk6 94 (ua .u64 ((Sm.run Sm.k512 (Sm.full Sm.k512 l) j).l)), Ent.blk bk2 87 (ua .i64 [64, 80, 28, 34, 39, 14, 18, 41, 1, 8, 7, 19, 61, 6])] := H_10.nilOwn 42 1
      refine L_nil ?_
      refine Th_n ?_
      refine W_seq ?_
      refine W_seq ?_
      refine W_rg ?_
      refine L_as rfl ?_
      refine L_nil ?_
      refine Th_n ?_
      refine W_block ?_
      have hB : ∀ u ∈ ((Sm.full Sm.k512 l).drop (128 * j)).take 128, u < 256 := fun u hu => Sm.full_lt hl u (List.mem_of_mem_drop (List.mem_of_mem_take hu))
      refine W_loop (fun mu_ e w => ∃ t : Nat, ∃ vW : Value, mu_ = 80 - t ∧ e 2 = Value.pointer (some ⟨bk2, 0, none⟩) ∧ e 5 = Value.int .i64 ((8 : Nat) : Int) ∧ e 6 = Value.pointer (some ⟨bk6, 0, none⟩) ∧ e 8 = Value.slice fa42 fM42 fc42 ∧ e 9 = Value.int .i64 ((128 * j : Nat) : Int) ∧ e 10 = vW ∧ e 11 = Value.int .i64 ((t : Nat) : Int) ∧ Hp w0 [] w [Ent.own vW 42 1 t (us .u64 (Sm.sched Sm.k512 (((Sm.full Sm.k512 l).drop (128 * j)).take 128) t)), Ent.own (Value.slice fa42 fM42 fc42) 5 1 fM42 (us .u8 (Sm.full Sm.k512 l)), Ent.blk bk6 94 (ua .u64 ((Sm.run Sm.k512 (Sm.full Sm.k512 l) j).l)), Ent.blk bk2 87 (ua .i64 [64, 80, 28, 34, 39, 14, 18, 41, 1, 8, 7, 19, 61, 6])] ∧ t ≤ 80) _ ⟨0, Value.slice none 0 0, rfl, e_4_2, e_4_5, e_4_6, e_4_8, e_4_9, rfl, rfl, H_11, (Nat.zero_le _)⟩ ?_
      rintro mu_ e_5 w_9 ⟨t, vW, rfl, e_5_2, e_5_5, e_5_6, e_5_8, e_5_9, e_5_10, e_5_11, H_12, ht⟩
      refine W_seq ?_
      refine W_seq ?_
      refine W_rg ?_
      refine L_mv rfl ?_
      refine L_y rfl (Y_fld T_fld87_1 rfl e_5_2 rfl) ?_
      refine L_y rfl (Y_ld T_scal3 H_12 (i := 3) rfl rfl rfl) ?_
      refine L_y rfl (Y_lss (k := .i64) (a := ((t : Nat) : Int)) (b := ((80 : Nat) : Int)) e_5_11 rfl) ?_
      refine L_nil ?_
      refine Th_n ?_
      refine W_cond (b := (decide (((t : Nat) : Int) < ((80 : Nat) : Int)))) rfl (fun hc_3 => ?_) (fun hc_3 => ?_)
      ·
        have hc_3' := of_decide_eq_true hc_3
        refine W_skip ?_
        refine Th_n ?_
        refine W_seq ?_
        refine W_block ?_
        refine W_seq ?_
        refine W_rg ?_
        refine L_as rfl ?_
        refine L_nil ?_
        refine Th_n ?_
        refine W_seq ?_
        refine W_seq ?_
        refine W_rg ?_
        refine L_mv rfl ?_
        refine L_y rfl (Y_lss (k := .i64) (a := ((t : Nat) : Int)) (b := ((16 : Nat) : Int)) e_5_11 rfl) ?_
        refine L_nil ?_
        refine Th_n ?_
        refine W_cond (b := (decide (((t : Nat) : Int) < ((16 : Nat) : Int)))) rfl (fun hc_4 => ?_) (fun hc_4 => ?_)
        ·
          have hc_4' := of_decide_eq_true hc_4
          refine W_seq ?_
          refine W_rg ?_
          refine L_as rfl ?_
          refine L_nil ?_
          refine Th_n ?_
          refine W_block ?_
          refine W_loop (fun mu_ e w => ∃ i : Nat, ∃ xb : Nat, mu_ = 8 - i ∧ e 2 = Value.pointer (some ⟨bk2, 0, none⟩) ∧ e 5 = Value.int .i64 ((8 : Nat) : Int) ∧ e 6 = Value.pointer (some ⟨bk6, 0, none⟩) ∧ e 8 = Value.slice fa42 fM42 fc42 ∧ e 9 = Value.int .i64 ((128 * j : Nat) : Int) ∧ e 10 = vW ∧ e 11 = Value.int .i64 ((t : Nat) : Int) ∧ e 12 = Value.int .u64 ((xb : Nat) : Int) ∧ e 13 = Value.int .i64 ((i : Nat) : Int) ∧ Hp w0 [] w [Ent.own vW 42 1 t (us .u64 (Sm.sched Sm.k512 (((Sm.full Sm.k512 l).drop (128 * j)).take 128) t)), Ent.own (Value.slice fa42 fM42 fc42) 5 1 fM42 (us .u8 (Sm.full Sm.k512 l)), Ent.blk bk6 94 (ua .u64 ((Sm.run Sm.k512 (Sm.full Sm.k512 l) j).l)), Ent.blk bk2 87 (ua .i64 [64, 80, 28, 34, 39, 14, 18, 41, 1, 8, 7, 19, 61, 6])] ∧ i ≤ 8 ∧ xb = Sm.be (((((Sm.full Sm.k512 l).drop (128 * j)).take 128).drop (t * Sm.size Sm.k512)).take i)) _ ⟨0, 0, rfl, e_5_2, e_5_5, e_5_6, e_5_8, e_5_9, e_5_10, e_5_11, rfl, rfl, H_12, (Nat.zero_le _), (by rw [List.take_zero]; rfl)⟩ ?_
          rintro mu_ e_6 w_10 ⟨i, xb, rfl, e_6_2, e_6_5, e_6_6, e_6_8, e_6_9, e_6_10, e_6_11, e_6_12, e_6_13, H_13, hi, hxb⟩
          refine W_seq ?_
          refine W_seq ?_
          refine W_rg ?_
          refine L_mv rfl ?_
          refine L_mv rfl ?_
          refine L_y rfl (Y_lss (k := .i64) (a := ((i : Nat) : Int)) (b := ((8 : Nat) : Int)) e_6_13 e_6_5) ?_
          refine L_nil ?_
          refine Th_n ?_
          refine W_cond (b := (decide (((i : Nat) : Int) < ((8 : Nat) : Int)))) rfl (fun hc_5 => ?_) (fun hc_5 => ?_)
          ·
            have hc_5' := of_decide_eq_true hc_5
            refine W_skip ?_
            refine Th_n ?_
            refine W_seq ?_
            refine W_block ?_
            refine W_rg ?_
            refine L_mv rfl ?_
            refine L_yr (z := xb * 256 % 18446744073709551616) (m := 18446744073709551616) rfl (Yu_mul (k := .u64) rfl xb 256 e_6_12 rfl) (Nat.mod_lt _ (by decide)) ?_; intro x65 hx65 rx65
            refine L_mv rfl ?_
            refine L_mv rfl ?_
            refine L_mv rfl ?_
            refine L_mv rfl ?_
            refine L_y rfl (Y_mul (k := .i64) (a := ((t : Nat) : Int)) (b := ((8 : Nat) : Int)) (z := ((t * 8 : Nat) : Int)) e_6_11 e_6_5 (wi (by omega))) ?_
            refine L_y rfl (Y_add (k := .i64) (a := ((128 * j : Nat) : Int)) (b := ((t * 8 : Nat) : Int)) (z := (((128 * j) + (t * 8) : Nat) : Int)) e_6_9 rfl (wi (by omega))) ?_
            refine L_mv rfl ?_
            refine L_y rfl (Y_add (k := .i64) (a := (((128 * j) + (t * 8) : Nat) : Int)) (b := ((i : Nat) : Int)) (z := ((((128 * j) + (t * 8)) + i : Nat) : Int)) rfl e_6_13 (wi (by omega))) ?_
            refine L_y rfl (Y_idxL (j := ((128 * j) + (t * 8)) + i) T_sl22 (Sl.own H_13 (i := 1) rfl) e_6_8 rfl rfl (by omega)) ?_
            have bx75 : ((128 * j) + (t * 8)) + i < (Sm.full Sm.k512 l).length := by have h9_ : (Sm.full Sm.k512 l).length = fM42 := (⟨(Sl.own H_13 (i := 1) rfl).len, (Sm.full_lt hl)⟩ : Wd fM42 256 (Sm.full Sm.k512 l)).1; rw [h9_]; omega
            obtain ⟨x75, hx75⟩ : ∃ u, (Sm.full Sm.k512 l)[((128 * j) + (t * 8)) + i]? = some u := ⟨_, List.getElem?_eq_getElem bx75⟩
            have rx75 := (⟨(Sl.own H_13 (i := 1) rfl).len, (Sm.full_lt hl)⟩ : Wd fM42 256 (Sm.full Sm.k512 l)).2 _ (List.mem_of_getElem? hx75)
            refine L_y rfl (Y_ldR T_scal5 (Sl.own H_13 (i := 1) rfl).rd rfl (hx75)) ?_
            refine L_y rfl (Y_convI (k := .u8) (n := ((x75 : Nat) : Int)) (z := ((x75 : Nat) : Int)) T_some5 T_kind42 rfl (wrapS rfl (by exact Nat.lt_of_lt_of_le rx75 (by decide)))) ?_
            refine L_yr (z := (x65 + x75) % 18446744073709551616) (m := 18446744073709551616) rfl (Yu_add (k := .u64) rfl x65 x75 rfl rfl) (Nat.mod_lt _ (by decide)) ?_; intro x77 hx77 rx77
            refine L_as rfl ?_
            refine L_nil ?_
            refine InB_n ?_
            refine Th_n ?_
            refine W_rg ?_
            refine L_mv rfl ?_
            refine L_y rfl (Y_add (k := .i64) (a := ((i : Nat) : Int)) (b := ((1 : Nat) : Int)) (z := ((i + 1 : Nat) : Int)) e_6_13 rfl (wi (by omega))) ?_
            refine L_as rfl ?_
            refine L_nil ?_
            refine Th_n ⟨_, ?_, i + 1, x77, rfl, e_6_2, e_6_5, e_6_6, e_6_8, e_6_9, e_6_10, e_6_11, rfl, rfl, H_13, (by omega), (Sm.be_ref (fun u hu => hB u (List.mem_of_mem_drop hu)) (by omega) (Sm.blk512 (by omega) (by omega) hx75) hxb hx65 hx77)⟩
            omega
          ·
            have hc_5' := of_decide_eq_false hc_5
            refine W_exit ?_
            refine Th_x ?_
            refine Th_x ?_
            refine InB_hit ?_
            refine Th_n ?_
            refine W_rg ?_
            refine L_mv rfl ?_
            refine L_mv rfl ?_
            refine L_bsl (cs := ua .u64 [xb]) rfl H_13 (pv := [(0, Value.int .u64 ((xb : Nat) : Int))]) T_sl95 T_zero42 rfl (Bpc e_6_12 Bp0) (by kernel_rfl) ?_; intro bk109 w_11 H_14
            refine L_appS rfl H_14 (i := 1) rfl T_sl95 T_zero42 rfl T_szb42 e_6_10 rfl (news_ua (H_14.get 0 rfl)) rfl (by omega) ?_; intro v110 w_12 Hx
            have H_15 : Hp w0 [] w_12 [Ent.blk bk109 42 (ua .u64 [xb]), Ent.own v110 42 1 (t + 1) (us .u64 ((Sm.sched Sm.k512 (((Sm.full Sm.k512 l).drop (128 * j)).take 128) t) ++ [xb])), Ent.own (Value.slice fa42 fM42 fc42) 5 1 fM42 (us .u8 (Sm.full Sm.k512 l)), Ent.blk bk6 94 (ua .u64 ((Sm.run Sm.k512 (Sm.full Sm.k512 l) j).l)), Ent.blk bk2 87 (ua .i64 [64, 80, 28, 34, 39, 14, 18, 41, 1, 8, 7, 19, 61, 6])] := Hx
            refine L_as rfl ?_
            refine L_nil ?_
            refine InB_n ?_
            refine Th_n ?_
            refine W_rg ?_
            refine L_mv rfl ?_
            refine L_y rfl (Y_add (k := .i64) (a := ((t : Nat) : Int)) (b := ((1 : Nat) : Int)) (z := ((t + 1 : Nat) : Int)) e_6_11 rfl (wi (by omega))) ?_
            refine L_as rfl ?_
            refine L_nil ?_
            have H_16 : Hp w0 [] w_12 [Ent.own v110 42 1 (t + 1) (us .u64 ((Sm.sched Sm.k512 (((Sm.full Sm.k512 l).drop (128 * j)).take 128) t) ++ [xb])), Ent.own (Value.slice fa42 fM42 fc42) 5 1 fM42 (us .u8 (Sm.full Sm.k512 l)), Ent.blk bk6 94 (ua .u64 ((Sm.run Sm.k512 (Sm.full Sm.k512 l) j).l)), Ent.blk bk2 87 (ua .i64 [64, 80, 28, 34, 39, 14, 18, 41, 1, 8, 7, 19, 61, 6])] := H_15.erase 0
            have H_17 : Hp w0 [] w_12 [Ent.own v110 42 1 (t + 1) (us .u64 (Sm.sched Sm.k512 (((Sm.full Sm.k512 l).drop (128 * j)).take 128) (t + 1))), Ent.own (Value.slice fa42 fM42 fc42) 5 1 fM42 (us .u8 (Sm.full Sm.k512 l)), Ent.blk bk6 94 (ua .u64 ((Sm.run Sm.k512 (Sm.full Sm.k512 l) j).l)), Ent.blk bk2 87 (ua .i64 [64, 80, 28, 34, 39, 14, 18, 41, 1, 8, 7, 19, 61, 6])] := by have h := H_16; rw [show xb = Sm.word Sm.k512 (((Sm.full Sm.k512 l).drop (128 * j)).take 128) (Sm.sched Sm.k512 (((Sm.full Sm.k512 l).drop (128 * j)).take 128) t) t from Sm.wordr_lo (q := Sm.k512) (of_decide_eq_true hc_4) (by show i = 8; omega) hxb] at h; exact h
            refine Th_n ⟨_, ?_, t + 1, v110, rfl, e_6_2, e_6_5, e_6_6, e_6_8, e_6_9, rfl, rfl, H_17, (by omega)⟩
            omega
        ·
          have hc_4' := of_decide_eq_false hc_4
          have bx84 : t - 2 < (Sm.sched Sm.k512 (((Sm.full Sm.k512 l).drop (128 * j)).take 128) t).length := by have h9_ : (Sm.sched Sm.k512 (((Sm.full Sm.k512 l).drop (128 * j)).take 128) t).length = t := (⟨own_length (H_12.get 0 rfl), Sm.sched_lt Sm.bit512 hB _⟩ : Wd t 18446744073709551616 (Sm.sched Sm.k512 (((Sm.full Sm.k512 l).drop (128 * j)).take 128) t)).1; rw [h9_]; omega
          obtain ⟨x84, hx84⟩ : ∃ u, (Sm.sched Sm.k512 (((Sm.full Sm.k512 l).drop (128 * j)).take 128) t)[t - 2]? = some u := ⟨_, List.getElem?_eq_getElem bx84⟩
          have rx84 := (⟨own_length (H_12.get 0 rfl), Sm.sched_lt Sm.bit512 hB _⟩ : Wd t 18446744073709551616 (Sm.sched Sm.k512 (((Sm.full Sm.k512 l).drop (128 * j)).take 128) t)).2 _ (List.mem_of_getElem? hx84)
          have bx90 : t - 7 < (Sm.sched Sm.k512 (((Sm.full Sm.k512 l).drop (128 * j)).take 128) t).length := by have h9_ : (Sm.sched Sm.k512 (((Sm.full Sm.k512 l).drop (128 * j)).take 128) t).length = t := (⟨own_length (H_12.get 0 rfl), Sm.sched_lt Sm.bit512 hB _⟩ : Wd t 18446744073709551616 (Sm.sched Sm.k512 (((Sm.full Sm.k512 l).drop (128 * j)).take 128) t)).1; rw [h9_]; omega
          obtain ⟨x90, hx90⟩ : ∃ u, (Sm.sched Sm.k512 (((Sm.full Sm.k512 l).drop (128 * j)).take 128) t)[t - 7]? = some u := ⟨_, List.getElem?_eq_getElem bx90⟩
          have rx90 := (⟨own_length (H_12.get 0 rfl), Sm.sched_lt Sm.bit512 hB _⟩ : Wd t 18446744073709551616 (Sm.sched Sm.k512 (((Sm.full Sm.k512 l).drop (128 * j)).take 128) t)).2 _ (List.mem_of_getElem? hx90)
          have bx97 : t - 15 < (Sm.sched Sm.k512 (((Sm.full Sm.k512 l).drop (128 * j)).take 128) t).length := by have h9_ : (Sm.sched Sm.k512 (((Sm.full Sm.k512 l).drop (128 * j)).take 128) t).length = t := (⟨own_length (H_12.get 0 rfl), Sm.sched_lt Sm.bit512 hB _⟩ : Wd t 18446744073709551616 (Sm.sched Sm.k512 (((Sm.full Sm.k512 l).drop (128 * j)).take 128) t)).1; rw [h9_]; omega
          obtain ⟨x97, hx97⟩ : ∃ u, (Sm.sched Sm.k512 (((Sm.full Sm.k512 l).drop (128 * j)).take 128) t)[t - 15]? = some u := ⟨_, List.getElem?_eq_getElem bx97⟩
          have rx97 := (⟨own_length (H_12.get 0 rfl), Sm.sched_lt Sm.bit512 hB _⟩ : Wd t 18446744073709551616 (Sm.sched Sm.k512 (((Sm.full Sm.k512 l).drop (128 * j)).take 128) t)).2 _ (List.mem_of_getElem? hx97)
          have bx104 : t - 16 < (Sm.sched Sm.k512 (((Sm.full Sm.k512 l).drop (128 * j)).take 128) t).length := by have h9_ : (Sm.sched Sm.k512 (((Sm.full Sm.k512 l).drop (128 * j)).take 128) t).length = t := (⟨own_length (H_12.get 0 rfl), Sm.sched_lt Sm.bit512 hB _⟩ : Wd t 18446744073709551616 (Sm.sched Sm.k512 (((Sm.full Sm.k512 l).drop (128 * j)).take 128) t)).1; rw [h9_]; omega
          obtain ⟨x104, hx104⟩ : ∃ u, (Sm.sched Sm.k512 (((Sm.full Sm.k512 l).drop (128 * j)).take 128) t)[t - 16]? = some u := ⟨_, List.getElem?_eq_getElem bx104⟩
          have rx104 := (⟨own_length (H_12.get 0 rfl), Sm.sched_lt Sm.bit512 hB _⟩ : Wd t 18446744073709551616 (Sm.sched Sm.k512 (((Sm.full Sm.k512 l).drop (128 * j)).take 128) t)).2 _ (List.mem_of_getElem? hx104)
          refine W_quiet H_12 28 [Value.agg (ua .i64 [64, 80, 28, 34, 39, 14, 18, 41, 1, 8, 7, 19, 61, 6]), Value.agg (ua .i64 [64, 80, 28, 34, 39, 14, 18, 41, 1, 8, 7, 19, 61, 6]), vW, Value.int .i64 ((t : Nat) : Int), Value.int .i64 ((t - 2 : Nat) : Int), plv vW (t - 2), Value.int .u64 ((x84 : Nat) : Int), Value.int .u64 (((Sm.mix Sm.k512 3 x84) : Nat) : Int), vW, Value.int .i64 ((t : Nat) : Int), Value.int .i64 ((t - 7 : Nat) : Int), plv vW (t - 7), Value.int .u64 ((x90 : Nat) : Int), Value.int .u64 ((((Sm.mix Sm.k512 3 x84) + x90) % 18446744073709551616 : Nat) : Int), Value.agg (ua .i64 [64, 80, 28, 34, 39, 14, 18, 41, 1, 8, 7, 19, 61, 6]), vW, Value.int .i64 ((t : Nat) : Int), Value.int .i64 ((t - 15 : Nat) : Int), plv vW (t - 15), Value.int .u64 ((x97 : Nat) : Int), Value.int .u64 (((Sm.mix Sm.k512 2 x97) : Nat) : Int), Value.int .u64 ((((((Sm.mix Sm.k512 3 x84) + x90) % 18446744073709551616) + (Sm.mix Sm.k512 2 x97)) % 18446744073709551616 : Nat) : Int), vW, Value.int .i64 ((t : Nat) : Int), Value.int .i64 ((t - 16 : Nat) : Int), plv vW (t - 16), Value.int .u64 ((x104 : Nat) : Int), Value.int .u64 ((((((((Sm.mix Sm.k512 3 x84) + x90) % 18446744073709551616) + (Sm.mix Sm.k512 2 x97)) % 18446744073709551616) + x104) % 18446744073709551616 : Nat) : Int)] T_mixed (by kernel_rfl) ?_ ?_
          ·
            refine .plain rfl (Pl_y rfl (fun w hBw => Y_ldr T_row87 hBw (i := 3) rfl e_5_2 rfl)) ?_
            refine .plain rfl (Pl_y rfl (fun w hBw => Y_ldr T_row87 hBw (i := 3) rfl e_5_2 rfl)) ?_
            refine .plain rfl (Pl_y rfl (fun w hBw => congrArg (fun v => Result.ok (Next.value v) w) e_5_10)) ?_
            refine .plain rfl (Pl_y rfl (fun w hBw => congrArg (fun v => Result.ok (Next.value v) w) e_5_11)) ?_
            refine .plain rfl (Pl_y rfl (fun w hBw => Y_sub (k := .i64) (a := ((t : Nat) : Int)) (b := ((2 : Nat) : Int)) (z := ((t - 2 : Nat) : Int)) rfl rfl (wi (by omega)))) ?_
            refine .plain rfl (Pl_y rfl (fun w hBw => Y_idxO (j := t - 2) T_sl95 hBw (i := 0) rfl rfl rfl rfl (by omega))) ?_
            refine .plain rfl (Pl_y rfl (fun w hBw => Y_ldO T_scal42 hBw (i := 0) rfl rfl (hx84))) ?_
            refine .plain rfl (Pl_c rfl T_en55 (A3 rfl rfl rfl) (fun w hBw => mix512_3 x84 (Sm.sched_lt Sm.bit512 hB _ _ (List.mem_of_getElem? hx84)) _)) ?_
            refine .plain rfl (Pl_y rfl (fun w hBw => congrArg (fun v => Result.ok (Next.value v) w) e_5_10)) ?_
            refine .plain rfl (Pl_y rfl (fun w hBw => congrArg (fun v => Result.ok (Next.value v) w) e_5_11)) ?_
            refine .plain rfl (Pl_y rfl (fun w hBw => Y_sub (k := .i64) (a := ((t : Nat) : Int)) (b := ((7 : Nat) : Int)) (z := ((t - 7 : Nat) : Int)) rfl rfl (wi (by omega)))) ?_
            refine .plain rfl (Pl_y rfl (fun w hBw => Y_idxO (j := t - 7) T_sl95 hBw (i := 0) rfl rfl rfl rfl (by omega))) ?_
            refine .plain rfl (Pl_y rfl (fun w hBw => Y_ldO T_scal42 hBw (i := 0) rfl rfl (hx90))) ?_
            refine .plain rfl (Pl_y rfl (fun w hBw => Yu_add (k := .u64) rfl (Sm.mix Sm.k512 3 x84) x90 rfl rfl)) ?_
            refine .plain rfl (Pl_y rfl (fun w hBw => Y_ldr T_row87 hBw (i := 3) rfl e_5_2 rfl)) ?_
            refine .plain rfl (Pl_y rfl (fun w hBw => congrArg (fun v => Result.ok (Next.value v) w) e_5_10)) ?_
            refine .plain rfl (Pl_y rfl (fun w hBw => congrArg (fun v => Result.ok (Next.value v) w) e_5_11)) ?_
            refine .plain rfl (Pl_y rfl (fun w hBw => Y_sub (k := .i64) (a := ((t : Nat) : Int)) (b := ((15 : Nat) : Int)) (z := ((t - 15 : Nat) : Int)) rfl rfl (wi (by omega)))) ?_
            refine .plain rfl (Pl_y rfl (fun w hBw => Y_idxO (j := t - 15) T_sl95 hBw (i := 0) rfl rfl rfl rfl (by omega))) ?_
            refine .plain rfl (Pl_y rfl (fun w hBw => Y_ldO T_scal42 hBw (i := 0) rfl rfl (hx97))) ?_
            refine .plain rfl (Pl_c rfl T_en55 (A3 rfl rfl rfl) (fun w hBw => mix512_2 x97 (Sm.sched_lt Sm.bit512 hB _ _ (List.mem_of_getElem? hx97)) _)) ?_
            refine .plain rfl (Pl_y rfl (fun w hBw => Yu_add (k := .u64) rfl (((Sm.mix Sm.k512 3 x84) + x90) % 18446744073709551616) (Sm.mix Sm.k512 2 x97) rfl rfl)) ?_
            refine .plain rfl (Pl_y rfl (fun w hBw => congrArg (fun v => Result.ok (Next.value v) w) e_5_10)) ?_
            refine .plain rfl (Pl_y rfl (fun w hBw => congrArg (fun v => Result.ok (Next.value v) w) e_5_11)) ?_
            refine .plain rfl (Pl_y rfl (fun w hBw => Y_sub (k := .i64) (a := ((t : Nat) : Int)) (b := ((16 : Nat) : Int)) (z := ((t - 16 : Nat) : Int)) rfl rfl (wi (by omega)))) ?_
            refine .plain rfl (Pl_y rfl (fun w hBw => Y_idxO (j := t - 16) T_sl95 hBw (i := 0) rfl rfl rfl rfl (by omega))) ?_
            refine .plain rfl (Pl_y rfl (fun w hBw => Y_ldO T_scal42 hBw (i := 0) rfl rfl (hx104))) ?_
            refine .plain rfl (Pl_y rfl (fun w hBw => Yu_add (k := .u64) rfl (((((Sm.mix Sm.k512 3 x84) + x90) % 18446744073709551616) + (Sm.mix Sm.k512 2 x97)) % 18446744073709551616) x104 rfl rfl)) ?_
            exact .nil _
          ·
            intro e_7 w_13 hAg H_18
            have e_7_2 : e_7 2 = Value.pointer (some ⟨bk2, 0, none⟩) := (hAg 2 rfl).trans e_5_2
            have e_7_5 : e_7 5 = Value.int .i64 ((8 : Nat) : Int) := (hAg 5 rfl).trans e_5_5
            have e_7_6 : e_7 6 = Value.pointer (some ⟨bk6, 0, none⟩) := (hAg 6 rfl).trans e_5_6
            have e_7_8 : e_7 8 = Value.slice fa42 fM42 fc42 := (hAg 8 rfl).trans e_5_8
            have e_7_9 : e_7 9 = Value.int .i64 ((128 * j : Nat) : Int) := (hAg 9 rfl).trans e_5_9
            have e_7_10 : e_7 10 = vW := (hAg 10 rfl).trans e_5_10
            have e_7_11 : e_7 11 = Value.int .i64 ((t : Nat) : Int) := (hAg 11 rfl).trans e_5_11
            have e_7_78 : e_7 78 = Value.agg (ua .i64 [64, 80, 28, 34, 39, 14, 18, 41, 1, 8, 7, 19, 61, 6]) := (hAg 78 rfl).trans rfl
            obtain ⟨x105, hx105⟩ : ∃ z_ : Nat, z_ = ((((((Sm.mix Sm.k512 3 x84) + x90) % 18446744073709551616) + (Sm.mix Sm.k512 2 x97)) % 18446744073709551616) + x104) % 18446744073709551616 := ⟨_, rfl⟩
            have rx105 : x105 < 18446744073709551616 := by rw [hx105]; exact (Nat.mod_lt _ (by decide))
            have e_7_105 : e_7 105 = Value.int .u64 ((x105 : Nat) : Int) := (hAg 105 rfl).trans (by rw [hx105]; exact rfl)
            refine L_callv rfl rfl T_en54 (A2 e_7_78 e_7_105) ((cut512_n x105 rx105 _).mono (fun r_ w' h => (⟨x105 % 18446744073709551616, rfl, h⟩ : ∃ (c106 : Nat), c106 = x105 % 18446744073709551616 ∧ r_ = .returned (Value.int .u64 ((c106 : Nat) : Int)) ∧ Keep w_13 w'))) ?_
            rintro _ w_14 ⟨c106, hc106, rfl, hkp_2⟩; refine ⟨_, rfl, ?_⟩; have H_19 := H_18.keep hkp_2
            refine L_as rfl ?_
            refine L_nil ?_
            refine Th_n ?_
            refine W_rg ?_
            refine L_mv rfl ?_
            refine L_mv rfl ?_
            refine L_bsl (cs := ua .u64 [c106]) rfl H_19 (pv := [(0, Value.int .u64 ((c106 : Nat) : Int))]) T_sl95 T_zero42 rfl (Bpc rfl Bp0) (by kernel_rfl) ?_; intro bk109_2 w_15 H_20
            refine L_appS rfl H_20 (i := 1) rfl T_sl95 T_zero42 rfl T_szb42 e_7_10 rfl (news_ua (H_20.get 0 rfl)) rfl (by omega) ?_; intro v110_2 w_16 Hx_2
            have H_21 : Hp w0 [] w_16 [Ent.blk bk109_2 42 (ua .u64 [c106]), Ent.own v110_2 42 1 (t + 1) (us .u64 ((Sm.sched Sm.k512 (((Sm.full Sm.k512 l).drop (128 * j)).take 128) t) ++ [c106])), Ent.own (Value.slice fa42 fM42 fc42) 5 1 fM42 (us .u8 (Sm.full Sm.k512 l)), Ent.blk bk6 94 (ua .u64 ((Sm.run Sm.k512 (Sm.full Sm.k512 l) j).l)), Ent.blk bk2 87 (ua .i64 [64, 80, 28, 34, 39, 14, 18, 41, 1, 8, 7, 19, 61, 6])] := Hx_2
            refine L_as rfl ?_
            refine L_nil ?_
            refine InB_n ?_
            refine Th_n ?_
            refine W_rg ?_
            refine L_mv rfl ?_
            refine L_y rfl (Y_add (k := .i64) (a := ((t : Nat) : Int)) (b := ((1 : Nat) : Int)) (z := ((t + 1 : Nat) : Int)) e_7_11 rfl (wi (by omega))) ?_
            refine L_as rfl ?_
            refine L_nil ?_
            have H_22 : Hp w0 [] w_16 [Ent.own v110_2 42 1 (t + 1) (us .u64 ((Sm.sched Sm.k512 (((Sm.full Sm.k512 l).drop (128 * j)).take 128) t) ++ [c106])), Ent.own (Value.slice fa42 fM42 fc42) 5 1 fM42 (us .u8 (Sm.full Sm.k512 l)), Ent.blk bk6 94 (ua .u64 ((Sm.run Sm.k512 (Sm.full Sm.k512 l) j).l)), Ent.blk bk2 87 (ua .i64 [64, 80, 28, 34, 39, 14, 18, 41, 1, 8, 7, 19, 61, 6])] := H_21.erase 0
            have H_23 : Hp w0 [] w_16 [Ent.own v110_2 42 1 (t + 1) (us .u64 (Sm.sched Sm.k512 (((Sm.full Sm.k512 l).drop (128 * j)).take 128) (t + 1))), Ent.own (Value.slice fa42 fM42 fc42) 5 1 fM42 (us .u8 (Sm.full Sm.k512 l)), Ent.blk bk6 94 (ua .u64 ((Sm.run Sm.k512 (Sm.full Sm.k512 l) j).l)), Ent.blk bk2 87 (ua .i64 [64, 80, 28, 34, 39, 14, 18, 41, 1, 8, 7, 19, 61, 6])] := by have h := H_22; rw [show c106 = Sm.word Sm.k512 (((Sm.full Sm.k512 l).drop (128 * j)).take 128) (Sm.sched Sm.k512 (((Sm.full Sm.k512 l).drop (128 * j)).take 128) t) t from Sm.wordr512_hi (of_decide_eq_false hc_4) hx84 hx97 hx90 hx104 (by rw [hc106, hx105])] at h; exact h
            refine Th_n ⟨_, ?_, t + 1, v110_2, rfl, e_7_2, e_7_5, e_7_6, e_7_8, e_7_9, rfl, rfl, H_23, (by omega)⟩
            omega
      ·
        have hc_3' := of_decide_eq_false hc_3
        refine W_exit ?_
        refine Th_x ?_
        refine Th_x ?_
        obtain rfl : t = 80 := by omega
        refine InB_hit ?_
        refine Th_n ?_
        refine W_seq ?_
        refine W_rg ?_
        refine L_y rfl (Y_ldr T_row94 H_12 (i := 2) rfl e_5_6 (by rw [ua_size]; exact (V8wr512 (Sm.full Sm.k512 l) j).1)) ?_
        refine L_alloc rfl H_12 T_zero94 ?_; intro bk14 w_17 H_24
        refine L_str (ds := ua .u64 ((Sm.run Sm.k512 (Sm.full Sm.k512 l) j).l)) T_row94 H_24 (i := 0) rfl rfl rfl rfl (by rw [ua_size]; exact (V8wr512 (Sm.full Sm.k512 l) j).1) (ua_one _ _) (l' := [Ent.blk bk14 94 (ua .u64 ((Sm.run Sm.k512 (Sm.full Sm.k512 l) j).l)), Ent.own vW 42 1 80 (us .u64 (Sm.sched Sm.k512 (((Sm.full Sm.k512 l).drop (128 * j)).take 128) 80)), Ent.own (Value.slice fa42 fM42 fc42) 5 1 fM42 (us .u8 (Sm.full Sm.k512 l)), Ent.blk bk6 94 (ua .u64 ((Sm.run Sm.k512 (Sm.full Sm.k512 l) j).l)), Ent.blk bk2 87 (ua .i64 [64, 80, 28, 34, 39, 14, 18, 41, 1, 8, 7, 19, 61, 6])]) rfl ?_; intro w_18 H_25
        refine L_nil ?_
        refine Th_n ?_
        refine W_seq ?_
        refine W_seq ?_
        refine W_rg ?_
        refine L_as rfl ?_
        refine L_nil ?_
        refine Th_n ?_
        refine W_block ?_
        refine W_loop (fun mu_ e w => ∃ t : Nat, ∃ va : Nat, ∃ vb : Nat, ∃ vc : Nat, ∃ vd : Nat, ∃ ve : Nat, ∃ vf : Nat, ∃ vg : Nat, ∃ vh : Nat, mu_ = 80 - t ∧ e 2 = Value.pointer (some ⟨bk2, 0, none⟩) ∧ e 5 = Value.int .i64 ((8 : Nat) : Int) ∧ e 6 = Value.pointer (some ⟨bk6, 0, none⟩) ∧ e 8 = Value.slice fa42 fM42 fc42 ∧ e 9 = Value.int .i64 ((128 * j : Nat) : Int) ∧ e 10 = vW ∧ e 14 = Value.pointer (some ⟨bk14, 0, none⟩) ∧ e 15 = Value.int .i64 ((t : Nat) : Int) ∧ Hp w0 [] w [Ent.blk bk14 94 (ua .u64 [va, vb, vc, vd, ve, vf, vg, vh]), Ent.own vW 42 1 80 (us .u64 (Sm.sched Sm.k512 (((Sm.full Sm.k512 l).drop (128 * j)).take 128) 80)), Ent.own (Value.slice fa42 fM42 fc42) 5 1 fM42 (us .u8 (Sm.full Sm.k512 l)), Ent.blk bk6 94 (ua .u64 ((Sm.run Sm.k512 (Sm.full Sm.k512 l) j).l)), Ent.blk bk2 87 (ua .i64 [64, 80, 28, 34, 39, 14, 18, 41, 1, 8, 7, 19, 61, 6])] ∧ t ≤ 80 ∧ Sm.V8.mk va vb vc vd ve vf vg vh = Sm.rounds Sm.k512 (Sm.sched Sm.k512 (((Sm.full Sm.k512 l).drop (128 * j)).take 128) 80) (Sm.run Sm.k512 (Sm.full Sm.k512 l) j) t ∧ (Sm.V8.mk va vb vc vd ve vf vg vh).lt 18446744073709551616) _ ⟨0, (Sm.run Sm.k512 (Sm.full Sm.k512 l) j).a, (Sm.run Sm.k512 (Sm.full Sm.k512 l) j).b, (Sm.run Sm.k512 (Sm.full Sm.k512 l) j).c, (Sm.run Sm.k512 (Sm.full Sm.k512 l) j).d, (Sm.run Sm.k512 (Sm.full Sm.k512 l) j).e, (Sm.run Sm.k512 (Sm.full Sm.k512 l) j).f, (Sm.run Sm.k512 (Sm.full Sm.k512 l) j).g, (Sm.run Sm.k512 (Sm.full Sm.k512 l) j).h, rfl, e_5_2, e_5_5, e_5_6, e_5_8, e_5_9, e_5_10, rfl, rfl, H_25, (Nat.zero_le _), rfl, (Sm.run_lt Sm.lt512 _ _)⟩ ?_
        rintro mu_ e_8 w_19 ⟨t, va, vb, vc, vd, ve, vf, vg, vh, rfl, e_8_2, e_8_5, e_8_6, e_8_8, e_8_9, e_8_10, e_8_14, e_8_15, H_26, ht, hV, hW⟩
        refine W_seq ?_
        refine W_seq ?_
        refine W_rg ?_
        refine L_mv rfl ?_
        refine L_y rfl (Y_fld T_fld87_1 rfl e_8_2 rfl) ?_
        refine L_y rfl (Y_ld T_scal3 H_26 (i := 4) rfl rfl rfl) ?_
        refine L_y rfl (Y_lss (k := .i64) (a := ((t : Nat) : Int)) (b := ((80 : Nat) : Int)) e_8_15 rfl) ?_
        refine L_nil ?_
        refine Th_n ?_
        refine W_cond (b := (decide (((t : Nat) : Int) < ((80 : Nat) : Int)))) rfl (fun hc_6 => ?_) (fun hc_6 => ?_)
        ·
          have hc_6' := of_decide_eq_true hc_6
          refine W_skip ?_
          refine Th_n ?_
          refine W_seq ?_
          refine W_block ?_
          refine W_seq ?_
          refine W_rg ?_
          refine L_y rfl (Y_idxA 4 4 T_arr94 e_8_14 rfl rfl (by decide) (zz1 _)) ?_
          refine L_y rfl (Y_ld T_scal42 H_26 (i := 0) rfl rfl rfl) ?_
          refine L_y rfl (Y_idxA 5 5 T_arr94 e_8_14 rfl rfl (by decide) (zz1 _)) ?_
          refine L_y rfl (Y_ld T_scal42 H_26 (i := 0) rfl rfl rfl) ?_
          refine L_yr (z := ve &&& vf) (m := 18446744073709551616) rfl (Yu_and (k := .u64) rfl ve vf hW.2.2.2.2.1 hW.2.2.2.2.2.1 rfl rfl) (Nat.lt_of_le_of_lt (Nat.and_le_left) hW.2.2.2.2.1) ?_; intro x122 hx122 rx122
          refine L_y rfl (Y_idxA 4 4 T_arr94 e_8_14 rfl rfl (by decide) (zz1 _)) ?_
          refine L_y rfl (Y_ld T_scal42 H_26 (i := 0) rfl rfl rfl) ?_
          refine L_yr (z := 18446744073709551615 - ve) (m := 18446744073709551616) rfl (Yu_com (k := .u64) rfl ve hW.2.2.2.2.1 rfl) (Nat.lt_of_le_of_lt (Nat.sub_le _ _) (by decide)) ?_; intro x125 hx125 rx125
          refine L_y rfl (Y_idxA 6 6 T_arr94 e_8_14 rfl rfl (by decide) (zz1 _)) ?_
          refine L_y rfl (Y_ld T_scal42 H_26 (i := 0) rfl rfl rfl) ?_
          refine L_yr (z := x125 &&& vg) (m := 18446744073709551616) rfl (Yu_and (k := .u64) rfl x125 vg rx125 hW.2.2.2.2.2.2.1 rfl rfl) (Nat.lt_of_le_of_lt (Nat.and_le_left) rx125) ?_; intro x128 hx128 rx128
          refine L_yr (z := x122 ^^^ x128) (m := 18446744073709551616) rfl (Yu_xor (k := .u64) rfl x122 x128 rx122 rx128 rfl rfl) (Nat.xor_lt_two_pow (n := 64) rx122 rx128) ?_; intro x129 hx129 rx129
          refine L_as rfl ?_
          refine L_nil ?_
          refine Th_n ?_
          refine W_seq ?_
          refine W_rg ?_
          refine L_y rfl (Y_idxA 0 0 T_arr94 e_8_14 rfl rfl (by decide) (zz1 _)) ?_
          refine L_y rfl (Y_ld T_scal42 H_26 (i := 0) rfl rfl rfl) ?_
          refine L_y rfl (Y_idxA 1 1 T_arr94 e_8_14 rfl rfl (by decide) (zz1 _)) ?_
          refine L_y rfl (Y_ld T_scal42 H_26 (i := 0) rfl rfl rfl) ?_
          refine L_yr (z := va &&& vb) (m := 18446744073709551616) rfl (Yu_and (k := .u64) rfl va vb hW.1 hW.2.1 rfl rfl) (Nat.lt_of_le_of_lt (Nat.and_le_left) hW.1) ?_; intro x134 hx134 rx134
          refine L_y rfl (Y_idxA 0 0 T_arr94 e_8_14 rfl rfl (by decide) (zz1 _)) ?_
          refine L_y rfl (Y_ld T_scal42 H_26 (i := 0) rfl rfl rfl) ?_
          refine L_y rfl (Y_idxA 2 2 T_arr94 e_8_14 rfl rfl (by decide) (zz1 _)) ?_
          refine L_y rfl (Y_ld T_scal42 H_26 (i := 0) rfl rfl rfl) ?_
          refine L_yr (z := va &&& vc) (m := 18446744073709551616) rfl (Yu_and (k := .u64) rfl va vc hW.1 hW.2.2.1 rfl rfl) (Nat.lt_of_le_of_lt (Nat.and_le_left) hW.1) ?_; intro x139 hx139 rx139
          refine L_yr (z := x134 ^^^ x139) (m := 18446744073709551616) rfl (Yu_xor (k := .u64) rfl x134 x139 rx134 rx139 rfl rfl) (Nat.xor_lt_two_pow (n := 64) rx134 rx139) ?_; intro x140 hx140 rx140
          refine L_y rfl (Y_idxA 1 1 T_arr94 e_8_14 rfl rfl (by decide) (zz1 _)) ?_
          refine L_y rfl (Y_ld T_scal42 H_26 (i := 0) rfl rfl rfl) ?_
          refine L_y rfl (Y_idxA 2 2 T_arr94 e_8_14 rfl rfl (by decide) (zz1 _)) ?_
          refine L_y rfl (Y_ld T_scal42 H_26 (i := 0) rfl rfl rfl) ?_
          refine L_yr (z := vb &&& vc) (m := 18446744073709551616) rfl (Yu_and (k := .u64) rfl vb vc hW.2.1 hW.2.2.1 rfl rfl) (Nat.lt_of_le_of_lt (Nat.and_le_left) hW.2.1) ?_; intro x145 hx145 rx145
          refine L_yr (z := x140 ^^^ x145) (m := 18446744073709551616) rfl (Yu_xor (k := .u64) rfl x140 x145 rx140 rx145 rfl rfl) (Nat.xor_lt_two_pow (n := 64) rx140 rx145) ?_; intro x146 hx146 rx146
          refine L_as rfl ?_
          refine L_nil ?_
          refine Th_n ?_
          refine W_seq ?_
          obtain ⟨x168, hx168⟩ : ∃ u, (Sm.sched Sm.k512 (((Sm.full Sm.k512 l).drop (128 * j)).take 128) 80)[t]? = some u := ⟨_, List.getElem?_eq_getElem (by have := (⟨own_length (H_26.get 1 rfl), Sm.sched_lt Sm.bit512 hB _⟩ : Wd 80 18446744073709551616 (Sm.sched Sm.k512 (((Sm.full Sm.k512 l).drop (128 * j)).take 128) 80)).1; omega)⟩
          have rx168 := (⟨own_length (H_26.get 1 rfl), Sm.sched_lt Sm.bit512 hB _⟩ : Wd 80 18446744073709551616 (Sm.sched Sm.k512 (((Sm.full Sm.k512 l).drop (128 * j)).take 128) 80)).2 _ (List.mem_of_getElem? hx168)
          refine W_quiet H_26 22 [Value.pointer (some ⟨bk14, 7, none⟩), Value.int .u64 ((vh : Nat) : Int), Value.agg (ua .i64 [64, 80, 28, 34, 39, 14, 18, 41, 1, 8, 7, 19, 61, 6]), Value.pointer (some ⟨bk14, 4, none⟩), Value.int .u64 ((ve : Nat) : Int), Value.int .u64 (((Sm.mix Sm.k512 1 ve) : Nat) : Int), Value.int .u64 (((vh + (Sm.mix Sm.k512 1 ve)) % 18446744073709551616 : Nat) : Int), Value.agg (ua .i64 [64, 80, 28, 34, 39, 14, 18, 41, 1, 8, 7, 19, 61, 6]), Value.int .u64 ((x129 : Nat) : Int), Value.int .u64 (((x129 % 18446744073709551616) : Nat) : Int), Value.int .u64 (((((vh + (Sm.mix Sm.k512 1 ve)) % 18446744073709551616) + (x129 % 18446744073709551616)) % 18446744073709551616 : Nat) : Int), Value.int .i64 ((t : Nat) : Int), Value.int .u64 (((Sm.k512.ks.getD t 0) : Nat) : Int), Value.pointer (some ⟨bk2, 0, none⟩), Value.int .i64 ((64 : Nat) : Int), Value.int .i64 ((0 : Nat) : Int), Value.int .u64 (((Sm.k512.ks.getD t 0) / 2 ^ 0 : Nat) : Int), Value.int .u64 (((((((vh + (Sm.mix Sm.k512 1 ve)) % 18446744073709551616) + (x129 % 18446744073709551616)) % 18446744073709551616) + ((Sm.k512.ks.getD t 0) / 2 ^ 0)) % 18446744073709551616 : Nat) : Int), vW, Value.int .i64 ((t : Nat) : Int), plv vW t, Value.int .u64 ((x168 : Nat) : Int)] T_mixed (by kernel_rfl) ?_ ?_
          ·
            refine .plain rfl (Pl_y rfl (fun w hBw => Y_idxA 7 7 T_arr94 e_8_14 rfl rfl (by decide) (zz1 _))) ?_
            refine .plain rfl (Pl_y rfl (fun w hBw => Y_ld T_scal42 hBw (i := 0) rfl rfl rfl)) ?_
            refine .plain rfl (Pl_y rfl (fun w hBw => Y_ldr T_row87 hBw (i := 4) rfl e_8_2 rfl)) ?_
            refine .plain rfl (Pl_y rfl (fun w hBw => Y_idxA 4 4 T_arr94 e_8_14 rfl rfl (by decide) (zz1 _))) ?_
            refine .plain rfl (Pl_y rfl (fun w hBw => Y_ld T_scal42 hBw (i := 0) rfl rfl rfl)) ?_
            refine .plain rfl (Pl_c rfl T_en55 (A3 rfl rfl rfl) (fun w hBw => mix512_1 ve hW.2.2.2.2.1 _)) ?_
            refine .plain rfl (Pl_y rfl (fun w hBw => Yu_add (k := .u64) rfl vh (Sm.mix Sm.k512 1 ve) rfl rfl)) ?_
            refine .plain rfl (Pl_y rfl (fun w hBw => Y_ldr T_row87 hBw (i := 4) rfl e_8_2 rfl)) ?_
            refine .plain rfl (Pl_y rfl (fun w hBw => rfl)) ?_
            refine .plain rfl (Pl_c rfl T_en54 (A2 rfl rfl) (fun w hBw => cut512_n x129 rx129 _)) ?_
            refine .plain rfl (Pl_y rfl (fun w hBw => Yu_add (k := .u64) rfl ((vh + (Sm.mix Sm.k512 1 ve)) % 18446744073709551616) (x129 % 18446744073709551616) rfl rfl)) ?_
            refine .plain rfl (Pl_y rfl (fun w hBw => congrArg (fun v => Result.ok (Next.value v) w) e_8_15)) ?_
            refine .plain rfl (Pl_c rfl T_en56 (A1 rfl) (fun w hBw => const_n t (by omega) _)) ?_
            refine .plain rfl (Pl_y rfl (fun w hBw => Y_fld T_fld87_0 rfl e_8_2 rfl)) ?_
            refine .plain rfl (Pl_y rfl (fun w hBw => Y_ld T_scal3 hBw (i := 4) rfl rfl rfl)) ?_
            refine .plain rfl (Pl_y rfl (fun w hBw => Y_sub (k := .i64) (a := ((64 : Nat) : Int)) (b := ((64 : Nat) : Int)) (z := ((0 : Nat) : Int)) rfl rfl (by decide))) ?_
            refine .plain rfl (Pl_y rfl (fun w hBw => Yu_shr (k := .u64) (Sm.k512.ks.getD t 0) 0 (Sm.ks_lt _) rfl rfl)) ?_
            refine .plain rfl (Pl_y rfl (fun w hBw => Yu_add (k := .u64) rfl ((((vh + (Sm.mix Sm.k512 1 ve)) % 18446744073709551616) + (x129 % 18446744073709551616)) % 18446744073709551616) ((Sm.k512.ks.getD t 0) / 2 ^ 0) rfl rfl)) ?_
            refine .plain rfl (Pl_y rfl (fun w hBw => congrArg (fun v => Result.ok (Next.value v) w) e_8_10)) ?_
            refine .plain rfl (Pl_y rfl (fun w hBw => congrArg (fun v => Result.ok (Next.value v) w) e_8_15)) ?_
            refine .plain rfl (Pl_y rfl (fun w hBw => Y_idxO (j := t) T_sl95 hBw (i := 1) rfl rfl rfl rfl (by omega))) ?_
            refine .plain rfl (Pl_y rfl (fun w hBw => Y_ldO T_scal42 hBw (i := 1) rfl rfl (hx168))) ?_
            exact .nil _
          ·
            intro e_9 w_20 hAg H_27
            have e_9_2 : e_9 2 = Value.pointer (some ⟨bk2, 0, none⟩) := (hAg 2 rfl).trans e_8_2
            have e_9_5 : e_9 5 = Value.int .i64 ((8 : Nat) : Int) := (hAg 5 rfl).trans e_8_5
            have e_9_6 : e_9 6 = Value.pointer (some ⟨bk6, 0, none⟩) := (hAg 6 rfl).trans e_8_6
            have e_9_8 : e_9 8 = Value.slice fa42 fM42 fc42 := (hAg 8 rfl).trans e_8_8
            have e_9_9 : e_9 9 = Value.int .i64 ((128 * j : Nat) : Int) := (hAg 9 rfl).trans e_8_9
            have e_9_10 : e_9 10 = vW := (hAg 10 rfl).trans e_8_10
            have e_9_14 : e_9 14 = Value.pointer (some ⟨bk14, 0, none⟩) := (hAg 14 rfl).trans e_8_14
            have e_9_15 : e_9 15 = Value.int .i64 ((t : Nat) : Int) := (hAg 15 rfl).trans e_8_15
            have e_9_17 : e_9 17 = Value.int .u64 ((x146 : Nat) : Int) := (hAg 17 rfl).trans rfl
            obtain ⟨x164, hx164⟩ : ∃ z_ : Nat, z_ = (((((vh + (Sm.mix Sm.k512 1 ve)) % 18446744073709551616) + (x129 % 18446744073709551616)) % 18446744073709551616) + ((Sm.k512.ks.getD t 0) / 2 ^ 0)) % 18446744073709551616 := ⟨_, rfl⟩
            have rx164 : x164 < 18446744073709551616 := by rw [hx164]; exact (Nat.mod_lt _ (by decide))
            have e_9_164 : e_9 164 = Value.int .u64 ((x164 : Nat) : Int) := (hAg 164 rfl).trans (by rw [hx164]; exact rfl)
            have e_9_168 : e_9 168 = Value.int .u64 ((x168 : Nat) : Int) := (hAg 168 rfl).trans rfl
            refine L_yr (z := (x164 + x168) % 18446744073709551616) (m := 18446744073709551616) rfl (Yu_add (k := .u64) rfl x164 x168 e_9_164 e_9_168) (Nat.mod_lt _ (by decide)) ?_; intro x169 hx169 rx169
            refine L_as rfl ?_
            refine L_nil ?_
            refine Th_n ?_
            refine W_seq ?_
            refine W_rg ?_
            refine L_y rfl (Y_ldr T_row87 H_27 (i := 4) rfl e_9_2 rfl) ?_
            refine L_y rfl (Y_idxA 0 0 T_arr94 e_9_14 rfl rfl (by decide) (zz1 _)) ?_
            refine L_y rfl (Y_ld T_scal42 H_27 (i := 0) rfl rfl rfl) ?_
            refine L_callv rfl rfl T_en55 (A3 rfl rfl rfl) ((mix512_0 va hW.1 _).mono (fun r_ w' h => (⟨Sm.mix Sm.k512 0 va, rfl, h⟩ : ∃ (m173 : Nat), m173 = Sm.mix Sm.k512 0 va ∧ r_ = .returned (Value.int .u64 ((m173 : Nat) : Int)) ∧ Keep w_20 w'))) ?_
            rintro _ w_21 ⟨m173, hm173, rfl, hkp_3⟩; refine ⟨_, rfl, ?_⟩; have H_28 := H_27.keep hkp_3
            refine L_mv rfl ?_
            refine L_yr (z := (m173 + x146) % 18446744073709551616) (m := 18446744073709551616) rfl (Yu_add (k := .u64) rfl m173 x146 rfl e_9_17) (Nat.mod_lt _ (by decide)) ?_; intro x175 hx175 rx175
            refine L_as rfl ?_
            refine L_nil ?_
            refine Th_n ?_
            refine W_seq ?_
            refine W_seq ?_
            refine W_rg ?_
            refine L_as rfl ?_
            refine L_nil ?_
            refine Th_n ?_
            refine W_block ?_
            refine W_rounds 8 ?_
            refine Wr_s ?_
            refine W_seq ?_
            refine W_seq ?_
            refine W_rg ?_
            refine L_mv rfl ?_
            refine L_y rfl (Y_gtr (k := .i64) (a := ((7 : Nat) : Int)) (b := ((0 : Nat) : Int)) rfl rfl) ?_
            refine L_nil ?_
            refine Th_n ?_
            refine W_true (congrArg Value.bool (by decide : (decide (((0 : Nat) : Int) < ((7 : Nat) : Int))) = true)) ?_
            refine W_skip ?_
            refine Th_n ?_
            refine W_seq ?_
            refine W_block ?_
            refine W_rg ?_
            refine L_mv rfl ?_
            refine L_mv rfl ?_
            refine L_y rfl (Y_sub (k := .i64) (a := ((7 : Nat) : Int)) (b := ((1 : Nat) : Int)) (z := ((6 : Nat) : Int)) rfl rfl (by decide)) ?_
            refine L_y rfl (Y_idxA 6 6 T_arr94 e_9_14 rfl rfl (by decide) (zz1 _)) ?_
            refine L_y rfl (Y_ld T_scal42 H_28 (i := 0) rfl rfl rfl) ?_
            refine L_y rfl (Y_idxA 7 7 T_arr94 e_9_14 rfl rfl (by decide) (zz1 _)) ?_
            refine L_st (v := Value.int .u64 ((vg : Nat) : Int)) T_scal42 H_28 (i := 0) rfl rfl rfl rfl (Nat.le_of_ble_eq_true rfl) (l' := [Ent.blk bk14 94 (ua .u64 [va, vb, vc, vd, ve, vf, vg, vg]), Ent.own vW 42 1 80 (us .u64 (Sm.sched Sm.k512 (((Sm.full Sm.k512 l).drop (128 * j)).take 128) 80)), Ent.own (Value.slice fa42 fM42 fc42) 5 1 fM42 (us .u8 (Sm.full Sm.k512 l)), Ent.blk bk6 94 (ua .u64 ((Sm.run Sm.k512 (Sm.full Sm.k512 l) j).l)), Ent.blk bk2 87 (ua .i64 [64, 80, 28, 34, 39, 14, 18, 41, 1, 8, 7, 19, 61, 6])]) (by rw [ua_set]; rfl) ?_; intro w_22 H_29
            refine L_nil ?_
            refine InB_n ?_
            refine Th_n ?_
            refine W_rg ?_
            refine L_mv rfl ?_
            refine L_y rfl (Y_sub (k := .i64) (a := ((7 : Nat) : Int)) (b := ((1 : Nat) : Int)) (z := ((6 : Nat) : Int)) rfl rfl (by decide)) ?_
            refine L_as rfl ?_
            refine L_nil ?_
            refine Th_n ?_
            refine Wr_s ?_
            refine W_seq ?_
            refine W_seq ?_
            refine W_rg ?_
            refine L_mv rfl ?_
            refine L_y rfl (Y_gtr (k := .i64) (a := ((6 : Nat) : Int)) (b := ((0 : Nat) : Int)) rfl rfl) ?_
            refine L_nil ?_
            refine Th_n ?_
            refine W_true (congrArg Value.bool (by decide : (decide (((0 : Nat) : Int) < ((6 : Nat) : Int))) = true)) ?_
            refine W_skip ?_
            refine Th_n ?_
            refine W_seq ?_
            refine W_block ?_
            refine W_rg ?_
            refine L_mv rfl ?_
            refine L_mv rfl ?_
            refine L_y rfl (Y_sub (k := .i64) (a := ((6 : Nat) : Int)) (b := ((1 : Nat) : Int)) (z := ((5 : Nat) : Int)) rfl rfl (by decide)) ?_
            refine L_y rfl (Y_idxA 5 5 T_arr94 e_9_14 rfl rfl (by decide) (zz1 _)) ?_
            refine L_y rfl (Y_ld T_scal42 H_29 (i := 0) rfl rfl rfl) ?_
            refine L_y rfl (Y_idxA 6 6 T_arr94 e_9_14 rfl rfl (by decide) (zz1 _)) ?_
            refine L_st (v := Value.int .u64 ((vf : Nat) : Int)) T_scal42 H_29 (i := 0) rfl rfl rfl rfl (Nat.le_of_ble_eq_true rfl) (l' := [Ent.blk bk14 94 (ua .u64 [va, vb, vc, vd, ve, vf, vf, vg]), Ent.own vW 42 1 80 (us .u64 (Sm.sched Sm.k512 (((Sm.full Sm.k512 l).drop (128 * j)).take 128) 80)), Ent.own (Value.slice fa42 fM42 fc42) 5 1 fM42 (us .u8 (Sm.full Sm.k512 l)), Ent.blk bk6 94 (ua .u64 ((Sm.run Sm.k512 (Sm.full Sm.k512 l) j).l)), Ent.blk bk2 87 (ua .i64 [64, 80, 28, 34, 39, 14, 18, 41, 1, 8, 7, 19, 61, 6])]) (by rw [ua_set]; rfl) ?_; intro w_23 H_30
            refine L_nil ?_
            refine InB_n ?_
            refine Th_n ?_
            refine W_rg ?_
            refine L_mv rfl ?_
            refine L_y rfl (Y_sub (k := .i64) (a := ((6 : Nat) : Int)) (b := ((1 : Nat) : Int)) (z := ((5 : Nat) : Int)) rfl rfl (by decide)) ?_
            refine L_as rfl ?_
            refine L_nil ?_
            refine Th_n ?_
            refine Wr_s ?_
            refine W_seq ?_
            refine W_seq ?_
            refine W_rg ?_
            refine L_mv rfl ?_
            refine L_y rfl (Y_gtr (k := .i64) (a := ((5 : Nat) : Int)) (b := ((0 : Nat) : Int)) rfl rfl) ?_
            refine L_nil ?_
            refine Th_n ?_
            refine W_true (congrArg Value.bool (by decide : (decide (((0 : Nat) : Int) < ((5 : Nat) : Int))) = true)) ?_
            refine W_skip ?_
            refine Th_n ?_
            refine W_seq ?_
            refine W_block ?_
            refine W_rg ?_
            refine L_mv rfl ?_
            refine L_mv rfl ?_
            refine L_y rfl (Y_sub (k := .i64) (a := ((5 : Nat) : Int)) (b := ((1 : Nat) : Int)) (z := ((4 : Nat) : Int)) rfl rfl (by decide)) ?_
            refine L_y rfl (Y_idxA 4 4 T_arr94 e_9_14 rfl rfl (by decide) (zz1 _)) ?_
            refine L_y rfl (Y_ld T_scal42 H_30 (i := 0) rfl rfl rfl) ?_
            refine L_y rfl (Y_idxA 5 5 T_arr94 e_9_14 rfl rfl (by decide) (zz1 _)) ?_
            refine L_st (v := Value.int .u64 ((ve : Nat) : Int)) T_scal42 H_30 (i := 0) rfl rfl rfl rfl (Nat.le_of_ble_eq_true rfl) (l' := [Ent.blk bk14 94 (ua .u64 [va, vb, vc, vd, ve, ve, vf, vg]), Ent.own vW 42 1 80 (us .u64 (Sm.sched Sm.k512 (((Sm.full Sm.k512 l).drop (128 * j)).take 128) 80)), Ent.own (Value.slice fa42 fM42 fc42) 5 1 fM42 (us .u8 (Sm.full Sm.k512 l)), Ent.blk bk6 94 (ua .u64 ((Sm.run Sm.k512 (Sm.full Sm.k512 l) j).l)), Ent.blk bk2 87 (ua .i64 [64, 80, 28, 34, 39, 14, 18, 41, 1, 8, 7, 19, 61, 6])]) (by rw [ua_set]; rfl) ?_; intro w_24 H_31
            refine L_nil ?_
            refine InB_n ?_
            refine Th_n ?_
            refine W_rg ?_
            refine L_mv rfl ?_
            refine L_y rfl (Y_sub (k := .i64) (a := ((5 : Nat) : Int)) (b := ((1 : Nat) : Int)) (z := ((4 : Nat) : Int)) rfl rfl (by decide)) ?_
            refine L_as rfl ?_
            refine L_nil ?_
            refine Th_n ?_
            refine Wr_s ?_
            refine W_seq ?_
            refine W_seq ?_
            refine W_rg ?_
            refine L_mv rfl ?_
            refine L_y rfl (Y_gtr (k := .i64) (a := ((4 : Nat) : Int)) (b := ((0 : Nat) : Int)) rfl rfl) ?_
            refine L_nil ?_
            refine Th_n ?_
            refine W_true (congrArg Value.bool (by decide : (decide (((0 : Nat) : Int) < ((4 : Nat) : Int))) = true)) ?_
            refine W_skip ?_
            refine Th_n ?_
            refine W_seq ?_
            refine W_block ?_
            refine W_rg ?_
            refine L_mv rfl ?_
            refine L_mv rfl ?_
            refine L_y rfl (Y_sub (k := .i64) (a := ((4 : Nat) : Int)) (b := ((1 : Nat) : Int)) (z := ((3 : Nat) : Int)) rfl rfl (by decide)) ?_
            refine L_y rfl (Y_idxA 3 3 T_arr94 e_9_14 rfl rfl (by decide) (zz1 _)) ?_
            refine L_y rfl (Y_ld T_scal42 H_31 (i := 0) rfl rfl rfl) ?_
            refine L_y rfl (Y_idxA 4 4 T_arr94 e_9_14 rfl rfl (by decide) (zz1 _)) ?_
            refine L_st (v := Value.int .u64 ((vd : Nat) : Int)) T_scal42 H_31 (i := 0) rfl rfl rfl rfl (Nat.le_of_ble_eq_true rfl) (l' := [Ent.blk bk14 94 (ua .u64 [va, vb, vc, vd, vd, ve, vf, vg]), Ent.own vW 42 1 80 (us .u64 (Sm.sched Sm.k512 (((Sm.full Sm.k512 l).drop (128 * j)).take 128) 80)), Ent.own (Value.slice fa42 fM42 fc42) 5 1 fM42 (us .u8 (Sm.full Sm.k512 l)), Ent.blk bk6 94 (ua .u64 ((Sm.run Sm.k512 (Sm.full Sm.k512 l) j).l)), Ent.blk bk2 87 (ua .i64 [64, 80, 28, 34, 39, 14, 18, 41, 1, 8, 7, 19, 61, 6])]) (by rw [ua_set]; rfl) ?_; intro w_25 H_32
            refine L_nil ?_
            refine InB_n ?_
            refine Th_n ?_
            refine W_rg ?_
            refine L_mv rfl ?_
            refine L_y rfl (Y_sub (k := .i64) (a := ((4 : Nat) : Int)) (b := ((1 : Nat) : Int)) (z := ((3 : Nat) : Int)) rfl rfl (by decide)) ?_
            refine L_as rfl ?_
            refine L_nil ?_
            refine Th_n ?_
            refine Wr_s ?_
            refine W_seq ?_
            refine W_seq ?_
            refine W_rg ?_
            refine L_mv rfl ?_
            refine L_y rfl (Y_gtr (k := .i64) (a := ((3 : Nat) : Int)) (b := ((0 : Nat) : Int)) rfl rfl) ?_
            refine L_nil ?_
            refine Th_n ?_
            refine W_true (congrArg Value.bool (by decide : (decide (((0 : Nat) : Int) < ((3 : Nat) : Int))) = true)) ?_
            refine W_skip ?_
            refine Th_n ?_
            refine W_seq ?_
            refine W_block ?_
            refine W_rg ?_
            refine L_mv rfl ?_
            refine L_mv rfl ?_
            refine L_y rfl (Y_sub (k := .i64) (a := ((3 : Nat) : Int)) (b := ((1 : Nat) : Int)) (z := ((2 : Nat) : Int)) rfl rfl (by decide)) ?_
            refine L_y rfl (Y_idxA 2 2 T_arr94 e_9_14 rfl rfl (by decide) (zz1 _)) ?_
            refine L_y rfl (Y_ld T_scal42 H_32 (i := 0) rfl rfl rfl) ?_
            refine L_y rfl (Y_idxA 3 3 T_arr94 e_9_14 rfl rfl (by decide) (zz1 _)) ?_
            refine L_st (v := Value.int .u64 ((vc : Nat) : Int)) T_scal42 H_32 (i := 0) rfl rfl rfl rfl (Nat.le_of_ble_eq_true rfl) (l' := [Ent.blk bk14 94 (ua .u64 [va, vb, vc, vc, vd, ve, vf, vg]), Ent.own vW 42 1 80 (us .u64 (Sm.sched Sm.k512 (((Sm.full Sm.k512 l).drop (128 * j)).take 128) 80)), Ent.own (Value.slice fa42 fM42 fc42) 5 1 fM42 (us .u8 (Sm.full Sm.k512 l)), Ent.blk bk6 94 (ua .u64 ((Sm.run Sm.k512 (Sm.full Sm.k512 l) j).l)), Ent.blk bk2 87 (ua .i64 [64, 80, 28, 34, 39, 14, 18, 41, 1, 8, 7, 19, 61, 6])]) (by rw [ua_set]; rfl) ?_; intro w_26 H_33
            refine L_nil ?_
            refine InB_n ?_
            refine Th_n ?_
            refine W_rg ?_
            refine L_mv rfl ?_
            refine L_y rfl (Y_sub (k := .i64) (a := ((3 : Nat) : Int)) (b := ((1 : Nat) : Int)) (z := ((2 : Nat) : Int)) rfl rfl (by decide)) ?_
            refine L_as rfl ?_
            refine L_nil ?_
            refine Th_n ?_
            refine Wr_s ?_
            refine W_seq ?_
            refine W_seq ?_
            refine W_rg ?_
            refine L_mv rfl ?_
            refine L_y rfl (Y_gtr (k := .i64) (a := ((2 : Nat) : Int)) (b := ((0 : Nat) : Int)) rfl rfl) ?_
            refine L_nil ?_
            refine Th_n ?_
            refine W_true (congrArg Value.bool (by decide : (decide (((0 : Nat) : Int) < ((2 : Nat) : Int))) = true)) ?_
            refine W_skip ?_
            refine Th_n ?_
            refine W_seq ?_
            refine W_block ?_
            refine W_rg ?_
            refine L_mv rfl ?_
            refine L_mv rfl ?_
            refine L_y rfl (Y_sub (k := .i64) (a := ((2 : Nat) : Int)) (b := ((1 : Nat) : Int)) (z := ((1 : Nat) : Int)) rfl rfl (by decide)) ?_
            refine L_y rfl (Y_idxA 1 1 T_arr94 e_9_14 rfl rfl (by decide) (zz1 _)) ?_
            refine L_y rfl (Y_ld T_scal42 H_33 (i := 0) rfl rfl rfl) ?_
            refine L_y rfl (Y_idxA 2 2 T_arr94 e_9_14 rfl rfl (by decide) (zz1 _)) ?_
            refine L_st (v := Value.int .u64 ((vb : Nat) : Int)) T_scal42 H_33 (i := 0) rfl rfl rfl rfl (Nat.le_of_ble_eq_true rfl) (l' := [Ent.blk bk14 94 (ua .u64 [va, vb, vb, vc, vd, ve, vf, vg]), Ent.own vW 42 1 80 (us .u64 (Sm.sched Sm.k512 (((Sm.full Sm.k512 l).drop (128 * j)).take 128) 80)), Ent.own (Value.slice fa42 fM42 fc42) 5 1 fM42 (us .u8 (Sm.full Sm.k512 l)), Ent.blk bk6 94 (ua .u64 ((Sm.run Sm.k512 (Sm.full Sm.k512 l) j).l)), Ent.blk bk2 87 (ua .i64 [64, 80, 28, 34, 39, 14, 18, 41, 1, 8, 7, 19, 61, 6])]) (by rw [ua_set]; rfl) ?_; intro w_27 H_34
            refine L_nil ?_
            refine InB_n ?_
            refine Th_n ?_
            refine W_rg ?_
            refine L_mv rfl ?_
            refine L_y rfl (Y_sub (k := .i64) (a := ((2 : Nat) : Int)) (b := ((1 : Nat) : Int)) (z := ((1 : Nat) : Int)) rfl rfl (by decide)) ?_
            refine L_as rfl ?_
            refine L_nil ?_
            refine Th_n ?_
            refine Wr_s ?_
            refine W_seq ?_
            refine W_seq ?_
            refine W_rg ?_
            refine L_mv rfl ?_
            refine L_y rfl (Y_gtr (k := .i64) (a := ((1 : Nat) : Int)) (b := ((0 : Nat) : Int)) rfl rfl) ?_
            refine L_nil ?_
            refine Th_n ?_
            refine W_true (congrArg Value.bool (by decide : (decide (((0 : Nat) : Int) < ((1 : Nat) : Int))) = true)) ?_
            refine W_skip ?_
            refine Th_n ?_
            refine W_seq ?_
            refine W_block ?_
            refine W_rg ?_
            refine L_mv rfl ?_
            refine L_mv rfl ?_
            refine L_y rfl (Y_sub (k := .i64) (a := ((1 : Nat) : Int)) (b := ((1 : Nat) : Int)) (z := ((0 : Nat) : Int)) rfl rfl (by decide)) ?_
            refine L_y rfl (Y_idxA 0 0 T_arr94 e_9_14 rfl rfl (by decide) (zz1 _)) ?_
            refine L_y rfl (Y_ld T_scal42 H_34 (i := 0) rfl rfl rfl) ?_
            refine L_y rfl (Y_idxA 1 1 T_arr94 e_9_14 rfl rfl (by decide) (zz1 _)) ?_
            refine L_st (v := Value.int .u64 ((va : Nat) : Int)) T_scal42 H_34 (i := 0) rfl rfl rfl rfl (Nat.le_of_ble_eq_true rfl) (l' := [Ent.blk bk14 94 (ua .u64 [va, va, vb, vc, vd, ve, vf, vg]), Ent.own vW 42 1 80 (us .u64 (Sm.sched Sm.k512 (((Sm.full Sm.k512 l).drop (128 * j)).take 128) 80)), Ent.own (Value.slice fa42 fM42 fc42) 5 1 fM42 (us .u8 (Sm.full Sm.k512 l)), Ent.blk bk6 94 (ua .u64 ((Sm.run Sm.k512 (Sm.full Sm.k512 l) j).l)), Ent.blk bk2 87 (ua .i64 [64, 80, 28, 34, 39, 14, 18, 41, 1, 8, 7, 19, 61, 6])]) (by rw [ua_set]; rfl) ?_; intro w_28 H_35
            refine L_nil ?_
            refine InB_n ?_
            refine Th_n ?_
            refine W_rg ?_
            refine L_mv rfl ?_
            refine L_y rfl (Y_sub (k := .i64) (a := ((1 : Nat) : Int)) (b := ((1 : Nat) : Int)) (z := ((0 : Nat) : Int)) rfl rfl (by decide)) ?_
            refine L_as rfl ?_
            refine L_nil ?_
            refine Th_n ?_
            refine Wr_s ?_
            refine W_seq ?_
            refine W_seq ?_
            refine W_rg ?_
            refine L_mv rfl ?_
            refine L_y rfl (Y_gtr (k := .i64) (a := ((0 : Nat) : Int)) (b := ((0 : Nat) : Int)) rfl rfl) ?_
            refine L_nil ?_
            refine Th_n ?_
            refine W_false (congrArg Value.bool (by decide : (decide (((0 : Nat) : Int) < ((0 : Nat) : Int))) = false)) ?_
            refine W_exit ?_
            refine Th_x ?_
            refine Th_x ?_
            refine InB_hit ?_
            refine Th_n ?_
            refine W_seq ?_
            refine W_rg ?_
            refine L_y rfl (Y_ldr T_row87 H_35 (i := 4) rfl e_9_2 rfl) ?_
            refine L_y rfl (Y_idxA 4 4 T_arr94 e_9_14 rfl rfl (by decide) (zz1 _)) ?_
            refine L_y rfl (Y_ld T_scal42 H_35 (i := 0) rfl rfl rfl) ?_
            refine L_mv rfl ?_
            refine L_yr (z := (vd + x169) % 18446744073709551616) (m := 18446744073709551616) rfl (Yu_add (k := .u64) rfl vd x169 rfl rfl) (Nat.mod_lt _ (by decide)) ?_; intro x190 hx190 rx190
            refine L_callv rfl rfl T_en54 (A2 rfl rfl) ((cut512_n x190 rx190 _).mono (fun r_ w' h => (⟨x190 % 18446744073709551616, rfl, h⟩ : ∃ (c191 : Nat), c191 = x190 % 18446744073709551616 ∧ r_ = .returned (Value.int .u64 ((c191 : Nat) : Int)) ∧ Keep w_28 w'))) ?_
            rintro _ w_29 ⟨c191, hc191, rfl, hkp_4⟩; refine ⟨_, rfl, ?_⟩; have H_36 := H_35.keep hkp_4
            refine L_y rfl (Y_idxA 4 4 T_arr94 e_9_14 rfl rfl (by decide) (zz1 _)) ?_
            refine L_st (v := Value.int .u64 ((c191 : Nat) : Int)) T_scal42 H_36 (i := 0) rfl rfl rfl rfl (Nat.le_of_ble_eq_true rfl) (l' := [Ent.blk bk14 94 (ua .u64 [va, va, vb, vc, c191, ve, vf, vg]), Ent.own vW 42 1 80 (us .u64 (Sm.sched Sm.k512 (((Sm.full Sm.k512 l).drop (128 * j)).take 128) 80)), Ent.own (Value.slice fa42 fM42 fc42) 5 1 fM42 (us .u8 (Sm.full Sm.k512 l)), Ent.blk bk6 94 (ua .u64 ((Sm.run Sm.k512 (Sm.full Sm.k512 l) j).l)), Ent.blk bk2 87 (ua .i64 [64, 80, 28, 34, 39, 14, 18, 41, 1, 8, 7, 19, 61, 6])]) (by rw [ua_set]; rfl) ?_; intro w_30 H_37
            refine L_nil ?_
            refine Th_n ?_
            refine W_rg ?_
            refine L_y rfl (Y_ldr T_row87 H_37 (i := 4) rfl e_9_2 rfl) ?_
            refine L_mv rfl ?_
            refine L_mv rfl ?_
            refine L_yr (z := (x169 + x175) % 18446744073709551616) (m := 18446744073709551616) rfl (Yu_add (k := .u64) rfl x169 x175 rfl rfl) (Nat.mod_lt _ (by decide)) ?_; intro x196 hx196 rx196
            refine L_callv rfl rfl T_en54 (A2 rfl rfl) ((cut512_n x196 rx196 _).mono (fun r_ w' h => (⟨x196 % 18446744073709551616, rfl, h⟩ : ∃ (c197 : Nat), c197 = x196 % 18446744073709551616 ∧ r_ = .returned (Value.int .u64 ((c197 : Nat) : Int)) ∧ Keep w_30 w'))) ?_
            rintro _ w_31 ⟨c197, hc197, rfl, hkp_5⟩; refine ⟨_, rfl, ?_⟩; have H_38 := H_37.keep hkp_5
            refine L_y rfl (Y_idxA 0 0 T_arr94 e_9_14 rfl rfl (by decide) (zz1 _)) ?_
            refine L_st (v := Value.int .u64 ((c197 : Nat) : Int)) T_scal42 H_38 (i := 0) rfl rfl rfl rfl (Nat.le_of_ble_eq_true rfl) (l' := [Ent.blk bk14 94 (ua .u64 [c197, va, vb, vc, c191, ve, vf, vg]), Ent.own vW 42 1 80 (us .u64 (Sm.sched Sm.k512 (((Sm.full Sm.k512 l).drop (128 * j)).take 128) 80)), Ent.own (Value.slice fa42 fM42 fc42) 5 1 fM42 (us .u8 (Sm.full Sm.k512 l)), Ent.blk bk6 94 (ua .u64 ((Sm.run Sm.k512 (Sm.full Sm.k512 l) j).l)), Ent.blk bk2 87 (ua .i64 [64, 80, 28, 34, 39, 14, 18, 41, 1, 8, 7, 19, 61, 6])]) (by rw [ua_set]; rfl) ?_; intro w_32 H_39
            refine L_nil ?_
            refine InB_n ?_
            refine Th_n ?_
            refine W_rg ?_
            refine L_mv rfl ?_
            refine L_y rfl (Y_add (k := .i64) (a := ((t : Nat) : Int)) (b := ((1 : Nat) : Int)) (z := ((t + 1 : Nat) : Int)) e_9_15 rfl (wi (by omega))) ?_
            refine L_as rfl ?_
            refine L_nil ?_
            refine Th_n ⟨_, ?_, t + 1, c197, va, vb, vc, c191, ve, vf, vg, rfl, e_9_2, e_9_5, e_9_6, e_9_8, e_9_9, e_9_10, e_9_14, rfl, H_39, (by omega), (Sm.stepr512 (by omega) hV hW hx168 (hx129.trans (by rw [hx122, hx128, hx125])) (hx146.trans (by rw [hx140, hx134, hx139, hx145])) (hx169.trans (by rw [hx164])) (hx175.trans (by rw [hm173])) (hc191.trans (by rw [hx190])) (hc197.trans (by rw [hx196]))), ⟨(by rw [hc197]; exact Nat.mod_lt _ (by decide)), hW.1, hW.2.1, hW.2.2.1, (by rw [hc191]; exact Nat.mod_lt _ (by decide)), hW.2.2.2.2.1, hW.2.2.2.2.2.1, hW.2.2.2.2.2.2.1⟩⟩
            omega
        ·
          have hc_6' := of_decide_eq_false hc_6
          refine W_exit ?_
          refine Th_x ?_
          refine Th_x ?_
          obtain rfl : t = 80 := by omega
          have H_40 : Hp w0 [] w_19 [Ent.blk bk14 94 (ua .u64 [va, vb, vc, vd, ve, vf, vg, vh]), Ent.own vW 42 1 80 (us .u64 (Sm.sched Sm.k512 (((Sm.full Sm.k512 l).drop (128 * j)).take 128) 80)), Ent.own (Value.slice fa42 fM42 fc42) 5 1 fM42 (us .u8 (Sm.full Sm.k512 l)), Ent.blk bk6 94 (ua .u64 [(Sm.run Sm.k512 (Sm.full Sm.k512 l) j).a, (Sm.run Sm.k512 (Sm.full Sm.k512 l) j).b, (Sm.run Sm.k512 (Sm.full Sm.k512 l) j).c, (Sm.run Sm.k512 (Sm.full Sm.k512 l) j).d, (Sm.run Sm.k512 (Sm.full Sm.k512 l) j).e, (Sm.run Sm.k512 (Sm.full Sm.k512 l) j).f, (Sm.run Sm.k512 (Sm.full Sm.k512 l) j).g, (Sm.run Sm.k512 (Sm.full Sm.k512 l) j).h]), Ent.blk bk2 87 (ua .i64 [64, 80, 28, 34, 39, 14, 18, 41, 1, 8, 7, 19, 61, 6])] := by have h := H_26; exact h
          refine InB_hit ?_
          refine Th_n ?_
          refine W_seq ?_
          refine W_rg ?_
          refine L_as rfl ?_
          refine L_nil ?_
          refine Th_n ?_
          refine W_block ?_
          refine W_rounds 9 ?_
          refine Wr_s ?_
          refine W_seq ?_
          refine W_seq ?_
          refine W_rg ?_
          refine L_mv rfl ?_
          refine L_y rfl (Y_lss (k := .i64) (a := ((0 : Nat) : Int)) (b := ((8 : Nat) : Int)) rfl rfl) ?_
          refine L_nil ?_
          refine Th_n ?_
          refine W_true (congrArg Value.bool (by decide : (decide (((0 : Nat) : Int) < ((8 : Nat) : Int))) = true)) ?_
          refine W_skip ?_
          refine Th_n ?_
          refine W_seq ?_
          refine W_block ?_
          refine W_quiet H_40 10 [Value.int .i64 ((0 : Nat) : Int), Value.agg (ua .i64 [64, 80, 28, 34, 39, 14, 18, 41, 1, 8, 7, 19, 61, 6]), Value.int .i64 ((0 : Nat) : Int), Value.pointer (some ⟨bk6, 0, none⟩), Value.int .u64 (((Sm.run Sm.k512 (Sm.full Sm.k512 l) j).a : Nat) : Int), Value.int .i64 ((0 : Nat) : Int), Value.pointer (some ⟨bk14, 0, none⟩), Value.int .u64 ((va : Nat) : Int), Value.int .u64 (((((Sm.run Sm.k512 (Sm.full Sm.k512 l) j).a) + va) % 18446744073709551616 : Nat) : Int), Value.int .u64 (((((((Sm.run Sm.k512 (Sm.full Sm.k512 l) j).a) + va) % 18446744073709551616) % 18446744073709551616) : Nat) : Int)] T_mixed (by kernel_rfl) ?_ ?_
          ·
            refine .plain rfl (Pl_y rfl (fun w hBw => rfl)) ?_
            refine .plain rfl (Pl_y rfl (fun w hBw => Y_ldr T_row87 hBw (i := 4) rfl e_8_2 rfl)) ?_
            refine .plain rfl (Pl_y rfl (fun w hBw => rfl)) ?_
            refine .plain rfl (Pl_y rfl (fun w hBw => Y_idxA 0 0 T_arr94 e_8_6 rfl rfl (by decide) (zz1 _))) ?_
            refine .plain rfl (Pl_y rfl (fun w hBw => Y_ld T_scal42 hBw (i := 3) rfl rfl rfl)) ?_
            refine .plain rfl (Pl_y rfl (fun w hBw => rfl)) ?_
            refine .plain rfl (Pl_y rfl (fun w hBw => Y_idxA 0 0 T_arr94 e_8_14 rfl rfl (by decide) (zz1 _))) ?_
            refine .plain rfl (Pl_y rfl (fun w hBw => Y_ld T_scal42 hBw (i := 0) rfl rfl rfl)) ?_
            refine .plain rfl (Pl_y rfl (fun w hBw => Yu_add (k := .u64) rfl ((Sm.run Sm.k512 (Sm.full Sm.k512 l) j).a) va rfl rfl)) ?_
            refine .plain rfl (Pl_c rfl T_en54 (A2 rfl rfl) (fun w hBw => cut512_n ((((Sm.run Sm.k512 (Sm.full Sm.k512 l) j).a) + va) % 18446744073709551616) (Nat.mod_lt _ (by decide)) _)) ?_
            exact .nil _
          ·
            intro e_10 w_33 hAg H_41
            have e_10_2 : e_10 2 = Value.pointer (some ⟨bk2, 0, none⟩) := (hAg 2 rfl).trans e_8_2
            have e_10_5 : e_10 5 = Value.int .i64 ((8 : Nat) : Int) := (hAg 5 rfl).trans e_8_5
            have e_10_6 : e_10 6 = Value.pointer (some ⟨bk6, 0, none⟩) := (hAg 6 rfl).trans e_8_6
            have e_10_8 : e_10 8 = Value.slice fa42 fM42 fc42 := (hAg 8 rfl).trans e_8_8
            have e_10_9 : e_10 9 = Value.int .i64 ((128 * j : Nat) : Int) := (hAg 9 rfl).trans e_8_9
            have e_10_14 : e_10 14 = Value.pointer (some ⟨bk14, 0, none⟩) := (hAg 14 rfl).trans e_8_14
            have e_10_21 : e_10 21 = Value.int .i64 ((0 : Nat) : Int) := (hAg 21 rfl).trans rfl
            have e_10_203 : e_10 203 = Value.int .i64 ((0 : Nat) : Int) := (hAg 203 rfl).trans rfl
            obtain ⟨x212, hx212⟩ : ∃ z_ : Nat, z_ = (((((Sm.run Sm.k512 (Sm.full Sm.k512 l) j).a) + va) % 18446744073709551616) % 18446744073709551616) := ⟨_, rfl⟩
            have e_10_212 : e_10 212 = Value.int .u64 ((x212 : Nat) : Int) := (hAg 212 rfl).trans (by rw [hx212]; exact rfl)
            refine L_y rfl (Y_idxA 0 0 T_arr94 e_10_6 e_10_203 rfl (by decide) (zz1 _)) ?_
            refine L_st (v := Value.int .u64 ((x212 : Nat) : Int)) T_scal42 H_41 (i := 3) rfl rfl e_10_212 rfl (Nat.le_of_ble_eq_true rfl) (l' := [Ent.blk bk14 94 (ua .u64 [va, vb, vc, vd, ve, vf, vg, vh]), Ent.own vW 42 1 80 (us .u64 (Sm.sched Sm.k512 (((Sm.full Sm.k512 l).drop (128 * j)).take 128) 80)), Ent.own (Value.slice fa42 fM42 fc42) 5 1 fM42 (us .u8 (Sm.full Sm.k512 l)), Ent.blk bk6 94 (ua .u64 [x212, (Sm.run Sm.k512 (Sm.full Sm.k512 l) j).b, (Sm.run Sm.k512 (Sm.full Sm.k512 l) j).c, (Sm.run Sm.k512 (Sm.full Sm.k512 l) j).d, (Sm.run Sm.k512 (Sm.full Sm.k512 l) j).e, (Sm.run Sm.k512 (Sm.full Sm.k512 l) j).f, (Sm.run Sm.k512 (Sm.full Sm.k512 l) j).g, (Sm.run Sm.k512 (Sm.full Sm.k512 l) j).h]), Ent.blk bk2 87 (ua .i64 [64, 80, 28, 34, 39, 14, 18, 41, 1, 8, 7, 19, 61, 6])]) (by rw [ua_set]; rfl) ?_; intro w_34 H_42
            refine L_nil ?_
            refine InB_n ?_
            refine Th_n ?_
            refine W_rg ?_
            refine L_mv rfl ?_
            refine L_y rfl (Y_add (k := .i64) (a := ((0 : Nat) : Int)) (b := ((1 : Nat) : Int)) (z := ((1 : Nat) : Int)) e_10_21 rfl (by decide)) ?_
            refine L_as rfl ?_
            refine L_nil ?_
            refine Th_n ?_
            refine Wr_s ?_
            refine W_seq ?_
            refine W_seq ?_
            refine W_rg ?_
            refine L_mv rfl ?_
            refine L_y rfl (Y_lss (k := .i64) (a := ((1 : Nat) : Int)) (b := ((8 : Nat) : Int)) rfl rfl) ?_
            refine L_nil ?_
            refine Th_n ?_
            refine W_true (congrArg Value.bool (by decide : (decide (((1 : Nat) : Int) < ((8 : Nat) : Int))) = true)) ?_
            refine W_skip ?_
            refine Th_n ?_
            refine W_seq ?_
            refine W_block ?_
            refine W_quiet H_42 10 [Value.int .i64 ((1 : Nat) : Int), Value.agg (ua .i64 [64, 80, 28, 34, 39, 14, 18, 41, 1, 8, 7, 19, 61, 6]), Value.int .i64 ((1 : Nat) : Int), Value.pointer (some ⟨bk6, 1, none⟩), Value.int .u64 (((Sm.run Sm.k512 (Sm.full Sm.k512 l) j).b : Nat) : Int), Value.int .i64 ((1 : Nat) : Int), Value.pointer (some ⟨bk14, 1, none⟩), Value.int .u64 ((vb : Nat) : Int), Value.int .u64 (((((Sm.run Sm.k512 (Sm.full Sm.k512 l) j).b) + vb) % 18446744073709551616 : Nat) : Int), Value.int .u64 (((((((Sm.run Sm.k512 (Sm.full Sm.k512 l) j).b) + vb) % 18446744073709551616) % 18446744073709551616) : Nat) : Int)] T_mixed (by kernel_rfl) ?_ ?_
            ·
              refine .plain rfl (Pl_y rfl (fun w hBw => rfl)) ?_
              refine .plain rfl (Pl_y rfl (fun w hBw => Y_ldr T_row87 hBw (i := 4) rfl e_10_2 rfl)) ?_
              refine .plain rfl (Pl_y rfl (fun w hBw => rfl)) ?_
              refine .plain rfl (Pl_y rfl (fun w hBw => Y_idxA 1 1 T_arr94 e_10_6 rfl rfl (by decide) (zz1 _))) ?_
              refine .plain rfl (Pl_y rfl (fun w hBw => Y_ld T_scal42 hBw (i := 3) rfl rfl rfl)) ?_
              refine .plain rfl (Pl_y rfl (fun w hBw => rfl)) ?_
              refine .plain rfl (Pl_y rfl (fun w hBw => Y_idxA 1 1 T_arr94 e_10_14 rfl rfl (by decide) (zz1 _))) ?_
              refine .plain rfl (Pl_y rfl (fun w hBw => Y_ld T_scal42 hBw (i := 0) rfl rfl rfl)) ?_
              refine .plain rfl (Pl_y rfl (fun w hBw => Yu_add (k := .u64) rfl ((Sm.run Sm.k512 (Sm.full Sm.k512 l) j).b) vb rfl rfl)) ?_
              refine .plain rfl (Pl_c rfl T_en54 (A2 rfl rfl) (fun w hBw => cut512_n ((((Sm.run Sm.k512 (Sm.full Sm.k512 l) j).b) + vb) % 18446744073709551616) (Nat.mod_lt _ (by decide)) _)) ?_
              exact .nil _
            ·
              intro e_11 w_35 hAg H_43
              have e_11_2 : e_11 2 = Value.pointer (some ⟨bk2, 0, none⟩) := (hAg 2 rfl).trans e_10_2
              have e_11_5 : e_11 5 = Value.int .i64 ((8 : Nat) : Int) := (hAg 5 rfl).trans e_10_5
              have e_11_6 : e_11 6 = Value.pointer (some ⟨bk6, 0, none⟩) := (hAg 6 rfl).trans e_10_6
              have e_11_8 : e_11 8 = Value.slice fa42 fM42 fc42 := (hAg 8 rfl).trans e_10_8
              have e_11_9 : e_11 9 = Value.int .i64 ((128 * j : Nat) : Int) := (hAg 9 rfl).trans e_10_9
              have e_11_14 : e_11 14 = Value.pointer (some ⟨bk14, 0, none⟩) := (hAg 14 rfl).trans e_10_14
              have e_11_21 : e_11 21 = Value.int .i64 ((1 : Nat) : Int) := (hAg 21 rfl).trans rfl
              have e_11_203 : e_11 203 = Value.int .i64 ((1 : Nat) : Int) := (hAg 203 rfl).trans rfl
              obtain ⟨x212_2, hx212_2⟩ : ∃ z_ : Nat, z_ = (((((Sm.run Sm.k512 (Sm.full Sm.k512 l) j).b) + vb) % 18446744073709551616) % 18446744073709551616) := ⟨_, rfl⟩
              have e_11_212 : e_11 212 = Value.int .u64 ((x212_2 : Nat) : Int) := (hAg 212 rfl).trans (by rw [hx212_2]; exact rfl)
              refine L_y rfl (Y_idxA 1 1 T_arr94 e_11_6 e_11_203 rfl (by decide) (zz1 _)) ?_
              refine L_st (v := Value.int .u64 ((x212_2 : Nat) : Int)) T_scal42 H_43 (i := 3) rfl rfl e_11_212 rfl (Nat.le_of_ble_eq_true rfl) (l' := [Ent.blk bk14 94 (ua .u64 [va, vb, vc, vd, ve, vf, vg, vh]), Ent.own vW 42 1 80 (us .u64 (Sm.sched Sm.k512 (((Sm.full Sm.k512 l).drop (128 * j)).take 128) 80)), Ent.own (Value.slice fa42 fM42 fc42) 5 1 fM42 (us .u8 (Sm.full Sm.k512 l)), Ent.blk bk6 94 (ua .u64 [x212, x212_2, (Sm.run Sm.k512 (Sm.full Sm.k512 l) j).c, (Sm.run Sm.k512 (Sm.full Sm.k512 l) j).d, (Sm.run Sm.k512 (Sm.full Sm.k512 l) j).e, (Sm.run Sm.k512 (Sm.full Sm.k512 l) j).f, (Sm.run Sm.k512 (Sm.full Sm.k512 l) j).g, (Sm.run Sm.k512 (Sm.full Sm.k512 l) j).h]), Ent.blk bk2 87 (ua .i64 [64, 80, 28, 34, 39, 14, 18, 41, 1, 8, 7, 19, 61, 6])]) (by rw [ua_set]; rfl) ?_; intro w_36 H_44
              refine L_nil ?_
              refine InB_n ?_
              refine Th_n ?_
              refine W_rg ?_
              refine L_mv rfl ?_
              refine L_y rfl (Y_add (k := .i64) (a := ((1 : Nat) : Int)) (b := ((1 : Nat) : Int)) (z := ((2 : Nat) : Int)) e_11_21 rfl (by decide)) ?_
              refine L_as rfl ?_
              refine L_nil ?_
              refine Th_n ?_
              refine Wr_s ?_
              refine W_seq ?_
              refine W_seq ?_
              refine W_rg ?_
              refine L_mv rfl ?_
              refine L_y rfl (Y_lss (k := .i64) (a := ((2 : Nat) : Int)) (b := ((8 : Nat) : Int)) rfl rfl) ?_
              refine L_nil ?_
              refine Th_n ?_
              refine W_true (congrArg Value.bool (by decide : (decide (((2 : Nat) : Int) < ((8 : Nat) : Int))) = true)) ?_
              refine W_skip ?_
              refine Th_n ?_
              refine W_seq ?_
              refine W_block ?_
              refine W_quiet H_44 10 [Value.int .i64 ((2 : Nat) : Int), Value.agg (ua .i64 [64, 80, 28, 34, 39, 14, 18, 41, 1, 8, 7, 19, 61, 6]), Value.int .i64 ((2 : Nat) : Int), Value.pointer (some ⟨bk6, 2, none⟩), Value.int .u64 (((Sm.run Sm.k512 (Sm.full Sm.k512 l) j).c : Nat) : Int), Value.int .i64 ((2 : Nat) : Int), Value.pointer (some ⟨bk14, 2, none⟩), Value.int .u64 ((vc : Nat) : Int), Value.int .u64 (((((Sm.run Sm.k512 (Sm.full Sm.k512 l) j).c) + vc) % 18446744073709551616 : Nat) : Int), Value.int .u64 (((((((Sm.run Sm.k512 (Sm.full Sm.k512 l) j).c) + vc) % 18446744073709551616) % 18446744073709551616) : Nat) : Int)] T_mixed (by kernel_rfl) ?_ ?_
              ·
                refine .plain rfl (Pl_y rfl (fun w hBw => rfl)) ?_
                refine .plain rfl (Pl_y rfl (fun w hBw => Y_ldr T_row87 hBw (i := 4) rfl e_11_2 rfl)) ?_
                refine .plain rfl (Pl_y rfl (fun w hBw => rfl)) ?_
                refine .plain rfl (Pl_y rfl (fun w hBw => Y_idxA 2 2 T_arr94 e_11_6 rfl rfl (by decide) (zz1 _))) ?_
                refine .plain rfl (Pl_y rfl (fun w hBw => Y_ld T_scal42 hBw (i := 3) rfl rfl rfl)) ?_
                refine .plain rfl (Pl_y rfl (fun w hBw => rfl)) ?_
                refine .plain rfl (Pl_y rfl (fun w hBw => Y_idxA 2 2 T_arr94 e_11_14 rfl rfl (by decide) (zz1 _))) ?_
                refine .plain rfl (Pl_y rfl (fun w hBw => Y_ld T_scal42 hBw (i := 0) rfl rfl rfl)) ?_
                refine .plain rfl (Pl_y rfl (fun w hBw => Yu_add (k := .u64) rfl ((Sm.run Sm.k512 (Sm.full Sm.k512 l) j).c) vc rfl rfl)) ?_
                refine .plain rfl (Pl_c rfl T_en54 (A2 rfl rfl) (fun w hBw => cut512_n ((((Sm.run Sm.k512 (Sm.full Sm.k512 l) j).c) + vc) % 18446744073709551616) (Nat.mod_lt _ (by decide)) _)) ?_
                exact .nil _
              ·
                intro e_12 w_37 hAg H_45
                have e_12_2 : e_12 2 = Value.pointer (some ⟨bk2, 0, none⟩) := (hAg 2 rfl).trans e_11_2
                have e_12_5 : e_12 5 = Value.int .i64 ((8 : Nat) : Int) := (hAg 5 rfl).trans e_11_5
                have e_12_6 : e_12 6 = Value.pointer (some ⟨bk6, 0, none⟩) := (hAg 6 rfl).trans e_11_6
                have e_12_8 : e_12 8 = Value.slice fa42 fM42 fc42 := (hAg 8 rfl).trans e_11_8
                have e_12_9 : e_12 9 = Value.int .i64 ((128 * j : Nat) : Int) := (hAg 9 rfl).trans e_11_9
                have e_12_14 : e_12 14 = Value.pointer (some ⟨bk14, 0, none⟩) := (hAg 14 rfl).trans e_11_14
                have e_12_21 : e_12 21 = Value.int .i64 ((2 : Nat) : Int) := (hAg 21 rfl).trans rfl
                have e_12_203 : e_12 203 = Value.int .i64 ((2 : Nat) : Int) := (hAg 203 rfl).trans rfl
                obtain ⟨x212_3, hx212_3⟩ : ∃ z_ : Nat, z_ = (((((Sm.run Sm.k512 (Sm.full Sm.k512 l) j).c) + vc) % 18446744073709551616) % 18446744073709551616) := ⟨_, rfl⟩
                have e_12_212 : e_12 212 = Value.int .u64 ((x212_3 : Nat) : Int) := (hAg 212 rfl).trans (by rw [hx212_3]; exact rfl)
                refine L_y rfl (Y_idxA 2 2 T_arr94 e_12_6 e_12_203 rfl (by decide) (zz1 _)) ?_
                refine L_st (v := Value.int .u64 ((x212_3 : Nat) : Int)) T_scal42 H_45 (i := 3) rfl rfl e_12_212 rfl (Nat.le_of_ble_eq_true rfl) (l' := [Ent.blk bk14 94 (ua .u64 [va, vb, vc, vd, ve, vf, vg, vh]), Ent.own vW 42 1 80 (us .u64 (Sm.sched Sm.k512 (((Sm.full Sm.k512 l).drop (128 * j)).take 128) 80)), Ent.own (Value.slice fa42 fM42 fc42) 5 1 fM42 (us .u8 (Sm.full Sm.k512 l)), Ent.blk bk6 94 (ua .u64 [x212, x212_2, x212_3, (Sm.run Sm.k512 (Sm.full Sm.k512 l) j).d, (Sm.run Sm.k512 (Sm.full Sm.k512 l) j).e, (Sm.run Sm.k512 (Sm.full Sm.k512 l) j).f, (Sm.run Sm.k512 (Sm.full Sm.k512 l) j).g, (Sm.run Sm.k512 (Sm.full Sm.k512 l) j).h]), Ent.blk bk2 87 (ua .i64 [64, 80, 28, 34, 39, 14, 18, 41, 1, 8, 7, 19, 61, 6])]) (by rw [ua_set]; rfl) ?_; intro w_38 H_46
                refine L_nil ?_
                refine InB_n ?_
                refine Th_n ?_
                refine W_rg ?_
                refine L_mv rfl ?_
                refine L_y rfl (Y_add (k := .i64) (a := ((2 : Nat) : Int)) (b := ((1 : Nat) : Int)) (z := ((3 : Nat) : Int)) e_12_21 rfl (by decide)) ?_
                refine L_as rfl ?_
                refine L_nil ?_
                refine Th_n ?_
                refine Wr_s ?_
                refine W_seq ?_
                refine W_seq ?_
                refine W_rg ?_
                refine L_mv rfl ?_
                refine L_y rfl (Y_lss (k := .i64) (a := ((3 : Nat) : Int)) (b := ((8 : Nat) : Int)) rfl rfl) ?_
                refine L_nil ?_
                refine Th_n ?_
                refine W_true (congrArg Value.bool (by decide : (decide (((3 : Nat) : Int) < ((8 : Nat) : Int))) = true)) ?_
                refine W_skip ?_
                refine Th_n ?_
                refine W_seq ?_
                refine W_block ?_
                refine W_quiet H_46 10 [Value.int .i64 ((3 : Nat) : Int), Value.agg (ua .i64 [64, 80, 28, 34, 39, 14, 18, 41, 1, 8, 7, 19, 61, 6]), Value.int .i64 ((3 : Nat) : Int), Value.pointer (some ⟨bk6, 3, none⟩), Value.int .u64 (((Sm.run Sm.k512 (Sm.full Sm.k512 l) j).d : Nat) : Int), Value.int .i64 ((3 : Nat) : Int), Value.pointer (some ⟨bk14, 3, none⟩), Value.int .u64 ((vd : Nat) : Int), Value.int .u64 (((((Sm.run Sm.k512 (Sm.full Sm.k512 l) j).d) + vd) % 18446744073709551616 : Nat) : Int), Value.int .u64 (((((((Sm.run Sm.k512 (Sm.full Sm.k512 l) j).d) + vd) % 18446744073709551616) % 18446744073709551616) : Nat) : Int)] T_mixed (by kernel_rfl) ?_ ?_
                ·
                  refine .plain rfl (Pl_y rfl (fun w hBw => rfl)) ?_
                  refine .plain rfl (Pl_y rfl (fun w hBw => Y_ldr T_row87 hBw (i := 4) rfl e_12_2 rfl)) ?_
                  refine .plain rfl (Pl_y rfl (fun w hBw => rfl)) ?_
                  refine .plain rfl (Pl_y rfl (fun w hBw => Y_idxA 3 3 T_arr94 e_12_6 rfl rfl (by decide) (zz1 _))) ?_
                  refine .plain rfl (Pl_y rfl (fun w hBw => Y_ld T_scal42 hBw (i := 3) rfl rfl rfl)) ?_
                  refine .plain rfl (Pl_y rfl (fun w hBw => rfl)) ?_
                  refine .plain rfl (Pl_y rfl (fun w hBw => Y_idxA 3 3 T_arr94 e_12_14 rfl rfl (by decide) (zz1 _))) ?_
                  refine .plain rfl (Pl_y rfl (fun w hBw => Y_ld T_scal42 hBw (i := 0) rfl rfl rfl)) ?_
                  refine .plain rfl (Pl_y rfl (fun w hBw => Yu_add (k := .u64) rfl ((Sm.run Sm.k512 (Sm.full Sm.k512 l) j).d) vd rfl rfl)) ?_
                  refine .plain rfl (Pl_c rfl T_en54 (A2 rfl rfl) (fun w hBw => cut512_n ((((Sm.run Sm.k512 (Sm.full Sm.k512 l) j).d) + vd) % 18446744073709551616) (Nat.mod_lt _ (by decide)) _)) ?_
                  exact .nil _
                ·
                  intro e_13 w_39 hAg H_47
                  have e_13_2 : e_13 2 = Value.pointer (some ⟨bk2, 0, none⟩) := (hAg 2 rfl).trans e_12_2
                  have e_13_5 : e_13 5 = Value.int .i64 ((8 : Nat) : Int) := (hAg 5 rfl).trans e_12_5
                  have e_13_6 : e_13 6 = Value.pointer (some ⟨bk6, 0, none⟩) := (hAg 6 rfl).trans e_12_6
                  have e_13_8 : e_13 8 = Value.slice fa42 fM42 fc42 := (hAg 8 rfl).trans e_12_8
                  have e_13_9 : e_13 9 = Value.int .i64 ((128 * j : Nat) : Int) := (hAg 9 rfl).trans e_12_9
                  have e_13_14 : e_13 14 = Value.pointer (some ⟨bk14, 0, none⟩) := (hAg 14 rfl).trans e_12_14
                  have e_13_21 : e_13 21 = Value.int .i64 ((3 : Nat) : Int) := (hAg 21 rfl).trans rfl
                  have e_13_203 : e_13 203 = Value.int .i64 ((3 : Nat) : Int) := (hAg 203 rfl).trans rfl
                  obtain ⟨x212_4, hx212_4⟩ : ∃ z_ : Nat, z_ = (((((Sm.run Sm.k512 (Sm.full Sm.k512 l) j).d) + vd) % 18446744073709551616) % 18446744073709551616) := ⟨_, rfl⟩
                  have e_13_212 : e_13 212 = Value.int .u64 ((x212_4 : Nat) : Int) := (hAg 212 rfl).trans (by rw [hx212_4]; exact rfl)
                  refine L_y rfl (Y_idxA 3 3 T_arr94 e_13_6 e_13_203 rfl (by decide) (zz1 _)) ?_
                  refine L_st (v := Value.int .u64 ((x212_4 : Nat) : Int)) T_scal42 H_47 (i := 3) rfl rfl e_13_212 rfl (Nat.le_of_ble_eq_true rfl) (l' := [Ent.blk bk14 94 (ua .u64 [va, vb, vc, vd, ve, vf, vg, vh]), Ent.own vW 42 1 80 (us .u64 (Sm.sched Sm.k512 (((Sm.full Sm.k512 l).drop (128 * j)).take 128) 80)), Ent.own (Value.slice fa42 fM42 fc42) 5 1 fM42 (us .u8 (Sm.full Sm.k512 l)), Ent.blk bk6 94 (ua .u64 [x212, x212_2, x212_3, x212_4, (Sm.run Sm.k512 (Sm.full Sm.k512 l) j).e, (Sm.run Sm.k512 (Sm.full Sm.k512 l) j).f, (Sm.run Sm.k512 (Sm.full Sm.k512 l) j).g, (Sm.run Sm.k512 (Sm.full Sm.k512 l) j).h]), Ent.blk bk2 87 (ua .i64 [64, 80, 28, 34, 39, 14, 18, 41, 1, 8, 7, 19, 61, 6])]) (by rw [ua_set]; rfl) ?_; intro w_40 H_48
                  refine L_nil ?_
                  refine InB_n ?_
                  refine Th_n ?_
                  refine W_rg ?_
                  refine L_mv rfl ?_
                  refine L_y rfl (Y_add (k := .i64) (a := ((3 : Nat) : Int)) (b := ((1 : Nat) : Int)) (z := ((4 : Nat) : Int)) e_13_21 rfl (by decide)) ?_
                  refine L_as rfl ?_
                  refine L_nil ?_
                  refine Th_n ?_
                  refine Wr_s ?_
                  refine W_seq ?_
                  refine W_seq ?_
                  refine W_rg ?_
                  refine L_mv rfl ?_
                  refine L_y rfl (Y_lss (k := .i64) (a := ((4 : Nat) : Int)) (b := ((8 : Nat) : Int)) rfl rfl) ?_
                  refine L_nil ?_
                  refine Th_n ?_
                  refine W_true (congrArg Value.bool (by decide : (decide (((4 : Nat) : Int) < ((8 : Nat) : Int))) = true)) ?_
                  refine W_skip ?_
                  refine Th_n ?_
                  refine W_seq ?_
                  refine W_block ?_
                  refine W_quiet H_48 10 [Value.int .i64 ((4 : Nat) : Int), Value.agg (ua .i64 [64, 80, 28, 34, 39, 14, 18, 41, 1, 8, 7, 19, 61, 6]), Value.int .i64 ((4 : Nat) : Int), Value.pointer (some ⟨bk6, 4, none⟩), Value.int .u64 (((Sm.run Sm.k512 (Sm.full Sm.k512 l) j).e : Nat) : Int), Value.int .i64 ((4 : Nat) : Int), Value.pointer (some ⟨bk14, 4, none⟩), Value.int .u64 ((ve : Nat) : Int), Value.int .u64 (((((Sm.run Sm.k512 (Sm.full Sm.k512 l) j).e) + ve) % 18446744073709551616 : Nat) : Int), Value.int .u64 (((((((Sm.run Sm.k512 (Sm.full Sm.k512 l) j).e) + ve) % 18446744073709551616) % 18446744073709551616) : Nat) : Int)] T_mixed (by kernel_rfl) ?_ ?_
                  ·
                    refine .plain rfl (Pl_y rfl (fun w hBw => rfl)) ?_
                    refine .plain rfl (Pl_y rfl (fun w hBw => Y_ldr T_row87 hBw (i := 4) rfl e_13_2 rfl)) ?_
                    refine .plain rfl (Pl_y rfl (fun w hBw => rfl)) ?_
                    refine .plain rfl (Pl_y rfl (fun w hBw => Y_idxA 4 4 T_arr94 e_13_6 rfl rfl (by decide) (zz1 _))) ?_
                    refine .plain rfl (Pl_y rfl (fun w hBw => Y_ld T_scal42 hBw (i := 3) rfl rfl rfl)) ?_
                    refine .plain rfl (Pl_y rfl (fun w hBw => rfl)) ?_
                    refine .plain rfl (Pl_y rfl (fun w hBw => Y_idxA 4 4 T_arr94 e_13_14 rfl rfl (by decide) (zz1 _))) ?_
                    refine .plain rfl (Pl_y rfl (fun w hBw => Y_ld T_scal42 hBw (i := 0) rfl rfl rfl)) ?_
                    refine .plain rfl (Pl_y rfl (fun w hBw => Yu_add (k := .u64) rfl ((Sm.run Sm.k512 (Sm.full Sm.k512 l) j).e) ve rfl rfl)) ?_
                    refine .plain rfl (Pl_c rfl T_en54 (A2 rfl rfl) (fun w hBw => cut512_n ((((Sm.run Sm.k512 (Sm.full Sm.k512 l) j).e) + ve) % 18446744073709551616) (Nat.mod_lt _ (by decide)) _)) ?_
                    exact .nil _
                  ·
                    intro e_14 w_41 hAg H_49
                    have e_14_2 : e_14 2 = Value.pointer (some ⟨bk2, 0, none⟩) := (hAg 2 rfl).trans e_13_2
                    have e_14_5 : e_14 5 = Value.int .i64 ((8 : Nat) : Int) := (hAg 5 rfl).trans e_13_5
                    have e_14_6 : e_14 6 = Value.pointer (some ⟨bk6, 0, none⟩) := (hAg 6 rfl).trans e_13_6
                    have e_14_8 : e_14 8 = Value.slice fa42 fM42 fc42 := (hAg 8 rfl).trans e_13_8
                    have e_14_9 : e_14 9 = Value.int .i64 ((128 * j : Nat) : Int) := (hAg 9 rfl).trans e_13_9
                    have e_14_14 : e_14 14 = Value.pointer (some ⟨bk14, 0, none⟩) := (hAg 14 rfl).trans e_13_14
                    have e_14_21 : e_14 21 = Value.int .i64 ((4 : Nat) : Int) := (hAg 21 rfl).trans rfl
                    have e_14_203 : e_14 203 = Value.int .i64 ((4 : Nat) : Int) := (hAg 203 rfl).trans rfl
                    obtain ⟨x212_5, hx212_5⟩ : ∃ z_ : Nat, z_ = (((((Sm.run Sm.k512 (Sm.full Sm.k512 l) j).e) + ve) % 18446744073709551616) % 18446744073709551616) := ⟨_, rfl⟩
                    have e_14_212 : e_14 212 = Value.int .u64 ((x212_5 : Nat) : Int) := (hAg 212 rfl).trans (by rw [hx212_5]; exact rfl)
                    refine L_y rfl (Y_idxA 4 4 T_arr94 e_14_6 e_14_203 rfl (by decide) (zz1 _)) ?_
                    refine L_st (v := Value.int .u64 ((x212_5 : Nat) : Int)) T_scal42 H_49 (i := 3) rfl rfl e_14_212 rfl (Nat.le_of_ble_eq_true rfl) (l' := [Ent.blk bk14 94 (ua .u64 [va, vb, vc, vd, ve, vf, vg, vh]), Ent.own vW 42 1 80 (us .u64 (Sm.sched Sm.k512 (((Sm.full Sm.k512 l).drop (128 * j)).take 128) 80)), Ent.own (Value.slice fa42 fM42 fc42) 5 1 fM42 (us .u8 (Sm.full Sm.k512 l)), Ent.blk bk6 94 (ua .u64 [x212, x212_2, x212_3, x212_4, x212_5, (Sm.run Sm.k512 (Sm.full Sm.k512 l) j).f, (Sm.run Sm.k512 (Sm.full Sm.k512 l) j).g, (Sm.run Sm.k512 (Sm.full Sm.k512 l) j).h]), Ent.blk bk2 87 (ua .i64 [64, 80, 28, 34, 39, 14, 18, 41, 1, 8, 7, 19, 61, 6])]) (by rw [ua_set]; rfl) ?_; intro w_42 H_50
                    refine L_nil ?_
                    refine InB_n ?_
                    refine Th_n ?_
                    refine W_rg ?_
                    refine L_mv rfl ?_
                    refine L_y rfl (Y_add (k := .i64) (a := ((4 : Nat) : Int)) (b := ((1 : Nat) : Int)) (z := ((5 : Nat) : Int)) e_14_21 rfl (by decide)) ?_
                    refine L_as rfl ?_
                    refine L_nil ?_
                    refine Th_n ?_
                    refine Wr_s ?_
                    refine W_seq ?_
                    refine W_seq ?_
                    refine W_rg ?_
                    refine L_mv rfl ?_
                    refine L_y rfl (Y_lss (k := .i64) (a := ((5 : Nat) : Int)) (b := ((8 : Nat) : Int)) rfl rfl) ?_
                    refine L_nil ?_
                    refine Th_n ?_
                    refine W_true (congrArg Value.bool (by decide : (decide (((5 : Nat) : Int) < ((8 : Nat) : Int))) = true)) ?_
                    refine W_skip ?_
                    refine Th_n ?_
                    refine W_seq ?_
                    refine W_block ?_
                    refine W_quiet H_50 10 [Value.int .i64 ((5 : Nat) : Int), Value.agg (ua .i64 [64, 80, 28, 34, 39, 14, 18, 41, 1, 8, 7, 19, 61, 6]), Value.int .i64 ((5 : Nat) : Int), Value.pointer (some ⟨bk6, 5, none⟩), Value.int .u64 (((Sm.run Sm.k512 (Sm.full Sm.k512 l) j).f : Nat) : Int), Value.int .i64 ((5 : Nat) : Int), Value.pointer (some ⟨bk14, 5, none⟩), Value.int .u64 ((vf : Nat) : Int), Value.int .u64 (((((Sm.run Sm.k512 (Sm.full Sm.k512 l) j).f) + vf) % 18446744073709551616 : Nat) : Int), Value.int .u64 (((((((Sm.run Sm.k512 (Sm.full Sm.k512 l) j).f) + vf) % 18446744073709551616) % 18446744073709551616) : Nat) : Int)] T_mixed (by kernel_rfl) ?_ ?_
                    ·
                      refine .plain rfl (Pl_y rfl (fun w hBw => rfl)) ?_
                      refine .plain rfl (Pl_y rfl (fun w hBw => Y_ldr T_row87 hBw (i := 4) rfl e_14_2 rfl)) ?_
                      refine .plain rfl (Pl_y rfl (fun w hBw => rfl)) ?_
                      refine .plain rfl (Pl_y rfl (fun w hBw => Y_idxA 5 5 T_arr94 e_14_6 rfl rfl (by decide) (zz1 _))) ?_
                      refine .plain rfl (Pl_y rfl (fun w hBw => Y_ld T_scal42 hBw (i := 3) rfl rfl rfl)) ?_
                      refine .plain rfl (Pl_y rfl (fun w hBw => rfl)) ?_
                      refine .plain rfl (Pl_y rfl (fun w hBw => Y_idxA 5 5 T_arr94 e_14_14 rfl rfl (by decide) (zz1 _))) ?_
                      refine .plain rfl (Pl_y rfl (fun w hBw => Y_ld T_scal42 hBw (i := 0) rfl rfl rfl)) ?_
                      refine .plain rfl (Pl_y rfl (fun w hBw => Yu_add (k := .u64) rfl ((Sm.run Sm.k512 (Sm.full Sm.k512 l) j).f) vf rfl rfl)) ?_
                      refine .plain rfl (Pl_c rfl T_en54 (A2 rfl rfl) (fun w hBw => cut512_n ((((Sm.run Sm.k512 (Sm.full Sm.k512 l) j).f) + vf) % 18446744073709551616) (Nat.mod_lt _ (by decide)) _)) ?_
                      exact .nil _
                    ·
                      intro e_15 w_43 hAg H_51
                      have e_15_2 : e_15 2 = Value.pointer (some ⟨bk2, 0, none⟩) := (hAg 2 rfl).trans e_14_2
                      have e_15_5 : e_15 5 = Value.int .i64 ((8 : Nat) : Int) := (hAg 5 rfl).trans e_14_5
                      have e_15_6 : e_15 6 = Value.pointer (some ⟨bk6, 0, none⟩) := (hAg 6 rfl).trans e_14_6
                      have e_15_8 : e_15 8 = Value.slice fa42 fM42 fc42 := (hAg 8 rfl).trans e_14_8
                      have e_15_9 : e_15 9 = Value.int .i64 ((128 * j : Nat) : Int) := (hAg 9 rfl).trans e_14_9
                      have e_15_14 : e_15 14 = Value.pointer (some ⟨bk14, 0, none⟩) := (hAg 14 rfl).trans e_14_14
                      have e_15_21 : e_15 21 = Value.int .i64 ((5 : Nat) : Int) := (hAg 21 rfl).trans rfl
                      have e_15_203 : e_15 203 = Value.int .i64 ((5 : Nat) : Int) := (hAg 203 rfl).trans rfl
                      obtain ⟨x212_6, hx212_6⟩ : ∃ z_ : Nat, z_ = (((((Sm.run Sm.k512 (Sm.full Sm.k512 l) j).f) + vf) % 18446744073709551616) % 18446744073709551616) := ⟨_, rfl⟩
                      have e_15_212 : e_15 212 = Value.int .u64 ((x212_6 : Nat) : Int) := (hAg 212 rfl).trans (by rw [hx212_6]; exact rfl)
                      refine L_y rfl (Y_idxA 5 5 T_arr94 e_15_6 e_15_203 rfl (by decide) (zz1 _)) ?_
                      refine L_st (v := Value.int .u64 ((x212_6 : Nat) : Int)) T_scal42 H_51 (i := 3) rfl rfl e_15_212 rfl (Nat.le_of_ble_eq_true rfl) (l' := [Ent.blk bk14 94 (ua .u64 [va, vb, vc, vd, ve, vf, vg, vh]), Ent.own vW 42 1 80 (us .u64 (Sm.sched Sm.k512 (((Sm.full Sm.k512 l).drop (128 * j)).take 128) 80)), Ent.own (Value.slice fa42 fM42 fc42) 5 1 fM42 (us .u8 (Sm.full Sm.k512 l)), Ent.blk bk6 94 (ua .u64 [x212, x212_2, x212_3, x212_4, x212_5, x212_6, (Sm.run Sm.k512 (Sm.full Sm.k512 l) j).g, (Sm.run Sm.k512 (Sm.full Sm.k512 l) j).h]), Ent.blk bk2 87 (ua .i64 [64, 80, 28, 34, 39, 14, 18, 41, 1, 8, 7, 19, 61, 6])]) (by rw [ua_set]; rfl) ?_; intro w_44 H_52
                      refine L_nil ?_
                      refine InB_n ?_
                      refine Th_n ?_
                      refine W_rg ?_
                      refine L_mv rfl ?_
                      refine L_y rfl (Y_add (k := .i64) (a := ((5 : Nat) : Int)) (b := ((1 : Nat) : Int)) (z := ((6 : Nat) : Int)) e_15_21 rfl (by decide)) ?_
                      refine L_as rfl ?_
                      refine L_nil ?_
                      refine Th_n ?_
                      refine Wr_s ?_
                      refine W_seq ?_
                      refine W_seq ?_
                      refine W_rg ?_
                      refine L_mv rfl ?_
                      refine L_y rfl (Y_lss (k := .i64) (a := ((6 : Nat) : Int)) (b := ((8 : Nat) : Int)) rfl rfl) ?_
                      refine L_nil ?_
                      refine Th_n ?_
                      refine W_true (congrArg Value.bool (by decide : (decide (((6 : Nat) : Int) < ((8 : Nat) : Int))) = true)) ?_
                      refine W_skip ?_
                      refine Th_n ?_
                      refine W_seq ?_
                      refine W_block ?_
                      refine W_quiet H_52 10 [Value.int .i64 ((6 : Nat) : Int), Value.agg (ua .i64 [64, 80, 28, 34, 39, 14, 18, 41, 1, 8, 7, 19, 61, 6]), Value.int .i64 ((6 : Nat) : Int), Value.pointer (some ⟨bk6, 6, none⟩), Value.int .u64 (((Sm.run Sm.k512 (Sm.full Sm.k512 l) j).g : Nat) : Int), Value.int .i64 ((6 : Nat) : Int), Value.pointer (some ⟨bk14, 6, none⟩), Value.int .u64 ((vg : Nat) : Int), Value.int .u64 (((((Sm.run Sm.k512 (Sm.full Sm.k512 l) j).g) + vg) % 18446744073709551616 : Nat) : Int), Value.int .u64 (((((((Sm.run Sm.k512 (Sm.full Sm.k512 l) j).g) + vg) % 18446744073709551616) % 18446744073709551616) : Nat) : Int)] T_mixed (by kernel_rfl) ?_ ?_
                      ·
                        refine .plain rfl (Pl_y rfl (fun w hBw => rfl)) ?_
                        refine .plain rfl (Pl_y rfl (fun w hBw => Y_ldr T_row87 hBw (i := 4) rfl e_15_2 rfl)) ?_
                        refine .plain rfl (Pl_y rfl (fun w hBw => rfl)) ?_
                        refine .plain rfl (Pl_y rfl (fun w hBw => Y_idxA 6 6 T_arr94 e_15_6 rfl rfl (by decide) (zz1 _))) ?_
                        refine .plain rfl (Pl_y rfl (fun w hBw => Y_ld T_scal42 hBw (i := 3) rfl rfl rfl)) ?_
                        refine .plain rfl (Pl_y rfl (fun w hBw => rfl)) ?_
                        refine .plain rfl (Pl_y rfl (fun w hBw => Y_idxA 6 6 T_arr94 e_15_14 rfl rfl (by decide) (zz1 _))) ?_
                        refine .plain rfl (Pl_y rfl (fun w hBw => Y_ld T_scal42 hBw (i := 0) rfl rfl rfl)) ?_
                        refine .plain rfl (Pl_y rfl (fun w hBw => Yu_add (k := .u64) rfl ((Sm.run Sm.k512 (Sm.full Sm.k512 l) j).g) vg rfl rfl)) ?_
                        refine .plain rfl (Pl_c rfl T_en54 (A2 rfl rfl) (fun w hBw => cut512_n ((((Sm.run Sm.k512 (Sm.full Sm.k512 l) j).g) + vg) % 18446744073709551616) (Nat.mod_lt _ (by decide)) _)) ?_
                        exact .nil _
                      ·
                        intro e_16 w_45 hAg H_53
                        have e_16_2 : e_16 2 = Value.pointer (some ⟨bk2, 0, none⟩) := (hAg 2 rfl).trans e_15_2
                        have e_16_5 : e_16 5 = Value.int .i64 ((8 : Nat) : Int) := (hAg 5 rfl).trans e_15_5
                        have e_16_6 : e_16 6 = Value.pointer (some ⟨bk6, 0, none⟩) := (hAg 6 rfl).trans e_15_6
                        have e_16_8 : e_16 8 = Value.slice fa42 fM42 fc42 := (hAg 8 rfl).trans e_15_8
                        have e_16_9 : e_16 9 = Value.int .i64 ((128 * j : Nat) : Int) := (hAg 9 rfl).trans e_15_9
                        have e_16_14 : e_16 14 = Value.pointer (some ⟨bk14, 0, none⟩) := (hAg 14 rfl).trans e_15_14
                        have e_16_21 : e_16 21 = Value.int .i64 ((6 : Nat) : Int) := (hAg 21 rfl).trans rfl
                        have e_16_203 : e_16 203 = Value.int .i64 ((6 : Nat) : Int) := (hAg 203 rfl).trans rfl
                        obtain ⟨x212_7, hx212_7⟩ : ∃ z_ : Nat, z_ = (((((Sm.run Sm.k512 (Sm.full Sm.k512 l) j).g) + vg) % 18446744073709551616) % 18446744073709551616) := ⟨_, rfl⟩
                        have e_16_212 : e_16 212 = Value.int .u64 ((x212_7 : Nat) : Int) := (hAg 212 rfl).trans (by rw [hx212_7]; exact rfl)
                        refine L_y rfl (Y_idxA 6 6 T_arr94 e_16_6 e_16_203 rfl (by decide) (zz1 _)) ?_
                        refine L_st (v := Value.int .u64 ((x212_7 : Nat) : Int)) T_scal42 H_53 (i := 3) rfl rfl e_16_212 rfl (Nat.le_of_ble_eq_true rfl) (l' := [Ent.blk bk14 94 (ua .u64 [va, vb, vc, vd, ve, vf, vg, vh]), Ent.own vW 42 1 80 (us .u64 (Sm.sched Sm.k512 (((Sm.full Sm.k512 l).drop (128 * j)).take 128) 80)), Ent.own (Value.slice fa42 fM42 fc42) 5 1 fM42 (us .u8 (Sm.full Sm.k512 l)), Ent.blk bk6 94 (ua .u64 [x212, x212_2, x212_3, x212_4, x212_5, x212_6, x212_7, (Sm.run Sm.k512 (Sm.full Sm.k512 l) j).h]), Ent.blk bk2 87 (ua .i64 [64, 80, 28, 34, 39, 14, 18, 41, 1, 8, 7, 19, 61, 6])]) (by rw [ua_set]; rfl) ?_; intro w_46 H_54
                        refine L_nil ?_
                        refine InB_n ?_
                        refine Th_n ?_
                        refine W_rg ?_
                        refine L_mv rfl ?_
                        refine L_y rfl (Y_add (k := .i64) (a := ((6 : Nat) : Int)) (b := ((1 : Nat) : Int)) (z := ((7 : Nat) : Int)) e_16_21 rfl (by decide)) ?_
                        refine L_as rfl ?_
                        refine L_nil ?_
                        refine Th_n ?_
                        refine Wr_s ?_
                        refine W_seq ?_
                        refine W_seq ?_
                        refine W_rg ?_
                        refine L_mv rfl ?_
                        refine L_y rfl (Y_lss (k := .i64) (a := ((7 : Nat) : Int)) (b := ((8 : Nat) : Int)) rfl rfl) ?_
                        refine L_nil ?_
                        refine Th_n ?_
                        refine W_true (congrArg Value.bool (by decide : (decide (((7 : Nat) : Int) < ((8 : Nat) : Int))) = true)) ?_
                        refine W_skip ?_
                        refine Th_n ?_
                        refine W_seq ?_
                        refine W_block ?_
                        refine W_quiet H_54 10 [Value.int .i64 ((7 : Nat) : Int), Value.agg (ua .i64 [64, 80, 28, 34, 39, 14, 18, 41, 1, 8, 7, 19, 61, 6]), Value.int .i64 ((7 : Nat) : Int), Value.pointer (some ⟨bk6, 7, none⟩), Value.int .u64 (((Sm.run Sm.k512 (Sm.full Sm.k512 l) j).h : Nat) : Int), Value.int .i64 ((7 : Nat) : Int), Value.pointer (some ⟨bk14, 7, none⟩), Value.int .u64 ((vh : Nat) : Int), Value.int .u64 (((((Sm.run Sm.k512 (Sm.full Sm.k512 l) j).h) + vh) % 18446744073709551616 : Nat) : Int), Value.int .u64 (((((((Sm.run Sm.k512 (Sm.full Sm.k512 l) j).h) + vh) % 18446744073709551616) % 18446744073709551616) : Nat) : Int)] T_mixed (by kernel_rfl) ?_ ?_
                        ·
                          refine .plain rfl (Pl_y rfl (fun w hBw => rfl)) ?_
                          refine .plain rfl (Pl_y rfl (fun w hBw => Y_ldr T_row87 hBw (i := 4) rfl e_16_2 rfl)) ?_
                          refine .plain rfl (Pl_y rfl (fun w hBw => rfl)) ?_
                          refine .plain rfl (Pl_y rfl (fun w hBw => Y_idxA 7 7 T_arr94 e_16_6 rfl rfl (by decide) (zz1 _))) ?_
                          refine .plain rfl (Pl_y rfl (fun w hBw => Y_ld T_scal42 hBw (i := 3) rfl rfl rfl)) ?_
                          refine .plain rfl (Pl_y rfl (fun w hBw => rfl)) ?_
                          refine .plain rfl (Pl_y rfl (fun w hBw => Y_idxA 7 7 T_arr94 e_16_14 rfl rfl (by decide) (zz1 _))) ?_
                          refine .plain rfl (Pl_y rfl (fun w hBw => Y_ld T_scal42 hBw (i := 0) rfl rfl rfl)) ?_
                          refine .plain rfl (Pl_y rfl (fun w hBw => Yu_add (k := .u64) rfl ((Sm.run Sm.k512 (Sm.full Sm.k512 l) j).h) vh rfl rfl)) ?_
                          refine .plain rfl (Pl_c rfl T_en54 (A2 rfl rfl) (fun w hBw => cut512_n ((((Sm.run Sm.k512 (Sm.full Sm.k512 l) j).h) + vh) % 18446744073709551616) (Nat.mod_lt _ (by decide)) _)) ?_
                          exact .nil _
                        ·
                          intro e_17 w_47 hAg H_55
                          have e_17_2 : e_17 2 = Value.pointer (some ⟨bk2, 0, none⟩) := (hAg 2 rfl).trans e_16_2
                          have e_17_5 : e_17 5 = Value.int .i64 ((8 : Nat) : Int) := (hAg 5 rfl).trans e_16_5
                          have e_17_6 : e_17 6 = Value.pointer (some ⟨bk6, 0, none⟩) := (hAg 6 rfl).trans e_16_6
                          have e_17_8 : e_17 8 = Value.slice fa42 fM42 fc42 := (hAg 8 rfl).trans e_16_8
                          have e_17_9 : e_17 9 = Value.int .i64 ((128 * j : Nat) : Int) := (hAg 9 rfl).trans e_16_9
                          have e_17_14 : e_17 14 = Value.pointer (some ⟨bk14, 0, none⟩) := (hAg 14 rfl).trans e_16_14
                          have e_17_21 : e_17 21 = Value.int .i64 ((7 : Nat) : Int) := (hAg 21 rfl).trans rfl
                          have e_17_203 : e_17 203 = Value.int .i64 ((7 : Nat) : Int) := (hAg 203 rfl).trans rfl
                          obtain ⟨x212_8, hx212_8⟩ : ∃ z_ : Nat, z_ = (((((Sm.run Sm.k512 (Sm.full Sm.k512 l) j).h) + vh) % 18446744073709551616) % 18446744073709551616) := ⟨_, rfl⟩
                          have e_17_212 : e_17 212 = Value.int .u64 ((x212_8 : Nat) : Int) := (hAg 212 rfl).trans (by rw [hx212_8]; exact rfl)
                          refine L_y rfl (Y_idxA 7 7 T_arr94 e_17_6 e_17_203 rfl (by decide) (zz1 _)) ?_
                          refine L_st (v := Value.int .u64 ((x212_8 : Nat) : Int)) T_scal42 H_55 (i := 3) rfl rfl e_17_212 rfl (Nat.le_of_ble_eq_true rfl) (l' := [Ent.blk bk14 94 (ua .u64 [va, vb, vc, vd, ve, vf, vg, vh]), Ent.own vW 42 1 80 (us .u64 (Sm.sched Sm.k512 (((Sm.full Sm.k512 l).drop (128 * j)).take 128) 80)), Ent.own (Value.slice fa42 fM42 fc42) 5 1 fM42 (us .u8 (Sm.full Sm.k512 l)), Ent.blk bk6 94 (ua .u64 [x212, x212_2, x212_3, x212_4, x212_5, x212_6, x212_7, x212_8]), Ent.blk bk2 87 (ua .i64 [64, 80, 28, 34, 39, 14, 18, 41, 1, 8, 7, 19, 61, 6])]) (by rw [ua_set]; rfl) ?_; intro w_48 H_56
                          refine L_nil ?_
                          refine InB_n ?_
                          refine Th_n ?_
                          refine W_rg ?_
                          refine L_mv rfl ?_
                          refine L_y rfl (Y_add (k := .i64) (a := ((7 : Nat) : Int)) (b := ((1 : Nat) : Int)) (z := ((8 : Nat) : Int)) e_17_21 rfl (by decide)) ?_
                          refine L_as rfl ?_
                          refine L_nil ?_
                          refine Th_n ?_
                          refine Wr_s ?_
                          refine W_seq ?_
                          refine W_seq ?_
                          refine W_rg ?_
                          refine L_mv rfl ?_
                          refine L_y rfl (Y_lss (k := .i64) (a := ((8 : Nat) : Int)) (b := ((8 : Nat) : Int)) rfl rfl) ?_
                          refine L_nil ?_
                          refine Th_n ?_
                          refine W_false (congrArg Value.bool (by decide : (decide (((8 : Nat) : Int) < ((8 : Nat) : Int))) = false)) ?_
                          refine W_exit ?_
                          refine Th_x ?_
                          refine Th_x ?_
                          refine InB_hit ?_
                          refine InB_n ?_
                          refine Th_n ?_
                          refine W_rg ?_
                          refine L_mv rfl ?_
                          refine L_mv rfl ?_
                          refine L_y rfl (Y_mul (k := .i64) (a := ((16 : Nat) : Int)) (b := ((8 : Nat) : Int)) (z := ((128 : Nat) : Int)) rfl e_17_5 (by decide)) ?_
                          refine L_y rfl (Y_add (k := .i64) (a := ((128 * j : Nat) : Int)) (b := ((128 : Nat) : Int)) (z := (((128 * j) + 128 : Nat) : Int)) e_17_9 rfl (wi (by omega))) ?_
                          refine L_as rfl ?_
                          refine L_nil ?_
                          have H_57 : Hp w0 [] w_48 [Ent.blk bk14 94 (ua .u64 [va, vb, vc, vd, ve, vf, vg, vh]), Ent.own vW 42 1 80 (us .u64 (Sm.sched Sm.k512 (((Sm.full Sm.k512 l).drop (128 * j)).take 128) 80)), Ent.own (Value.slice fa42 fM42 fc42) 5 1 fM42 (us .u8 (Sm.full Sm.k512 l)), Ent.blk bk6 94 (ua .u64 ((Sm.run Sm.k512 (Sm.full Sm.k512 l) (j + 1)).l)), Ent.blk bk2 87 (ua .i64 [64, 80, 28, 34, 39, 14, 18, 41, 1, 8, 7, 19, 61, 6])] := by have h := H_56; rw [Sm.addv512 hV hx212 hx212_2 hx212_3 hx212_4 hx212_5 hx212_6 hx212_7 hx212_8] at h; exact h
                          refine Th_n ⟨_, ?_, j + 1, rfl, e_17_2, e_17_5, e_17_6, e_17_8, rfl, H_57.drop_.drop_, (by omega)⟩
                          omega
    ·
      have hc_2' := of_decide_eq_false hc_2
      refine W_exit ?_
      refine Th_x ?_
      refine Th_x ?_
      have H_58 : Hp w0 [] w_8 [Ent.own (Value.slice fa42 fM42 fc42) 5 1 fM42 (us .u8 (Sm.full Sm.k512 l)), Ent.blk bk6 94 (ua .u64 ((Sm.run Sm.k512 (Sm.full Sm.k512 l) ((Sm.full Sm.k512 l).length / 128)).l)), Ent.blk bk2 87 (ua .i64 [64, 80, 28, 34, 39, 14, 18, 41, 1, 8, 7, 19, 61, 6])] := by have h := H_10; rw [show j = (Sm.full Sm.k512 l).length / 128 by omega] at h; exact h
      refine InB_hit ?_
      refine Th_n ?_
      refine W_seq ?_
      refine W_rg ?_
      refine L_as rfl ?_
      have H_59 : Hp w0 [] w_8 [Ent.own (Value.slice none 0 0) 5 1 0 (us .u8 []), Ent.own (Value.slice fa42 fM42 fc42) 5 1 fM42 (us .u8 (Sm.full Sm.k512 l)), Ent.blk bk6 94 (ua .u64 ((Sm.run Sm.k512 (Sm.full Sm.k512 l) ((Sm.full Sm.k512 l).length / 128)).l)), Ent.blk bk2 87 (ua .i64 [64, 80, 28, 34, 39, 14, 18, 41, 1, 8, 7, 19, 61, 6])] := H_58.nilOwn 5 1
      refine L_nil ?_
      refine Th_n ?_
      refine W_seq ?_
      refine W_seq ?_
      refine W_rg ?_
      refine L_as rfl ?_
      refine L_nil ?_
      refine Th_n ?_
      refine W_block ?_
      refine W_loop (fun mu_ e w => ∃ i : Nat, ∃ vO : Value, mu_ = 8 - i ∧ e 5 = Value.int .i64 ((8 : Nat) : Int) ∧ e 6 = Value.pointer (some ⟨bk6, 0, none⟩) ∧ e 22 = vO ∧ e 23 = Value.int .i64 ((i : Nat) : Int) ∧ Hp w0 [] w [Ent.own vO 5 1 (8 * i) (us .u8 ((Sm.out Sm.k512 (Sm.run Sm.k512 (Sm.full Sm.k512 l) ((Sm.full Sm.k512 l).length / 128))).take (8 * i))), Ent.own (Value.slice fa42 fM42 fc42) 5 1 fM42 (us .u8 (Sm.full Sm.k512 l)), Ent.blk bk6 94 (ua .u64 ((Sm.run Sm.k512 (Sm.full Sm.k512 l) ((Sm.full Sm.k512 l).length / 128)).l)), Ent.blk bk2 87 (ua .i64 [64, 80, 28, 34, 39, 14, 18, 41, 1, 8, 7, 19, 61, 6])] ∧ i ≤ 8) _ ⟨0, Value.slice none 0 0, rfl, e_4_5, e_4_6, rfl, rfl, H_59, (Nat.zero_le _)⟩ ?_
      rintro mu_ e_18 w_49 ⟨i, vO, rfl, e_18_5, e_18_6, e_18_22, e_18_23, H_60, hi⟩
      refine W_seq ?_
      refine W_seq ?_
      refine W_rg ?_
      refine L_mv rfl ?_
      refine L_y rfl (Y_lss (k := .i64) (a := ((i : Nat) : Int)) (b := ((8 : Nat) : Int)) e_18_23 rfl) ?_
      refine L_nil ?_
      refine Th_n ?_
      refine W_cond (b := (decide (((i : Nat) : Int) < ((8 : Nat) : Int)))) rfl (fun hc_7 => ?_) (fun hc_7 => ?_)
      ·
        have hc_7' := of_decide_eq_true hc_7
        refine W_skip ?_
        refine Th_n ?_
        refine W_seq ?_
        refine W_block ?_
        refine W_seq ?_
        refine W_rg ?_
        refine L_mv rfl ?_
        refine L_y rfl (Y_sub (k := .i64) (a := ((8 : Nat) : Int)) (b := ((1 : Nat) : Int)) (z := ((7 : Nat) : Int)) e_18_5 rfl (by decide)) ?_
        refine L_as rfl ?_
        refine L_nil ?_
        refine Th_n ?_
        refine W_block ?_
        refine W_loop (fun mu_ e w => ∃ jo : Nat, ∃ vP : Value, mu_ = 8 - jo ∧ e 5 = Value.int .i64 ((8 : Nat) : Int) ∧ e 6 = Value.pointer (some ⟨bk6, 0, none⟩) ∧ e 22 = vP ∧ e 23 = Value.int .i64 ((i : Nat) : Int) ∧ e 24 = Value.int .i64 (((7 : Nat) : Int) - ((jo : Nat) : Int)) ∧ Hp w0 [] w [Ent.own vP 5 1 (8 * i + jo) (us .u8 ((Sm.out Sm.k512 (Sm.run Sm.k512 (Sm.full Sm.k512 l) ((Sm.full Sm.k512 l).length / 128))).take (8 * i + jo))), Ent.own (Value.slice fa42 fM42 fc42) 5 1 fM42 (us .u8 (Sm.full Sm.k512 l)), Ent.blk bk6 94 (ua .u64 ((Sm.run Sm.k512 (Sm.full Sm.k512 l) ((Sm.full Sm.k512 l).length / 128)).l)), Ent.blk bk2 87 (ua .i64 [64, 80, 28, 34, 39, 14, 18, 41, 1, 8, 7, 19, 61, 6])] ∧ jo ≤ 8) _ ⟨0, vO, rfl, e_18_5, e_18_6, e_18_22, e_18_23, rfl, H_60, (Nat.zero_le _)⟩ ?_
        rintro mu_ e_19 w_50 ⟨jo, vP, rfl, e_19_5, e_19_6, e_19_22, e_19_23, e_19_24, H_61, hjo_⟩
        refine W_seq ?_
        refine W_seq ?_
        refine W_rg ?_
        refine L_mv rfl ?_
        refine L_y rfl (Y_geq (k := .i64) (a := (((7 : Nat) : Int) - ((jo : Nat) : Int))) (b := ((0 : Nat) : Int)) e_19_24 rfl) ?_
        refine L_nil ?_
        refine Th_n ?_
        refine W_cond (b := (decide (((0 : Nat) : Int) ≤ (((7 : Nat) : Int) - ((jo : Nat) : Int))))) rfl (fun hc_8 => ?_) (fun hc_8 => ?_)
        ·
          have hjo : jo < 8 := by have := of_decide_eq_true hc_8; omega
          have eo_24 := e_19_24.trans (congrArg (Value.int .i64) (by omega : ((7 : Nat) : Int) - ((jo : Nat) : Int) = ((7 - jo : Nat) : Int)))
          have eo_220 := e_19_24.trans (congrArg (Value.int .i64) (by omega : ((7 : Nat) : Int) - ((jo : Nat) : Int) = ((7 - jo : Nat) : Int)))
          refine W_skip ?_
          refine Th_n ?_
          refine W_seq ?_
          refine W_block ?_
          refine W_rg ?_
          refine L_mv rfl ?_
          refine L_mv rfl ?_
          refine L_y rfl (Y_idxA i i T_arr94 e_19_6 e_19_23 rfl (by omega) (zz1 _)) ?_
          obtain ⟨x227, hx227⟩ : ∃ u, ((Sm.run Sm.k512 (Sm.full Sm.k512 l) ((Sm.full Sm.k512 l).length / 128)).l)[i]? = some u := ⟨_, List.getElem?_eq_getElem (by have := (V8wr512 (Sm.full Sm.k512 l) ((Sm.full Sm.k512 l).length / 128)).1; omega)⟩
          have rx227 := (V8wr512 (Sm.full Sm.k512 l) ((Sm.full Sm.k512 l).length / 128)).2 _ (List.mem_of_getElem? hx227)
          refine L_y rfl (Y_ld T_scal42 H_61 (i := 2) rfl rfl (ua_get hx227)) ?_
          refine L_mv rfl ?_
          refine L_y rfl (Y_mul (k := .i64) (a := ((8 : Nat) : Int)) (b := ((7 - jo : Nat) : Int)) (z := ((8 * (7 - jo) : Nat) : Int)) rfl eo_24 (wi (by omega))) ?_
          refine L_yr (z := x227 / 2 ^ (8 * (7 - jo))) (m := 18446744073709551616) rfl (Yu_shr (k := .u64) x227 (8 * (7 - jo)) rx227 rfl rfl) (Nat.lt_of_le_of_lt (Nat.div_le_self _ _) rx227) ?_; intro x230 hx230 rx230
          refine L_yr (z := x230 % 256) (m := 256) rfl (Y_convI (k := .u64) (n := ((x230 : Nat) : Int)) (z := ((x230 % 256 : Nat) : Int)) T_some42 T_kind5 rfl (wrapM rfl rfl)) (Nat.mod_lt _ (by decide)) ?_; intro x231 hx231 rx231
          refine L_bsl (cs := ua .u8 [x231]) rfl H_61 (pv := [(0, Value.int .u8 ((x231 : Nat) : Int))]) T_sl22 T_zero5 rfl (Bpc rfl Bp0) (by kernel_rfl) ?_; intro bk232 w_51 H_62
          refine L_appS rfl H_62 (i := 1) rfl T_sl22 T_zero5 rfl T_szb5 e_19_22 rfl (news_ua (H_62.get 0 rfl)) rfl (by omega) ?_; intro v233 w_52 Hx_3
          have H_63 : Hp w0 [] w_52 [Ent.blk bk232 5 (ua .u8 [x231]), Ent.own v233 5 1 ((8 * i + jo) + 1) (us .u8 (((Sm.out Sm.k512 (Sm.run Sm.k512 (Sm.full Sm.k512 l) ((Sm.full Sm.k512 l).length / 128))).take (8 * i + jo)) ++ [x231])), Ent.own (Value.slice fa42 fM42 fc42) 5 1 fM42 (us .u8 (Sm.full Sm.k512 l)), Ent.blk bk6 94 (ua .u64 ((Sm.run Sm.k512 (Sm.full Sm.k512 l) ((Sm.full Sm.k512 l).length / 128)).l)), Ent.blk bk2 87 (ua .i64 [64, 80, 28, 34, 39, 14, 18, 41, 1, 8, 7, 19, 61, 6])] := Hx_3
          refine L_as rfl ?_
          refine L_nil ?_
          refine InB_n ?_
          refine Th_n ?_
          refine W_rg ?_
          refine L_mv rfl ?_
          refine L_y rfl (Y_sub (k := .i64) (a := ((7 - jo : Nat) : Int)) (b := ((1 : Nat) : Int)) (z := (((7 : Nat) : Int) - ((jo + 1 : Nat) : Int))) eo_24 rfl (wi (by omega))) ?_
          refine L_as rfl ?_
          refine L_nil ?_
          have H_64 : Hp w0 [] w_52 [Ent.blk bk232 5 (ua .u8 [x231]), Ent.own v233 5 1 (8 * i + (jo + 1)) (us .u8 ((Sm.out Sm.k512 (Sm.run Sm.k512 (Sm.full Sm.k512 l) ((Sm.full Sm.k512 l).length / 128))).take (8 * i + (jo + 1)))), Ent.own (Value.slice fa42 fM42 fc42) 5 1 fM42 (us .u8 (Sm.full Sm.k512 l)), Ent.blk bk6 94 (ua .u64 ((Sm.run Sm.k512 (Sm.full Sm.k512 l) ((Sm.full Sm.k512 l).length / 128)).l)), Ent.blk bk2 87 (ua .i64 [64, 80, 28, 34, 39, 14, 18, 41, 1, 8, 7, 19, 61, 6])] := by have h := H_63; rw [Sm.take_snoc (Sm.outr_get (q := Sm.k512) (s := 8) rfl (by omega) hjo hx227 hx230 hx231)] at h; exact h
          refine Th_n ⟨_, ?_, jo + 1, v233, rfl, e_19_5, e_19_6, rfl, e_19_23, rfl, H_64.drop_, (by omega)⟩
          omega
        ·
          have hjo : jo = 8 := by have := of_decide_eq_false hc_8; omega
          refine W_exit ?_
          refine Th_x ?_
          refine Th_x ?_
          refine InB_hit ?_
          refine InB_n ?_
          refine Th_n ?_
          refine W_rg ?_
          refine L_mv rfl ?_
          refine L_y rfl (Y_add (k := .i64) (a := ((i : Nat) : Int)) (b := ((1 : Nat) : Int)) (z := ((i + 1 : Nat) : Int)) e_19_23 rfl (wi (by omega))) ?_
          refine L_as rfl ?_
          refine L_nil ?_
          subst hjo
          have H_65 : Hp w0 [] w_50 [Ent.own vP 5 1 (8 * (i + 1)) (us .u8 ((Sm.out Sm.k512 (Sm.run Sm.k512 (Sm.full Sm.k512 l) ((Sm.full Sm.k512 l).length / 128))).take (8 * (i + 1)))), Ent.own (Value.slice fa42 fM42 fc42) 5 1 fM42 (us .u8 (Sm.full Sm.k512 l)), Ent.blk bk6 94 (ua .u64 ((Sm.run Sm.k512 (Sm.full Sm.k512 l) ((Sm.full Sm.k512 l).length / 128)).l)), Ent.blk bk2 87 (ua .i64 [64, 80, 28, 34, 39, 14, 18, 41, 1, 8, 7, 19, 61, 6])] := by have h := H_61; exact h
          refine Th_n ⟨_, ?_, i + 1, vP, rfl, e_19_5, e_19_6, e_19_22, rfl, H_65, (by omega)⟩
          omega
      ·
        have hc_7' := of_decide_eq_false hc_7
        refine W_exit ?_
        refine Th_x ?_
        refine Th_x ?_
        refine InB_hit ?_
        refine Th_n ?_
        refine W_seq ?_
        refine W_rg ?_
        refine L_mv rfl ?_
        refine L_as rfl ?_
        refine L_nil ?_
        refine Th_n ?_
        refine W_ret ?_
        refine P_ret (vs := [vO]) (v := vO) rfl (.tmp e_18_22 (Res.nil)) rfl ?_
        obtain ⟨a_2, c_2, rfl⟩ := Sl.opn H_60 (i := 0) rfl
        have hO := H_60.only (i := 0) rfl
        obtain rfl : i = 8 := by omega
        rw [List.take_of_length_le (by rw [Sm.out_len]; decide)] at hO
        exact ⟨a_2, _, c_2, rfl, hO⟩

theorem T_en48 : enters Try.prog 48 = true := by kernel_rfl
theorem T_en49 : enters Try.prog 49 = true := by kernel_rfl
theorem rs256_n (a : Option Addr) (n c : Nat) (l : List Nat) (hl : ∀ u ∈ l, u < 256) (hn : n ≤ 16777216) (w0 : World) (hb : Sl w0 .u8 a n c l) :
    Calls Try.prog 44 #[Value.slice a n c] w0 (fun r_ w' => r_ = .returned (.agg (ua .u8 (Sm.sum Sm.k256 l))) ∧ Keep w0 w') := by
  refine F_in Try.func44 rfl Try.ntmps44 rfl ?_
  intro e he
  have p_0 : e 0 = Value.slice a n c := he 0 _ rfl
  have H := Hp.start w0 []
  refine W_seq ?_
  refine W_rg ?_
  refine L_alloc rfl H T_zero79 ?_; intro bk2 w_2 H_2
  refine L_nil ?_
  refine Th_n ?_
  refine W_seq ?_
  refine W_rg ?_
  refine L_alloc rfl H_2 T_zero79 ?_; intro bk3 w_3 H_3
  refine L_nil ?_
  refine Th_n ?_
  refine W_seq ?_
  refine W_rg ?_
  refine L_callv rfl rfl T_en48 (A0) (of256_n _) ?_
  rintro _ w_4 ⟨rfl, hkp⟩; refine ⟨_, rfl, ?_⟩; have H_4 := H_3.keep hkp
  refine L_mv rfl ?_
  refine L_callv rfl rfl T_en49 (A2 rfl p_0) (rsum256_n _ _ _ l hl hn _ (hb.hp H_4)) ?_
  rintro _ w_5 ⟨sa8, sM8, sc8, rfl, hkp_2⟩; refine ⟨_, rfl, ?_⟩; have H_5 := H_4.more hkp_2
  refine L_as rfl ?_
  refine L_nil ?_
  refine Th_n ?_
  refine W_seq ?_
  refine W_seq ?_
  refine W_rg ?_
  refine L_as rfl ?_
  refine L_nil ?_
  refine Th_n ?_
  refine W_block ?_
  have hsM : sM8 = 32 := by rw [← (Sl.own H_5 (i := 0) rfl).len]; exact (sum256_wd l).1
  have H_6 : Hp w0 [] w_5 [Ent.own (Value.slice sa8 sM8 sc8) 5 1 sM8 (us .u8 (Sm.sum Sm.k256 l)), Ent.blk bk3 79 (ua .u8 ((Sm.sum Sm.k256 l).take 0 ++ List.replicate (32 - 0) 0)), Ent.blk bk2 79 (ua .u8 [0, 0, 0, 0, 0, 0, 0, 0, 0, 0, 0, 0, 0, 0, 0, 0, 0, 0, 0, 0, 0, 0, 0, 0, 0, 0, 0, 0, 0, 0, 0, 0])] := by have h := H_5; rw [List.take_zero, List.nil_append]; exact h
  refine W_loop (fun mu_ e w => ∃ t : Nat, mu_ = 32 - t ∧ e 2 = Value.pointer (some ⟨bk2, 0, none⟩) ∧ e 3 = Value.pointer (some ⟨bk3, 0, none⟩) ∧ e 4 = Value.slice sa8 sM8 sc8 ∧ e 5 = Value.int .i64 ((t : Nat) : Int) ∧ Hp w0 [] w [Ent.own (Value.slice sa8 sM8 sc8) 5 1 sM8 (us .u8 (Sm.sum Sm.k256 l)), Ent.blk bk3 79 (ua .u8 ((Sm.sum Sm.k256 l).take t ++ List.replicate (32 - t) 0)), Ent.blk bk2 79 (ua .u8 [0, 0, 0, 0, 0, 0, 0, 0, 0, 0, 0, 0, 0, 0, 0, 0, 0, 0, 0, 0, 0, 0, 0, 0, 0, 0, 0, 0, 0, 0, 0, 0])] ∧ t ≤ 32) _ ⟨0, rfl, rfl, rfl, rfl, rfl, H_6, (Nat.zero_le _)⟩ ?_
  rintro mu_ e_2 w_6 ⟨t, rfl, e_2_2, e_2_3, e_2_4, e_2_5, H_7, ht⟩
  refine W_seq ?_
  refine W_seq ?_
  refine W_rg ?_
  refine L_mv rfl ?_
  refine L_y rfl (Y_lss (k := .i64) (a := ((t : Nat) : Int)) (b := ((32 : Nat) : Int)) e_2_5 rfl) ?_
  refine L_nil ?_
  refine Th_n ?_
  refine W_cond (b := (decide (((t : Nat) : Int) < ((32 : Nat) : Int)))) rfl (fun hc => ?_) (fun hc => ?_)
  ·
    have hc' := of_decide_eq_true hc
    refine W_skip ?_
    refine Th_n ?_
    refine W_seq ?_
    refine W_block ?_
    refine W_rg ?_
    refine L_mv rfl ?_
    refine L_mv rfl ?_
    refine L_mv rfl ?_
    refine L_y rfl (Y_idxL (j := t) T_sl22 (Sl.own H_7 (i := 0) rfl) e_2_4 e_2_5 rfl (by omega)) ?_
    obtain ⟨x17, hx17⟩ : ∃ u, (Sm.sum Sm.k256 l)[t]? = some u := ⟨_, List.getElem?_eq_getElem (by have := (⟨(Sl.own H_7 (i := 0) rfl).len, (Sm.sum_lt _ _)⟩ : Wd sM8 256 (Sm.sum Sm.k256 l)).1; omega)⟩
    have rx17 := (⟨(Sl.own H_7 (i := 0) rfl).len, (Sm.sum_lt _ _)⟩ : Wd sM8 256 (Sm.sum Sm.k256 l)).2 _ (List.mem_of_getElem? hx17)
    refine L_y rfl (Y_ldR T_scal5 (Sl.own H_7 (i := 0) rfl).rd rfl (hx17)) ?_
    refine L_y rfl (Y_idxA t t T_arr79 e_2_3 e_2_5 rfl (by omega) (zz1 _)) ?_
    refine L_st (v := Value.int .u8 ((x17 : Nat) : Int)) T_scal5 H_7 (i := 1) rfl rfl rfl rfl (by rw [ua_size]; have := (sum256_wp l ht).1; omega) (l' := [Ent.own (Value.slice sa8 sM8 sc8) 5 1 sM8 (us .u8 (Sm.sum Sm.k256 l)), Ent.blk bk3 79 (ua .u8 (((Sm.sum Sm.k256 l).take t ++ List.replicate (32 - t) 0).set t x17)), Ent.blk bk2 79 (ua .u8 [0, 0, 0, 0, 0, 0, 0, 0, 0, 0, 0, 0, 0, 0, 0, 0, 0, 0, 0, 0, 0, 0, 0, 0, 0, 0, 0, 0, 0, 0, 0, 0])]) (by rw [ua_set]; rfl) ?_; intro w_7 H_8
    refine L_nil ?_
    refine InB_n ?_
    refine Th_n ?_
    refine W_rg ?_
    refine L_mv rfl ?_
    refine L_y rfl (Y_add (k := .i64) (a := ((t : Nat) : Int)) (b := ((1 : Nat) : Int)) (z := ((t + 1 : Nat) : Int)) e_2_5 rfl (wi (by omega))) ?_
    refine L_as rfl ?_
    refine L_nil ?_
    have H_9 : Hp w0 [] w_7 [Ent.own (Value.slice sa8 sM8 sc8) 5 1 sM8 (us .u8 (Sm.sum Sm.k256 l)), Ent.blk bk3 79 (ua .u8 ((Sm.sum Sm.k256 l).take (t + 1) ++ List.replicate (32 - (t + 1)) 0)), Ent.blk bk2 79 (ua .u8 [0, 0, 0, 0, 0, 0, 0, 0, 0, 0, 0, 0, 0, 0, 0, 0, 0, 0, 0, 0, 0, 0, 0, 0, 0, 0, 0, 0, 0, 0, 0, 0])] := by have h := H_8; rw [Sm.take_set (by omega) (sum256_wd l).1 hx17] at h; exact h
    refine Th_n ⟨_, ?_, t + 1, rfl, e_2_2, e_2_3, e_2_4, rfl, H_9, (by omega)⟩
    omega
  ·
    have hc' := of_decide_eq_false hc
    refine W_exit ?_
    refine Th_x ?_
    refine Th_x ?_
    obtain rfl : t = 32 := by omega
    have H_10 : Hp w0 [] w_6 [Ent.own (Value.slice sa8 sM8 sc8) 5 1 sM8 (us .u8 (Sm.sum Sm.k256 l)), Ent.blk bk3 79 (ua .u8 (Sm.sum Sm.k256 l)), Ent.blk bk2 79 (ua .u8 [0, 0, 0, 0, 0, 0, 0, 0, 0, 0, 0, 0, 0, 0, 0, 0, 0, 0, 0, 0, 0, 0, 0, 0, 0, 0, 0, 0, 0, 0, 0, 0])] := by have h := H_7; rw [Nat.sub_self, List.replicate_zero, List.append_nil, List.take_of_length_le (Nat.le_of_eq (sum256_wd l).1)] at h; exact h
    refine InB_hit ?_
    refine Th_n ?_
    refine W_seq ?_
    refine W_rg ?_
    refine L_y rfl (Y_ldr T_row79 H_10 (i := 1) rfl e_2_3 (by rw [ua_size]; exact (sum256_wd l).1)) ?_
    refine L_str (ds := ua .u8 (Sm.sum Sm.k256 l)) T_row79 H_10 (i := 2) rfl e_2_2 rfl rfl (by rw [ua_size]; exact (sum256_wd l).1) (ua_one _ _) (l' := [Ent.own (Value.slice sa8 sM8 sc8) 5 1 sM8 (us .u8 (Sm.sum Sm.k256 l)), Ent.blk bk3 79 (ua .u8 (Sm.sum Sm.k256 l)), Ent.blk bk2 79 (ua .u8 (Sm.sum Sm.k256 l))]) rfl ?_; intro w_8 H_11
    refine L_nil ?_
    refine Th_n ?_
    refine W_ret ?_
    refine P_ret (vs := [Value.agg (ua .u8 (Sm.sum Sm.k256 l))]) (v := Value.agg (ua .u8 (Sm.sum Sm.k256 l))) rfl (.cell e_2_2 (loadVar_row T_row79 H_11 (i := 2) rfl (by rw [ua_size]; exact (sum256_wd l).1)) (Res.nil)) rfl ?_
    refine ⟨?_, H_11.nil_⟩
    rfl

theorem wNum0 (n : Nat) (s : Int) (w0 : World) :
    Calls Try.prog 34 #[Value.pointer none, Value.int .u64 ((n : Nat) : Int), Value.int .i64 (s)] w0 (fun r_ w' => r_ = .returned (Value.pointer none) ∧ Keep w0 w') := by
  refine F_in Try.func34 rfl Try.ntmps34 rfl ?_
  intro e he
  have p_0 : e 0 = Value.pointer none := he 0 _ rfl
  have p_1 : e 1 = Value.int .u64 ((n : Nat) : Int) := he 1 _ rfl
  have p_2 : e 2 = Value.int .i64 (s) := he 2 _ rfl
  have H := Hp.start w0 []
  refine W_seq ?_
  refine W_rg ?_
  refine L_as rfl ?_
  refine L_nil ?_
  refine Th_n ?_
  refine W_seq ?_
  refine W_block ?_
  refine W_seq ?_
  refine W_rg ?_
  refine L_mv rfl ?_
  refine L_y rfl (Y_eqP Try.underlying70 p_0 rfl) ?_
  refine L_mv rfl ?_
  refine G_no (wN (b := false) rfl rfl) rfl ?_
  refine G_no (wN (b := false) rfl rfl) rfl ?_
  refine G_no (wN (b := false) rfl rfl) rfl ?_
  refine G_no (wN (b := false) rfl rfl) rfl ?_
  refine G_no (wN (b := false) rfl rfl) rfl ?_
  refine L_y rfl (Y_pickT rfl) ?_
  refine L_as rfl ?_
  refine L_nil ?_
  refine Th_n ?_
  refine W_true rfl ?_
  refine W_seq ?_
  refine W_rg ?_
  refine L_mv rfl ?_
  refine L_as rfl ?_
  refine L_nil ?_
  refine Th_n ?_
  refine W_ret ?_
  refine InB_r ?_
  refine Th_r ?_
  refine P_ret (vs := [Value.pointer none]) (v := Value.pointer none) rfl (.tmp p_0 (Res.nil)) rfl ?_
  refine ⟨?_, H.nil_⟩
  rfl

theorem wRaw0 (w0 : World) :
    Calls Try.prog 35 #[Value.pointer none, Value.slice none 0 0] w0 (fun r_ w' => r_ = .returned (Value.pointer none) ∧ Keep w0 w') := by
  refine F_in Try.func35 rfl Try.ntmps35 rfl ?_
  intro e he
  have p_0 : e 0 = Value.pointer none := he 0 _ rfl
  have p_1 : e 1 = Value.slice none 0 0 := he 1 _ rfl
  have H := Hp.start w0 []
  refine W_seq ?_
  refine W_rg ?_
  refine L_as rfl ?_
  refine L_nil ?_
  refine Th_n ?_
  refine W_seq ?_
  refine W_seq ?_
  refine W_rg ?_
  refine L_mv rfl ?_
  refine L_y rfl (Y_neP Try.underlying70 p_0 rfl) ?_
  refine L_mv rfl ?_
  refine G_no (wN (b := true) rfl rfl) rfl ?_
  refine G_no (wN (b := true) rfl rfl) rfl ?_
  refine G_no (wN (b := true) rfl rfl) rfl ?_
  refine G_no (wN (b := true) rfl rfl) rfl ?_
  refine G_no (wN (b := true) rfl rfl) rfl ?_
  refine L_y rfl (Y_pickF rfl) ?_
  refine L_nil ?_
  refine Th_n ?_
  refine W_false rfl ?_
  refine W_skip ?_
  refine Th_n ?_
  refine W_seq ?_
  refine W_rg ?_
  refine L_mv rfl ?_
  refine L_as rfl ?_
  refine L_nil ?_
  refine Th_n ?_
  refine W_ret ?_
  refine P_ret (vs := [Value.pointer none]) (v := Value.pointer none) rfl (.tmp p_0 (Res.nil)) rfl ?_
  refine ⟨?_, H.nil_⟩
  rfl

theorem wDone0 (w0 : World) :
    Calls Try.prog 37 #[Value.pointer none] w0 (fun r_ w' => r_ = .returned (Value.tuple #[.slice none 0 0, .int .i64 ((1 : Nat) : Int)]) ∧ Keep w0 w') := by
  refine F_in Try.func37 rfl Try.ntmps37 rfl ?_
  intro e he
  have p_0 : e 0 = Value.pointer none := he 0 _ rfl
  have H := Hp.start w0 []
  refine W_seq ?_
  refine W_rg ?_
  refine L_as rfl ?_
  refine L_as rfl ?_
  refine L_nil ?_
  refine Th_n ?_
  refine W_seq ?_
  refine W_block ?_
  refine W_seq ?_
  refine W_rg ?_
  refine L_mv rfl ?_
  refine L_y rfl (Y_eqP Try.underlying70 p_0 rfl) ?_
  refine L_as rfl ?_
  refine L_nil ?_
  refine Th_n ?_
  refine W_true rfl ?_
  refine W_seq ?_
  refine W_rg ?_
  refine L_as rfl ?_
  refine L_as rfl ?_
  refine L_nil ?_
  refine Th_n ?_
  refine W_ret ?_
  refine InB_r ?_
  refine Th_r ?_
  refine P_ret (vs := [Value.slice none 0 0, Value.int .i64 ((1 : Nat) : Int)]) (v := Value.tuple #[Value.slice none 0 0, Value.int .i64 ((1 : Nat) : Int)]) rfl (.tmp rfl (.tmp rfl (Res.nil))) rfl ?_
  refine ⟨?_, H.nil_⟩
  rfl

theorem T_fld69_1 : fldOf Try.prog 69 1 = some (1, 1) := by kernel_rfl
theorem T_scal31 : scal Try.prog 31 = true := by kernel_rfl
theorem T_fld69_0 : fldOf Try.prog 69 0 = some (0, 1) := by kernel_rfl
theorem T_scal22 : scal Try.prog 22 = true := by kernel_rfl
theorem wNum {w0 w : World} {X : List Ent} {bw : Nat} {v : Value} {l : List Nat} {er : Nat} (n : Nat) (s : Int) (hn : n < 18446744073709551616) (hl : l.length ≤ 4000000000) (hlt : ∀ u ∈ l, u < 256) (H : Hp w0 [] w (.blk bw 69 #[v, .int .i64 ((er : Nat) : Int)] :: .own v 5 1 l.length (us .u8 l) :: X)) :
    Calls Try.prog 34 #[Value.pointer (some ⟨bw, 0, none⟩), Value.int .u64 ((n : Nat) : Int), Value.int .i64 (s)] w (fun r_ w' => ∃ v', r_ = .returned (Value.pointer (some ⟨bw, 0, none⟩)) ∧ Hp w0 [] w' (.blk bw 69 #[v', .int .i64 (((Pk.num l er n s).2 : Nat) : Int)] :: .own v' 5 1 (Pk.num l er n s).1.length (us .u8 (Pk.num l er n s).1) :: X)) := by
  refine F_in Try.func34 rfl Try.ntmps34 rfl ?_
  intro e he
  have p_0 : e 0 = Value.pointer (some ⟨bw, 0, none⟩) := he 0 _ rfl
  have p_1 : e 1 = Value.int .u64 ((n : Nat) : Int) := he 1 _ rfl
  have p_2 : e 2 = Value.int .i64 (s) := he 2 _ rfl
  refine W_seq ?_
  refine W_rg ?_
  refine L_as rfl ?_
  refine L_nil ?_
  refine Th_n ?_
  refine W_seq ?_
  refine W_block ?_
  refine W_seq ?_
  refine W_rg ?_
  refine L_mv rfl ?_
  refine L_y rfl (Y_eqP Try.underlying70 p_0 rfl) ?_
  refine L_mv rfl ?_
  refine G_mv (wE rfl rfl) rfl ?_
  refine G_y (wE rfl rfl) rfl (Y_nil p_0) ?_
  refine G_y (wE rfl rfl) rfl (Y_fld T_fld69_1 rfl rfl rfl) ?_
  refine G_y (wE rfl rfl) rfl (Y_ld T_scal31 H (i := 0) rfl rfl rfl) ?_
  refine G_y (wE rfl rfl) rfl (Y_neq (k := .i64) (a := ((er : Nat) : Int)) (b := ((0 : Nat) : Int)) rfl rfl) ?_
  refine L_y rfl (Y_pickF rfl) ?_
  refine L_as rfl ?_
  refine L_nil ?_
  refine Th_n ?_
  refine W_cond (b := (((er : Nat) : Int) != ((0 : Nat) : Int))) rfl (fun hc => ?_) (fun hc => ?_)
  ·
    have hc' := ne_of_bne hc
    refine W_seq ?_
    refine W_rg ?_
    refine L_mv rfl ?_
    refine L_as rfl ?_
    refine L_nil ?_
    refine Th_n ?_
    refine W_ret ?_
    refine InB_r ?_
    refine Th_r ?_
    refine P_ret (vs := [Value.pointer (some ⟨bw, 0, none⟩)]) (v := Value.pointer (some ⟨bw, 0, none⟩)) rfl (.tmp p_0 (Res.nil)) rfl ?_
    have hm : Pk.num l er n s = (l, er) := by first | (simp only [Pk.num]; (repeat (first | rw [if_pos (by omega)] | rw [if_neg (by omega)])); done) | (simp only [Pk.num, hk, Int.toNat_natCast]; (repeat (first | rw [if_pos (by omega)] | rw [if_neg (by omega)])); done) | (obtain rfl : er = 0 := (by omega); obtain rfl : i = k := (by omega); simp only [Pk.num, hk, Int.toNat_natCast, Pk.digs]; rw [if_neg (by omega), if_neg (by omega), if_neg (by intro hh; omega)])
    refine ⟨v, rfl, ?_⟩; rw [hm]; have h := H; simp only [List.length_append, List.length_cons, List.length_nil, List.length_map, List.length_range, Pk.digs_len, Nat.zero_add, Nat.add_assoc] at h ⊢; exact h
  ·
    have hc' := eq_of_bne_false hc
    refine W_seq ?_
    refine W_rg ?_
    refine L_mv rfl ?_
    refine L_y rfl (Y_lss (k := .i64) (a := s) (b := ((1 : Nat) : Int)) p_2 rfl) ?_
    refine L_mv rfl ?_
    rcases Bool.eq_false_or_eq_true (decide (s < ((1 : Nat) : Int))) with hb | hb
    ·
      have hb' := of_decide_eq_true hb
      refine G_no (wN (b := false) rfl (congrArg Value.bool hb)) rfl ?_
      refine G_no (wN (b := false) rfl (congrArg Value.bool hb)) rfl ?_
      refine L_y rfl (Y_pickT (congrArg Value.bool hb)) ?_
      refine L_as rfl ?_
      refine L_nil ?_
      refine Th_n ?_
      refine W_true rfl ?_
      refine W_seq ?_
      refine W_rg ?_
      refine L_mv rfl ?_
      refine L_y rfl (Y_nil p_0) ?_
      refine L_y rfl (Y_fld T_fld69_1 rfl rfl rfl) ?_
      refine L_st (v := Value.int .i64 ((2 : Nat) : Int)) T_scal31 H (i := 0) rfl rfl rfl rfl (Nat.le_of_ble_eq_true rfl) (l' := (Ent.blk bw 69 #[v, Value.int .i64 ((2 : Nat) : Int)] :: Ent.own v 5 1 l.length (us .u8 l) :: X)) rfl ?_; intro w_2 H_2
      refine L_nil ?_
      refine Th_n ?_
      refine W_seq ?_
      refine W_rg ?_
      refine L_mv rfl ?_
      refine L_as rfl ?_
      refine L_nil ?_
      refine Th_n ?_
      refine W_ret ?_
      refine InB_r ?_
      refine Th_r ?_
      refine P_ret (vs := [Value.pointer (some ⟨bw, 0, none⟩)]) (v := Value.pointer (some ⟨bw, 0, none⟩)) rfl (.tmp p_0 (Res.nil)) rfl ?_
      have hm : Pk.num l er n s = (l, 2) := by first | (simp only [Pk.num]; (repeat (first | rw [if_pos (by omega)] | rw [if_neg (by omega)])); done) | (simp only [Pk.num, hk, Int.toNat_natCast]; (repeat (first | rw [if_pos (by omega)] | rw [if_neg (by omega)])); done) | (obtain rfl : er = 0 := (by omega); obtain rfl : i = k := (by omega); simp only [Pk.num, hk, Int.toNat_natCast, Pk.digs]; rw [if_neg (by omega), if_neg (by omega), if_neg (by intro hh; omega)])
      refine ⟨v, rfl, ?_⟩; rw [hm]; have h := H_2; simp only [List.length_append, List.length_cons, List.length_nil, List.length_map, List.length_range, Pk.digs_len, Nat.zero_add, Nat.add_assoc] at h ⊢; exact h
    ·
      have hb' := of_decide_eq_false hb
      refine G_mv (wE rfl (congrArg Value.bool hb)) rfl ?_
      refine G_y (wE rfl (congrArg Value.bool hb)) rfl (Y_gtr (k := .i64) (a := s) (b := ((8 : Nat) : Int)) p_2 rfl) ?_
      refine L_y rfl (Y_pickF (congrArg Value.bool hb)) ?_
      refine L_as rfl ?_
      refine L_nil ?_
      refine Th_n ?_
      refine W_cond (b := (decide (((8 : Nat) : Int) < s))) rfl (fun hc_2 => ?_) (fun hc_2 => ?_)
      ·
        have hc_2' := of_decide_eq_true hc_2
        refine W_seq ?_
        refine W_rg ?_
        refine L_mv rfl ?_
        refine L_y rfl (Y_nil p_0) ?_
        refine L_y rfl (Y_fld T_fld69_1 rfl rfl rfl) ?_
        refine L_st (v := Value.int .i64 ((2 : Nat) : Int)) T_scal31 H (i := 0) rfl rfl rfl rfl (Nat.le_of_ble_eq_true rfl) (l' := (Ent.blk bw 69 #[v, Value.int .i64 ((2 : Nat) : Int)] :: Ent.own v 5 1 l.length (us .u8 l) :: X)) rfl ?_; intro w_3 H_3
        refine L_nil ?_
        refine Th_n ?_
        refine W_seq ?_
        refine W_rg ?_
        refine L_mv rfl ?_
        refine L_as rfl ?_
        refine L_nil ?_
        refine Th_n ?_
        refine W_ret ?_
        refine InB_r ?_
        refine Th_r ?_
        refine P_ret (vs := [Value.pointer (some ⟨bw, 0, none⟩)]) (v := Value.pointer (some ⟨bw, 0, none⟩)) rfl (.tmp p_0 (Res.nil)) rfl ?_
        have hm : Pk.num l er n s = (l, 2) := by first | (simp only [Pk.num]; (repeat (first | rw [if_pos (by omega)] | rw [if_neg (by omega)])); done) | (simp only [Pk.num, hk, Int.toNat_natCast]; (repeat (first | rw [if_pos (by omega)] | rw [if_neg (by omega)])); done) | (obtain rfl : er = 0 := (by omega); obtain rfl : i = k := (by omega); simp only [Pk.num, hk, Int.toNat_natCast, Pk.digs]; rw [if_neg (by omega), if_neg (by omega), if_neg (by intro hh; omega)])
        refine ⟨v, rfl, ?_⟩; rw [hm]; have h := H_3; simp only [List.length_append, List.length_cons, List.length_nil, List.length_map, List.length_range, Pk.digs_len, Nat.zero_add, Nat.add_assoc] at h ⊢; exact h
      ·
        have hc_2' := of_decide_eq_false hc_2
        obtain ⟨k, hk⟩ : ∃ k : Nat, s = (k : Int) := ⟨s.toNat, by omega⟩
        refine W_seq ?_
        refine W_rg ?_
        refine L_mv rfl ?_
        refine L_mv rfl ?_
        refine L_y rfl (Y_mul (k := .i64) (a := ((8 : Nat) : Int)) (b := ((k : Nat) : Int)) (z := ((8 * k : Nat) : Int)) rfl (p_2.trans (congrArg (Value.int .i64) hk)) (wi (by omega))) ?_
        refine L_yr (z := n / 2 ^ (8 * k)) (m := 18446744073709551616) rfl (Yu_shr (k := .u64) n (8 * k) hn p_1 rfl) (Nat.lt_of_le_of_lt (Nat.div_le_self _ _) hn) ?_; intro x34 hx34 rx34
        refine L_y rfl (Y_neq (k := .u64) (a := ((x34 : Nat) : Int)) (b := ((0 : Nat) : Int)) rfl rfl) ?_
        refine L_mv rfl ?_
        rcases Bool.eq_false_or_eq_true (((x34 : Nat) : Int) != ((0 : Nat) : Int)) with hb_2 | hb_2
        ·
          have hb_2' := ne_of_bne hb_2
          refine G_mv (wE rfl (congrArg Value.bool hb_2)) rfl ?_
          refine G_y (wE rfl (congrArg Value.bool hb_2)) rfl (Y_lss (k := .i64) (a := ((k : Nat) : Int)) (b := ((8 : Nat) : Int)) (p_2.trans (congrArg (Value.int .i64) hk)) rfl) ?_
          refine L_y rfl (Y_pickT (congrArg Value.bool hb_2)) ?_
          refine L_as rfl ?_
          refine L_nil ?_
          refine Th_n ?_
          refine W_cond (b := (decide (((k : Nat) : Int) < ((8 : Nat) : Int)))) rfl (fun hc_3 => ?_) (fun hc_3 => ?_)
          ·
            have hc_3' := of_decide_eq_true hc_3
            refine W_seq ?_
            refine W_rg ?_
            refine L_mv rfl ?_
            refine L_y rfl (Y_nil p_0) ?_
            refine L_y rfl (Y_fld T_fld69_1 rfl rfl rfl) ?_
            refine L_st (v := Value.int .i64 ((6 : Nat) : Int)) T_scal31 H (i := 0) rfl rfl rfl rfl (Nat.le_of_ble_eq_true rfl) (l' := (Ent.blk bw 69 #[v, Value.int .i64 ((6 : Nat) : Int)] :: Ent.own v 5 1 l.length (us .u8 l) :: X)) rfl ?_; intro w_4 H_4
            refine L_nil ?_
            refine Th_n ?_
            refine W_seq ?_
            refine W_rg ?_
            refine L_mv rfl ?_
            refine L_as rfl ?_
            refine L_nil ?_
            refine Th_n ?_
            refine W_ret ?_
            refine InB_r ?_
            refine Th_r ?_
            refine P_ret (vs := [Value.pointer (some ⟨bw, 0, none⟩)]) (v := Value.pointer (some ⟨bw, 0, none⟩)) rfl (.tmp p_0 (Res.nil)) rfl ?_
            have hm : Pk.num l er n s = (l, 6) := by first | (simp only [Pk.num]; (repeat (first | rw [if_pos (by omega)] | rw [if_neg (by omega)])); done) | (simp only [Pk.num, hk, Int.toNat_natCast]; (repeat (first | rw [if_pos (by omega)] | rw [if_neg (by omega)])); done) | (obtain rfl : er = 0 := (by omega); obtain rfl : i = k := (by omega); simp only [Pk.num, hk, Int.toNat_natCast, Pk.digs]; rw [if_neg (by omega), if_neg (by omega), if_neg (by intro hh; omega)])
            refine ⟨v, rfl, ?_⟩; rw [hm]; have h := H_4; simp only [List.length_append, List.length_cons, List.length_nil, List.length_map, List.length_range, Pk.digs_len, Nat.zero_add, Nat.add_assoc] at h ⊢; exact h
          ·
            have hc_3' := of_decide_eq_false hc_3
            refine W_skip ?_
            refine InB_n ?_
            refine Th_n ?_
            refine W_seq ?_
            refine W_seq ?_
            refine W_rg ?_
            refine L_mv rfl ?_
            refine L_mv rfl ?_
            refine L_nil ?_
            refine Th_n ?_
            refine W_block ?_
            have H_5 : Hp w0 [] w (Ent.blk bw 69 #[v, Value.int .i64 ((er : Nat) : Int)] :: Ent.own v 5 1 (l.length + 0) (us .u8 (l ++ (List.range 0).map fun j_ => n / 2 ^ (8 * (k - 1 - j_)) % 256)) :: X) := H.asL (i := 1) rfl (Nat.add_zero _).symm (by simp) rfl
            refine W_loop (fun mu_ e w => ∃ i : Nat, ∃ vi : Value, mu_ = k - i ∧ e 0 = Value.pointer (some ⟨bw, 0, none⟩) ∧ e 1 = Value.int .u64 ((n : Nat) : Int) ∧ e 2 = Value.int .i64 ((k : Nat) : Int) ∧ e 44 = Value.int .i64 ((k : Nat) : Int) ∧ e 45 = Value.int .i64 ((i : Nat) : Int) ∧ Hp w0 [] w (Ent.blk bw 69 #[vi, Value.int .i64 ((er : Nat) : Int)] :: Ent.own vi 5 1 (l.length + i) (us .u8 (l ++ (List.range i).map fun j_ => n / 2 ^ (8 * (k - 1 - j_)) % 256)) :: X) ∧ i ≤ k) _ ⟨0, v, rfl, p_0, p_1, (p_2.trans (congrArg (Value.int .i64) hk)), (p_2.trans (congrArg (Value.int .i64) hk)), rfl, H_5, (Nat.zero_le _)⟩ ?_
            rintro mu_ e_2 w_5 ⟨i, vi, rfl, e_2_0, e_2_1, e_2_2, e_2_44, e_2_45, H_6, hi⟩
            refine W_seq ?_
            refine W_rg ?_
            refine L_y rfl (Y_lss (k := .i64) (a := ((i : Nat) : Int)) (b := ((k : Nat) : Int)) e_2_45 e_2_44) ?_
            refine L_nil ?_
            refine Th_n ?_
            refine W_seq ?_
            refine W_cond (b := (decide (((i : Nat) : Int) < ((k : Nat) : Int)))) rfl (fun hc_4 => ?_) (fun hc_4 => ?_)
            ·
              have hc_4' := of_decide_eq_true hc_4
              refine W_skip ?_
              refine Th_n ?_
              refine W_seq ?_
              refine W_block ?_
              refine W_seq ?_
              refine W_rg ?_
              refine L_mv rfl ?_
              refine L_as rfl ?_
              refine L_nil ?_
              refine Th_n ?_
              refine W_anyL 15 [13, 14] [61, 62] [Value.pointer (some ⟨bw, 0, none⟩), Value.pointer (some ⟨bw, 0, none⟩), Value.pointer (some ⟨bw, 0, none⟩), Value.pointer (some ⟨bw, 0, none⟩), vi, Value.int .u64 ((n : Nat) : Int), Value.int .i64 ((k : Nat) : Int), Value.int .i64 ((k - 1 : Nat) : Int), Value.int .i64 ((i : Nat) : Int), Value.int .i64 (((k - 1) - i : Nat) : Int), Value.int .i64 ((8 * ((k - 1) - i) : Nat) : Int), Value.int .u64 ((n / 2 ^ (8 * ((k - 1) - i)) : Nat) : Int), Value.int .u8 (((n / 2 ^ (8 * ((k - 1) - i))) % 256 : Nat) : Int), undef, undef] (fun w => w.heap[bw]? = some (.cells #[vi, Value.int .i64 ((er : Nat) : Int)] 69 (0, 0))) [fun vs w => Hp w0 [] w (Ent.blk bw 69 #[vi, Value.int .i64 ((er : Nat) : Int)] :: Ent.own vi 5 1 (l.length + i) (us .u8 (l ++ (List.range i).map fun j_ => n / 2 ^ (8 * (k - 1 - j_)) % 256)) :: X), fun vs w => ∃ bk61_, vs[0]? = some (Value.slice (some ⟨bk61_, 0, none⟩) 1 1) ∧ Hp w0 [] w (Ent.blk bk61_ 5 (ua .u8 [(n / 2 ^ (8 * ((k - 1) - i))) % 256]) :: Ent.blk bw 69 #[vi, Value.int .i64 ((er : Nat) : Int)] :: Ent.own vi 5 1 (l.length + i) (us .u8 (l ++ (List.range i).map fun j_ => n / 2 ^ (8 * (k - 1 - j_)) % 256)) :: X), fun _ _ => False, fun vs w => ∃ bk61_, ∃ v62_, vs[0]? = some (Value.slice (some ⟨bk61_, 0, none⟩) 1 1) ∧ vs[1]? = some (v62_) ∧ Hp w0 [] w (Ent.blk bk61_ 5 (ua .u8 [(n / 2 ^ (8 * ((k - 1) - i))) % 256]) :: Ent.blk bw 69 #[vi, Value.int .i64 ((er : Nat) : Int)] :: Ent.own v62_ 5 1 ((l.length + i) + 1) (us .u8 ((l ++ (List.range i).map fun j_ => n / 2 ^ (8 * (k - 1 - j_)) % 256) ++ [(n / 2 ^ (8 * ((k - 1) - i))) % 256])) :: X)] T_mixed (by kernel_rfl) ⟨fun _ _ H => H.get 0 rfl, fun _ _ h => by obtain ⟨_, _, H⟩ := h; exact H.get 1 rfl, fun _ _ h => h.elim, fun _ _ h => by obtain ⟨_, _, _, _, H⟩ := h; exact H.get 1 rfl, trivial⟩ ⟨fun _ _ _ hkp H => H.keep hkp, fun _ _ _ hkp h => by obtain ⟨q0, q1, H⟩ := h; exact ⟨q0, q1, H.keep hkp⟩, fun _ _ _ _ h => h.elim, fun _ _ _ hkp h => by obtain ⟨q0, q1, q2, q3, H⟩ := h; exact ⟨q0, q1, q2, q3, H.keep hkp⟩, trivial⟩ H_6 ?_ ?_
              ·
                refine .plain rfl (Pl_y rfl (fun w hBw => congrArg (fun v => Result.ok (Next.value v) w) e_2_0)) ?_
                refine .plain rfl (Pl_y rfl (fun w hBw => congrArg (fun v => Result.ok (Next.value v) w) e_2_0)) ?_
                refine .plain rfl (Pl_y rfl (fun w hBw => Y_nil rfl)) ?_
                refine .plain rfl (Pl_y rfl (fun w hBw => Y_fld T_fld69_0 rfl rfl rfl)) ?_
                refine .plain rfl (Pl_y rfl (fun w hBw => Y_ldb T_scal22 hBw rfl rfl)) ?_
                refine .plain rfl (Pl_y rfl (fun w hBw => congrArg (fun v => Result.ok (Next.value v) w) e_2_1)) ?_
                refine .plain rfl (Pl_y rfl (fun w hBw => congrArg (fun v => Result.ok (Next.value v) w) e_2_2)) ?_
                refine .plain rfl (Pl_y rfl (fun w hBw => Y_sub (k := .i64) (a := ((k : Nat) : Int)) (b := ((1 : Nat) : Int)) (z := ((k - 1 : Nat) : Int)) rfl rfl (wi (by omega)))) ?_
                refine .plain rfl (Pl_y rfl (fun w hBw => congrArg (fun v => Result.ok (Next.value v) w) e_2_45)) ?_
                refine .plain rfl (Pl_y rfl (fun w hBw => Y_sub (k := .i64) (a := ((k - 1 : Nat) : Int)) (b := ((i : Nat) : Int)) (z := (((k - 1) - i : Nat) : Int)) rfl rfl (wi (by omega)))) ?_
                refine .plain rfl (Pl_y rfl (fun w hBw => Y_mul (k := .i64) (a := ((8 : Nat) : Int)) (b := (((k - 1) - i : Nat) : Int)) (z := ((8 * ((k - 1) - i) : Nat) : Int)) rfl rfl (wi (by omega)))) ?_
                refine .plain rfl (Pl_y rfl (fun w hBw => Yu_shr (k := .u64) n (8 * ((k - 1) - i)) hn rfl rfl)) ?_
                refine .plain rfl (Pl_y rfl (fun w hBw => Y_convI (k := .u64) (n := ((n / 2 ^ (8 * ((k - 1) - i)) : Nat) : Int)) (z := (((n / 2 ^ (8 * ((k - 1) - i))) % 256 : Nat) : Int)) T_some42 T_kind5 rfl (wrapM rfl rfl))) ?_
                refine .special 0 rfl (Special.of ⟨⟨⟨⟨trivial, fun _ _ _ e' w' hAg hYs => by
                    have H : Hp w0 [] w' (Ent.blk bw 69 #[vi, Value.int .i64 ((er : Nat) : Int)] :: Ent.own vi 5 1 (l.length + i) (us .u8 (l ++ (List.range i).map fun j_ => n / 2 ^ (8 * (k - 1 - j_)) % 256)) :: X) := hYs
                    exact ⟨rfl, Dn_bsl (cs := ua .u8 [(n / 2 ^ (8 * ((k - 1) - i))) % 256]) H (pv := [(0, Value.int .u8 (((n / 2 ^ (8 * ((k - 1) - i))) % 256 : Nat) : Int))]) T_sl22 T_zero5 rfl (Bpc ((hAg 60 rfl).trans rfl) Bp0) (by kernel_rfl) (fun b w2 Hn => ⟨_, rfl, Hn⟩)⟩⟩, fun h => absurd h (by decide)⟩, fun _ _ h => absurd (by decide) (h 1 14 rfl (by decide))⟩, fun h => absurd h (by decide)⟩) ?_
                refine .special 1 rfl (Special.of ⟨⟨⟨⟨trivial, fun _ h => absurd (h 0 13 rfl (by decide)) (by decide)⟩, fun _ _ _ e' w' hAg hYs => by
                    obtain ⟨bk61_, q0, H⟩ := hYs
                    exact ⟨rfl, Dn_appL H (i := 2) rfl T_sl22 T_zero5 rfl T_szb5 ((hAg 52 rfl).trans rfl) (Option.some.inj q0) (ua_sla H (i := 0) rfl rfl) (by omega) (fun v2 w2 Hn => ⟨bk61_, _, q0, rfl, Hn⟩)⟩⟩, fun h => absurd h (by decide)⟩, fun h => absurd h (by decide)⟩) ?_
                exact .nil _
              ·
                intro e_3 w_6 hAg hYs
                obtain ⟨bk61_, v62_, q0, q1, H_7⟩ := hYs
                have e_3_61 : e_3 61 = Value.slice (some ⟨bk61_, 0, none⟩) 1 1 := Option.some.inj q0
                have e_3_62 : e_3 62 = v62_ := Option.some.inj q1
                have e_3_0 : e_3 0 = Value.pointer (some ⟨bw, 0, none⟩) := (hAg 0 rfl).trans e_2_0
                have e_3_1 : e_3 1 = Value.int .u64 ((n : Nat) : Int) := (hAg 1 rfl).trans e_2_1
                have e_3_2 : e_3 2 = Value.int .i64 ((k : Nat) : Int) := (hAg 2 rfl).trans e_2_2
                have e_3_44 : e_3 44 = Value.int .i64 ((k : Nat) : Int) := (hAg 44 rfl).trans e_2_44
                have e_3_45 : e_3 45 = Value.int .i64 ((i : Nat) : Int) := (hAg 45 rfl).trans e_2_45
                have e_3_48 : e_3 48 = Value.pointer (some ⟨bw, 0, none⟩) := (hAg 48 rfl).trans rfl
                refine L_y rfl (Y_nil e_3_48) ?_
                refine L_y rfl (Y_fld T_fld69_0 rfl rfl rfl) ?_
                refine L_st (v := v62_) T_scal22 H_7 (i := 1) rfl rfl e_3_62 (own_one H_7 (i := 2) rfl) (Nat.le_of_ble_eq_true rfl) (l' := (Ent.blk bk61_ 5 (ua .u8 [(n / 2 ^ (8 * ((k - 1) - i))) % 256]) :: Ent.blk bw 69 #[v62_, Value.int .i64 ((er : Nat) : Int)] :: Ent.own v62_ 5 1 ((l.length + i) + 1) (us .u8 ((l ++ (List.range i).map fun j_ => n / 2 ^ (8 * (k - 1 - j_)) % 256) ++ [(n / 2 ^ (8 * ((k - 1) - i))) % 256])) :: X)) rfl ?_; intro w_7 H_8
                refine L_nil ?_
                refine InB_n ?_
                refine Th_n ?_
                refine W_rg ?_
                refine L_y rfl (Y_add (k := .i64) (a := ((i : Nat) : Int)) (b := ((1 : Nat) : Int)) (z := ((i + 1 : Nat) : Int)) e_3_45 rfl (wi (by omega))) ?_
                refine L_mv rfl ?_
                refine L_nil ?_
                have H_9 : Hp w0 [] w_7 (Ent.blk bk61_ 5 (ua .u8 [(n / 2 ^ (8 * ((k - 1) - i))) % 256]) :: Ent.blk bw 69 #[v62_, Value.int .i64 ((er : Nat) : Int)] :: Ent.own v62_ 5 1 (l.length + (i + 1)) (us .u8 (l ++ (List.range (i + 1)).map fun j_ => n / 2 ^ (8 * (k - 1 - j_)) % 256)) :: X) := H_8.asL (i := 2) rfl (by omega) (by rw [List.range_succ, List.map_append, ← List.append_assoc]; rfl) rfl
                refine Th_n ⟨_, ?_, _, _, rfl, e_3_0, e_3_1, e_3_2, e_3_44, rfl, H_9.drop_, (by omega)⟩
                omega
            ·
              have hc_4' := of_decide_eq_false hc_4
              refine W_exit ?_
              refine Th_x ?_
              refine Th_x ?_
              refine InB_hit ?_
              refine Th_n ?_
              refine W_seq ?_
              refine W_rg ?_
              refine L_mv rfl ?_
              refine L_as rfl ?_
              refine L_nil ?_
              refine Th_n ?_
              refine W_ret ?_
              refine P_ret (vs := [Value.pointer (some ⟨bw, 0, none⟩)]) (v := Value.pointer (some ⟨bw, 0, none⟩)) rfl (.tmp e_2_0 (Res.nil)) rfl ?_
              have hm : Pk.num l er n s = (l ++ (List.range i).map fun j_ => n / 2 ^ (8 * (k - 1 - j_)) % 256, er) := by first | (simp only [Pk.num]; (repeat (first | rw [if_pos (by omega)] | rw [if_neg (by omega)])); done) | (simp only [Pk.num, hk, Int.toNat_natCast]; (repeat (first | rw [if_pos (by omega)] | rw [if_neg (by omega)])); done) | (obtain rfl : er = 0 := (by omega); obtain rfl : i = k := (by omega); simp only [Pk.num, hk, Int.toNat_natCast, Pk.digs]; rw [if_neg (by omega), if_neg (by omega), if_neg (by intro hh; omega)])
              refine ⟨vi, rfl, ?_⟩; rw [hm]; have h := H_6; simp only [List.length_append, List.length_cons, List.length_nil, List.length_map, List.length_range, Pk.digs_len, Nat.zero_add, Nat.add_assoc] at h ⊢; exact h
        ·
          have hb_2' := eq_of_bne_false hb_2
          refine G_no (wN (b := true) rfl (congrArg Value.bool hb_2)) rfl ?_
          refine G_no (wN (b := true) rfl (congrArg Value.bool hb_2)) rfl ?_
          refine L_y rfl (Y_pickF (congrArg Value.bool hb_2)) ?_
          refine L_as rfl ?_
          refine L_nil ?_
          refine Th_n ?_
          refine W_false rfl ?_
          refine W_skip ?_
          refine InB_n ?_
          refine Th_n ?_
          refine W_seq ?_
          refine W_seq ?_
          refine W_rg ?_
          refine L_mv rfl ?_
          refine L_mv rfl ?_
          refine L_nil ?_
          refine Th_n ?_
          refine W_block ?_
          have H_10 : Hp w0 [] w (Ent.blk bw 69 #[v, Value.int .i64 ((er : Nat) : Int)] :: Ent.own v 5 1 (l.length + 0) (us .u8 (l ++ (List.range 0).map fun j_ => n / 2 ^ (8 * (k - 1 - j_)) % 256)) :: X) := H.asL (i := 1) rfl (Nat.add_zero _).symm (by simp) rfl
          refine W_loop (fun mu_ e w => ∃ i : Nat, ∃ vi : Value, mu_ = k - i ∧ e 0 = Value.pointer (some ⟨bw, 0, none⟩) ∧ e 1 = Value.int .u64 ((n : Nat) : Int) ∧ e 2 = Value.int .i64 ((k : Nat) : Int) ∧ e 44 = Value.int .i64 ((k : Nat) : Int) ∧ e 45 = Value.int .i64 ((i : Nat) : Int) ∧ Hp w0 [] w (Ent.blk bw 69 #[vi, Value.int .i64 ((er : Nat) : Int)] :: Ent.own vi 5 1 (l.length + i) (us .u8 (l ++ (List.range i).map fun j_ => n / 2 ^ (8 * (k - 1 - j_)) % 256)) :: X) ∧ i ≤ k) _ ⟨0, v, rfl, p_0, p_1, (p_2.trans (congrArg (Value.int .i64) hk)), (p_2.trans (congrArg (Value.int .i64) hk)), rfl, H_10, (Nat.zero_le _)⟩ ?_
          rintro mu_ e_4 w_8 ⟨i, vi, rfl, e_4_0, e_4_1, e_4_2, e_4_44, e_4_45, H_11, hi⟩
          refine W_seq ?_
          refine W_rg ?_
          refine L_y rfl (Y_lss (k := .i64) (a := ((i : Nat) : Int)) (b := ((k : Nat) : Int)) e_4_45 e_4_44) ?_
          refine L_nil ?_
          refine Th_n ?_
          refine W_seq ?_
          refine W_cond (b := (decide (((i : Nat) : Int) < ((k : Nat) : Int)))) rfl (fun hc_5 => ?_) (fun hc_5 => ?_)
          ·
            have hc_5' := of_decide_eq_true hc_5
            refine W_skip ?_
            refine Th_n ?_
            refine W_seq ?_
            refine W_block ?_
            refine W_seq ?_
            refine W_rg ?_
            refine L_mv rfl ?_
            refine L_as rfl ?_
            refine L_nil ?_
            refine Th_n ?_
            refine W_anyL 15 [13, 14] [61, 62] [Value.pointer (some ⟨bw, 0, none⟩), Value.pointer (some ⟨bw, 0, none⟩), Value.pointer (some ⟨bw, 0, none⟩), Value.pointer (some ⟨bw, 0, none⟩), vi, Value.int .u64 ((n : Nat) : Int), Value.int .i64 ((k : Nat) : Int), Value.int .i64 ((k - 1 : Nat) : Int), Value.int .i64 ((i : Nat) : Int), Value.int .i64 (((k - 1) - i : Nat) : Int), Value.int .i64 ((8 * ((k - 1) - i) : Nat) : Int), Value.int .u64 ((n / 2 ^ (8 * ((k - 1) - i)) : Nat) : Int), Value.int .u8 (((n / 2 ^ (8 * ((k - 1) - i))) % 256 : Nat) : Int), undef, undef] (fun w => w.heap[bw]? = some (.cells #[vi, Value.int .i64 ((er : Nat) : Int)] 69 (0, 0))) [fun vs w => Hp w0 [] w (Ent.blk bw 69 #[vi, Value.int .i64 ((er : Nat) : Int)] :: Ent.own vi 5 1 (l.length + i) (us .u8 (l ++ (List.range i).map fun j_ => n / 2 ^ (8 * (k - 1 - j_)) % 256)) :: X), fun vs w => ∃ bk61_, vs[0]? = some (Value.slice (some ⟨bk61_, 0, none⟩) 1 1) ∧ Hp w0 [] w (Ent.blk bk61_ 5 (ua .u8 [(n / 2 ^ (8 * ((k - 1) - i))) % 256]) :: Ent.blk bw 69 #[vi, Value.int .i64 ((er : Nat) : Int)] :: Ent.own vi 5 1 (l.length + i) (us .u8 (l ++ (List.range i).map fun j_ => n / 2 ^ (8 * (k - 1 - j_)) % 256)) :: X), fun _ _ => False, fun vs w => ∃ bk61_, ∃ v62_, vs[0]? = some (Value.slice (some ⟨bk61_, 0, none⟩) 1 1) ∧ vs[1]? = some (v62_) ∧ Hp w0 [] w (Ent.blk bk61_ 5 (ua .u8 [(n / 2 ^ (8 * ((k - 1) - i))) % 256]) :: Ent.blk bw 69 #[vi, Value.int .i64 ((er : Nat) : Int)] :: Ent.own v62_ 5 1 ((l.length + i) + 1) (us .u8 ((l ++ (List.range i).map fun j_ => n / 2 ^ (8 * (k - 1 - j_)) % 256) ++ [(n / 2 ^ (8 * ((k - 1) - i))) % 256])) :: X)] T_mixed (by kernel_rfl) ⟨fun _ _ H => H.get 0 rfl, fun _ _ h => by obtain ⟨_, _, H⟩ := h; exact H.get 1 rfl, fun _ _ h => h.elim, fun _ _ h => by obtain ⟨_, _, _, _, H⟩ := h; exact H.get 1 rfl, trivial⟩ ⟨fun _ _ _ hkp H => H.keep hkp, fun _ _ _ hkp h => by obtain ⟨q0, q1, H⟩ := h; exact ⟨q0, q1, H.keep hkp⟩, fun _ _ _ _ h => h.elim, fun _ _ _ hkp h => by obtain ⟨q0, q1, q2, q3, H⟩ := h; exact ⟨q0, q1, q2, q3, H.keep hkp⟩, trivial⟩ H_11 ?_ ?_
            ·
              refine .plain rfl (Pl_y rfl (fun w hBw => congrArg (fun v => Result.ok (Next.value v) w) e_4_0)) ?_
              refine .plain rfl (Pl_y rfl (fun w hBw => congrArg (fun v => Result.ok (Next.value v) w) e_4_0)) ?_
              refine .plain rfl (Pl_y rfl (fun w hBw => Y_nil rfl)) ?_
              refine .plain rfl (Pl_y rfl (fun w hBw => Y_fld T_fld69_0 rfl rfl rfl)) ?_
              refine .plain rfl (Pl_y rfl (fun w hBw => Y_ldb T_scal22 hBw rfl rfl)) ?_
              refine .plain rfl (Pl_y rfl (fun w hBw => congrArg (fun v => Result.ok (Next.value v) w) e_4_1)) ?_
              refine .plain rfl (Pl_y rfl (fun w hBw => congrArg (fun v => Result.ok (Next.value v) w) e_4_2)) ?_
              refine .plain rfl (Pl_y rfl (fun w hBw => Y_sub (k := .i64) (a := ((k : Nat) : Int)) (b := ((1 : Nat) : Int)) (z := ((k - 1 : Nat) : Int)) rfl rfl (wi (by omega)))) ?_
              refine .plain rfl (Pl_y rfl (fun w hBw => congrArg (fun v => Result.ok (Next.value v) w) e_4_45)) ?_
              refine .plain rfl (Pl_y rfl (fun w hBw => Y_sub (k := .i64) (a := ((k - 1 : Nat) : Int)) (b := ((i : Nat) : Int)) (z := (((k - 1) - i : Nat) : Int)) rfl rfl (wi (by omega)))) ?_
              refine .plain rfl (Pl_y rfl (fun w hBw => Y_mul (k := .i64) (a := ((8 : Nat) : Int)) (b := (((k - 1) - i : Nat) : Int)) (z := ((8 * ((k - 1) - i) : Nat) : Int)) rfl rfl (wi (by omega)))) ?_
              refine .plain rfl (Pl_y rfl (fun w hBw => Yu_shr (k := .u64) n (8 * ((k - 1) - i)) hn rfl rfl)) ?_
              refine .plain rfl (Pl_y rfl (fun w hBw => Y_convI (k := .u64) (n := ((n / 2 ^ (8 * ((k - 1) - i)) : Nat) : Int)) (z := (((n / 2 ^ (8 * ((k - 1) - i))) % 256 : Nat) : Int)) T_some42 T_kind5 rfl (wrapM rfl rfl))) ?_
              refine .special 0 rfl (Special.of ⟨⟨⟨⟨trivial, fun _ _ _ e' w' hAg hYs => by
                  have H : Hp w0 [] w' (Ent.blk bw 69 #[vi, Value.int .i64 ((er : Nat) : Int)] :: Ent.own vi 5 1 (l.length + i) (us .u8 (l ++ (List.range i).map fun j_ => n / 2 ^ (8 * (k - 1 - j_)) % 256)) :: X) := hYs
                  exact ⟨rfl, Dn_bsl (cs := ua .u8 [(n / 2 ^ (8 * ((k - 1) - i))) % 256]) H (pv := [(0, Value.int .u8 (((n / 2 ^ (8 * ((k - 1) - i))) % 256 : Nat) : Int))]) T_sl22 T_zero5 rfl (Bpc ((hAg 60 rfl).trans rfl) Bp0) (by kernel_rfl) (fun b w2 Hn => ⟨_, rfl, Hn⟩)⟩⟩, fun h => absurd h (by decide)⟩, fun _ _ h => absurd (by decide) (h 1 14 rfl (by decide))⟩, fun h => absurd h (by decide)⟩) ?_
              refine .special 1 rfl (Special.of ⟨⟨⟨⟨trivial, fun _ h => absurd (h 0 13 rfl (by decide)) (by decide)⟩, fun _ _ _ e' w' hAg hYs => by
                  obtain ⟨bk61_, q0, H⟩ := hYs
                  exact ⟨rfl, Dn_appL H (i := 2) rfl T_sl22 T_zero5 rfl T_szb5 ((hAg 52 rfl).trans rfl) (Option.some.inj q0) (ua_sla H (i := 0) rfl rfl) (by omega) (fun v2 w2 Hn => ⟨bk61_, _, q0, rfl, Hn⟩)⟩⟩, fun h => absurd h (by decide)⟩, fun h => absurd h (by decide)⟩) ?_
              exact .nil _
            ·
              intro e_5 w_9 hAg hYs
              obtain ⟨bk61__2, v62__2, q0, q1, H_12⟩ := hYs
              have e_5_61 : e_5 61 = Value.slice (some ⟨bk61__2, 0, none⟩) 1 1 := Option.some.inj q0
              have e_5_62 : e_5 62 = v62__2 := Option.some.inj q1
              have e_5_0 : e_5 0 = Value.pointer (some ⟨bw, 0, none⟩) := (hAg 0 rfl).trans e_4_0
              have e_5_1 : e_5 1 = Value.int .u64 ((n : Nat) : Int) := (hAg 1 rfl).trans e_4_1
              have e_5_2 : e_5 2 = Value.int .i64 ((k : Nat) : Int) := (hAg 2 rfl).trans e_4_2
              have e_5_44 : e_5 44 = Value.int .i64 ((k : Nat) : Int) := (hAg 44 rfl).trans e_4_44
              have e_5_45 : e_5 45 = Value.int .i64 ((i : Nat) : Int) := (hAg 45 rfl).trans e_4_45
              have e_5_48 : e_5 48 = Value.pointer (some ⟨bw, 0, none⟩) := (hAg 48 rfl).trans rfl
              refine L_y rfl (Y_nil e_5_48) ?_
              refine L_y rfl (Y_fld T_fld69_0 rfl rfl rfl) ?_
              refine L_st (v := v62__2) T_scal22 H_12 (i := 1) rfl rfl e_5_62 (own_one H_12 (i := 2) rfl) (Nat.le_of_ble_eq_true rfl) (l' := (Ent.blk bk61__2 5 (ua .u8 [(n / 2 ^ (8 * ((k - 1) - i))) % 256]) :: Ent.blk bw 69 #[v62__2, Value.int .i64 ((er : Nat) : Int)] :: Ent.own v62__2 5 1 ((l.length + i) + 1) (us .u8 ((l ++ (List.range i).map fun j_ => n / 2 ^ (8 * (k - 1 - j_)) % 256) ++ [(n / 2 ^ (8 * ((k - 1) - i))) % 256])) :: X)) rfl ?_; intro w_10 H_13
              refine L_nil ?_
              refine InB_n ?_
              refine Th_n ?_
              refine W_rg ?_
              refine L_y rfl (Y_add (k := .i64) (a := ((i : Nat) : Int)) (b := ((1 : Nat) : Int)) (z := ((i + 1 : Nat) : Int)) e_5_45 rfl (wi (by omega))) ?_
              refine L_mv rfl ?_
              refine L_nil ?_
              have H_14 : Hp w0 [] w_10 (Ent.blk bk61__2 5 (ua .u8 [(n / 2 ^ (8 * ((k - 1) - i))) % 256]) :: Ent.blk bw 69 #[v62__2, Value.int .i64 ((er : Nat) : Int)] :: Ent.own v62__2 5 1 (l.length + (i + 1)) (us .u8 (l ++ (List.range (i + 1)).map fun j_ => n / 2 ^ (8 * (k - 1 - j_)) % 256)) :: X) := H_13.asL (i := 2) rfl (by omega) (by rw [List.range_succ, List.map_append, ← List.append_assoc]; rfl) rfl
              refine Th_n ⟨_, ?_, _, _, rfl, e_5_0, e_5_1, e_5_2, e_5_44, rfl, H_14.drop_, (by omega)⟩
              omega
          ·
            have hc_5' := of_decide_eq_false hc_5
            refine W_exit ?_
            refine Th_x ?_
            refine Th_x ?_
            refine InB_hit ?_
            refine Th_n ?_
            refine W_seq ?_
            refine W_rg ?_
            refine L_mv rfl ?_
            refine L_as rfl ?_
            refine L_nil ?_
            refine Th_n ?_
            refine W_ret ?_
            refine P_ret (vs := [Value.pointer (some ⟨bw, 0, none⟩)]) (v := Value.pointer (some ⟨bw, 0, none⟩)) rfl (.tmp e_4_0 (Res.nil)) rfl ?_
            have hm : Pk.num l er n s = (l ++ (List.range i).map fun j_ => n / 2 ^ (8 * (k - 1 - j_)) % 256, er) := by first | (simp only [Pk.num]; (repeat (first | rw [if_pos (by omega)] | rw [if_neg (by omega)])); done) | (simp only [Pk.num, hk, Int.toNat_natCast]; (repeat (first | rw [if_pos (by omega)] | rw [if_neg (by omega)])); done) | (obtain rfl : er = 0 := (by omega); obtain rfl : i = k := (by omega); simp only [Pk.num, hk, Int.toNat_natCast, Pk.digs]; rw [if_neg (by omega), if_neg (by omega), if_neg (by intro hh; omega)])
            refine ⟨vi, rfl, ?_⟩; rw [hm]; have h := H_11; simp only [List.length_append, List.length_cons, List.length_nil, List.length_map, List.length_range, Pk.digs_len, Nat.zero_add, Nat.add_assoc] at h ⊢; exact h

theorem wRaw {w0 w : World} {X : List Ent} {bw : Nat} {v : Value} {l : List Nat} {er : Nat} {a : Option Addr} {m c : Nat} {b : List Nat} (hlt : ∀ u ∈ l, u < 256) (hm : l.length + m ≤ 4294967000) (hsb : Seen w0 X .u8 a m c b) (hst : ∀ u ∈ b, u < 256) (H : Hp w0 [] w (.blk bw 69 #[v, .int .i64 ((er : Nat) : Int)] :: .own v 5 1 l.length (us .u8 l) :: X)) :
    Calls Try.prog 35 #[Value.pointer (some ⟨bw, 0, none⟩), Value.slice a m c] w (fun r_ w' => ∃ v', r_ = .returned (Value.pointer (some ⟨bw, 0, none⟩)) ∧ Hp w0 [] w' (.blk bw 69 #[v', .int .i64 (((Pk.raw l er b).2 : Nat) : Int)] :: .own v' 5 1 (Pk.raw l er b).1.length (us .u8 (Pk.raw l er b).1) :: X)) := by
  have hbl : b.length = m := hsb.len H (fun _ h_ => .tail _ (.tail _ (h_)))
  refine F_in Try.func35 rfl Try.ntmps35 rfl ?_
  intro e he
  have p_0 : e 0 = Value.pointer (some ⟨bw, 0, none⟩) := he 0 _ rfl
  have p_1 : e 1 = Value.slice a m c := he 1 _ rfl
  refine W_seq ?_
  refine W_rg ?_
  refine L_as rfl ?_
  refine L_nil ?_
  refine Th_n ?_
  refine W_seq ?_
  refine W_seq ?_
  refine W_rg ?_
  refine L_mv rfl ?_
  refine L_y rfl (Y_neP Try.underlying70 p_0 rfl) ?_
  refine L_mv rfl ?_
  refine G_mv (wE rfl rfl) rfl ?_
  refine G_y (wE rfl rfl) rfl (Y_nil p_0) ?_
  refine G_y (wE rfl rfl) rfl (Y_fld T_fld69_1 rfl rfl rfl) ?_
  refine G_y (wE rfl rfl) rfl (Y_ld T_scal31 H (i := 0) rfl rfl rfl) ?_
  refine G_y (wE rfl rfl) rfl (Y_eql (k := .i64) (a := ((er : Nat) : Int)) (b := ((0 : Nat) : Int)) rfl rfl) ?_
  refine L_y rfl (Y_pickT rfl) ?_
  refine L_nil ?_
  refine Th_n ?_
  refine W_cond (b := (((er : Nat) : Int) == ((0 : Nat) : Int))) rfl (fun hc => ?_) (fun hc => ?_)
  ·
    have hc' := eq_of_beq hc
    refine W_rg ?_
    refine L_mv rfl ?_
    refine L_mv rfl ?_
    refine L_y rfl (Y_nil p_0) ?_
    refine L_y rfl (Y_fld T_fld69_0 rfl rfl rfl) ?_
    refine L_y rfl (Y_ld T_scal22 H (i := 0) rfl rfl rfl) ?_
    refine L_mv rfl ?_
    refine L_appL rfl H (i := 1) rfl T_sl22 T_zero5 rfl T_szb5 rfl p_1 (hsb.hp H (fun _ h_ => .tail _ (.tail _ (h_)))) (by omega) ?_; intro v20 w_2 Hx
    have H_2 : Hp w0 [] w_2 (Ent.blk bw 69 #[v, Value.int .i64 ((er : Nat) : Int)] :: Ent.own v20 5 1 (l.length + m) (us .u8 (l ++ b)) :: X) := Hx
    refine L_y rfl (Y_nil p_0) ?_
    refine L_y rfl (Y_fld T_fld69_0 rfl rfl rfl) ?_
    refine L_st (v := v20) T_scal22 H_2 (i := 0) rfl rfl rfl (own_one H_2 (i := 1) rfl) (Nat.le_of_ble_eq_true rfl) (l' := (Ent.blk bw 69 #[v20, Value.int .i64 ((er : Nat) : Int)] :: Ent.own v20 5 1 (l.length + m) (us .u8 (l ++ b)) :: X)) rfl ?_; intro w_3 H_3
    refine L_nil ?_
    refine Th_n ?_
    refine W_seq ?_
    refine W_rg ?_
    refine L_mv rfl ?_
    refine L_as rfl ?_
    refine L_nil ?_
    refine Th_n ?_
    refine W_ret ?_
    refine P_ret (vs := [Value.pointer (some ⟨bw, 0, none⟩)]) (v := Value.pointer (some ⟨bw, 0, none⟩)) rfl (.tmp p_0 (Res.nil)) rfl ?_
    have hm : Pk.raw l er b = (l ++ b, er) := by first | (simp only [Pk.raw]; (repeat (first | rw [if_pos (by omega)] | rw [if_neg (by omega)])); done) | (obtain rfl : er = 0 := (by omega); rfl)
    refine ⟨v20, rfl, ?_⟩; rw [hm]; have h := H_3; simp only [List.length_append, List.length_cons, List.length_nil, List.length_map, List.length_range, Pk.digs_len, Nat.zero_add, Nat.add_assoc, hbl] at h ⊢; exact h
  ·
    have hc' := ne_of_beq_false hc
    refine W_skip ?_
    refine Th_n ?_
    refine W_seq ?_
    refine W_rg ?_
    refine L_mv rfl ?_
    refine L_as rfl ?_
    refine L_nil ?_
    refine Th_n ?_
    refine W_ret ?_
    refine P_ret (vs := [Value.pointer (some ⟨bw, 0, none⟩)]) (v := Value.pointer (some ⟨bw, 0, none⟩)) rfl (.tmp p_0 (Res.nil)) rfl ?_
    have hm : Pk.raw l er b = (l, er) := by first | (simp only [Pk.raw]; (repeat (first | rw [if_pos (by omega)] | rw [if_neg (by omega)])); done) | (obtain rfl : er = 0 := (by omega); rfl)
    refine ⟨v, rfl, ?_⟩; rw [hm]; have h := H; simp only [List.length_append, List.length_cons, List.length_nil, List.length_map, List.length_range, Pk.digs_len, Nat.zero_add, Nat.add_assoc, hbl] at h ⊢; exact h

theorem clone (a : Option Addr) (m c : Nat) (l : List Nat) (w0 : World) (hm : m ≤ 4294967000) (hs0 : Sl w0 .u8 a m c l) :
    Calls Try.prog 33 #[Value.slice a m c] w0 (fun r_ w' => ∃ v, r_ = .returned v ∧ Hp w0 [] w' [.own v 5 1 m (us .u8 l)]) := by
  refine F_in Try.func33 rfl Try.ntmps33 rfl ?_
  intro e he
  have p_0 : e 0 = Value.slice a m c := he 0 _ rfl
  have H := Hp.start w0 []
  refine W_seq ?_
  refine W_rg ?_
  refine L_as rfl ?_
  refine L_nil ?_
  refine Th_n ?_
  refine W_seq ?_
  refine W_seq ?_
  refine W_rg ?_
  refine L_mv rfl ?_
  refine L_y rfl (Y_eqSn (a := a) Try.underlying22 p_0 rfl) ?_
  refine L_nil ?_
  refine Th_n ?_
  refine W_cond (b := a.isNone) rfl (fun hc => ?_) (fun hc => ?_)
  ·
    refine W_seq ?_
    refine W_rg ?_
    refine L_as rfl ?_
    refine L_nil ?_
    refine Th_n ?_
    refine W_ret ?_
    refine Th_r ?_
    refine P_ret (vs := [Value.slice none 0 0]) (v := Value.slice none 0 0) rfl (.tmp rfl (Res.nil)) rfl ?_
    obtain ⟨rfl, rfl, rfl, rfl⟩ := hs0.isNone (by first | assumption | simp_all)
    exact ⟨_, rfl, H.nilOwn 5 1⟩
  ·
    refine W_skip ?_
    refine Th_n ?_
    refine W_seq ?_
    refine W_rg ?_
    refine L_bsl (cs := ua .u8 []) rfl H (pv := []) T_sl22 T_zero5 rfl Bp0 (by kernel_rfl) ?_; intro bk5 w_2 H_2
    have H_3 : Hp w0 [] w_2 [Ent.own (Value.slice (some ⟨bk5, 0, none⟩) 0 0) 5 1 0 (us .u8 [])] := H_2.say (i := 0) (x' := .own (Value.slice (some ⟨bk5, 0, none⟩) 0 0) 5 1 0 (us .u8 [])) rfl (own_of_blk (Nat.le_refl _) (by decide) rfl rfl) (fun _ h => h) rfl
    refine L_mv rfl ?_
    refine L_appL rfl H_3 (i := 0) rfl T_sl22 T_zero5 rfl T_szb5 rfl p_0 (hs0.hp H_3) (by omega) ?_; intro v7 w_3 Hx
    have H_4 : Hp w0 [] w_3 [Ent.own v7 5 1 m (us .u8 l)] := by have h := Hx; simp only [Nat.zero_add] at h; exact h
    refine L_as rfl ?_
    refine L_nil ?_
    refine Th_n ?_
    refine W_ret ?_
    refine P_ret (vs := [v7]) (v := v7) rfl (.tmp rfl (Res.nil)) rfl ?_
    refine ⟨v7, rfl, ?_⟩; have h := H_4; simpa using h

theorem T_en33 : enters Try.prog 33 = true := by kernel_rfl
theorem wDone {w0 w : World} {X : List Ent} {bw : Nat} {v : Value} {l : List Nat} {er : Nat} (hl : l.length ≤ 4294967000) (hlt : ∀ u ∈ l, u < 256) (H : Hp w0 [] w (.blk bw 69 #[v, .int .i64 ((er : Nat) : Int)] :: .own v 5 1 (l).length (us .u8 (l)) :: X)) :
    Calls Try.prog 37 #[Value.pointer (some ⟨bw, 0, none⟩)] w (fun r_ w' => ∃ v', r_ = .returned (.tuple #[v', .int .i64 ((er : Nat) : Int)]) ∧ Hp w0 [] w' (.own v' 5 1 (Pk.told l er).length (us .u8 (Pk.told l er)) :: .blk bw 69 #[v, .int .i64 ((er : Nat) : Int)] :: .own v 5 1 (l).length (us .u8 (l)) :: X)) := by
  refine F_in Try.func37 rfl Try.ntmps37 rfl ?_
  intro e he
  have p_0 : e 0 = Value.pointer (some ⟨bw, 0, none⟩) := he 0 _ rfl
  refine W_seq ?_
  refine W_rg ?_
  refine L_as rfl ?_
  refine L_as rfl ?_
  refine L_nil ?_
  refine Th_n ?_
  refine W_seq ?_
  refine W_block ?_
  refine W_seq ?_
  refine W_rg ?_
  refine L_mv rfl ?_
  refine L_y rfl (Y_eqP Try.underlying70 p_0 rfl) ?_
  refine L_as rfl ?_
  refine L_nil ?_
  refine Th_n ?_
  refine W_false rfl ?_
  refine W_seq ?_
  refine W_rg ?_
  refine L_mv rfl ?_
  refine L_y rfl (Y_nil p_0) ?_
  refine L_y rfl (Y_fld T_fld69_1 rfl rfl rfl) ?_
  refine L_y rfl (Y_ld T_scal31 H (i := 0) rfl rfl rfl) ?_
  refine L_y rfl (Y_neq (k := .i64) (a := ((er : Nat) : Int)) (b := ((0 : Nat) : Int)) rfl rfl) ?_
  refine L_as rfl ?_
  refine L_nil ?_
  refine Th_n ?_
  refine W_cond (b := (((er : Nat) : Int) != ((0 : Nat) : Int))) rfl (fun hc => ?_) (fun hc => ?_)
  ·
    have hc' := ne_of_bne hc
    refine W_seq ?_
    refine W_quiet H 5 [Value.pointer (some ⟨bw, 0, none⟩), Value.pointer (some ⟨bw, 0, none⟩), Value.pointer (some ⟨bw, 1, none⟩), Value.int .i64 ((er : Nat) : Int), Value.slice none 0 0] T_mixed (by kernel_rfl) ?_ ?_
    ·
      refine .plain rfl (Pl_y rfl (fun w hBw => congrArg (fun v => Result.ok (Next.value v) w) p_0)) ?_
      refine .plain rfl (Pl_y rfl (fun w hBw => Y_nil rfl)) ?_
      refine .plain rfl (Pl_y rfl (fun w hBw => Y_fld T_fld69_1 rfl rfl rfl)) ?_
      refine .plain rfl (Pl_y rfl (fun w hBw => Y_ld T_scal31 hBw (i := 0) rfl rfl rfl)) ?_
      refine .plain rfl (Pl_y rfl (fun w hBw => rfl)) ?_
      exact .nil _
    ·
      intro e_2 w_2 hAg H_2
      have e_2_2 : e_2 2 = Value.slice none 0 0 := (hAg 2 rfl).trans rfl
      have e_2_16 : e_2 16 = Value.int .i64 ((er : Nat) : Int) := (hAg 16 rfl).trans rfl
      refine L_as rfl ?_
      refine L_nil ?_
      refine Th_n ?_
      refine W_ret ?_
      refine InB_r ?_
      refine Th_r ?_
      refine P_ret (vs := [Value.slice none 0 0, Value.int .i64 ((er : Nat) : Int)]) (v := Value.tuple #[Value.slice none 0 0, Value.int .i64 ((er : Nat) : Int)]) rfl (.tmp e_2_2 (.tmp e_2_16 (Res.nil))) rfl ?_
      refine ⟨Value.slice none 0 0, rfl, ?_⟩; rw [show Pk.told l er = [] from if_neg (by omega)]; exact H_2.nilOwn 5 1
  ·
    have hc' := eq_of_bne_false hc
    refine W_skip ?_
    refine InB_n ?_
    refine Th_n ?_
    refine W_seq ?_
    refine W_rg ?_
    refine L_mv rfl ?_
    refine L_y rfl (Y_nil p_0) ?_
    refine L_y rfl (Y_fld T_fld69_0 rfl rfl rfl) ?_
    refine L_y rfl (Y_ld T_scal22 H (i := 0) rfl rfl rfl) ?_
    obtain ⟨a_, c_, rfl⟩ := Sl.opn H (i := 1) rfl
    refine L_callv rfl rfl T_en33 (A1 rfl) (clone _ _ _ _ _ (by omega) (Sl.own H (i := 1) rfl)) ?_
    rintro _ w_3 ⟨v21, rfl, hkp⟩; refine ⟨_, rfl, ?_⟩; have H_3 := H.more hkp
    refine L_as rfl ?_
    refine L_as rfl ?_
    refine L_nil ?_
    refine Th_n ?_
    refine W_ret ?_
    refine P_ret (vs := [v21, Value.int .i64 ((0 : Nat) : Int)]) (v := Value.tuple #[v21, Value.int .i64 ((0 : Nat) : Int)]) rfl (.tmp rfl (.tmp rfl (Res.nil))) rfl ?_
    obtain rfl : er = 0 := (by omega)
    refine ⟨v21, rfl, ?_⟩; rw [show Pk.told l 0 = l from if_pos rfl]; exact H_3

theorem T_en46 : enters Try.prog 46 = true := by kernel_rfl
theorem T_en47 : enters Try.prog 47 = true := by kernel_rfl
theorem dFail0 (w0 : World) :
    Calls Try.prog 46 #[Value.pointer none, Value.int .i64 ((2 : Nat) : Int)] w0 (fun r_ w' => r_ = .returned (Value.tuple #[]) ∧ Keep w0 w') := by
  refine F_in Try.func46 rfl Try.ntmps46 rfl ?_
  intro e he
  have p_0 : e 0 = Value.pointer none := he 0 _ rfl
  have p_1 : e 1 = Value.int .i64 ((2 : Nat) : Int) := he 1 _ rfl
  have H := Hp.start w0 []
  refine W_seq ?_
  refine W_rg ?_
  refine L_mv rfl ?_
  refine L_y rfl (Y_neP Try.underlying74 p_0 rfl) ?_
  refine L_mv rfl ?_
  refine G_no (wN (b := true) rfl rfl) rfl ?_
  refine G_no (wN (b := true) rfl rfl) rfl ?_
  refine G_no (wN (b := true) rfl rfl) rfl ?_
  refine G_no (wN (b := true) rfl rfl) rfl ?_
  refine G_no (wN (b := true) rfl rfl) rfl ?_
  refine L_y rfl (Y_pickF rfl) ?_
  refine L_nil ?_
  refine Th_n ?_
  refine W_false rfl ?_
  refine W_skip ?_
  refine P_end (vs := []) (v := Value.tuple #[]) rfl (Res.nil) rfl ?_
  refine ⟨?_, H.nil_⟩
  rfl

theorem dTake0 (s : Int) (w0 : World) :
    Calls Try.prog 47 #[Value.pointer none, Value.int .i64 (s)] w0 (fun r_ w' => r_ = .returned (Value.slice none 0 0) ∧ Keep w0 w') := by
  refine F_in Try.func47 rfl Try.ntmps47 rfl ?_
  intro e he
  have p_0 : e 0 = Value.pointer none := he 0 _ rfl
  have p_1 : e 1 = Value.int .i64 (s) := he 1 _ rfl
  have H := Hp.start w0 []
  refine W_seq ?_
  refine W_rg ?_
  refine L_as rfl ?_
  refine L_nil ?_
  refine Th_n ?_
  refine W_seq ?_
  refine W_block ?_
  refine W_seq ?_
  refine W_rg ?_
  refine L_mv rfl ?_
  refine L_y rfl (Y_eqP Try.underlying74 p_0 rfl) ?_
  refine L_mv rfl ?_
  refine G_no (wN (b := false) rfl rfl) rfl ?_
  refine G_no (wN (b := false) rfl rfl) rfl ?_
  refine G_no (wN (b := false) rfl rfl) rfl ?_
  refine G_no (wN (b := false) rfl rfl) rfl ?_
  refine G_no (wN (b := false) rfl rfl) rfl ?_
  refine L_y rfl (Y_pickT rfl) ?_
  refine L_as rfl ?_
  refine L_nil ?_
  refine Th_n ?_
  refine W_true rfl ?_
  refine W_seq ?_
  refine W_rg ?_
  refine L_as rfl ?_
  refine L_nil ?_
  refine Th_n ?_
  refine W_ret ?_
  refine InB_r ?_
  refine Th_r ?_
  refine P_ret (vs := [Value.slice none 0 0]) (v := Value.slice none 0 0) rfl (.tmp rfl (Res.nil)) rfl ?_
  refine ⟨?_, H.nil_⟩
  rfl

theorem dLeft0 (w0 : World) :
    Calls Try.prog 43 #[Value.pointer none] w0 (fun r_ w' => r_ = .returned (.int .i64 ((0 : Nat) : Int)) ∧ Keep w0 w') := by
  refine F_in Try.func43 rfl Try.ntmps43 rfl ?_
  intro e he
  have p_0 : e 0 = Value.pointer none := he 0 _ rfl
  have H := Hp.start w0 []
  refine W_seq ?_
  refine W_rg ?_
  refine L_as rfl ?_
  refine L_nil ?_
  refine Th_n ?_
  refine W_seq ?_
  refine W_seq ?_
  refine W_rg ?_
  refine L_mv rfl ?_
  refine L_y rfl (Y_eqP Try.underlying74 p_0 rfl) ?_
  refine L_nil ?_
  refine Th_n ?_
  refine W_true rfl ?_
  refine W_seq ?_
  refine W_rg ?_
  refine L_as rfl ?_
  refine L_nil ?_
  refine Th_n ?_
  refine W_ret ?_
  refine Th_r ?_
  refine P_ret (vs := [Value.int .i64 ((0 : Nat) : Int)]) (v := Value.int .i64 ((0 : Nat) : Int)) rfl (.tmp rfl (Res.nil)) rfl ?_
  refine ⟨?_, H.nil_⟩
  rfl

theorem dNum0 (s : Int) (w0 : World) :
    Calls Try.prog 40 #[Value.pointer none, Value.int .i64 (s)] w0 (fun r_ w' => r_ = .returned (.int .u64 ((0 : Nat) : Int)) ∧ Keep w0 w') := by
  refine F_in Try.func40 rfl Try.ntmps40 rfl ?_
  intro e he
  have p_0 : e 0 = Value.pointer none := he 0 _ rfl
  have p_1 : e 1 = Value.int .i64 (s) := he 1 _ rfl
  have H := Hp.start w0 []
  refine W_seq ?_
  refine W_rg ?_
  refine L_as rfl ?_
  refine L_nil ?_
  refine Th_n ?_
  refine W_seq ?_
  refine W_seq ?_
  refine W_rg ?_
  refine L_mv rfl ?_
  refine L_y rfl (Y_lss (k := .i64) (a := s) (b := ((1 : Nat) : Int)) p_1 rfl) ?_
  refine L_mv rfl ?_
  rcases Bool.eq_false_or_eq_true (decide (s < ((1 : Nat) : Int))) with hb | hb
  ·
    have hb' := of_decide_eq_true hb
    refine G_no (wN (b := false) rfl (congrArg Value.bool hb)) rfl ?_
    refine G_no (wN (b := false) rfl (congrArg Value.bool hb)) rfl ?_
    refine L_y rfl (Y_pickT (congrArg Value.bool hb)) ?_
    refine L_nil ?_
    refine Th_n ?_
    refine W_true rfl ?_
    refine W_rg ?_
    refine L_mv rfl ?_
    refine L_callv rfl rfl T_en46 (A2 p_0 rfl) (dFail0 _) ?_
    rintro _ w_2 ⟨rfl, hkp⟩; refine ⟨_, rfl, ?_⟩; have H_2 := H.keep hkp
    refine L_nil ?_
    refine Th_n ?_
    refine W_seq ?_
    refine W_rg ?_
    refine L_as rfl ?_
    refine L_nil ?_
    refine Th_n ?_
    refine W_seq ?_
    refine W_seq ?_
    refine W_rg ?_
    refine L_mv rfl ?_
    refine L_mv rfl ?_
    refine L_callv rfl rfl T_en47 (A2 p_0 p_1) (dTake0 s _) ?_
    rintro _ w_3 ⟨rfl, hkp_2⟩; refine ⟨_, rfl, ?_⟩; have H_3 := H_2.keep hkp_2
    refine L_y rfl (Y_lenS T_sl22 rfl) ?_
    refine L_mv rfl ?_
    refine L_nil ?_
    refine Th_n ?_
    refine W_block ?_
    refine W_loop (fun mu_ e w => mu_ = 0 ∧ e 5 = Value.int .u64 ((0 : Nat) : Int) ∧ e 18 = Value.slice none 0 0 ∧ e 19 = Value.int .i64 ((0 : Nat) : Int) ∧ e 20 = Value.int .i64 ((0 : Nat) : Int) ∧ Hp w0 [] w []) _ ⟨rfl, rfl, rfl, rfl, rfl, H_3⟩ ?_
    rintro mu_ e_2 w_4 ⟨rfl, e_2_5, e_2_18, e_2_19, e_2_20, H_4⟩
    refine W_seq ?_
    refine W_rg ?_
    refine L_y rfl (Y_lss (k := .i64) (a := ((0 : Nat) : Int)) (b := ((0 : Nat) : Int)) e_2_20 e_2_19) ?_
    refine L_nil ?_
    refine Th_n ?_
    refine W_seq ?_
    refine W_false (congrArg Value.bool (by decide : (decide (((0 : Nat) : Int) < ((0 : Nat) : Int))) = false)) ?_
    refine W_exit ?_
    refine Th_x ?_
    refine Th_x ?_
    refine InB_hit ?_
    refine Th_n ?_
    refine W_seq ?_
    refine W_rg ?_
    refine L_mv rfl ?_
    refine L_as rfl ?_
    refine L_nil ?_
    refine Th_n ?_
    refine W_ret ?_
    refine P_ret (vs := [Value.int .u64 ((0 : Nat) : Int)]) (v := Value.int .u64 ((0 : Nat) : Int)) rfl (.tmp e_2_5 (Res.nil)) rfl ?_
    refine ⟨?_, H_4.nil_⟩
    rfl
  ·
    have hb' := of_decide_eq_false hb
    refine G_mv (wE rfl (congrArg Value.bool hb)) rfl ?_
    refine G_y (wE rfl (congrArg Value.bool hb)) rfl (Y_gtr (k := .i64) (a := s) (b := ((8 : Nat) : Int)) p_1 rfl) ?_
    refine L_y rfl (Y_pickF (congrArg Value.bool hb)) ?_
    refine L_nil ?_
    refine Th_n ?_
    refine W_cond (b := (decide (((8 : Nat) : Int) < s))) rfl (fun hc => ?_) (fun hc => ?_)
    ·
      have hc' := of_decide_eq_true hc
      refine W_rg ?_
      refine L_mv rfl ?_
      refine L_callv rfl rfl T_en46 (A2 p_0 rfl) (dFail0 _) ?_
      rintro _ w_5 ⟨rfl, hkp_3⟩; refine ⟨_, rfl, ?_⟩; have H_5 := H.keep hkp_3
      refine L_nil ?_
      refine Th_n ?_
      refine W_seq ?_
      refine W_rg ?_
      refine L_as rfl ?_
      refine L_nil ?_
      refine Th_n ?_
      refine W_seq ?_
      refine W_seq ?_
      refine W_rg ?_
      refine L_mv rfl ?_
      refine L_mv rfl ?_
      refine L_callv rfl rfl T_en47 (A2 p_0 p_1) (dTake0 s _) ?_
      rintro _ w_6 ⟨rfl, hkp_4⟩; refine ⟨_, rfl, ?_⟩; have H_6 := H_5.keep hkp_4
      refine L_y rfl (Y_lenS T_sl22 rfl) ?_
      refine L_mv rfl ?_
      refine L_nil ?_
      refine Th_n ?_
      refine W_block ?_
      refine W_loop (fun mu_ e w => mu_ = 0 ∧ e 5 = Value.int .u64 ((0 : Nat) : Int) ∧ e 18 = Value.slice none 0 0 ∧ e 19 = Value.int .i64 ((0 : Nat) : Int) ∧ e 20 = Value.int .i64 ((0 : Nat) : Int) ∧ Hp w0 [] w []) _ ⟨rfl, rfl, rfl, rfl, rfl, H_6⟩ ?_
      rintro mu_ e_3 w_7 ⟨rfl, e_3_5, e_3_18, e_3_19, e_3_20, H_7⟩
      refine W_seq ?_
      refine W_rg ?_
      refine L_y rfl (Y_lss (k := .i64) (a := ((0 : Nat) : Int)) (b := ((0 : Nat) : Int)) e_3_20 e_3_19) ?_
      refine L_nil ?_
      refine Th_n ?_
      refine W_seq ?_
      refine W_false (congrArg Value.bool (by decide : (decide (((0 : Nat) : Int) < ((0 : Nat) : Int))) = false)) ?_
      refine W_exit ?_
      refine Th_x ?_
      refine Th_x ?_
      refine InB_hit ?_
      refine Th_n ?_
      refine W_seq ?_
      refine W_rg ?_
      refine L_mv rfl ?_
      refine L_as rfl ?_
      refine L_nil ?_
      refine Th_n ?_
      refine W_ret ?_
      refine P_ret (vs := [Value.int .u64 ((0 : Nat) : Int)]) (v := Value.int .u64 ((0 : Nat) : Int)) rfl (.tmp e_3_5 (Res.nil)) rfl ?_
      refine ⟨?_, H_7.nil_⟩
      rfl
    ·
      have hc' := of_decide_eq_false hc
      refine W_skip ?_
      refine Th_n ?_
      refine W_seq ?_
      refine W_rg ?_
      refine L_as rfl ?_
      refine L_nil ?_
      refine Th_n ?_
      refine W_seq ?_
      refine W_seq ?_
      refine W_rg ?_
      refine L_mv rfl ?_
      refine L_mv rfl ?_
      refine L_callv rfl rfl T_en47 (A2 p_0 p_1) (dTake0 s _) ?_
      rintro _ w_8 ⟨rfl, hkp_5⟩; refine ⟨_, rfl, ?_⟩; have H_8 := H.keep hkp_5
      refine L_y rfl (Y_lenS T_sl22 rfl) ?_
      refine L_mv rfl ?_
      refine L_nil ?_
      refine Th_n ?_
      refine W_block ?_
      refine W_loop (fun mu_ e w => mu_ = 0 ∧ e 5 = Value.int .u64 ((0 : Nat) : Int) ∧ e 18 = Value.slice none 0 0 ∧ e 19 = Value.int .i64 ((0 : Nat) : Int) ∧ e 20 = Value.int .i64 ((0 : Nat) : Int) ∧ Hp w0 [] w []) _ ⟨rfl, rfl, rfl, rfl, rfl, H_8⟩ ?_
      rintro mu_ e_4 w_9 ⟨rfl, e_4_5, e_4_18, e_4_19, e_4_20, H_9⟩
      refine W_seq ?_
      refine W_rg ?_
      refine L_y rfl (Y_lss (k := .i64) (a := ((0 : Nat) : Int)) (b := ((0 : Nat) : Int)) e_4_20 e_4_19) ?_
      refine L_nil ?_
      refine Th_n ?_
      refine W_seq ?_
      refine W_false (congrArg Value.bool (by decide : (decide (((0 : Nat) : Int) < ((0 : Nat) : Int))) = false)) ?_
      refine W_exit ?_
      refine Th_x ?_
      refine Th_x ?_
      refine InB_hit ?_
      refine Th_n ?_
      refine W_seq ?_
      refine W_rg ?_
      refine L_mv rfl ?_
      refine L_as rfl ?_
      refine L_nil ?_
      refine Th_n ?_
      refine W_ret ?_
      refine P_ret (vs := [Value.int .u64 ((0 : Nat) : Int)]) (v := Value.int .u64 ((0 : Nat) : Int)) rfl (.tmp e_4_5 (Res.nil)) rfl ?_
      refine ⟨?_, H_9.nil_⟩
      rfl

theorem dRaw0 (s : Int) (w0 : World) :
    Calls Try.prog 41 #[Value.pointer none, Value.int .i64 (s)] w0 (fun r_ w' => ∃ v, r_ = .returned v ∧ Hp w0 [] w' [.own v 5 1 0 (us .u8 [])]) := by
  refine F_in Try.func41 rfl Try.ntmps41 rfl ?_
  intro e he
  have p_0 : e 0 = Value.pointer none := he 0 _ rfl
  have p_1 : e 1 = Value.int .i64 (s) := he 1 _ rfl
  have H := Hp.start w0 []
  refine W_seq ?_
  refine W_rg ?_
  refine L_as rfl ?_
  refine L_nil ?_
  refine Th_n ?_
  refine W_seq ?_
  refine W_rg ?_
  refine L_mv rfl ?_
  refine L_mv rfl ?_
  refine L_callv rfl rfl T_en47 (A2 p_0 p_1) (dTake0 s _) ?_
  rintro _ w_2 ⟨rfl, hkp⟩; refine ⟨_, rfl, ?_⟩; have H_2 := H.keep hkp
  refine L_callv rfl rfl T_en33 (A1 rfl) (clone _ _ _ _ _ (by omega) (Sl.nil _ _)) ?_
  rintro _ w_3 ⟨v8, rfl, hkp_2⟩; refine ⟨_, rfl, ?_⟩; have H_3 := H_2.more hkp_2
  refine L_as rfl ?_
  refine L_nil ?_
  refine Th_n ?_
  refine W_ret ?_
  refine P_ret (vs := [v8]) (v := v8) rfl (.tmp rfl (Res.nil)) rfl ?_
  exact ⟨_, rfl, H_3⟩

theorem T_fld82_2 : fldOf Try.prog 82 2 = some (2, 1) := by kernel_rfl
theorem T_fld82_0 : fldOf Try.prog 82 0 = some (0, 1) := by kernel_rfl
theorem T_fld82_1 : fldOf Try.prog 82 1 = some (1, 1) := by kernel_rfl
theorem dTake {w0 w : World} {X : List Ent} {bw : Nat} {v : Value} {l : List Nat} {p er : Nat} (s : Int) (hl : l.length ≤ 4294967000) (hlt : ∀ u ∈ l, u < 256) (hp : p ≤ l.length) (H : Hp w0 [] w (Ent.blk bw 82 #[v, Value.int .i64 ((p : Nat) : Int), Value.int .i64 ((er : Nat) : Int)] :: Ent.own v 5 1 l.length (us .u8 l) :: X)) :
    Calls Try.prog 47 #[Value.pointer (some ⟨bw, 0, none⟩), Value.int .i64 (s)] w (fun r_ w' => ∃ a' m' c' v', r_ = .returned (.slice a' m' c') ∧ Seen w0 [.own v' 5 1 l.length (us .u8 l)] .u8 a' m' c' (Pk.take l p er s).1 ∧ Hp w0 [] w' (Ent.blk bw 82 #[v', Value.int .i64 (((Pk.take l p er s).2.1 : Nat) : Int), Value.int .i64 (((Pk.take l p er s).2.2 : Nat) : Int)] :: Ent.own v' 5 1 l.length (us .u8 l) :: X)) := by
  refine F_in Try.func47 rfl Try.ntmps47 rfl ?_
  intro e he
  have p_0 : e 0 = Value.pointer (some ⟨bw, 0, none⟩) := he 0 _ rfl
  have p_1 : e 1 = Value.int .i64 (s) := he 1 _ rfl
  refine W_seq ?_
  refine W_rg ?_
  refine L_as rfl ?_
  refine L_nil ?_
  refine Th_n ?_
  refine W_seq ?_
  refine W_block ?_
  refine W_seq ?_
  refine W_rg ?_
  refine L_mv rfl ?_
  refine L_y rfl (Y_eqP Try.underlying74 p_0 rfl) ?_
  refine L_mv rfl ?_
  refine G_mv (wE rfl rfl) rfl ?_
  refine G_y (wE rfl rfl) rfl (Y_nil p_0) ?_
  refine G_y (wE rfl rfl) rfl (Y_fld T_fld82_2 rfl rfl rfl) ?_
  refine G_y (wE rfl rfl) rfl (Y_ld T_scal31 H (i := 0) rfl rfl rfl) ?_
  refine G_y (wE rfl rfl) rfl (Y_neq (k := .i64) (a := ((er : Nat) : Int)) (b := ((0 : Nat) : Int)) rfl rfl) ?_
  refine L_y rfl (Y_pickF rfl) ?_
  refine L_as rfl ?_
  refine L_nil ?_
  refine Th_n ?_
  refine W_cond (b := (((er : Nat) : Int) != ((0 : Nat) : Int))) rfl (fun hc => ?_) (fun hc => ?_)
  ·
    have hc' := ne_of_bne hc
    refine W_seq ?_
    refine W_rg ?_
    refine L_as rfl ?_
    refine L_nil ?_
    refine Th_n ?_
    refine W_ret ?_
    refine InB_r ?_
    refine Th_r ?_
    refine P_ret (vs := [Value.slice none 0 0]) (v := Value.slice none 0 0) rfl (.tmp rfl (Res.nil)) rfl ?_
    have hm : Pk.take l p er s = ([], p, er) := by first | (simp only [Pk.take]; (repeat (first | rw [if_pos (by omega)] | rw [if_neg (by omega)])); done) | (obtain rfl : er = 0 := (by omega); simp only [Pk.take, hk, Int.toNat_natCast]; rw [if_neg (by omega), if_neg (by omega), if_neg (by omega)])
    refine ⟨none, 0, 0, v, rfl, by rw [hm]; exact Seen.nil, ?_⟩; rw [hm]; exact H
  ·
    have hc' := eq_of_bne_false hc
    refine W_seq ?_
    refine W_rg ?_
    refine L_mv rfl ?_
    refine L_y rfl (Y_lss (k := .i64) (a := s) (b := ((0 : Nat) : Int)) p_1 rfl) ?_
    refine L_as rfl ?_
    refine L_nil ?_
    refine Th_n ?_
    refine W_cond (b := (decide (s < ((0 : Nat) : Int)))) rfl (fun hc_2 => ?_) (fun hc_2 => ?_)
    ·
      have hc_2' := of_decide_eq_true hc_2
      refine W_seq ?_
      refine W_rg ?_
      refine L_mv rfl ?_
      refine L_y rfl (Y_nil p_0) ?_
      refine L_y rfl (Y_fld T_fld82_2 rfl rfl rfl) ?_
      refine L_st (v := Value.int .i64 ((2 : Nat) : Int)) T_scal31 H (i := 0) rfl rfl rfl rfl (Nat.le_of_ble_eq_true rfl) (l' := (Ent.blk bw 82 #[v, Value.int .i64 ((p : Nat) : Int), Value.int .i64 ((2 : Nat) : Int)] :: Ent.own v 5 1 l.length (us .u8 l) :: X)) rfl ?_; intro w_2 H_2
      refine L_nil ?_
      refine Th_n ?_
      refine W_seq ?_
      refine W_rg ?_
      refine L_as rfl ?_
      refine L_nil ?_
      refine Th_n ?_
      refine W_ret ?_
      refine InB_r ?_
      refine Th_r ?_
      refine P_ret (vs := [Value.slice none 0 0]) (v := Value.slice none 0 0) rfl (.tmp rfl (Res.nil)) rfl ?_
      have hm : Pk.take l p er s = ([], p, 2) := by first | (simp only [Pk.take]; (repeat (first | rw [if_pos (by omega)] | rw [if_neg (by omega)])); done) | (obtain rfl : er = 0 := (by omega); simp only [Pk.take, hk, Int.toNat_natCast]; rw [if_neg (by omega), if_neg (by omega), if_neg (by omega)])
      refine ⟨none, 0, 0, v, rfl, by rw [hm]; exact Seen.nil, ?_⟩; rw [hm]; exact H_2
    ·
      have hc_2' := of_decide_eq_false hc_2
      refine W_seq ?_
      refine W_quiet H 11 [Value.int .i64 (s), Value.pointer (some ⟨bw, 0, none⟩), Value.pointer (some ⟨bw, 0, none⟩), Value.pointer (some ⟨bw, 0, none⟩), v, Value.int .i64 ((l.length : Nat) : Int), Value.pointer (some ⟨bw, 0, none⟩), Value.pointer (some ⟨bw, 0, none⟩), Value.pointer (some ⟨bw, 1, none⟩), Value.int .i64 ((p : Nat) : Int), Value.int .i64 ((l.length - p : Nat) : Int)] T_mixed (by kernel_rfl) ?_ ?_
      ·
        refine .plain rfl (Pl_y rfl (fun w hBw => congrArg (fun v => Result.ok (Next.value v) w) p_1)) ?_
        refine .plain rfl (Pl_y rfl (fun w hBw => congrArg (fun v => Result.ok (Next.value v) w) p_0)) ?_
        refine .plain rfl (Pl_y rfl (fun w hBw => Y_nil rfl)) ?_
        refine .plain rfl (Pl_y rfl (fun w hBw => Y_fld T_fld82_0 rfl rfl rfl)) ?_
        refine .plain rfl (Pl_y rfl (fun w hBw => Y_ld T_scal22 hBw (i := 0) rfl rfl rfl)) ?_
        refine .plain rfl (Pl_y rfl (fun w hBw => Y_lenO T_sl22 hBw (i := 1) rfl rfl)) ?_
        refine .plain rfl (Pl_y rfl (fun w hBw => congrArg (fun v => Result.ok (Next.value v) w) p_0)) ?_
        refine .plain rfl (Pl_y rfl (fun w hBw => Y_nil rfl)) ?_
        refine .plain rfl (Pl_y rfl (fun w hBw => Y_fld T_fld82_1 rfl rfl rfl)) ?_
        refine .plain rfl (Pl_y rfl (fun w hBw => Y_ld T_scal3 hBw (i := 0) rfl rfl rfl)) ?_
        refine .plain rfl (Pl_y rfl (fun w hBw => Y_sub (k := .i64) (a := ((l.length : Nat) : Int)) (b := ((p : Nat) : Int)) (z := ((l.length - p : Nat) : Int)) rfl rfl (wi (by omega)))) ?_
        exact .nil _
      ·
        intro e_2 w_3 hAg H_3
        have e_2_0 : e_2 0 = Value.pointer (some ⟨bw, 0, none⟩) := (hAg 0 rfl).trans p_0
        have e_2_1 : e_2 1 = Value.int .i64 (s) := (hAg 1 rfl).trans p_1
        have e_2_22 : e_2 22 = Value.int .i64 (s) := (hAg 22 rfl).trans rfl
        obtain ⟨x32, hx32⟩ : ∃ z_ : Nat, z_ = l.length - p := ⟨_, rfl⟩
        have e_2_32 : e_2 32 = Value.int .i64 ((x32 : Nat) : Int) := (hAg 32 rfl).trans (by rw [hx32]; exact rfl)
        refine L_y rfl (Y_gtr (k := .i64) (a := s) (b := ((x32 : Nat) : Int)) e_2_22 e_2_32) ?_
        refine L_as rfl ?_
        refine L_nil ?_
        refine Th_n ?_
        refine W_cond (b := (decide (((x32 : Nat) : Int) < s))) rfl (fun hc_3 => ?_) (fun hc_3 => ?_)
        ·
          have hc_3' := of_decide_eq_true hc_3
          refine W_seq ?_
          refine W_rg ?_
          refine L_mv rfl ?_
          refine L_y rfl (Y_nil e_2_0) ?_
          refine L_y rfl (Y_fld T_fld82_2 rfl rfl rfl) ?_
          refine L_st (v := Value.int .i64 ((4 : Nat) : Int)) T_scal31 H_3 (i := 0) rfl rfl rfl rfl (Nat.le_of_ble_eq_true rfl) (l' := (Ent.blk bw 82 #[v, Value.int .i64 ((p : Nat) : Int), Value.int .i64 ((4 : Nat) : Int)] :: Ent.own v 5 1 l.length (us .u8 l) :: X)) rfl ?_; intro w_4 H_4
          refine L_nil ?_
          refine Th_n ?_
          refine W_seq ?_
          refine W_rg ?_
          refine L_as rfl ?_
          refine L_nil ?_
          refine Th_n ?_
          refine W_ret ?_
          refine InB_r ?_
          refine Th_r ?_
          refine P_ret (vs := [Value.slice none 0 0]) (v := Value.slice none 0 0) rfl (.tmp rfl (Res.nil)) rfl ?_
          have hm : Pk.take l p er s = ([], p, 4) := by first | (simp only [Pk.take]; (repeat (first | rw [if_pos (by omega)] | rw [if_neg (by omega)])); done) | (obtain rfl : er = 0 := (by omega); simp only [Pk.take, hk, Int.toNat_natCast]; rw [if_neg (by omega), if_neg (by omega), if_neg (by omega)])
          refine ⟨none, 0, 0, v, rfl, by rw [hm]; exact Seen.nil, ?_⟩; rw [hm]; exact H_4
        ·
          have hc_3' := of_decide_eq_false hc_3
          obtain ⟨k, hk⟩ : ∃ k : Nat, s = (k : Int) := ⟨s.toNat, by omega⟩
          refine W_skip ?_
          refine InB_n ?_
          refine Th_n ?_
          refine W_seq ?_
          refine W_rg ?_
          refine L_mv rfl ?_
          refine L_y rfl (Y_nil e_2_0) ?_
          refine L_y rfl (Y_fld T_fld82_1 rfl rfl rfl) ?_
          refine L_y rfl (Y_ld T_scal3 H_3 (i := 0) rfl rfl rfl) ?_
          refine L_mv rfl ?_
          refine L_y rfl (Y_add (k := .i64) (a := ((p : Nat) : Int)) (b := ((k : Nat) : Int)) (z := ((p + k : Nat) : Int)) rfl (e_2_1.trans (congrArg (Value.int .i64) hk)) (wi (by omega))) ?_
          refine L_y rfl (Y_nil e_2_0) ?_
          refine L_y rfl (Y_fld T_fld82_1 rfl rfl rfl) ?_
          refine L_st (v := Value.int .i64 ((p + k : Nat) : Int)) T_scal3 H_3 (i := 0) rfl rfl rfl rfl (Nat.le_of_ble_eq_true rfl) (l' := (Ent.blk bw 82 #[v, Value.int .i64 ((p + k : Nat) : Int), Value.int .i64 ((er : Nat) : Int)] :: Ent.own v 5 1 l.length (us .u8 l) :: X)) rfl ?_; intro w_5 H_5
          refine L_nil ?_
          refine Th_n ?_
          refine W_seq ?_
          refine W_quiet H_5 14 [Value.pointer (some ⟨bw, 0, none⟩), Value.pointer (some ⟨bw, 0, none⟩), Value.pointer (some ⟨bw, 0, none⟩), v, Value.pointer (some ⟨bw, 0, none⟩), Value.pointer (some ⟨bw, 0, none⟩), Value.pointer (some ⟨bw, 1, none⟩), Value.int .i64 ((p + k : Nat) : Int), Value.int .i64 ((k : Nat) : Int), Value.int .i64 (((p + k) - k : Nat) : Int), Value.pointer (some ⟨bw, 0, none⟩), Value.pointer (some ⟨bw, 0, none⟩), Value.pointer (some ⟨bw, 1, none⟩), Value.int .i64 ((p + k : Nat) : Int)] T_mixed (by kernel_rfl) ?_ ?_
          ·
            refine .plain rfl (Pl_y rfl (fun w hBw => congrArg (fun v => Result.ok (Next.value v) w) e_2_0)) ?_
            refine .plain rfl (Pl_y rfl (fun w hBw => Y_nil rfl)) ?_
            refine .plain rfl (Pl_y rfl (fun w hBw => Y_fld T_fld82_0 rfl rfl rfl)) ?_
            refine .plain rfl (Pl_y rfl (fun w hBw => Y_ld T_scal22 hBw (i := 0) rfl rfl rfl)) ?_
            refine .plain rfl (Pl_y rfl (fun w hBw => congrArg (fun v => Result.ok (Next.value v) w) e_2_0)) ?_
            refine .plain rfl (Pl_y rfl (fun w hBw => Y_nil rfl)) ?_
            refine .plain rfl (Pl_y rfl (fun w hBw => Y_fld T_fld82_1 rfl rfl rfl)) ?_
            refine .plain rfl (Pl_y rfl (fun w hBw => Y_ld T_scal3 hBw (i := 0) rfl rfl rfl)) ?_
            refine .plain rfl (Pl_y rfl (fun w hBw => congrArg (fun v => Result.ok (Next.value v) w) (e_2_1.trans (congrArg (Value.int .i64) hk)))) ?_
            refine .plain rfl (Pl_y rfl (fun w hBw => Y_sub (k := .i64) (a := ((p + k : Nat) : Int)) (b := ((k : Nat) : Int)) (z := (((p + k) - k : Nat) : Int)) rfl rfl (wi (by omega)))) ?_
            refine .plain rfl (Pl_y rfl (fun w hBw => congrArg (fun v => Result.ok (Next.value v) w) e_2_0)) ?_
            refine .plain rfl (Pl_y rfl (fun w hBw => Y_nil rfl)) ?_
            refine .plain rfl (Pl_y rfl (fun w hBw => Y_fld T_fld82_1 rfl rfl rfl)) ?_
            refine .plain rfl (Pl_y rfl (fun w hBw => Y_ld T_scal3 hBw (i := 0) rfl rfl rfl)) ?_
            exact .nil _
          ·
            intro e_3 w_6 hAg H_6
            have e_3_48 : e_3 48 = v := (hAg 48 rfl).trans rfl
            obtain ⟨x54, hx54⟩ : ∃ z_ : Nat, z_ = (p + k) - k := ⟨_, rfl⟩
            have e_3_54 : e_3 54 = Value.int .i64 ((x54 : Nat) : Int) := (hAg 54 rfl).trans (by rw [hx54]; exact rfl)
            obtain ⟨x58, hx58⟩ : ∃ z_ : Nat, z_ = p + k := ⟨_, rfl⟩
            have e_3_58 : e_3 58 = Value.int .i64 ((x58 : Nat) : Int) := (hAg 58 rfl).trans (by rw [hx58]; exact rfl)
            obtain ⟨a_, c_, rfl⟩ := Sl.opn H_6 (i := 1) rfl
            refine L_y rfl (Y_cutLH (lo := x54) (hi := x58) T_sl22 e_3_48 e_3_54 e_3_58 (by omega) (Nat.le_trans (by omega) (Sl.own H_6 (i := 1) rfl).cap)) ?_
            refine L_as rfl ?_
            refine L_nil ?_
            refine Th_n ?_
            refine W_ret ?_
            refine P_ret (vs := [Value.slice (cutA a_ c_ x54) (x58 - x54) (c_ - x54)]) (v := Value.slice (cutA a_ c_ x54) (x58 - x54) (c_ - x54)) rfl (.tmp rfl (Res.nil)) rfl ?_
            have hm : Pk.take l p er s = ((l.drop p).take k, p + k, er) := by first | (simp only [Pk.take]; (repeat (first | rw [if_pos (by omega)] | rw [if_neg (by omega)])); done) | (obtain rfl : er = 0 := (by omega); simp only [Pk.take, hk, Int.toNat_natCast]; rw [if_neg (by omega), if_neg (by omega), if_neg (by omega)])
            refine ⟨(cutA a_ c_ x54), (x58 - x54), (c_ - x54), (Value.slice a_ l.length c_), rfl, ?_, ?_⟩
            · rw [hm]; exact (Seen.own (i := 0) rfl).map (fun _ h_ => (h_.mid (lo := x54) (hi := x58) (by omega) (by omega)).as (by rw [show x58 - x54 = k by omega, show x54 = p by omega]))
            · rw [hm]; exact H_6

theorem dFail {w0 w : World} {X : List Ent} {bw : Nat} {v : Value} {l : List Nat} {p er : Nat} (f : Nat) (hl : l.length ≤ 4294967000) (hlt : ∀ u ∈ l, u < 256) (hp : p ≤ l.length) (H : Hp w0 [] w (Ent.blk bw 82 #[v, Value.int .i64 ((p : Nat) : Int), Value.int .i64 ((er : Nat) : Int)] :: Ent.own v 5 1 l.length (us .u8 l) :: X)) :
    Calls Try.prog 46 #[Value.pointer (some ⟨bw, 0, none⟩), Value.int .i64 ((f : Nat) : Int)] w (fun r_ w' => ∃ v', r_ = .returned (.tuple #[]) ∧ Hp w0 [] w' (Ent.blk bw 82 #[v', Value.int .i64 ((p : Nat) : Int), Value.int .i64 (((Pk.fail er f) : Nat) : Int)] :: Ent.own v' 5 1 l.length (us .u8 l) :: X)) := by
  refine F_in Try.func46 rfl Try.ntmps46 rfl ?_
  intro e he
  have p_0 : e 0 = Value.pointer (some ⟨bw, 0, none⟩) := he 0 _ rfl
  have p_1 : e 1 = Value.int .i64 ((f : Nat) : Int) := he 1 _ rfl
  refine W_seq ?_
  refine W_rg ?_
  refine L_mv rfl ?_
  refine L_y rfl (Y_neP Try.underlying74 p_0 rfl) ?_
  refine L_mv rfl ?_
  refine G_mv (wE rfl rfl) rfl ?_
  refine G_y (wE rfl rfl) rfl (Y_nil p_0) ?_
  refine G_y (wE rfl rfl) rfl (Y_fld T_fld82_2 rfl rfl rfl) ?_
  refine G_y (wE rfl rfl) rfl (Y_ld T_scal31 H (i := 0) rfl rfl rfl) ?_
  refine G_y (wE rfl rfl) rfl (Y_eql (k := .i64) (a := ((er : Nat) : Int)) (b := ((0 : Nat) : Int)) rfl rfl) ?_
  refine L_y rfl (Y_pickT rfl) ?_
  refine L_nil ?_
  refine Th_n ?_
  refine W_cond (b := (((er : Nat) : Int) == ((0 : Nat) : Int))) rfl (fun hc => ?_) (fun hc => ?_)
  ·
    have hc' := eq_of_beq hc
    refine W_rg ?_
    refine L_mv rfl ?_
    refine L_mv rfl ?_
    refine L_y rfl (Y_nil p_0) ?_
    refine L_y rfl (Y_fld T_fld82_2 rfl rfl rfl) ?_
    refine L_st (v := Value.int .i64 ((f : Nat) : Int)) T_scal31 H (i := 0) rfl rfl p_1 rfl (Nat.le_of_ble_eq_true rfl) (l' := (Ent.blk bw 82 #[v, Value.int .i64 ((p : Nat) : Int), Value.int .i64 ((f : Nat) : Int)] :: Ent.own v 5 1 l.length (us .u8 l) :: X)) rfl ?_; intro w_2 H_2
    refine L_nil ?_
    refine P_end (vs := []) (v := Value.tuple #[]) rfl (Res.nil) rfl ?_
    have hm : Pk.fail er f = f := by first | exact if_pos (by omega) | exact if_neg (by omega)
    refine ⟨v, rfl, ?_⟩; rw [hm]; exact H_2
  ·
    have hc' := ne_of_beq_false hc
    refine W_skip ?_
    refine P_end (vs := []) (v := Value.tuple #[]) rfl (Res.nil) rfl ?_
    have hm : Pk.fail er f = er := by first | exact if_pos (by omega) | exact if_neg (by omega)
    refine ⟨v, rfl, ?_⟩; rw [hm]; exact H
end Go.Proofs.Ytgmmifpflllkfaa
