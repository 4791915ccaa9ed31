/- Walks of layer 6 (the sums) and of its reference. Printed by sha.py. -/
import Derived.Test.YtdccphfaeockpaaH2
namespace Go.Proofs.Ytdccphfaeockpaa
open Go.Ev
set_option maxRecDepth 100000
theorem T_zero40 : zeroOf Try.prog 40 = some (ua .u32 [0, 0, 0, 0, 0, 0, 0, 0]) := by kernel_rfl
theorem T_zero39 : zeroOf Try.prog 39 = some (ua .u32 [0, 0, 0, 0, 0, 0, 0, 0, 0, 0, 0, 0, 0, 0, 0, 0, 0, 0, 0, 0, 0, 0, 0, 0, 0, 0, 0, 0, 0, 0, 0, 0, 0, 0, 0, 0, 0, 0, 0, 0, 0, 0, 0, 0, 0, 0, 0, 0, 0, 0, 0, 0, 0, 0, 0, 0, 0, 0, 0, 0, 0, 0, 0, 0]) := by kernel_rfl
theorem T_sl22 : slOf Try.prog 22 = some (5, 1) := by kernel_rfl
theorem T_scal5 : scal Try.prog 5 = true := by kernel_rfl
theorem T_some5 : (Try.prog.underlying 5).isSome = true := by kernel_rfl
theorem T_kind38 : kindOf Try.prog 38 = some .u32 := by kernel_rfl
theorem T_arr39 : arrOf Try.prog 39 = some (64, 1) := by kernel_rfl
theorem T_scal38 : scal Try.prog 38 = true := by kernel_rfl
theorem T_en27 : enters Try.prog 27 = true := by kernel_rfl
theorem T_arr40 : arrOf Try.prog 40 = some (8, 1) := by kernel_rfl
theorem T_row40 : rowOf Try.prog 40 = some 8 := by kernel_rfl
theorem ks256_wd : Wd 64 4294967296 Sm.k256.ks := ⟨Sm.ks256_len, Sm.ks256_lt⟩
theorem ks512_wd : Wd 80 18446744073709551616 Sm.k512.ks := ⟨Sm.ks512_len, Sm.ks512_lt⟩
theorem sch256_wd {l : List Nat} {t : Nat} (h : ∀ u ∈ l, u < 256) (ht : t ≤ 64) : Wd 64 4294967296 (Sm.sched Sm.k256 l t ++ List.replicate (64 - t) 0) := ⟨by rw [List.length_append, Sm.sched_len, List.length_replicate]; omega, app_lt (Sm.sched_lt Sm.bit256 h t) (fun u hu => by rw [(List.mem_replicate.1 hu).2]; decide)⟩
theorem sch512_wd {l : List Nat} {t : Nat} (h : ∀ u ∈ l, u < 256) (ht : t ≤ 80) : Wd 80 18446744073709551616 (Sm.sched Sm.k512 l t ++ List.replicate (80 - t) 0) := ⟨by rw [List.length_append, Sm.sched_len, List.length_replicate]; omega, app_lt (Sm.sched_lt Sm.bit512 h t) (fun u hu => by rw [(List.mem_replicate.1 hu).2]; decide)⟩
theorem sch256_wd' {l : List Nat} (h : ∀ u ∈ l, u < 256) : Wd 64 4294967296 (Sm.sched Sm.k256 l 64) := ⟨Sm.sched_len _ _ _, Sm.sched_lt Sm.bit256 h 64⟩
theorem sch512_wd' {l : List Nat} (h : ∀ u ∈ l, u < 256) : Wd 80 18446744073709551616 (Sm.sched Sm.k512 l 80) := ⟨Sm.sched_len _ _ _, Sm.sched_lt Sm.bit512 h 80⟩

theorem small_n (S : Sm.V8) (a : Option Addr) (c : Nat) (l : List Nat) (kb : Nat) (hS : S.lt 4294967296) (hl : ∀ u ∈ l, u < 256) (w0 : World) (hb : Sl w0 .u8 a 64 c l) (hk : w0.heap[kb]? = some (.cells (ua .u32 Sm.k256.ks) 39 (0, 0))) :
    Calls Try.prog 19 #[Value.agg (ua .u32 [S.a, S.b, S.c, S.d, S.e, S.f, S.g, S.h]), Value.slice a 64 c, Value.pointer (some ⟨kb, 0, none⟩)] w0 (fun r_ w' => r_ = .returned (.agg (ua .u32 (Sm.comp Sm.k256 S l).l)) ∧ Keep w0 w') := by
  refine F_in Try.func19 rfl Try.ntmps19 rfl ?_
  intro e he
  have p_0 : e 0 = Value.agg (ua .u32 [S.a, S.b, S.c, S.d, S.e, S.f, S.g, S.h]) := he 0 _ rfl
  have p_1 : e 1 = Value.slice a 64 c := he 1 _ rfl
  have p_2 : e 2 = Value.pointer (some ⟨kb, 0, none⟩) := he 2 _ rfl
  have H := Hp.start w0 []
  refine W_seq ?_
  refine W_rg ?_
  refine L_box rfl H p_0 (cs := ua .u32 [S.a, S.b, S.c, S.d, S.e, S.f, S.g, S.h]) rfl ?_; intro bk3 w_2 H_2
  refine L_alloc rfl H_2 T_zero40 ?_; intro bk6 w_3 H_3
  refine L_nil ?_
  refine Th_n ?_
  refine W_seq ?_
  refine W_rg ?_
  refine L_alloc rfl H_3 T_zero39 ?_; intro bk7 w_4 H_4
  refine L_nil ?_
  refine Th_n ?_
  refine W_seq ?_
  refine W_seq ?_
  refine W_rg ?_
  refine L_mv rfl ?_
  refine L_nil ?_
  refine Th_n ?_
  refine W_block ?_
  refine W_loop (fun mu_ e w => ∃ t : Nat, mu_ = 64 - t ∧ e 1 = Value.slice a 64 c ∧ e 2 = Value.pointer (some ⟨kb, 0, none⟩) ∧ e 3 = Value.pointer (some ⟨bk3, 0, none⟩) ∧ e 6 = Value.pointer (some ⟨bk6, 0, none⟩) ∧ e 7 = Value.pointer (some ⟨bk7, 0, none⟩) ∧ e 26 = Value.int .i64 ((t : Nat) : Int) ∧ Hp w0 [] w [Ent.blk bk7 39 (ua .u32 (Sm.sched Sm.k256 l t ++ List.replicate (64 - t) 0)), Ent.blk bk6 40 (ua .u32 [0, 0, 0, 0, 0, 0, 0, 0]), Ent.blk bk3 40 (ua .u32 [S.a, S.b, S.c, S.d, S.e, S.f, S.g, S.h])] ∧ t ≤ 64) _ ⟨0, rfl, p_1, p_2, rfl, rfl, rfl, rfl, H_4, (Nat.zero_le _)⟩ ?_
  rintro mu_ e_2 w_5 ⟨t, rfl, e_2_1, e_2_2, e_2_3, e_2_6, e_2_7, e_2_26, H_5, ht⟩
  refine W_seq ?_
  refine W_rg ?_
  refine L_y rfl (Y_lss (k := .i64) (a := ((t : Nat) : Int)) (b := ((64 : Nat) : Int)) e_2_26 rfl) ?_
  refine L_nil ?_
  refine Th_n ?_
  refine W_seq ?_
  refine W_cond (b := (decide (((t : Nat) : Int) < ((64 : Nat) : Int)))) rfl (fun hc => ?_) (fun hc => ?_)
  ·
    have hc' := of_decide_eq_true hc
    refine W_skip ?_
    refine Th_n ?_
    refine W_seq ?_
    refine W_block ?_
    refine W_seq ?_
    refine W_rg ?_
    refine L_mv rfl ?_
    refine L_as rfl ?_
    refine L_nil ?_
    refine Th_n ?_
    refine W_seq ?_
    refine W_seq ?_
    refine W_rg ?_
    refine L_mv rfl ?_
    refine L_y rfl (Y_lss (k := .i64) (a := ((t : Nat) : Int)) (b := ((16 : Nat) : Int)) e_2_26 rfl) ?_
    refine L_nil ?_
    refine Th_n ?_
    refine W_cond (b := (decide (((t : Nat) : Int) < ((16 : Nat) : Int)))) rfl (fun hc_2 => ?_) (fun hc_2 => ?_)
    ·
      have hc_2' := of_decide_eq_true hc_2
      refine W_seq ?_
      obtain ⟨x36, hx36⟩ : ∃ u, l[4 * t]? = some u := ⟨_, List.getElem?_eq_getElem (by have := (⟨(hb.hp H_5).len, hl⟩ : Wd 64 256 l).1; omega)⟩
      have rx36 := (⟨(hb.hp H_5).len, hl⟩ : Wd 64 256 l).2 _ (List.mem_of_getElem? hx36)
      obtain ⟨x44, hx44⟩ : ∃ u, l[(4 * t) + 1]? = some u := ⟨_, List.getElem?_eq_getElem (by have := (⟨(hb.hp H_5).len, hl⟩ : Wd 64 256 l).1; omega)⟩
      have rx44 := (⟨(hb.hp H_5).len, hl⟩ : Wd 64 256 l).2 _ (List.mem_of_getElem? hx44)
      obtain ⟨x53, hx53⟩ : ∃ u, l[(4 * t) + 2]? = some u := ⟨_, List.getElem?_eq_getElem (by have := (⟨(hb.hp H_5).len, hl⟩ : Wd 64 256 l).1; omega)⟩
      have rx53 := (⟨(hb.hp H_5).len, hl⟩ : Wd 64 256 l).2 _ (List.mem_of_getElem? hx53)
      obtain ⟨x62, hx62⟩ : ∃ u, l[(4 * t) + 3]? = some u := ⟨_, List.getElem?_eq_getElem (by have := (⟨(hb.hp H_5).len, hl⟩ : Wd 64 256 l).1; omega)⟩
      have rx62 := (⟨(hb.hp H_5).len, hl⟩ : Wd 64 256 l).2 _ (List.mem_of_getElem? hx62)
      refine W_quiet H_5 34 [Value.int .i64 ((t : Nat) : Int), Value.slice a 64 c, Value.int .i64 ((t : Nat) : Int), Value.int .i64 ((4 * t : Nat) : Int), pl a (4 * t), Value.int .u8 ((x36 : Nat) : Int), Value.int .u32 ((x36 : Nat) : Int), Value.int .u32 ((x36 * 2 ^ 24 % 4294967296 : Nat) : Int), Value.slice a 64 c, Value.int .i64 ((t : Nat) : Int), Value.int .i64 ((4 * t : Nat) : Int), Value.int .i64 (((4 * t) + 1 : Nat) : Int), pl a ((4 * t) + 1), Value.int .u8 ((x44 : Nat) : Int), Value.int .u32 ((x44 : Nat) : Int), Value.int .u32 ((x44 * 2 ^ 16 % 4294967296 : Nat) : Int), Value.int .u32 (((x36 * 2 ^ 24 % 4294967296) ||| (x44 * 2 ^ 16 % 4294967296) : Nat) : Int), Value.slice a 64 c, Value.int .i64 ((t : Nat) : Int), Value.int .i64 ((4 * t : Nat) : Int), Value.int .i64 (((4 * t) + 2 : Nat) : Int), pl a ((4 * t) + 2), Value.int .u8 ((x53 : Nat) : Int), Value.int .u32 ((x53 : Nat) : Int), Value.int .u32 ((x53 * 2 ^ 8 % 4294967296 : Nat) : Int), Value.int .u32 ((((x36 * 2 ^ 24 % 4294967296) ||| (x44 * 2 ^ 16 % 4294967296)) ||| (x53 * 2 ^ 8 % 4294967296) : Nat) : Int), Value.slice a 64 c, Value.int .i64 ((t : Nat) : Int), Value.int .i64 ((4 * t : Nat) : Int), Value.int .i64 (((4 * t) + 3 : Nat) : Int), pl a ((4 * t) + 3), Value.int .u8 ((x62 : Nat) : Int), Value.int .u32 ((x62 : Nat) : Int), Value.int .u32 (((((x36 * 2 ^ 24 % 4294967296) ||| (x44 * 2 ^ 16 % 4294967296)) ||| (x53 * 2 ^ 8 % 4294967296)) ||| x62 : Nat) : Int)] T_mixed (by kernel_rfl) ?_ ?_
      ·
        refine .plain rfl (Pl_y rfl (fun w hBw => congrArg (fun v => Result.ok (Next.value v) w) e_2_26)) ?_
        refine .plain rfl (Pl_y rfl (fun w hBw => congrArg (fun v => Result.ok (Next.value v) w) e_2_1)) ?_
        refine .plain rfl (Pl_y rfl (fun w hBw => congrArg (fun v => Result.ok (Next.value v) w) e_2_26)) ?_
        refine .plain rfl (Pl_y rfl (fun w hBw => Y_mul (k := .i64) (a := ((4 : Nat) : Int)) (b := ((t : Nat) : Int)) (z := ((4 * t : Nat) : Int)) rfl rfl (wi (by omega)))) ?_
        refine .plain rfl (Pl_y rfl (fun w hBw => Y_idxL (j := 4 * t) T_sl22 (hb.hp hBw) rfl rfl rfl (by omega))) ?_
        refine .plain rfl (Pl_y rfl (fun w hBw => Y_ldR T_scal5 (hb.hp hBw).rd rfl (hx36))) ?_
        refine .plain rfl (Pl_y rfl (fun w hBw => Y_convI (k := .u8) (n := ((x36 : Nat) : Int)) (z := ((x36 : Nat) : Int)) T_some5 T_kind38 rfl (wrapS rfl (by exact Nat.lt_of_lt_of_le rx36 (by decide))))) ?_
        refine .plain rfl (Pl_y rfl (fun w hBw => Yu_shl (k := .u32) rfl x36 24 rfl rfl)) ?_
        refine .plain rfl (Pl_y rfl (fun w hBw => congrArg (fun v => Result.ok (Next.value v) w) e_2_1)) ?_
        refine .plain rfl (Pl_y rfl (fun w hBw => congrArg (fun v => Result.ok (Next.value v) w) e_2_26)) ?_
        refine .plain rfl (Pl_y rfl (fun w hBw => Y_mul (k := .i64) (a := ((4 : Nat) : Int)) (b := ((t : Nat) : Int)) (z := ((4 * t : Nat) : Int)) rfl rfl (wi (by omega)))) ?_
        refine .plain rfl (Pl_y rfl (fun w hBw => Y_add (k := .i64) (a := ((4 * t : Nat) : Int)) (b := ((1 : Nat) : Int)) (z := (((4 * t) + 1 : Nat) : Int)) rfl rfl (wi (by omega)))) ?_
        refine .plain rfl (Pl_y rfl (fun w hBw => Y_idxL (j := (4 * t) + 1) T_sl22 (hb.hp hBw) rfl rfl rfl (by omega))) ?_
        refine .plain rfl (Pl_y rfl (fun w hBw => Y_ldR T_scal5 (hb.hp hBw).rd rfl (hx44))) ?_
        refine .plain rfl (Pl_y rfl (fun w hBw => Y_convI (k := .u8) (n := ((x44 : Nat) : Int)) (z := ((x44 : Nat) : Int)) T_some5 T_kind38 rfl (wrapS rfl (by exact Nat.lt_of_lt_of_le rx44 (by decide))))) ?_
        refine .plain rfl (Pl_y rfl (fun w hBw => Yu_shl (k := .u32) rfl x44 16 rfl rfl)) ?_
        refine .plain rfl (Pl_y rfl (fun w hBw => Yu_or (k := .u32) rfl (x36 * 2 ^ 24 % 4294967296) (x44 * 2 ^ 16 % 4294967296) (Nat.mod_lt _ (by decide)) (Nat.mod_lt _ (by decide)) rfl rfl)) ?_
        refine .plain rfl (Pl_y rfl (fun w hBw => congrArg (fun v => Result.ok (Next.value v) w) e_2_1)) ?_
        refine .plain rfl (Pl_y rfl (fun w hBw => congrArg (fun v => Result.ok (Next.value v) w) e_2_26)) ?_
        refine .plain rfl (Pl_y rfl (fun w hBw => Y_mul (k := .i64) (a := ((4 : Nat) : Int)) (b := ((t : Nat) : Int)) (z := ((4 * t : Nat) : Int)) rfl rfl (wi (by omega)))) ?_
        refine .plain rfl (Pl_y rfl (fun w hBw => Y_add (k := .i64) (a := ((4 * t : Nat) : Int)) (b := ((2 : Nat) : Int)) (z := (((4 * t) + 2 : Nat) : Int)) rfl rfl (wi (by omega)))) ?_
        refine .plain rfl (Pl_y rfl (fun w hBw => Y_idxL (j := (4 * t) + 2) T_sl22 (hb.hp hBw) rfl rfl rfl (by omega))) ?_
        refine .plain rfl (Pl_y rfl (fun w hBw => Y_ldR T_scal5 (hb.hp hBw).rd rfl (hx53))) ?_
        refine .plain rfl (Pl_y rfl (fun w hBw => Y_convI (k := .u8) (n := ((x53 : Nat) : Int)) (z := ((x53 : Nat) : Int)) T_some5 T_kind38 rfl (wrapS rfl (by exact Nat.lt_of_lt_of_le rx53 (by decide))))) ?_
        refine .plain rfl (Pl_y rfl (fun w hBw => Yu_shl (k := .u32) rfl x53 8 rfl rfl)) ?_
        refine .plain rfl (Pl_y rfl (fun w hBw => Yu_or (k := .u32) rfl ((x36 * 2 ^ 24 % 4294967296) ||| (x44 * 2 ^ 16 % 4294967296)) (x53 * 2 ^ 8 % 4294967296) (Nat.or_lt_two_pow (n := 32) (Nat.mod_lt _ (by decide)) (Nat.mod_lt _ (by decide))) (Nat.mod_lt _ (by decide)) rfl rfl)) ?_
        refine .plain rfl (Pl_y rfl (fun w hBw => congrArg (fun v => Result.ok (Next.value v) w) e_2_1)) ?_
        refine .plain rfl (Pl_y rfl (fun w hBw => congrArg (fun v => Result.ok (Next.value v) w) e_2_26)) ?_
        refine .plain rfl (Pl_y rfl (fun w hBw => Y_mul (k := .i64) (a := ((4 : Nat) : Int)) (b := ((t : Nat) : Int)) (z := ((4 * t : Nat) : Int)) rfl rfl (wi (by omega)))) ?_
        refine .plain rfl (Pl_y rfl (fun w hBw => Y_add (k := .i64) (a := ((4 * t : Nat) : Int)) (b := ((3 : Nat) : Int)) (z := (((4 * t) + 3 : Nat) : Int)) rfl rfl (wi (by omega)))) ?_
        refine .plain rfl (Pl_y rfl (fun w hBw => Y_idxL (j := (4 * t) + 3) T_sl22 (hb.hp hBw) rfl rfl rfl (by omega))) ?_
        refine .plain rfl (Pl_y rfl (fun w hBw => Y_ldR T_scal5 (hb.hp hBw).rd rfl (hx62))) ?_
        refine .plain rfl (Pl_y rfl (fun w hBw => Y_convI (k := .u8) (n := ((x62 : Nat) : Int)) (z := ((x62 : Nat) : Int)) T_some5 T_kind38 rfl (wrapS rfl (by exact Nat.lt_of_lt_of_le rx62 (by decide))))) ?_
        refine .plain rfl (Pl_y rfl (fun w hBw => Yu_or (k := .u32) rfl (((x36 * 2 ^ 24 % 4294967296) ||| (x44 * 2 ^ 16 % 4294967296)) ||| (x53 * 2 ^ 8 % 4294967296)) x62 (Nat.or_lt_two_pow (n := 32) (Nat.or_lt_two_pow (n := 32) (Nat.mod_lt _ (by decide)) (Nat.mod_lt _ (by decide))) (Nat.mod_lt _ (by decide))) (Nat.lt_trans rx62 (by decide)) rfl rfl)) ?_
        exact .nil _
      ·
        intro e_3 w_6 hAg H_6
        have e_3_1 : e_3 1 = Value.slice a 64 c := (hAg 1 rfl).trans e_2_1
        have e_3_2 : e_3 2 = Value.pointer (some ⟨kb, 0, none⟩) := (hAg 2 rfl).trans e_2_2
        have e_3_3 : e_3 3 = Value.pointer (some ⟨bk3, 0, none⟩) := (hAg 3 rfl).trans e_2_3
        have e_3_6 : e_3 6 = Value.pointer (some ⟨bk6, 0, none⟩) := (hAg 6 rfl).trans e_2_6
        have e_3_7 : e_3 7 = Value.pointer (some ⟨bk7, 0, none⟩) := (hAg 7 rfl).trans e_2_7
        have e_3_26 : e_3 26 = Value.int .i64 ((t : Nat) : Int) := (hAg 26 rfl).trans e_2_26
        have e_3_31 : e_3 31 = Value.int .i64 ((t : Nat) : Int) := (hAg 31 rfl).trans rfl
        obtain ⟨x64, hx64⟩ : ∃ z_ : Nat, z_ = (((x36 * 2 ^ 24 % 4294967296) ||| (x44 * 2 ^ 16 % 4294967296)) ||| (x53 * 2 ^ 8 % 4294967296)) ||| x62 := ⟨_, rfl⟩
        have rx64 : x64 < 4294967296 := by rw [hx64]; exact (Nat.or_lt_two_pow (n := 32) (Nat.or_lt_two_pow (n := 32) (Nat.or_lt_two_pow (n := 32) (Nat.mod_lt _ (by decide)) (Nat.mod_lt _ (by decide))) (Nat.mod_lt _ (by decide))) (Nat.lt_trans rx62 (by decide)))
        have e_3_64 : e_3 64 = Value.int .u32 ((x64 : Nat) : Int) := (hAg 64 rfl).trans (by rw [hx64]; exact rfl)
        refine L_y rfl (Y_idxA t t T_arr39 e_3_7 e_3_31 rfl (by omega) (zz1 _)) ?_
        refine L_st (v := Value.int .u32 ((x64 : Nat) : Int)) T_scal38 H_6 (i := 0) rfl rfl e_3_64 rfl (by rw [ua_size]; have := (sch256_wd hl ht).1; omega) (l' := [Ent.blk bk7 39 (ua .u32 ((Sm.sched Sm.k256 l t ++ List.replicate (64 - t) 0).set t x64)), Ent.blk bk6 40 (ua .u32 [0, 0, 0, 0, 0, 0, 0, 0]), Ent.blk bk3 40 (ua .u32 [S.a, S.b, S.c, S.d, S.e, S.f, S.g, S.h])]) (by rw [ua_set]; rfl) ?_; intro w_7 H_7
        refine L_nil ?_
        refine Th_n ?_
        refine W_exit ?_
        refine Th_x ?_
        refine InB_hit ?_
        refine Th_n ?_
        refine W_rg ?_
        refine L_y rfl (Y_add (k := .i64) (a := ((t : Nat) : Int)) (b := ((1 : Nat) : Int)) (z := ((t + 1 : Nat) : Int)) e_3_26 rfl (wi (by omega))) ?_
        refine L_mv rfl ?_
        refine L_nil ?_
        have H_8 : Hp w0 [] w_7 [Ent.blk bk7 39 (ua .u32 (Sm.sched Sm.k256 l (t + 1) ++ List.replicate (64 - (t + 1)) 0)), Ent.blk bk6 40 (ua .u32 [0, 0, 0, 0, 0, 0, 0, 0]), Ent.blk bk3 40 (ua .u32 [S.a, S.b, S.c, S.d, S.e, S.f, S.g, S.h])] := by have h := H_7; rw [Sm.sched_set (by omega) (by rw [hx64]; exact Sm.word256_lo (of_decide_eq_true hc_2) hl hx36 hx44 hx53 hx62)] at h; exact h
        refine Th_n ⟨_, ?_, t + 1, rfl, e_3_1, e_3_2, e_3_3, e_3_6, e_3_7, rfl, H_8, (by omega)⟩
        omega
    ·
      have hc_2' := of_decide_eq_false hc_2
      refine W_skip ?_
      refine Th_n ?_
      refine W_seq ?_
      obtain ⟨x69, hx69⟩ : ∃ u, (Sm.sched Sm.k256 l t ++ List.replicate (64 - t) 0)[t - 2]? = some u := ⟨_, List.getElem?_eq_getElem (by have := (sch256_wd hl ht).1; omega)⟩
      have rx69 := (sch256_wd hl ht).2 _ (List.mem_of_getElem? hx69)
      obtain ⟨x73, hx73⟩ : ∃ u, (Sm.sched Sm.k256 l t ++ List.replicate (64 - t) 0)[t - 15]? = some u := ⟨_, List.getElem?_eq_getElem (by have := (sch256_wd hl ht).1; omega)⟩
      have rx73 := (sch256_wd hl ht).2 _ (List.mem_of_getElem? hx73)
      refine W_quiet H_5 9 [Value.int .i64 ((t : Nat) : Int), Value.int .i64 ((t - 2 : Nat) : Int), Value.pointer (some ⟨bk7, t - 2, none⟩), Value.int .u32 ((x69 : Nat) : Int), Value.int .i64 ((t : Nat) : Int), Value.int .i64 ((t - 15 : Nat) : Int), Value.pointer (some ⟨bk7, t - 15, none⟩), Value.int .u32 ((x73 : Nat) : Int), Value.int .u32 ((x69 : Nat) : Int)] T_mixed (by kernel_rfl) ?_ ?_
      ·
        refine .plain rfl (Pl_y rfl (fun w hBw => congrArg (fun v => Result.ok (Next.value v) w) e_2_26)) ?_
        refine .plain rfl (Pl_y rfl (fun w hBw => Y_sub (k := .i64) (a := ((t : Nat) : Int)) (b := ((2 : Nat) : Int)) (z := ((t - 2 : Nat) : Int)) rfl rfl (wi (by omega)))) ?_
        refine .plain rfl (Pl_y rfl (fun w hBw => Y_idxA (t - 2) (t - 2) T_arr39 e_2_7 rfl rfl (by omega) (zz1 _))) ?_
        refine .plain rfl (Pl_y rfl (fun w hBw => Y_ld T_scal38 hBw (i := 0) rfl rfl (ua_get hx69))) ?_
        refine .plain rfl (Pl_y rfl (fun w hBw => congrArg (fun v => Result.ok (Next.value v) w) e_2_26)) ?_
        refine .plain rfl (Pl_y rfl (fun w hBw => Y_sub (k := .i64) (a := ((t : Nat) : Int)) (b := ((15 : Nat) : Int)) (z := ((t - 15 : Nat) : Int)) rfl rfl (wi (by omega)))) ?_
        refine .plain rfl (Pl_y rfl (fun w hBw => Y_idxA (t - 15) (t - 15) T_arr39 e_2_7 rfl rfl (by omega) (zz1 _))) ?_
        refine .plain rfl (Pl_y rfl (fun w hBw => Y_ld T_scal38 hBw (i := 0) rfl rfl (ua_get hx73))) ?_
        refine .plain rfl (Pl_y rfl (fun w hBw => rfl)) ?_
        exact .nil _
      ·
        intro e_4 w_8 hAg H_9
        have e_4_1 : e_4 1 = Value.slice a 64 c := (hAg 1 rfl).trans e_2_1
        have e_4_2 : e_4 2 = Value.pointer (some ⟨kb, 0, none⟩) := (hAg 2 rfl).trans e_2_2
        have e_4_3 : e_4 3 = Value.pointer (some ⟨bk3, 0, none⟩) := (hAg 3 rfl).trans e_2_3
        have e_4_6 : e_4 6 = Value.pointer (some ⟨bk6, 0, none⟩) := (hAg 6 rfl).trans e_2_6
        have e_4_7 : e_4 7 = Value.pointer (some ⟨bk7, 0, none⟩) := (hAg 7 rfl).trans e_2_7
        have e_4_8 : e_4 8 = Value.int .i64 ((t : Nat) : Int) := (hAg 8 rfl).trans e_2_26
        have e_4_9 : e_4 9 = Value.int .u32 ((x69 : Nat) : Int) := (hAg 9 rfl).trans rfl
        have e_4_26 : e_4 26 = Value.int .i64 ((t : Nat) : Int) := (hAg 26 rfl).trans e_2_26
        have e_4_73 : e_4 73 = Value.int .u32 ((x73 : Nat) : Int) := (hAg 73 rfl).trans rfl
        refine L_as rfl ?_
        refine L_nil ?_
        refine Th_n ?_
        refine W_seq ?_
        refine W_rg ?_
        refine L_mv rfl ?_
        refine L_callv rfl rfl T_en27 (A2 e_4_9 rfl) ((rot32_n x69 17 (by decide) (by decide) rx69 _).mono (fun r_ w' h => (⟨Sm.ror 32 17 x69, rfl, h⟩ : ∃ (r75 : Nat), r75 = Sm.ror 32 17 x69 ∧ r_ = .returned (Value.int .u32 ((r75 : Nat) : Int)) ∧ Keep w_8 w'))) ?_
        rintro _ w_9 ⟨r75, hr75, rfl, hkp⟩; refine ⟨_, rfl, ?_⟩; have H_10 := H_9.keep hkp
        refine L_mv rfl ?_
        refine L_callv rfl rfl T_en27 (A2 e_4_9 rfl) ((rot32_n x69 19 (by decide) (by decide) rx69 _).mono (fun r_ w' h => (⟨Sm.ror 32 19 x69, rfl, h⟩ : ∃ (r77 : Nat), r77 = Sm.ror 32 19 x69 ∧ r_ = .returned (Value.int .u32 ((r77 : Nat) : Int)) ∧ Keep w_9 w'))) ?_
        rintro _ w_10 ⟨r77, hr77, rfl, hkp_2⟩; refine ⟨_, rfl, ?_⟩; have H_11 := H_10.keep hkp_2
        refine L_yr (z := r75 ^^^ r77) (m := 4294967296) rfl (Yu_xor (k := .u32) rfl r75 r77 (by rw [hr75]; exact Sm.ror_lt 32 _ _) (by rw [hr77]; exact Sm.ror_lt 32 _ _) rfl rfl) (Nat.xor_lt_two_pow (n := 32) (by rw [hr75]; exact Sm.ror_lt 32 _ _) (by rw [hr77]; exact Sm.ror_lt 32 _ _)) ?_; intro x78 hx78 rx78
        refine L_mv rfl ?_
        refine L_yr (z := x69 / 2 ^ 10) (m := 4294967296) rfl (Yu_shr (k := .u32) x69 10 rx69 e_4_9 rfl) (Nat.lt_of_le_of_lt (Nat.div_le_self _ _) rx69) ?_; intro x80 hx80 rx80
        refine L_yr (z := x78 ^^^ x80) (m := 4294967296) rfl (Yu_xor (k := .u32) rfl x78 x80 rx78 rx80 rfl rfl) (Nat.xor_lt_two_pow (n := 32) rx78 rx80) ?_; intro x81 hx81 rx81
        refine L_as rfl ?_
        refine L_nil ?_
        refine Th_n ?_
        refine W_seq ?_
        refine W_rg ?_
        refine L_mv rfl ?_
        refine L_callv rfl rfl T_en27 (A2 e_4_73 rfl) ((rot32_n x73 7 (by decide) (by decide) rx73 _).mono (fun r_ w' h => (⟨Sm.ror 32 7 x73, rfl, h⟩ : ∃ (r83 : Nat), r83 = Sm.ror 32 7 x73 ∧ r_ = .returned (Value.int .u32 ((r83 : Nat) : Int)) ∧ Keep w_10 w'))) ?_
        rintro _ w_11 ⟨r83, hr83, rfl, hkp_3⟩; refine ⟨_, rfl, ?_⟩; have H_12 := H_11.keep hkp_3
        refine L_mv rfl ?_
        refine L_callv rfl rfl T_en27 (A2 e_4_73 rfl) ((rot32_n x73 18 (by decide) (by decide) rx73 _).mono (fun r_ w' h => (⟨Sm.ror 32 18 x73, rfl, h⟩ : ∃ (r85 : Nat), r85 = Sm.ror 32 18 x73 ∧ r_ = .returned (Value.int .u32 ((r85 : Nat) : Int)) ∧ Keep w_11 w'))) ?_
        rintro _ w_12 ⟨r85, hr85, rfl, hkp_4⟩; refine ⟨_, rfl, ?_⟩; have H_13 := H_12.keep hkp_4
        refine L_yr (z := r83 ^^^ r85) (m := 4294967296) rfl (Yu_xor (k := .u32) rfl r83 r85 (by rw [hr83]; exact Sm.ror_lt 32 _ _) (by rw [hr85]; exact Sm.ror_lt 32 _ _) rfl rfl) (Nat.xor_lt_two_pow (n := 32) (by rw [hr83]; exact Sm.ror_lt 32 _ _) (by rw [hr85]; exact Sm.ror_lt 32 _ _)) ?_; intro x86 hx86 rx86
        refine L_mv rfl ?_
        refine L_yr (z := x73 / 2 ^ 3) (m := 4294967296) rfl (Yu_shr (k := .u32) x73 3 rx73 e_4_73 rfl) (Nat.lt_of_le_of_lt (Nat.div_le_self _ _) rx73) ?_; intro x88 hx88 rx88
        refine L_yr (z := x86 ^^^ x88) (m := 4294967296) rfl (Yu_xor (k := .u32) rfl x86 x88 rx86 rx88 rfl rfl) (Nat.xor_lt_two_pow (n := 32) rx86 rx88) ?_; intro x89 hx89 rx89
        refine L_as rfl ?_
        refine L_nil ?_
        refine Th_n ?_
        obtain ⟨x95, hx95⟩ : ∃ u, (Sm.sched Sm.k256 l t ++ List.replicate (64 - t) 0)[t - 7]? = some u := ⟨_, List.getElem?_eq_getElem (by have := (sch256_wd hl ht).1; omega)⟩
        have rx95 := (sch256_wd hl ht).2 _ (List.mem_of_getElem? hx95)
        obtain ⟨x102, hx102⟩ : ∃ u, (Sm.sched Sm.k256 l t ++ List.replicate (64 - t) 0)[t - 16]? = some u := ⟨_, List.getElem?_eq_getElem (by have := (sch256_wd hl ht).1; omega)⟩
        have rx102 := (sch256_wd hl ht).2 _ (List.mem_of_getElem? hx102)
        refine W_quiet H_13 14 [Value.int .i64 ((t : Nat) : Int), Value.int .u32 ((x81 : Nat) : Int), Value.int .i64 ((t : Nat) : Int), Value.int .i64 ((t - 7 : Nat) : Int), Value.pointer (some ⟨bk7, t - 7, none⟩), Value.int .u32 ((x95 : Nat) : Int), Value.int .u32 (((x81 + x95) % 4294967296 : Nat) : Int), Value.int .u32 ((x89 : Nat) : Int), Value.int .u32 (((((x81 + x95) % 4294967296) + x89) % 4294967296 : Nat) : Int), Value.int .i64 ((t : Nat) : Int), Value.int .i64 ((t - 16 : Nat) : Int), Value.pointer (some ⟨bk7, t - 16, none⟩), Value.int .u32 ((x102 : Nat) : Int), Value.int .u32 (((((((x81 + x95) % 4294967296) + x89) % 4294967296) + x102) % 4294967296 : Nat) : Int)] T_mixed (by kernel_rfl) ?_ ?_
        ·
          refine .plain rfl (Pl_y rfl (fun w hBw => congrArg (fun v => Result.ok (Next.value v) w) e_4_8)) ?_
          refine .plain rfl (Pl_y rfl (fun w hBw => rfl)) ?_
          refine .plain rfl (Pl_y rfl (fun w hBw => congrArg (fun v => Result.ok (Next.value v) w) e_4_8)) ?_
          refine .plain rfl (Pl_y rfl (fun w hBw => Y_sub (k := .i64) (a := ((t : Nat) : Int)) (b := ((7 : Nat) : Int)) (z := ((t - 7 : Nat) : Int)) rfl rfl (wi (by omega)))) ?_
          refine .plain rfl (Pl_y rfl (fun w hBw => Y_idxA (t - 7) (t - 7) T_arr39 e_4_7 rfl rfl (by omega) (zz1 _))) ?_
          refine .plain rfl (Pl_y rfl (fun w hBw => Y_ld T_scal38 hBw (i := 0) rfl rfl (ua_get hx95))) ?_
          refine .plain rfl (Pl_y rfl (fun w hBw => Yu_add (k := .u32) rfl x81 x95 rfl rfl)) ?_
          refine .plain rfl (Pl_y rfl (fun w hBw => rfl)) ?_
          refine .plain rfl (Pl_y rfl (fun w hBw => Yu_add (k := .u32) rfl ((x81 + x95) % 4294967296) x89 rfl rfl)) ?_
          refine .plain rfl (Pl_y rfl (fun w hBw => congrArg (fun v => Result.ok (Next.value v) w) e_4_8)) ?_
          refine .plain rfl (Pl_y rfl (fun w hBw => Y_sub (k := .i64) (a := ((t : Nat) : Int)) (b := ((16 : Nat) : Int)) (z := ((t - 16 : Nat) : Int)) rfl rfl (wi (by omega)))) ?_
          refine .plain rfl (Pl_y rfl (fun w hBw => Y_idxA (t - 16) (t - 16) T_arr39 e_4_7 rfl rfl (by omega) (zz1 _))) ?_
          refine .plain rfl (Pl_y rfl (fun w hBw => Y_ld T_scal38 hBw (i := 0) rfl rfl (ua_get hx102))) ?_
          refine .plain rfl (Pl_y rfl (fun w hBw => Yu_add (k := .u32) rfl ((((x81 + x95) % 4294967296) + x89) % 4294967296) x102 rfl rfl)) ?_
          exact .nil _
        ·
          intro e_5 w_13 hAg H_14
          have e_5_1 : e_5 1 = Value.slice a 64 c := (hAg 1 rfl).trans e_4_1
          have e_5_2 : e_5 2 = Value.pointer (some ⟨kb, 0, none⟩) := (hAg 2 rfl).trans e_4_2
          have e_5_3 : e_5 3 = Value.pointer (some ⟨bk3, 0, none⟩) := (hAg 3 rfl).trans e_4_3
          have e_5_6 : e_5 6 = Value.pointer (some ⟨bk6, 0, none⟩) := (hAg 6 rfl).trans e_4_6
          have e_5_7 : e_5 7 = Value.pointer (some ⟨bk7, 0, none⟩) := (hAg 7 rfl).trans e_4_7
          have e_5_26 : e_5 26 = Value.int .i64 ((t : Nat) : Int) := (hAg 26 rfl).trans e_4_26
          have e_5_90 : e_5 90 = Value.int .i64 ((t : Nat) : Int) := (hAg 90 rfl).trans rfl
          obtain ⟨x103, hx103⟩ : ∃ z_ : Nat, z_ = (((((x81 + x95) % 4294967296) + x89) % 4294967296) + x102) % 4294967296 := ⟨_, rfl⟩
          have rx103 : x103 < 4294967296 := by rw [hx103]; exact (Nat.mod_lt _ (by decide))
          have e_5_103 : e_5 103 = Value.int .u32 ((x103 : Nat) : Int) := (hAg 103 rfl).trans (by rw [hx103]; exact rfl)
          refine L_y rfl (Y_idxA t t T_arr39 e_5_7 e_5_90 rfl (by omega) (zz1 _)) ?_
          refine L_st (v := Value.int .u32 ((x103 : Nat) : Int)) T_scal38 H_14 (i := 0) rfl rfl e_5_103 rfl (by rw [ua_size]; have := (sch256_wd hl ht).1; omega) (l' := [Ent.blk bk7 39 (ua .u32 ((Sm.sched Sm.k256 l t ++ List.replicate (64 - t) 0).set t x103)), Ent.blk bk6 40 (ua .u32 [0, 0, 0, 0, 0, 0, 0, 0]), Ent.blk bk3 40 (ua .u32 [S.a, S.b, S.c, S.d, S.e, S.f, S.g, S.h])]) (by rw [ua_set]; rfl) ?_; intro w_14 H_15
          refine L_nil ?_
          refine InB_n ?_
          refine Th_n ?_
          refine W_rg ?_
          refine L_y rfl (Y_add (k := .i64) (a := ((t : Nat) : Int)) (b := ((1 : Nat) : Int)) (z := ((t + 1 : Nat) : Int)) e_5_26 rfl (wi (by omega))) ?_
          refine L_mv rfl ?_
          refine L_nil ?_
          have H_16 : Hp w0 [] w_14 [Ent.blk bk7 39 (ua .u32 (Sm.sched Sm.k256 l (t + 1) ++ List.replicate (64 - (t + 1)) 0)), Ent.blk bk6 40 (ua .u32 [0, 0, 0, 0, 0, 0, 0, 0]), Ent.blk bk3 40 (ua .u32 [S.a, S.b, S.c, S.d, S.e, S.f, S.g, S.h])] := by have h := H_15; rw [Sm.sched_set (by omega) (by rw [hx103, hx81, hx89, hx78, hx80, hx86, hx88, hr75, hr77, hr83, hr85]; exact Sm.word256_hi (of_decide_eq_false hc_2) (Sm.sched_get (by omega) hx69) (Sm.sched_get (by omega) hx73) (Sm.sched_get (by omega) hx95) (Sm.sched_get (by omega) hx102))] at h; exact h
          refine Th_n ⟨_, ?_, t + 1, rfl, e_5_1, e_5_2, e_5_3, e_5_6, e_5_7, rfl, H_16, (by omega)⟩
          omega
  ·
    have hc' := of_decide_eq_false hc
    refine W_exit ?_
    refine Th_x ?_
    refine Th_x ?_
    obtain rfl : t = 64 := by omega
    have H_17 : Hp w0 [] w_5 [Ent.blk bk7 39 (ua .u32 (Sm.sched Sm.k256 l 64)), Ent.blk bk6 40 (ua .u32 [0, 0, 0, 0, 0, 0, 0, 0]), Ent.blk bk3 40 (ua .u32 [S.a, S.b, S.c, S.d, S.e, S.f, S.g, S.h])] := by have h := H_5; rw [Nat.sub_self, List.replicate_zero, List.append_nil] at h; exact h
    refine InB_hit ?_
    refine Th_n ?_
    refine W_seq ?_
    refine W_quiet H_17 23 [Value.pointer (some ⟨bk3, 0, none⟩), Value.int .u32 ((S.a : Nat) : Int), Value.pointer (some ⟨bk3, 1, none⟩), Value.int .u32 ((S.b : Nat) : Int), Value.pointer (some ⟨bk3, 2, none⟩), Value.int .u32 ((S.c : Nat) : Int), Value.pointer (some ⟨bk3, 3, none⟩), Value.int .u32 ((S.d : Nat) : Int), Value.pointer (some ⟨bk3, 4, none⟩), Value.int .u32 ((S.e : Nat) : Int), Value.pointer (some ⟨bk3, 5, none⟩), Value.int .u32 ((S.f : Nat) : Int), Value.pointer (some ⟨bk3, 6, none⟩), Value.int .u32 ((S.g : Nat) : Int), Value.pointer (some ⟨bk3, 7, none⟩), Value.int .u32 ((S.h : Nat) : Int), Value.int .u32 ((S.a : Nat) : Int), Value.int .u32 ((S.b : Nat) : Int), Value.int .u32 ((S.c : Nat) : Int), Value.int .u32 ((S.d : Nat) : Int), Value.int .u32 ((S.e : Nat) : Int), Value.int .u32 ((S.f : Nat) : Int), Value.int .u32 ((S.g : Nat) : Int)] T_mixed (by kernel_rfl) ?_ ?_
    ·
      refine .plain rfl (Pl_y rfl (fun w hBw => Y_idxA 0 0 T_arr40 e_2_3 rfl rfl (by decide) (zz1 _))) ?_
      refine .plain rfl (Pl_y rfl (fun w hBw => Y_ld T_scal38 hBw (i := 2) rfl rfl rfl)) ?_
      refine .plain rfl (Pl_y rfl (fun w hBw => Y_idxA 1 1 T_arr40 e_2_3 rfl rfl (by decide) (zz1 _))) ?_
      refine .plain rfl (Pl_y rfl (fun w hBw => Y_ld T_scal38 hBw (i := 2) rfl rfl rfl)) ?_
      refine .plain rfl (Pl_y rfl (fun w hBw => Y_idxA 2 2 T_arr40 e_2_3 rfl rfl (by decide) (zz1 _))) ?_
      refine .plain rfl (Pl_y rfl (fun w hBw => Y_ld T_scal38 hBw (i := 2) rfl rfl rfl)) ?_
      refine .plain rfl (Pl_y rfl (fun w hBw => Y_idxA 3 3 T_arr40 e_2_3 rfl rfl (by decide) (zz1 _))) ?_
      refine .plain rfl (Pl_y rfl (fun w hBw => Y_ld T_scal38 hBw (i := 2) rfl rfl rfl)) ?_
      refine .plain rfl (Pl_y rfl (fun w hBw => Y_idxA 4 4 T_arr40 e_2_3 rfl rfl (by decide) (zz1 _))) ?_
      refine .plain rfl (Pl_y rfl (fun w hBw => Y_ld T_scal38 hBw (i := 2) rfl rfl rfl)) ?_
      refine .plain rfl (Pl_y rfl (fun w hBw => Y_idxA 5 5 T_arr40 e_2_3 rfl rfl (by decide) (zz1 _))) ?_
      refine .plain rfl (Pl_y rfl (fun w hBw => Y_ld T_scal38 hBw (i := 2) rfl rfl rfl)) ?_
      refine .plain rfl (Pl_y rfl (fun w hBw => Y_idxA 6 6 T_arr40 e_2_3 rfl rfl (by decide) (zz1 _))) ?_
      refine .plain rfl (Pl_y rfl (fun w hBw => Y_ld T_scal38 hBw (i := 2) rfl rfl rfl)) ?_
      refine .plain rfl (Pl_y rfl (fun w hBw => Y_idxA 7 7 T_arr40 e_2_3 rfl rfl (by decide) (zz1 _))) ?_
      refine .plain rfl (Pl_y rfl (fun w hBw => Y_ld T_scal38 hBw (i := 2) rfl rfl rfl)) ?_
      refine .plain rfl (Pl_y rfl (fun w hBw => rfl)) ?_
      refine .plain rfl (Pl_y rfl (fun w hBw => rfl)) ?_
      refine .plain rfl (Pl_y rfl (fun w hBw => rfl)) ?_
      refine .plain rfl (Pl_y rfl (fun w hBw => rfl)) ?_
      refine .plain rfl (Pl_y rfl (fun w hBw => rfl)) ?_
      refine .plain rfl (Pl_y rfl (fun w hBw => rfl)) ?_
      refine .plain rfl (Pl_y rfl (fun w hBw => rfl)) ?_
      exact .nil _
    ·
      intro e_6 w_15 hAg H_18
      have e_6_2 : e_6 2 = Value.pointer (some ⟨kb, 0, none⟩) := (hAg 2 rfl).trans e_2_2
      have e_6_3 : e_6 3 = Value.pointer (some ⟨bk3, 0, none⟩) := (hAg 3 rfl).trans e_2_3
      have e_6_6 : e_6 6 = Value.pointer (some ⟨bk6, 0, none⟩) := (hAg 6 rfl).trans e_2_6
      have e_6_7 : e_6 7 = Value.pointer (some ⟨bk7, 0, none⟩) := (hAg 7 rfl).trans e_2_7
      have e_6_13 : e_6 13 = Value.int .u32 ((S.a : Nat) : Int) := (hAg 13 rfl).trans rfl
      have e_6_14 : e_6 14 = Value.int .u32 ((S.b : Nat) : Int) := (hAg 14 rfl).trans rfl
      have e_6_15 : e_6 15 = Value.int .u32 ((S.c : Nat) : Int) := (hAg 15 rfl).trans rfl
      have e_6_16 : e_6 16 = Value.int .u32 ((S.d : Nat) : Int) := (hAg 16 rfl).trans rfl
      have e_6_17 : e_6 17 = Value.int .u32 ((S.e : Nat) : Int) := (hAg 17 rfl).trans rfl
      have e_6_18 : e_6 18 = Value.int .u32 ((S.f : Nat) : Int) := (hAg 18 rfl).trans rfl
      have e_6_19 : e_6 19 = Value.int .u32 ((S.g : Nat) : Int) := (hAg 19 rfl).trans rfl
      have e_6_121 : e_6 121 = Value.int .u32 ((S.h : Nat) : Int) := (hAg 121 rfl).trans rfl
      refine L_as rfl ?_
      refine L_nil ?_
      refine Th_n ?_
      refine W_seq ?_
      refine W_seq ?_
      refine W_rg ?_
      refine L_mv rfl ?_
      refine L_nil ?_
      refine Th_n ?_
      refine W_block ?_
      refine W_loop (fun mu_ e w => ∃ t : Nat, ∃ va : Nat, ∃ vb : Nat, ∃ vc : Nat, ∃ vd : Nat, ∃ ve : Nat, ∃ vf : Nat, ∃ vg : Nat, ∃ vh : Nat, mu_ = 64 - t ∧ e 2 = Value.pointer (some ⟨kb, 0, none⟩) ∧ e 3 = Value.pointer (some ⟨bk3, 0, none⟩) ∧ e 6 = Value.pointer (some ⟨bk6, 0, none⟩) ∧ e 7 = Value.pointer (some ⟨bk7, 0, none⟩) ∧ e 13 = Value.int .u32 ((va : Nat) : Int) ∧ e 14 = Value.int .u32 ((vb : Nat) : Int) ∧ e 15 = Value.int .u32 ((vc : Nat) : Int) ∧ e 16 = Value.int .u32 ((vd : Nat) : Int) ∧ e 17 = Value.int .u32 ((ve : Nat) : Int) ∧ e 18 = Value.int .u32 ((vf : Nat) : Int) ∧ e 19 = Value.int .u32 ((vg : Nat) : Int) ∧ e 20 = Value.int .u32 ((vh : Nat) : Int) ∧ e 122 = Value.int .i64 ((t : Nat) : Int) ∧ Hp w0 [] w [Ent.blk bk7 39 (ua .u32 (Sm.sched Sm.k256 l 64)), Ent.blk bk6 40 (ua .u32 [0, 0, 0, 0, 0, 0, 0, 0]), Ent.blk bk3 40 (ua .u32 [S.a, S.b, S.c, S.d, S.e, S.f, S.g, S.h])] ∧ t ≤ 64 ∧ Sm.V8.mk va vb vc vd ve vf vg vh = Sm.rounds Sm.k256 (Sm.sched Sm.k256 l 64) S t ∧ (Sm.V8.mk va vb vc vd ve vf vg vh).lt 4294967296) _ ⟨0, S.a, S.b, S.c, S.d, S.e, S.f, S.g, S.h, rfl, e_6_2, e_6_3, e_6_6, e_6_7, e_6_13, e_6_14, e_6_15, e_6_16, e_6_17, e_6_18, e_6_19, e_6_121, rfl, H_18, (Nat.zero_le _), rfl, hS⟩ ?_
      rintro mu_ e_7 w_16 ⟨t, va, vb, vc, vd, ve, vf, vg, vh, rfl, e_7_2, e_7_3, e_7_6, e_7_7, e_7_13, e_7_14, e_7_15, e_7_16, e_7_17, e_7_18, e_7_19, e_7_20, e_7_122, H_19, ht, hV, hW⟩
      refine W_seq ?_
      refine W_rg ?_
      refine L_y rfl (Y_lss (k := .i64) (a := ((t : Nat) : Int)) (b := ((64 : Nat) : Int)) e_7_122 rfl) ?_
      refine L_nil ?_
      refine Th_n ?_
      refine W_seq ?_
      refine W_cond (b := (decide (((t : Nat) : Int) < ((64 : Nat) : Int)))) rfl (fun hc_3 => ?_) (fun hc_3 => ?_)
      ·
        have hc_3' := of_decide_eq_true hc_3
        refine W_skip ?_
        refine Th_n ?_
        refine W_seq ?_
        refine W_block ?_
        refine W_seq ?_
        refine W_rg ?_
        refine L_mv rfl ?_
        refine L_as rfl ?_
        refine L_nil ?_
        refine Th_n ?_
        refine W_seq ?_
        refine W_rg ?_
        refine L_mv rfl ?_
        refine L_callv rfl rfl T_en27 (A2 e_7_17 rfl) ((rot32_n ve 6 (by decide) (by decide) hW.2.2.2.2.1 _).mono (fun r_ w' h => (⟨Sm.ror 32 6 ve, rfl, h⟩ : ∃ (r126 : Nat), r126 = Sm.ror 32 6 ve ∧ r_ = .returned (Value.int .u32 ((r126 : Nat) : Int)) ∧ Keep w_16 w'))) ?_
        rintro _ w_17 ⟨r126, hr126, rfl, hkp_5⟩; refine ⟨_, rfl, ?_⟩; have H_20 := H_19.keep hkp_5
        refine L_mv rfl ?_
        refine L_callv rfl rfl T_en27 (A2 e_7_17 rfl) ((rot32_n ve 11 (by decide) (by decide) hW.2.2.2.2.1 _).mono (fun r_ w' h => (⟨Sm.ror 32 11 ve, rfl, h⟩ : ∃ (r128 : Nat), r128 = Sm.ror 32 11 ve ∧ r_ = .returned (Value.int .u32 ((r128 : Nat) : Int)) ∧ Keep w_17 w'))) ?_
        rintro _ w_18 ⟨r128, hr128, rfl, hkp_6⟩; refine ⟨_, rfl, ?_⟩; have H_21 := H_20.keep hkp_6
        refine L_yr (z := r126 ^^^ r128) (m := 4294967296) rfl (Yu_xor (k := .u32) rfl r126 r128 (by rw [hr126]; exact Sm.ror_lt 32 _ _) (by rw [hr128]; exact Sm.ror_lt 32 _ _) rfl rfl) (Nat.xor_lt_two_pow (n := 32) (by rw [hr126]; exact Sm.ror_lt 32 _ _) (by rw [hr128]; exact Sm.ror_lt 32 _ _)) ?_; intro x129 hx129 rx129
        refine L_mv rfl ?_
        refine L_callv rfl rfl T_en27 (A2 e_7_17 rfl) ((rot32_n ve 25 (by decide) (by decide) hW.2.2.2.2.1 _).mono (fun r_ w' h => (⟨Sm.ror 32 25 ve, rfl, h⟩ : ∃ (r131 : Nat), r131 = Sm.ror 32 25 ve ∧ r_ = .returned (Value.int .u32 ((r131 : Nat) : Int)) ∧ Keep w_18 w'))) ?_
        rintro _ w_19 ⟨r131, hr131, rfl, hkp_7⟩; refine ⟨_, rfl, ?_⟩; have H_22 := H_21.keep hkp_7
        refine L_yr (z := x129 ^^^ r131) (m := 4294967296) rfl (Yu_xor (k := .u32) rfl x129 r131 rx129 (by rw [hr131]; exact Sm.ror_lt 32 _ _) rfl rfl) (Nat.xor_lt_two_pow (n := 32) rx129 (by rw [hr131]; exact Sm.ror_lt 32 _ _)) ?_; intro x132 hx132 rx132
        refine L_as rfl ?_
        refine L_nil ?_
        refine Th_n ?_
        refine W_seq ?_
        refine W_rg ?_
        refine L_mv rfl ?_
        refine L_callv rfl rfl T_en27 (A2 e_7_13 rfl) ((rot32_n va 2 (by decide) (by decide) hW.1 _).mono (fun r_ w' h => (⟨Sm.ror 32 2 va, rfl, h⟩ : ∃ (r134 : Nat), r134 = Sm.ror 32 2 va ∧ r_ = .returned (Value.int .u32 ((r134 : Nat) : Int)) ∧ Keep w_19 w'))) ?_
        rintro _ w_20 ⟨r134, hr134, rfl, hkp_8⟩; refine ⟨_, rfl, ?_⟩; have H_23 := H_22.keep hkp_8
        refine L_mv rfl ?_
        refine L_callv rfl rfl T_en27 (A2 e_7_13 rfl) ((rot32_n va 13 (by decide) (by decide) hW.1 _).mono (fun r_ w' h => (⟨Sm.ror 32 13 va, rfl, h⟩ : ∃ (r136 : Nat), r136 = Sm.ror 32 13 va ∧ r_ = .returned (Value.int .u32 ((r136 : Nat) : Int)) ∧ Keep w_20 w'))) ?_
        rintro _ w_21 ⟨r136, hr136, rfl, hkp_9⟩; refine ⟨_, rfl, ?_⟩; have H_24 := H_23.keep hkp_9
        refine L_yr (z := r134 ^^^ r136) (m := 4294967296) rfl (Yu_xor (k := .u32) rfl r134 r136 (by rw [hr134]; exact Sm.ror_lt 32 _ _) (by rw [hr136]; exact Sm.ror_lt 32 _ _) rfl rfl) (Nat.xor_lt_two_pow (n := 32) (by rw [hr134]; exact Sm.ror_lt 32 _ _) (by rw [hr136]; exact Sm.ror_lt 32 _ _)) ?_; intro x137 hx137 rx137
        refine L_mv rfl ?_
        refine L_callv rfl rfl T_en27 (A2 e_7_13 rfl) ((rot32_n va 22 (by decide) (by decide) hW.1 _).mono (fun r_ w' h => (⟨Sm.ror 32 22 va, rfl, h⟩ : ∃ (r139 : Nat), r139 = Sm.ror 32 22 va ∧ r_ = .returned (Value.int .u32 ((r139 : Nat) : Int)) ∧ Keep w_21 w'))) ?_
        rintro _ w_22 ⟨r139, hr139, rfl, hkp_10⟩; refine ⟨_, rfl, ?_⟩; have H_25 := H_24.keep hkp_10
        refine L_yr (z := x137 ^^^ r139) (m := 4294967296) rfl (Yu_xor (k := .u32) rfl x137 r139 rx137 (by rw [hr139]; exact Sm.ror_lt 32 _ _) rfl rfl) (Nat.xor_lt_two_pow (n := 32) rx137 (by rw [hr139]; exact Sm.ror_lt 32 _ _)) ?_; intro x140 hx140 rx140
        refine L_as rfl ?_
        refine L_nil ?_
        refine Th_n ?_
        refine W_seq ?_
        obtain ⟨x157, hx157⟩ : ∃ u, Sm.k256.ks[t]? = some u := ⟨_, List.getElem?_eq_getElem (by have := ks256_wd.1; omega)⟩
        have rx157 := ks256_wd.2 _ (List.mem_of_getElem? hx157)
        obtain ⟨x161, hx161⟩ : ∃ u, (Sm.sched Sm.k256 l 64)[t]? = some u := ⟨_, List.getElem?_eq_getElem (by have := (sch256_wd' hl).1; omega)⟩
        have rx161 := (sch256_wd' hl).2 _ (List.mem_of_getElem? hx161)
        refine W_quiet H_25 21 [Value.int .u32 ((vh : Nat) : Int), Value.int .u32 ((x132 : Nat) : Int), Value.int .u32 (((vh + x132) % 4294967296 : Nat) : Int), Value.int .u32 ((ve : Nat) : Int), Value.int .u32 ((vf : Nat) : Int), Value.int .u32 ((ve &&& vf : Nat) : Int), Value.int .u32 ((ve : Nat) : Int), Value.int .u32 ((4294967295 - ve : Nat) : Int), Value.int .u32 ((vg : Nat) : Int), Value.int .u32 (((4294967295 - ve) &&& vg : Nat) : Int), Value.int .u32 (((ve &&& vf) ^^^ ((4294967295 - ve) &&& vg) : Nat) : Int), Value.int .u32 (((((vh + x132) % 4294967296) + ((ve &&& vf) ^^^ ((4294967295 - ve) &&& vg))) % 4294967296 : Nat) : Int), Value.pointer (some ⟨kb, 0, none⟩), Value.int .i64 ((t : Nat) : Int), Value.pointer (some ⟨kb, 0, none⟩), Value.pointer (some ⟨kb, t, none⟩), Value.int .u32 ((x157 : Nat) : Int), Value.int .u32 (((((((vh + x132) % 4294967296) + ((ve &&& vf) ^^^ ((4294967295 - ve) &&& vg))) % 4294967296) + x157) % 4294967296 : Nat) : Int), Value.int .i64 ((t : Nat) : Int), Value.pointer (some ⟨bk7, t, none⟩), Value.int .u32 ((x161 : Nat) : Int)] T_mixed (by kernel_rfl) ?_ ?_
        ·
          refine .plain rfl (Pl_y rfl (fun w hBw => congrArg (fun v => Result.ok (Next.value v) w) e_7_20)) ?_
          refine .plain rfl (Pl_y rfl (fun w hBw => rfl)) ?_
          refine .plain rfl (Pl_y rfl (fun w hBw => Yu_add (k := .u32) rfl vh x132 rfl rfl)) ?_
          refine .plain rfl (Pl_y rfl (fun w hBw => congrArg (fun v => Result.ok (Next.value v) w) e_7_17)) ?_
          refine .plain rfl (Pl_y rfl (fun w hBw => congrArg (fun v => Result.ok (Next.value v) w) e_7_18)) ?_
          refine .plain rfl (Pl_y rfl (fun w hBw => Yu_and (k := .u32) rfl ve vf hW.2.2.2.2.1 hW.2.2.2.2.2.1 rfl rfl)) ?_
          refine .plain rfl (Pl_y rfl (fun w hBw => congrArg (fun v => Result.ok (Next.value v) w) e_7_17)) ?_
          refine .plain rfl (Pl_y rfl (fun w hBw => Yu_com (k := .u32) rfl ve hW.2.2.2.2.1 rfl)) ?_
          refine .plain rfl (Pl_y rfl (fun w hBw => congrArg (fun v => Result.ok (Next.value v) w) e_7_19)) ?_
          refine .plain rfl (Pl_y rfl (fun w hBw => Yu_and (k := .u32) rfl (4294967295 - ve) vg (Nat.lt_of_le_of_lt (Nat.sub_le _ _) (by decide)) hW.2.2.2.2.2.2.1 rfl rfl)) ?_
          refine .plain rfl (Pl_y rfl (fun w hBw => Yu_xor (k := .u32) rfl (ve &&& vf) ((4294967295 - ve) &&& vg) (Nat.lt_of_le_of_lt (Nat.and_le_left) hW.2.2.2.2.1) (Nat.lt_of_le_of_lt (Nat.and_le_left) (Nat.lt_of_le_of_lt (Nat.sub_le _ _) (by decide))) rfl rfl)) ?_
          refine .plain rfl (Pl_y rfl (fun w hBw => Yu_add (k := .u32) rfl ((vh + x132) % 4294967296) ((ve &&& vf) ^^^ ((4294967295 - ve) &&& vg)) rfl rfl)) ?_
          refine .plain rfl (Pl_y rfl (fun w hBw => congrArg (fun v => Result.ok (Next.value v) w) e_7_2)) ?_
          refine .plain rfl (Pl_y rfl (fun w hBw => congrArg (fun v => Result.ok (Next.value v) w) e_7_122)) ?_
          refine .plain rfl (Pl_y rfl (fun w hBw => Y_nil rfl)) ?_
          refine .plain rfl (Pl_y rfl (fun w hBw => Y_idxA t t T_arr39 rfl rfl rfl (by omega) (zz1 _))) ?_
          refine .plain rfl (Pl_y rfl (fun w hBw => Y_ldb T_scal38 (hBw.oldB hk (by simp)) rfl (ua_get hx157))) ?_
          refine .plain rfl (Pl_y rfl (fun w hBw => Yu_add (k := .u32) rfl ((((vh + x132) % 4294967296) + ((ve &&& vf) ^^^ ((4294967295 - ve) &&& vg))) % 4294967296) x157 rfl rfl)) ?_
          refine .plain rfl (Pl_y rfl (fun w hBw => congrArg (fun v => Result.ok (Next.value v) w) e_7_122)) ?_
          refine .plain rfl (Pl_y rfl (fun w hBw => Y_idxA t t T_arr39 e_7_7 rfl rfl (by omega) (zz1 _))) ?_
          refine .plain rfl (Pl_y rfl (fun w hBw => Y_ld T_scal38 hBw (i := 0) rfl rfl (ua_get hx161))) ?_
          exact .nil _
        ·
          intro e_8 w_23 hAg H_26
          have e_8_2 : e_8 2 = Value.pointer (some ⟨kb, 0, none⟩) := (hAg 2 rfl).trans e_7_2
          have e_8_3 : e_8 3 = Value.pointer (some ⟨bk3, 0, none⟩) := (hAg 3 rfl).trans e_7_3
          have e_8_6 : e_8 6 = Value.pointer (some ⟨bk6, 0, none⟩) := (hAg 6 rfl).trans e_7_6
          have e_8_7 : e_8 7 = Value.pointer (some ⟨bk7, 0, none⟩) := (hAg 7 rfl).trans e_7_7
          have e_8_13 : e_8 13 = Value.int .u32 ((va : Nat) : Int) := (hAg 13 rfl).trans e_7_13
          have e_8_14 : e_8 14 = Value.int .u32 ((vb : Nat) : Int) := (hAg 14 rfl).trans e_7_14
          have e_8_15 : e_8 15 = Value.int .u32 ((vc : Nat) : Int) := (hAg 15 rfl).trans e_7_15
          have e_8_16 : e_8 16 = Value.int .u32 ((vd : Nat) : Int) := (hAg 16 rfl).trans e_7_16
          have e_8_17 : e_8 17 = Value.int .u32 ((ve : Nat) : Int) := (hAg 17 rfl).trans e_7_17
          have e_8_18 : e_8 18 = Value.int .u32 ((vf : Nat) : Int) := (hAg 18 rfl).trans e_7_18
          have e_8_19 : e_8 19 = Value.int .u32 ((vg : Nat) : Int) := (hAg 19 rfl).trans e_7_19
          have e_8_23 : e_8 23 = Value.int .u32 ((x140 : Nat) : Int) := (hAg 23 rfl).trans rfl
          have e_8_122 : e_8 122 = Value.int .i64 ((t : Nat) : Int) := (hAg 122 rfl).trans e_7_122
          obtain ⟨x158, hx158⟩ : ∃ z_ : Nat, z_ = (((((vh + x132) % 4294967296) + ((ve &&& vf) ^^^ ((4294967295 - ve) &&& vg))) % 4294967296) + x157) % 4294967296 := ⟨_, rfl⟩
          have rx158 : x158 < 4294967296 := by rw [hx158]; exact (Nat.mod_lt _ (by decide))
          have e_8_158 : e_8 158 = Value.int .u32 ((x158 : Nat) : Int) := (hAg 158 rfl).trans (by rw [hx158]; exact rfl)
          have e_8_161 : e_8 161 = Value.int .u32 ((x161 : Nat) : Int) := (hAg 161 rfl).trans rfl
          refine L_yr (z := (x158 + x161) % 4294967296) (m := 4294967296) rfl (Yu_add (k := .u32) rfl x158 x161 e_8_158 e_8_161) (Nat.mod_lt _ (by decide)) ?_; intro x162 hx162 rx162
          refine L_as rfl ?_
          refine L_nil ?_
          refine Th_n ?_
          refine W_seq ?_
          refine W_rg ?_
          refine L_mv rfl ?_
          refine L_mv rfl ?_
          refine L_mv rfl ?_
          refine L_yr (z := va &&& vb) (m := 4294967296) rfl (Yu_and (k := .u32) rfl va vb hW.1 hW.2.1 e_8_13 e_8_14) (Nat.lt_of_le_of_lt (Nat.and_le_left) hW.1) ?_; intro x166 hx166 rx166
          refine L_mv rfl ?_
          refine L_mv rfl ?_
          refine L_yr (z := va &&& vc) (m := 4294967296) rfl (Yu_and (k := .u32) rfl va vc hW.1 hW.2.2.1 e_8_13 e_8_15) (Nat.lt_of_le_of_lt (Nat.and_le_left) hW.1) ?_; intro x169 hx169 rx169
          refine L_yr (z := x166 ^^^ x169) (m := 4294967296) rfl (Yu_xor (k := .u32) rfl x166 x169 rx166 rx169 rfl rfl) (Nat.xor_lt_two_pow (n := 32) rx166 rx169) ?_; intro x170 hx170 rx170
          refine L_mv rfl ?_
          refine L_mv rfl ?_
          refine L_yr (z := vb &&& vc) (m := 4294967296) rfl (Yu_and (k := .u32) rfl vb vc hW.2.1 hW.2.2.1 e_8_14 e_8_15) (Nat.lt_of_le_of_lt (Nat.and_le_left) hW.2.1) ?_; intro x173 hx173 rx173
          refine L_yr (z := x170 ^^^ x173) (m := 4294967296) rfl (Yu_xor (k := .u32) rfl x170 x173 rx170 rx173 rfl rfl) (Nat.xor_lt_two_pow (n := 32) rx170 rx173) ?_; intro x174 hx174 rx174
          refine L_yr (z := (x140 + x174) % 4294967296) (m := 4294967296) rfl (Yu_add (k := .u32) rfl x140 x174 e_8_23 rfl) (Nat.mod_lt _ (by decide)) ?_; intro x175 hx175 rx175
          refine L_as rfl ?_
          refine L_nil ?_
          refine Th_n ?_
          refine W_rg ?_
          refine L_mv rfl ?_
          refine L_mv rfl ?_
          refine L_yr (z := (x162 + x175) % 4294967296) (m := 4294967296) rfl (Yu_add (k := .u32) rfl x162 x175 rfl rfl) (Nat.mod_lt _ (by decide)) ?_; intro x178 hx178 rx178
          refine L_mv rfl ?_
          refine L_mv rfl ?_
          refine L_mv rfl ?_
          refine L_mv rfl ?_
          refine L_mv rfl ?_
          refine L_yr (z := (vd + x162) % 4294967296) (m := 4294967296) rfl (Yu_add (k := .u32) rfl vd x162 e_8_16 rfl) (Nat.mod_lt _ (by decide)) ?_; intro x184 hx184 rx184
          refine L_mv rfl ?_
          refine L_mv rfl ?_
          refine L_mv rfl ?_
          refine L_as rfl ?_
          refine L_as rfl ?_
          refine L_as rfl ?_
          refine L_as rfl ?_
          refine L_as rfl ?_
          refine L_as rfl ?_
          refine L_as rfl ?_
          refine L_as rfl ?_
          refine L_nil ?_
          refine InB_n ?_
          refine Th_n ?_
          refine W_rg ?_
          refine L_y rfl (Y_add (k := .i64) (a := ((t : Nat) : Int)) (b := ((1 : Nat) : Int)) (z := ((t + 1 : Nat) : Int)) e_8_122 rfl (wi (by omega))) ?_
          refine L_mv rfl ?_
          refine L_nil ?_
          refine Th_n ⟨_, ?_, t + 1, x178, va, vb, vc, x184, ve, vf, vg, rfl, e_8_2, e_8_3, e_8_6, e_8_7, rfl, e_8_13, e_8_14, e_8_15, rfl, e_8_17, e_8_18, e_8_19, rfl, H_26, (by omega), (Sm.step256 (m1 := x132) (m0 := x140) hV (Sm.get_of hx157) (Sm.get_of hx161) (by rw [hx132, hx129, hr126, hr128, hr131]) (by rw [hx140, hx137, hr134, hr136, hr139]) (hx162.trans (by rw [hx158])) (hx175.trans (by rw [hx174, hx170, hx166, hx169, hx173])) hx178 hx184), ⟨rx178, hW.1, hW.2.1, hW.2.2.1, rx184, hW.2.2.2.2.1, hW.2.2.2.2.2.1, hW.2.2.2.2.2.2.1⟩⟩
          omega
      ·
        have hc_3' := of_decide_eq_false hc_3
        refine W_exit ?_
        refine Th_x ?_
        refine Th_x ?_
        refine InB_hit ?_
        refine Th_n ?_
        refine W_seq ?_
        refine W_rg ?_
        refine L_y rfl (Y_idxA 0 0 T_arr40 e_7_3 rfl rfl (by decide) (zz1 _)) ?_
        refine L_y rfl (Y_ld T_scal38 H_19 (i := 2) rfl rfl rfl) ?_
        refine L_mv rfl ?_
        refine L_yr (z := (S.a + va) % 4294967296) (m := 4294967296) rfl (Yu_add (k := .u32) rfl S.a va rfl e_7_13) (Nat.mod_lt _ (by decide)) ?_; intro x192 hx192 rx192
        refine L_y rfl (Y_idxA 1 1 T_arr40 e_7_3 rfl rfl (by decide) (zz1 _)) ?_
        refine L_y rfl (Y_ld T_scal38 H_19 (i := 2) rfl rfl rfl) ?_
        refine L_mv rfl ?_
        refine L_yr (z := (S.b + vb) % 4294967296) (m := 4294967296) rfl (Yu_add (k := .u32) rfl S.b vb rfl e_7_14) (Nat.mod_lt _ (by decide)) ?_; intro x196 hx196 rx196
        refine L_y rfl (Y_idxA 2 2 T_arr40 e_7_3 rfl rfl (by decide) (zz1 _)) ?_
        refine L_y rfl (Y_ld T_scal38 H_19 (i := 2) rfl rfl rfl) ?_
        refine L_mv rfl ?_
        refine L_yr (z := (S.c + vc) % 4294967296) (m := 4294967296) rfl (Yu_add (k := .u32) rfl S.c vc rfl e_7_15) (Nat.mod_lt _ (by decide)) ?_; intro x200 hx200 rx200
        refine L_y rfl (Y_idxA 3 3 T_arr40 e_7_3 rfl rfl (by decide) (zz1 _)) ?_
        refine L_y rfl (Y_ld T_scal38 H_19 (i := 2) rfl rfl rfl) ?_
        refine L_mv rfl ?_
        refine L_yr (z := (S.d + vd) % 4294967296) (m := 4294967296) rfl (Yu_add (k := .u32) rfl S.d vd rfl e_7_16) (Nat.mod_lt _ (by decide)) ?_; intro x204 hx204 rx204
        refine L_y rfl (Y_idxA 4 4 T_arr40 e_7_3 rfl rfl (by decide) (zz1 _)) ?_
        refine L_y rfl (Y_ld T_scal38 H_19 (i := 2) rfl rfl rfl) ?_
        refine L_mv rfl ?_
        refine L_yr (z := (S.e + ve) % 4294967296) (m := 4294967296) rfl (Yu_add (k := .u32) rfl S.e ve rfl e_7_17) (Nat.mod_lt _ (by decide)) ?_; intro x208 hx208 rx208
        refine L_y rfl (Y_idxA 5 5 T_arr40 e_7_3 rfl rfl (by decide) (zz1 _)) ?_
        refine L_y rfl (Y_ld T_scal38 H_19 (i := 2) rfl rfl rfl) ?_
        refine L_mv rfl ?_
        refine L_yr (z := (S.f + vf) % 4294967296) (m := 4294967296) rfl (Yu_add (k := .u32) rfl S.f vf rfl e_7_18) (Nat.mod_lt _ (by decide)) ?_; intro x212 hx212 rx212
        refine L_y rfl (Y_idxA 6 6 T_arr40 e_7_3 rfl rfl (by decide) (zz1 _)) ?_
        refine L_y rfl (Y_ld T_scal38 H_19 (i := 2) rfl rfl rfl) ?_
        refine L_mv rfl ?_
        refine L_yr (z := (S.g + vg) % 4294967296) (m := 4294967296) rfl (Yu_add (k := .u32) rfl S.g vg rfl e_7_19) (Nat.mod_lt _ (by decide)) ?_; intro x216 hx216 rx216
        refine L_y rfl (Y_idxA 7 7 T_arr40 e_7_3 rfl rfl (by decide) (zz1 _)) ?_
        refine L_y rfl (Y_ld T_scal38 H_19 (i := 2) rfl rfl rfl) ?_
        refine L_mv rfl ?_
        refine L_yr (z := (S.h + vh) % 4294967296) (m := 4294967296) rfl (Yu_add (k := .u32) rfl S.h vh rfl e_7_20) (Nat.mod_lt _ (by decide)) ?_; intro x220 hx220 rx220
        refine L_y rfl (Y_build (pv := [(0, Value.int .u32 ((x192 : Nat) : Int)), (1, Value.int .u32 ((x196 : Nat) : Int)), (2, Value.int .u32 ((x200 : Nat) : Int)), (3, Value.int .u32 ((x204 : Nat) : Int)), (4, Value.int .u32 ((x208 : Nat) : Int)), (5, Value.int .u32 ((x212 : Nat) : Int)), (6, Value.int .u32 ((x216 : Nat) : Int)), (7, Value.int .u32 ((x220 : Nat) : Int))]) (cs := ua .u32 [x192, x196, x200, x204, x208, x212, x216, x220]) (Bpc rfl (Bpc rfl (Bpc rfl (Bpc rfl (Bpc rfl (Bpc rfl (Bpc rfl (Bpc rfl Bp0)))))))) (by kernel_rfl)) ?_
        refine L_str (ds := ua .u32 [x192, x196, x200, x204, x208, x212, x216, x220]) T_row40 H_19 (i := 1) rfl e_7_6 rfl rfl rfl (ua_one _ _) (l' := [Ent.blk bk7 39 (ua .u32 (Sm.sched Sm.k256 l 64)), Ent.blk bk6 40 (ua .u32 [x192, x196, x200, x204, x208, x212, x216, x220]), Ent.blk bk3 40 (ua .u32 [S.a, S.b, S.c, S.d, S.e, S.f, S.g, S.h])]) rfl ?_; intro w_24 H_27
        refine L_nil ?_
        refine Th_n ?_
        refine W_ret ?_
        refine P_ret (vs := [Value.agg (ua .u32 [x192, x196, x200, x204, x208, x212, x216, x220])]) (v := Value.agg (ua .u32 [x192, x196, x200, x204, x208, x212, x216, x220])) rfl (.cell e_7_6 (loadVar_row T_row40 H_27 (i := 1) rfl rfl) (Res.nil)) rfl ?_
        refine ⟨?_, H_27.nil_⟩
        obtain rfl : t = 64 := by omega
        rw [Sm.comp, show Sm.k256.n = 64 from rfl, ← hV, hx192, hx196, hx200, hx204, hx208, hx212, hx216, hx220]
        rfl
end Go.Proofs.Ytdccphfaeockpaa
