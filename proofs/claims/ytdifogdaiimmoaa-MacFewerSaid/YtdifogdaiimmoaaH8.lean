/- Walks of layers 6 and 7 (sums, macs) and of their references. Printed by mac.py. -/
import Derived.Test.YtdifogdaiimmoaaH7
namespace Go.Proofs.Ytdifogdaiimmoaa
open Go.Ev
set_option maxRecDepth 100000
theorem full256_n (a : Option Addr) (n c : Nat) (l : List Nat) (hl : ∀ u ∈ l, u < 256) (hn : n ≤ 16777216) (w0 : World) (hb : Sl w0 .u8 a n c l) :
    Calls Try.prog 36 #[Value.agg (ua .i64 [32, 64, 2, 13, 22, 6, 11, 25, 7, 18, 3, 17, 19, 10]), Value.slice a n c] w0 (fun r_ w' => ∃ a_ M_ c_, r_ = .returned (.slice a_ M_ c_) ∧ Hp w0 [] w' [.own (.slice a_ M_ c_) 5 1 M_ (us .u8 (Sm.full Sm.k256 l))]) := by
  have hZb := Sm.fill256_lt n
  refine F_in Try.func36 rfl Try.ntmps36 rfl ?_
  intro e he
  have p_0 : e 0 = Value.agg (ua .i64 [32, 64, 2, 13, 22, 6, 11, 25, 7, 18, 3, 17, 19, 10]) := he 0 _ rfl
  have p_1 : e 1 = Value.slice a n c := he 1 _ rfl
  have H := Hp.start w0 []
  refine W_seq ?_
  refine W_rg ?_
  refine L_box rfl H p_0 (cs := ua .i64 [32, 64, 2, 13, 22, 6, 11, 25, 7, 18, 3, 17, 19, 10]) rfl ?_; intro bk2 w_2 H_2
  refine L_as rfl ?_
  refine L_nil ?_
  refine Th_n ?_
  refine W_seq ?_
  refine W_rg ?_
  refine L_y rfl (Y_fld T_fld54_0 rfl rfl rfl) ?_
  refine L_y rfl (Y_ld T_scal3 H_2 (i := 0) rfl rfl rfl) ?_
  refine L_y rfl (Y_mul (k := .i64) (a := ((32 : Nat) : Int)) (b := ((2 : Nat) : Int)) (z := ((64 : Nat) : Int)) rfl rfl (by decide)) ?_
  refine L_as rfl ?_
  refine L_nil ?_
  refine Th_n ?_
  refine W_seq ?_
  refine W_rg ?_
  refine L_bsl (cs := ua .u8 []) rfl H_2 (pv := []) T_sl22 T_zero5 rfl Bp0 (by kernel_rfl) ?_; intro bk13 w_3 H_3
  have H_4 : Hp w0 [] w_3 [Ent.own (Value.slice (some ⟨bk13, 0, none⟩) 0 0) 5 1 0 (us .u8 []), Ent.blk bk2 54 (ua .i64 [32, 64, 2, 13, 22, 6, 11, 25, 7, 18, 3, 17, 19, 10])] := H_3.say (i := 0) (x' := .own (Value.slice (some ⟨bk13, 0, none⟩) 0 0) 5 1 0 (us .u8 [])) rfl (own_of_blk (Nat.le_refl _) (by decide) rfl rfl) (fun _ h => h) rfl
  refine L_mv rfl ?_
  refine L_appL rfl H_4 (i := 0) rfl T_sl22 T_zero5 rfl T_szb5 rfl p_1 (hb.hp H_4) (by omega) ?_; intro v15 w_4 Hx
  have H_5 : Hp w0 [] w_4 [Ent.own v15 5 1 n (us .u8 l), Ent.blk bk2 54 (ua .i64 [32, 64, 2, 13, 22, 6, 11, 25, 7, 18, 3, 17, 19, 10])] := by have h := Hx; simp only [Nat.zero_add] at h; exact h
  refine L_as rfl ?_
  refine L_nil ?_
  refine Th_n ?_
  refine W_seq ?_
  refine W_rg ?_
  refine L_mv rfl ?_
  refine L_bsl (cs := ua .u8 [128]) rfl H_5 (pv := [(0, Value.int .u8 ((128 : Nat) : Int))]) T_sl22 T_zero5 rfl (Bpc rfl Bp0) (by kernel_rfl) ?_; intro bk17 w_5 H_6
  refine L_appS rfl H_6 (i := 1) rfl T_sl22 T_zero5 rfl T_szb5 rfl rfl (news_ua (H_6.get 0 rfl)) rfl (by omega) ?_; intro v18 w_6 Hx_2
  have H_7 : Hp w0 [] w_6 [Ent.blk bk17 5 (ua .u8 [128]), Ent.own v18 5 1 (n + 1) (us .u8 (l ++ [128])), Ent.blk bk2 54 (ua .i64 [32, 64, 2, 13, 22, 6, 11, 25, 7, 18, 3, 17, 19, 10])] := Hx_2
  refine L_as rfl ?_
  refine L_nil ?_
  refine Th_n ?_
  refine W_seq ?_
  refine W_block ?_
  have H_8 : Hp w0 [] w_6 [Ent.blk bk17 5 (ua .u8 [128]), Ent.own v18 5 1 (n + 1) (us .u8 ((l ++ [128]) ++ List.replicate 0 0)), Ent.blk bk2 54 (ua .i64 [32, 64, 2, 13, 22, 6, 11, 25, 7, 18, 3, 17, 19, 10])] := by have h := H_7; rw [Sm.rep_zero (l ++ [128])] at h; exact h
  refine W_loop (fun mu_ e w => ∃ jz : Nat, ∃ vA : Value, mu_ = Sm.fillN Sm.k256 n - jz ∧ e 1 = Value.slice a n c ∧ e 2 = Value.pointer (some ⟨bk2, 0, none⟩) ∧ e 5 = Value.int .i64 ((64 : Nat) : Int) ∧ e 6 = vA ∧ Hp w0 [] w [Ent.blk bk17 5 (ua .u8 [128]), Ent.own vA 5 1 (n + 1 + jz) (us .u8 ((l ++ [128]) ++ List.replicate jz 0)), Ent.blk bk2 54 (ua .i64 [32, 64, 2, 13, 22, 6, 11, 25, 7, 18, 3, 17, 19, 10])] ∧ jz ≤ Sm.fillN Sm.k256 n) _ ⟨0, v18, rfl, p_1, rfl, rfl, rfl, H_8, (Nat.zero_le _)⟩ ?_
  rintro mu_ e_2 w_7 ⟨jz, vA, rfl, e_2_1, e_2_2, e_2_5, e_2_6, H_9, hj⟩
  refine W_seq ?_
  refine W_seq ?_
  refine W_quiet H_9 9 [vA, Value.int .i64 ((n + 1 + jz : Nat) : Int), Value.int .i64 ((64 : Nat) : Int), Value.int .i64 (((n + 1 + jz) % 64 : Nat) : Int), Value.int .i64 ((64 : Nat) : Int), Value.pointer (some ⟨bk2, 0, none⟩), Value.int .i64 ((32 : Nat) : Int), Value.int .i64 ((8 : Nat) : Int), Value.int .i64 ((56 : Nat) : Int)] T_mixed (by kernel_rfl) ?_ ?_
  ·
    refine .plain rfl (Pl_y rfl (fun w hBw => congrArg (fun v => Result.ok (Next.value v) w) e_2_6)) ?_
    refine .plain rfl (Pl_y rfl (fun w hBw => Y_lenO T_sl22 hBw (i := 1) rfl rfl)) ?_
    refine .plain rfl (Pl_y rfl (fun w hBw => congrArg (fun v => Result.ok (Next.value v) w) e_2_5)) ?_
    refine .plain rfl (Pl_y rfl (fun w hBw => Y_rem (k := .i64) (a := ((n + 1 + jz : Nat) : Int)) (b := ((64 : Nat) : Int)) (z := (((n + 1 + jz) % 64 : Nat) : Int)) rfl rfl (by omega) rfl)) ?_
    refine .plain rfl (Pl_y rfl (fun w hBw => congrArg (fun v => Result.ok (Next.value v) w) e_2_5)) ?_
    refine .plain rfl (Pl_y rfl (fun w hBw => Y_fld T_fld54_0 rfl e_2_2 rfl)) ?_
    refine .plain rfl (Pl_y rfl (fun w hBw => Y_ld T_scal3 hBw (i := 2) rfl rfl rfl)) ?_
    refine .plain rfl (Pl_y rfl (fun w hBw => Y_quo (k := .i64) (a := ((32 : Nat) : Int)) (b := ((4 : Nat) : Int)) (z := ((8 : Nat) : Int)) rfl rfl (by decide) (by decide))) ?_
    refine .plain rfl (Pl_y rfl (fun w hBw => Y_sub (k := .i64) (a := ((64 : Nat) : Int)) (b := ((8 : Nat) : Int)) (z := ((56 : Nat) : Int)) rfl rfl (by decide))) ?_
    exact .nil _
  ·
    intro e_3 w_8 hAg H_10
    have e_3_1 : e_3 1 = Value.slice a n c := (hAg 1 rfl).trans e_2_1
    have e_3_2 : e_3 2 = Value.pointer (some ⟨bk2, 0, none⟩) := (hAg 2 rfl).trans e_2_2
    have e_3_5 : e_3 5 = Value.int .i64 ((64 : Nat) : Int) := (hAg 5 rfl).trans e_2_5
    have e_3_6 : e_3 6 = vA := (hAg 6 rfl).trans e_2_6
    obtain ⟨x22, hx22⟩ : ∃ z_ : Nat, z_ = (n + 1 + jz) % 64 := ⟨_, rfl⟩
    have e_3_22 : e_3 22 = Value.int .i64 ((x22 : Nat) : Int) := (hAg 22 rfl).trans (by rw [hx22]; exact rfl)
    have e_3_27 : e_3 27 = Value.int .i64 ((56 : Nat) : Int) := (hAg 27 rfl).trans rfl
    refine L_y rfl (Y_neq (k := .i64) (a := ((x22 : Nat) : Int)) (b := ((56 : Nat) : Int)) e_3_22 e_3_27) ?_
    refine L_nil ?_
    refine Th_n ?_
    refine W_cond (b := (((x22 : Nat) : Int) != ((56 : Nat) : Int))) rfl (fun hc => ?_) (fun hc => ?_)
    ·
      have hc' := ne_of_bne hc
      refine W_skip ?_
      refine Th_n ?_
      refine W_block ?_
      refine W_rg ?_
      refine L_mv rfl ?_
      refine L_bsl (cs := ua .u8 [0]) rfl H_10 (pv := [(0, Value.int .u8 ((0 : Nat) : Int))]) T_sl22 T_zero5 rfl (Bpc rfl Bp0) (by kernel_rfl) ?_; intro bk30 w_9 H_11
      refine L_appS rfl H_11 (i := 2) rfl T_sl22 T_zero5 rfl T_szb5 e_3_6 rfl (news_ua (H_11.get 0 rfl)) rfl (by omega) ?_; intro v31 w_10 Hx_3
      have H_12 : Hp w0 [] w_10 [Ent.blk bk30 5 (ua .u8 [0]), Ent.blk bk17 5 (ua .u8 [128]), Ent.own v31 5 1 ((n + 1 + jz) + 1) (us .u8 (((l ++ [128]) ++ List.replicate jz 0) ++ [0])), Ent.blk bk2 54 (ua .i64 [32, 64, 2, 13, 22, 6, 11, 25, 7, 18, 3, 17, 19, 10])] := Hx_3
      refine L_as rfl ?_
      refine L_nil ?_
      refine InB_n ?_
      have H_13 : Hp w0 [] w_10 [Ent.blk bk30 5 (ua .u8 [0]), Ent.blk bk17 5 (ua .u8 [128]), Ent.own v31 5 1 ((n + 1 + jz) + 1) (us .u8 ((l ++ [128]) ++ List.replicate (jz + 1) 0)), Ent.blk bk2 54 (ua .i64 [32, 64, 2, 13, 22, 6, 11, 25, 7, 18, 3, 17, 19, 10])] := by have h := H_12; rw [Sm.rep_snoc] at h; exact h
      refine Th_n ⟨_, ?_, jz + 1, v31, rfl, e_3_1, e_3_2, e_3_5, rfl, H_13.drop_, (Sm.fill256_next rfl hj (by rw [← hx22]; exact hc'))⟩
      have := Sm.fill256_next rfl hj (by rw [← hx22]; exact hc'); omega
    ·
      have hc' := eq_of_bne_false hc
      refine W_exit ?_
      refine Th_x ?_
      refine Th_x ?_
      have hZ := Sm.fill256_end rfl hj (by rw [← hx22]; exact hc')
      refine InB_hit ?_
      refine Th_n ?_
      refine W_seq ?_
      refine W_rg ?_
      refine L_mv rfl ?_
      refine L_y rfl (Y_lenS T_sl22 e_3_1) ?_
      refine L_y rfl (Y_convI (k := .i64) (n := ((n : Nat) : Int)) (z := ((n : Nat) : Int)) T_some3 T_kind46 rfl (wrapS rfl (by first | decide | (show _ < 18446744073709551616; omega)))) ?_
      refine L_yr (z := n * 8 % 18446744073709551616) (m := 18446744073709551616) rfl (Yu_mul (k := .u64) rfl n 8 rfl rfl) (Nat.mod_lt _ (by decide)) ?_; intro x35 hx35 rx35
      refine L_as rfl ?_
      refine L_nil ?_
      refine Th_n ?_
      refine W_seq ?_
      refine W_rg ?_
      refine L_as rfl ?_
      have H_14 : Hp w0 [] w_8 [Ent.own (Value.slice none 0 0) 5 1 0 (us .u8 []), Ent.blk bk17 5 (ua .u8 [128]), Ent.own vA 5 1 (n + 1 + jz) (us .u8 ((l ++ [128]) ++ List.replicate jz 0)), Ent.blk bk2 54 (ua .i64 [32, 64, 2, 13, 22, 6, 11, 25, 7, 18, 3, 17, 19, 10])] := H_10.nilOwn 5 1
      refine L_nil ?_
      refine Th_n ?_
      refine W_seq ?_
      refine W_seq ?_
      refine W_rg ?_
      refine L_as rfl ?_
      refine L_nil ?_
      refine Th_n ?_
      refine W_block ?_
      refine W_loop (fun mu_ e w => ∃ i : Nat, ∃ xn : Nat, ∃ vL : Value, mu_ = 8 - i ∧ e 2 = Value.pointer (some ⟨bk2, 0, none⟩) ∧ e 6 = vA ∧ e 7 = Value.int .u64 ((xn : Nat) : Int) ∧ e 8 = vL ∧ e 9 = Value.int .i64 ((i : Nat) : Int) ∧ Hp w0 [] w [Ent.own vL 5 1 i (us .u8 (Sm.bytes i (8 * n))), Ent.blk bk17 5 (ua .u8 [128]), Ent.own vA 5 1 (n + 1 + jz) (us .u8 ((l ++ [128]) ++ List.replicate jz 0)), Ent.blk bk2 54 (ua .i64 [32, 64, 2, 13, 22, 6, 11, 25, 7, 18, 3, 17, 19, 10])] ∧ i ≤ 8 ∧ xn = 8 * n / 2 ^ (8 * i) ∧ xn < 18446744073709551616) _ ⟨0, x35, Value.slice none 0 0, rfl, e_3_2, e_3_6, rfl, rfl, rfl, H_14, (Nat.zero_le _), (by rw [hx35, Nat.mul_zero, Nat.pow_zero, Nat.div_one]; omega), rx35⟩ ?_
      rintro mu_ e_4 w_11 ⟨i, xn, vL, rfl, e_4_2, e_4_6, e_4_7, e_4_8, e_4_9, H_15, hi, hxn, rxn⟩
      refine W_seq ?_
      refine W_seq ?_
      refine W_rg ?_
      refine L_mv rfl ?_
      refine L_y rfl (Y_fld T_fld54_0 rfl e_4_2 rfl) ?_
      refine L_y rfl (Y_ld T_scal3 H_15 (i := 3) rfl rfl rfl) ?_
      refine L_y rfl (Y_quo (k := .i64) (a := ((32 : Nat) : Int)) (b := ((4 : Nat) : Int)) (z := ((8 : Nat) : Int)) rfl rfl (by decide) (by decide)) ?_
      refine L_y rfl (Y_lss (k := .i64) (a := ((i : Nat) : Int)) (b := ((8 : Nat) : Int)) e_4_9 rfl) ?_
      refine L_nil ?_
      refine Th_n ?_
      refine W_cond (b := (decide (((i : Nat) : Int) < ((8 : Nat) : Int)))) rfl (fun hc_2 => ?_) (fun hc_2 => ?_)
      ·
        have hc_2' := of_decide_eq_true hc_2
        refine W_skip ?_
        refine Th_n ?_
        refine W_seq ?_
        refine W_block ?_
        refine W_seq ?_
        refine W_rg ?_
        refine L_mv rfl ?_
        refine L_yr (z := xn % 256) (m := 18446744073709551616) rfl (Yu_rem (k := .u64) xn 256 e_4_7 rfl (by decide)) (Nat.lt_of_le_of_lt (Nat.mod_le _ _) rxn) ?_; intro x44 hx44 rx44
        refine L_yr (z := x44 % 256) (m := 256) rfl (Y_convI (k := .u64) (n := ((x44 : Nat) : Int)) (z := ((x44 % 256 : Nat) : Int)) T_some46 T_kind5 rfl (wrapM rfl rfl)) (Nat.mod_lt _ (by decide)) ?_; intro x45 hx45 rx45
        refine L_bsl (cs := ua .u8 [x45]) rfl H_15 (pv := [(0, Value.int .u8 ((x45 : Nat) : Int))]) T_sl22 T_zero5 rfl (Bpc rfl Bp0) (by kernel_rfl) ?_; intro bk46 w_12 H_16
        have H_17 : Hp w0 [] w_12 [Ent.own (Value.slice (some ⟨bk46, 0, none⟩) 1 1) 5 1 1 (us .u8 [x45]), Ent.own vL 5 1 i (us .u8 (Sm.bytes i (8 * n))), Ent.blk bk17 5 (ua .u8 [128]), Ent.own vA 5 1 (n + 1 + jz) (us .u8 ((l ++ [128]) ++ List.replicate jz 0)), Ent.blk bk2 54 (ua .i64 [32, 64, 2, 13, 22, 6, 11, 25, 7, 18, 3, 17, 19, 10])] := H_16.say (i := 0) (x' := .own (Value.slice (some ⟨bk46, 0, none⟩) 1 1) 5 1 1 (us .u8 [x45])) rfl (own_of_blk (Nat.le_refl _) (by decide) rfl rfl) (fun _ h => h) rfl
        refine L_mv rfl ?_
        obtain ⟨a_, c_, rfl⟩ := Sl.opn H_17 (i := 1) rfl
        refine L_appL rfl H_17 (i := 0) rfl T_sl22 T_zero5 rfl T_szb5 rfl e_4_8 (Sl.own H_17 (i := 1) rfl) (by omega) ?_; intro v48 w_13 Hx_4
        have H_18 : Hp w0 [] w_13 [Ent.own v48 5 1 (1 + i) (us .u8 ([x45] ++ (Sm.bytes i (8 * n)))), Ent.own (Value.slice a_ i c_) 5 1 i (us .u8 (Sm.bytes i (8 * n))), Ent.blk bk17 5 (ua .u8 [128]), Ent.own vA 5 1 (n + 1 + jz) (us .u8 ((l ++ [128]) ++ List.replicate jz 0)), Ent.blk bk2 54 (ua .i64 [32, 64, 2, 13, 22, 6, 11, 25, 7, 18, 3, 17, 19, 10])] := Hx_4
        refine L_as rfl ?_
        refine L_nil ?_
        refine Th_n ?_
        refine W_rg ?_
        refine L_mv rfl ?_
        refine L_yr (z := xn / 256) (m := 18446744073709551616) rfl (Yu_quo (k := .u64) rfl xn 256 rxn e_4_7 rfl (by decide)) (Nat.lt_of_le_of_lt (Nat.div_le_self _ _) rxn) ?_; intro x50 hx50 rx50
        refine L_as rfl ?_
        refine L_nil ?_
        refine InB_n ?_
        refine Th_n ?_
        refine W_rg ?_
        refine L_mv rfl ?_
        refine L_y rfl (Y_add (k := .i64) (a := ((i : Nat) : Int)) (b := ((1 : Nat) : Int)) (z := ((i + 1 : Nat) : Int)) e_4_9 rfl (wi (by omega))) ?_
        refine L_as rfl ?_
        refine L_nil ?_
        have H_19 : Hp w0 [] w_13 [Ent.own v48 5 1 (1 + i) (us .u8 ([x45] ++ (Sm.bytes i (8 * n)))), Ent.blk bk17 5 (ua .u8 [128]), Ent.own vA 5 1 (n + 1 + jz) (us .u8 ((l ++ [128]) ++ List.replicate jz 0)), Ent.blk bk2 54 (ua .i64 [32, 64, 2, 13, 22, 6, 11, 25, 7, 18, 3, 17, 19, 10])] := H_18.erase 1
        have H_20 : Hp w0 [] w_13 [Ent.own v48 5 1 (i + 1) (us .u8 (Sm.bytes (i + 1) (8 * n))), Ent.blk bk17 5 (ua .u8 [128]), Ent.own vA 5 1 (n + 1 + jz) (us .u8 ((l ++ [128]) ++ List.replicate jz 0)), Ent.blk bk2 54 (ua .i64 [32, 64, 2, 13, 22, 6, 11, 25, 7, 18, 3, 17, 19, 10])] := by have h := H_19; rw [Nat.add_comm 1 i, Sm.bytes_cons hxn (by rw [hx45, hx44, Nat.mod_mod])] at h; exact h
        refine Th_n ⟨_, ?_, i + 1, x50, v48, rfl, e_4_2, e_4_6, rfl, rfl, rfl, H_20, (by omega), (Sm.num_div hxn hx50), rx50⟩
        omega
      ·
        have hc_2' := of_decide_eq_false hc_2
        refine W_exit ?_
        refine Th_x ?_
        refine Th_x ?_
        refine InB_hit ?_
        refine Th_n ?_
        refine W_seq ?_
        refine W_rg ?_
        refine L_mv rfl ?_
        refine L_mv rfl ?_
        obtain ⟨a__2, c__2, rfl⟩ := Sl.opn H_15 (i := 0) rfl
        refine L_appL rfl H_15 (i := 2) rfl T_sl22 T_zero5 rfl T_szb5 e_4_6 e_4_8 (Sl.own H_15 (i := 0) rfl) (by omega) ?_; intro v53 w_14 Hx_5
        have H_21 : Hp w0 [] w_14 [Ent.own (Value.slice a__2 i c__2) 5 1 i (us .u8 (Sm.bytes i (8 * n))), Ent.blk bk17 5 (ua .u8 [128]), Ent.own v53 5 1 ((n + 1 + jz) + i) (us .u8 (((l ++ [128]) ++ List.replicate jz 0) ++ (Sm.bytes i (8 * n)))), Ent.blk bk2 54 (ua .i64 [32, 64, 2, 13, 22, 6, 11, 25, 7, 18, 3, 17, 19, 10])] := Hx_5
        refine L_as rfl ?_
        refine L_nil ?_
        refine Th_n ?_
        refine W_ret ?_
        refine P_ret (vs := [v53]) (v := v53) rfl (.tmp rfl (Res.nil)) rfl ?_
        obtain ⟨a_2, c_2, rfl⟩ := Sl.opn H_21 (i := 2) rfl
        have hO := H_21.only (i := 2) rfl
        obtain rfl : i = 8 := by omega
        subst hZ
        have hF := Sm.full_end (q := Sm.k256) hb.len
        rw [show 2 * Sm.size Sm.k256 = 8 from rfl] at hF
        rw [hF] at hO
        exact ⟨a_2, _, c_2, rfl, hO⟩

theorem full512_n (a : Option Addr) (n c : Nat) (l : List Nat) (hl : ∀ u ∈ l, u < 256) (hn : n ≤ 16777216) (w0 : World) (hb : Sl w0 .u8 a n c l) :
    Calls Try.prog 36 #[Value.agg (ua .i64 [64, 80, 28, 34, 39, 14, 18, 41, 1, 8, 7, 19, 61, 6]), Value.slice a n c] w0 (fun r_ w' => ∃ a_ M_ c_, r_ = .returned (.slice a_ M_ c_) ∧ Hp w0 [] w' [.own (.slice a_ M_ c_) 5 1 M_ (us .u8 (Sm.full Sm.k512 l))]) := by
  have hZb := Sm.fill512_lt n
  refine F_in Try.func36 rfl Try.ntmps36 rfl ?_
  intro e he
  have p_0 : e 0 = Value.agg (ua .i64 [64, 80, 28, 34, 39, 14, 18, 41, 1, 8, 7, 19, 61, 6]) := he 0 _ rfl
  have p_1 : e 1 = Value.slice a n c := he 1 _ rfl
  have H := Hp.start w0 []
  refine W_seq ?_
  refine W_rg ?_
  refine L_box rfl H p_0 (cs := ua .i64 [64, 80, 28, 34, 39, 14, 18, 41, 1, 8, 7, 19, 61, 6]) rfl ?_; intro bk2 w_2 H_2
  refine L_as rfl ?_
  refine L_nil ?_
  refine Th_n ?_
  refine W_seq ?_
  refine W_rg ?_
  refine L_y rfl (Y_fld T_fld54_0 rfl rfl rfl) ?_
  refine L_y rfl (Y_ld T_scal3 H_2 (i := 0) rfl rfl rfl) ?_
  refine L_y rfl (Y_mul (k := .i64) (a := ((64 : Nat) : Int)) (b := ((2 : Nat) : Int)) (z := ((128 : Nat) : Int)) rfl rfl (by decide)) ?_
  refine L_as rfl ?_
  refine L_nil ?_
  refine Th_n ?_
  refine W_seq ?_
  refine W_rg ?_
  refine L_bsl (cs := ua .u8 []) rfl H_2 (pv := []) T_sl22 T_zero5 rfl Bp0 (by kernel_rfl) ?_; intro bk13 w_3 H_3
  have H_4 : Hp w0 [] w_3 [Ent.own (Value.slice (some ⟨bk13, 0, none⟩) 0 0) 5 1 0 (us .u8 []), Ent.blk bk2 54 (ua .i64 [64, 80, 28, 34, 39, 14, 18, 41, 1, 8, 7, 19, 61, 6])] := H_3.say (i := 0) (x' := .own (Value.slice (some ⟨bk13, 0, none⟩) 0 0) 5 1 0 (us .u8 [])) rfl (own_of_blk (Nat.le_refl _) (by decide) rfl rfl) (fun _ h => h) rfl
  refine L_mv rfl ?_
  refine L_appL rfl H_4 (i := 0) rfl T_sl22 T_zero5 rfl T_szb5 rfl p_1 (hb.hp H_4) (by omega) ?_; intro v15 w_4 Hx
  have H_5 : Hp w0 [] w_4 [Ent.own v15 5 1 n (us .u8 l), Ent.blk bk2 54 (ua .i64 [64, 80, 28, 34, 39, 14, 18, 41, 1, 8, 7, 19, 61, 6])] := by have h := Hx; simp only [Nat.zero_add] at h; exact h
  refine L_as rfl ?_
  refine L_nil ?_
  refine Th_n ?_
  refine W_seq ?_
  refine W_rg ?_
  refine L_mv rfl ?_
  refine L_bsl (cs := ua .u8 [128]) rfl H_5 (pv := [(0, Value.int .u8 ((128 : Nat) : Int))]) T_sl22 T_zero5 rfl (Bpc rfl Bp0) (by kernel_rfl) ?_; intro bk17 w_5 H_6
  refine L_appS rfl H_6 (i := 1) rfl T_sl22 T_zero5 rfl T_szb5 rfl rfl (news_ua (H_6.get 0 rfl)) rfl (by omega) ?_; intro v18 w_6 Hx_2
  have H_7 : Hp w0 [] w_6 [Ent.blk bk17 5 (ua .u8 [128]), Ent.own v18 5 1 (n + 1) (us .u8 (l ++ [128])), Ent.blk bk2 54 (ua .i64 [64, 80, 28, 34, 39, 14, 18, 41, 1, 8, 7, 19, 61, 6])] := Hx_2
  refine L_as rfl ?_
  refine L_nil ?_
  refine Th_n ?_
  refine W_seq ?_
  refine W_block ?_
  have H_8 : Hp w0 [] w_6 [Ent.blk bk17 5 (ua .u8 [128]), Ent.own v18 5 1 (n + 1) (us .u8 ((l ++ [128]) ++ List.replicate 0 0)), Ent.blk bk2 54 (ua .i64 [64, 80, 28, 34, 39, 14, 18, 41, 1, 8, 7, 19, 61, 6])] := by have h := H_7; rw [Sm.rep_zero (l ++ [128])] at h; exact h
  refine W_loop (fun mu_ e w => ∃ jz : Nat, ∃ vA : Value, mu_ = Sm.fillN Sm.k512 n - jz ∧ e 1 = Value.slice a n c ∧ e 2 = Value.pointer (some ⟨bk2, 0, none⟩) ∧ e 5 = Value.int .i64 ((128 : Nat) : Int) ∧ e 6 = vA ∧ Hp w0 [] w [Ent.blk bk17 5 (ua .u8 [128]), Ent.own vA 5 1 (n + 1 + jz) (us .u8 ((l ++ [128]) ++ List.replicate jz 0)), Ent.blk bk2 54 (ua .i64 [64, 80, 28, 34, 39, 14, 18, 41, 1, 8, 7, 19, 61, 6])] ∧ jz ≤ Sm.fillN Sm.k512 n) _ ⟨0, v18, rfl, p_1, rfl, rfl, rfl, H_8, (Nat.zero_le _)⟩ ?_
  rintro mu_ e_2 w_7 ⟨jz, vA, rfl, e_2_1, e_2_2, e_2_5, e_2_6, H_9, hj⟩
  refine W_seq ?_
  refine W_seq ?_
  refine W_quiet H_9 9 [vA, Value.int .i64 ((n + 1 + jz : Nat) : Int), Value.int .i64 ((128 : Nat) : Int), Value.int .i64 (((n + 1 + jz) % 128 : Nat) : Int), Value.int .i64 ((128 : Nat) : Int), Value.pointer (some ⟨bk2, 0, none⟩), Value.int .i64 ((64 : Nat) : Int), Value.int .i64 ((16 : Nat) : Int), Value.int .i64 ((112 : Nat) : Int)] T_mixed (by kernel_rfl) ?_ ?_
  ·
    refine .plain rfl (Pl_y rfl (fun w hBw => congrArg (fun v => Result.ok (Next.value v) w) e_2_6)) ?_
    refine .plain rfl (Pl_y rfl (fun w hBw => Y_lenO T_sl22 hBw (i := 1) rfl rfl)) ?_
    refine .plain rfl (Pl_y rfl (fun w hBw => congrArg (fun v => Result.ok (Next.value v) w) e_2_5)) ?_
    refine .plain rfl (Pl_y rfl (fun w hBw => Y_rem (k := .i64) (a := ((n + 1 + jz : Nat) : Int)) (b := ((128 : Nat) : Int)) (z := (((n + 1 + jz) % 128 : Nat) : Int)) rfl rfl (by omega) rfl)) ?_
    refine .plain rfl (Pl_y rfl (fun w hBw => congrArg (fun v => Result.ok (Next.value v) w) e_2_5)) ?_
    refine .plain rfl (Pl_y rfl (fun w hBw => Y_fld T_fld54_0 rfl e_2_2 rfl)) ?_
    refine .plain rfl (Pl_y rfl (fun w hBw => Y_ld T_scal3 hBw (i := 2) rfl rfl rfl)) ?_
    refine .plain rfl (Pl_y rfl (fun w hBw => Y_quo (k := .i64) (a := ((64 : Nat) : Int)) (b := ((4 : Nat) : Int)) (z := ((16 : Nat) : Int)) rfl rfl (by decide) (by decide))) ?_
    refine .plain rfl (Pl_y rfl (fun w hBw => Y_sub (k := .i64) (a := ((128 : Nat) : Int)) (b := ((16 : Nat) : Int)) (z := ((112 : Nat) : Int)) rfl rfl (by decide))) ?_
    exact .nil _
  ·
    intro e_3 w_8 hAg H_10
    have e_3_1 : e_3 1 = Value.slice a n c := (hAg 1 rfl).trans e_2_1
    have e_3_2 : e_3 2 = Value.pointer (some ⟨bk2, 0, none⟩) := (hAg 2 rfl).trans e_2_2
    have e_3_5 : e_3 5 = Value.int .i64 ((128 : Nat) : Int) := (hAg 5 rfl).trans e_2_5
    have e_3_6 : e_3 6 = vA := (hAg 6 rfl).trans e_2_6
    obtain ⟨x22, hx22⟩ : ∃ z_ : Nat, z_ = (n + 1 + jz) % 128 := ⟨_, rfl⟩
    have e_3_22 : e_3 22 = Value.int .i64 ((x22 : Nat) : Int) := (hAg 22 rfl).trans (by rw [hx22]; exact rfl)
    have e_3_27 : e_3 27 = Value.int .i64 ((112 : Nat) : Int) := (hAg 27 rfl).trans rfl
    refine L_y rfl (Y_neq (k := .i64) (a := ((x22 : Nat) : Int)) (b := ((112 : Nat) : Int)) e_3_22 e_3_27) ?_
    refine L_nil ?_
    refine Th_n ?_
    refine W_cond (b := (((x22 : Nat) : Int) != ((112 : Nat) : Int))) rfl (fun hc => ?_) (fun hc => ?_)
    ·
      have hc' := ne_of_bne hc
      refine W_skip ?_
      refine Th_n ?_
      refine W_block ?_
      refine W_rg ?_
      refine L_mv rfl ?_
      refine L_bsl (cs := ua .u8 [0]) rfl H_10 (pv := [(0, Value.int .u8 ((0 : Nat) : Int))]) T_sl22 T_zero5 rfl (Bpc rfl Bp0) (by kernel_rfl) ?_; intro bk30 w_9 H_11
      refine L_appS rfl H_11 (i := 2) rfl T_sl22 T_zero5 rfl T_szb5 e_3_6 rfl (news_ua (H_11.get 0 rfl)) rfl (by omega) ?_; intro v31 w_10 Hx_3
      have H_12 : Hp w0 [] w_10 [Ent.blk bk30 5 (ua .u8 [0]), Ent.blk bk17 5 (ua .u8 [128]), Ent.own v31 5 1 ((n + 1 + jz) + 1) (us .u8 (((l ++ [128]) ++ List.replicate jz 0) ++ [0])), Ent.blk bk2 54 (ua .i64 [64, 80, 28, 34, 39, 14, 18, 41, 1, 8, 7, 19, 61, 6])] := Hx_3
      refine L_as rfl ?_
      refine L_nil ?_
      refine InB_n ?_
      have H_13 : Hp w0 [] w_10 [Ent.blk bk30 5 (ua .u8 [0]), Ent.blk bk17 5 (ua .u8 [128]), Ent.own v31 5 1 ((n + 1 + jz) + 1) (us .u8 ((l ++ [128]) ++ List.replicate (jz + 1) 0)), Ent.blk bk2 54 (ua .i64 [64, 80, 28, 34, 39, 14, 18, 41, 1, 8, 7, 19, 61, 6])] := by have h := H_12; rw [Sm.rep_snoc] at h; exact h
      refine Th_n ⟨_, ?_, jz + 1, v31, rfl, e_3_1, e_3_2, e_3_5, rfl, H_13.drop_, (Sm.fill512_next rfl hj (by rw [← hx22]; exact hc'))⟩
      have := Sm.fill512_next rfl hj (by rw [← hx22]; exact hc'); omega
    ·
      have hc' := eq_of_bne_false hc
      refine W_exit ?_
      refine Th_x ?_
      refine Th_x ?_
      have hZ := Sm.fill512_end rfl hj (by rw [← hx22]; exact hc')
      refine InB_hit ?_
      refine Th_n ?_
      refine W_seq ?_
      refine W_rg ?_
      refine L_mv rfl ?_
      refine L_y rfl (Y_lenS T_sl22 e_3_1) ?_
      refine L_y rfl (Y_convI (k := .i64) (n := ((n : Nat) : Int)) (z := ((n : Nat) : Int)) T_some3 T_kind46 rfl (wrapS rfl (by first | decide | (show _ < 18446744073709551616; omega)))) ?_
      refine L_yr (z := n * 8 % 18446744073709551616) (m := 18446744073709551616) rfl (Yu_mul (k := .u64) rfl n 8 rfl rfl) (Nat.mod_lt _ (by decide)) ?_; intro x35 hx35 rx35
      refine L_as rfl ?_
      refine L_nil ?_
      refine Th_n ?_
      refine W_seq ?_
      refine W_rg ?_
      refine L_as rfl ?_
      have H_14 : Hp w0 [] w_8 [Ent.own (Value.slice none 0 0) 5 1 0 (us .u8 []), Ent.blk bk17 5 (ua .u8 [128]), Ent.own vA 5 1 (n + 1 + jz) (us .u8 ((l ++ [128]) ++ List.replicate jz 0)), Ent.blk bk2 54 (ua .i64 [64, 80, 28, 34, 39, 14, 18, 41, 1, 8, 7, 19, 61, 6])] := H_10.nilOwn 5 1
      refine L_nil ?_
      refine Th_n ?_
      refine W_seq ?_
      refine W_seq ?_
      refine W_rg ?_
      refine L_as rfl ?_
      refine L_nil ?_
      refine Th_n ?_
      refine W_block ?_
      refine W_loop (fun mu_ e w => ∃ i : Nat, ∃ xn : Nat, ∃ vL : Value, mu_ = 16 - i ∧ e 2 = Value.pointer (some ⟨bk2, 0, none⟩) ∧ e 6 = vA ∧ e 7 = Value.int .u64 ((xn : Nat) : Int) ∧ e 8 = vL ∧ e 9 = Value.int .i64 ((i : Nat) : Int) ∧ Hp w0 [] w [Ent.own vL 5 1 i (us .u8 (Sm.bytes i (8 * n))), Ent.blk bk17 5 (ua .u8 [128]), Ent.own vA 5 1 (n + 1 + jz) (us .u8 ((l ++ [128]) ++ List.replicate jz 0)), Ent.blk bk2 54 (ua .i64 [64, 80, 28, 34, 39, 14, 18, 41, 1, 8, 7, 19, 61, 6])] ∧ i ≤ 16 ∧ xn = 8 * n / 2 ^ (8 * i) ∧ xn < 18446744073709551616) _ ⟨0, x35, Value.slice none 0 0, rfl, e_3_2, e_3_6, rfl, rfl, rfl, H_14, (Nat.zero_le _), (by rw [hx35, Nat.mul_zero, Nat.pow_zero, Nat.div_one]; omega), rx35⟩ ?_
      rintro mu_ e_4 w_11 ⟨i, xn, vL, rfl, e_4_2, e_4_6, e_4_7, e_4_8, e_4_9, H_15, hi, hxn, rxn⟩
      refine W_seq ?_
      refine W_seq ?_
      refine W_rg ?_
      refine L_mv rfl ?_
      refine L_y rfl (Y_fld T_fld54_0 rfl e_4_2 rfl) ?_
      refine L_y rfl (Y_ld T_scal3 H_15 (i := 3) rfl rfl rfl) ?_
      refine L_y rfl (Y_quo (k := .i64) (a := ((64 : Nat) : Int)) (b := ((4 : Nat) : Int)) (z := ((16 : Nat) : Int)) rfl rfl (by decide) (by decide)) ?_
      refine L_y rfl (Y_lss (k := .i64) (a := ((i : Nat) : Int)) (b := ((16 : Nat) : Int)) e_4_9 rfl) ?_
      refine L_nil ?_
      refine Th_n ?_
      refine W_cond (b := (decide (((i : Nat) : Int) < ((16 : Nat) : Int)))) rfl (fun hc_2 => ?_) (fun hc_2 => ?_)
      ·
        have hc_2' := of_decide_eq_true hc_2
        refine W_skip ?_
        refine Th_n ?_
        refine W_seq ?_
        refine W_block ?_
        refine W_seq ?_
        refine W_rg ?_
        refine L_mv rfl ?_
        refine L_yr (z := xn % 256) (m := 18446744073709551616) rfl (Yu_rem (k := .u64) xn 256 e_4_7 rfl (by decide)) (Nat.lt_of_le_of_lt (Nat.mod_le _ _) rxn) ?_; intro x44 hx44 rx44
        refine L_yr (z := x44 % 256) (m := 256) rfl (Y_convI (k := .u64) (n := ((x44 : Nat) : Int)) (z := ((x44 % 256 : Nat) : Int)) T_some46 T_kind5 rfl (wrapM rfl rfl)) (Nat.mod_lt _ (by decide)) ?_; intro x45 hx45 rx45
        refine L_bsl (cs := ua .u8 [x45]) rfl H_15 (pv := [(0, Value.int .u8 ((x45 : Nat) : Int))]) T_sl22 T_zero5 rfl (Bpc rfl Bp0) (by kernel_rfl) ?_; intro bk46 w_12 H_16
        have H_17 : Hp w0 [] w_12 [Ent.own (Value.slice (some ⟨bk46, 0, none⟩) 1 1) 5 1 1 (us .u8 [x45]), Ent.own vL 5 1 i (us .u8 (Sm.bytes i (8 * n))), Ent.blk bk17 5 (ua .u8 [128]), Ent.own vA 5 1 (n + 1 + jz) (us .u8 ((l ++ [128]) ++ List.replicate jz 0)), Ent.blk bk2 54 (ua .i64 [64, 80, 28, 34, 39, 14, 18, 41, 1, 8, 7, 19, 61, 6])] := H_16.say (i := 0) (x' := .own (Value.slice (some ⟨bk46, 0, none⟩) 1 1) 5 1 1 (us .u8 [x45])) rfl (own_of_blk (Nat.le_refl _) (by decide) rfl rfl) (fun _ h => h) rfl
        refine L_mv rfl ?_
        obtain ⟨a_, c_, rfl⟩ := Sl.opn H_17 (i := 1) rfl
        refine L_appL rfl H_17 (i := 0) rfl T_sl22 T_zero5 rfl T_szb5 rfl e_4_8 (Sl.own H_17 (i := 1) rfl) (by omega) ?_; intro v48 w_13 Hx_4
        have H_18 : Hp w0 [] w_13 [Ent.own v48 5 1 (1 + i) (us .u8 ([x45] ++ (Sm.bytes i (8 * n)))), Ent.own (Value.slice a_ i c_) 5 1 i (us .u8 (Sm.bytes i (8 * n))), Ent.blk bk17 5 (ua .u8 [128]), Ent.own vA 5 1 (n + 1 + jz) (us .u8 ((l ++ [128]) ++ List.replicate jz 0)), Ent.blk bk2 54 (ua .i64 [64, 80, 28, 34, 39, 14, 18, 41, 1, 8, 7, 19, 61, 6])] := Hx_4
        refine L_as rfl ?_
        refine L_nil ?_
        refine Th_n ?_
        refine W_rg ?_
        refine L_mv rfl ?_
        refine L_yr (z := xn / 256) (m := 18446744073709551616) rfl (Yu_quo (k := .u64) rfl xn 256 rxn e_4_7 rfl (by decide)) (Nat.lt_of_le_of_lt (Nat.div_le_self _ _) rxn) ?_; intro x50 hx50 rx50
        refine L_as rfl ?_
        refine L_nil ?_
        refine InB_n ?_
        refine Th_n ?_
        refine W_rg ?_
        refine L_mv rfl ?_
        refine L_y rfl (Y_add (k := .i64) (a := ((i : Nat) : Int)) (b := ((1 : Nat) : Int)) (z := ((i + 1 : Nat) : Int)) e_4_9 rfl (wi (by omega))) ?_
        refine L_as rfl ?_
        refine L_nil ?_
        have H_19 : Hp w0 [] w_13 [Ent.own v48 5 1 (1 + i) (us .u8 ([x45] ++ (Sm.bytes i (8 * n)))), Ent.blk bk17 5 (ua .u8 [128]), Ent.own vA 5 1 (n + 1 + jz) (us .u8 ((l ++ [128]) ++ List.replicate jz 0)), Ent.blk bk2 54 (ua .i64 [64, 80, 28, 34, 39, 14, 18, 41, 1, 8, 7, 19, 61, 6])] := H_18.erase 1
        have H_20 : Hp w0 [] w_13 [Ent.own v48 5 1 (i + 1) (us .u8 (Sm.bytes (i + 1) (8 * n))), Ent.blk bk17 5 (ua .u8 [128]), Ent.own vA 5 1 (n + 1 + jz) (us .u8 ((l ++ [128]) ++ List.replicate jz 0)), Ent.blk bk2 54 (ua .i64 [64, 80, 28, 34, 39, 14, 18, 41, 1, 8, 7, 19, 61, 6])] := by have h := H_19; rw [Nat.add_comm 1 i, Sm.bytes_cons hxn (by rw [hx45, hx44, Nat.mod_mod])] at h; exact h
        refine Th_n ⟨_, ?_, i + 1, x50, v48, rfl, e_4_2, e_4_6, rfl, rfl, rfl, H_20, (by omega), (Sm.num_div hxn hx50), rx50⟩
        omega
      ·
        have hc_2' := of_decide_eq_false hc_2
        refine W_exit ?_
        refine Th_x ?_
        refine Th_x ?_
        refine InB_hit ?_
        refine Th_n ?_
        refine W_seq ?_
        refine W_rg ?_
        refine L_mv rfl ?_
        refine L_mv rfl ?_
        obtain ⟨a__2, c__2, rfl⟩ := Sl.opn H_15 (i := 0) rfl
        refine L_appL rfl H_15 (i := 2) rfl T_sl22 T_zero5 rfl T_szb5 e_4_6 e_4_8 (Sl.own H_15 (i := 0) rfl) (by omega) ?_; intro v53 w_14 Hx_5
        have H_21 : Hp w0 [] w_14 [Ent.own (Value.slice a__2 i c__2) 5 1 i (us .u8 (Sm.bytes i (8 * n))), Ent.blk bk17 5 (ua .u8 [128]), Ent.own v53 5 1 ((n + 1 + jz) + i) (us .u8 (((l ++ [128]) ++ List.replicate jz 0) ++ (Sm.bytes i (8 * n)))), Ent.blk bk2 54 (ua .i64 [64, 80, 28, 34, 39, 14, 18, 41, 1, 8, 7, 19, 61, 6])] := Hx_5
        refine L_as rfl ?_
        refine L_nil ?_
        refine Th_n ?_
        refine W_ret ?_
        refine P_ret (vs := [v53]) (v := v53) rfl (.tmp rfl (Res.nil)) rfl ?_
        obtain ⟨a_2, c_2, rfl⟩ := Sl.opn H_21 (i := 2) rfl
        have hO := H_21.only (i := 2) rfl
        obtain rfl : i = 16 := by omega
        subst hZ
        have hF := Sm.full_end (q := Sm.k512) hb.len
        rw [show 2 * Sm.size Sm.k512 = 16 from rfl] at hF
        rw [hF] at hO
        exact ⟨a_2, _, c_2, rfl, hO⟩
end Go.Proofs.Ytdifogdaiimmoaa
