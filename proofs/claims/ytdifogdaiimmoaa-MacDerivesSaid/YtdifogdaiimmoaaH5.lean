/- Walks of layers 6 and 7 (sums, macs) and of their references. Printed by mac.py. -/
import Derived.Test.YtdifogdaiimmoaaH4
namespace Go.Proofs.Ytdifogdaiimmoaa
open Go.Ev
set_option maxRecDepth 100000
theorem T_zero5 : zeroOf Try.prog 5 = some (ua .u8 [0]) := by kernel_rfl
theorem T_szb5 : szOf Try.prog 5 = some 1 := by kernel_rfl
theorem T_some46 : (Try.prog.underlying 46).isSome = true := by kernel_rfl
theorem T_kind5 : kindOf Try.prog 5 = some .u8 := by kernel_rfl
theorem rest256_n (a : Option Addr) (m c n : Nat) (l : List Nat) (hl : ∀ u ∈ l, u < 256) (hm : m % 64 = n % 64) (hmm : m ≤ n) (hn : n ≤ 16777216) (w0 : World) (hb : Sl w0 .u8 a m c l) :
    Calls Try.prog 28 #[Value.slice a m c, Value.int .i64 ((n : Nat) : Int), Value.int .i64 ((64 : Nat) : Int), Value.int .i64 ((8 : Nat) : Int)] w0 (fun r_ w' => ∃ a_ M_ c_, r_ = .returned (.slice a_ M_ c_) ∧ Hp w0 [] w' [.own (.slice a_ M_ c_) 5 1 M_ (us .u8 (l ++ Sm.pad Sm.k256 n))]) := by
  have hZb := Sm.fill256_lt n
  refine F_in Try.func28 rfl Try.ntmps28 rfl ?_
  intro e he
  have p_0 : e 0 = Value.slice a m c := he 0 _ rfl
  have p_1 : e 1 = Value.int .i64 ((n : Nat) : Int) := he 1 _ rfl
  have p_2 : e 2 = Value.int .i64 ((64 : Nat) : Int) := he 2 _ rfl
  have p_3 : e 3 = Value.int .i64 ((8 : Nat) : Int) := he 3 _ rfl
  have H := Hp.start w0 []
  refine W_seq ?_
  refine W_rg ?_
  refine L_as rfl ?_
  refine L_nil ?_
  refine Th_n ?_
  refine W_seq ?_
  refine W_rg ?_
  refine L_mv rfl ?_
  refine L_y rfl (Y_mul (k := .i64) (a := ((2 : Nat) : Int)) (b := ((64 : Nat) : Int)) (z := ((128 : Nat) : Int)) rfl p_2 (by decide)) ?_
  refine L_mk rfl H T_sl22 T_zero5 T_szb5 rfl rfl (Nat.zero_le _) (by decide) (by decide) ?_; intro bk13 w_2 H_2
  have H_3 : Hp w0 [] w_2 [Ent.own (Value.slice (some ⟨bk13, 0, none⟩) 0 128) 5 1 0 (us .u8 [])] := by have h := H_2; rw [show ua .u8 [0] = #[.int .u8 0] from rfl, made_ua] at h; exact h.say (i := 0) (x' := .own (Value.slice (some ⟨bk13, 0, none⟩) 0 128) 5 1 0 (us .u8 [])) rfl (own_of_blk (Nat.zero_le _) (by decide) (by rw [ua_size]; rfl) (by rw [Nat.zero_mul, List.take_zero]; rfl)) (fun _ h => h) rfl
  refine L_mv rfl ?_
  refine L_appL rfl H_3 (i := 0) rfl T_sl22 T_zero5 rfl T_szb5 rfl p_0 (hb.hp H_3) (by omega) ?_; intro v15 w_3 Hx
  have H_4 : Hp w0 [] w_3 [Ent.own v15 5 1 m (us .u8 l)] := by have h := Hx; simp only [Nat.zero_add] at h; exact h
  refine L_as rfl ?_
  refine L_nil ?_
  refine Th_n ?_
  refine W_seq ?_
  refine W_rg ?_
  refine L_mv rfl ?_
  refine L_bsl (cs := ua .u8 [128]) rfl H_4 (pv := [(0, Value.int .u8 ((128 : Nat) : Int))]) T_sl22 T_zero5 rfl (Bpc rfl Bp0) (by kernel_rfl) ?_; intro bk17 w_4 H_5
  refine L_appS rfl H_5 (i := 1) rfl T_sl22 T_zero5 rfl T_szb5 rfl rfl (news_ua (H_5.get 0 rfl)) rfl (by omega) ?_; intro v18 w_5 Hx_2
  have H_6 : Hp w0 [] w_5 [Ent.blk bk17 5 (ua .u8 [128]), Ent.own v18 5 1 (m + 1) (us .u8 (l ++ [128]))] := Hx_2
  refine L_as rfl ?_
  refine L_nil ?_
  refine Th_n ?_
  refine W_seq ?_
  refine W_block ?_
  have H_7 : Hp w0 [] w_5 [Ent.blk bk17 5 (ua .u8 [128]), Ent.own v18 5 1 (m + 1) (us .u8 ((l ++ [128]) ++ List.replicate 0 0))] := by have h := H_6; rw [Sm.rep_zero (l ++ [128])] at h; exact h
  refine W_loop (fun mu_ e w => ∃ jz : Nat, ∃ vB : Value, mu_ = Sm.fillN Sm.k256 n - jz ∧ e 1 = Value.int .i64 ((n : Nat) : Int) ∧ e 2 = Value.int .i64 ((64 : Nat) : Int) ∧ e 3 = Value.int .i64 ((8 : Nat) : Int) ∧ e 9 = vB ∧ Hp w0 [] w [Ent.blk bk17 5 (ua .u8 [128]), Ent.own vB 5 1 (m + 1 + jz) (us .u8 ((l ++ [128]) ++ List.replicate jz 0))] ∧ jz ≤ Sm.fillN Sm.k256 n) _ ⟨0, v18, rfl, p_1, p_2, p_3, rfl, H_7, (Nat.zero_le _)⟩ ?_
  rintro mu_ e_2 w_6 ⟨jz, vB, rfl, e_2_1, e_2_2, e_2_3, e_2_9, H_8, hj⟩
  refine W_seq ?_
  refine W_seq ?_
  refine W_rg ?_
  refine L_mv rfl ?_
  refine L_y rfl (Y_lenO T_sl22 H_8 (i := 1) rfl e_2_9) ?_
  refine L_mv rfl ?_
  refine L_y rfl (Y_rem (k := .i64) (a := ((m + 1 + jz : Nat) : Int)) (b := ((64 : Nat) : Int)) (z := (((m + 1 + jz) % 64 : Nat) : Int)) rfl e_2_2 (by omega) rfl) ?_
  refine L_mv rfl ?_
  refine L_mv rfl ?_
  refine L_y rfl (Y_sub (k := .i64) (a := ((64 : Nat) : Int)) (b := ((8 : Nat) : Int)) (z := ((56 : Nat) : Int)) e_2_2 e_2_3 (by decide)) ?_
  refine L_y rfl (Y_neq (k := .i64) (a := (((m + 1 + jz) % 64 : Nat) : Int)) (b := ((56 : Nat) : Int)) rfl rfl) ?_
  refine L_nil ?_
  refine Th_n ?_
  refine W_cond (b := ((((m + 1 + jz) % 64 : Nat) : Int) != ((56 : Nat) : Int))) rfl (fun hc => ?_) (fun hc => ?_)
  ·
    have hc' := ne_of_bne hc
    refine W_skip ?_
    refine Th_n ?_
    refine W_block ?_
    refine W_rg ?_
    refine L_mv rfl ?_
    refine L_bsl (cs := ua .u8 [0]) rfl H_8 (pv := [(0, Value.int .u8 ((0 : Nat) : Int))]) T_sl22 T_zero5 rfl (Bpc rfl Bp0) (by kernel_rfl) ?_; intro bk28 w_7 H_9
    refine L_appS rfl H_9 (i := 2) rfl T_sl22 T_zero5 rfl T_szb5 e_2_9 rfl (news_ua (H_9.get 0 rfl)) rfl (by omega) ?_; intro v29 w_8 Hx_3
    have H_10 : Hp w0 [] w_8 [Ent.blk bk28 5 (ua .u8 [0]), Ent.blk bk17 5 (ua .u8 [128]), Ent.own v29 5 1 ((m + 1 + jz) + 1) (us .u8 (((l ++ [128]) ++ List.replicate jz 0) ++ [0]))] := Hx_3
    refine L_as rfl ?_
    refine L_nil ?_
    refine InB_n ?_
    have H_11 : Hp w0 [] w_8 [Ent.blk bk28 5 (ua .u8 [0]), Ent.blk bk17 5 (ua .u8 [128]), Ent.own v29 5 1 ((m + 1 + jz) + 1) (us .u8 ((l ++ [128]) ++ List.replicate (jz + 1) 0))] := by have h := H_10; rw [Sm.rep_snoc] at h; exact h
    refine Th_n ⟨_, ?_, jz + 1, v29, rfl, e_2_1, e_2_2, e_2_3, rfl, H_11.drop_, (Sm.fill256_next hm hj hc')⟩
    have := Sm.fill256_next hm hj hc'; omega
  ·
    have hc' := eq_of_bne_false hc
    refine W_exit ?_
    refine Th_x ?_
    refine Th_x ?_
    have hz := hc'
    refine InB_hit ?_
    refine Th_n ?_
    refine W_seq ?_
    refine W_seq ?_
    refine W_rg ?_
    refine L_mv rfl ?_
    refine L_y rfl (Y_sub (k := .i64) (a := ((8 : Nat) : Int)) (b := ((8 : Nat) : Int)) (z := ((0 : Nat) : Int)) e_2_3 rfl (by decide)) ?_
    refine L_mv rfl ?_
    refine L_nil ?_
    refine Th_n ?_
    refine W_block ?_
    refine W_loop (fun mu_ e w => ∃ iz : Nat, ∃ vC : Value, mu_ = 0 - iz ∧ e 1 = Value.int .i64 ((n : Nat) : Int) ∧ e 9 = vC ∧ e 31 = Value.int .i64 ((0 : Nat) : Int) ∧ e 32 = Value.int .i64 ((iz : Nat) : Int) ∧ Hp w0 [] w [Ent.blk bk17 5 (ua .u8 [128]), Ent.own vC 5 1 (m + 1 + jz + iz) (us .u8 ((l ++ [128]) ++ List.replicate (jz + iz) 0))] ∧ iz ≤ 0) _ ⟨0, vB, rfl, e_2_1, e_2_9, rfl, rfl, H_8, (Nat.zero_le _)⟩ ?_
    rintro mu_ e_3 w_9 ⟨iz, vC, rfl, e_3_1, e_3_9, e_3_31, e_3_32, H_12, hi⟩
    refine W_seq ?_
    refine W_rg ?_
    refine L_y rfl (Y_lss (k := .i64) (a := ((iz : Nat) : Int)) (b := ((0 : Nat) : Int)) e_3_32 e_3_31) ?_
    refine L_nil ?_
    refine Th_n ?_
    refine W_seq ?_
    refine W_cond (b := (decide (((iz : Nat) : Int) < ((0 : Nat) : Int)))) rfl (fun hc_2 => ?_) (fun hc_2 => ?_)
    ·
      have hc_2' := of_decide_eq_true hc_2
      refine W_skip ?_
      refine Th_n ?_
      refine W_seq ?_
      refine W_block ?_
      refine W_rg ?_
      refine L_mv rfl ?_
      refine L_bsl (cs := ua .u8 [0]) rfl H_12 (pv := [(0, Value.int .u8 ((0 : Nat) : Int))]) T_sl22 T_zero5 rfl (Bpc rfl Bp0) (by kernel_rfl) ?_; intro bk35 w_10 H_13
      refine L_appS rfl H_13 (i := 2) rfl T_sl22 T_zero5 rfl T_szb5 e_3_9 rfl (news_ua (H_13.get 0 rfl)) rfl (by omega) ?_; intro v36 w_11 Hx_4
      have H_14 : Hp w0 [] w_11 [Ent.blk bk35 5 (ua .u8 [0]), Ent.blk bk17 5 (ua .u8 [128]), Ent.own v36 5 1 ((m + 1 + jz + iz) + 1) (us .u8 (((l ++ [128]) ++ List.replicate (jz + iz) 0) ++ [0]))] := Hx_4
      refine L_as rfl ?_
      refine L_nil ?_
      refine InB_n ?_
      refine Th_n ?_
      refine W_rg ?_
      refine L_y rfl (Y_add (k := .i64) (a := ((iz : Nat) : Int)) (b := ((1 : Nat) : Int)) (z := ((iz + 1 : Nat) : Int)) e_3_32 rfl (wi (by omega))) ?_
      refine L_mv rfl ?_
      refine L_nil ?_
      have H_15 : Hp w0 [] w_11 [Ent.blk bk35 5 (ua .u8 [0]), Ent.blk bk17 5 (ua .u8 [128]), Ent.own v36 5 1 ((m + 1 + jz + iz) + 1) (us .u8 ((l ++ [128]) ++ List.replicate (jz + (iz + 1)) 0))] := by have h := H_14; rw [Sm.rep_snoc] at h; exact h
      refine Th_n ⟨_, ?_, iz + 1, v36, rfl, e_3_1, rfl, e_3_31, rfl, H_15.drop_, (by omega)⟩
      omega
    ·
      have hc_2' := of_decide_eq_false hc_2
      refine W_exit ?_
      refine Th_x ?_
      refine Th_x ?_
      obtain rfl : iz = 0 := by omega
      refine InB_hit ?_
      refine Th_n ?_
      refine W_seq ?_
      refine W_seq ?_
      refine W_rg ?_
      refine L_as rfl ?_
      refine L_nil ?_
      refine Th_n ?_
      refine W_block ?_
      have H_16 : Hp w0 [] w_9 [Ent.blk bk17 5 (ua .u8 [128]), Ent.own vC 5 1 (m + 1 + jz + 0) (us .u8 (((l ++ [128]) ++ List.replicate (jz + 0) 0) ++ (Sm.bytes 8 (8 * n)).take 0))] := by have h := H_12; rw [List.take_zero, List.append_nil]; exact h
      refine W_loop (fun mu_ e w => ∃ j : Nat, ∃ vD : Value, mu_ = 8 - j ∧ e 1 = Value.int .i64 ((n : Nat) : Int) ∧ e 9 = vD ∧ e 10 = Value.int .i64 (((7 : Nat) : Int) - ((j : Nat) : Int)) ∧ Hp w0 [] w [Ent.blk bk17 5 (ua .u8 [128]), Ent.own vD 5 1 (m + 1 + jz + 0 + j) (us .u8 (((l ++ [128]) ++ List.replicate (jz + 0) 0) ++ (Sm.bytes 8 (8 * n)).take j))] ∧ j ≤ 8) _ ⟨0, vC, rfl, e_3_1, e_3_9, rfl, H_16, (Nat.zero_le _)⟩ ?_
      rintro mu_ e_4 w_12 ⟨j, vD, rfl, e_4_1, e_4_9, e_4_10, H_17, hj2⟩
      refine W_seq ?_
      refine W_seq ?_
      refine W_rg ?_
      refine L_mv rfl ?_
      refine L_y rfl (Y_geq (k := .i64) (a := (((7 : Nat) : Int) - ((j : Nat) : Int))) (b := ((0 : Nat) : Int)) e_4_10 rfl) ?_
      refine L_nil ?_
      refine Th_n ?_
      refine W_cond (b := (decide (((0 : Nat) : Int) ≤ (((7 : Nat) : Int) - ((j : Nat) : Int))))) rfl (fun hc_3 => ?_) (fun hc_3 => ?_)
      ·
        have hj8 : j < 8 := by have := of_decide_eq_true hc_3; omega
        have e7_10 := e_4_10.trans (congrArg (Value.int .i64) (by omega : ((7 : Nat) : Int) - ((j : Nat) : Int) = ((7 - j : Nat) : Int)))
        have e7_38 := e_4_10.trans (congrArg (Value.int .i64) (by omega : ((7 : Nat) : Int) - ((j : Nat) : Int) = ((7 - j : Nat) : Int)))
        refine W_skip ?_
        refine Th_n ?_
        refine W_seq ?_
        refine W_block ?_
        refine W_rg ?_
        refine L_mv rfl ?_
        refine L_mv rfl ?_
        refine L_y rfl (Y_convI (k := .i64) (n := ((n : Nat) : Int)) (z := ((n : Nat) : Int)) T_some3 T_kind46 e_4_1 (wrapS rfl (by first | decide | (show _ < 18446744073709551616; omega)))) ?_
        refine L_yr (z := 8 * n % 18446744073709551616) (m := 18446744073709551616) rfl (Yu_mul (k := .u64) rfl 8 n rfl rfl) (Nat.mod_lt _ (by decide)) ?_; intro x45 hx45 rx45
        refine L_mv rfl ?_
        refine L_y rfl (Y_mul (k := .i64) (a := ((8 : Nat) : Int)) (b := ((7 - j : Nat) : Int)) (z := ((8 * (7 - j) : Nat) : Int)) rfl e7_10 (wi (by omega))) ?_
        refine L_yr (z := x45 / 2 ^ (8 * (7 - j))) (m := 18446744073709551616) rfl (Yu_shr (k := .u64) x45 (8 * (7 - j)) rx45 rfl rfl) (Nat.lt_of_le_of_lt (Nat.div_le_self _ _) rx45) ?_; intro x48 hx48 rx48
        refine L_yr (z := x48 % 256) (m := 256) rfl (Y_convI (k := .u64) (n := ((x48 : Nat) : Int)) (z := ((x48 % 256 : Nat) : Int)) T_some46 T_kind5 rfl (wrapM rfl rfl)) (Nat.mod_lt _ (by decide)) ?_; intro x49 hx49 rx49
        refine L_bsl (cs := ua .u8 [x49]) rfl H_17 (pv := [(0, Value.int .u8 ((x49 : Nat) : Int))]) T_sl22 T_zero5 rfl (Bpc rfl Bp0) (by kernel_rfl) ?_; intro bk50 w_13 H_18
        refine L_appS rfl H_18 (i := 2) rfl T_sl22 T_zero5 rfl T_szb5 e_4_9 rfl (news_ua (H_18.get 0 rfl)) rfl (by omega) ?_; intro v51 w_14 Hx_5
        have H_19 : Hp w0 [] w_14 [Ent.blk bk50 5 (ua .u8 [x49]), Ent.blk bk17 5 (ua .u8 [128]), Ent.own v51 5 1 ((m + 1 + jz + 0 + j) + 1) (us .u8 ((((l ++ [128]) ++ List.replicate (jz + 0) 0) ++ (Sm.bytes 8 (8 * n)).take j) ++ [x49]))] := Hx_5
        refine L_as rfl ?_
        refine L_nil ?_
        refine InB_n ?_
        refine Th_n ?_
        refine W_rg ?_
        refine L_mv rfl ?_
        refine L_y rfl (Y_sub (k := .i64) (a := ((7 - j : Nat) : Int)) (b := ((1 : Nat) : Int)) (z := (((7 : Nat) : Int) - ((j + 1 : Nat) : Int))) e7_10 rfl (wi (by omega))) ?_
        refine L_as rfl ?_
        refine L_nil ?_
        have H_20 : Hp w0 [] w_14 [Ent.blk bk50 5 (ua .u8 [x49]), Ent.blk bk17 5 (ua .u8 [128]), Ent.own v51 5 1 ((m + 1 + jz + 0 + j) + 1) (us .u8 (((l ++ [128]) ++ List.replicate (jz + 0) 0) ++ (Sm.bytes 8 (8 * n)).take (j + 1)))] := by have h := H_19; rw [List.append_assoc, Sm.num_step hn hj8 hx45 hx48 hx49] at h; exact h
        refine Th_n ⟨_, ?_, j + 1, v51, rfl, e_4_1, rfl, rfl, H_20.drop_, (by omega)⟩
        omega
      ·
        have hj8 : j = 8 := by have := of_decide_eq_false hc_3; omega
        refine W_exit ?_
        refine Th_x ?_
        refine Th_x ?_
        refine InB_hit ?_
        refine Th_n ?_
        refine W_seq ?_
        refine W_rg ?_
        refine L_mv rfl ?_
        refine L_as rfl ?_
        refine L_nil ?_
        refine Th_n ?_
        refine W_ret ?_
        refine P_ret (vs := [vD]) (v := vD) rfl (.tmp e_4_9 (Res.nil)) rfl ?_
        obtain ⟨a_, c_, rfl⟩ := Sl.opn H_17 (i := 1) rfl
        subst hj8
        have hZ := Sm.fill256_end hm hj hz
        subst hZ
        have hO := H_17.only (i := 1) rfl
        rw [Sm.rest_end (q := Sm.k256) (s := 0) (by decide) hn (by decide)] at hO
        exact ⟨a_, _, c_, rfl, hO⟩

theorem rest512_n (a : Option Addr) (m c n : Nat) (l : List Nat) (hl : ∀ u ∈ l, u < 256) (hm : m % 128 = n % 128) (hmm : m ≤ n) (hn : n ≤ 16777216) (w0 : World) (hb : Sl w0 .u8 a m c l) :
    Calls Try.prog 28 #[Value.slice a m c, Value.int .i64 ((n : Nat) : Int), Value.int .i64 ((128 : Nat) : Int), Value.int .i64 ((16 : Nat) : Int)] w0 (fun r_ w' => ∃ a_ M_ c_, r_ = .returned (.slice a_ M_ c_) ∧ Hp w0 [] w' [.own (.slice a_ M_ c_) 5 1 M_ (us .u8 (l ++ Sm.pad Sm.k512 n))]) := by
  have hZb := Sm.fill512_lt n
  refine F_in Try.func28 rfl Try.ntmps28 rfl ?_
  intro e he
  have p_0 : e 0 = Value.slice a m c := he 0 _ rfl
  have p_1 : e 1 = Value.int .i64 ((n : Nat) : Int) := he 1 _ rfl
  have p_2 : e 2 = Value.int .i64 ((128 : Nat) : Int) := he 2 _ rfl
  have p_3 : e 3 = Value.int .i64 ((16 : Nat) : Int) := he 3 _ rfl
  have H := Hp.start w0 []
  refine W_seq ?_
  refine W_rg ?_
  refine L_as rfl ?_
  refine L_nil ?_
  refine Th_n ?_
  refine W_seq ?_
  refine W_rg ?_
  refine L_mv rfl ?_
  refine L_y rfl (Y_mul (k := .i64) (a := ((2 : Nat) : Int)) (b := ((128 : Nat) : Int)) (z := ((256 : Nat) : Int)) rfl p_2 (by decide)) ?_
  refine L_mk rfl H T_sl22 T_zero5 T_szb5 rfl rfl (Nat.zero_le _) (by decide) (by decide) ?_; intro bk13 w_2 H_2
  have H_3 : Hp w0 [] w_2 [Ent.own (Value.slice (some ⟨bk13, 0, none⟩) 0 256) 5 1 0 (us .u8 [])] := by have h := H_2; rw [show ua .u8 [0] = #[.int .u8 0] from rfl, made_ua] at h; exact h.say (i := 0) (x' := .own (Value.slice (some ⟨bk13, 0, none⟩) 0 256) 5 1 0 (us .u8 [])) rfl (own_of_blk (Nat.zero_le _) (by decide) (by rw [ua_size]; rfl) (by rw [Nat.zero_mul, List.take_zero]; rfl)) (fun _ h => h) rfl
  refine L_mv rfl ?_
  refine L_appL rfl H_3 (i := 0) rfl T_sl22 T_zero5 rfl T_szb5 rfl p_0 (hb.hp H_3) (by omega) ?_; intro v15 w_3 Hx
  have H_4 : Hp w0 [] w_3 [Ent.own v15 5 1 m (us .u8 l)] := by have h := Hx; simp only [Nat.zero_add] at h; exact h
  refine L_as rfl ?_
  refine L_nil ?_
  refine Th_n ?_
  refine W_seq ?_
  refine W_rg ?_
  refine L_mv rfl ?_
  refine L_bsl (cs := ua .u8 [128]) rfl H_4 (pv := [(0, Value.int .u8 ((128 : Nat) : Int))]) T_sl22 T_zero5 rfl (Bpc rfl Bp0) (by kernel_rfl) ?_; intro bk17 w_4 H_5
  refine L_appS rfl H_5 (i := 1) rfl T_sl22 T_zero5 rfl T_szb5 rfl rfl (news_ua (H_5.get 0 rfl)) rfl (by omega) ?_; intro v18 w_5 Hx_2
  have H_6 : Hp w0 [] w_5 [Ent.blk bk17 5 (ua .u8 [128]), Ent.own v18 5 1 (m + 1) (us .u8 (l ++ [128]))] := Hx_2
  refine L_as rfl ?_
  refine L_nil ?_
  refine Th_n ?_
  refine W_seq ?_
  refine W_block ?_
  have H_7 : Hp w0 [] w_5 [Ent.blk bk17 5 (ua .u8 [128]), Ent.own v18 5 1 (m + 1) (us .u8 ((l ++ [128]) ++ List.replicate 0 0))] := by have h := H_6; rw [Sm.rep_zero (l ++ [128])] at h; exact h
  refine W_loop (fun mu_ e w => ∃ jz : Nat, ∃ vB : Value, mu_ = Sm.fillN Sm.k512 n - jz ∧ e 1 = Value.int .i64 ((n : Nat) : Int) ∧ e 2 = Value.int .i64 ((128 : Nat) : Int) ∧ e 3 = Value.int .i64 ((16 : Nat) : Int) ∧ e 9 = vB ∧ Hp w0 [] w [Ent.blk bk17 5 (ua .u8 [128]), Ent.own vB 5 1 (m + 1 + jz) (us .u8 ((l ++ [128]) ++ List.replicate jz 0))] ∧ jz ≤ Sm.fillN Sm.k512 n) _ ⟨0, v18, rfl, p_1, p_2, p_3, rfl, H_7, (Nat.zero_le _)⟩ ?_
  rintro mu_ e_2 w_6 ⟨jz, vB, rfl, e_2_1, e_2_2, e_2_3, e_2_9, H_8, hj⟩
  refine W_seq ?_
  refine W_seq ?_
  refine W_rg ?_
  refine L_mv rfl ?_
  refine L_y rfl (Y_lenO T_sl22 H_8 (i := 1) rfl e_2_9) ?_
  refine L_mv rfl ?_
  refine L_y rfl (Y_rem (k := .i64) (a := ((m + 1 + jz : Nat) : Int)) (b := ((128 : Nat) : Int)) (z := (((m + 1 + jz) % 128 : Nat) : Int)) rfl e_2_2 (by omega) rfl) ?_
  refine L_mv rfl ?_
  refine L_mv rfl ?_
  refine L_y rfl (Y_sub (k := .i64) (a := ((128 : Nat) : Int)) (b := ((16 : Nat) : Int)) (z := ((112 : Nat) : Int)) e_2_2 e_2_3 (by decide)) ?_
  refine L_y rfl (Y_neq (k := .i64) (a := (((m + 1 + jz) % 128 : Nat) : Int)) (b := ((112 : Nat) : Int)) rfl rfl) ?_
  refine L_nil ?_
  refine Th_n ?_
  refine W_cond (b := ((((m + 1 + jz) % 128 : Nat) : Int) != ((112 : Nat) : Int))) rfl (fun hc => ?_) (fun hc => ?_)
  ·
    have hc' := ne_of_bne hc
    refine W_skip ?_
    refine Th_n ?_
    refine W_block ?_
    refine W_rg ?_
    refine L_mv rfl ?_
    refine L_bsl (cs := ua .u8 [0]) rfl H_8 (pv := [(0, Value.int .u8 ((0 : Nat) : Int))]) T_sl22 T_zero5 rfl (Bpc rfl Bp0) (by kernel_rfl) ?_; intro bk28 w_7 H_9
    refine L_appS rfl H_9 (i := 2) rfl T_sl22 T_zero5 rfl T_szb5 e_2_9 rfl (news_ua (H_9.get 0 rfl)) rfl (by omega) ?_; intro v29 w_8 Hx_3
    have H_10 : Hp w0 [] w_8 [Ent.blk bk28 5 (ua .u8 [0]), Ent.blk bk17 5 (ua .u8 [128]), Ent.own v29 5 1 ((m + 1 + jz) + 1) (us .u8 (((l ++ [128]) ++ List.replicate jz 0) ++ [0]))] := Hx_3
    refine L_as rfl ?_
    refine L_nil ?_
    refine InB_n ?_
    have H_11 : Hp w0 [] w_8 [Ent.blk bk28 5 (ua .u8 [0]), Ent.blk bk17 5 (ua .u8 [128]), Ent.own v29 5 1 ((m + 1 + jz) + 1) (us .u8 ((l ++ [128]) ++ List.replicate (jz + 1) 0))] := by have h := H_10; rw [Sm.rep_snoc] at h; exact h
    refine Th_n ⟨_, ?_, jz + 1, v29, rfl, e_2_1, e_2_2, e_2_3, rfl, H_11.drop_, (Sm.fill512_next hm hj hc')⟩
    have := Sm.fill512_next hm hj hc'; omega
  ·
    have hc' := eq_of_bne_false hc
    refine W_exit ?_
    refine Th_x ?_
    refine Th_x ?_
    have hz := hc'
    refine InB_hit ?_
    refine Th_n ?_
    refine W_seq ?_
    refine W_seq ?_
    refine W_rg ?_
    refine L_mv rfl ?_
    refine L_y rfl (Y_sub (k := .i64) (a := ((16 : Nat) : Int)) (b := ((8 : Nat) : Int)) (z := ((8 : Nat) : Int)) e_2_3 rfl (by decide)) ?_
    refine L_mv rfl ?_
    refine L_nil ?_
    refine Th_n ?_
    refine W_block ?_
    refine W_loop (fun mu_ e w => ∃ iz : Nat, ∃ vC : Value, mu_ = 8 - iz ∧ e 1 = Value.int .i64 ((n : Nat) : Int) ∧ e 9 = vC ∧ e 31 = Value.int .i64 ((8 : Nat) : Int) ∧ e 32 = Value.int .i64 ((iz : Nat) : Int) ∧ Hp w0 [] w [Ent.blk bk17 5 (ua .u8 [128]), Ent.own vC 5 1 (m + 1 + jz + iz) (us .u8 ((l ++ [128]) ++ List.replicate (jz + iz) 0))] ∧ iz ≤ 8) _ ⟨0, vB, rfl, e_2_1, e_2_9, rfl, rfl, H_8, (Nat.zero_le _)⟩ ?_
    rintro mu_ e_3 w_9 ⟨iz, vC, rfl, e_3_1, e_3_9, e_3_31, e_3_32, H_12, hi⟩
    refine W_seq ?_
    refine W_rg ?_
    refine L_y rfl (Y_lss (k := .i64) (a := ((iz : Nat) : Int)) (b := ((8 : Nat) : Int)) e_3_32 e_3_31) ?_
    refine L_nil ?_
    refine Th_n ?_
    refine W_seq ?_
    refine W_cond (b := (decide (((iz : Nat) : Int) < ((8 : Nat) : Int)))) rfl (fun hc_2 => ?_) (fun hc_2 => ?_)
    ·
      have hc_2' := of_decide_eq_true hc_2
      refine W_skip ?_
      refine Th_n ?_
      refine W_seq ?_
      refine W_block ?_
      refine W_rg ?_
      refine L_mv rfl ?_
      refine L_bsl (cs := ua .u8 [0]) rfl H_12 (pv := [(0, Value.int .u8 ((0 : Nat) : Int))]) T_sl22 T_zero5 rfl (Bpc rfl Bp0) (by kernel_rfl) ?_; intro bk35 w_10 H_13
      refine L_appS rfl H_13 (i := 2) rfl T_sl22 T_zero5 rfl T_szb5 e_3_9 rfl (news_ua (H_13.get 0 rfl)) rfl (by omega) ?_; intro v36 w_11 Hx_4
      have H_14 : Hp w0 [] w_11 [Ent.blk bk35 5 (ua .u8 [0]), Ent.blk bk17 5 (ua .u8 [128]), Ent.own v36 5 1 ((m + 1 + jz + iz) + 1) (us .u8 (((l ++ [128]) ++ List.replicate (jz + iz) 0) ++ [0]))] := Hx_4
      refine L_as rfl ?_
      refine L_nil ?_
      refine InB_n ?_
      refine Th_n ?_
      refine W_rg ?_
      refine L_y rfl (Y_add (k := .i64) (a := ((iz : Nat) : Int)) (b := ((1 : Nat) : Int)) (z := ((iz + 1 : Nat) : Int)) e_3_32 rfl (wi (by omega))) ?_
      refine L_mv rfl ?_
      refine L_nil ?_
      have H_15 : Hp w0 [] w_11 [Ent.blk bk35 5 (ua .u8 [0]), Ent.blk bk17 5 (ua .u8 [128]), Ent.own v36 5 1 ((m + 1 + jz + iz) + 1) (us .u8 ((l ++ [128]) ++ List.replicate (jz + (iz + 1)) 0))] := by have h := H_14; rw [Sm.rep_snoc] at h; exact h
      refine Th_n ⟨_, ?_, iz + 1, v36, rfl, e_3_1, rfl, e_3_31, rfl, H_15.drop_, (by omega)⟩
      omega
    ·
      have hc_2' := of_decide_eq_false hc_2
      refine W_exit ?_
      refine Th_x ?_
      refine Th_x ?_
      obtain rfl : iz = 8 := by omega
      refine InB_hit ?_
      refine Th_n ?_
      refine W_seq ?_
      refine W_seq ?_
      refine W_rg ?_
      refine L_as rfl ?_
      refine L_nil ?_
      refine Th_n ?_
      refine W_block ?_
      have H_16 : Hp w0 [] w_9 [Ent.blk bk17 5 (ua .u8 [128]), Ent.own vC 5 1 (m + 1 + jz + 8) (us .u8 (((l ++ [128]) ++ List.replicate (jz + 8) 0) ++ (Sm.bytes 8 (8 * n)).take 0))] := by have h := H_12; rw [List.take_zero, List.append_nil]; exact h
      refine W_loop (fun mu_ e w => ∃ j : Nat, ∃ vD : Value, mu_ = 8 - j ∧ e 1 = Value.int .i64 ((n : Nat) : Int) ∧ e 9 = vD ∧ e 10 = Value.int .i64 (((7 : Nat) : Int) - ((j : Nat) : Int)) ∧ Hp w0 [] w [Ent.blk bk17 5 (ua .u8 [128]), Ent.own vD 5 1 (m + 1 + jz + 8 + j) (us .u8 (((l ++ [128]) ++ List.replicate (jz + 8) 0) ++ (Sm.bytes 8 (8 * n)).take j))] ∧ j ≤ 8) _ ⟨0, vC, rfl, e_3_1, e_3_9, rfl, H_16, (Nat.zero_le _)⟩ ?_
      rintro mu_ e_4 w_12 ⟨j, vD, rfl, e_4_1, e_4_9, e_4_10, H_17, hj2⟩
      refine W_seq ?_
      refine W_seq ?_
      refine W_rg ?_
      refine L_mv rfl ?_
      refine L_y rfl (Y_geq (k := .i64) (a := (((7 : Nat) : Int) - ((j : Nat) : Int))) (b := ((0 : Nat) : Int)) e_4_10 rfl) ?_
      refine L_nil ?_
      refine Th_n ?_
      refine W_cond (b := (decide (((0 : Nat) : Int) ≤ (((7 : Nat) : Int) - ((j : Nat) : Int))))) rfl (fun hc_3 => ?_) (fun hc_3 => ?_)
      ·
        have hj8 : j < 8 := by have := of_decide_eq_true hc_3; omega
        have e7_10 := e_4_10.trans (congrArg (Value.int .i64) (by omega : ((7 : Nat) : Int) - ((j : Nat) : Int) = ((7 - j : Nat) : Int)))
        have e7_38 := e_4_10.trans (congrArg (Value.int .i64) (by omega : ((7 : Nat) : Int) - ((j : Nat) : Int) = ((7 - j : Nat) : Int)))
        refine W_skip ?_
        refine Th_n ?_
        refine W_seq ?_
        refine W_block ?_
        refine W_rg ?_
        refine L_mv rfl ?_
        refine L_mv rfl ?_
        refine L_y rfl (Y_convI (k := .i64) (n := ((n : Nat) : Int)) (z := ((n : Nat) : Int)) T_some3 T_kind46 e_4_1 (wrapS rfl (by first | decide | (show _ < 18446744073709551616; omega)))) ?_
        refine L_yr (z := 8 * n % 18446744073709551616) (m := 18446744073709551616) rfl (Yu_mul (k := .u64) rfl 8 n rfl rfl) (Nat.mod_lt _ (by decide)) ?_; intro x45 hx45 rx45
        refine L_mv rfl ?_
        refine L_y rfl (Y_mul (k := .i64) (a := ((8 : Nat) : Int)) (b := ((7 - j : Nat) : Int)) (z := ((8 * (7 - j) : Nat) : Int)) rfl e7_10 (wi (by omega))) ?_
        refine L_yr (z := x45 / 2 ^ (8 * (7 - j))) (m := 18446744073709551616) rfl (Yu_shr (k := .u64) x45 (8 * (7 - j)) rx45 rfl rfl) (Nat.lt_of_le_of_lt (Nat.div_le_self _ _) rx45) ?_; intro x48 hx48 rx48
        refine L_yr (z := x48 % 256) (m := 256) rfl (Y_convI (k := .u64) (n := ((x48 : Nat) : Int)) (z := ((x48 % 256 : Nat) : Int)) T_some46 T_kind5 rfl (wrapM rfl rfl)) (Nat.mod_lt _ (by decide)) ?_; intro x49 hx49 rx49
        refine L_bsl (cs := ua .u8 [x49]) rfl H_17 (pv := [(0, Value.int .u8 ((x49 : Nat) : Int))]) T_sl22 T_zero5 rfl (Bpc rfl Bp0) (by kernel_rfl) ?_; intro bk50 w_13 H_18
        refine L_appS rfl H_18 (i := 2) rfl T_sl22 T_zero5 rfl T_szb5 e_4_9 rfl (news_ua (H_18.get 0 rfl)) rfl (by omega) ?_; intro v51 w_14 Hx_5
        have H_19 : Hp w0 [] w_14 [Ent.blk bk50 5 (ua .u8 [x49]), Ent.blk bk17 5 (ua .u8 [128]), Ent.own v51 5 1 ((m + 1 + jz + 8 + j) + 1) (us .u8 ((((l ++ [128]) ++ List.replicate (jz + 8) 0) ++ (Sm.bytes 8 (8 * n)).take j) ++ [x49]))] := Hx_5
        refine L_as rfl ?_
        refine L_nil ?_
        refine InB_n ?_
        refine Th_n ?_
        refine W_rg ?_
        refine L_mv rfl ?_
        refine L_y rfl (Y_sub (k := .i64) (a := ((7 - j : Nat) : Int)) (b := ((1 : Nat) : Int)) (z := (((7 : Nat) : Int) - ((j + 1 : Nat) : Int))) e7_10 rfl (wi (by omega))) ?_
        refine L_as rfl ?_
        refine L_nil ?_
        have H_20 : Hp w0 [] w_14 [Ent.blk bk50 5 (ua .u8 [x49]), Ent.blk bk17 5 (ua .u8 [128]), Ent.own v51 5 1 ((m + 1 + jz + 8 + j) + 1) (us .u8 (((l ++ [128]) ++ List.replicate (jz + 8) 0) ++ (Sm.bytes 8 (8 * n)).take (j + 1)))] := by have h := H_19; rw [List.append_assoc, Sm.num_step hn hj8 hx45 hx48 hx49] at h; exact h
        refine Th_n ⟨_, ?_, j + 1, v51, rfl, e_4_1, rfl, rfl, H_20.drop_, (by omega)⟩
        omega
      ·
        have hj8 : j = 8 := by have := of_decide_eq_false hc_3; omega
        refine W_exit ?_
        refine Th_x ?_
        refine Th_x ?_
        refine InB_hit ?_
        refine Th_n ?_
        refine W_seq ?_
        refine W_rg ?_
        refine L_mv rfl ?_
        refine L_as rfl ?_
        refine L_nil ?_
        refine Th_n ?_
        refine W_ret ?_
        refine P_ret (vs := [vD]) (v := vD) rfl (.tmp e_4_9 (Res.nil)) rfl ?_
        obtain ⟨a_, c_, rfl⟩ := Sl.opn H_17 (i := 1) rfl
        subst hj8
        have hZ := Sm.fill512_end hm hj hz
        subst hZ
        have hO := H_17.only (i := 1) rfl
        rw [Sm.rest_end (q := Sm.k512) (s := 8) (by decide) hn (by decide)] at hO
        exact ⟨a_, _, c_, rfl, hO⟩
end Go.Proofs.Ytdifogdaiimmoaa
