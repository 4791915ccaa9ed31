/- Walks of layer 2 and of its reference. Printed by residue.py. -/
import Derived.Test.YthjdikgdhmlmcaaE8
namespace Go.Proofs.Ythjdikgdhmlmcaa
open Go.Ev
theorem T_en14 : enters Try.prog 14 = true := by kernel_rfl
theorem rminus_n (A B : Nat) (hA : A < 115792089237316195423570985008687907853269984665640564039457584007913129639936) (hB : B < 115792089237316195423570985008687907853269984665640564039457584007913129639936) (w0 : World) :
    Calls Try.prog 16 #[Value.agg (ua .u8 (Lm.b32 A)), Value.agg (ua .u8 (Lm.b32 B))] w0 (fun r_ w' => r_ = .returned (.agg (ua .u8 (Lm.b32 ((A + (Lm.ord - B % Lm.ord)) % Lm.ord)))) ∧ Keep w0 w') := by
  refine F_in Try.func16 rfl Try.ntmps16 rfl ?_
  intro e he
  have p_0 : e 0 = Value.agg (ua .u8 (Lm.b32 A)) := he 0 _ rfl
  have p_1 : e 1 = Value.agg (ua .u8 (Lm.b32 B)) := he 1 _ rfl
  have H := Hp.start w0 []
  refine W_seq ?_
  refine W_rg ?_
  refine L_box rfl H p_0 (cs := ua .u8 (Lm.b32 A)) rfl ?_; intro bk2 w_2 H_2
  refine L_box rfl H_2 p_1 (cs := ua .u8 (Lm.b32 B)) rfl ?_; intro bk3 w_3 H_3
  refine L_alloc rfl H_3 T_zero23 ?_; intro bk4 w_4 H_4
  refine L_nil ?_
  refine Th_n ?_
  refine W_seq ?_
  refine W_rg ?_
  refine L_callv rfl rfl T_en29 (A0) (rorder_n _) ?_
  rintro _ w_5 ⟨rfl, hkp⟩; refine ⟨_, rfl, ?_⟩; have H_5 := H_4.keep hkp
  refine L_alloc rfl H_5 T_zero22 ?_; intro bk5 w_6 H_6
  refine L_str (ds := ua .u8 (Lm.b32 Lm.ord)) T_row22 H_6 (i := 0) rfl rfl rfl rfl (by rw [ua_size]; exact (b32_wd Lm.ord).1) (ua_one _ _) (l' := [.blk bk5 22 (ua .u8 (Lm.b32 Lm.ord)), .blk bk4 23 (ua .u8 [0, 0, 0, 0, 0, 0, 0, 0, 0, 0, 0, 0, 0, 0, 0, 0, 0, 0, 0, 0, 0, 0, 0, 0, 0, 0, 0, 0, 0, 0, 0, 0]), .blk bk3 23 (ua .u8 (Lm.b32 B)), .blk bk2 23 (ua .u8 (Lm.b32 A))]) rfl ?_; intro w_7 H_7
  refine L_nil ?_
  refine Th_n ?_
  refine W_seq ?_
  refine W_rg ?_
  refine L_y rfl (Y_slA T_arr23 rfl) ?_
  refine L_callv rfl rfl T_en28 (A1 rfl) ((rrest_n 32 32 bk3 23 (Lm.b32 B) (b32_wd B) (by decide) _ (H_7.get 2 rfl)).mono (fun r_ w' h => (⟨Lm.dv 256 (Lm.b32 B) % Lm.ord, rfl, h⟩ : ∃ (N13 : Nat), N13 = Lm.dv 256 (Lm.b32 B) % Lm.ord ∧ r_ = .returned (Value.agg (ua .u8 (Lm.b32 N13))) ∧ Keep w_7 w'))) ?_
  rintro _ w_8 ⟨N13, hN13, rfl, hkp_2⟩; refine ⟨_, rfl, ?_⟩; have H_8 := H_7.keep hkp_2
  refine L_alloc rfl H_8 T_zero23 ?_; intro bk6 w_9 H_9
  refine L_str (ds := ua .u8 (Lm.b32 N13)) T_row23 H_9 (i := 0) rfl rfl rfl rfl (by rw [ua_size]; exact (b32_wd N13).1) (ua_one _ _) (l' := [.blk bk6 23 (ua .u8 (Lm.b32 N13)), .blk bk5 22 (ua .u8 (Lm.b32 Lm.ord)), .blk bk4 23 (ua .u8 [0, 0, 0, 0, 0, 0, 0, 0, 0, 0, 0, 0, 0, 0, 0, 0, 0, 0, 0, 0, 0, 0, 0, 0, 0, 0, 0, 0, 0, 0, 0, 0]), .blk bk3 23 (ua .u8 (Lm.b32 B)), .blk bk2 23 (ua .u8 (Lm.b32 A))]) rfl ?_; intro w_10 H_10
  refine L_nil ?_
  refine Th_n ?_
  refine W_seq ?_
  refine W_rg ?_
  refine L_alloc rfl H_10 T_zero23 ?_; intro bk7 w_11 H_11
  refine L_nil ?_
  refine Th_n ?_
  refine W_seq ?_
  refine W_rg ?_
  refine L_as rfl ?_
  refine L_nil ?_
  refine Th_n ?_
  refine W_seq ?_
  refine W_seq ?_
  refine W_rg ?_
  refine L_as rfl ?_
  refine L_nil ?_
  refine Th_n ?_
  refine W_block ?_
  refine W_loop (fun mu_ e w => ∃ i : Nat, ∃ b : Nat, ∃ l : List Nat, mu_ = 32 - i ∧ e 2 = Value.pointer (some ⟨bk2, 0, none⟩) ∧ e 4 = Value.pointer (some ⟨bk4, 0, none⟩) ∧ e 5 = Value.pointer (some ⟨bk5, 0, none⟩) ∧ e 6 = Value.pointer (some ⟨bk6, 0, none⟩) ∧ e 7 = Value.pointer (some ⟨bk7, 0, none⟩) ∧ e 8 = Value.int .i64 ((b : Nat) : Int) ∧ e 9 = Value.int .i64 ((i : Nat) : Int) ∧ Hp w0 [] w [.blk bk7 23 (ua .u8 l), .blk bk6 23 (ua .u8 (Lm.b32 N13)), .blk bk5 22 (ua .u8 (Lm.b32 Lm.ord)), .blk bk4 23 (ua .u8 [0, 0, 0, 0, 0, 0, 0, 0, 0, 0, 0, 0, 0, 0, 0, 0, 0, 0, 0, 0, 0, 0, 0, 0, 0, 0, 0, 0, 0, 0, 0, 0]), .blk bk3 23 (ua .u8 (Lm.b32 B)), .blk bk2 23 (ua .u8 (Lm.b32 A))] ∧ i ≤ 32 ∧ b ≤ 1 ∧ Wd 32 256 l ∧ (∀ j, i ≤ j → l.getD j 0 = 0) ∧ Lm.dv 256 l + N13 % 256 ^ i = Lm.ord % 256 ^ i + 256 ^ i * b) _ ⟨0, 0, [0, 0, 0, 0, 0, 0, 0, 0, 0, 0, 0, 0, 0, 0, 0, 0, 0, 0, 0, 0, 0, 0, 0, 0, 0, 0, 0, 0, 0, 0, 0, 0], rfl, rfl, rfl, rfl, rfl, rfl, rfl, rfl, H_11, (by decide), (by decide), ⟨rfl, by decide⟩, (Lm.hz_zero 32 0), (Lm.dif_start Lm.ord N13 32)⟩ ?_
  rintro mu_ e_2 w_12 ⟨i, b, l, rfl, e_2_2, e_2_4, e_2_5, e_2_6, e_2_7, e_2_8, e_2_9, H_12, hi, hb, hl, hz, hV⟩
  refine W_seq ?_
  refine W_seq ?_
  refine W_rg ?_
  refine L_mv rfl ?_
  refine L_y rfl (Y_lss (k := .i64) (a := ((i : Nat) : Int)) (b := ((32 : Nat) : Int)) e_2_9 rfl) ?_
  refine L_nil ?_
  refine Th_n ?_
  refine W_cond (b := (decide (((i : Nat) : Int) < ((32 : Nat) : Int)))) rfl (fun hc => ?_) (fun hc => ?_)
  ·
    have hc' := of_decide_eq_true hc
    refine W_skip ?_
    refine Th_n ?_
    refine W_seq ?_
    refine W_block ?_
    refine W_seq ?_
    obtain ⟨x20, hx20⟩ : ∃ u, (Lm.b32 Lm.ord)[i]? = some u := ⟨_, List.getElem?_eq_getElem (by have := (b32_wd Lm.ord).1; omega)⟩
    have rx20 := (b32_wd Lm.ord).2 _ (List.mem_of_getElem? hx20)
    obtain ⟨x24, hx24⟩ : ∃ u, (Lm.b32 N13)[i]? = some u := ⟨_, List.getElem?_eq_getElem (by have := (b32_wd N13).1; omega)⟩
    have rx24 := (b32_wd N13).2 _ (List.mem_of_getElem? hx24)
    refine W_quiet H_12 10 [Value.int .i64 ((i : Nat) : Int), Value.pointer (some ⟨bk5, i, none⟩), Value.int .u8 ((x20 : Nat) : Int), Value.int .i64 ((x20 : Nat) : Int), Value.int .i64 ((i : Nat) : Int), Value.pointer (some ⟨bk6, i, none⟩), Value.int .u8 ((x24 : Nat) : Int), Value.int .i64 ((x24 : Nat) : Int), Value.int .i64 (((x20 : Nat) : Int) - ((x24 : Nat) : Int)), Value.int .i64 ((b : Nat) : Int)] T_mixed (by kernel_rfl) ?_ ?_
    ·
      refine .plain rfl (Pl_y rfl (fun w hBw => congrArg (fun v => Result.ok (Next.value v) w) e_2_9)) ?_
      refine .plain rfl (Pl_y rfl (fun w hBw => Y_idxA i i T_arr22 e_2_5 rfl rfl (by omega) (zz1 _))) ?_
      refine .plain rfl (Pl_y rfl (fun w hBw => Y_ld T_scal5 hBw (i := 2) rfl rfl (ua_get hx20))) ?_
      refine .plain rfl (Pl_y rfl (fun w hBw => Y_convI (k := .u8) (n := ((x20 : Nat) : Int)) (z := ((x20 : Nat) : Int)) T_some5 T_kind3 rfl (wi (by exact ⟨rfl, by omega, by have := rx20; omega⟩)))) ?_
      refine .plain rfl (Pl_y rfl (fun w hBw => congrArg (fun v => Result.ok (Next.value v) w) e_2_9)) ?_
      refine .plain rfl (Pl_y rfl (fun w hBw => Y_idxA i i T_arr23 e_2_6 rfl rfl (by omega) (zz1 _))) ?_
      refine .plain rfl (Pl_y rfl (fun w hBw => Y_ld T_scal5 hBw (i := 1) rfl rfl (ua_get hx24))) ?_
      refine .plain rfl (Pl_y rfl (fun w hBw => Y_convI (k := .u8) (n := ((x24 : Nat) : Int)) (z := ((x24 : Nat) : Int)) T_some5 T_kind3 rfl (wi (by exact ⟨rfl, by omega, by have := rx24; omega⟩)))) ?_
      refine .plain rfl (Pl_y rfl (fun w hBw => Y_sub (k := .i64) (a := ((x20 : Nat) : Int)) (b := ((x24 : Nat) : Int)) (z := (((x20 : Nat) : Int) - ((x24 : Nat) : Int))) rfl rfl (wi (by omega)))) ?_
      refine .plain rfl (Pl_y rfl (fun w hBw => congrArg (fun v => Result.ok (Next.value v) w) e_2_8)) ?_
      exact .nil _
    ·
      intro e_3 w_13 hAg H_13
      have e_3_2 : e_3 2 = Value.pointer (some ⟨bk2, 0, none⟩) := (hAg 2 rfl).trans e_2_2
      have e_3_4 : e_3 4 = Value.pointer (some ⟨bk4, 0, none⟩) := (hAg 4 rfl).trans e_2_4
      have e_3_5 : e_3 5 = Value.pointer (some ⟨bk5, 0, none⟩) := (hAg 5 rfl).trans e_2_5
      have e_3_6 : e_3 6 = Value.pointer (some ⟨bk6, 0, none⟩) := (hAg 6 rfl).trans e_2_6
      have e_3_7 : e_3 7 = Value.pointer (some ⟨bk7, 0, none⟩) := (hAg 7 rfl).trans e_2_7
      have e_3_9 : e_3 9 = Value.int .i64 ((i : Nat) : Int) := (hAg 9 rfl).trans e_2_9
      have e_3_26 : e_3 26 = Value.int .i64 (((x20 : Nat) : Int) - ((x24 : Nat) : Int)) := (hAg 26 rfl).trans rfl
      have e_3_27 : e_3 27 = Value.int .i64 ((b : Nat) : Int) := (hAg 27 rfl).trans rfl
      refine L_y rfl (Y_sub (k := .i64) (a := (((x20 : Nat) : Int) - ((x24 : Nat) : Int))) (b := ((b : Nat) : Int)) (z := ((((x20 : Nat) : Int) - ((x24 : Nat) : Int)) - ((b : Nat) : Int))) e_3_26 e_3_27 (wi (by omega))) ?_
      refine L_as rfl ?_
      refine L_nil ?_
      refine Th_n ?_
      refine W_seq ?_
      refine W_rg ?_
      refine L_mv rfl ?_
      refine L_mv rfl ?_
      refine L_y rfl (Yi_and255 rfl rfl) ?_
      refine L_yr (z := ((((((x20 : Nat) : Int) - ((x24 : Nat) : Int)) - ((b : Nat) : Int)) % 256).toNat) % 256) (m := 256) rfl (Y_convI (k := .i64) (n := (((((((x20 : Nat) : Int) - ((x24 : Nat) : Int)) - ((b : Nat) : Int)) % 256).toNat : Nat) : Int)) (z := ((((((((x20 : Nat) : Int) - ((x24 : Nat) : Int)) - ((b : Nat) : Int)) % 256).toNat) % 256 : Nat) : Int)) T_some3 T_kind5 rfl (wrapM rfl rfl)) (Nat.mod_lt _ (by decide)) ?_; intro x32 hx32 rx32
      refine L_y rfl (Y_idxA i i T_arr23 e_3_7 e_3_9 rfl (by omega) (zz1 _)) ?_
      refine L_st (v := Value.int .u8 ((x32 : Nat) : Int)) T_scal5 H_13 (i := 0) rfl rfl rfl rfl (by rw [ua_size]; have := hl.1; omega) (l' := [.blk bk7 23 (ua .u8 (l.set i x32)), .blk bk6 23 (ua .u8 (Lm.b32 N13)), .blk bk5 22 (ua .u8 (Lm.b32 Lm.ord)), .blk bk4 23 (ua .u8 [0, 0, 0, 0, 0, 0, 0, 0, 0, 0, 0, 0, 0, 0, 0, 0, 0, 0, 0, 0, 0, 0, 0, 0, 0, 0, 0, 0, 0, 0, 0, 0]), .blk bk3 23 (ua .u8 (Lm.b32 B)), .blk bk2 23 (ua .u8 (Lm.b32 A))]) (by rw [ua_set]; rfl) ?_; intro w_14 H_14
      refine L_nil ?_
      refine Th_n ?_
      refine W_seq ?_
      refine W_rg ?_
      refine L_as rfl ?_
      refine L_nil ?_
      refine Th_n ?_
      refine W_seq ?_
      refine W_rg ?_
      refine L_mv rfl ?_
      refine L_y rfl (Y_lss (k := .i64) (a := ((((x20 : Nat) : Int) - ((x24 : Nat) : Int)) - ((b : Nat) : Int))) (b := ((0 : Nat) : Int)) rfl rfl) ?_
      refine L_nil ?_
      refine Th_n ?_
      refine W_cond (b := (decide (((((x20 : Nat) : Int) - ((x24 : Nat) : Int)) - ((b : Nat) : Int)) < ((0 : Nat) : Int)))) rfl (fun hc_2 => ?_) (fun hc_2 => ?_)
      ·
        have hc_2' := of_decide_eq_true hc_2
        refine W_rg ?_
        refine L_as rfl ?_
        refine L_nil ?_
        refine InB_n ?_
        refine Th_n ?_
        refine W_rg ?_
        refine L_mv rfl ?_
        refine L_y rfl (Y_add (k := .i64) (a := ((i : Nat) : Int)) (b := ((1 : Nat) : Int)) (z := ((i + 1 : Nat) : Int)) e_3_9 rfl (wi (by omega))) ?_
        refine L_as rfl ?_
        refine L_nil ?_
        refine Th_n ⟨_, ?_, i + 1, 1, l.set i x32, rfl, e_3_2, e_3_4, e_3_5, e_3_6, e_3_7, rfl, rfl, H_14, (by omega), (by decide), (Wd.set hl (by assumption)), (Lm.hz_set hz), ((Lm.dif_step (by have := hl.1; omega) (hz i (Nat.le_refl _)) (Lm.b32_get hx20).2 (Lm.b32_get hx24).2 hb rfl hx32 hV).1 hc_2')⟩
        omega
      ·
        have hc_2' := of_decide_eq_false hc_2
        refine W_skip ?_
        refine InB_n ?_
        refine Th_n ?_
        refine W_rg ?_
        refine L_mv rfl ?_
        refine L_y rfl (Y_add (k := .i64) (a := ((i : Nat) : Int)) (b := ((1 : Nat) : Int)) (z := ((i + 1 : Nat) : Int)) e_3_9 rfl (wi (by omega))) ?_
        refine L_as rfl ?_
        refine L_nil ?_
        refine Th_n ⟨_, ?_, i + 1, 0, l.set i x32, rfl, e_3_2, e_3_4, e_3_5, e_3_6, e_3_7, rfl, rfl, H_14, (by omega), (by decide), (Wd.set hl (by assumption)), (Lm.hz_set hz), ((Lm.dif_step (by have := hl.1; omega) (hz i (Nat.le_refl _)) (Lm.b32_get hx20).2 (Lm.b32_get hx24).2 hb rfl hx32 hV).2 hc_2')⟩
        omega
  ·
    have hc' := of_decide_eq_false hc
    refine W_exit ?_
    refine Th_x ?_
    refine Th_x ?_
    obtain rfl : l = Lm.b32 (Lm.ord - N13) := Lm.dif_end hl (by omega) hi Lm.ord_lt (by rw [hN13]; exact Nat.le_of_lt (Nat.mod_lt _ Lm.ord_pos)) hV
    refine InB_hit ?_
    refine Th_n ?_
    refine W_seq ?_
    refine W_rg ?_
    refine L_y rfl (Y_ldr T_row23 H_12 (i := 5) rfl e_2_2 (by rw [ua_size]; exact (b32_wd A).1)) ?_
    refine L_y rfl (Y_ldr T_row23 H_12 (i := 0) rfl e_2_7 (by rw [ua_size]; exact (b32_wd (Lm.ord - N13)).1)) ?_
    refine L_callv rfl rfl T_en14 (A2 rfl rfl) ((rplus_n A (Lm.ord - N13) hA (Lm.ordsub_lt _) _).mono (fun r_ w' h => (⟨(A + (Lm.ord - N13)) % Lm.ord, rfl, h⟩ : ∃ (N38 : Nat), N38 = (A + (Lm.ord - N13)) % Lm.ord ∧ r_ = .returned (Value.agg (ua .u8 (Lm.b32 N38))) ∧ Keep w_12 w'))) ?_
    rintro _ w_15 ⟨N38, hN38, rfl, hkp_3⟩; refine ⟨_, rfl, ?_⟩; have H_15 := H_12.keep hkp_3
    refine L_str (ds := ua .u8 (Lm.b32 N38)) T_row23 H_15 (i := 3) rfl e_2_4 rfl rfl (by rw [ua_size]; exact (b32_wd N38).1) (ua_one _ _) (l' := [.blk bk7 23 (ua .u8 (Lm.b32 (Lm.ord - N13))), .blk bk6 23 (ua .u8 (Lm.b32 N13)), .blk bk5 22 (ua .u8 (Lm.b32 Lm.ord)), .blk bk4 23 (ua .u8 (Lm.b32 N38)), .blk bk3 23 (ua .u8 (Lm.b32 B)), .blk bk2 23 (ua .u8 (Lm.b32 A))]) rfl ?_; intro w_16 H_16
    refine L_nil ?_
    refine Th_n ?_
    refine W_ret ?_
    refine P_ret (vs := [Value.agg (ua .u8 (Lm.b32 N38))]) (v := Value.agg (ua .u8 (Lm.b32 N38))) rfl (.cell e_2_4 (loadVar_row T_row23 H_16 (i := 3) rfl (by rw [ua_size]; exact (b32_wd N38).1)) (Res.nil)) rfl ?_
    refine ⟨?_, H_16.nil_⟩
    rw [hN38, hN13, Lm.b32_dv hB]
end Go.Proofs.Ythjdikgdhmlmcaa
