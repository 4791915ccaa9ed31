/- Walks of layer 2 and of its reference. Printed by residue.py. -/
import Derived.Test.YthjdikgdhmlmcaaE7
import Derived.Test.YthjdikgdhmlmcaaResMath5
namespace Go.Proofs.Ythjdikgdhmlmcaa
open Go.Ev
theorem T_arr32 : arrOf Try.prog 32 = some (64, 1) := by kernel_rfl
theorem T_en28 : enters Try.prog 28 = true := by kernel_rfl
theorem T_zero50 : zeroOf Try.prog 50 = some (ua .u8 [0, 0, 0, 0, 0, 0, 0, 0, 0, 0, 0, 0, 0, 0, 0, 0, 0, 0, 0, 0, 0, 0, 0, 0, 0, 0, 0, 0, 0, 0, 0, 0, 0]) := by kernel_rfl
theorem T_kind3 : kindOf Try.prog 3 = some .i64 := by kernel_rfl
theorem T_some3 : (Try.prog.underlying 3).isSome = true := by kernel_rfl
theorem T_arr50 : arrOf Try.prog 50 = some (33, 1) := by kernel_rfl
theorem rwide_n (A : Nat) (hA : A < 256 ^ 64) (w0 : World) :
    Calls Try.prog 22 #[Value.agg (ua .u8 (Lm.dg 256 64 A))] w0 (fun r_ w' => r_ = .returned (.agg (ua .u8 (Lm.b32 (A % Lm.ord)))) ∧ Keep w0 w') := by
  refine F_in Try.func22 rfl Try.ntmps22 rfl ?_
  intro e he
  have p_0 : e 0 = Value.agg (ua .u8 (Lm.dg 256 64 A)) := he 0 _ rfl
  have H := Hp.start w0 []
  refine W_seq ?_
  refine W_rg ?_
  refine L_box rfl H p_0 (cs := ua .u8 (Lm.dg 256 64 A)) rfl ?_; intro bk1 w_2 H_2
  refine L_alloc rfl H_2 T_zero23 ?_; intro bk2 w_3 H_3
  refine L_nil ?_
  refine Th_n ?_
  refine W_seq ?_
  refine W_rg ?_
  refine L_y rfl (Y_slA T_arr32 rfl) ?_
  refine L_callv rfl rfl T_en28 (A1 rfl) ((rrest_n 64 64 bk1 32 (Lm.dg 256 64 A) (b64_wd A) (by decide) _ (H_3.get 1 rfl)).mono (fun r_ w' h => (⟨Lm.dv 256 (Lm.dg 256 64 A) % Lm.ord, rfl, h⟩ : ∃ (N4 : Nat), N4 = Lm.dv 256 (Lm.dg 256 64 A) % Lm.ord ∧ r_ = .returned (Value.agg (ua .u8 (Lm.b32 N4))) ∧ Keep w_3 w'))) ?_
  rintro _ w_4 ⟨N4, hN4, rfl, hkp⟩; refine ⟨_, rfl, ?_⟩; have H_4 := H_3.keep hkp
  refine L_str (ds := ua .u8 (Lm.b32 N4)) T_row23 H_4 (i := 0) rfl rfl rfl rfl (by rw [ua_size]; exact (b32_wd N4).1) (ua_one _ _) (l' := [.blk bk2 23 (ua .u8 (Lm.b32 N4)), .blk bk1 32 (ua .u8 (Lm.dg 256 64 A))]) rfl ?_; intro w_5 H_5
  refine L_nil ?_
  refine Th_n ?_
  refine W_ret ?_
  refine P_ret (vs := [Value.agg (ua .u8 (Lm.b32 N4))]) (v := Value.agg (ua .u8 (Lm.b32 N4))) rfl (.cell rfl (loadVar_row T_row23 H_5 (i := 0) rfl (by rw [ua_size]; exact (b32_wd N4).1)) (Res.nil)) rfl ?_
  refine ⟨?_, H_5.nil_⟩
  rw [hN4, Lm.dv_dg 256 64 A hA]

theorem rplus_n (A B : Nat) (hA : A < 115792089237316195423570985008687907853269984665640564039457584007913129639936) (hB : B < 115792089237316195423570985008687907853269984665640564039457584007913129639936) (w0 : World) :
    Calls Try.prog 14 #[Value.agg (ua .u8 (Lm.b32 A)), Value.agg (ua .u8 (Lm.b32 B))] w0 (fun r_ w' => r_ = .returned (.agg (ua .u8 (Lm.b32 ((A + B) % Lm.ord)))) ∧ Keep w0 w') := by
  refine F_in Try.func14 rfl Try.ntmps14 rfl ?_
  intro e he
  have p_0 : e 0 = Value.agg (ua .u8 (Lm.b32 A)) := he 0 _ rfl
  have p_1 : e 1 = Value.agg (ua .u8 (Lm.b32 B)) := he 1 _ rfl
  have H := Hp.start w0 []
  refine W_seq ?_
  refine W_rg ?_
  refine L_box rfl H p_0 (cs := ua .u8 (Lm.b32 A)) rfl ?_; intro bk2 w_2 H_2
  refine L_box rfl H_2 p_1 (cs := ua .u8 (Lm.b32 B)) rfl ?_; intro bk3 w_3 H_3
  refine L_alloc rfl H_3 T_zero23 ?_; intro bk4 w_4 H_4
  refine L_nil ?_
  refine Th_n ?_
  refine W_seq ?_
  refine W_rg ?_
  refine L_alloc rfl H_4 T_zero50 ?_; intro bk5 w_5 H_5
  refine L_nil ?_
  refine Th_n ?_
  refine W_seq ?_
  refine W_rg ?_
  refine L_as rfl ?_
  refine L_nil ?_
  refine Th_n ?_
  refine W_seq ?_
  refine W_seq ?_
  refine W_rg ?_
  refine L_as rfl ?_
  refine L_nil ?_
  refine Th_n ?_
  refine W_block ?_
  refine W_loop (fun mu_ e w => ∃ i : Nat, ∃ c : Nat, ∃ l : List Nat, mu_ = 32 - i ∧ e 2 = Value.pointer (some ⟨bk2, 0, none⟩) ∧ e 3 = Value.pointer (some ⟨bk3, 0, none⟩) ∧ e 4 = Value.pointer (some ⟨bk4, 0, none⟩) ∧ e 5 = Value.pointer (some ⟨bk5, 0, none⟩) ∧ e 6 = Value.int .i64 ((c : Nat) : Int) ∧ e 7 = Value.int .i64 ((i : Nat) : Int) ∧ Hp w0 [] w [.blk bk5 50 (ua .u8 l), .blk bk4 23 (ua .u8 [0, 0, 0, 0, 0, 0, 0, 0, 0, 0, 0, 0, 0, 0, 0, 0, 0, 0, 0, 0, 0, 0, 0, 0, 0, 0, 0, 0, 0, 0, 0, 0]), .blk bk3 23 (ua .u8 (Lm.b32 B)), .blk bk2 23 (ua .u8 (Lm.b32 A))] ∧ i ≤ 32 ∧ c ≤ 1 ∧ Wd 33 256 l ∧ (∀ j, i ≤ j → l.getD j 0 = 0) ∧ Lm.dv 256 l + 256 ^ i * c = A % 256 ^ i + B % 256 ^ i) _ ⟨0, 0, [0, 0, 0, 0, 0, 0, 0, 0, 0, 0, 0, 0, 0, 0, 0, 0, 0, 0, 0, 0, 0, 0, 0, 0, 0, 0, 0, 0, 0, 0, 0, 0, 0], rfl, rfl, rfl, rfl, rfl, rfl, rfl, H_5, (by decide), (by decide), ⟨rfl, by decide⟩, (Lm.hz_zero 33 0), (Lm.sum_start A B 33)⟩ ?_
  rintro mu_ e_2 w_6 ⟨i, c, l, rfl, e_2_2, e_2_3, e_2_4, e_2_5, e_2_6, e_2_7, H_6, hi, hc1, hl, hz, hV⟩
  refine W_seq ?_
  refine W_seq ?_
  refine W_rg ?_
  refine L_mv rfl ?_
  refine L_y rfl (Y_lss (k := .i64) (a := ((i : Nat) : Int)) (b := ((32 : Nat) : Int)) e_2_7 rfl) ?_
  refine L_nil ?_
  refine Th_n ?_
  refine W_cond (b := (decide (((i : Nat) : Int) < ((32 : Nat) : Int)))) rfl (fun hc => ?_) (fun hc => ?_)
  ·
    have hc' := of_decide_eq_true hc
    refine W_skip ?_
    refine Th_n ?_
    refine W_seq ?_
    refine W_block ?_
    refine W_seq ?_
    obtain ⟨x15, hx15⟩ : ∃ u, (Lm.b32 A)[i]? = some u := ⟨_, List.getElem?_eq_getElem (by have := (b32_wd A).1; omega)⟩
    have rx15 := (b32_wd A).2 _ (List.mem_of_getElem? hx15)
    obtain ⟨x20, hx20⟩ : ∃ u, (Lm.b32 B)[i]? = some u := ⟨_, List.getElem?_eq_getElem (by have := (b32_wd B).1; omega)⟩
    have rx20 := (b32_wd B).2 _ (List.mem_of_getElem? hx20)
    refine W_quiet H_6 10 [Value.int .i64 ((c : Nat) : Int), Value.int .i64 ((i : Nat) : Int), Value.pointer (some ⟨bk2, i, none⟩), Value.int .u8 ((x15 : Nat) : Int), Value.int .i64 ((x15 : Nat) : Int), Value.int .i64 ((c + x15 : Nat) : Int), Value.int .i64 ((i : Nat) : Int), Value.pointer (some ⟨bk3, i, none⟩), Value.int .u8 ((x20 : Nat) : Int), Value.int .i64 ((x20 : Nat) : Int)] T_mixed (by kernel_rfl) ?_ ?_
    ·
      refine .plain rfl (Pl_y rfl (fun w hBw => congrArg (fun v => Result.ok (Next.value v) w) e_2_6)) ?_
      refine .plain rfl (Pl_y rfl (fun w hBw => congrArg (fun v => Result.ok (Next.value v) w) e_2_7)) ?_
      refine .plain rfl (Pl_y rfl (fun w hBw => Y_idxA i i T_arr23 e_2_2 rfl rfl (by omega) (zz1 _))) ?_
      refine .plain rfl (Pl_y rfl (fun w hBw => Y_ld T_scal5 hBw (i := 3) rfl rfl (ua_get hx15))) ?_
      refine .plain rfl (Pl_y rfl (fun w hBw => Y_convI (k := .u8) (n := ((x15 : Nat) : Int)) (z := ((x15 : Nat) : Int)) T_some5 T_kind3 rfl (wi (by exact ⟨rfl, by omega, by have := rx15; omega⟩)))) ?_
      refine .plain rfl (Pl_y rfl (fun w hBw => Y_add (k := .i64) (a := ((c : Nat) : Int)) (b := ((x15 : Nat) : Int)) (z := ((c + x15 : Nat) : Int)) rfl rfl (wi (by omega)))) ?_
      refine .plain rfl (Pl_y rfl (fun w hBw => congrArg (fun v => Result.ok (Next.value v) w) e_2_7)) ?_
      refine .plain rfl (Pl_y rfl (fun w hBw => Y_idxA i i T_arr23 e_2_3 rfl rfl (by omega) (zz1 _))) ?_
      refine .plain rfl (Pl_y rfl (fun w hBw => Y_ld T_scal5 hBw (i := 2) rfl rfl (ua_get hx20))) ?_
      refine .plain rfl (Pl_y rfl (fun w hBw => Y_convI (k := .u8) (n := ((x20 : Nat) : Int)) (z := ((x20 : Nat) : Int)) T_some5 T_kind3 rfl (wi (by exact ⟨rfl, by omega, by have := rx20; omega⟩)))) ?_
      exact .nil _
    ·
      intro e_3 w_7 hAg H_7
      have e_3_2 : e_3 2 = Value.pointer (some ⟨bk2, 0, none⟩) := (hAg 2 rfl).trans e_2_2
      have e_3_3 : e_3 3 = Value.pointer (some ⟨bk3, 0, none⟩) := (hAg 3 rfl).trans e_2_3
      have e_3_4 : e_3 4 = Value.pointer (some ⟨bk4, 0, none⟩) := (hAg 4 rfl).trans e_2_4
      have e_3_5 : e_3 5 = Value.pointer (some ⟨bk5, 0, none⟩) := (hAg 5 rfl).trans e_2_5
      have e_3_7 : e_3 7 = Value.int .i64 ((i : Nat) : Int) := (hAg 7 rfl).trans e_2_7
      obtain ⟨x17, hx17⟩ : ∃ x : Nat, x = c + x15 := ⟨_, rfl⟩
      have e_3_17 : e_3 17 = Value.int .i64 ((x17 : Nat) : Int) := (hAg 17 rfl).trans (by rw [hx17]; exact rfl)
      have e_3_21 : e_3 21 = Value.int .i64 ((x20 : Nat) : Int) := (hAg 21 rfl).trans rfl
      refine L_y rfl (Y_add (k := .i64) (a := ((x17 : Nat) : Int)) (b := ((x20 : Nat) : Int)) (z := ((x17 + x20 : Nat) : Int)) e_3_17 e_3_21 (wi (by omega))) ?_
      refine L_as rfl ?_
      refine L_nil ?_
      refine Th_n ?_
      refine W_seq ?_
      refine W_rg ?_
      refine L_mv rfl ?_
      refine L_mv rfl ?_
      refine L_y rfl (Y_rem (k := .i64) (a := ((x17 + x20 : Nat) : Int)) (b := ((256 : Nat) : Int)) (z := (((x17 + x20) % 256 : Nat) : Int)) rfl rfl (by omega) rfl) ?_
      refine L_yr (z := ((x17 + x20) % 256) % 256) (m := 256) rfl (Y_convI (k := .i64) (n := (((x17 + x20) % 256 : Nat) : Int)) (z := ((((x17 + x20) % 256) % 256 : Nat) : Int)) T_some3 T_kind5 rfl (wrapM rfl rfl)) (Nat.mod_lt _ (by decide)) ?_; intro x26 hx26 rx26
      refine L_y rfl (Y_idxA i i T_arr50 e_3_5 e_3_7 rfl (by omega) (zz1 _)) ?_
      refine L_st (v := Value.int .u8 ((x26 : Nat) : Int)) T_scal5 H_7 (i := 0) rfl rfl rfl rfl (by rw [ua_size]; have := hl.1; omega) (l' := [.blk bk5 50 (ua .u8 (l.set i x26)), .blk bk4 23 (ua .u8 [0, 0, 0, 0, 0, 0, 0, 0, 0, 0, 0, 0, 0, 0, 0, 0, 0, 0, 0, 0, 0, 0, 0, 0, 0, 0, 0, 0, 0, 0, 0, 0]), .blk bk3 23 (ua .u8 (Lm.b32 B)), .blk bk2 23 (ua .u8 (Lm.b32 A))]) (by rw [ua_set]; rfl) ?_; intro w_8 H_8
      refine L_nil ?_
      refine Th_n ?_
      refine W_rg ?_
      refine L_mv rfl ?_
      refine L_y rfl (Y_quo (k := .i64) (a := ((x17 + x20 : Nat) : Int)) (b := ((256 : Nat) : Int)) (z := (((x17 + x20) / 256 : Nat) : Int)) rfl rfl (by omega) (wiq (by omega))) ?_
      refine L_as rfl ?_
      refine L_nil ?_
      refine InB_n ?_
      refine Th_n ?_
      refine W_rg ?_
      refine L_mv rfl ?_
      refine L_y rfl (Y_add (k := .i64) (a := ((i : Nat) : Int)) (b := ((1 : Nat) : Int)) (z := ((i + 1 : Nat) : Int)) e_3_7 rfl (wi (by omega))) ?_
      refine L_as rfl ?_
      refine L_nil ?_
      refine Th_n ⟨_, ?_, i + 1, (x17 + x20) / 256, l.set i x26, rfl, e_3_2, e_3_3, e_3_4, e_3_5, rfl, rfl, H_8, (by omega), (by omega), (Wd.set hl (by assumption)), (Lm.hz_set hz), (Lm.sum_step (by have := hl.1; omega) (hz i (Nat.le_refl _)) (Lm.b32_get hx15).2 (Lm.b32_get hx20).2 (by rw [hx17]) hx26 rfl hV)⟩
      omega
  ·
    have hc' := of_decide_eq_false hc
    refine W_exit ?_
    refine Th_x ?_
    refine Th_x ?_
    refine InB_hit ?_
    refine Th_n ?_
    refine W_seq ?_
    refine W_rg ?_
    refine L_mv rfl ?_
    refine L_yr (z := c % 256) (m := 256) rfl (Y_convI (k := .i64) (n := ((c : Nat) : Int)) (z := ((c % 256 : Nat) : Int)) T_some3 T_kind5 e_2_6 (wrapM rfl rfl)) (Nat.mod_lt _ (by decide)) ?_; intro x31 hx31 rx31
    refine L_y rfl (Y_idxA 32 32 T_arr50 e_2_5 rfl rfl (by decide) (zz1 _)) ?_
    refine L_st (v := Value.int .u8 ((x31 : Nat) : Int)) T_scal5 H_6 (i := 0) rfl rfl rfl rfl (by rw [ua_size]; have := hl.1; omega) (l' := [.blk bk5 50 (ua .u8 (l.set 32 x31)), .blk bk4 23 (ua .u8 [0, 0, 0, 0, 0, 0, 0, 0, 0, 0, 0, 0, 0, 0, 0, 0, 0, 0, 0, 0, 0, 0, 0, 0, 0, 0, 0, 0, 0, 0, 0, 0]), .blk bk3 23 (ua .u8 (Lm.b32 B)), .blk bk2 23 (ua .u8 (Lm.b32 A))]) (by rw [ua_set]; rfl) ?_; intro w_9 H_9
    refine L_nil ?_
    refine Th_n ?_
    refine W_seq ?_
    refine W_rg ?_
    refine L_y rfl (Y_slA T_arr50 e_2_5) ?_
    refine L_callv rfl rfl T_en28 (A1 rfl) ((rrest_n 33 33 bk5 50 (l.set 32 x31) (Wd.set hl rx31) (by decide) _ (H_9.get 0 rfl)).mono (fun r_ w' h => (⟨Lm.dv 256 (l.set 32 x31) % Lm.ord, rfl, h⟩ : ∃ (N34 : Nat), N34 = Lm.dv 256 (l.set 32 x31) % Lm.ord ∧ r_ = .returned (Value.agg (ua .u8 (Lm.b32 N34))) ∧ Keep w_9 w'))) ?_
    rintro _ w_10 ⟨N34, hN34, rfl, hkp⟩; refine ⟨_, rfl, ?_⟩; have H_10 := H_9.keep hkp
    refine L_str (ds := ua .u8 (Lm.b32 N34)) T_row23 H_10 (i := 1) rfl e_2_4 rfl rfl (by rw [ua_size]; exact (b32_wd N34).1) (ua_one _ _) (l' := [.blk bk5 50 (ua .u8 (l.set 32 x31)), .blk bk4 23 (ua .u8 (Lm.b32 N34)), .blk bk3 23 (ua .u8 (Lm.b32 B)), .blk bk2 23 (ua .u8 (Lm.b32 A))]) rfl ?_; intro w_11 H_11
    refine L_nil ?_
    refine Th_n ?_
    refine W_ret ?_
    refine P_ret (vs := [Value.agg (ua .u8 (Lm.b32 N34))]) (v := Value.agg (ua .u8 (Lm.b32 N34))) rfl (.cell e_2_4 (loadVar_row T_row23 H_11 (i := 1) rfl (by rw [ua_size]; exact (b32_wd N34).1)) (Res.nil)) rfl ?_
    refine ⟨?_, H_11.nil_⟩
    rw [hN34, Lm.sum_end hl.1 (by omega) hi hz hA hB hx31 hc1 hV]
end Go.Proofs.Ythjdikgdhmlmcaa
