/- Walks of layer 2 and of its reference. Printed by residue.py. -/
import Derived.Test.YthjdikgdhmlmcaaE9
namespace Go.Proofs.Ythjdikgdhmlmcaa
open Go.Ev
theorem T_zero32 : zeroOf Try.prog 32 = some (ua .u8 [0, 0, 0, 0, 0, 0, 0, 0, 0, 0, 0, 0, 0, 0, 0, 0, 0, 0, 0, 0, 0, 0, 0, 0, 0, 0, 0, 0, 0, 0, 0, 0, 0, 0, 0, 0, 0, 0, 0, 0, 0, 0, 0, 0, 0, 0, 0, 0, 0, 0, 0, 0, 0, 0, 0, 0, 0, 0, 0, 0, 0, 0, 0, 0]) := by kernel_rfl
theorem rtimes_n (A B : Nat) (hA : A < 115792089237316195423570985008687907853269984665640564039457584007913129639936) (hB : B < 115792089237316195423570985008687907853269984665640564039457584007913129639936) (w0 : World) :
    Calls Try.prog 9 #[Value.agg (ua .u8 (Lm.b32 A)), Value.agg (ua .u8 (Lm.b32 B))] w0 (fun r_ w' => r_ = .returned (.agg (ua .u8 (Lm.b32 (A * B % Lm.ord)))) ∧ Keep w0 w') := by
  refine F_in Try.func9 rfl Try.ntmps9 rfl ?_
  intro e he
  have p_0 : e 0 = Value.agg (ua .u8 (Lm.b32 A)) := he 0 _ rfl
  have p_1 : e 1 = Value.agg (ua .u8 (Lm.b32 B)) := he 1 _ rfl
  have H := Hp.start w0 []
  refine W_seq ?_
  refine W_rg ?_
  refine L_box rfl H p_0 (cs := ua .u8 (Lm.b32 A)) rfl ?_; intro bk2 w_2 H_2
  refine L_box rfl H_2 p_1 (cs := ua .u8 (Lm.b32 B)) rfl ?_; intro bk3 w_3 H_3
  refine L_alloc rfl H_3 T_zero23 ?_; intro bk4 w_4 H_4
  refine L_nil ?_
  refine Th_n ?_
  refine W_seq ?_
  refine W_rg ?_
  refine L_alloc rfl H_4 T_zero32 ?_; intro bk5 w_5 H_5
  refine L_nil ?_
  refine Th_n ?_
  refine W_seq ?_
  refine W_seq ?_
  refine W_rg ?_
  refine L_as rfl ?_
  refine L_nil ?_
  refine Th_n ?_
  refine W_block ?_
  refine W_loop (fun mu_ e w => ∃ i : Nat, ∃ l : List Nat, mu_ = 32 - i ∧ e 2 = Value.pointer (some ⟨bk2, 0, none⟩) ∧ e 3 = Value.pointer (some ⟨bk3, 0, none⟩) ∧ e 4 = Value.pointer (some ⟨bk4, 0, none⟩) ∧ e 5 = Value.pointer (some ⟨bk5, 0, none⟩) ∧ e 6 = Value.int .i64 ((i : Nat) : Int) ∧ Hp w0 [] w [.blk bk5 32 (ua .u8 l), .blk bk4 23 (ua .u8 [0, 0, 0, 0, 0, 0, 0, 0, 0, 0, 0, 0, 0, 0, 0, 0, 0, 0, 0, 0, 0, 0, 0, 0, 0, 0, 0, 0, 0, 0, 0, 0]), .blk bk3 23 (ua .u8 (Lm.b32 B)), .blk bk2 23 (ua .u8 (Lm.b32 A))] ∧ i ≤ 32 ∧ Wd 64 256 l ∧ Lm.dv 256 l = Lm.dv 256 ((Lm.b32 A).take i) * Lm.dv 256 (Lm.b32 B)) _ ⟨0, [0, 0, 0, 0, 0, 0, 0, 0, 0, 0, 0, 0, 0, 0, 0, 0, 0, 0, 0, 0, 0, 0, 0, 0, 0, 0, 0, 0, 0, 0, 0, 0, 0, 0, 0, 0, 0, 0, 0, 0, 0, 0, 0, 0, 0, 0, 0, 0, 0, 0, 0, 0, 0, 0, 0, 0, 0, 0, 0, 0, 0, 0, 0, 0], rfl, rfl, rfl, rfl, rfl, rfl, H_5, (by decide), ⟨rfl, by decide⟩, (Lm.mul_start0 256 64 _ _)⟩ ?_
  rintro mu_ e_2 w_6 ⟨i, l, rfl, e_2_2, e_2_3, e_2_4, e_2_5, e_2_6, H_6, hi, hl, hV⟩
  refine W_seq ?_
  refine W_seq ?_
  refine W_rg ?_
  refine L_mv rfl ?_
  refine L_y rfl (Y_lss (k := .i64) (a := ((i : Nat) : Int)) (b := ((32 : Nat) : Int)) e_2_6 rfl) ?_
  refine L_nil ?_
  refine Th_n ?_
  refine W_cond (b := (decide (((i : Nat) : Int) < ((32 : Nat) : Int)))) rfl (fun hc => ?_) (fun hc => ?_)
  ·
    have hc' := of_decide_eq_true hc
    refine W_skip ?_
    refine Th_n ?_
    refine W_seq ?_
    refine W_block ?_
    refine W_seq ?_
    refine W_rg ?_
    refine L_as rfl ?_
    refine L_nil ?_
    refine Th_n ?_
    refine W_seq ?_
    refine W_seq ?_
    refine W_rg ?_
    refine L_as rfl ?_
    refine L_nil ?_
    refine Th_n ?_
    refine W_block ?_
    refine W_loop (fun mu_ e w => ∃ k : Nat, ∃ m : List Nat, ∃ c : Nat, mu_ = 32 - k ∧ e 2 = Value.pointer (some ⟨bk2, 0, none⟩) ∧ e 3 = Value.pointer (some ⟨bk3, 0, none⟩) ∧ e 4 = Value.pointer (some ⟨bk4, 0, none⟩) ∧ e 5 = Value.pointer (some ⟨bk5, 0, none⟩) ∧ e 6 = Value.int .i64 ((i : Nat) : Int) ∧ e 7 = Value.int .i64 ((c : Nat) : Int) ∧ e 8 = Value.int .i64 ((k : Nat) : Int) ∧ Hp w0 [] w [.blk bk5 32 (ua .u8 m), .blk bk4 23 (ua .u8 [0, 0, 0, 0, 0, 0, 0, 0, 0, 0, 0, 0, 0, 0, 0, 0, 0, 0, 0, 0, 0, 0, 0, 0, 0, 0, 0, 0, 0, 0, 0, 0]), .blk bk3 23 (ua .u8 (Lm.b32 B)), .blk bk2 23 (ua .u8 (Lm.b32 A))] ∧ k ≤ 32 ∧ Wd 64 256 m ∧ c < 256 ∧ Lm.dv 256 m + 256 ^ (i + k) * c = Lm.dv 256 ((Lm.b32 A).take i) * Lm.dv 256 (Lm.b32 B) + 256 ^ i * ((Lm.b32 A).getD i 0 * Lm.dv 256 ((Lm.b32 B).take k)) ∧ m.getD (i + 32) 0 = 0) _ ⟨0, l, 0, rfl, e_2_2, e_2_3, e_2_4, e_2_5, e_2_6, rfl, rfl, H_6, (by omega), hl, (by decide), (Lm.mulg_begin hV), (Lm.mulg_start (p := 32) hl.1 (by omega) (Lm.b32_length A) (Lm.b32_length B) (Lm.b32_lt A) (Lm.b32_lt B) hV)⟩ ?_
    rintro mu_ e_3 w_7 ⟨k, m, c, rfl, e_3_2, e_3_3, e_3_4, e_3_5, e_3_6, e_3_7, e_3_8, H_7, hk, hm, hc1, hW, hz⟩
    refine W_seq ?_
    refine W_seq ?_
    refine W_rg ?_
    refine L_mv rfl ?_
    refine L_y rfl (Y_lss (k := .i64) (a := ((k : Nat) : Int)) (b := ((32 : Nat) : Int)) e_3_8 rfl) ?_
    refine L_nil ?_
    refine Th_n ?_
    refine W_cond (b := (decide (((k : Nat) : Int) < ((32 : Nat) : Int)))) rfl (fun hc_2 => ?_) (fun hc_2 => ?_)
    ·
      have hc_2' := of_decide_eq_true hc_2
      refine W_skip ?_
      refine Th_n ?_
      refine W_seq ?_
      refine W_block ?_
      refine W_seq ?_
      obtain ⟨x22, hx22⟩ : ∃ u, m[i + k]? = some u := ⟨_, List.getElem?_eq_getElem (by have := hm.1; omega)⟩
      have rx22 := hm.2 _ (List.mem_of_getElem? hx22)
      obtain ⟨x27, hx27⟩ : ∃ u, (Lm.b32 A)[i]? = some u := ⟨_, List.getElem?_eq_getElem (by have := (b32_wd A).1; omega)⟩
      have rx27 := (b32_wd A).2 _ (List.mem_of_getElem? hx27)
      obtain ⟨x31, hx31⟩ : ∃ u, (Lm.b32 B)[k]? = some u := ⟨_, List.getElem?_eq_getElem (by have := (b32_wd B).1; omega)⟩
      have rx31 := (b32_wd B).2 _ (List.mem_of_getElem? hx31)
      refine W_quiet H_7 17 [Value.int .i64 ((c : Nat) : Int), Value.int .i64 ((i : Nat) : Int), Value.int .i64 ((k : Nat) : Int), Value.int .i64 ((i + k : Nat) : Int), Value.pointer (some ⟨bk5, i + k, none⟩), Value.int .u8 ((x22 : Nat) : Int), Value.int .i64 ((x22 : Nat) : Int), Value.int .i64 ((c + x22 : Nat) : Int), Value.int .i64 ((i : Nat) : Int), Value.pointer (some ⟨bk2, i, none⟩), Value.int .u8 ((x27 : Nat) : Int), Value.int .i64 ((x27 : Nat) : Int), Value.int .i64 ((k : Nat) : Int), Value.pointer (some ⟨bk3, k, none⟩), Value.int .u8 ((x31 : Nat) : Int), Value.int .i64 ((x31 : Nat) : Int), Value.int .i64 ((x27 * x31 : Nat) : Int)] T_mixed (by kernel_rfl) ?_ ?_
      ·
        refine .plain rfl (Pl_y rfl (fun w hBw => congrArg (fun v => Result.ok (Next.value v) w) e_3_7)) ?_
        refine .plain rfl (Pl_y rfl (fun w hBw => congrArg (fun v => Result.ok (Next.value v) w) e_3_6)) ?_
        refine .plain rfl (Pl_y rfl (fun w hBw => congrArg (fun v => Result.ok (Next.value v) w) e_3_8)) ?_
        refine .plain rfl (Pl_y rfl (fun w hBw => Y_add (k := .i64) (a := ((i : Nat) : Int)) (b := ((k : Nat) : Int)) (z := ((i + k : Nat) : Int)) rfl rfl (wi (by omega)))) ?_
        refine .plain rfl (Pl_y rfl (fun w hBw => Y_idxA (i + k) (i + k) T_arr32 e_3_5 rfl rfl (by omega) (zz1 _))) ?_
        refine .plain rfl (Pl_y rfl (fun w hBw => Y_ld T_scal5 hBw (i := 0) rfl rfl (ua_get hx22))) ?_
        refine .plain rfl (Pl_y rfl (fun w hBw => Y_convI (k := .u8) (n := ((x22 : Nat) : Int)) (z := ((x22 : Nat) : Int)) T_some5 T_kind3 rfl (wi (by exact ⟨rfl, by omega, by have := rx22; omega⟩)))) ?_
        refine .plain rfl (Pl_y rfl (fun w hBw => Y_add (k := .i64) (a := ((c : Nat) : Int)) (b := ((x22 : Nat) : Int)) (z := ((c + x22 : Nat) : Int)) rfl rfl (wi (by omega)))) ?_
        refine .plain rfl (Pl_y rfl (fun w hBw => congrArg (fun v => Result.ok (Next.value v) w) e_3_6)) ?_
        refine .plain rfl (Pl_y rfl (fun w hBw => Y_idxA i i T_arr23 e_3_2 rfl rfl (by omega) (zz1 _))) ?_
        refine .plain rfl (Pl_y rfl (fun w hBw => Y_ld T_scal5 hBw (i := 3) rfl rfl (ua_get hx27))) ?_
        refine .plain rfl (Pl_y rfl (fun w hBw => Y_convI (k := .u8) (n := ((x27 : Nat) : Int)) (z := ((x27 : Nat) : Int)) T_some5 T_kind3 rfl (wi (by exact ⟨rfl, by omega, by have := rx27; omega⟩)))) ?_
        refine .plain rfl (Pl_y rfl (fun w hBw => congrArg (fun v => Result.ok (Next.value v) w) e_3_8)) ?_
        refine .plain rfl (Pl_y rfl (fun w hBw => Y_idxA k k T_arr23 e_3_3 rfl rfl (by omega) (zz1 _))) ?_
        refine .plain rfl (Pl_y rfl (fun w hBw => Y_ld T_scal5 hBw (i := 2) rfl rfl (ua_get hx31))) ?_
        refine .plain rfl (Pl_y rfl (fun w hBw => Y_convI (k := .u8) (n := ((x31 : Nat) : Int)) (z := ((x31 : Nat) : Int)) T_some5 T_kind3 rfl (wi (by exact ⟨rfl, by omega, by have := rx31; omega⟩)))) ?_
        refine .plain rfl (Pl_y rfl (fun w hBw => Y_mul (k := .i64) (a := ((x27 : Nat) : Int)) (b := ((x31 : Nat) : Int)) (z := ((x27 * x31 : Nat) : Int)) rfl rfl (wi (by have hq := Lm.prod8 rx27 rx31; omega)))) ?_
        exact .nil _
      ·
        intro e_4 w_8 hAg H_8
        have e_4_2 : e_4 2 = Value.pointer (some ⟨bk2, 0, none⟩) := (hAg 2 rfl).trans e_3_2
        have e_4_3 : e_4 3 = Value.pointer (some ⟨bk3, 0, none⟩) := (hAg 3 rfl).trans e_3_3
        have e_4_4 : e_4 4 = Value.pointer (some ⟨bk4, 0, none⟩) := (hAg 4 rfl).trans e_3_4
        have e_4_5 : e_4 5 = Value.pointer (some ⟨bk5, 0, none⟩) := (hAg 5 rfl).trans e_3_5
        have e_4_6 : e_4 6 = Value.int .i64 ((i : Nat) : Int) := (hAg 6 rfl).trans e_3_6
        have e_4_8 : e_4 8 = Value.int .i64 ((k : Nat) : Int) := (hAg 8 rfl).trans e_3_8
        obtain ⟨x24, hx24⟩ : ∃ x : Nat, x = c + x22 := ⟨_, rfl⟩
        have e_4_24 : e_4 24 = Value.int .i64 ((x24 : Nat) : Int) := (hAg 24 rfl).trans (by rw [hx24]; exact rfl)
        obtain ⟨x33, hx33⟩ : ∃ x : Nat, x = x27 * x31 := ⟨_, rfl⟩
        have e_4_33 : e_4 33 = Value.int .i64 ((x33 : Nat) : Int) := (hAg 33 rfl).trans (by rw [hx33]; exact rfl)
        refine L_y rfl (Y_add (k := .i64) (a := ((x24 : Nat) : Int)) (b := ((x33 : Nat) : Int)) (z := ((x24 + x33 : Nat) : Int)) e_4_24 e_4_33 (wi (by have hq := Lm.prod8 rx27 rx31; omega))) ?_
        refine L_as rfl ?_
        refine L_nil ?_
        refine Th_n ?_
        refine W_seq ?_
        refine W_rg ?_
        refine L_mv rfl ?_
        refine L_mv rfl ?_
        refine L_y rfl (Y_add (k := .i64) (a := ((i : Nat) : Int)) (b := ((k : Nat) : Int)) (z := ((i + k : Nat) : Int)) e_4_6 e_4_8 (wi (by omega))) ?_
        refine L_mv rfl ?_
        refine L_y rfl (Y_rem (k := .i64) (a := ((x24 + x33 : Nat) : Int)) (b := ((256 : Nat) : Int)) (z := (((x24 + x33) % 256 : Nat) : Int)) rfl rfl (by omega) rfl) ?_
        refine L_yr (z := ((x24 + x33) % 256) % 256) (m := 256) rfl (Y_convI (k := .i64) (n := (((x24 + x33) % 256 : Nat) : Int)) (z := ((((x24 + x33) % 256) % 256 : Nat) : Int)) T_some3 T_kind5 rfl (wrapM rfl rfl)) (Nat.mod_lt _ (by decide)) ?_; intro x40 hx40 rx40
        refine L_y rfl (Y_idxA (i + k) (i + k) T_arr32 e_4_5 rfl rfl (by omega) (zz1 _)) ?_
        refine L_st (v := Value.int .u8 ((x40 : Nat) : Int)) T_scal5 H_8 (i := 0) rfl rfl rfl rfl (by rw [ua_size]; have := hm.1; omega) (l' := [.blk bk5 32 (ua .u8 (m.set (i + k) x40)), .blk bk4 23 (ua .u8 [0, 0, 0, 0, 0, 0, 0, 0, 0, 0, 0, 0, 0, 0, 0, 0, 0, 0, 0, 0, 0, 0, 0, 0, 0, 0, 0, 0, 0, 0, 0, 0]), .blk bk3 23 (ua .u8 (Lm.b32 B)), .blk bk2 23 (ua .u8 (Lm.b32 A))]) (by rw [ua_set]; rfl) ?_; intro w_9 H_9
        refine L_nil ?_
        refine Th_n ?_
        refine W_rg ?_
        refine L_mv rfl ?_
        refine L_y rfl (Y_quo (k := .i64) (a := ((x24 + x33 : Nat) : Int)) (b := ((256 : Nat) : Int)) (z := (((x24 + x33) / 256 : Nat) : Int)) rfl rfl (by omega) (wiq (by have hq := Lm.prod8 rx27 rx31; omega))) ?_
        refine L_as rfl ?_
        refine L_nil ?_
        refine InB_n ?_
        refine Th_n ?_
        refine W_rg ?_
        refine L_mv rfl ?_
        refine L_y rfl (Y_add (k := .i64) (a := ((k : Nat) : Int)) (b := ((1 : Nat) : Int)) (z := ((k + 1 : Nat) : Int)) e_4_8 rfl (wi (by omega))) ?_
        refine L_as rfl ?_
        refine L_nil ?_
        refine Th_n ⟨_, ?_, k + 1, m.set (i + k) x40, (x24 + x33) / 256, rfl, e_4_2, e_4_3, e_4_4, e_4_5, e_4_6, rfl, rfl, H_9, (by omega), (Wd.set hm (by assumption)), (Lm.carry8_lt rx27 rx31 rx22 hc1 (by rw [hx24, hx33]) rfl), (Lm.mulg_inner hx27 hx31 hx22 (by rw [hx24, hx33]) (Lm.mm8 hx40) rfl hW), (by rw [Lm.getD_set_ne (by omega)]; exact hz)⟩
        omega
    ·
      have hc_2' := of_decide_eq_false hc_2
      refine W_exit ?_
      refine Th_x ?_
      refine Th_x ?_
      refine InB_hit ?_
      refine Th_n ?_
      refine W_rg ?_
      refine L_mv rfl ?_
      refine L_y rfl (Y_add (k := .i64) (a := ((i : Nat) : Int)) (b := ((32 : Nat) : Int)) (z := ((i + 32 : Nat) : Int)) e_3_6 rfl (wi (by omega))) ?_
      refine L_mv rfl ?_
      refine L_yr (z := c % 256) (m := 256) rfl (Y_convI (k := .i64) (n := ((c : Nat) : Int)) (z := ((c % 256 : Nat) : Int)) T_some3 T_kind5 e_3_7 (wrapM rfl rfl)) (Nat.mod_lt _ (by decide)) ?_; intro x47 hx47 rx47
      refine L_y rfl (Y_idxA (i + 32) (i + 32) T_arr32 e_3_5 rfl rfl (by omega) (zz1 _)) ?_
      refine L_st (v := Value.int .u8 ((x47 : Nat) : Int)) T_scal5 H_7 (i := 0) rfl rfl rfl rfl (by rw [ua_size]; have := hm.1; omega) (l' := [.blk bk5 32 (ua .u8 (m.set (i + 32) x47)), .blk bk4 23 (ua .u8 [0, 0, 0, 0, 0, 0, 0, 0, 0, 0, 0, 0, 0, 0, 0, 0, 0, 0, 0, 0, 0, 0, 0, 0, 0, 0, 0, 0, 0, 0, 0, 0]), .blk bk3 23 (ua .u8 (Lm.b32 B)), .blk bk2 23 (ua .u8 (Lm.b32 A))]) (by rw [ua_set]; rfl) ?_; intro w_10 H_10
      refine L_nil ?_
      refine InB_n ?_
      refine Th_n ?_
      refine W_rg ?_
      refine L_mv rfl ?_
      refine L_y rfl (Y_add (k := .i64) (a := ((i : Nat) : Int)) (b := ((1 : Nat) : Int)) (z := ((i + 1 : Nat) : Int)) e_3_6 rfl (wi (by omega))) ?_
      refine L_as rfl ?_
      refine L_nil ?_
      refine Th_n ⟨_, ?_, i + 1, m.set (i + 32) x47, rfl, e_3_2, e_3_3, e_3_4, e_3_5, rfl, H_10, (by omega), (Wd.set hm (by assumption)), (by rw [Lm.low8 hc1 hx47]; exact Lm.mulg_outer (p := 32) hm.1 (by omega) (Lm.b32_length A) (Lm.b32_length B) hz (by rw [show 32 = k by omega]; exact hW))⟩
      omega
  ·
    have hc' := of_decide_eq_false hc
    refine W_exit ?_
    refine Th_x ?_
    refine Th_x ?_
    refine InB_hit ?_
    refine Th_n ?_
    refine W_seq ?_
    refine W_rg ?_
    refine L_y rfl (Y_slA T_arr32 e_2_5) ?_
    refine L_callv rfl rfl T_en28 (A1 rfl) ((rrest_n 64 64 bk5 32 l hl (by decide) _ (H_6.get 0 rfl)).mono (fun r_ w' h => (⟨Lm.dv 256 l % Lm.ord, rfl, h⟩ : ∃ (N50 : Nat), N50 = Lm.dv 256 l % Lm.ord ∧ r_ = .returned (Value.agg (ua .u8 (Lm.b32 N50))) ∧ Keep w_6 w'))) ?_
    rintro _ w_11 ⟨N50, hN50, rfl, hkp⟩; refine ⟨_, rfl, ?_⟩; have H_11 := H_6.keep hkp
    refine L_str (ds := ua .u8 (Lm.b32 N50)) T_row23 H_11 (i := 1) rfl e_2_4 rfl rfl (by rw [ua_size]; exact (b32_wd N50).1) (ua_one _ _) (l' := [.blk bk5 32 (ua .u8 l), .blk bk4 23 (ua .u8 (Lm.b32 N50)), .blk bk3 23 (ua .u8 (Lm.b32 B)), .blk bk2 23 (ua .u8 (Lm.b32 A))]) rfl ?_; intro w_12 H_12
    refine L_nil ?_
    refine Th_n ?_
    refine W_ret ?_
    refine P_ret (vs := [Value.agg (ua .u8 (Lm.b32 N50))]) (v := Value.agg (ua .u8 (Lm.b32 N50))) rfl (.cell e_2_4 (loadVar_row T_row23 H_12 (i := 1) rfl (by rw [ua_size]; exact (b32_wd N50).1)) (Res.nil)) rfl ?_
    refine ⟨?_, H_12.nil_⟩
    rw [hN50, hV, Lm.times8_fin hA hB (by omega) hi]
end Go.Proofs.Ythjdikgdhmlmcaa
