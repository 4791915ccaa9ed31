/- Walks of layer 2 and of its reference. Printed by residue.py. -/
import Derived.Test.YthjdikgdhmlmcaaE1
namespace Go.Proofs.Ythjdikgdhmlmcaa
open Go.Ev
theorem T_sl38 : slOf Try.prog 38 = some (30, 1) := by kernel_rfl
theorem T_en30 : enters Try.prog 30 = true := by kernel_rfl
theorem T_en31 : enters Try.prog 31 = true := by kernel_rfl
theorem less_spec (la : List Nat) (ha : Wd 4 18446744073709551616 la) (lb : List Nat) (hb : Wd 4 18446744073709551616 lb) (w0 : World) : Calls Try.prog 31 #[.agg (ua .u64 la), .agg (ua .u64 lb)] w0 (fun r_ w' => r_ = .returned (.tuple #[.agg (ua .u64 (Lm.w4 ((Lm.wv la + (115792089237316195423570985008687907853269984665640564039457584007913129639936 - Lm.wv lb)) % 115792089237316195423570985008687907853269984665640564039457584007913129639936))), .int .u64 ((if Lm.wv la < Lm.wv lb then 1 else 0 : Nat) : Int)]) ∧ Keep w0 w') := by
  obtain ⟨a0, a1, a2, a3, rfl, ra0, ra1, ra2, ra3⟩ := Wd.open4 ha
  obtain ⟨b0, b1, b2, b3, rfl, rb0, rb1, rb2, rb3⟩ := Wd.open4 hb
  exact less_w a0 a1 a2 a3 b0 b1 b2 b3 ra0 ra1 ra2 ra3 rb0 rb1 rb2 rb3 w0

theorem rest_n (n c g tt : Nat) (l : List Nat) (hl : Wd n 18446744073709551616 l) (hn : n ≤ 8) (w0 : World) (hg : w0.heap[g]? = some (.cells (ua .u64 l) tt (0, 0))) :
    Calls Try.prog 26 #[Value.slice (some ⟨g, 0, none⟩) n c] w0 (fun r_ w' => r_ = .returned (.agg (ua .u64 (Lm.w4 (Lm.wv l % Lm.ord)))) ∧ Keep w0 w') := by
  refine F_in Try.func26 rfl Try.ntmps26 rfl ?_
  intro e he
  have p_0 : e 0 = Value.slice (some ⟨g, 0, none⟩) n c := he 0 _ rfl
  have H := Hp.start w0 []
  refine W_seq ?_
  refine W_rg ?_
  refine L_alloc rfl H T_zero36 ?_; intro bk2 w_2 H_2
  refine L_nil ?_
  refine Th_n ?_
  refine W_seq ?_
  refine W_rg ?_
  refine L_alloc rfl H_2 T_zero36 ?_; intro bk3 w_3 H_3
  refine L_nil ?_
  refine Th_n ?_
  refine W_seq ?_
  refine W_seq ?_
  refine W_rg ?_
  refine L_mv rfl ?_
  refine L_y rfl (Y_lenS T_sl38 p_0) ?_
  refine L_y rfl (Y_mul (k := .i64) (a := ((64 : Nat) : Int)) (b := ((n : Nat) : Int)) (z := ((64 * n : Nat) : Int)) rfl rfl (wi (by omega))) ?_
  refine L_y rfl (Y_sub (k := .i64) (a := ((64 * n : Nat) : Int)) (b := ((1 : Nat) : Int)) (z := (((64 * n : Nat) : Int) - ((1 : Nat) : Int))) rfl rfl (wi (by omega))) ?_
  refine L_as rfl ?_
  refine L_nil ?_
  refine Th_n ?_
  refine W_block ?_
  refine W_loop (fun mu_ e w => ∃ j : Nat, ∃ v0 : Nat, ∃ v1 : Nat, ∃ v2 : Nat, ∃ v3 : Nat, mu_ = 2 * j ∧ e 0 = Value.slice (some ⟨g, 0, none⟩) n c ∧ e 2 = Value.pointer (some ⟨bk2, 0, none⟩) ∧ e 3 = Value.pointer (some ⟨bk3, 0, none⟩) ∧ e 4 = Value.int .i64 (((j : Nat) : Int) - ((1 : Nat) : Int)) ∧ Hp w0 [] w [.blk bk3 36 (ua .u64 [v0, v1, v2, v3]), .blk bk2 36 (ua .u64 [0, 0, 0, 0])] ∧ j ≤ 64 * n ∧ v0 < 18446744073709551616 ∧ v1 < 18446744073709551616 ∧ v2 < 18446744073709551616 ∧ v3 < 18446744073709551616 ∧ Lm.wv [v0, v1, v2, v3] = Lm.wv l / 2 ^ j % Lm.ord) _ ⟨64 * n, 0, 0, 0, 0, rfl, p_0, rfl, rfl, rfl, H_3, (Nat.le_refl _), (by decide), (by decide), (by decide), (by decide), (Lm.rest_init hl)⟩ ?_
  rintro mu_ e_2 w_4 ⟨j, v0, v1, v2, v3, rfl, e_2_0, e_2_2, e_2_3, e_2_4, H_4, hj, rv0, rv1, rv2, rv3, hw⟩
  refine W_seq ?_
  refine W_seq ?_
  refine W_rg ?_
  refine L_mv rfl ?_
  refine L_y rfl (Y_geq (k := .i64) (a := (((j : Nat) : Int) - ((1 : Nat) : Int))) (b := ((0 : Nat) : Int)) e_2_4 rfl) ?_
  refine L_nil ?_
  refine Th_n ?_
  refine W_cond (b := (decide (((0 : Nat) : Int) ≤ (((j : Nat) : Int) - ((1 : Nat) : Int))))) rfl (fun hc => ?_) (fun hc => ?_)
  ·
    obtain ⟨i, rfl⟩ : ∃ i, j = i + 1 := by have := of_decide_eq_true hc; exact ⟨j - 1, by omega⟩
    have ejm := e_2_4.trans (congrArg (Value.int .i64) (by omega : ((i + 1 : Nat) : Int) - ((1 : Nat) : Int) = ((i : Nat) : Int)))
    refine W_skip ?_
    refine Th_n ?_
    refine W_seq ?_
    refine W_block ?_
    refine W_seq ?_
    refine W_rg ?_
    refine L_mv rfl ?_
    refine L_mv rfl ?_
    refine L_y rfl (Y_quo (k := .i64) (a := ((i : Nat) : Int)) (b := ((64 : Nat) : Int)) (z := ((i / 64 : Nat) : Int)) ejm rfl (by omega) (wiq (by omega))) ?_
    refine L_y rfl (Y_idxS (i / 64) (i / 64) T_sl38 e_2_0 rfl rfl (by omega) (zz1 _)) ?_
    obtain ⟨x21, hx21⟩ : ∃ u, l[i / 64]? = some u := ⟨_, List.getElem?_eq_getElem (by have := hl.1; omega)⟩
    have rx21 := hl.2 _ (List.mem_of_getElem? hx21)
    refine L_y rfl (Y_ldb T_scal30 (H_4.oldB hg (by simp)) rfl (ua_get hx21)) ?_
    refine L_mv rfl ?_
    refine L_y rfl (Y_rem (k := .i64) (a := ((i : Nat) : Int)) (b := ((64 : Nat) : Int)) (z := ((i % 64 : Nat) : Int)) ejm rfl (by omega) rfl) ?_
    refine L_yr (z := x21 / 2 ^ (i % 64)) (m := 18446744073709551616) rfl (Yu_shr (k := .u64) x21 (i % 64) rx21 rfl rfl) (Nat.lt_of_le_of_lt (Nat.div_le_self _ _) rx21) ?_; intro x24 hx24 rx24
    refine L_yr (z := x24 &&& 1) (m := 18446744073709551616) rfl (Yu_and (k := .u64) rfl x24 1 rx24 (by decide) rfl rfl) (Nat.lt_of_le_of_lt (Nat.and_le_left) rx24) ?_; intro x25 hx25 rx25
    refine L_as rfl ?_
    refine L_nil ?_
    refine Th_n ?_
    refine W_seq ?_
    refine W_seq ?_
    refine W_rg ?_
    refine L_mv rfl ?_
    refine L_nil ?_
    refine Th_n ?_
    refine W_block ?_
    refine W_rounds 5 ?_
    refine Wr_s ?_
    refine W_seq ?_
    refine W_rg ?_
    refine L_y rfl (Y_lss (k := .i64) (a := ((0 : Nat) : Int)) (b := ((4 : Nat) : Int)) rfl rfl) ?_
    refine L_nil ?_
    refine Th_n ?_
    refine W_seq ?_
    refine W_true (congrArg Value.bool (by decide : (decide (((0 : Nat) : Int) < ((4 : Nat) : Int))) = true)) ?_
    refine W_skip ?_
    refine Th_n ?_
    refine W_seq ?_
    refine W_block ?_
    refine W_seq ?_
    refine W_rg ?_
    refine L_mv rfl ?_
    refine L_as rfl ?_
    refine L_nil ?_
    refine Th_n ?_
    refine W_anyS 13 [3, 9, 12] [12] [] [Value.int .i64 ((0 : Nat) : Int), Value.int .i64 ((0 : Nat) : Int), Value.pointer (some ⟨bk3, 0, none⟩), Value.int .u64 ((v0 : Nat) : Int), Value.int .u64 ((v0 * 2 ^ 1 % 18446744073709551616 : Nat) : Int), Value.int .u64 ((x25 : Nat) : Int), Value.int .u64 (((v0 * 2 ^ 1 % 18446744073709551616) ||| x25 : Nat) : Int), Value.int .i64 ((0 : Nat) : Int), Value.pointer (some ⟨bk3, 0, none⟩), Value.int .u64 ((v0 : Nat) : Int), Value.int .u64 ((v0 / 2 ^ 63 : Nat) : Int), Value.pointer (some ⟨bk3, 0, none⟩), undef] (fun w => w.heap[bk2]? = some (.cells (ua .u64 [0, 0, 0, 0]) 36 (0, 0)) ∧ w.heap[g]? = some (.cells (ua .u64 l) tt (0, 0))) [fun vs w => Hp w0 [] w [.blk bk3 36 (ua .u64 [v0, v1, v2, v3]), .blk bk2 36 (ua .u64 [0, 0, 0, 0])], fun vs w => Hp w0 [] w [.blk bk3 36 (ua .u64 [v0, v1, v2, v3]), .blk bk2 36 (ua .u64 [0, 0, 0, 0])], fun vs w => Hp w0 [] w [.blk bk3 36 (ua .u64 [v0, v1, v2, v3]), .blk bk2 36 (ua .u64 [0, 0, 0, 0])], fun vs w => Hp w0 [] w [.blk bk3 36 (ua .u64 [v0, v1, v2, v3]), .blk bk2 36 (ua .u64 [0, 0, 0, 0])], fun _ _ => False, fun _ _ => False, fun _ _ => False, fun vs w => Hp w0 [] w [.blk bk3 36 (ua .u64 [(v0 * 2 ^ 1 % 18446744073709551616) ||| x25, v1, v2, v3]), .blk bk2 36 (ua .u64 [0, 0, 0, 0])]] T_mixed (by kernel_rfl) ⟨fun _ _ H => ⟨H.get 1 rfl, H.oldB hg (by simp)⟩, fun _ _ H => ⟨H.get 1 rfl, H.oldB hg (by simp)⟩, fun _ _ H => ⟨H.get 1 rfl, H.oldB hg (by simp)⟩, fun _ _ H => ⟨H.get 1 rfl, H.oldB hg (by simp)⟩, fun _ _ h => h.elim, fun _ _ h => h.elim, fun _ _ h => h.elim, fun _ _ H => ⟨H.get 1 rfl, H.oldB hg (by simp)⟩, trivial⟩ ⟨fun _ _ _ hkp H => H.keep hkp, fun _ _ _ hkp H => H.keep hkp, fun _ _ _ hkp H => H.keep hkp, fun _ _ _ hkp H => H.keep hkp, fun _ _ _ _ h => h.elim, fun _ _ _ _ h => h.elim, fun _ _ _ _ h => h.elim, fun _ _ _ hkp H => H.keep hkp, trivial⟩ H_4 ?_ ?_
    ·
      refine .plain rfl (Pl_y rfl (fun w hBw => rfl)) ?_
      refine .plain rfl (Pl_y rfl (fun w hBw => rfl)) ?_
      refine .plain rfl (Pl_y rfl (fun w hBw => Y_idxA 0 0 T_arr36 e_2_3 rfl rfl (by decide) (zz1 _))) ?_
      refine .special 0 rfl (Special.ofD ⟨⟨⟨⟨⟨⟨⟨⟨trivial, fun _ _ _ e' w' hAg hYs => by
          have H : Hp w0 [] w' [.blk bk3 36 (ua .u64 [v0, v1, v2, v3]), .blk bk2 36 (ua .u64 [0, 0, 0, 0])] := hYs
          exact ⟨rfl, Yl.dn (Y_ld T_scal30 H (i := 0) rfl ((hAg 31 rfl).trans rfl) rfl) ⟨(fun d hd => by cases hd; rfl), H⟩⟩⟩, fun h => absurd h (by decide)⟩, fun _ _ _ e' w' hAg hYs => by
          have H : Hp w0 [] w' [.blk bk3 36 (ua .u64 [v0, v1, v2, v3]), .blk bk2 36 (ua .u64 [0, 0, 0, 0])] := hYs
          exact ⟨rfl, Yl.dn (Y_ld T_scal30 H (i := 0) rfl ((hAg 31 rfl).trans rfl) rfl) ⟨(fun d hd => by cases hd; rfl), H⟩⟩⟩, fun h => absurd h (by decide)⟩, fun _ _ h => absurd (by decide) (h 2 12 rfl (by decide))⟩, fun h => absurd h (by decide)⟩, fun _ _ h => absurd (by decide) (h 2 12 rfl (by decide))⟩, fun h => absurd h (by decide)⟩) ?_
      refine .plain rfl (Pl_y rfl (fun w hBw => Yu_shl (k := .u64) rfl v0 1 rfl rfl)) ?_
      refine .plain rfl (Pl_y rfl (fun w hBw => rfl)) ?_
      refine .plain rfl (Pl_y rfl (fun w hBw => Yu_or (k := .u64) rfl (v0 * 2 ^ 1 % 18446744073709551616) x25 (Nat.mod_lt _ (by decide)) rx25 rfl rfl)) ?_
      refine .plain rfl (Pl_y rfl (fun w hBw => rfl)) ?_
      refine .plain rfl (Pl_y rfl (fun w hBw => Y_idxA 0 0 T_arr36 e_2_3 rfl rfl (by decide) (zz1 _))) ?_
      refine .special 1 rfl (Special.ofD ⟨⟨⟨⟨⟨⟨⟨⟨trivial, fun _ _ _ e' w' hAg hYs => by
          have H : Hp w0 [] w' [.blk bk3 36 (ua .u64 [v0, v1, v2, v3]), .blk bk2 36 (ua .u64 [0, 0, 0, 0])] := hYs
          exact ⟨rfl, Yl.dn (Y_ld T_scal30 H (i := 0) rfl ((hAg 37 rfl).trans rfl) rfl) ⟨(fun d hd => by cases hd; rfl), H⟩⟩⟩, fun _ _ _ e' w' hAg hYs => by
          have H : Hp w0 [] w' [.blk bk3 36 (ua .u64 [v0, v1, v2, v3]), .blk bk2 36 (ua .u64 [0, 0, 0, 0])] := hYs
          exact ⟨rfl, Yl.dn (Y_ld T_scal30 H (i := 0) rfl ((hAg 37 rfl).trans rfl) rfl) ⟨(fun d hd => by cases hd; rfl), H⟩⟩⟩, fun h => absurd h (by decide)⟩, fun h => absurd h (by decide)⟩, fun _ _ h => absurd (by decide) (h 2 12 rfl (by decide))⟩, fun _ _ h => absurd (by decide) (h 2 12 rfl (by decide))⟩, fun h => absurd h (by decide)⟩, fun h => absurd h (by decide)⟩) ?_
      refine .plain rfl (Pl_y rfl (fun w hBw => Yu_shr (k := .u64) v0 63 rv0 rfl rfl)) ?_
      refine .plain rfl (Pl_y rfl (fun w hBw => Y_idxA 0 0 T_arr36 e_2_3 rfl rfl (by decide) (zz1 _))) ?_
      refine .special 2 rfl (Special.of ⟨⟨⟨⟨⟨⟨⟨⟨trivial, fun _ h => absurd (h 0 3 rfl (by decide)) (by decide)⟩, fun _ h => absurd (h 1 9 rfl (by decide)) (by decide)⟩, fun _ h => absurd (h 0 3 rfl (by decide)) (by decide)⟩, fun _ _ _ e' w' hAg hYs => by
          have H : Hp w0 [] w' [.blk bk3 36 (ua .u64 [v0, v1, v2, v3]), .blk bk2 36 (ua .u64 [0, 0, 0, 0])] := hYs
          exact ⟨rfl, Dn_st (v := Value.int .u64 (((v0 * 2 ^ 1 % 18446744073709551616) ||| x25 : Nat) : Int)) T_scal30 H (i := 0) rfl ((hAg 40 rfl).trans rfl) ((hAg 35 rfl).trans rfl) rfl (Nat.le_of_ble_eq_true rfl) (l' := [.blk bk3 36 (ua .u64 [(v0 * 2 ^ 1 % 18446744073709551616) ||| x25, v1, v2, v3]), .blk bk2 36 (ua .u64 [0, 0, 0, 0])]) (by rw [ua_set]; rfl) (fun w2 Hn => Hn)⟩⟩, fun h => absurd h (by decide)⟩, fun h => absurd h (by decide)⟩, fun h => absurd h (by decide)⟩, fun h => absurd h (by decide)⟩) ?_
      exact .nil _
    ·
      intro e_3 w_5 hAg hYs
      have H_5 := hYs
      have e_3_0 : e_3 0 = Value.slice (some ⟨g, 0, none⟩) n c := (hAg 0 rfl).trans e_2_0
      have e_3_2 : e_3 2 = Value.pointer (some ⟨bk2, 0, none⟩) := (hAg 2 rfl).trans e_2_2
      have e_3_3 : e_3 3 = Value.pointer (some ⟨bk3, 0, none⟩) := (hAg 3 rfl).trans e_2_3
      have e_3_4 : e_3 4 = Value.int .i64 ((i : Nat) : Int) := (hAg 4 rfl).trans ejm
      have e_3_26 : e_3 26 = Value.int .i64 ((0 : Nat) : Int) := (hAg 26 rfl).trans rfl
      obtain ⟨x39, hx39⟩ : ∃ x : Nat, x = v0 / 2 ^ 63 := ⟨_, rfl⟩
      have rx39 : x39 < 18446744073709551616 := by rw [hx39]; exact (Nat.lt_of_le_of_lt (Nat.div_le_self _ _) rv0)
      have e_3_39 : e_3 39 = Value.int .u64 ((x39 : Nat) : Int) := (hAg 39 rfl).trans (by rw [hx39]; exact rfl)
      refine L_as rfl ?_
      refine L_nil ?_
      refine InB_n ?_
      refine Th_n ?_
      refine W_rg ?_
      refine L_y rfl (Y_add (k := .i64) (a := ((0 : Nat) : Int)) (b := ((1 : Nat) : Int)) (z := ((1 : Nat) : Int)) e_3_26 rfl (by decide)) ?_
      refine L_mv rfl ?_
      refine L_nil ?_
      refine Th_n ?_
      refine Wr_s ?_
      refine W_seq ?_
      refine W_rg ?_
      refine L_y rfl (Y_lss (k := .i64) (a := ((1 : Nat) : Int)) (b := ((4 : Nat) : Int)) rfl rfl) ?_
      refine L_nil ?_
      refine Th_n ?_
      refine W_seq ?_
      refine W_true (congrArg Value.bool (by decide : (decide (((1 : Nat) : Int) < ((4 : Nat) : Int))) = true)) ?_
      refine W_skip ?_
      refine Th_n ?_
      refine W_seq ?_
      refine W_block ?_
      refine W_seq ?_
      refine W_rg ?_
      refine L_mv rfl ?_
      refine L_as rfl ?_
      refine L_nil ?_
      refine Th_n ?_
      refine W_anyS 13 [3, 9, 12] [12] [] [Value.int .i64 ((1 : Nat) : Int), Value.int .i64 ((1 : Nat) : Int), Value.pointer (some ⟨bk3, 1, none⟩), Value.int .u64 ((v1 : Nat) : Int), Value.int .u64 ((v1 * 2 ^ 1 % 18446744073709551616 : Nat) : Int), Value.int .u64 ((x39 : Nat) : Int), Value.int .u64 (((v1 * 2 ^ 1 % 18446744073709551616) ||| x39 : Nat) : Int), Value.int .i64 ((1 : Nat) : Int), Value.pointer (some ⟨bk3, 1, none⟩), Value.int .u64 ((v1 : Nat) : Int), Value.int .u64 ((v1 / 2 ^ 63 : Nat) : Int), Value.pointer (some ⟨bk3, 1, none⟩), undef] (fun w => w.heap[bk2]? = some (.cells (ua .u64 [0, 0, 0, 0]) 36 (0, 0)) ∧ w.heap[g]? = some (.cells (ua .u64 l) tt (0, 0))) [fun vs w => Hp w0 [] w [.blk bk3 36 (ua .u64 [(v0 * 2 ^ 1 % 18446744073709551616) ||| x25, v1, v2, v3]), .blk bk2 36 (ua .u64 [0, 0, 0, 0])], fun vs w => Hp w0 [] w [.blk bk3 36 (ua .u64 [(v0 * 2 ^ 1 % 18446744073709551616) ||| x25, v1, v2, v3]), .blk bk2 36 (ua .u64 [0, 0, 0, 0])], fun vs w => Hp w0 [] w [.blk bk3 36 (ua .u64 [(v0 * 2 ^ 1 % 18446744073709551616) ||| x25, v1, v2, v3]), .blk bk2 36 (ua .u64 [0, 0, 0, 0])], fun vs w => Hp w0 [] w [.blk bk3 36 (ua .u64 [(v0 * 2 ^ 1 % 18446744073709551616) ||| x25, v1, v2, v3]), .blk bk2 36 (ua .u64 [0, 0, 0, 0])], fun _ _ => False, fun _ _ => False, fun _ _ => False, fun vs w => Hp w0 [] w [.blk bk3 36 (ua .u64 [(v0 * 2 ^ 1 % 18446744073709551616) ||| x25, (v1 * 2 ^ 1 % 18446744073709551616) ||| x39, v2, v3]), .blk bk2 36 (ua .u64 [0, 0, 0, 0])]] T_mixed (by kernel_rfl) ⟨fun _ _ H => ⟨H.get 1 rfl, H.oldB hg (by simp)⟩, fun _ _ H => ⟨H.get 1 rfl, H.oldB hg (by simp)⟩, fun _ _ H => ⟨H.get 1 rfl, H.oldB hg (by simp)⟩, fun _ _ H => ⟨H.get 1 rfl, H.oldB hg (by simp)⟩, fun _ _ h => h.elim, fun _ _ h => h.elim, fun _ _ h => h.elim, fun _ _ H => ⟨H.get 1 rfl, H.oldB hg (by simp)⟩, trivial⟩ ⟨fun _ _ _ hkp H => H.keep hkp, fun _ _ _ hkp H => H.keep hkp, fun _ _ _ hkp H => H.keep hkp, fun _ _ _ hkp H => H.keep hkp, fun _ _ _ _ h => h.elim, fun _ _ _ _ h => h.elim, fun _ _ _ _ h => h.elim, fun _ _ _ hkp H => H.keep hkp, trivial⟩ H_5 ?_ ?_
      ·
        refine .plain rfl (Pl_y rfl (fun w hBw => rfl)) ?_
        refine .plain rfl (Pl_y rfl (fun w hBw => rfl)) ?_
        refine .plain rfl (Pl_y rfl (fun w hBw => Y_idxA 1 1 T_arr36 e_3_3 rfl rfl (by decide) (zz1 _))) ?_
        refine .special 0 rfl (Special.ofD ⟨⟨⟨⟨⟨⟨⟨⟨trivial, fun _ _ _ e' w' hAg hYs => by
            have H : Hp w0 [] w' [.blk bk3 36 (ua .u64 [(v0 * 2 ^ 1 % 18446744073709551616) ||| x25, v1, v2, v3]), .blk bk2 36 (ua .u64 [0, 0, 0, 0])] := hYs
            exact ⟨rfl, Yl.dn (Y_ld T_scal30 H (i := 0) rfl ((hAg 31 rfl).trans rfl) rfl) ⟨(fun d hd => by cases hd; rfl), H⟩⟩⟩, fun h => absurd h (by decide)⟩, fun _ _ _ e' w' hAg hYs => by
            have H : Hp w0 [] w' [.blk bk3 36 (ua .u64 [(v0 * 2 ^ 1 % 18446744073709551616) ||| x25, v1, v2, v3]), .blk bk2 36 (ua .u64 [0, 0, 0, 0])] := hYs
            exact ⟨rfl, Yl.dn (Y_ld T_scal30 H (i := 0) rfl ((hAg 31 rfl).trans rfl) rfl) ⟨(fun d hd => by cases hd; rfl), H⟩⟩⟩, fun h => absurd h (by decide)⟩, fun _ _ h => absurd (by decide) (h 2 12 rfl (by decide))⟩, fun h => absurd h (by decide)⟩, fun _ _ h => absurd (by decide) (h 2 12 rfl (by decide))⟩, fun h => absurd h (by decide)⟩) ?_
        refine .plain rfl (Pl_y rfl (fun w hBw => Yu_shl (k := .u64) rfl v1 1 rfl rfl)) ?_
        refine .plain rfl (Pl_y rfl (fun w hBw => congrArg (fun v => Result.ok (Next.value v) w) e_3_39)) ?_
        refine .plain rfl (Pl_y rfl (fun w hBw => Yu_or (k := .u64) rfl (v1 * 2 ^ 1 % 18446744073709551616) x39 (Nat.mod_lt _ (by decide)) rx39 rfl rfl)) ?_
        refine .plain rfl (Pl_y rfl (fun w hBw => rfl)) ?_
        refine .plain rfl (Pl_y rfl (fun w hBw => Y_idxA 1 1 T_arr36 e_3_3 rfl rfl (by decide) (zz1 _))) ?_
        refine .special 1 rfl (Special.ofD ⟨⟨⟨⟨⟨⟨⟨⟨trivial, fun _ _ _ e' w' hAg hYs => by
            have H : Hp w0 [] w' [.blk bk3 36 (ua .u64 [(v0 * 2 ^ 1 % 18446744073709551616) ||| x25, v1, v2, v3]), .blk bk2 36 (ua .u64 [0, 0, 0, 0])] := hYs
            exact ⟨rfl, Yl.dn (Y_ld T_scal30 H (i := 0) rfl ((hAg 37 rfl).trans rfl) rfl) ⟨(fun d hd => by cases hd; rfl), H⟩⟩⟩, fun _ _ _ e' w' hAg hYs => by
            have H : Hp w0 [] w' [.blk bk3 36 (ua .u64 [(v0 * 2 ^ 1 % 18446744073709551616) ||| x25, v1, v2, v3]), .blk bk2 36 (ua .u64 [0, 0, 0, 0])] := hYs
            exact ⟨rfl, Yl.dn (Y_ld T_scal30 H (i := 0) rfl ((hAg 37 rfl).trans rfl) rfl) ⟨(fun d hd => by cases hd; rfl), H⟩⟩⟩, fun h => absurd h (by decide)⟩, fun h => absurd h (by decide)⟩, fun _ _ h => absurd (by decide) (h 2 12 rfl (by decide))⟩, fun _ _ h => absurd (by decide) (h 2 12 rfl (by decide))⟩, fun h => absurd h (by decide)⟩, fun h => absurd h (by decide)⟩) ?_
        refine .plain rfl (Pl_y rfl (fun w hBw => Yu_shr (k := .u64) v1 63 rv1 rfl rfl)) ?_
        refine .plain rfl (Pl_y rfl (fun w hBw => Y_idxA 1 1 T_arr36 e_3_3 rfl rfl (by decide) (zz1 _))) ?_
        refine .special 2 rfl (Special.of ⟨⟨⟨⟨⟨⟨⟨⟨trivial, fun _ h => absurd (h 0 3 rfl (by decide)) (by decide)⟩, fun _ h => absurd (h 1 9 rfl (by decide)) (by decide)⟩, fun _ h => absurd (h 0 3 rfl (by decide)) (by decide)⟩, fun _ _ _ e' w' hAg hYs => by
            have H : Hp w0 [] w' [.blk bk3 36 (ua .u64 [(v0 * 2 ^ 1 % 18446744073709551616) ||| x25, v1, v2, v3]), .blk bk2 36 (ua .u64 [0, 0, 0, 0])] := hYs
            exact ⟨rfl, Dn_st (v := Value.int .u64 (((v1 * 2 ^ 1 % 18446744073709551616) ||| x39 : Nat) : Int)) T_scal30 H (i := 0) rfl ((hAg 40 rfl).trans rfl) ((hAg 35 rfl).trans rfl) rfl (Nat.le_of_ble_eq_true rfl) (l' := [.blk bk3 36 (ua .u64 [(v0 * 2 ^ 1 % 18446744073709551616) ||| x25, (v1 * 2 ^ 1 % 18446744073709551616) ||| x39, v2, v3]), .blk bk2 36 (ua .u64 [0, 0, 0, 0])]) (by rw [ua_set]; rfl) (fun w2 Hn => Hn)⟩⟩, fun h => absurd h (by decide)⟩, fun h => absurd h (by decide)⟩, fun h => absurd h (by decide)⟩, fun h => absurd h (by decide)⟩) ?_
        exact .nil _
      ·
        intro e_4 w_6 hAg hYs
        have H_6 := hYs
        have e_4_0 : e_4 0 = Value.slice (some ⟨g, 0, none⟩) n c := (hAg 0 rfl).trans e_3_0
        have e_4_2 : e_4 2 = Value.pointer (some ⟨bk2, 0, none⟩) := (hAg 2 rfl).trans e_3_2
        have e_4_3 : e_4 3 = Value.pointer (some ⟨bk3, 0, none⟩) := (hAg 3 rfl).trans e_3_3
        have e_4_4 : e_4 4 = Value.int .i64 ((i : Nat) : Int) := (hAg 4 rfl).trans e_3_4
        have e_4_26 : e_4 26 = Value.int .i64 ((1 : Nat) : Int) := (hAg 26 rfl).trans rfl
        obtain ⟨x39_2, hx39_2⟩ : ∃ x : Nat, x = v1 / 2 ^ 63 := ⟨_, rfl⟩
        have rx39_2 : x39_2 < 18446744073709551616 := by rw [hx39_2]; exact (Nat.lt_of_le_of_lt (Nat.div_le_self _ _) rv1)
        have e_4_39 : e_4 39 = Value.int .u64 ((x39_2 : Nat) : Int) := (hAg 39 rfl).trans (by rw [hx39_2]; exact rfl)
        refine L_as rfl ?_
        refine L_nil ?_
        refine InB_n ?_
        refine Th_n ?_
        refine W_rg ?_
        refine L_y rfl (Y_add (k := .i64) (a := ((1 : Nat) : Int)) (b := ((1 : Nat) : Int)) (z := ((2 : Nat) : Int)) e_4_26 rfl (by decide)) ?_
        refine L_mv rfl ?_
        refine L_nil ?_
        refine Th_n ?_
        refine Wr_s ?_
        refine W_seq ?_
        refine W_rg ?_
        refine L_y rfl (Y_lss (k := .i64) (a := ((2 : Nat) : Int)) (b := ((4 : Nat) : Int)) rfl rfl) ?_
        refine L_nil ?_
        refine Th_n ?_
        refine W_seq ?_
        refine W_true (congrArg Value.bool (by decide : (decide (((2 : Nat) : Int) < ((4 : Nat) : Int))) = true)) ?_
        refine W_skip ?_
        refine Th_n ?_
        refine W_seq ?_
        refine W_block ?_
        refine W_seq ?_
        refine W_rg ?_
        refine L_mv rfl ?_
        refine L_as rfl ?_
        refine L_nil ?_
        refine Th_n ?_
        refine W_anyS 13 [3, 9, 12] [12] [] [Value.int .i64 ((2 : Nat) : Int), Value.int .i64 ((2 : Nat) : Int), Value.pointer (some ⟨bk3, 2, none⟩), Value.int .u64 ((v2 : Nat) : Int), Value.int .u64 ((v2 * 2 ^ 1 % 18446744073709551616 : Nat) : Int), Value.int .u64 ((x39_2 : Nat) : Int), Value.int .u64 (((v2 * 2 ^ 1 % 18446744073709551616) ||| x39_2 : Nat) : Int), Value.int .i64 ((2 : Nat) : Int), Value.pointer (some ⟨bk3, 2, none⟩), Value.int .u64 ((v2 : Nat) : Int), Value.int .u64 ((v2 / 2 ^ 63 : Nat) : Int), Value.pointer (some ⟨bk3, 2, none⟩), undef] (fun w => w.heap[bk2]? = some (.cells (ua .u64 [0, 0, 0, 0]) 36 (0, 0)) ∧ w.heap[g]? = some (.cells (ua .u64 l) tt (0, 0))) [fun vs w => Hp w0 [] w [.blk bk3 36 (ua .u64 [(v0 * 2 ^ 1 % 18446744073709551616) ||| x25, (v1 * 2 ^ 1 % 18446744073709551616) ||| x39, v2, v3]), .blk bk2 36 (ua .u64 [0, 0, 0, 0])], fun vs w => Hp w0 [] w [.blk bk3 36 (ua .u64 [(v0 * 2 ^ 1 % 18446744073709551616) ||| x25, (v1 * 2 ^ 1 % 18446744073709551616) ||| x39, v2, v3]), .blk bk2 36 (ua .u64 [0, 0, 0, 0])], fun vs w => Hp w0 [] w [.blk bk3 36 (ua .u64 [(v0 * 2 ^ 1 % 18446744073709551616) ||| x25, (v1 * 2 ^ 1 % 18446744073709551616) ||| x39, v2, v3]), .blk bk2 36 (ua .u64 [0, 0, 0, 0])], fun vs w => Hp w0 [] w [.blk bk3 36 (ua .u64 [(v0 * 2 ^ 1 % 18446744073709551616) ||| x25, (v1 * 2 ^ 1 % 18446744073709551616) ||| x39, v2, v3]), .blk bk2 36 (ua .u64 [0, 0, 0, 0])], fun _ _ => False, fun _ _ => False, fun _ _ => False, fun vs w => Hp w0 [] w [.blk bk3 36 (ua .u64 [(v0 * 2 ^ 1 % 18446744073709551616) ||| x25, (v1 * 2 ^ 1 % 18446744073709551616) ||| x39, (v2 * 2 ^ 1 % 18446744073709551616) ||| x39_2, v3]), .blk bk2 36 (ua .u64 [0, 0, 0, 0])]] T_mixed (by kernel_rfl) ⟨fun _ _ H => ⟨H.get 1 rfl, H.oldB hg (by simp)⟩, fun _ _ H => ⟨H.get 1 rfl, H.oldB hg (by simp)⟩, fun _ _ H => ⟨H.get 1 rfl, H.oldB hg (by simp)⟩, fun _ _ H => ⟨H.get 1 rfl, H.oldB hg (by simp)⟩, fun _ _ h => h.elim, fun _ _ h => h.elim, fun _ _ h => h.elim, fun _ _ H => ⟨H.get 1 rfl, H.oldB hg (by simp)⟩, trivial⟩ ⟨fun _ _ _ hkp H => H.keep hkp, fun _ _ _ hkp H => H.keep hkp, fun _ _ _ hkp H => H.keep hkp, fun _ _ _ hkp H => H.keep hkp, fun _ _ _ _ h => h.elim, fun _ _ _ _ h => h.elim, fun _ _ _ _ h => h.elim, fun _ _ _ hkp H => H.keep hkp, trivial⟩ H_6 ?_ ?_
        ·
          refine .plain rfl (Pl_y rfl (fun w hBw => rfl)) ?_
          refine .plain rfl (Pl_y rfl (fun w hBw => rfl)) ?_
          refine .plain rfl (Pl_y rfl (fun w hBw => Y_idxA 2 2 T_arr36 e_4_3 rfl rfl (by decide) (zz1 _))) ?_
          refine .special 0 rfl (Special.ofD ⟨⟨⟨⟨⟨⟨⟨⟨trivial, fun _ _ _ e' w' hAg hYs => by
              have H : Hp w0 [] w' [.blk bk3 36 (ua .u64 [(v0 * 2 ^ 1 % 18446744073709551616) ||| x25, (v1 * 2 ^ 1 % 18446744073709551616) ||| x39, v2, v3]), .blk bk2 36 (ua .u64 [0, 0, 0, 0])] := hYs
              exact ⟨rfl, Yl.dn (Y_ld T_scal30 H (i := 0) rfl ((hAg 31 rfl).trans rfl) rfl) ⟨(fun d hd => by cases hd; rfl), H⟩⟩⟩, fun h => absurd h (by decide)⟩, fun _ _ _ e' w' hAg hYs => by
              have H : Hp w0 [] w' [.blk bk3 36 (ua .u64 [(v0 * 2 ^ 1 % 18446744073709551616) ||| x25, (v1 * 2 ^ 1 % 18446744073709551616) ||| x39, v2, v3]), .blk bk2 36 (ua .u64 [0, 0, 0, 0])] := hYs
              exact ⟨rfl, Yl.dn (Y_ld T_scal30 H (i := 0) rfl ((hAg 31 rfl).trans rfl) rfl) ⟨(fun d hd => by cases hd; rfl), H⟩⟩⟩, fun h => absurd h (by decide)⟩, fun _ _ h => absurd (by decide) (h 2 12 rfl (by decide))⟩, fun h => absurd h (by decide)⟩, fun _ _ h => absurd (by decide) (h 2 12 rfl (by decide))⟩, fun h => absurd h (by decide)⟩) ?_
          refine .plain rfl (Pl_y rfl (fun w hBw => Yu_shl (k := .u64) rfl v2 1 rfl rfl)) ?_
          refine .plain rfl (Pl_y rfl (fun w hBw => congrArg (fun v => Result.ok (Next.value v) w) e_4_39)) ?_
          refine .plain rfl (Pl_y rfl (fun w hBw => Yu_or (k := .u64) rfl (v2 * 2 ^ 1 % 18446744073709551616) x39_2 (Nat.mod_lt _ (by decide)) rx39_2 rfl rfl)) ?_
          refine .plain rfl (Pl_y rfl (fun w hBw => rfl)) ?_
          refine .plain rfl (Pl_y rfl (fun w hBw => Y_idxA 2 2 T_arr36 e_4_3 rfl rfl (by decide) (zz1 _))) ?_
          refine .special 1 rfl (Special.ofD ⟨⟨⟨⟨⟨⟨⟨⟨trivial, fun _ _ _ e' w' hAg hYs => by
              have H : Hp w0 [] w' [.blk bk3 36 (ua .u64 [(v0 * 2 ^ 1 % 18446744073709551616) ||| x25, (v1 * 2 ^ 1 % 18446744073709551616) ||| x39, v2, v3]), .blk bk2 36 (ua .u64 [0, 0, 0, 0])] := hYs
              exact ⟨rfl, Yl.dn (Y_ld T_scal30 H (i := 0) rfl ((hAg 37 rfl).trans rfl) rfl) ⟨(fun d hd => by cases hd; rfl), H⟩⟩⟩, fun _ _ _ e' w' hAg hYs => by
              have H : Hp w0 [] w' [.blk bk3 36 (ua .u64 [(v0 * 2 ^ 1 % 18446744073709551616) ||| x25, (v1 * 2 ^ 1 % 18446744073709551616) ||| x39, v2, v3]), .blk bk2 36 (ua .u64 [0, 0, 0, 0])] := hYs
              exact ⟨rfl, Yl.dn (Y_ld T_scal30 H (i := 0) rfl ((hAg 37 rfl).trans rfl) rfl) ⟨(fun d hd => by cases hd; rfl), H⟩⟩⟩, fun h => absurd h (by decide)⟩, fun h => absurd h (by decide)⟩, fun _ _ h => absurd (by decide) (h 2 12 rfl (by decide))⟩, fun _ _ h => absurd (by decide) (h 2 12 rfl (by decide))⟩, fun h => absurd h (by decide)⟩, fun h => absurd h (by decide)⟩) ?_
          refine .plain rfl (Pl_y rfl (fun w hBw => Yu_shr (k := .u64) v2 63 rv2 rfl rfl)) ?_
          refine .plain rfl (Pl_y rfl (fun w hBw => Y_idxA 2 2 T_arr36 e_4_3 rfl rfl (by decide) (zz1 _))) ?_
          refine .special 2 rfl (Special.of ⟨⟨⟨⟨⟨⟨⟨⟨trivial, fun _ h => absurd (h 0 3 rfl (by decide)) (by decide)⟩, fun _ h => absurd (h 1 9 rfl (by decide)) (by decide)⟩, fun _ h => absurd (h 0 3 rfl (by decide)) (by decide)⟩, fun _ _ _ e' w' hAg hYs => by
              have H : Hp w0 [] w' [.blk bk3 36 (ua .u64 [(v0 * 2 ^ 1 % 18446744073709551616) ||| x25, (v1 * 2 ^ 1 % 18446744073709551616) ||| x39, v2, v3]), .blk bk2 36 (ua .u64 [0, 0, 0, 0])] := hYs
              exact ⟨rfl, Dn_st (v := Value.int .u64 (((v2 * 2 ^ 1 % 18446744073709551616) ||| x39_2 : Nat) : Int)) T_scal30 H (i := 0) rfl ((hAg 40 rfl).trans rfl) ((hAg 35 rfl).trans rfl) rfl (Nat.le_of_ble_eq_true rfl) (l' := [.blk bk3 36 (ua .u64 [(v0 * 2 ^ 1 % 18446744073709551616) ||| x25, (v1 * 2 ^ 1 % 18446744073709551616) ||| x39, (v2 * 2 ^ 1 % 18446744073709551616) ||| x39_2, v3]), .blk bk2 36 (ua .u64 [0, 0, 0, 0])]) (by rw [ua_set]; rfl) (fun w2 Hn => Hn)⟩⟩, fun h => absurd h (by decide)⟩, fun h => absurd h (by decide)⟩, fun h => absurd h (by decide)⟩, fun h => absurd h (by decide)⟩) ?_
          exact .nil _
        ·
          intro e_5 w_7 hAg hYs
          have H_7 := hYs
          have e_5_0 : e_5 0 = Value.slice (some ⟨g, 0, none⟩) n c := (hAg 0 rfl).trans e_4_0
          have e_5_2 : e_5 2 = Value.pointer (some ⟨bk2, 0, none⟩) := (hAg 2 rfl).trans e_4_2
          have e_5_3 : e_5 3 = Value.pointer (some ⟨bk3, 0, none⟩) := (hAg 3 rfl).trans e_4_3
          have e_5_4 : e_5 4 = Value.int .i64 ((i : Nat) : Int) := (hAg 4 rfl).trans e_4_4
          have e_5_26 : e_5 26 = Value.int .i64 ((2 : Nat) : Int) := (hAg 26 rfl).trans rfl
          obtain ⟨x39_3, hx39_3⟩ : ∃ x : Nat, x = v2 / 2 ^ 63 := ⟨_, rfl⟩
          have rx39_3 : x39_3 < 18446744073709551616 := by rw [hx39_3]; exact (Nat.lt_of_le_of_lt (Nat.div_le_self _ _) rv2)
          have e_5_39 : e_5 39 = Value.int .u64 ((x39_3 : Nat) : Int) := (hAg 39 rfl).trans (by rw [hx39_3]; exact rfl)
          refine L_as rfl ?_
          refine L_nil ?_
          refine InB_n ?_
          refine Th_n ?_
          refine W_rg ?_
          refine L_y rfl (Y_add (k := .i64) (a := ((2 : Nat) : Int)) (b := ((1 : Nat) : Int)) (z := ((3 : Nat) : Int)) e_5_26 rfl (by decide)) ?_
          refine L_mv rfl ?_
          refine L_nil ?_
          refine Th_n ?_
          refine Wr_s ?_
          refine W_seq ?_
          refine W_rg ?_
          refine L_y rfl (Y_lss (k := .i64) (a := ((3 : Nat) : Int)) (b := ((4 : Nat) : Int)) rfl rfl) ?_
          refine L_nil ?_
          refine Th_n ?_
          refine W_seq ?_
          refine W_true (congrArg Value.bool (by decide : (decide (((3 : Nat) : Int) < ((4 : Nat) : Int))) = true)) ?_
          refine W_skip ?_
          refine Th_n ?_
          refine W_seq ?_
          refine W_block ?_
          refine W_seq ?_
          refine W_rg ?_
          refine L_mv rfl ?_
          refine L_as rfl ?_
          refine L_nil ?_
          refine Th_n ?_
          refine W_anyS 13 [3, 9, 12] [12] [] [Value.int .i64 ((3 : Nat) : Int), Value.int .i64 ((3 : Nat) : Int), Value.pointer (some ⟨bk3, 3, none⟩), Value.int .u64 ((v3 : Nat) : Int), Value.int .u64 ((v3 * 2 ^ 1 % 18446744073709551616 : Nat) : Int), Value.int .u64 ((x39_3 : Nat) : Int), Value.int .u64 (((v3 * 2 ^ 1 % 18446744073709551616) ||| x39_3 : Nat) : Int), Value.int .i64 ((3 : Nat) : Int), Value.pointer (some ⟨bk3, 3, none⟩), Value.int .u64 ((v3 : Nat) : Int), Value.int .u64 ((v3 / 2 ^ 63 : Nat) : Int), Value.pointer (some ⟨bk3, 3, none⟩), undef] (fun w => w.heap[bk2]? = some (.cells (ua .u64 [0, 0, 0, 0]) 36 (0, 0)) ∧ w.heap[g]? = some (.cells (ua .u64 l) tt (0, 0))) [fun vs w => Hp w0 [] w [.blk bk3 36 (ua .u64 [(v0 * 2 ^ 1 % 18446744073709551616) ||| x25, (v1 * 2 ^ 1 % 18446744073709551616) ||| x39, (v2 * 2 ^ 1 % 18446744073709551616) ||| x39_2, v3]), .blk bk2 36 (ua .u64 [0, 0, 0, 0])], fun vs w => Hp w0 [] w [.blk bk3 36 (ua .u64 [(v0 * 2 ^ 1 % 18446744073709551616) ||| x25, (v1 * 2 ^ 1 % 18446744073709551616) ||| x39, (v2 * 2 ^ 1 % 18446744073709551616) ||| x39_2, v3]), .blk bk2 36 (ua .u64 [0, 0, 0, 0])], fun vs w => Hp w0 [] w [.blk bk3 36 (ua .u64 [(v0 * 2 ^ 1 % 18446744073709551616) ||| x25, (v1 * 2 ^ 1 % 18446744073709551616) ||| x39, (v2 * 2 ^ 1 % 18446744073709551616) ||| x39_2, v3]), .blk bk2 36 (ua .u64 [0, 0, 0, 0])], fun vs w => Hp w0 [] w [.blk bk3 36 (ua .u64 [(v0 * 2 ^ 1 % 18446744073709551616) ||| x25, (v1 * 2 ^ 1 % 18446744073709551616) ||| x39, (v2 * 2 ^ 1 % 18446744073709551616) ||| x39_2, v3]), .blk bk2 36 (ua .u64 [0, 0, 0, 0])], fun _ _ => False, fun _ _ => False, fun _ _ => False, fun vs w => Hp w0 [] w [.blk bk3 36 (ua .u64 [(v0 * 2 ^ 1 % 18446744073709551616) ||| x25, (v1 * 2 ^ 1 % 18446744073709551616) ||| x39, (v2 * 2 ^ 1 % 18446744073709551616) ||| x39_2, (v3 * 2 ^ 1 % 18446744073709551616) ||| x39_3]), .blk bk2 36 (ua .u64 [0, 0, 0, 0])]] T_mixed (by kernel_rfl) ⟨fun _ _ H => ⟨H.get 1 rfl, H.oldB hg (by simp)⟩, fun _ _ H => ⟨H.get 1 rfl, H.oldB hg (by simp)⟩, fun _ _ H => ⟨H.get 1 rfl, H.oldB hg (by simp)⟩, fun _ _ H => ⟨H.get 1 rfl, H.oldB hg (by simp)⟩, fun _ _ h => h.elim, fun _ _ h => h.elim, fun _ _ h => h.elim, fun _ _ H => ⟨H.get 1 rfl, H.oldB hg (by simp)⟩, trivial⟩ ⟨fun _ _ _ hkp H => H.keep hkp, fun _ _ _ hkp H => H.keep hkp, fun _ _ _ hkp H => H.keep hkp, fun _ _ _ hkp H => H.keep hkp, fun _ _ _ _ h => h.elim, fun _ _ _ _ h => h.elim, fun _ _ _ _ h => h.elim, fun _ _ _ hkp H => H.keep hkp, trivial⟩ H_7 ?_ ?_
          ·
            refine .plain rfl (Pl_y rfl (fun w hBw => rfl)) ?_
            refine .plain rfl (Pl_y rfl (fun w hBw => rfl)) ?_
            refine .plain rfl (Pl_y rfl (fun w hBw => Y_idxA 3 3 T_arr36 e_5_3 rfl rfl (by decide) (zz1 _))) ?_
            refine .special 0 rfl (Special.ofD ⟨⟨⟨⟨⟨⟨⟨⟨trivial, fun _ _ _ e' w' hAg hYs => by
                have H : Hp w0 [] w' [.blk bk3 36 (ua .u64 [(v0 * 2 ^ 1 % 18446744073709551616) ||| x25, (v1 * 2 ^ 1 % 18446744073709551616) ||| x39, (v2 * 2 ^ 1 % 18446744073709551616) ||| x39_2, v3]), .blk bk2 36 (ua .u64 [0, 0, 0, 0])] := hYs
                exact ⟨rfl, Yl.dn (Y_ld T_scal30 H (i := 0) rfl ((hAg 31 rfl).trans rfl) rfl) ⟨(fun d hd => by cases hd; rfl), H⟩⟩⟩, fun h => absurd h (by decide)⟩, fun _ _ _ e' w' hAg hYs => by
                have H : Hp w0 [] w' [.blk bk3 36 (ua .u64 [(v0 * 2 ^ 1 % 18446744073709551616) ||| x25, (v1 * 2 ^ 1 % 18446744073709551616) ||| x39, (v2 * 2 ^ 1 % 18446744073709551616) ||| x39_2, v3]), .blk bk2 36 (ua .u64 [0, 0, 0, 0])] := hYs
                exact ⟨rfl, Yl.dn (Y_ld T_scal30 H (i := 0) rfl ((hAg 31 rfl).trans rfl) rfl) ⟨(fun d hd => by cases hd; rfl), H⟩⟩⟩, fun h => absurd h (by decide)⟩, fun _ _ h => absurd (by decide) (h 2 12 rfl (by decide))⟩, fun h => absurd h (by decide)⟩, fun _ _ h => absurd (by decide) (h 2 12 rfl (by decide))⟩, fun h => absurd h (by decide)⟩) ?_
            refine .plain rfl (Pl_y rfl (fun w hBw => Yu_shl (k := .u64) rfl v3 1 rfl rfl)) ?_
            refine .plain rfl (Pl_y rfl (fun w hBw => congrArg (fun v => Result.ok (Next.value v) w) e_5_39)) ?_
            refine .plain rfl (Pl_y rfl (fun w hBw => Yu_or (k := .u64) rfl (v3 * 2 ^ 1 % 18446744073709551616) x39_3 (Nat.mod_lt _ (by decide)) rx39_3 rfl rfl)) ?_
            refine .plain rfl (Pl_y rfl (fun w hBw => rfl)) ?_
            refine .plain rfl (Pl_y rfl (fun w hBw => Y_idxA 3 3 T_arr36 e_5_3 rfl rfl (by decide) (zz1 _))) ?_
            refine .special 1 rfl (Special.ofD ⟨⟨⟨⟨⟨⟨⟨⟨trivial, fun _ _ _ e' w' hAg hYs => by
                have H : Hp w0 [] w' [.blk bk3 36 (ua .u64 [(v0 * 2 ^ 1 % 18446744073709551616) ||| x25, (v1 * 2 ^ 1 % 18446744073709551616) ||| x39, (v2 * 2 ^ 1 % 18446744073709551616) ||| x39_2, v3]), .blk bk2 36 (ua .u64 [0, 0, 0, 0])] := hYs
                exact ⟨rfl, Yl.dn (Y_ld T_scal30 H (i := 0) rfl ((hAg 37 rfl).trans rfl) rfl) ⟨(fun d hd => by cases hd; rfl), H⟩⟩⟩, fun _ _ _ e' w' hAg hYs => by
                have H : Hp w0 [] w' [.blk bk3 36 (ua .u64 [(v0 * 2 ^ 1 % 18446744073709551616) ||| x25, (v1 * 2 ^ 1 % 18446744073709551616) ||| x39, (v2 * 2 ^ 1 % 18446744073709551616) ||| x39_2, v3]), .blk bk2 36 (ua .u64 [0, 0, 0, 0])] := hYs
                exact ⟨rfl, Yl.dn (Y_ld T_scal30 H (i := 0) rfl ((hAg 37 rfl).trans rfl) rfl) ⟨(fun d hd => by cases hd; rfl), H⟩⟩⟩, fun h => absurd h (by decide)⟩, fun h => absurd h (by decide)⟩, fun _ _ h => absurd (by decide) (h 2 12 rfl (by decide))⟩, fun _ _ h => absurd (by decide) (h 2 12 rfl (by decide))⟩, fun h => absurd h (by decide)⟩, fun h => absurd h (by decide)⟩) ?_
            refine .plain rfl (Pl_y rfl (fun w hBw => Yu_shr (k := .u64) v3 63 rv3 rfl rfl)) ?_
            refine .plain rfl (Pl_y rfl (fun w hBw => Y_idxA 3 3 T_arr36 e_5_3 rfl rfl (by decide) (zz1 _))) ?_
            refine .special 2 rfl (Special.of ⟨⟨⟨⟨⟨⟨⟨⟨trivial, fun _ h => absurd (h 0 3 rfl (by decide)) (by decide)⟩, fun _ h => absurd (h 1 9 rfl (by decide)) (by decide)⟩, fun _ h => absurd (h 0 3 rfl (by decide)) (by decide)⟩, fun _ _ _ e' w' hAg hYs => by
                have H : Hp w0 [] w' [.blk bk3 36 (ua .u64 [(v0 * 2 ^ 1 % 18446744073709551616) ||| x25, (v1 * 2 ^ 1 % 18446744073709551616) ||| x39, (v2 * 2 ^ 1 % 18446744073709551616) ||| x39_2, v3]), .blk bk2 36 (ua .u64 [0, 0, 0, 0])] := hYs
                exact ⟨rfl, Dn_st (v := Value.int .u64 (((v3 * 2 ^ 1 % 18446744073709551616) ||| x39_3 : Nat) : Int)) T_scal30 H (i := 0) rfl ((hAg 40 rfl).trans rfl) ((hAg 35 rfl).trans rfl) rfl (Nat.le_of_ble_eq_true rfl) (l' := [.blk bk3 36 (ua .u64 [(v0 * 2 ^ 1 % 18446744073709551616) ||| x25, (v1 * 2 ^ 1 % 18446744073709551616) ||| x39, (v2 * 2 ^ 1 % 18446744073709551616) ||| x39_2, (v3 * 2 ^ 1 % 18446744073709551616) ||| x39_3]), .blk bk2 36 (ua .u64 [0, 0, 0, 0])]) (by rw [ua_set]; rfl) (fun w2 Hn => Hn)⟩⟩, fun h => absurd h (by decide)⟩, fun h => absurd h (by decide)⟩, fun h => absurd h (by decide)⟩, fun h => absurd h (by decide)⟩) ?_
            exact .nil _
          ·
            intro e_6 w_8 hAg hYs
            have H_8 := hYs
            have e_6_0 : e_6 0 = Value.slice (some ⟨g, 0, none⟩) n c := (hAg 0 rfl).trans e_5_0
            have e_6_2 : e_6 2 = Value.pointer (some ⟨bk2, 0, none⟩) := (hAg 2 rfl).trans e_5_2
            have e_6_3 : e_6 3 = Value.pointer (some ⟨bk3, 0, none⟩) := (hAg 3 rfl).trans e_5_3
            have e_6_4 : e_6 4 = Value.int .i64 ((i : Nat) : Int) := (hAg 4 rfl).trans e_5_4
            have e_6_26 : e_6 26 = Value.int .i64 ((3 : Nat) : Int) := (hAg 26 rfl).trans rfl
            obtain ⟨x39_4, hx39_4⟩ : ∃ x : Nat, x = v3 / 2 ^ 63 := ⟨_, rfl⟩
            have rx39_4 : x39_4 < 18446744073709551616 := by rw [hx39_4]; exact (Nat.lt_of_le_of_lt (Nat.div_le_self _ _) rv3)
            have e_6_39 : e_6 39 = Value.int .u64 ((x39_4 : Nat) : Int) := (hAg 39 rfl).trans (by rw [hx39_4]; exact rfl)
            refine L_as rfl ?_
            refine L_nil ?_
            refine InB_n ?_
            refine Th_n ?_
            refine W_rg ?_
            refine L_y rfl (Y_add (k := .i64) (a := ((3 : Nat) : Int)) (b := ((1 : Nat) : Int)) (z := ((4 : Nat) : Int)) e_6_26 rfl (by decide)) ?_
            refine L_mv rfl ?_
            refine L_nil ?_
            refine Th_n ?_
            refine Wr_s ?_
            refine W_seq ?_
            refine W_rg ?_
            refine L_y rfl (Y_lss (k := .i64) (a := ((4 : Nat) : Int)) (b := ((4 : Nat) : Int)) rfl rfl) ?_
            refine L_nil ?_
            refine Th_n ?_
            refine W_seq ?_
            refine W_false (congrArg Value.bool (by decide : (decide (((4 : Nat) : Int) < ((4 : Nat) : Int))) = false)) ?_
            refine W_exit ?_
            refine Th_x ?_
            refine Th_x ?_
            refine InB_hit ?_
            refine Th_n ?_
            refine W_seq ?_
            refine W_anyL 8 [6, 7] [7] [Value.agg (ua .u64 [(v0 * 2 ^ 1 % 18446744073709551616) ||| x25, (v1 * 2 ^ 1 % 18446744073709551616) ||| x39, (v2 * 2 ^ 1 % 18446744073709551616) ||| x39_2, (v3 * 2 ^ 1 % 18446744073709551616) ||| x39_3]), Value.agg (ua .u64 (Lm.w4 Lm.ord)), Value.tuple #[Value.agg (ua .u64 (Lm.w4 ((Lm.wv [(v0 * 2 ^ 1 % 18446744073709551616) ||| x25, (v1 * 2 ^ 1 % 18446744073709551616) ||| x39, (v2 * 2 ^ 1 % 18446744073709551616) ||| x39_2, (v3 * 2 ^ 1 % 18446744073709551616) ||| x39_3] + (115792089237316195423570985008687907853269984665640564039457584007913129639936 - Lm.wv (Lm.w4 Lm.ord))) % 115792089237316195423570985008687907853269984665640564039457584007913129639936))), Value.int .u64 (((if Lm.wv [(v0 * 2 ^ 1 % 18446744073709551616) ||| x25, (v1 * 2 ^ 1 % 18446744073709551616) ||| x39, (v2 * 2 ^ 1 % 18446744073709551616) ||| x39_2, (v3 * 2 ^ 1 % 18446744073709551616) ||| x39_3] < Lm.wv (Lm.w4 Lm.ord) then 1 else 0) : Nat) : Int)], Value.tuple #[Value.agg (ua .u64 (Lm.w4 ((Lm.wv [(v0 * 2 ^ 1 % 18446744073709551616) ||| x25, (v1 * 2 ^ 1 % 18446744073709551616) ||| x39, (v2 * 2 ^ 1 % 18446744073709551616) ||| x39_2, (v3 * 2 ^ 1 % 18446744073709551616) ||| x39_3] + (115792089237316195423570985008687907853269984665640564039457584007913129639936 - Lm.wv (Lm.w4 Lm.ord))) % 115792089237316195423570985008687907853269984665640564039457584007913129639936))), Value.int .u64 (((if Lm.wv [(v0 * 2 ^ 1 % 18446744073709551616) ||| x25, (v1 * 2 ^ 1 % 18446744073709551616) ||| x39, (v2 * 2 ^ 1 % 18446744073709551616) ||| x39_2, (v3 * 2 ^ 1 % 18446744073709551616) ||| x39_3] < Lm.wv (Lm.w4 Lm.ord) then 1 else 0) : Nat) : Int)], Value.agg (ua .u64 (Lm.w4 ((Lm.wv [(v0 * 2 ^ 1 % 18446744073709551616) ||| x25, (v1 * 2 ^ 1 % 18446744073709551616) ||| x39, (v2 * 2 ^ 1 % 18446744073709551616) ||| x39_2, (v3 * 2 ^ 1 % 18446744073709551616) ||| x39_3] + (115792089237316195423570985008687907853269984665640564039457584007913129639936 - Lm.wv (Lm.w4 Lm.ord))) % 115792089237316195423570985008687907853269984665640564039457584007913129639936))), Value.int .u64 (((if Lm.wv [(v0 * 2 ^ 1 % 18446744073709551616) ||| x25, (v1 * 2 ^ 1 % 18446744073709551616) ||| x39, (v2 * 2 ^ 1 % 18446744073709551616) ||| x39_2, (v3 * 2 ^ 1 % 18446744073709551616) ||| x39_3] < Lm.wv (Lm.w4 Lm.ord) then 1 else 0) : Nat) : Int), undef, undef] (fun w => w.heap[bk3]? = some (.cells (ua .u64 [(v0 * 2 ^ 1 % 18446744073709551616) ||| x25, (v1 * 2 ^ 1 % 18446744073709551616) ||| x39, (v2 * 2 ^ 1 % 18446744073709551616) ||| x39_2, (v3 * 2 ^ 1 % 18446744073709551616) ||| x39_3]) 36 (0, 0)) ∧ w.heap[bk2]? = some (.cells (ua .u64 [0, 0, 0, 0]) 36 (0, 0)) ∧ w.heap[g]? = some (.cells (ua .u64 l) tt (0, 0))) [fun vs w => Hp w0 [] w [.blk bk3 36 (ua .u64 [(v0 * 2 ^ 1 % 18446744073709551616) ||| x25, (v1 * 2 ^ 1 % 18446744073709551616) ||| x39, (v2 * 2 ^ 1 % 18446744073709551616) ||| x39_2, (v3 * 2 ^ 1 % 18446744073709551616) ||| x39_3]), .blk bk2 36 (ua .u64 [0, 0, 0, 0])], fun vs w => ∃ bk7_, vs[0]? = some (Value.pointer (some ⟨bk7_, 0, none⟩)) ∧ Hp w0 [] w [Ent.blk bk7_ 36 (ua .u64 [0, 0, 0, 0]), .blk bk3 36 (ua .u64 [(v0 * 2 ^ 1 % 18446744073709551616) ||| x25, (v1 * 2 ^ 1 % 18446744073709551616) ||| x39, (v2 * 2 ^ 1 % 18446744073709551616) ||| x39_2, (v3 * 2 ^ 1 % 18446744073709551616) ||| x39_3]), .blk bk2 36 (ua .u64 [0, 0, 0, 0])], fun _ _ => False, fun vs w => ∃ bk7_, vs[0]? = some (Value.pointer (some ⟨bk7_, 0, none⟩)) ∧ Hp w0 [] w [Ent.blk bk7_ 36 (ua .u64 (Lm.w4 ((Lm.wv [(v0 * 2 ^ 1 % 18446744073709551616) ||| x25, (v1 * 2 ^ 1 % 18446744073709551616) ||| x39, (v2 * 2 ^ 1 % 18446744073709551616) ||| x39_2, (v3 * 2 ^ 1 % 18446744073709551616) ||| x39_3] + (115792089237316195423570985008687907853269984665640564039457584007913129639936 - Lm.wv (Lm.w4 Lm.ord))) % 115792089237316195423570985008687907853269984665640564039457584007913129639936))), .blk bk3 36 (ua .u64 [(v0 * 2 ^ 1 % 18446744073709551616) ||| x25, (v1 * 2 ^ 1 % 18446744073709551616) ||| x39, (v2 * 2 ^ 1 % 18446744073709551616) ||| x39_2, (v3 * 2 ^ 1 % 18446744073709551616) ||| x39_3]), .blk bk2 36 (ua .u64 [0, 0, 0, 0])]] T_mixed (by kernel_rfl) ⟨fun _ _ H => ⟨H.get 0 rfl, H.get 1 rfl, H.oldB hg (by simp)⟩, fun _ _ h => by obtain ⟨_, _, H⟩ := h; exact ⟨H.get 1 rfl, H.get 2 rfl, H.oldB hg (by simp)⟩, fun _ _ h => h.elim, fun _ _ h => by obtain ⟨_, _, H⟩ := h; exact ⟨H.get 1 rfl, H.get 2 rfl, H.oldB hg (by simp)⟩, trivial⟩ ⟨fun _ _ _ hkp H => H.keep hkp, fun _ _ _ hkp h => by obtain ⟨q0, q1, H⟩ := h; exact ⟨q0, q1, H.keep hkp⟩, fun _ _ _ _ h => h.elim, fun _ _ _ hkp h => by obtain ⟨q0, q1, H⟩ := h; exact ⟨q0, q1, H.keep hkp⟩, trivial⟩ H_8 ?_ ?_
            ·
              refine .plain rfl (Pl_y rfl (fun w hBw => Y_ldrb T_row36 hBw.1 e_6_3 rfl)) ?_
              refine .plain rfl (Pl_c rfl T_en30 (A0) (fun w hBw => order_n _)) ?_
              refine .plain rfl (Pl_c rfl T_en31 (A2 rfl rfl) (fun w hBw => less_spec [(v0 * 2 ^ 1 % 18446744073709551616) ||| x25, (v1 * 2 ^ 1 % 18446744073709551616) ||| x39, (v2 * 2 ^ 1 % 18446744073709551616) ||| x39_2, (v3 * 2 ^ 1 % 18446744073709551616) ||| x39_3] (Wd.of4 (Nat.or_lt_two_pow (n := 64) (Nat.mod_lt _ (by decide)) rx25) (Nat.or_lt_two_pow (n := 64) (Nat.mod_lt _ (by decide)) rx39) (Nat.or_lt_two_pow (n := 64) (Nat.mod_lt _ (by decide)) rx39_2) (Nat.or_lt_two_pow (n := 64) (Nat.mod_lt _ (by decide)) rx39_3)) (Lm.w4 Lm.ord) (w4_wd Lm.ord) _)) ?_
              refine .plain rfl (Pl_y rfl (fun w hBw => rfl)) ?_
              refine .plain rfl (Pl_y rfl (fun w hBw => Y_ext rfl rfl)) ?_
              refine .plain rfl (Pl_y rfl (fun w hBw => Y_ext rfl rfl)) ?_
              refine .special 0 rfl (Special.of ⟨⟨⟨⟨trivial, fun _ _ _ e' w' hAg hYs => by
                  have H : Hp w0 [] w' [.blk bk3 36 (ua .u64 [(v0 * 2 ^ 1 % 18446744073709551616) ||| x25, (v1 * 2 ^ 1 % 18446744073709551616) ||| x39, (v2 * 2 ^ 1 % 18446744073709551616) ||| x39_2, (v3 * 2 ^ 1 % 18446744073709551616) ||| x39_3]), .blk bk2 36 (ua .u64 [0, 0, 0, 0])] := hYs
                  exact ⟨rfl, Dn_alloc H T_zero36 (fun b w2 Hn => ⟨_, rfl, Hn⟩)⟩⟩, fun h => absurd h (by decide)⟩, fun _ _ h => absurd (by decide) (h 1 7 rfl (by decide))⟩, fun h => absurd h (by decide)⟩) ?_
              refine .special 1 rfl (Special.of ⟨⟨⟨⟨trivial, fun _ h => absurd (h 0 6 rfl (by decide)) (by decide)⟩, fun _ _ _ e' w' hAg hYs => by
                  obtain ⟨bk7_, q0, H⟩ := hYs
                  exact ⟨rfl, Dn_str (ds := ua .u64 (Lm.w4 ((Lm.wv [(v0 * 2 ^ 1 % 18446744073709551616) ||| x25, (v1 * 2 ^ 1 % 18446744073709551616) ||| x39, (v2 * 2 ^ 1 % 18446744073709551616) ||| x39_2, (v3 * 2 ^ 1 % 18446744073709551616) ||| x39_3] + (115792089237316195423570985008687907853269984665640564039457584007913129639936 - Lm.wv (Lm.w4 Lm.ord))) % 115792089237316195423570985008687907853269984665640564039457584007913129639936))) T_row36 H (i := 0) rfl (Option.some.inj q0) ((hAg 46 rfl).trans rfl) rfl (by rw [ua_size]; exact (w4_wd ((Lm.wv [(v0 * 2 ^ 1 % 18446744073709551616) ||| x25, (v1 * 2 ^ 1 % 18446744073709551616) ||| x39, (v2 * 2 ^ 1 % 18446744073709551616) ||| x39_2, (v3 * 2 ^ 1 % 18446744073709551616) ||| x39_3] + (115792089237316195423570985008687907853269984665640564039457584007913129639936 - Lm.wv (Lm.w4 Lm.ord))) % 115792089237316195423570985008687907853269984665640564039457584007913129639936)).1) (ua_one _ _) (l' := [Ent.blk bk7_ 36 (ua .u64 (Lm.w4 ((Lm.wv [(v0 * 2 ^ 1 % 18446744073709551616) ||| x25, (v1 * 2 ^ 1 % 18446744073709551616) ||| x39, (v2 * 2 ^ 1 % 18446744073709551616) ||| x39_2, (v3 * 2 ^ 1 % 18446744073709551616) ||| x39_3] + (115792089237316195423570985008687907853269984665640564039457584007913129639936 - Lm.wv (Lm.w4 Lm.ord))) % 115792089237316195423570985008687907853269984665640564039457584007913129639936))), .blk bk3 36 (ua .u64 [(v0 * 2 ^ 1 % 18446744073709551616) ||| x25, (v1 * 2 ^ 1 % 18446744073709551616) ||| x39, (v2 * 2 ^ 1 % 18446744073709551616) ||| x39_2, (v3 * 2 ^ 1 % 18446744073709551616) ||| x39_3]), .blk bk2 36 (ua .u64 [0, 0, 0, 0])]) rfl (fun w2 Hn => ⟨bk7_, q0, Hn⟩)⟩⟩, fun h => absurd h (by decide)⟩, fun h => absurd h (by decide)⟩) ?_
              exact .nil _
            ·
              intro e_7 w_9 hAg hYs
              obtain ⟨bk7_, q0, H_9⟩ := hYs
              have e_7_7 : e_7 7 = Value.pointer (some ⟨bk7_, 0, none⟩) := Option.some.inj q0
              have e_7_0 : e_7 0 = Value.slice (some ⟨g, 0, none⟩) n c := (hAg 0 rfl).trans e_6_0
              have e_7_2 : e_7 2 = Value.pointer (some ⟨bk2, 0, none⟩) := (hAg 2 rfl).trans e_6_2
              have e_7_3 : e_7 3 = Value.pointer (some ⟨bk3, 0, none⟩) := (hAg 3 rfl).trans e_6_3
              have e_7_4 : e_7 4 = Value.int .i64 ((i : Nat) : Int) := (hAg 4 rfl).trans e_6_4
              obtain ⟨x47, hx47⟩ : ∃ x : Nat, x = (if Lm.wv [(v0 * 2 ^ 1 % 18446744073709551616) ||| x25, (v1 * 2 ^ 1 % 18446744073709551616) ||| x39, (v2 * 2 ^ 1 % 18446744073709551616) ||| x39_2, (v3 * 2 ^ 1 % 18446744073709551616) ||| x39_3] < Lm.wv (Lm.w4 Lm.ord) then 1 else 0) := ⟨_, rfl⟩
              have e_7_47 : e_7 47 = Value.int .u64 ((x47 : Nat) : Int) := (hAg 47 rfl).trans (by rw [hx47]; exact rfl)
              refine L_as rfl ?_
              refine L_nil ?_
              refine Th_n ?_
              refine W_seq ?_
              refine W_rg ?_
              refine L_mv rfl ?_
              refine L_y rfl (Y_eql (k := .u64) (a := ((x47 : Nat) : Int)) (b := ((0 : Nat) : Int)) e_7_47 rfl) ?_
              refine L_nil ?_
              refine Th_n ?_
              refine W_cond (b := (((x47 : Nat) : Int) == ((0 : Nat) : Int))) rfl (fun hc_2 => ?_) (fun hc_2 => ?_)
              ·
                have hc_2' := eq_of_beq hc_2
                refine W_rg ?_
                refine L_y rfl (Y_ldr T_row36 H_9 (i := 0) rfl e_7_7 (by rw [ua_size]; exact (w4_wd ((Lm.wv [(v0 * 2 ^ 1 % 18446744073709551616) ||| x25, (v1 * 2 ^ 1 % 18446744073709551616) ||| x39, (v2 * 2 ^ 1 % 18446744073709551616) ||| x39_2, (v3 * 2 ^ 1 % 18446744073709551616) ||| x39_3] + (115792089237316195423570985008687907853269984665640564039457584007913129639936 - Lm.wv (Lm.w4 Lm.ord))) % 115792089237316195423570985008687907853269984665640564039457584007913129639936)).1)) ?_
                refine L_str (ds := ua .u64 (Lm.w4 ((Lm.wv [(v0 * 2 ^ 1 % 18446744073709551616) ||| x25, (v1 * 2 ^ 1 % 18446744073709551616) ||| x39, (v2 * 2 ^ 1 % 18446744073709551616) ||| x39_2, (v3 * 2 ^ 1 % 18446744073709551616) ||| x39_3] + (115792089237316195423570985008687907853269984665640564039457584007913129639936 - Lm.wv (Lm.w4 Lm.ord))) % 115792089237316195423570985008687907853269984665640564039457584007913129639936))) T_row36 H_9 (i := 1) rfl e_7_3 rfl rfl (by rw [ua_size]; exact (w4_wd ((Lm.wv [(v0 * 2 ^ 1 % 18446744073709551616) ||| x25, (v1 * 2 ^ 1 % 18446744073709551616) ||| x39, (v2 * 2 ^ 1 % 18446744073709551616) ||| x39_2, (v3 * 2 ^ 1 % 18446744073709551616) ||| x39_3] + (115792089237316195423570985008687907853269984665640564039457584007913129639936 - Lm.wv (Lm.w4 Lm.ord))) % 115792089237316195423570985008687907853269984665640564039457584007913129639936)).1) (ua_one _ _) (l' := [.blk bk7_ 36 (ua .u64 (Lm.w4 ((Lm.wv [(v0 * 2 ^ 1 % 18446744073709551616) ||| x25, (v1 * 2 ^ 1 % 18446744073709551616) ||| x39, (v2 * 2 ^ 1 % 18446744073709551616) ||| x39_2, (v3 * 2 ^ 1 % 18446744073709551616) ||| x39_3] + (115792089237316195423570985008687907853269984665640564039457584007913129639936 - Lm.wv (Lm.w4 Lm.ord))) % 115792089237316195423570985008687907853269984665640564039457584007913129639936))), .blk bk3 36 (ua .u64 (Lm.w4 ((Lm.wv [(v0 * 2 ^ 1 % 18446744073709551616) ||| x25, (v1 * 2 ^ 1 % 18446744073709551616) ||| x39, (v2 * 2 ^ 1 % 18446744073709551616) ||| x39_2, (v3 * 2 ^ 1 % 18446744073709551616) ||| x39_3] + (115792089237316195423570985008687907853269984665640564039457584007913129639936 - Lm.wv (Lm.w4 Lm.ord))) % 115792089237316195423570985008687907853269984665640564039457584007913129639936))), .blk bk2 36 (ua .u64 [0, 0, 0, 0])]) rfl ?_; intro w_10 H_10
                refine L_nil ?_
                refine InB_n ?_
                refine Th_n ?_
                refine W_rg ?_
                refine L_mv rfl ?_
                refine L_y rfl (Y_sub (k := .i64) (a := ((i : Nat) : Int)) (b := ((1 : Nat) : Int)) (z := (((i : Nat) : Int) - ((1 : Nat) : Int))) e_7_4 rfl (wi (by omega))) ?_
                refine L_as rfl ?_
                refine L_nil ?_
                refine Th_n ⟨_, ?_, i, ((Lm.wv [(v0 * 2 ^ 1 % 18446744073709551616) ||| x25, (v1 * 2 ^ 1 % 18446744073709551616) ||| x39, (v2 * 2 ^ 1 % 18446744073709551616) ||| x39_2, (v3 * 2 ^ 1 % 18446744073709551616) ||| x39_3] + (115792089237316195423570985008687907853269984665640564039457584007913129639936 - Lm.wv (Lm.w4 Lm.ord))) % 115792089237316195423570985008687907853269984665640564039457584007913129639936) % 18446744073709551616, ((Lm.wv [(v0 * 2 ^ 1 % 18446744073709551616) ||| x25, (v1 * 2 ^ 1 % 18446744073709551616) ||| x39, (v2 * 2 ^ 1 % 18446744073709551616) ||| x39_2, (v3 * 2 ^ 1 % 18446744073709551616) ||| x39_3] + (115792089237316195423570985008687907853269984665640564039457584007913129639936 - Lm.wv (Lm.w4 Lm.ord))) % 115792089237316195423570985008687907853269984665640564039457584007913129639936) / 18446744073709551616 % 18446744073709551616, ((Lm.wv [(v0 * 2 ^ 1 % 18446744073709551616) ||| x25, (v1 * 2 ^ 1 % 18446744073709551616) ||| x39, (v2 * 2 ^ 1 % 18446744073709551616) ||| x39_2, (v3 * 2 ^ 1 % 18446744073709551616) ||| x39_3] + (115792089237316195423570985008687907853269984665640564039457584007913129639936 - Lm.wv (Lm.w4 Lm.ord))) % 115792089237316195423570985008687907853269984665640564039457584007913129639936) / 340282366920938463463374607431768211456 % 18446744073709551616, ((Lm.wv [(v0 * 2 ^ 1 % 18446744073709551616) ||| x25, (v1 * 2 ^ 1 % 18446744073709551616) ||| x39, (v2 * 2 ^ 1 % 18446744073709551616) ||| x39_2, (v3 * 2 ^ 1 % 18446744073709551616) ||| x39_3] + (115792089237316195423570985008687907853269984665640564039457584007913129639936 - Lm.wv (Lm.w4 Lm.ord))) % 115792089237316195423570985008687907853269984665640564039457584007913129639936) / 6277101735386680763835789423207666416102355444464034512896 % 18446744073709551616, rfl, e_7_0, e_7_2, e_7_3, rfl, H_10.drop_, (by omega), (Nat.mod_lt _ (by decide)), (Nat.mod_lt _ (by decide)), (Nat.mod_lt _ (by decide)), (Nat.mod_lt _ (by decide)), ((Lm.rest_t rv0 rv1 rv2 rv3 hl hx21 hx24 hx25 hx39 hx39_2 hx39_3 hw rfl hx47).1 hc_2')⟩
                omega
              ·
                have hc_2' := ne_of_beq_false hc_2
                refine W_skip ?_
                refine InB_n ?_
                refine Th_n ?_
                refine W_rg ?_
                refine L_mv rfl ?_
                refine L_y rfl (Y_sub (k := .i64) (a := ((i : Nat) : Int)) (b := ((1 : Nat) : Int)) (z := (((i : Nat) : Int) - ((1 : Nat) : Int))) e_7_4 rfl (wi (by omega))) ?_
                refine L_as rfl ?_
                refine L_nil ?_
                refine Th_n ⟨_, ?_, i, (v0 * 2 ^ 1 % 18446744073709551616) ||| x25, (v1 * 2 ^ 1 % 18446744073709551616) ||| x39, (v2 * 2 ^ 1 % 18446744073709551616) ||| x39_2, (v3 * 2 ^ 1 % 18446744073709551616) ||| x39_3, rfl, e_7_0, e_7_2, e_7_3, rfl, H_9.drop_, (by omega), (Nat.or_lt_two_pow (n := 64) (Nat.mod_lt _ (by decide)) rx25), (Nat.or_lt_two_pow (n := 64) (Nat.mod_lt _ (by decide)) rx39), (Nat.or_lt_two_pow (n := 64) (Nat.mod_lt _ (by decide)) rx39_2), (Nat.or_lt_two_pow (n := 64) (Nat.mod_lt _ (by decide)) rx39_3), ((Lm.rest_t rv0 rv1 rv2 rv3 hl hx21 hx24 hx25 hx39 hx39_2 hx39_3 hw rfl hx47).2 hc_2')⟩
                omega
  ·
    have hj0 : j = 0 := by have := of_decide_eq_false hc; omega
    refine W_exit ?_
    refine Th_x ?_
    refine Th_x ?_
    refine InB_hit ?_
    refine Th_n ?_
    refine W_seq ?_
    refine W_rg ?_
    refine L_y rfl (Y_ldr T_row36 H_4 (i := 0) rfl e_2_3 rfl) ?_
    refine L_str (ds := ua .u64 [v0, v1, v2, v3]) T_row36 H_4 (i := 1) rfl e_2_2 rfl rfl rfl (ua_one _ _) (l' := [.blk bk3 36 (ua .u64 [v0, v1, v2, v3]), .blk bk2 36 (ua .u64 [v0, v1, v2, v3])]) rfl ?_; intro w_11 H_11
    refine L_nil ?_
    refine Th_n ?_
    refine W_ret ?_
    refine P_ret (vs := [Value.agg (ua .u64 [v0, v1, v2, v3])]) (v := Value.agg (ua .u64 [v0, v1, v2, v3])) rfl (.cell e_2_2 (loadVar_row T_row36 H_11 (i := 1) rfl rfl) (Res.nil)) rfl ?_
    refine ⟨?_, H_11.nil_⟩
    rw [Lm.rest_done rv0 rv1 rv2 rv3 hj0 hw]
end Go.Proofs.Ythjdikgdhmlmcaa
