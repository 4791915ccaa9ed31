/- Walks of layers 1 and 3 and of their references. Printed by edwards.py. -/
import Derived.Test.YtbjpaggkmlgnoaaG11
import Derived.Test.YtbjpaggkmlgnoaaV9
import Derived.Test.YtbjpaggkmlgnoaaLimbMath6
namespace Go.Proofs.Ytbjpaggkmlgnoaa
open Go.Ev
set_option maxRecDepth 100000
theorem T_sl98 : slOf Try.prog 98 = some (3, 1) := by kernel_rfl
theorem T_zero3 : zeroOf Try.prog 3 = some (ua .i64 [0]) := by kernel_rfl
theorem T_szb3 : szOf Try.prog 3 = some 8 := by kernel_rfl
theorem T_en43 : enters Try.prog 43 = true := by kernel_rfl
theorem T_en41 : enters Try.prog 41 = true := by kernel_rfl
theorem T_scal3 : scal Try.prog 3 = true := by kernel_rfl
theorem ones_n (n q c g : Nat) (low : List Nat) (hl : Wd q 2 low) (hq : q ≤ n) (hn : n ≤ 1000) (h0 : 0 < n) (w0 : World) (hg : w0.heap[g]? = some (.cells (ua .i64 low) 3 (0, 0))) :
    Calls Try.prog 70 #[Value.int .i64 ((n : Nat) : Int), Value.slice (some ⟨g, 0, none⟩) q c] w0 (fun r_ w' => ∃ b cap cs, r_ = .returned (Value.slice (some ⟨b, 0, none⟩) n cap) ∧ cs.toList.take n = us .i64 (Lm.onesL low n) ∧ Hp w0 [] w' [.blk b 3 cs]) := by
  refine F_in Try.func70 rfl Try.ntmps70 rfl ?_
  intro e he
  have p_0 : e 0 = Value.int .i64 ((n : Nat) : Int) := he 0 _ rfl
  have p_1 : e 1 = Value.slice (some ⟨g, 0, none⟩) q c := he 1 _ rfl
  have H := Hp.start w0 []
  refine W_seq ?_
  refine W_rg ?_
  refine L_as rfl ?_
  refine L_nil ?_
  refine Th_n ?_
  refine W_seq ?_
  refine W_rg ?_
  refine L_bsl (cs := ua .i64 []) rfl H (pv := []) T_sl98 T_zero3 rfl Bp0 (by kernel_rfl) ?_; intro bk6 w_2 H_2
  have H_3 : Hp w0 [] w_2 [Ent.own (Value.slice (some ⟨bk6, 0, none⟩) 0 0) 3 1 0 (us .i64 [])] := H_2.say (i := 0) (x' := .own (Value.slice (some ⟨bk6, 0, none⟩) 0 0) 3 1 0 (us .i64 [])) rfl (own_of_blk (Nat.le_refl _) (by decide) rfl rfl) (fun _ h => h) rfl
  refine L_mv rfl ?_
  refine L_appS rfl H_3 (i := 0) rfl T_sl98 T_zero3 rfl T_szb3 rfl p_1 (news_ua (H_3.oldB hg (by simp))) hl.1 (by omega) ?_; intro v8 w_3 Hx
  have H_4 : Hp w0 [] w_3 [Ent.own v8 3 1 (0 + q) (us .i64 ([] ++ low))] := Hx
  refine L_as rfl ?_
  refine L_nil ?_
  refine Th_n ?_
  refine W_seq ?_
  refine W_block ?_
  have H_5 : Hp w0 [] w_3 [Ent.own v8 3 1 q (us .i64 (Lm.onesL low q))] := by have h := H_4; rw [Nat.zero_add] at h; rw [Lm.onesL_init hl.1]; exact h
  refine W_loop (fun mu_ e w => ∃ m : Nat, ∃ v : Value, mu_ = n - m ∧ e 0 = Value.int .i64 ((n : Nat) : Int) ∧ e 5 = v ∧ Hp w0 [] w [.own v 3 1 m (us .i64 (Lm.onesL low m))] ∧ q ≤ m ∧ m ≤ n) _ ⟨q, v8, rfl, p_0, rfl, H_5, (Nat.le_refl _), hq⟩ ?_
  rintro mu_ e_2 w_4 ⟨m, v, rfl, e_2_0, e_2_5, H_6, hm, hmn⟩
  refine W_seq ?_
  refine W_seq ?_
  refine W_rg ?_
  refine L_mv rfl ?_
  refine L_y rfl (Y_lenO T_sl98 H_6 (i := 0) rfl e_2_5) ?_
  refine L_mv rfl ?_
  refine L_y rfl (Y_lss (k := .i64) (a := ((m : Nat) : Int)) (b := ((n : Nat) : Int)) rfl e_2_0) ?_
  refine L_nil ?_
  refine Th_n ?_
  refine W_cond (b := (decide (((m : Nat) : Int) < ((n : Nat) : Int)))) rfl (fun hc => ?_) (fun hc => ?_)
  ·
    have hc' := of_decide_eq_true hc
    refine W_skip ?_
    refine Th_n ?_
    refine W_block ?_
    refine W_rg ?_
    refine L_mv rfl ?_
    refine L_bsl (cs := ua .i64 [1]) rfl H_6 (pv := [(0, Value.int .i64 ((1 : Nat) : Int))]) T_sl98 T_zero3 rfl (Bpc rfl Bp0) (by kernel_rfl) ?_; intro bk14 w_5 H_7
    refine L_appS rfl H_7 (i := 1) rfl T_sl98 T_zero3 rfl T_szb3 e_2_5 rfl (news_ua (H_7.get 0 rfl)) rfl (by omega) ?_; intro v15 w_6 Hx_2
    have H_8 : Hp w0 [] w_6 [Ent.blk bk14 3 (ua .i64 [1]), .own v15 3 1 (m + 1) (us .i64 ((Lm.onesL low m) ++ [1]))] := Hx_2
    refine L_as rfl ?_
    refine L_nil ?_
    refine InB_n ?_
    have H_9 : Hp w0 [] w_6 [Ent.blk bk14 3 (ua .i64 [1]), .own v15 3 1 (m + 1) (us .i64 (Lm.onesL low (m + 1)))] := by have h := H_8; rw [Lm.onesL_step hl.1 hm]; exact h
    refine Th_n ⟨_, ?_, m + 1, v15, rfl, e_2_0, rfl, H_9.drop_, (by omega), (by omega)⟩
    omega
  ·
    have hc' := of_decide_eq_false hc
    refine W_exit ?_
    refine Th_x ?_
    refine Th_x ?_
    refine InB_hit ?_
    refine Th_n ?_
    refine W_seq ?_
    refine W_rg ?_
    refine L_mv rfl ?_
    refine L_as rfl ?_
    refine L_nil ?_
    refine Th_n ?_
    refine W_ret ?_
    refine P_ret (vs := [v]) (v := v) rfl (.tmp e_2_5 (Res.nil)) rfl ?_
    obtain rfl : m = n := by omega
    obtain ⟨b, cap, cs, e1, hx, HB⟩ := own_end H_6 (i := 0) rfl (by omega)
    exact ⟨b, cap, cs, by rw [e1], hx, HB⟩

theorem power_n (A n c g : Nat) (cs : Array Value) (l : List Nat) (hA : A < 115792089237316195423570985008687907853269984665640564039457584007913129639936) (hl : Wd n 2 l) (hn : n ≤ 256) (w0 : World) (hg : w0.heap[g]? = some (.cells cs 3 (0, 0))) (hx : cs.toList.take n = us .i64 l) :
    Calls Try.prog 69 #[Value.agg (ua .u64 (Lm.n8 A)), Value.slice (some ⟨g, 0, none⟩) n c] w0 (fun r_ w' => r_ = .returned (.agg (ua .u64 (Lm.n8 (Lm.powm A (Lm.dv 2 l))))) ∧ Keep w0 w') := by
  refine F_in Try.func69 rfl Try.ntmps69 rfl ?_
  intro e he
  have p_0 : e 0 = Value.agg (ua .u64 (Lm.n8 A)) := he 0 _ rfl
  have p_1 : e 1 = Value.slice (some ⟨g, 0, none⟩) n c := he 1 _ rfl
  have H := Hp.start w0 []
  refine W_seq ?_
  refine W_rg ?_
  refine L_box rfl H p_0 (cs := ua .u64 (Lm.n8 A)) rfl ?_; intro bk2 w_2 H_2
  refine L_alloc rfl H_2 T_zero30 ?_; intro bk4 w_3 H_3
  refine L_nil ?_
  refine Th_n ?_
  refine W_seq ?_
  refine W_rg ?_
  refine L_callv rfl rfl T_en43 (A1 rfl) ((rof_n 1 (by decide) _).mono (fun r_ w' h => (⟨1 % Lm.p, rfl, h⟩ : ∃ (N7 : Nat), N7 = 1 % Lm.p ∧ r_ = .returned (Value.agg (ua .u64 (Lm.n8 N7))) ∧ Keep w_3 w'))) ?_
  rintro _ w_4 ⟨N7, hN7, rfl, hkp⟩; refine ⟨_, rfl, ?_⟩; have H_4 := H_3.keep hkp
  refine L_alloc rfl H_4 T_zero30 ?_; intro bk5 w_5 H_5
  refine L_str (ds := ua .u64 (Lm.n8 N7)) T_row30 H_5 (i := 0) rfl rfl rfl rfl (by rw [ua_size]; exact (n8_wd N7).1) (ua_one _ _) (l' := [.blk bk5 30 (ua .u64 (Lm.n8 N7)), .blk bk4 30 (ua .u64 [0, 0, 0, 0, 0, 0, 0, 0]), .blk bk2 30 (ua .u64 (Lm.n8 A))]) rfl ?_; intro w_6 H_6
  refine L_nil ?_
  refine Th_n ?_
  refine W_seq ?_
  refine W_seq ?_
  refine W_rg ?_
  refine L_mv rfl ?_
  refine L_y rfl (Y_lenS T_sl98 p_1) ?_
  refine L_y rfl (Y_sub (k := .i64) (a := ((n : Nat) : Int)) (b := ((1 : Nat) : Int)) (z := (((n : Nat) : Int) - ((1 : Nat) : Int))) rfl rfl (wi (by omega))) ?_
  refine L_as rfl ?_
  refine L_nil ?_
  refine Th_n ?_
  refine W_block ?_
  refine W_loop (fun mu_ e w => ∃ j : Nat, ∃ N : Nat, mu_ = 2 * j ∧ e 1 = Value.slice (some ⟨g, 0, none⟩) n c ∧ e 2 = Value.pointer (some ⟨bk2, 0, none⟩) ∧ e 4 = Value.pointer (some ⟨bk4, 0, none⟩) ∧ e 5 = Value.pointer (some ⟨bk5, 0, none⟩) ∧ e 6 = Value.int .i64 (((j : Nat) : Int) - ((1 : Nat) : Int)) ∧ Hp w0 [] w [.blk bk5 30 (ua .u64 (Lm.n8 N)), .blk bk4 30 (ua .u64 [0, 0, 0, 0, 0, 0, 0, 0]), .blk bk2 30 (ua .u64 (Lm.n8 A))] ∧ j ≤ n ∧ N < 115792089237316195423570985008687907853269984665640564039457584007913129639936 ∧ N = Lm.powm A (Lm.dv 2 (l.drop j))) _ ⟨n, N7, rfl, p_1, rfl, rfl, rfl, rfl, H_6, (Nat.le_refl _), (Lm.ltp hN7), (Lm.pow_bits hl.1 hN7)⟩ ?_
  rintro mu_ e_2 w_7 ⟨j, N, rfl, e_2_1, e_2_2, e_2_4, e_2_5, e_2_6, H_7, hj, hN, hV⟩
  refine W_seq ?_
  refine W_seq ?_
  refine W_rg ?_
  refine L_mv rfl ?_
  refine L_y rfl (Y_geq (k := .i64) (a := (((j : Nat) : Int) - ((1 : Nat) : Int))) (b := ((0 : Nat) : Int)) e_2_6 rfl) ?_
  refine L_nil ?_
  refine Th_n ?_
  refine W_cond (b := (decide (((0 : Nat) : Int) ≤ (((j : Nat) : Int) - ((1 : Nat) : Int))))) rfl (fun hc => ?_) (fun hc => ?_)
  ·
    obtain ⟨i, rfl⟩ : ∃ i, j = i + 1 := by have := of_decide_eq_true hc; exact ⟨j - 1, by omega⟩
    have ejm := e_2_6.trans (congrArg (Value.int .i64) (by omega : ((i + 1 : Nat) : Int) - ((1 : Nat) : Int) = ((i : Nat) : Int)))
    refine W_skip ?_
    refine Th_n ?_
    refine W_seq ?_
    refine W_block ?_
    refine W_seq ?_
    refine W_rg ?_
    refine L_y rfl (Y_ldr T_row30 H_7 (i := 0) rfl e_2_5 (by rw [ua_size]; exact (n8_wd N).1)) ?_
    refine L_y rfl (Y_ldr T_row30 H_7 (i := 0) rfl e_2_5 (by rw [ua_size]; exact (n8_wd N).1)) ?_
    refine L_callv rfl rfl T_en41 (A2 rfl rfl) ((rmul_n N N hN hN _).mono (fun r_ w' h => (⟨N * N % Lm.p, rfl, h⟩ : ∃ (N17 : Nat), N17 = N * N % Lm.p ∧ r_ = .returned (Value.agg (ua .u64 (Lm.n8 N17))) ∧ Keep w_7 w'))) ?_
    rintro _ w_8 ⟨N17, hN17, rfl, hkp_2⟩; refine ⟨_, rfl, ?_⟩; have H_8 := H_7.keep hkp_2
    refine L_str (ds := ua .u64 (Lm.n8 N17)) T_row30 H_8 (i := 0) rfl e_2_5 rfl (by rw [ua_size]; exact (n8_wd N).1) (by rw [ua_size]; exact (n8_wd N17).1) (ua_one _ _) (l' := [.blk bk5 30 (ua .u64 (Lm.n8 N17)), .blk bk4 30 (ua .u64 [0, 0, 0, 0, 0, 0, 0, 0]), .blk bk2 30 (ua .u64 (Lm.n8 A))]) rfl ?_; intro w_9 H_9
    refine L_nil ?_
    refine Th_n ?_
    refine W_seq ?_
    refine W_rg ?_
    refine L_mv rfl ?_
    refine L_mv rfl ?_
    refine L_y rfl (Y_idxS i i T_sl98 e_2_1 ejm rfl (by omega) (zz1 _)) ?_
    obtain ⟨x21, hx21⟩ : ∃ u, l[i]? = some u := ⟨_, List.getElem?_eq_getElem (by have := hl.1; omega)⟩
    have rx21 := hl.2 _ (List.mem_of_getElem? hx21)
    refine L_y rfl (Y_ldb T_scal3 (H_9.oldB hg (by simp)) rfl (pre_get hx hx21)) ?_
    refine L_y rfl (Y_eql (k := .i64) (a := ((x21 : Nat) : Int)) (b := ((1 : Nat) : Int)) rfl rfl) ?_
    refine L_nil ?_
    refine Th_n ?_
    refine W_cond (b := (((x21 : Nat) : Int) == ((1 : Nat) : Int))) rfl (fun hc_2 => ?_) (fun hc_2 => ?_)
    ·
      have hc_2' := eq_of_beq hc_2
      refine W_rg ?_
      refine L_y rfl (Y_ldr T_row30 H_9 (i := 0) rfl e_2_5 (by rw [ua_size]; exact (n8_wd N17).1)) ?_
      refine L_y rfl (Y_ldr T_row30 H_9 (i := 2) rfl e_2_2 (by rw [ua_size]; exact (n8_wd A).1)) ?_
      refine L_callv rfl rfl T_en41 (A2 rfl rfl) ((rmul_n N17 A (Lm.ltp hN17) hA _).mono (fun r_ w' h => (⟨N17 * A % Lm.p, rfl, h⟩ : ∃ (N25 : Nat), N25 = N17 * A % Lm.p ∧ r_ = .returned (Value.agg (ua .u64 (Lm.n8 N25))) ∧ Keep w_9 w'))) ?_
      rintro _ w_10 ⟨N25, hN25, rfl, hkp_3⟩; refine ⟨_, rfl, ?_⟩; have H_10 := H_9.keep hkp_3
      refine L_str (ds := ua .u64 (Lm.n8 N25)) T_row30 H_10 (i := 0) rfl e_2_5 rfl (by rw [ua_size]; exact (n8_wd N17).1) (by rw [ua_size]; exact (n8_wd N25).1) (ua_one _ _) (l' := [.blk bk5 30 (ua .u64 (Lm.n8 N25)), .blk bk4 30 (ua .u64 [0, 0, 0, 0, 0, 0, 0, 0]), .blk bk2 30 (ua .u64 (Lm.n8 A))]) rfl ?_; intro w_11 H_11
      refine L_nil ?_
      refine InB_n ?_
      refine Th_n ?_
      refine W_rg ?_
      refine L_mv rfl ?_
      refine L_y rfl (Y_sub (k := .i64) (a := ((i : Nat) : Int)) (b := ((1 : Nat) : Int)) (z := (((i : Nat) : Int) - ((1 : Nat) : Int))) ejm rfl (wi (by omega))) ?_
      refine L_as rfl ?_
      refine L_nil ?_
      refine Th_n ⟨_, ?_, i, N25, rfl, e_2_1, e_2_2, e_2_4, e_2_5, rfl, H_11, (by omega), (Lm.ltp hN25), (Lm.pow_bit1 hV hN17 hx21 hc_2' hN25)⟩
      omega
    ·
      have hc_2' := ne_of_beq_false hc_2
      refine W_skip ?_
      refine InB_n ?_
      refine Th_n ?_
      refine W_rg ?_
      refine L_mv rfl ?_
      refine L_y rfl (Y_sub (k := .i64) (a := ((i : Nat) : Int)) (b := ((1 : Nat) : Int)) (z := (((i : Nat) : Int) - ((1 : Nat) : Int))) ejm rfl (wi (by omega))) ?_
      refine L_as rfl ?_
      refine L_nil ?_
      refine Th_n ⟨_, ?_, i, N17, rfl, e_2_1, e_2_2, e_2_4, e_2_5, rfl, H_9, (by omega), (Lm.ltp hN17), (Lm.pow_bit0 hl.2 hV hN17 hx21 hc_2')⟩
      omega
  ·
    have hj0 : j = 0 := by have := of_decide_eq_false hc; omega
    refine W_exit ?_
    refine Th_x ?_
    refine Th_x ?_
    refine InB_hit ?_
    refine Th_n ?_
    refine W_seq ?_
    refine W_rg ?_
    refine L_y rfl (Y_ldr T_row30 H_7 (i := 0) rfl e_2_5 (by rw [ua_size]; exact (n8_wd N).1)) ?_
    refine L_str (ds := ua .u64 (Lm.n8 N)) T_row30 H_7 (i := 1) rfl e_2_4 rfl rfl (by rw [ua_size]; exact (n8_wd N).1) (ua_one _ _) (l' := [.blk bk5 30 (ua .u64 (Lm.n8 N)), .blk bk4 30 (ua .u64 (Lm.n8 N)), .blk bk2 30 (ua .u64 (Lm.n8 A))]) rfl ?_; intro w_12 H_12
    refine L_nil ?_
    refine Th_n ?_
    refine W_ret ?_
    refine P_ret (vs := [Value.agg (ua .u64 (Lm.n8 N))]) (v := Value.agg (ua .u64 (Lm.n8 N))) rfl (.cell e_2_4 (loadVar_row T_row30 H_12 (i := 1) rfl (by rw [ua_size]; exact (n8_wd N).1)) (Res.nil)) rfl ?_
    refine ⟨?_, H_12.nil_⟩
    rw [hV, hj0, List.drop_zero]
end Go.Proofs.Ytbjpaggkmlgnoaa
