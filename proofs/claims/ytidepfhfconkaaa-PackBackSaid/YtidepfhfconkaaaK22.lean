/- Walks of layer 17 (pack) and of its reference. Printed by pack.py. -/
import Derived.Test.YtidepfhfconkaaaK21
namespace Go.Proofs.Ytidepfhfconkaaa
open Go.Ev
set_option maxRecDepth 100000
set_option linter.unusedVariables false
set_option linter.unusedSimpArgs false
theorem T_en22 : enters Try.prog 22 = true := by kernel_rfl
theorem T_en27 : enters Try.prog 27 = true := by kernel_rfl
theorem T_en25 : enters Try.prog 25 = true := by kernel_rfl
theorem T_kind26 : kindOf Try.prog 26 = some .i64 := by kernel_rfl
theorem T_en26 : enters Try.prog 26 = true := by kernel_rfl
theorem dLeft1 {w0 : World} {bw : Nat} {a : Option Addr} {n c p er : Nat} (hn : n ≤ 4294967000) (hp : p ≤ n) (hg : w0.heap[bw]? = some (.cells #[Value.slice a n c, Value.int .i64 ((p : Nat) : Int), Value.int .i64 ((er : Nat) : Int)] 59 (0, 0))) :
    Calls Try.prog 21 #[Value.pointer (some ⟨bw, 0, none⟩)] w0 (fun r_ w' => r_ = .returned (.int .i64 (((n : Nat) : Int) - ((p : Nat) : Int))) ∧ Keep w0 w') := by
  refine F_in Try.func21 rfl Try.ntmps21 rfl ?_
  intro e he
  have p_0 : e 0 = Value.pointer (some ⟨bw, 0, none⟩) := he 0 _ rfl
  have H := Hp.start w0 []
  refine W_seq ?_
  refine W_rg ?_
  refine L_as rfl ?_
  refine L_nil ?_
  refine Th_n ?_
  refine W_seq ?_
  refine W_seq ?_
  refine W_rg ?_
  refine L_mv rfl ?_
  refine L_y rfl (Y_eqP Try.underlying42 p_0 rfl) ?_
  refine L_nil ?_
  refine Th_n ?_
  refine W_false rfl ?_
  refine W_skip ?_
  refine Th_n ?_
  refine W_seq ?_
  refine W_quiet H 9 [Value.pointer (some ⟨bw, 0, none⟩), Value.pointer (some ⟨bw, 0, none⟩), Value.pointer (some ⟨bw, 0, none⟩), Value.slice a n c, Value.int .i64 ((n : Nat) : Int), Value.pointer (some ⟨bw, 0, none⟩), Value.pointer (some ⟨bw, 0, none⟩), Value.pointer (some ⟨bw, 1, none⟩), Value.int .i64 ((p : Nat) : Int)] T_mixed (by kernel_rfl) ?_ ?_
  ·
    refine .plain rfl (Pl_y rfl (fun w hBw => congrArg (fun v => Result.ok (Next.value v) w) p_0)) ?_
    refine .plain rfl (Pl_y rfl (fun w hBw => Y_nil rfl)) ?_
    refine .plain rfl (Pl_y rfl (fun w hBw => Y_fld T_fld59_0 rfl rfl rfl)) ?_
    refine .plain rfl (Pl_y rfl (fun w hBw => Y_ldb T_scal25 (hBw.oldB hg (by simp)) rfl rfl)) ?_
    refine .plain rfl (Pl_y rfl (fun w hBw => Y_lenS T_sl25 rfl)) ?_
    refine .plain rfl (Pl_y rfl (fun w hBw => congrArg (fun v => Result.ok (Next.value v) w) p_0)) ?_
    refine .plain rfl (Pl_y rfl (fun w hBw => Y_nil rfl)) ?_
    refine .plain rfl (Pl_y rfl (fun w hBw => Y_fld T_fld59_1 rfl rfl rfl)) ?_
    refine .plain rfl (Pl_y rfl (fun w hBw => Y_ldb T_scal3 (hBw.oldB hg (by simp)) rfl rfl)) ?_
    exact .nil _
  ·
    intro e_2 w_2 hAg H_2
    have e_2_9 : e_2 9 = Value.int .i64 ((n : Nat) : Int) := (hAg 9 rfl).trans rfl
    have e_2_13 : e_2 13 = Value.int .i64 ((p : Nat) : Int) := (hAg 13 rfl).trans rfl
    refine L_y rfl (Y_sub (k := .i64) (a := ((n : Nat) : Int)) (b := ((p : Nat) : Int)) (z := (((n : Nat) : Int) - ((p : Nat) : Int))) e_2_9 e_2_13 (wi (by omega))) ?_
    refine L_as rfl ?_
    refine L_nil ?_
    refine Th_n ?_
    refine W_ret ?_
    refine P_ret (vs := [Value.int .i64 (((n : Nat) : Int) - ((p : Nat) : Int))]) (v := Value.int .i64 (((n : Nat) : Int) - ((p : Nat) : Int))) rfl (.tmp rfl (Res.nil)) rfl ?_
    refine ⟨?_, H_2.nil_⟩
    rfl

theorem dLeft2 {w0 w : World} {X : List Ent} {bw : Nat} {v : Value} {l : List Nat} {p er : Nat} (hl : l.length ≤ 4294967000) (hp : p ≤ l.length) (H : Hp w0 [] w (Ent.blk bw 59 #[v, Value.int .i64 ((p : Nat) : Int), Value.int .i64 ((er : Nat) : Int)] :: Ent.own v 5 1 l.length (us .u8 l) :: X)) :
    Calls Try.prog 21 #[.pointer (some ⟨bw, 0, none⟩)] w (fun r_ w' => r_ = .returned (.int .i64 ((l.length : Int) - ((p : Nat) : Int))) ∧ Keep w w') := by
  obtain ⟨a, c, rfl⟩ := H.own_len (i := 1) rfl
  exact dLeft1 hl hp (H.get 0 rfl)

set_option maxHeartbeats 4000000 in
theorem packReads_n (a0 : Option Addr) (m0 c0 : Nat) (b : List Nat) (a : Option Addr) (m c : Nat) (L : List Pk.Op) (hbb : ∀ u ∈ b, u < 256) (w0 : World) (hs0 : Sl w0 .u8 a0 m0 c0 b) (hT : Tab w0 Pk.Op.cells 4 a m c L) (hg : ∀ x ∈ L, Pk.Op.good w0 x) :
    Calls Try.prog 5 #[Value.slice a0 m0 c0, Value.slice a m c] w0 (fun r_ w' => r_ = .returned (.bool true) ∧ Keep w0 w') := by
  have hbl := hs0.len
  refine F_in Try.func5 rfl Try.ntmps5 rfl ?_
  intro e he
  have p_0 : e 0 = Value.slice a0 m0 c0 := he 0 _ rfl
  have p_1 : e 1 = Value.slice a m c := he 1 _ rfl
  have H := Hp.start w0 []
  refine W_seq ?_
  refine W_rg ?_
  refine L_as rfl ?_
  refine L_nil ?_
  refine Th_n ?_
  refine W_seq ?_
  refine W_seq ?_
  refine W_rg ?_
  refine L_mv rfl ?_
  refine L_callv rfl rfl T_en7 (A1 p_1) (large_n _ _ _ _ _ (hT.hp H) (fun x hx => (hg x hx).hp H)) ?_
  rintro _ w_2 ⟨rfl, hkp⟩; refine ⟨_, rfl, ?_⟩; have H_2 := H.keep hkp
  refine L_mv rfl ?_
  rcases Bool.eq_false_or_eq_true (Pk.large L) with hb | hb
  ·
    refine G_no (wN (b := false) rfl (congrArg Value.bool hb)) rfl ?_
    refine G_no (wN (b := false) rfl (congrArg Value.bool hb)) rfl ?_
    refine G_no (wN (b := false) rfl (congrArg Value.bool hb)) rfl ?_
    refine L_y rfl (Y_pickT (congrArg Value.bool hb)) ?_
    refine L_nil ?_
    refine Th_n ?_
    refine W_true rfl ?_
    refine W_seq ?_
    refine W_rg ?_
    refine L_callv rfl rfl T_en8 (A0) (known_n _) ?_
    rintro _ w_3 ⟨rfl, hkp_2⟩; refine ⟨_, rfl, ?_⟩; have H_3 := H_2.keep hkp_2
    refine L_as rfl ?_
    refine L_nil ?_
    refine Th_n ?_
    refine W_ret ?_
    refine Th_r ?_
    refine P_ret (vs := [Value.bool true]) (v := Value.bool true) rfl (.tmp rfl (Res.nil)) rfl ?_
    refine ⟨?_, H_3.nil_⟩
    rfl
  ·
    obtain ⟨h200, hmax⟩ := Pk.large_no hb
    rw [hT.len] at h200
    refine G_mv (wE rfl (congrArg Value.bool hb)) rfl ?_
    refine G_y (wE rfl (congrArg Value.bool hb)) rfl (Y_lenS T_sl25 p_0) ?_
    refine G_y (wE rfl (congrArg Value.bool hb)) rfl (Y_gtr (k := .i64) (a := ((m0 : Nat) : Int)) (b := ((300000 : Nat) : Int)) rfl rfl) ?_
    refine L_y rfl (Y_pickF (congrArg Value.bool hb)) ?_
    refine L_nil ?_
    refine Th_n ?_
    refine W_cond (b := (decide (((300000 : Nat) : Int) < ((m0 : Nat) : Int)))) rfl (fun hc => ?_) (fun hc => ?_)
    ·
      have hc' := of_decide_eq_true hc
      refine W_seq ?_
      refine W_rg ?_
      refine L_callv rfl rfl T_en8 (A0) (known_n _) ?_
      rintro _ w_4 ⟨rfl, hkp_3⟩; refine ⟨_, rfl, ?_⟩; have H_4 := H_2.keep hkp_3
      refine L_as rfl ?_
      refine L_nil ?_
      refine Th_n ?_
      refine W_ret ?_
      refine Th_r ?_
      refine P_ret (vs := [Value.bool true]) (v := Value.bool true) rfl (.tmp rfl (Res.nil)) rfl ?_
      refine ⟨?_, H_4.nil_⟩
      rfl
    ·
      have hc' := of_decide_eq_false hc
      refine W_skip ?_
      refine Th_n ?_
      refine W_seq ?_
      refine W_rg ?_
      refine L_bsl (cs := ua .u8 []) rfl H_2 (pv := []) T_sl25 T_zero5 rfl Bp0 (by kernel_rfl) ?_; intro bk25 w_5 H_5
      have H_6 : Hp w0 [] w_5 [Ent.own (Value.slice (some ⟨bk25, 0, none⟩) 0 0) 5 1 0 (us .u8 [])] := H_5.say (i := 0) (x' := .own (Value.slice (some ⟨bk25, 0, none⟩) 0 0) 5 1 0 (us .u8 [])) rfl (own_of_blk (Nat.le_refl _) (by decide) rfl rfl) (fun _ h => h) rfl
      refine L_mv rfl ?_
      refine L_appL rfl H_6 (i := 0) rfl T_sl25 T_zero5 rfl T_szb5 rfl p_0 (hs0.hp H_6) (by omega) ?_; intro v27 w_6 Hx
      have H_7 : Hp w0 [] w_6 [Ent.own v27 5 1 m0 (us .u8 b)] := by have h := Hx; simp only [Nat.zero_add] at h; exact h
      refine L_bsl (cs := ua .u8 [77]) rfl H_7 (pv := [(0, Value.int .u8 ((77 : Nat) : Int))]) T_sl25 T_zero5 rfl (Bpc rfl Bp0) (by kernel_rfl) ?_; intro bk28 w_7 H_8
      refine L_appS rfl H_8 (i := 1) rfl T_sl25 T_zero5 rfl T_szb5 rfl rfl (news_ua (H_8.get 0 rfl)) rfl (by omega) ?_; intro v29 w_8 Hx_2
      have H_9 : Hp w0 [] w_8 [Ent.blk bk28 5 (ua .u8 [77]), Ent.own v29 5 1 (m0 + 1) (us .u8 (b ++ [77]))] := Hx_2
      refine L_mv rfl ?_
      refine L_y rfl (Y_lenS T_sl25 p_0) ?_
      obtain ⟨a_, c_, rfl⟩ := Sl.opn H_9 (i := 1) rfl
      refine L_y rfl (Y_cutHr (hi := m0) T_sl25 (Sl.own H_9 (i := 1) rfl) rfl rfl (Nat.le_trans (by omega) (Sl.own H_9 (i := 1) rfl).cap)) ?_
      refine L_as rfl ?_
      refine L_nil ?_
      refine Th_n ?_
      refine W_seq ?_
      refine W_rg ?_
      refine L_mv rfl ?_
      refine L_callv rfl rfl T_en22 (A1 rfl) (dNewReader (by omega) ((Seen.own (i := 1) rfl).map (fun _ h_ => h_.pre hbl (by omega))) hbb H_9) ?_
      rintro _ w_9 ⟨b34, v34, rfl, H_10⟩; refine ⟨_, rfl, ?_⟩
      refine L_as rfl ?_
      refine L_nil ?_
      refine Th_n ?_
      refine W_seq ?_
      refine W_rg ?_
      refine L_mv rfl ?_
      refine L_y rfl (Y_build (pv := [(0, Value.slice a0 m0 c0)]) (cs := #[Value.slice a0 m0 c0, Value.int .i64 ((0 : Nat) : Int), Value.int .i64 ((0 : Nat) : Int)]) (Bpc p_0 Bp0) (by kernel_rfl)) ?_
      refine L_box rfl H_10 rfl (cs := #[Value.slice a0 m0 c0, Value.int .i64 ((0 : Nat) : Int), Value.int .i64 ((0 : Nat) : Int)]) rfl ?_; intro bk37 w_10 H_11
      refine L_as rfl ?_
      refine L_nil ?_
      refine Th_n ?_
      refine W_seq ?_
      refine W_seq ?_
      refine W_rg ?_
      refine L_mv rfl ?_
      refine L_y rfl (Y_strL Try.underlying25 Try.underlying5 Try.underlying9 rfl ((Sl.own H_11 (i := 4) rfl).pre hbl (by omega))) ?_
      refine L_mv rfl ?_
      refine L_y rfl (Y_strL Try.underlying25 Try.underlying5 Try.underlying9 p_0 (hs0.hp H_11)) ?_
      refine L_y rfl (Y_neT (l1 := b) (l2 := b) Try.underlying9 hbb hbb rfl rfl) ?_
      refine L_mv rfl ?_
      refine G_mv (wE rfl (congrArg Value.bool (by simp))) rfl ?_
      refine G_mv (wE rfl (congrArg Value.bool (by simp))) rfl ?_
      refine G_y (wE rfl (congrArg Value.bool (by simp))) rfl (Y_lenS T_sl25 p_0) ?_
      refine G_y (wE rfl (congrArg Value.bool (by simp))) rfl (Y_add (k := .i64) (a := ((m0 : Nat) : Int)) (b := ((1 : Nat) : Int)) (z := ((m0 + 1 : Nat) : Int)) rfl rfl (wi (by omega))) ?_
      refine G_y (wE rfl (congrArg Value.bool (by simp))) rfl (Y_cutHr (hi := m0 + 1) T_sl25 ((Sl.own H_11 (i := 4) rfl).pre hbl (by omega)) rfl rfl (Sl.own H_11 (i := 4) rfl).cap) ?_
      refine G_mv (wE rfl (congrArg Value.bool (by simp))) rfl ?_
      refine G_y (wE rfl (congrArg Value.bool (by simp))) rfl (Y_lenS T_sl25 p_0) ?_
      refine G_y (wE rfl (congrArg Value.bool (by simp))) rfl (Y_idxL (j := m0) T_sl25 (Sl.own H_11 (i := 4) rfl) rfl rfl rfl (by omega)) ?_
      refine G_y (wE rfl (congrArg Value.bool (by simp))) rfl (Y_ldR T_scal5 (Sl.own H_11 (i := 4) rfl).rd rfl (Pk.at77 hbl)) ?_
      refine G_y (wE rfl (congrArg Value.bool (by simp))) rfl (Y_neq (k := .u8) (a := ((77 : Nat) : Int)) (b := ((77 : Nat) : Int)) rfl rfl) ?_
      refine L_y rfl (Y_pickF (congrArg Value.bool (by simp))) ?_
      refine L_nil ?_
      refine Th_n ?_
      refine W_false (congrArg Value.bool (by decide : (((77 : Nat) : Int) != ((77 : Nat) : Int)) = false)) ?_
      refine W_skip ?_
      refine Th_n ?_
      refine W_seq ?_
      refine W_seq ?_
      refine W_rg ?_
      refine L_as rfl ?_
      refine L_nil ?_
      refine Th_n ?_
      refine W_block ?_
      refine W_loop (fun mu_ e w => ∃ k : Nat, ∃ y : List Nat, mu_ = m0 - k ∧ e 1 = Value.slice a m c ∧ e 5 = Value.slice a_ m0 c_ ∧ e 6 = Value.pointer (some ⟨b34, 0, none⟩) ∧ e 7 = Value.pointer (some ⟨bk37, 0, none⟩) ∧ e 8 = Value.int .i64 ((k : Nat) : Int) ∧ Hp w0 [] w [Ent.blk bk37 53 #[Value.slice a0 m0 c0, Value.int .i64 ((0 : Nat) : Int), Value.int .i64 ((0 : Nat) : Int)], Ent.blk b34 59 #[v34, Value.int .i64 ((0 : Nat) : Int), Value.int .i64 ((0 : Nat) : Int)], Ent.own v34 5 1 b.length (us .u8 b), Ent.blk bk28 5 (ua .u8 [77]), Ent.own (Value.slice a_ (m0 + 1) c_) 5 1 (m0 + 1) (us .u8 y)] ∧ (∀ u ∈ y, u < 256) ∧ k ≤ m0) _ ⟨0, b ++ [77], rfl, p_1, rfl, rfl, rfl, rfl, H_11, (app_lt hbb (cons_lt (by decide) (by simp))), (Nat.zero_le _)⟩ ?_
      rintro mu_ e_2 w_11 ⟨k, y, rfl, e_2_1, e_2_5, e_2_6, e_2_7, e_2_8, H_12, hy, hk⟩
      refine W_seq ?_
      refine W_seq ?_
      refine W_rg ?_
      refine L_mv rfl ?_
      refine L_mv rfl ?_
      refine L_y rfl (Y_lenS T_sl25 e_2_5) ?_
      refine L_y rfl (Y_lss (k := .i64) (a := ((k : Nat) : Int)) (b := ((m0 : Nat) : Int)) e_2_8 rfl) ?_
      refine L_nil ?_
      refine Th_n ?_
      refine W_cond (b := (decide (((k : Nat) : Int) < ((m0 : Nat) : Int)))) rfl (fun hc_2 => ?_) (fun hc_2 => ?_)
      ·
        have hc_2' := of_decide_eq_true hc_2
        refine W_skip ?_
        refine Th_n ?_
        refine W_seq ?_
        refine W_block ?_
        refine W_rg ?_
        refine L_mv rfl ?_
        refine L_mv rfl ?_
        refine L_y rfl (Y_idxL (j := k) T_sl25 ((Sl.own H_12 (i := 4) rfl).tk (by omega)) e_2_5 e_2_8 rfl (by omega)) ?_
        obtain ⟨x64, hx64⟩ : ∃ u, (y.take m0)[k]? = some u := ⟨_, List.getElem?_eq_getElem (by have := (⟨((Sl.own H_12 (i := 4) rfl).tk (by omega)).len, (fun u hu => hy u (List.mem_of_mem_take hu))⟩ : Wd m0 256 (y.take m0)).1; omega)⟩
        have rx64 := (⟨((Sl.own H_12 (i := 4) rfl).tk (by omega)).len, (fun u hu => hy u (List.mem_of_mem_take hu))⟩ : Wd m0 256 (y.take m0)).2 _ (List.mem_of_getElem? hx64)
        refine L_y rfl (Y_ldR T_scal5 ((Sl.own H_12 (i := 4) rfl).tk (by omega)).rd rfl (hx64)) ?_
        refine L_yr (z := (x64 + 1) % 256) (m := 256) rfl (Yu_add (k := .u8) rfl x64 1 rfl rfl) (Nat.mod_lt _ (by decide)) ?_; intro x65 hx65 rx65
        refine L_y rfl (Y_idxL (j := k) T_sl25 ((Sl.own H_12 (i := 4) rfl).tk (by omega)) e_2_5 e_2_8 rfl (by omega)) ?_
        refine L_stR T_scal5 H_12 (i := 4) rfl rfl (by omega) rfl ?_; intro w_12 Hx_3
        have H_13 : Hp w0 [] w_12 [Ent.blk bk37 53 #[Value.slice a0 m0 c0, Value.int .i64 ((0 : Nat) : Int), Value.int .i64 ((0 : Nat) : Int)], Ent.blk b34 59 #[v34, Value.int .i64 ((0 : Nat) : Int), Value.int .i64 ((0 : Nat) : Int)], Ent.own v34 5 1 b.length (us .u8 b), Ent.blk bk28 5 (ua .u8 [77]), Ent.own (Value.slice a_ (m0 + 1) c_) 5 1 (m0 + 1) (us .u8 (y.set k x65))] := Hx_3
        refine L_nil ?_
        refine InB_n ?_
        refine Th_n ?_
        refine W_rg ?_
        refine L_mv rfl ?_
        refine L_y rfl (Y_add (k := .i64) (a := ((k : Nat) : Int)) (b := ((1 : Nat) : Int)) (z := ((k + 1 : Nat) : Int)) e_2_8 rfl (wi (by omega))) ?_
        refine L_as rfl ?_
        refine L_nil ?_
        refine Th_n ⟨_, ?_, (k + 1), _, rfl, e_2_1, e_2_5, e_2_6, e_2_7, rfl, H_13, (set_lt hy rx65), (by omega)⟩
        omega
      ·
        have hc_2' := of_decide_eq_false hc_2
        refine W_exit ?_
        refine Th_x ?_
        refine Th_x ?_
        refine InB_hit ?_
        refine Th_n ?_
        refine W_seq ?_
        refine W_seq ?_
        refine W_rg ?_
        refine L_as rfl ?_
        refine L_nil ?_
        refine Th_n ?_
        refine W_block ?_
        refine W_loop (fun mu_ e w => ∃ i : Nat, ∃ vr : Value, ∃ p : Nat, ∃ er : Nat, mu_ = m - i ∧ e 1 = Value.slice a m c ∧ e 6 = Value.pointer (some ⟨b34, 0, none⟩) ∧ e 7 = Value.pointer (some ⟨bk37, 0, none⟩) ∧ e 9 = Value.int .i64 ((i : Nat) : Int) ∧ Hp w0 [] w [Ent.blk b34 59 #[vr, Value.int .i64 ((p : Nat) : Int), Value.int .i64 ((er : Nat) : Int)], Ent.own vr 5 1 b.length (us .u8 b), Ent.blk bk37 53 #[Value.slice a0 m0 c0, Value.int .i64 ((p : Nat) : Int), Value.int .i64 ((er : Nat) : Int)]] ∧ p ≤ b.length ∧ i ≤ m) _ ⟨0, _, 0, 0, rfl, e_2_1, e_2_6, e_2_7, rfl, (((((H_12.erase 3).erase 3).pull 0 rfl).pull 2 rfl).pull 2 rfl), (Nat.zero_le _), (Nat.zero_le _)⟩ ?_
        rintro mu_ e_3 w_13 ⟨i, vr, p, er, rfl, e_3_1, e_3_6, e_3_7, e_3_9, H_14, hp, hi⟩
        refine W_seq ?_
        refine W_seq ?_
        refine W_rg ?_
        refine L_mv rfl ?_
        refine L_mv rfl ?_
        refine L_y rfl (Y_lenS T_sl22 e_3_1) ?_
        refine L_y rfl (Y_lss (k := .i64) (a := ((i : Nat) : Int)) (b := ((m : Nat) : Int)) e_3_9 rfl) ?_
        refine L_nil ?_
        refine Th_n ?_
        refine W_cond (b := (decide (((i : Nat) : Int) < ((m : Nat) : Int)))) rfl (fun hc_3 => ?_) (fun hc_3 => ?_)
        ·
          have hc_3' := of_decide_eq_true hc_3
          refine W_skip ?_
          refine Th_n ?_
          refine W_seq ?_
          refine W_block ?_
          refine W_seq ?_
          refine W_rg ?_
          refine L_as rfl ?_
          refine L_as rfl ?_
          refine L_nil ?_
          refine Th_n ?_
          refine W_seq ?_
          refine W_seq ?_
          refine W_rg ?_
          refine L_mv rfl ?_
          refine L_mv rfl ?_
          obtain ⟨el75, hel75⟩ := hT.at (j := i) (by omega)
          have gel75 := hg el75 (List.mem_of_getElem? hel75)
          have bel75 := gel75.big
          have lel75 := gel75.sl.len
          have hmel75 := hmax el75 (List.mem_of_getElem? hel75)
          have sel75 := gel75.s1
          have tel75 := gel75.s2
          refine L_y rfl (Y_idxT (j := i) T_sl22 (hT.hp H_14) hel75 e_3_1 e_3_9 rfl) ?_
          refine L_y rfl (Y_fldT T_fld34_0 rfl (hT.hp H_14) hel75 rfl) ?_
          refine L_y rfl (Y_ldT (j := i) (off := 0) T_scal3 (hT.hp H_14) hel75 rfl rfl rfl) ?_
          refine L_nil ?_
          refine Th_n ?_
          refine W_block ?_
          refine W_seq ?_
          refine W_rg ?_
          refine L_y rfl (Y_eql (k := .i64) (a := el75.kind) (b := ((0 : Nat) : Int)) rfl rfl) ?_
          refine L_as rfl ?_
          refine L_nil ?_
          refine Th_n ?_
          refine W_cond (b := (el75.kind == ((0 : Nat) : Int))) rfl (fun hc_4 => ?_) (fun hc_4 => ?_)
          ·
            have hc_4' := eq_of_beq hc_4
            refine W_seq ?_
            refine W_anyS 13 [6] [] [] [Value.pointer (some ⟨b34, 0, none⟩), Value.slice a m c, Value.int .i64 ((i : Nat) : Int), pl a (i * 4 + 0), pl a (i * 4 + 0 + 1), Value.int .i64 (el75.size), Value.int .u64 (((Pk.rnum b p er el75.size).1 : Nat) : Int), Value.pointer (some ⟨bk37, 0, none⟩), Value.slice a m c, Value.int .i64 ((i : Nat) : Int), pl a (i * 4 + 0), pl a (i * 4 + 0 + 1), Value.int .i64 (el75.size)] (fun w => w.heap[bk37]? = some (.cells #[Value.slice a0 m0 c0, Value.int .i64 ((p : Nat) : Int), Value.int .i64 ((er : Nat) : Int)] 53 (0, 0)) ∧ Stay w0 w) [fun vs w => Hp w0 [] w [Ent.blk b34 59 #[vr, Value.int .i64 ((p : Nat) : Int), Value.int .i64 ((er : Nat) : Int)], Ent.own vr 5 1 b.length (us .u8 b), Ent.blk bk37 53 #[Value.slice a0 m0 c0, Value.int .i64 ((p : Nat) : Int), Value.int .i64 ((er : Nat) : Int)]], fun vs w => ∃ v86_, Hp w0 [] w [Ent.blk b34 59 #[v86_, Value.int .i64 (((Pk.rnum b p er el75.size).2.1 : Nat) : Int), Value.int .i64 (((Pk.rnum b p er el75.size).2.2 : Nat) : Int)], Ent.own v86_ 5 1 b.length (us .u8 b), Ent.blk bk37 53 #[Value.slice a0 m0 c0, Value.int .i64 ((p : Nat) : Int), Value.int .i64 ((er : Nat) : Int)]]] T_mixed (by kernel_rfl) ⟨fun _ _ H => ⟨H.get 2 rfl, H.stay⟩, fun _ _ h => by obtain ⟨_, H⟩ := h; exact ⟨H.get 2 rfl, H.stay⟩, trivial⟩ ⟨fun _ _ _ hkp H => H.keep hkp, fun _ _ _ hkp h => by obtain ⟨q0, H⟩ := h; exact ⟨q0, H.keep hkp⟩, trivial⟩ H_14 ?_ ?_
            ·
              refine .plain rfl (Pl_y rfl (fun w hBw => congrArg (fun v => Result.ok (Next.value v) w) e_3_6)) ?_
              refine .plain rfl (Pl_y rfl (fun w hBw => congrArg (fun v => Result.ok (Next.value v) w) e_3_1)) ?_
              refine .plain rfl (Pl_y rfl (fun w hBw => congrArg (fun v => Result.ok (Next.value v) w) e_3_9)) ?_
              refine .plain rfl (Pl_y rfl (fun w hBw => Y_idxT (j := i) T_sl22 (hT.stay hBw.2) hel75 rfl rfl rfl)) ?_
              refine .plain rfl (Pl_y rfl (fun w hBw => Y_fldT T_fld34_1 rfl (hT.stay hBw.2) hel75 rfl)) ?_
              refine .plain rfl (Pl_y rfl (fun w hBw => Y_ldT (j := i) (off := 1) T_scal3 (hT.stay hBw.2) hel75 rfl rfl rfl)) ?_
              refine .special 0 rfl (Special.ofD ⟨⟨trivial, fun _ _ _ e' w' hAg hYs => by
                  have H : Hp w0 [] w' [Ent.blk b34 59 #[vr, Value.int .i64 ((p : Nat) : Int), Value.int .i64 ((er : Nat) : Int)], Ent.own vr 5 1 b.length (us .u8 b), Ent.blk bk37 53 #[Value.slice a0 m0 c0, Value.int .i64 ((p : Nat) : Int), Value.int .i64 ((er : Nat) : Int)]] := hYs
                  exact ⟨rfl, Dn_callv T_en18 (A2 ((hAg 80 rfl).trans rfl) ((hAg 85 rfl).trans rfl)) ((dNum el75.size (by omega) hbb (by first | exact hp | exact Pk.rnum_at hp | exact Pk.take_at hp | exact Pk.take_at (Pk.rnum_at hp) | exact Pk.rtxt_at hp) ((H.pull 1 rfl).pull 1 rfl)).mono (fun r_ w2 h => by obtain ⟨v86_, rfl, Hn⟩ := h; exact ⟨_, rfl, ⟨(fun d hd => by cases hd; rfl), ⟨v86_, (((Hn.pull 2 rfl).pull 2 rfl).pull 2 rfl)⟩⟩⟩))⟩⟩, fun h => absurd h (by decide)⟩) ?_
              refine .plain rfl (Pl_y rfl (fun w hBw => congrArg (fun v => Result.ok (Next.value v) w) e_3_7)) ?_
              refine .plain rfl (Pl_y rfl (fun w hBw => congrArg (fun v => Result.ok (Next.value v) w) e_3_1)) ?_
              refine .plain rfl (Pl_y rfl (fun w hBw => congrArg (fun v => Result.ok (Next.value v) w) e_3_9)) ?_
              refine .plain rfl (Pl_y rfl (fun w hBw => Y_idxT (j := i) T_sl22 (hT.stay hBw.2) hel75 rfl rfl rfl)) ?_
              refine .plain rfl (Pl_y rfl (fun w hBw => Y_fldT T_fld34_1 rfl (hT.stay hBw.2) hel75 rfl)) ?_
              refine .plain rfl (Pl_y rfl (fun w hBw => Y_ldT (j := i) (off := 1) T_scal3 (hT.stay hBw.2) hel75 rfl rfl rfl)) ?_
              exact .nil _
            ·
              intro e_4 w_14 hAg hYs
              obtain ⟨v86_, H_15⟩ := hYs
              have e_4_1 : e_4 1 = Value.slice a m c := (hAg 1 rfl).trans e_3_1
              have e_4_6 : e_4 6 = Value.pointer (some ⟨b34, 0, none⟩) := (hAg 6 rfl).trans e_3_6
              have e_4_7 : e_4 7 = Value.pointer (some ⟨bk37, 0, none⟩) := (hAg 7 rfl).trans e_3_7
              have e_4_9 : e_4 9 = Value.int .i64 ((i : Nat) : Int) := (hAg 9 rfl).trans e_3_9
              have e_4_10 : e_4 10 = Value.slice none 0 0 := (hAg 10 rfl).trans rfl
              have e_4_11 : e_4 11 = Value.slice none 0 0 := (hAg 11 rfl).trans rfl
              obtain ⟨x86, hx86⟩ : ∃ z_ : Nat, z_ = (Pk.rnum b p er el75.size).1 := ⟨_, rfl⟩
              have rx86 : x86 < 18446744073709551616 := by rw [hx86]; exact (Pk.rnum_lt b p er el75.size)
              have e_4_86 : e_4 86 = Value.int .u64 ((x86 : Nat) : Int) := (hAg 86 rfl).trans (by rw [hx86]; exact rfl)
              have e_4_87 : e_4 87 = Value.pointer (some ⟨bk37, 0, none⟩) := (hAg 87 rfl).trans rfl
              have e_4_92 : e_4 92 = Value.int .i64 (el75.size) := (hAg 92 rfl).trans rfl
              have H_16 : Hp w0 [] w_14 [Ent.blk bk37 53 #[Value.slice a0 m0 c0, Value.int .i64 ((p : Nat) : Int), Value.int .i64 ((er : Nat) : Int)], Ent.blk b34 59 #[v86_, Value.int .i64 (((Pk.rnum b p er el75.size).2.1 : Nat) : Int), Value.int .i64 (((Pk.rnum b p er el75.size).2.2 : Nat) : Int)], Ent.own v86_ 5 1 b.length (us .u8 b)] := (H_15.pull 2 rfl)
              refine L_callv rfl rfl T_en23 (A2 e_4_87 e_4_92) (fNum el75.size (by omega) (by rw [← hbl]; first | exact hp | exact Pk.rnum_at hp | exact Pk.take_at hp | exact Pk.take_at (Pk.rnum_at hp) | exact Pk.rtxt_at hp) (Seen.old hs0) hbb H_16) ?_
              rintro _ w_15 ⟨rfl, H_17⟩; refine ⟨_, rfl, ?_⟩
              refine L_y rfl (Y_neq (k := .u64) (a := ((x86 : Nat) : Int)) (b := (((Pk.rnum b p er el75.size).1 : Nat) : Int)) e_4_86 rfl) ?_
              refine L_nil ?_
              refine Th_n ?_
              refine W_false (congrArg Value.bool (by simp [hx86])) ?_
              refine W_skip ?_
              refine InB_n ?_
              refine Th_n ?_
              refine W_seq ?_
              refine W_rg ?_
              refine L_mv rfl ?_
              have H_18 : Hp w0 [] w_15 [Ent.blk b34 59 #[v86_, Value.int .i64 (((Pk.rnum b p er el75.size).2.1 : Nat) : Int), Value.int .i64 (((Pk.rnum b p er el75.size).2.2 : Nat) : Int)], Ent.own v86_ 5 1 b.length (us .u8 b), Ent.blk bk37 53 #[Value.slice a0 m0 c0, Value.int .i64 (((Pk.rnum b p er el75.size).2.1 : Nat) : Int), Value.int .i64 (((Pk.rnum b p er el75.size).2.2 : Nat) : Int)]] := ((H_17.pull 2 rfl).pull 2 rfl)
              refine L_callv rfl rfl T_en17 (A1 e_4_6) (dDone (by omega) hbb (by first | exact hp | exact Pk.rnum_at hp | exact Pk.take_at hp | exact Pk.take_at (Pk.rnum_at hp) | exact Pk.rtxt_at hp) H_18) ?_
              rintro _ w_16 ⟨rfl, H_19⟩; refine ⟨_, rfl, ?_⟩
              refine L_mv rfl ?_
              refine L_y rfl (Y_ext rfl rfl) ?_
              refine L_y rfl (Y_ext rfl rfl) ?_
              refine L_as rfl ?_
              refine L_as rfl ?_
              refine L_nil ?_
              refine Th_n ?_
              refine W_seq ?_
              refine W_rg ?_
              refine L_mv rfl ?_
              have H_20 : Hp w0 [] w_16 [Ent.blk bk37 53 #[Value.slice a0 m0 c0, Value.int .i64 (((Pk.rnum b p er el75.size).2.1 : Nat) : Int), Value.int .i64 (((Pk.rnum b p er el75.size).2.2 : Nat) : Int)], Ent.blk b34 59 #[v86_, Value.int .i64 (((Pk.rnum b p er el75.size).2.1 : Nat) : Int), Value.int .i64 (((Pk.rnum b p er el75.size).2.2 : Nat) : Int)], Ent.own v86_ 5 1 b.length (us .u8 b)] := (H_19.pull 2 rfl)
              refine L_callv rfl rfl T_en27 (A1 e_4_7) (fDone (by omega) (by rw [← hbl]; first | exact hp | exact Pk.rnum_at hp | exact Pk.take_at hp | exact Pk.take_at (Pk.rnum_at hp) | exact Pk.rtxt_at hp) (Seen.old hs0) hbb H_20) ?_
              rintro _ w_17 ⟨rfl, H_21⟩; refine ⟨_, rfl, ?_⟩
              refine L_mv rfl ?_
              refine L_y rfl (Y_ext rfl rfl) ?_
              refine L_y rfl (Y_ext rfl rfl) ?_
              refine L_as rfl ?_
              refine L_as rfl ?_
              refine L_nil ?_
              refine Th_n ?_
              refine W_seq ?_
              refine W_seq ?_
              refine W_quiet H_21 28 [Value.slice none 0 0, Value.string (bs []), Value.slice none 0 0, Value.string (bs []), Value.bool (!decide (([] : List Nat) = [])), Value.bool (!decide (([] : List Nat) = [])), Value.int .i64 (((Pk.rdone b ((Pk.rnum b p er el75.size).2.1) ((Pk.rnum b p er el75.size).2.2)).1 : Nat) : Int), Value.int .i64 (((Pk.rdone b ((Pk.rnum b p er el75.size).2.1) ((Pk.rnum b p er el75.size).2.2)).1 : Nat) : Int), Value.bool ((((Pk.rdone b ((Pk.rnum b p er el75.size).2.1) ((Pk.rnum b p er el75.size).2.2)).1 : Nat) : Int) != (((Pk.rdone b ((Pk.rnum b p er el75.size).2.1) ((Pk.rnum b p er el75.size).2.2)).1 : Nat) : Int)), Value.bool ((((Pk.rdone b ((Pk.rnum b p er el75.size).2.1) ((Pk.rnum b p er el75.size).2.2)).1 : Nat) : Int) != (((Pk.rdone b ((Pk.rnum b p er el75.size).2.1) ((Pk.rnum b p er el75.size).2.2)).1 : Nat) : Int)), Value.bool ((((Pk.rdone b ((Pk.rnum b p er el75.size).2.1) ((Pk.rnum b p er el75.size).2.2)).1 : Nat) : Int) != (((Pk.rdone b ((Pk.rnum b p er el75.size).2.1) ((Pk.rnum b p er el75.size).2.2)).1 : Nat) : Int)), Value.int .i64 (((Pk.rdone b ((Pk.rnum b p er el75.size).2.1) ((Pk.rnum b p er el75.size).2.2)).2 : Nat) : Int), Value.int .i64 (((Pk.rdone b ((Pk.rnum b p er el75.size).2.1) ((Pk.rnum b p er el75.size).2.2)).2 : Nat) : Int), Value.bool ((((Pk.rdone b ((Pk.rnum b p er el75.size).2.1) ((Pk.rnum b p er el75.size).2.2)).2 : Nat) : Int) != (((Pk.rdone b ((Pk.rnum b p er el75.size).2.1) ((Pk.rnum b p er el75.size).2.2)).2 : Nat) : Int)), Value.bool ((((Pk.rdone b ((Pk.rnum b p er el75.size).2.1) ((Pk.rnum b p er el75.size).2.2)).2 : Nat) : Int) != (((Pk.rdone b ((Pk.rnum b p er el75.size).2.1) ((Pk.rnum b p er el75.size).2.2)).2 : Nat) : Int)), Value.bool ((((Pk.rdone b ((Pk.rnum b p er el75.size).2.1) ((Pk.rnum b p er el75.size).2.2)).2 : Nat) : Int) != (((Pk.rdone b ((Pk.rnum b p er el75.size).2.1) ((Pk.rnum b p er el75.size).2.2)).2 : Nat) : Int)), Value.pointer (some ⟨b34, 0, none⟩), Value.int .i64 (((b.length : Nat) : Int) - (((Pk.rnum b p er el75.size).2.1 : Nat) : Int)), Value.pointer (some ⟨bk37, 0, none⟩), Value.pointer (some ⟨bk37, 0, none⟩), Value.pointer (some ⟨bk37, 0, none⟩), Value.slice a0 m0 c0, Value.int .i64 ((m0 : Nat) : Int), Value.pointer (some ⟨bk37, 0, none⟩), Value.pointer (some ⟨bk37, 0, none⟩), Value.pointer (some ⟨bk37, 1, none⟩), Value.int .i64 (((Pk.rnum b p er el75.size).2.1 : Nat) : Int), Value.int .i64 (((m0 : Nat) : Int) - (((Pk.rnum b p er el75.size).2.1 : Nat) : Int))] T_mixed (by kernel_rfl) ?_ ?_
              ·
                refine .plain rfl (Pl_y rfl (fun w hBw => congrArg (fun v => Result.ok (Next.value v) w) e_4_10)) ?_
                refine .plain rfl (Pl_y rfl (fun w hBw => Y_strL Try.underlying25 Try.underlying5 Try.underlying9 rfl (Sl.nil _ _))) ?_
                refine .plain rfl (Pl_y rfl (fun w hBw => congrArg (fun v => Result.ok (Next.value v) w) e_4_11)) ?_
                refine .plain rfl (Pl_y rfl (fun w hBw => Y_strL Try.underlying25 Try.underlying5 Try.underlying9 rfl (Sl.nil _ _))) ?_
                refine .plain rfl (Pl_y rfl (fun w hBw => Y_neT (l1 := []) (l2 := []) Try.underlying9 (by decide) (by decide) rfl rfl)) ?_
                refine .plain rfl (Pl_y rfl (fun w hBw => rfl)) ?_
                refine .plain rfl (Pl_y (wE rfl (congrArg Value.bool rfl)) (fun w hBw => rfl)) ?_
                refine .plain rfl (Pl_y (wE rfl (congrArg Value.bool rfl)) (fun w hBw => rfl)) ?_
                refine .plain rfl (Pl_y (wE rfl (congrArg Value.bool rfl)) (fun w hBw => Y_neq (k := .i64) (a := (((Pk.rdone b ((Pk.rnum b p er el75.size).2.1) ((Pk.rnum b p er el75.size).2.2)).1 : Nat) : Int)) (b := (((Pk.rdone b ((Pk.rnum b p er el75.size).2.1) ((Pk.rnum b p er el75.size).2.2)).1 : Nat) : Int)) rfl rfl)) ?_
                refine .plain rfl (Pl_y rfl (fun w hBw => Y_pickF (congrArg Value.bool rfl))) ?_
                refine .plain rfl (Pl_y rfl (fun w hBw => rfl)) ?_
                refine .plain rfl (Pl_y (wE rfl (congrArg Value.bool (by simp []))) (fun w hBw => rfl)) ?_
                refine .plain rfl (Pl_y (wE rfl (congrArg Value.bool (by simp []))) (fun w hBw => rfl)) ?_
                refine .plain rfl (Pl_y (wE rfl (congrArg Value.bool (by simp []))) (fun w hBw => Y_neq (k := .i64) (a := (((Pk.rdone b ((Pk.rnum b p er el75.size).2.1) ((Pk.rnum b p er el75.size).2.2)).2 : Nat) : Int)) (b := (((Pk.rdone b ((Pk.rnum b p er el75.size).2.1) ((Pk.rnum b p er el75.size).2.2)).2 : Nat) : Int)) rfl rfl)) ?_
                refine .plain rfl (Pl_y rfl (fun w hBw => Y_pickF (congrArg Value.bool (by simp [])))) ?_
                refine .plain rfl (Pl_y rfl (fun w hBw => rfl)) ?_
                refine .plain rfl (Pl_y (wE rfl (congrArg Value.bool (by simp []))) (fun w hBw => congrArg (fun v => Result.ok (Next.value v) w) e_4_6)) ?_
                refine .plain rfl (Pl_c (wE rfl (congrArg Value.bool (by simp []))) T_en21 (A1 rfl) (fun w hBw => dLeft2 (by omega) (by first | exact hp | exact Pk.rnum_at hp | exact Pk.take_at hp | exact Pk.take_at (Pk.rnum_at hp) | exact Pk.rtxt_at hp) ((hBw.pull 2 rfl).pull 2 rfl))) ?_
                refine .plain rfl (Pl_y (wE rfl (congrArg Value.bool (by simp []))) (fun w hBw => congrArg (fun v => Result.ok (Next.value v) w) e_4_7)) ?_
                refine .plain rfl (Pl_y (wE rfl (congrArg Value.bool (by simp []))) (fun w hBw => Y_nil rfl)) ?_
                refine .plain rfl (Pl_y (wE rfl (congrArg Value.bool (by simp []))) (fun w hBw => Y_fld T_fld53_0 rfl rfl rfl)) ?_
                refine .plain rfl (Pl_y (wE rfl (congrArg Value.bool (by simp []))) (fun w hBw => Y_ld T_scal25 hBw (i := 0) rfl rfl rfl)) ?_
                refine .plain rfl (Pl_y (wE rfl (congrArg Value.bool (by simp []))) (fun w hBw => Y_lenS T_sl25 rfl)) ?_
                refine .plain rfl (Pl_y (wE rfl (congrArg Value.bool (by simp []))) (fun w hBw => congrArg (fun v => Result.ok (Next.value v) w) e_4_7)) ?_
                refine .plain rfl (Pl_y (wE rfl (congrArg Value.bool (by simp []))) (fun w hBw => Y_nil rfl)) ?_
                refine .plain rfl (Pl_y (wE rfl (congrArg Value.bool (by simp []))) (fun w hBw => Y_fld T_fld53_1 rfl rfl rfl)) ?_
                refine .plain rfl (Pl_y (wE rfl (congrArg Value.bool (by simp []))) (fun w hBw => Y_ld T_scal3 hBw (i := 0) rfl rfl rfl)) ?_
                refine .plain rfl (Pl_y (wE rfl (congrArg Value.bool (by simp []))) (fun w hBw => Y_sub (k := .i64) (a := ((m0 : Nat) : Int)) (b := (((Pk.rnum b p er el75.size).2.1 : Nat) : Int)) (z := (((m0 : Nat) : Int) - (((Pk.rnum b p er el75.size).2.1 : Nat) : Int))) rfl rfl (wi (by have h1 := Pk.rnum_at (l := b) (p := p) (e := er) (s := el75.size) hp; omega)))) ?_
                exact .nil _
              ·
                intro e_5 w_18 hAg H_22
                have e_5_1 : e_5 1 = Value.slice a m c := (hAg 1 rfl).trans e_4_1
                have e_5_6 : e_5 6 = Value.pointer (some ⟨b34, 0, none⟩) := (hAg 6 rfl).trans e_4_6
                have e_5_7 : e_5 7 = Value.pointer (some ⟨bk37, 0, none⟩) := (hAg 7 rfl).trans e_4_7
                have e_5_9 : e_5 9 = Value.int .i64 ((i : Nat) : Int) := (hAg 9 rfl).trans e_4_9
                have e_5_10 : e_5 10 = Value.slice none 0 0 := (hAg 10 rfl).trans e_4_10
                have e_5_172 : e_5 172 = Value.bool ((((Pk.rdone b ((Pk.rnum b p er el75.size).2.1) ((Pk.rnum b p er el75.size).2.2)).2 : Nat) : Int) != (((Pk.rdone b ((Pk.rnum b p er el75.size).2.1) ((Pk.rnum b p er el75.size).2.2)).2 : Nat) : Int)) := (hAg 172 rfl).trans rfl
                have e_5_174 : e_5 174 = Value.int .i64 (((b.length : Nat) : Int) - (((Pk.rnum b p er el75.size).2.1 : Nat) : Int)) := (hAg 174 rfl).trans rfl
                have e_5_184 : e_5 184 = Value.int .i64 (((m0 : Nat) : Int) - (((Pk.rnum b p er el75.size).2.1 : Nat) : Int)) := (hAg 184 rfl).trans rfl
                refine G_y (wE rfl (e_5_172.trans (congrArg Value.bool (by simp [])))) rfl (Y_neq (k := .i64) (a := (((b.length : Nat) : Int) - (((Pk.rnum b p er el75.size).2.1 : Nat) : Int))) (b := (((m0 : Nat) : Int) - (((Pk.rnum b p er el75.size).2.1 : Nat) : Int))) e_5_174 e_5_184) ?_
                refine L_y rfl (Y_pickF (e_5_172.trans (congrArg Value.bool (by simp [])))) ?_
                refine L_nil ?_
                refine Th_n ?_
                refine W_false (congrArg Value.bool (by simp [hbl])) ?_
                refine W_skip ?_
                refine Th_n ?_
                refine W_seq ?_
                refine W_rg ?_
                refine L_as rfl ?_
                refine L_nil ?_
                refine Th_n ?_
                refine W_block ?_
                refine W_loop (fun mu_ e w => mu_ = 0 ∧ e 1 = Value.slice a m c ∧ e 6 = Value.pointer (some ⟨b34, 0, none⟩) ∧ e 7 = Value.pointer (some ⟨bk37, 0, none⟩) ∧ e 9 = Value.int .i64 ((i : Nat) : Int) ∧ e 10 = Value.slice none 0 0 ∧ e 16 = Value.int .i64 ((0 : Nat) : Int) ∧ Hp w0 [] w [Ent.blk bk37 53 #[Value.slice a0 m0 c0, Value.int .i64 (((Pk.rnum b p er el75.size).2.1 : Nat) : Int), Value.int .i64 (((Pk.rnum b p er el75.size).2.2 : Nat) : Int)], Ent.blk b34 59 #[v86_, Value.int .i64 (((Pk.rnum b p er el75.size).2.1 : Nat) : Int), Value.int .i64 (((Pk.rnum b p er el75.size).2.2 : Nat) : Int)], Ent.own v86_ 5 1 b.length (us .u8 b)]) _ ⟨rfl, e_5_1, e_5_6, e_5_7, e_5_9, e_5_10, rfl, H_22⟩ ?_
                rintro mu_ e_6 w_19 ⟨rfl, e_6_1, e_6_6, e_6_7, e_6_9, e_6_10, e_6_16, H_23⟩
                refine W_seq ?_
                refine W_seq ?_
                refine W_rg ?_
                refine L_mv rfl ?_
                refine L_mv rfl ?_
                refine L_y rfl (Y_lenS T_sl25 e_6_10) ?_
                refine L_y rfl (Y_lss (k := .i64) (a := ((0 : Nat) : Int)) (b := ((0 : Nat) : Int)) e_6_16 rfl) ?_
                refine L_nil ?_
                refine Th_n ?_
                refine W_false (congrArg Value.bool (by decide : (decide (((0 : Nat) : Int) < ((0 : Nat) : Int))) = false)) ?_
                refine W_exit ?_
                refine Th_x ?_
                refine Th_x ?_
                refine InB_hit ?_
                refine InB_n ?_
                refine Th_n ?_
                refine W_rg ?_
                refine L_mv rfl ?_
                refine L_y rfl (Y_add (k := .i64) (a := ((i : Nat) : Int)) (b := ((1 : Nat) : Int)) (z := ((i + 1 : Nat) : Int)) e_6_9 rfl (wi (by omega))) ?_
                refine L_as rfl ?_
                refine L_nil ?_
                refine Th_n ⟨_, ?_, (i + 1), _, _, _, rfl, e_6_1, e_6_6, e_6_7, rfl, (((H_23.pull 0 rfl).pull 2 rfl).pull 2 rfl), (by first | exact hp | exact Pk.rnum_at hp | exact Pk.take_at hp | exact Pk.take_at (Pk.rnum_at hp) | exact Pk.rtxt_at hp), (by omega)⟩
                omega
          ·
            have hc_4' := ne_of_beq_false hc_4
            refine W_seq ?_
            refine W_rg ?_
            refine L_y rfl (Y_eql (k := .i64) (a := el75.kind) (b := ((1 : Nat) : Int)) rfl rfl) ?_
            refine L_as rfl ?_
            refine L_nil ?_
            refine Th_n ?_
            refine W_cond (b := (el75.kind == ((1 : Nat) : Int))) rfl (fun hc_5 => ?_) (fun hc_5 => ?_)
            ·
              have hc_5' := eq_of_beq hc_5
              refine W_seq ?_
              refine W_rg ?_
              refine L_mv rfl ?_
              refine L_mv rfl ?_
              refine L_mv rfl ?_
              refine L_y rfl (Y_idxT (j := i) T_sl22 (hT.hp H_14) hel75 e_3_1 e_3_9 rfl) ?_
              refine L_y rfl (Y_fldT T_fld34_1 rfl (hT.hp H_14) hel75 rfl) ?_
              refine L_y rfl (Y_ldT (j := i) (off := 1) T_scal3 (hT.hp H_14) hel75 rfl rfl rfl) ?_
              refine L_callv rfl rfl T_en19 (A2 e_3_6 rfl) (dRaw el75.size (by omega) hbb (by first | exact hp | exact Pk.rnum_at hp | exact Pk.take_at hp | exact Pk.take_at (Pk.rnum_at hp) | exact Pk.rtxt_at hp) H_14) ?_
              rintro _ w_20 ⟨v103, v103_2, rfl, H_24⟩; refine ⟨_, rfl, ?_⟩
              refine L_as rfl ?_
              refine L_nil ?_
              refine Th_n ?_
              refine W_rg ?_
              refine L_mv rfl ?_
              refine L_mv rfl ?_
              refine L_mv rfl ?_
              refine L_y rfl (Y_idxT (j := i) T_sl22 (hT.hp H_24) hel75 e_3_1 e_3_9 rfl) ?_
              refine L_y rfl (Y_fldT T_fld34_1 rfl (hT.hp H_24) hel75 rfl) ?_
              refine L_y rfl (Y_ldT (j := i) (off := 1) T_scal3 (hT.hp H_24) hel75 rfl rfl rfl) ?_
              have H_25 : Hp w0 [] w_20 [Ent.blk bk37 53 #[Value.slice a0 m0 c0, Value.int .i64 ((p : Nat) : Int), Value.int .i64 ((er : Nat) : Int)], Ent.own v103 5 1 ((Pk.take b p er el75.size).1.length) (us .u8 ((Pk.take b p er el75.size).1)), Ent.blk b34 59 #[v103_2, Value.int .i64 (((Pk.take b p er el75.size).2.1 : Nat) : Int), Value.int .i64 (((Pk.take b p er el75.size).2.2 : Nat) : Int)], Ent.own v103_2 5 1 b.length (us .u8 b)] := (H_24.pull 3 rfl)
              refine L_callv rfl rfl T_en24 (A2 e_3_7 rfl) (fRaw el75.size (by omega) (by rw [← hbl]; first | exact hp | exact Pk.rnum_at hp | exact Pk.take_at hp | exact Pk.take_at (Pk.rnum_at hp) | exact Pk.rtxt_at hp) (Seen.old hs0) hbb H_25) ?_
              rintro _ w_21 ⟨v110, rfl, H_26⟩; refine ⟨_, rfl, ?_⟩
              refine L_as rfl ?_
              refine L_nil ?_
              refine InB_n ?_
              refine Th_n ?_
              refine W_seq ?_
              refine W_rg ?_
              refine L_mv rfl ?_
              have H_27 : Hp w0 [] w_21 [Ent.blk b34 59 #[v103_2, Value.int .i64 (((Pk.take b p er el75.size).2.1 : Nat) : Int), Value.int .i64 (((Pk.take b p er el75.size).2.2 : Nat) : Int)], Ent.own v103_2 5 1 b.length (us .u8 b), Ent.own v110 5 1 ((Pk.take b p er el75.size).1.length) (us .u8 ((Pk.take b p er el75.size).1)), Ent.blk bk37 53 #[Value.slice a0 m0 c0, Value.int .i64 (((Pk.take b p er el75.size).2.1 : Nat) : Int), Value.int .i64 (((Pk.take b p er el75.size).2.2 : Nat) : Int)], Ent.own v103 5 1 ((Pk.take b p er el75.size).1.length) (us .u8 ((Pk.take b p er el75.size).1))] := ((H_26.pull 4 rfl).pull 4 rfl)
              refine L_callv rfl rfl T_en17 (A1 e_3_6) (dDone (by omega) hbb (by first | exact hp | exact Pk.rnum_at hp | exact Pk.take_at hp | exact Pk.take_at (Pk.rnum_at hp) | exact Pk.rtxt_at hp) H_27) ?_
              rintro _ w_22 ⟨rfl, H_28⟩; refine ⟨_, rfl, ?_⟩
              refine L_mv rfl ?_
              refine L_y rfl (Y_ext rfl rfl) ?_
              refine L_y rfl (Y_ext rfl rfl) ?_
              refine L_as rfl ?_
              refine L_as rfl ?_
              refine L_nil ?_
              refine Th_n ?_
              refine W_seq ?_
              refine W_rg ?_
              refine L_mv rfl ?_
              have H_29 : Hp w0 [] w_22 [Ent.blk bk37 53 #[Value.slice a0 m0 c0, Value.int .i64 (((Pk.take b p er el75.size).2.1 : Nat) : Int), Value.int .i64 (((Pk.take b p er el75.size).2.2 : Nat) : Int)], Ent.blk b34 59 #[v103_2, Value.int .i64 (((Pk.take b p er el75.size).2.1 : Nat) : Int), Value.int .i64 (((Pk.take b p er el75.size).2.2 : Nat) : Int)], Ent.own v103_2 5 1 b.length (us .u8 b), Ent.own v110 5 1 ((Pk.take b p er el75.size).1.length) (us .u8 ((Pk.take b p er el75.size).1)), Ent.own v103 5 1 ((Pk.take b p er el75.size).1.length) (us .u8 ((Pk.take b p er el75.size).1))] := (H_28.pull 3 rfl)
              refine L_callv rfl rfl T_en27 (A1 e_3_7) (fDone (by omega) (by rw [← hbl]; first | exact hp | exact Pk.rnum_at hp | exact Pk.take_at hp | exact Pk.take_at (Pk.rnum_at hp) | exact Pk.rtxt_at hp) (Seen.old hs0) hbb H_29) ?_
              rintro _ w_23 ⟨rfl, H_30⟩; refine ⟨_, rfl, ?_⟩
              refine L_mv rfl ?_
              refine L_y rfl (Y_ext rfl rfl) ?_
              refine L_y rfl (Y_ext rfl rfl) ?_
              refine L_as rfl ?_
              refine L_as rfl ?_
              refine L_nil ?_
              refine Th_n ?_
              refine W_seq ?_
              refine W_seq ?_
              refine W_quiet H_30 28 [v103, Value.string (bs ((Pk.take b p er el75.size).1)), v110, Value.string (bs ((Pk.take b p er el75.size).1)), Value.bool (!decide ((Pk.take b p er el75.size).1 = (Pk.take b p er el75.size).1)), Value.bool (!decide ((Pk.take b p er el75.size).1 = (Pk.take b p er el75.size).1)), Value.int .i64 (((Pk.rdone b ((Pk.take b p er el75.size).2.1) ((Pk.take b p er el75.size).2.2)).1 : Nat) : Int), Value.int .i64 (((Pk.rdone b ((Pk.take b p er el75.size).2.1) ((Pk.take b p er el75.size).2.2)).1 : Nat) : Int), Value.bool ((((Pk.rdone b ((Pk.take b p er el75.size).2.1) ((Pk.take b p er el75.size).2.2)).1 : Nat) : Int) != (((Pk.rdone b ((Pk.take b p er el75.size).2.1) ((Pk.take b p er el75.size).2.2)).1 : Nat) : Int)), Value.bool ((((Pk.rdone b ((Pk.take b p er el75.size).2.1) ((Pk.take b p er el75.size).2.2)).1 : Nat) : Int) != (((Pk.rdone b ((Pk.take b p er el75.size).2.1) ((Pk.take b p er el75.size).2.2)).1 : Nat) : Int)), Value.bool ((((Pk.rdone b ((Pk.take b p er el75.size).2.1) ((Pk.take b p er el75.size).2.2)).1 : Nat) : Int) != (((Pk.rdone b ((Pk.take b p er el75.size).2.1) ((Pk.take b p er el75.size).2.2)).1 : Nat) : Int)), Value.int .i64 (((Pk.rdone b ((Pk.take b p er el75.size).2.1) ((Pk.take b p er el75.size).2.2)).2 : Nat) : Int), Value.int .i64 (((Pk.rdone b ((Pk.take b p er el75.size).2.1) ((Pk.take b p er el75.size).2.2)).2 : Nat) : Int), Value.bool ((((Pk.rdone b ((Pk.take b p er el75.size).2.1) ((Pk.take b p er el75.size).2.2)).2 : Nat) : Int) != (((Pk.rdone b ((Pk.take b p er el75.size).2.1) ((Pk.take b p er el75.size).2.2)).2 : Nat) : Int)), Value.bool ((((Pk.rdone b ((Pk.take b p er el75.size).2.1) ((Pk.take b p er el75.size).2.2)).2 : Nat) : Int) != (((Pk.rdone b ((Pk.take b p er el75.size).2.1) ((Pk.take b p er el75.size).2.2)).2 : Nat) : Int)), Value.bool ((((Pk.rdone b ((Pk.take b p er el75.size).2.1) ((Pk.take b p er el75.size).2.2)).2 : Nat) : Int) != (((Pk.rdone b ((Pk.take b p er el75.size).2.1) ((Pk.take b p er el75.size).2.2)).2 : Nat) : Int)), Value.pointer (some ⟨b34, 0, none⟩), Value.int .i64 (((b.length : Nat) : Int) - (((Pk.take b p er el75.size).2.1 : Nat) : Int)), Value.pointer (some ⟨bk37, 0, none⟩), Value.pointer (some ⟨bk37, 0, none⟩), Value.pointer (some ⟨bk37, 0, none⟩), Value.slice a0 m0 c0, Value.int .i64 ((m0 : Nat) : Int), Value.pointer (some ⟨bk37, 0, none⟩), Value.pointer (some ⟨bk37, 0, none⟩), Value.pointer (some ⟨bk37, 1, none⟩), Value.int .i64 (((Pk.take b p er el75.size).2.1 : Nat) : Int), Value.int .i64 (((m0 : Nat) : Int) - (((Pk.take b p er el75.size).2.1 : Nat) : Int))] T_mixed (by kernel_rfl) ?_ ?_
              ·
                refine .plain rfl (Pl_y rfl (fun w hBw => rfl)) ?_
                refine .plain rfl (Pl_y rfl (fun w hBw => Y_strO Try.underlying25 Try.underlying5 Try.underlying9 hBw (i := 4) rfl rfl)) ?_
                refine .plain rfl (Pl_y rfl (fun w hBw => rfl)) ?_
                refine .plain rfl (Pl_y rfl (fun w hBw => Y_strO Try.underlying25 Try.underlying5 Try.underlying9 hBw (i := 3) rfl rfl)) ?_
                refine .plain rfl (Pl_y rfl (fun w hBw => Y_neT (l1 := (Pk.take b p er el75.size).1) (l2 := (Pk.take b p er el75.size).1) Try.underlying9 (Pk.take_lt hbb) (Pk.take_lt hbb) rfl rfl)) ?_
                refine .plain rfl (Pl_y rfl (fun w hBw => rfl)) ?_
                refine .plain rfl (Pl_y (wE rfl (congrArg Value.bool (by simp))) (fun w hBw => rfl)) ?_
                refine .plain rfl (Pl_y (wE rfl (congrArg Value.bool (by simp))) (fun w hBw => rfl)) ?_
                refine .plain rfl (Pl_y (wE rfl (congrArg Value.bool (by simp))) (fun w hBw => Y_neq (k := .i64) (a := (((Pk.rdone b ((Pk.take b p er el75.size).2.1) ((Pk.take b p er el75.size).2.2)).1 : Nat) : Int)) (b := (((Pk.rdone b ((Pk.take b p er el75.size).2.1) ((Pk.take b p er el75.size).2.2)).1 : Nat) : Int)) rfl rfl)) ?_
                refine .plain rfl (Pl_y rfl (fun w hBw => Y_pickF (congrArg Value.bool (by simp)))) ?_
                refine .plain rfl (Pl_y rfl (fun w hBw => rfl)) ?_
                refine .plain rfl (Pl_y (wE rfl (congrArg Value.bool (by simp []))) (fun w hBw => rfl)) ?_
                refine .plain rfl (Pl_y (wE rfl (congrArg Value.bool (by simp []))) (fun w hBw => rfl)) ?_
                refine .plain rfl (Pl_y (wE rfl (congrArg Value.bool (by simp []))) (fun w hBw => Y_neq (k := .i64) (a := (((Pk.rdone b ((Pk.take b p er el75.size).2.1) ((Pk.take b p er el75.size).2.2)).2 : Nat) : Int)) (b := (((Pk.rdone b ((Pk.take b p er el75.size).2.1) ((Pk.take b p er el75.size).2.2)).2 : Nat) : Int)) rfl rfl)) ?_
                refine .plain rfl (Pl_y rfl (fun w hBw => Y_pickF (congrArg Value.bool (by simp [])))) ?_
                refine .plain rfl (Pl_y rfl (fun w hBw => rfl)) ?_
                refine .plain rfl (Pl_y (wE rfl (congrArg Value.bool (by simp []))) (fun w hBw => congrArg (fun v => Result.ok (Next.value v) w) e_3_6)) ?_
                refine .plain rfl (Pl_c (wE rfl (congrArg Value.bool (by simp []))) T_en21 (A1 rfl) (fun w hBw => dLeft2 (by omega) (by first | exact hp | exact Pk.rnum_at hp | exact Pk.take_at hp | exact Pk.take_at (Pk.rnum_at hp) | exact Pk.rtxt_at hp) ((hBw.pull 2 rfl).pull 2 rfl))) ?_
                refine .plain rfl (Pl_y (wE rfl (congrArg Value.bool (by simp []))) (fun w hBw => congrArg (fun v => Result.ok (Next.value v) w) e_3_7)) ?_
                refine .plain rfl (Pl_y (wE rfl (congrArg Value.bool (by simp []))) (fun w hBw => Y_nil rfl)) ?_
                refine .plain rfl (Pl_y (wE rfl (congrArg Value.bool (by simp []))) (fun w hBw => Y_fld T_fld53_0 rfl rfl rfl)) ?_
                refine .plain rfl (Pl_y (wE rfl (congrArg Value.bool (by simp []))) (fun w hBw => Y_ld T_scal25 hBw (i := 0) rfl rfl rfl)) ?_
                refine .plain rfl (Pl_y (wE rfl (congrArg Value.bool (by simp []))) (fun w hBw => Y_lenS T_sl25 rfl)) ?_
                refine .plain rfl (Pl_y (wE rfl (congrArg Value.bool (by simp []))) (fun w hBw => congrArg (fun v => Result.ok (Next.value v) w) e_3_7)) ?_
                refine .plain rfl (Pl_y (wE rfl (congrArg Value.bool (by simp []))) (fun w hBw => Y_nil rfl)) ?_
                refine .plain rfl (Pl_y (wE rfl (congrArg Value.bool (by simp []))) (fun w hBw => Y_fld T_fld53_1 rfl rfl rfl)) ?_
                refine .plain rfl (Pl_y (wE rfl (congrArg Value.bool (by simp []))) (fun w hBw => Y_ld T_scal3 hBw (i := 0) rfl rfl rfl)) ?_
                refine .plain rfl (Pl_y (wE rfl (congrArg Value.bool (by simp []))) (fun w hBw => Y_sub (k := .i64) (a := ((m0 : Nat) : Int)) (b := (((Pk.take b p er el75.size).2.1 : Nat) : Int)) (z := (((m0 : Nat) : Int) - (((Pk.take b p er el75.size).2.1 : Nat) : Int))) rfl rfl (wi (by have h1 := Pk.take_at (l := b) (p := p) (e := er) (n := el75.size) hp; omega)))) ?_
                exact .nil _
              ·
                intro e_7 w_24 hAg H_31
                have e_7_1 : e_7 1 = Value.slice a m c := (hAg 1 rfl).trans e_3_1
                have e_7_6 : e_7 6 = Value.pointer (some ⟨b34, 0, none⟩) := (hAg 6 rfl).trans e_3_6
                have e_7_7 : e_7 7 = Value.pointer (some ⟨bk37, 0, none⟩) := (hAg 7 rfl).trans e_3_7
                have e_7_9 : e_7 9 = Value.int .i64 ((i : Nat) : Int) := (hAg 9 rfl).trans e_3_9
                have e_7_10 : e_7 10 = v103 := (hAg 10 rfl).trans rfl
                have e_7_172 : e_7 172 = Value.bool ((((Pk.rdone b ((Pk.take b p er el75.size).2.1) ((Pk.take b p er el75.size).2.2)).2 : Nat) : Int) != (((Pk.rdone b ((Pk.take b p er el75.size).2.1) ((Pk.take b p er el75.size).2.2)).2 : Nat) : Int)) := (hAg 172 rfl).trans rfl
                have e_7_174 : e_7 174 = Value.int .i64 (((b.length : Nat) : Int) - (((Pk.take b p er el75.size).2.1 : Nat) : Int)) := (hAg 174 rfl).trans rfl
                have e_7_184 : e_7 184 = Value.int .i64 (((m0 : Nat) : Int) - (((Pk.take b p er el75.size).2.1 : Nat) : Int)) := (hAg 184 rfl).trans rfl
                refine G_y (wE rfl (e_7_172.trans (congrArg Value.bool (by simp [])))) rfl (Y_neq (k := .i64) (a := (((b.length : Nat) : Int) - (((Pk.take b p er el75.size).2.1 : Nat) : Int))) (b := (((m0 : Nat) : Int) - (((Pk.take b p er el75.size).2.1 : Nat) : Int))) e_7_174 e_7_184) ?_
                refine L_y rfl (Y_pickF (e_7_172.trans (congrArg Value.bool (by simp [])))) ?_
                refine L_nil ?_
                refine Th_n ?_
                refine W_false (congrArg Value.bool (by simp [hbl])) ?_
                refine W_skip ?_
                refine Th_n ?_
                refine W_seq ?_
                refine W_rg ?_
                refine L_as rfl ?_
                refine L_nil ?_
                refine Th_n ?_
                refine W_block ?_
                have hxl := Pk.take_len b p er el75.size
                refine W_loop (fun mu_ e w => ∃ k : Nat, ∃ y : List Nat, mu_ = (Pk.take b p er el75.size).1.length - k ∧ e 1 = Value.slice a m c ∧ e 6 = Value.pointer (some ⟨b34, 0, none⟩) ∧ e 7 = Value.pointer (some ⟨bk37, 0, none⟩) ∧ e 9 = Value.int .i64 ((i : Nat) : Int) ∧ e 10 = v103 ∧ e 16 = Value.int .i64 ((k : Nat) : Int) ∧ Hp w0 [] w [Ent.blk bk37 53 #[Value.slice a0 m0 c0, Value.int .i64 (((Pk.take b p er el75.size).2.1 : Nat) : Int), Value.int .i64 (((Pk.take b p er el75.size).2.2 : Nat) : Int)], Ent.blk b34 59 #[v103_2, Value.int .i64 (((Pk.take b p er el75.size).2.1 : Nat) : Int), Value.int .i64 (((Pk.take b p er el75.size).2.2 : Nat) : Int)], Ent.own v103_2 5 1 b.length (us .u8 b), Ent.own v110 5 1 ((Pk.take b p er el75.size).1.length) (us .u8 ((Pk.take b p er el75.size).1)), Ent.own v103 5 1 ((Pk.take b p er el75.size).1.length) (us .u8 y)] ∧ (∀ u ∈ y, u < 256) ∧ k ≤ (Pk.take b p er el75.size).1.length) _ ⟨0, (Pk.take b p er el75.size).1, rfl, e_7_1, e_7_6, e_7_7, e_7_9, e_7_10, rfl, H_31, (Pk.take_lt hbb), (Nat.zero_le _)⟩ ?_
                rintro mu_ e_8 w_25 ⟨k, y, rfl, e_8_1, e_8_6, e_8_7, e_8_9, e_8_10, e_8_16, H_32, hy, hk⟩
                refine W_seq ?_
                refine W_seq ?_
                refine W_rg ?_
                refine L_mv rfl ?_
                refine L_mv rfl ?_
                refine L_y rfl (Y_lenO T_sl25 H_32 (i := 4) rfl e_8_10) ?_
                refine L_y rfl (Y_lss (k := .i64) (a := ((k : Nat) : Int)) (b := (((Pk.take b p er el75.size).1.length : Nat) : Int)) e_8_16 rfl) ?_
                refine L_nil ?_
                refine Th_n ?_
                refine W_cond (b := (decide (((k : Nat) : Int) < (((Pk.take b p er el75.size).1.length : Nat) : Int)))) rfl (fun hc_6 => ?_) (fun hc_6 => ?_)
                ·
                  have hc_6' := of_decide_eq_true hc_6
                  refine W_skip ?_
                  refine Th_n ?_
                  refine W_seq ?_
                  refine W_block ?_
                  refine W_rg ?_
                  refine L_mv rfl ?_
                  refine L_mv rfl ?_
                  refine L_y rfl (Y_idxO (j := k) T_sl25 H_32 (i := 4) rfl e_8_10 e_8_16 rfl (by omega)) ?_
                  obtain ⟨x196, hx196⟩ : ∃ u, y[k]? = some u := ⟨_, List.getElem?_eq_getElem (by have := (⟨own_length (H_32.get 4 rfl), hy⟩ : Wd ((Pk.take b p er el75.size).1.length) 256 y).1; omega)⟩
                  have rx196 := (⟨own_length (H_32.get 4 rfl), hy⟩ : Wd ((Pk.take b p er el75.size).1.length) 256 y).2 _ (List.mem_of_getElem? hx196)
                  refine L_y rfl (Y_ldO T_scal5 H_32 (i := 4) rfl rfl (hx196)) ?_
                  refine L_yr (z := (x196 + 1) % 256) (m := 256) rfl (Yu_add (k := .u8) rfl x196 1 rfl rfl) (Nat.mod_lt _ (by decide)) ?_; intro x197 hx197 rx197
                  refine L_y rfl (Y_idxO (j := k) T_sl25 H_32 (i := 4) rfl e_8_10 e_8_16 rfl (by omega)) ?_
                  refine L_stO T_scal5 H_32 (i := 4) rfl rfl (by omega) rfl ?_; intro w_26 Hx_4
                  have H_33 : Hp w0 [] w_26 [Ent.blk bk37 53 #[Value.slice a0 m0 c0, Value.int .i64 (((Pk.take b p er el75.size).2.1 : Nat) : Int), Value.int .i64 (((Pk.take b p er el75.size).2.2 : Nat) : Int)], Ent.blk b34 59 #[v103_2, Value.int .i64 (((Pk.take b p er el75.size).2.1 : Nat) : Int), Value.int .i64 (((Pk.take b p er el75.size).2.2 : Nat) : Int)], Ent.own v103_2 5 1 b.length (us .u8 b), Ent.own v110 5 1 ((Pk.take b p er el75.size).1.length) (us .u8 ((Pk.take b p er el75.size).1)), Ent.own v103 5 1 ((Pk.take b p er el75.size).1.length) (us .u8 (y.set k x197))] := Hx_4
                  refine L_nil ?_
                  refine InB_n ?_
                  refine Th_n ?_
                  refine W_rg ?_
                  refine L_mv rfl ?_
                  refine L_y rfl (Y_add (k := .i64) (a := ((k : Nat) : Int)) (b := ((1 : Nat) : Int)) (z := ((k + 1 : Nat) : Int)) e_8_16 rfl (wi (by omega))) ?_
                  refine L_as rfl ?_
                  refine L_nil ?_
                  refine Th_n ⟨_, ?_, (k + 1), _, rfl, e_8_1, e_8_6, e_8_7, e_8_9, e_8_10, rfl, H_33, (set_lt hy rx197), (by omega)⟩
                  omega
                ·
                  have hc_6' := of_decide_eq_false hc_6
                  refine W_exit ?_
                  refine Th_x ?_
                  refine Th_x ?_
                  refine InB_hit ?_
                  refine InB_n ?_
                  refine Th_n ?_
                  refine W_rg ?_
                  refine L_mv rfl ?_
                  refine L_y rfl (Y_add (k := .i64) (a := ((i : Nat) : Int)) (b := ((1 : Nat) : Int)) (z := ((i + 1 : Nat) : Int)) e_8_9 rfl (wi (by omega))) ?_
                  refine L_as rfl ?_
                  refine L_nil ?_
                  refine Th_n ⟨_, ?_, (i + 1), _, _, _, rfl, e_8_1, e_8_6, e_8_7, rfl, (((((H_32.erase 3).erase 3).pull 0 rfl).pull 2 rfl).pull 2 rfl), (by first | exact hp | exact Pk.rnum_at hp | exact Pk.take_at hp | exact Pk.take_at (Pk.rnum_at hp) | exact Pk.rtxt_at hp), (by omega)⟩
                  omega
            ·
              have hc_5' := ne_of_beq_false hc_5
              refine W_seq ?_
              refine W_rg ?_
              refine L_y rfl (Y_eql (k := .i64) (a := el75.kind) (b := ((2 : Nat) : Int)) rfl rfl) ?_
              refine L_as rfl ?_
              refine L_nil ?_
              refine Th_n ?_
              refine W_cond (b := (el75.kind == ((2 : Nat) : Int))) rfl (fun hc_7 => ?_) (fun hc_7 => ?_)
              ·
                have hc_7' := eq_of_beq hc_7
                refine W_seq ?_
                refine W_rg ?_
                refine L_mv rfl ?_
                refine L_mv rfl ?_
                refine L_mv rfl ?_
                refine L_y rfl (Y_idxT (j := i) T_sl22 (hT.hp H_14) hel75 e_3_1 e_3_9 rfl) ?_
                refine L_y rfl (Y_fldT T_fld34_1 rfl (hT.hp H_14) hel75 rfl) ?_
                refine L_y rfl (Y_ldT (j := i) (off := 1) T_scal3 (hT.hp H_14) hel75 rfl rfl rfl) ?_
                refine L_callv rfl rfl T_en20 (A2 e_3_6 rfl) (dText el75.size (by omega) hbb (by first | exact hp | exact Pk.rnum_at hp | exact Pk.take_at hp | exact Pk.take_at (Pk.rnum_at hp) | exact Pk.rtxt_at hp) H_14) ?_
                rintro _ w_27 ⟨v119, v119_2, rfl, H_34⟩; refine ⟨_, rfl, ?_⟩
                refine L_as rfl ?_
                refine L_nil ?_
                refine Th_n ?_
                refine W_rg ?_
                refine L_mv rfl ?_
                refine L_mv rfl ?_
                refine L_mv rfl ?_
                refine L_y rfl (Y_idxT (j := i) T_sl22 (hT.hp H_34) hel75 e_3_1 e_3_9 rfl) ?_
                refine L_y rfl (Y_fldT T_fld34_1 rfl (hT.hp H_34) hel75 rfl) ?_
                refine L_y rfl (Y_ldT (j := i) (off := 1) T_scal3 (hT.hp H_34) hel75 rfl rfl rfl) ?_
                have H_35 : Hp w0 [] w_27 [Ent.blk bk37 53 #[Value.slice a0 m0 c0, Value.int .i64 ((p : Nat) : Int), Value.int .i64 ((er : Nat) : Int)], Ent.own v119 5 1 ((Pk.rtxt b p er el75.size).1.length) (us .u8 ((Pk.rtxt b p er el75.size).1)), Ent.blk b34 59 #[v119_2, Value.int .i64 (((Pk.rtxt b p er el75.size).2.1 : Nat) : Int), Value.int .i64 (((Pk.rtxt b p er el75.size).2.2 : Nat) : Int)], Ent.own v119_2 5 1 b.length (us .u8 b)] := (H_34.pull 3 rfl)
                refine L_callv rfl rfl T_en25 (A2 e_3_7 rfl) (fText el75.size (by omega) (by omega) (by rw [← hbl]; first | exact hp | exact Pk.rnum_at hp | exact Pk.take_at hp | exact Pk.take_at (Pk.rnum_at hp) | exact Pk.rtxt_at hp) (Seen.old hs0) hbb H_35) ?_
                rintro _ w_28 ⟨v126, rfl, H_36⟩; refine ⟨_, rfl, ?_⟩
                refine L_as rfl ?_
                refine L_nil ?_
                refine InB_n ?_
                refine Th_n ?_
                refine W_seq ?_
                refine W_rg ?_
                refine L_mv rfl ?_
                have H_37 : Hp w0 [] w_28 [Ent.blk b34 59 #[v119_2, Value.int .i64 (((Pk.rtxt b p er el75.size).2.1 : Nat) : Int), Value.int .i64 (((Pk.rtxt b p er el75.size).2.2 : Nat) : Int)], Ent.own v119_2 5 1 b.length (us .u8 b), Ent.own v126 5 1 ((Pk.rtxt b p er el75.size).1.length) (us .u8 ((Pk.rtxt b p er el75.size).1)), Ent.blk bk37 53 #[Value.slice a0 m0 c0, Value.int .i64 (((Pk.rtxt b p er el75.size).2.1 : Nat) : Int), Value.int .i64 (((Pk.rtxt b p er el75.size).2.2 : Nat) : Int)], Ent.own v119 5 1 ((Pk.rtxt b p er el75.size).1.length) (us .u8 ((Pk.rtxt b p er el75.size).1))] := ((H_36.pull 4 rfl).pull 4 rfl)
                refine L_callv rfl rfl T_en17 (A1 e_3_6) (dDone (by omega) hbb (by first | exact hp | exact Pk.rnum_at hp | exact Pk.take_at hp | exact Pk.take_at (Pk.rnum_at hp) | exact Pk.rtxt_at hp) H_37) ?_
                rintro _ w_29 ⟨rfl, H_38⟩; refine ⟨_, rfl, ?_⟩
                refine L_mv rfl ?_
                refine L_y rfl (Y_ext rfl rfl) ?_
                refine L_y rfl (Y_ext rfl rfl) ?_
                refine L_as rfl ?_
                refine L_as rfl ?_
                refine L_nil ?_
                refine Th_n ?_
                refine W_seq ?_
                refine W_rg ?_
                refine L_mv rfl ?_
                have H_39 : Hp w0 [] w_29 [Ent.blk bk37 53 #[Value.slice a0 m0 c0, Value.int .i64 (((Pk.rtxt b p er el75.size).2.1 : Nat) : Int), Value.int .i64 (((Pk.rtxt b p er el75.size).2.2 : Nat) : Int)], Ent.blk b34 59 #[v119_2, Value.int .i64 (((Pk.rtxt b p er el75.size).2.1 : Nat) : Int), Value.int .i64 (((Pk.rtxt b p er el75.size).2.2 : Nat) : Int)], Ent.own v119_2 5 1 b.length (us .u8 b), Ent.own v126 5 1 ((Pk.rtxt b p er el75.size).1.length) (us .u8 ((Pk.rtxt b p er el75.size).1)), Ent.own v119 5 1 ((Pk.rtxt b p er el75.size).1.length) (us .u8 ((Pk.rtxt b p er el75.size).1))] := (H_38.pull 3 rfl)
                refine L_callv rfl rfl T_en27 (A1 e_3_7) (fDone (by omega) (by rw [← hbl]; first | exact hp | exact Pk.rnum_at hp | exact Pk.take_at hp | exact Pk.take_at (Pk.rnum_at hp) | exact Pk.rtxt_at hp) (Seen.old hs0) hbb H_39) ?_
                rintro _ w_30 ⟨rfl, H_40⟩; refine ⟨_, rfl, ?_⟩
                refine L_mv rfl ?_
                refine L_y rfl (Y_ext rfl rfl) ?_
                refine L_y rfl (Y_ext rfl rfl) ?_
                refine L_as rfl ?_
                refine L_as rfl ?_
                refine L_nil ?_
                refine Th_n ?_
                refine W_seq ?_
                refine W_seq ?_
                refine W_quiet H_40 28 [v119, Value.string (bs ((Pk.rtxt b p er el75.size).1)), v126, Value.string (bs ((Pk.rtxt b p er el75.size).1)), Value.bool (!decide ((Pk.rtxt b p er el75.size).1 = (Pk.rtxt b p er el75.size).1)), Value.bool (!decide ((Pk.rtxt b p er el75.size).1 = (Pk.rtxt b p er el75.size).1)), Value.int .i64 (((Pk.rdone b ((Pk.rtxt b p er el75.size).2.1) ((Pk.rtxt b p er el75.size).2.2)).1 : Nat) : Int), Value.int .i64 (((Pk.rdone b ((Pk.rtxt b p er el75.size).2.1) ((Pk.rtxt b p er el75.size).2.2)).1 : Nat) : Int), Value.bool ((((Pk.rdone b ((Pk.rtxt b p er el75.size).2.1) ((Pk.rtxt b p er el75.size).2.2)).1 : Nat) : Int) != (((Pk.rdone b ((Pk.rtxt b p er el75.size).2.1) ((Pk.rtxt b p er el75.size).2.2)).1 : Nat) : Int)), Value.bool ((((Pk.rdone b ((Pk.rtxt b p er el75.size).2.1) ((Pk.rtxt b p er el75.size).2.2)).1 : Nat) : Int) != (((Pk.rdone b ((Pk.rtxt b p er el75.size).2.1) ((Pk.rtxt b p er el75.size).2.2)).1 : Nat) : Int)), Value.bool ((((Pk.rdone b ((Pk.rtxt b p er el75.size).2.1) ((Pk.rtxt b p er el75.size).2.2)).1 : Nat) : Int) != (((Pk.rdone b ((Pk.rtxt b p er el75.size).2.1) ((Pk.rtxt b p er el75.size).2.2)).1 : Nat) : Int)), Value.int .i64 (((Pk.rdone b ((Pk.rtxt b p er el75.size).2.1) ((Pk.rtxt b p er el75.size).2.2)).2 : Nat) : Int), Value.int .i64 (((Pk.rdone b ((Pk.rtxt b p er el75.size).2.1) ((Pk.rtxt b p er el75.size).2.2)).2 : Nat) : Int), Value.bool ((((Pk.rdone b ((Pk.rtxt b p er el75.size).2.1) ((Pk.rtxt b p er el75.size).2.2)).2 : Nat) : Int) != (((Pk.rdone b ((Pk.rtxt b p er el75.size).2.1) ((Pk.rtxt b p er el75.size).2.2)).2 : Nat) : Int)), Value.bool ((((Pk.rdone b ((Pk.rtxt b p er el75.size).2.1) ((Pk.rtxt b p er el75.size).2.2)).2 : Nat) : Int) != (((Pk.rdone b ((Pk.rtxt b p er el75.size).2.1) ((Pk.rtxt b p er el75.size).2.2)).2 : Nat) : Int)), Value.bool ((((Pk.rdone b ((Pk.rtxt b p er el75.size).2.1) ((Pk.rtxt b p er el75.size).2.2)).2 : Nat) : Int) != (((Pk.rdone b ((Pk.rtxt b p er el75.size).2.1) ((Pk.rtxt b p er el75.size).2.2)).2 : Nat) : Int)), Value.pointer (some ⟨b34, 0, none⟩), Value.int .i64 (((b.length : Nat) : Int) - (((Pk.rtxt b p er el75.size).2.1 : Nat) : Int)), Value.pointer (some ⟨bk37, 0, none⟩), Value.pointer (some ⟨bk37, 0, none⟩), Value.pointer (some ⟨bk37, 0, none⟩), Value.slice a0 m0 c0, Value.int .i64 ((m0 : Nat) : Int), Value.pointer (some ⟨bk37, 0, none⟩), Value.pointer (some ⟨bk37, 0, none⟩), Value.pointer (some ⟨bk37, 1, none⟩), Value.int .i64 (((Pk.rtxt b p er el75.size).2.1 : Nat) : Int), Value.int .i64 (((m0 : Nat) : Int) - (((Pk.rtxt b p er el75.size).2.1 : Nat) : Int))] T_mixed (by kernel_rfl) ?_ ?_
                ·
                  refine .plain rfl (Pl_y rfl (fun w hBw => rfl)) ?_
                  refine .plain rfl (Pl_y rfl (fun w hBw => Y_strO Try.underlying25 Try.underlying5 Try.underlying9 hBw (i := 4) rfl rfl)) ?_
                  refine .plain rfl (Pl_y rfl (fun w hBw => rfl)) ?_
                  refine .plain rfl (Pl_y rfl (fun w hBw => Y_strO Try.underlying25 Try.underlying5 Try.underlying9 hBw (i := 3) rfl rfl)) ?_
                  refine .plain rfl (Pl_y rfl (fun w hBw => Y_neT (l1 := (Pk.rtxt b p er el75.size).1) (l2 := (Pk.rtxt b p er el75.size).1) Try.underlying9 (Pk.rtxt_lt hbb) (Pk.rtxt_lt hbb) rfl rfl)) ?_
                  refine .plain rfl (Pl_y rfl (fun w hBw => rfl)) ?_
                  refine .plain rfl (Pl_y (wE rfl (congrArg Value.bool (by simp))) (fun w hBw => rfl)) ?_
                  refine .plain rfl (Pl_y (wE rfl (congrArg Value.bool (by simp))) (fun w hBw => rfl)) ?_
                  refine .plain rfl (Pl_y (wE rfl (congrArg Value.bool (by simp))) (fun w hBw => Y_neq (k := .i64) (a := (((Pk.rdone b ((Pk.rtxt b p er el75.size).2.1) ((Pk.rtxt b p er el75.size).2.2)).1 : Nat) : Int)) (b := (((Pk.rdone b ((Pk.rtxt b p er el75.size).2.1) ((Pk.rtxt b p er el75.size).2.2)).1 : Nat) : Int)) rfl rfl)) ?_
                  refine .plain rfl (Pl_y rfl (fun w hBw => Y_pickF (congrArg Value.bool (by simp)))) ?_
                  refine .plain rfl (Pl_y rfl (fun w hBw => rfl)) ?_
                  refine .plain rfl (Pl_y (wE rfl (congrArg Value.bool (by simp []))) (fun w hBw => rfl)) ?_
                  refine .plain rfl (Pl_y (wE rfl (congrArg Value.bool (by simp []))) (fun w hBw => rfl)) ?_
                  refine .plain rfl (Pl_y (wE rfl (congrArg Value.bool (by simp []))) (fun w hBw => Y_neq (k := .i64) (a := (((Pk.rdone b ((Pk.rtxt b p er el75.size).2.1) ((Pk.rtxt b p er el75.size).2.2)).2 : Nat) : Int)) (b := (((Pk.rdone b ((Pk.rtxt b p er el75.size).2.1) ((Pk.rtxt b p er el75.size).2.2)).2 : Nat) : Int)) rfl rfl)) ?_
                  refine .plain rfl (Pl_y rfl (fun w hBw => Y_pickF (congrArg Value.bool (by simp [])))) ?_
                  refine .plain rfl (Pl_y rfl (fun w hBw => rfl)) ?_
                  refine .plain rfl (Pl_y (wE rfl (congrArg Value.bool (by simp []))) (fun w hBw => congrArg (fun v => Result.ok (Next.value v) w) e_3_6)) ?_
                  refine .plain rfl (Pl_c (wE rfl (congrArg Value.bool (by simp []))) T_en21 (A1 rfl) (fun w hBw => dLeft2 (by omega) (by first | exact hp | exact Pk.rnum_at hp | exact Pk.take_at hp | exact Pk.take_at (Pk.rnum_at hp) | exact Pk.rtxt_at hp) ((hBw.pull 2 rfl).pull 2 rfl))) ?_
                  refine .plain rfl (Pl_y (wE rfl (congrArg Value.bool (by simp []))) (fun w hBw => congrArg (fun v => Result.ok (Next.value v) w) e_3_7)) ?_
                  refine .plain rfl (Pl_y (wE rfl (congrArg Value.bool (by simp []))) (fun w hBw => Y_nil rfl)) ?_
                  refine .plain rfl (Pl_y (wE rfl (congrArg Value.bool (by simp []))) (fun w hBw => Y_fld T_fld53_0 rfl rfl rfl)) ?_
                  refine .plain rfl (Pl_y (wE rfl (congrArg Value.bool (by simp []))) (fun w hBw => Y_ld T_scal25 hBw (i := 0) rfl rfl rfl)) ?_
                  refine .plain rfl (Pl_y (wE rfl (congrArg Value.bool (by simp []))) (fun w hBw => Y_lenS T_sl25 rfl)) ?_
                  refine .plain rfl (Pl_y (wE rfl (congrArg Value.bool (by simp []))) (fun w hBw => congrArg (fun v => Result.ok (Next.value v) w) e_3_7)) ?_
                  refine .plain rfl (Pl_y (wE rfl (congrArg Value.bool (by simp []))) (fun w hBw => Y_nil rfl)) ?_
                  refine .plain rfl (Pl_y (wE rfl (congrArg Value.bool (by simp []))) (fun w hBw => Y_fld T_fld53_1 rfl rfl rfl)) ?_
                  refine .plain rfl (Pl_y (wE rfl (congrArg Value.bool (by simp []))) (fun w hBw => Y_ld T_scal3 hBw (i := 0) rfl rfl rfl)) ?_
                  refine .plain rfl (Pl_y (wE rfl (congrArg Value.bool (by simp []))) (fun w hBw => Y_sub (k := .i64) (a := ((m0 : Nat) : Int)) (b := (((Pk.rtxt b p er el75.size).2.1 : Nat) : Int)) (z := (((m0 : Nat) : Int) - (((Pk.rtxt b p er el75.size).2.1 : Nat) : Int))) rfl rfl (wi (by have h1 := Pk.rtxt_at (l := b) (p := p) (e := er) (most := el75.size) hp; omega)))) ?_
                  exact .nil _
                ·
                  intro e_9 w_31 hAg H_41
                  have e_9_1 : e_9 1 = Value.slice a m c := (hAg 1 rfl).trans e_3_1
                  have e_9_6 : e_9 6 = Value.pointer (some ⟨b34, 0, none⟩) := (hAg 6 rfl).trans e_3_6
                  have e_9_7 : e_9 7 = Value.pointer (some ⟨bk37, 0, none⟩) := (hAg 7 rfl).trans e_3_7
                  have e_9_9 : e_9 9 = Value.int .i64 ((i : Nat) : Int) := (hAg 9 rfl).trans e_3_9
                  have e_9_10 : e_9 10 = v119 := (hAg 10 rfl).trans rfl
                  have e_9_172 : e_9 172 = Value.bool ((((Pk.rdone b ((Pk.rtxt b p er el75.size).2.1) ((Pk.rtxt b p er el75.size).2.2)).2 : Nat) : Int) != (((Pk.rdone b ((Pk.rtxt b p er el75.size).2.1) ((Pk.rtxt b p er el75.size).2.2)).2 : Nat) : Int)) := (hAg 172 rfl).trans rfl
                  have e_9_174 : e_9 174 = Value.int .i64 (((b.length : Nat) : Int) - (((Pk.rtxt b p er el75.size).2.1 : Nat) : Int)) := (hAg 174 rfl).trans rfl
                  have e_9_184 : e_9 184 = Value.int .i64 (((m0 : Nat) : Int) - (((Pk.rtxt b p er el75.size).2.1 : Nat) : Int)) := (hAg 184 rfl).trans rfl
                  refine G_y (wE rfl (e_9_172.trans (congrArg Value.bool (by simp [])))) rfl (Y_neq (k := .i64) (a := (((b.length : Nat) : Int) - (((Pk.rtxt b p er el75.size).2.1 : Nat) : Int))) (b := (((m0 : Nat) : Int) - (((Pk.rtxt b p er el75.size).2.1 : Nat) : Int))) e_9_174 e_9_184) ?_
                  refine L_y rfl (Y_pickF (e_9_172.trans (congrArg Value.bool (by simp [])))) ?_
                  refine L_nil ?_
                  refine Th_n ?_
                  refine W_false (congrArg Value.bool (by simp [hbl])) ?_
                  refine W_skip ?_
                  refine Th_n ?_
                  refine W_seq ?_
                  refine W_rg ?_
                  refine L_as rfl ?_
                  refine L_nil ?_
                  refine Th_n ?_
                  refine W_block ?_
                  have hxl := Pk.rtxt_len b p er el75.size
                  refine W_loop (fun mu_ e w => ∃ k : Nat, ∃ y : List Nat, mu_ = (Pk.rtxt b p er el75.size).1.length - k ∧ e 1 = Value.slice a m c ∧ e 6 = Value.pointer (some ⟨b34, 0, none⟩) ∧ e 7 = Value.pointer (some ⟨bk37, 0, none⟩) ∧ e 9 = Value.int .i64 ((i : Nat) : Int) ∧ e 10 = v119 ∧ e 16 = Value.int .i64 ((k : Nat) : Int) ∧ Hp w0 [] w [Ent.blk bk37 53 #[Value.slice a0 m0 c0, Value.int .i64 (((Pk.rtxt b p er el75.size).2.1 : Nat) : Int), Value.int .i64 (((Pk.rtxt b p er el75.size).2.2 : Nat) : Int)], Ent.blk b34 59 #[v119_2, Value.int .i64 (((Pk.rtxt b p er el75.size).2.1 : Nat) : Int), Value.int .i64 (((Pk.rtxt b p er el75.size).2.2 : Nat) : Int)], Ent.own v119_2 5 1 b.length (us .u8 b), Ent.own v126 5 1 ((Pk.rtxt b p er el75.size).1.length) (us .u8 ((Pk.rtxt b p er el75.size).1)), Ent.own v119 5 1 ((Pk.rtxt b p er el75.size).1.length) (us .u8 y)] ∧ (∀ u ∈ y, u < 256) ∧ k ≤ (Pk.rtxt b p er el75.size).1.length) _ ⟨0, (Pk.rtxt b p er el75.size).1, rfl, e_9_1, e_9_6, e_9_7, e_9_9, e_9_10, rfl, H_41, (Pk.rtxt_lt hbb), (Nat.zero_le _)⟩ ?_
                  rintro mu_ e_10 w_32 ⟨k, y, rfl, e_10_1, e_10_6, e_10_7, e_10_9, e_10_10, e_10_16, H_42, hy, hk⟩
                  refine W_seq ?_
                  refine W_seq ?_
                  refine W_rg ?_
                  refine L_mv rfl ?_
                  refine L_mv rfl ?_
                  refine L_y rfl (Y_lenO T_sl25 H_42 (i := 4) rfl e_10_10) ?_
                  refine L_y rfl (Y_lss (k := .i64) (a := ((k : Nat) : Int)) (b := (((Pk.rtxt b p er el75.size).1.length : Nat) : Int)) e_10_16 rfl) ?_
                  refine L_nil ?_
                  refine Th_n ?_
                  refine W_cond (b := (decide (((k : Nat) : Int) < (((Pk.rtxt b p er el75.size).1.length : Nat) : Int)))) rfl (fun hc_8 => ?_) (fun hc_8 => ?_)
                  ·
                    have hc_8' := of_decide_eq_true hc_8
                    refine W_skip ?_
                    refine Th_n ?_
                    refine W_seq ?_
                    refine W_block ?_
                    refine W_rg ?_
                    refine L_mv rfl ?_
                    refine L_mv rfl ?_
                    refine L_y rfl (Y_idxO (j := k) T_sl25 H_42 (i := 4) rfl e_10_10 e_10_16 rfl (by omega)) ?_
                    obtain ⟨x196_2, hx196_2⟩ : ∃ u, y[k]? = some u := ⟨_, List.getElem?_eq_getElem (by have := (⟨own_length (H_42.get 4 rfl), hy⟩ : Wd ((Pk.rtxt b p er el75.size).1.length) 256 y).1; omega)⟩
                    have rx196_2 := (⟨own_length (H_42.get 4 rfl), hy⟩ : Wd ((Pk.rtxt b p er el75.size).1.length) 256 y).2 _ (List.mem_of_getElem? hx196_2)
                    refine L_y rfl (Y_ldO T_scal5 H_42 (i := 4) rfl rfl (hx196_2)) ?_
                    refine L_yr (z := (x196_2 + 1) % 256) (m := 256) rfl (Yu_add (k := .u8) rfl x196_2 1 rfl rfl) (Nat.mod_lt _ (by decide)) ?_; intro x197_2 hx197_2 rx197_2
                    refine L_y rfl (Y_idxO (j := k) T_sl25 H_42 (i := 4) rfl e_10_10 e_10_16 rfl (by omega)) ?_
                    refine L_stO T_scal5 H_42 (i := 4) rfl rfl (by omega) rfl ?_; intro w_33 Hx_5
                    have H_43 : Hp w0 [] w_33 [Ent.blk bk37 53 #[Value.slice a0 m0 c0, Value.int .i64 (((Pk.rtxt b p er el75.size).2.1 : Nat) : Int), Value.int .i64 (((Pk.rtxt b p er el75.size).2.2 : Nat) : Int)], Ent.blk b34 59 #[v119_2, Value.int .i64 (((Pk.rtxt b p er el75.size).2.1 : Nat) : Int), Value.int .i64 (((Pk.rtxt b p er el75.size).2.2 : Nat) : Int)], Ent.own v119_2 5 1 b.length (us .u8 b), Ent.own v126 5 1 ((Pk.rtxt b p er el75.size).1.length) (us .u8 ((Pk.rtxt b p er el75.size).1)), Ent.own v119 5 1 ((Pk.rtxt b p er el75.size).1.length) (us .u8 (y.set k x197_2))] := Hx_5
                    refine L_nil ?_
                    refine InB_n ?_
                    refine Th_n ?_
                    refine W_rg ?_
                    refine L_mv rfl ?_
                    refine L_y rfl (Y_add (k := .i64) (a := ((k : Nat) : Int)) (b := ((1 : Nat) : Int)) (z := ((k + 1 : Nat) : Int)) e_10_16 rfl (wi (by omega))) ?_
                    refine L_as rfl ?_
                    refine L_nil ?_
                    refine Th_n ⟨_, ?_, (k + 1), _, rfl, e_10_1, e_10_6, e_10_7, e_10_9, e_10_10, rfl, H_43, (set_lt hy rx197_2), (by omega)⟩
                    omega
                  ·
                    have hc_8' := of_decide_eq_false hc_8
                    refine W_exit ?_
                    refine Th_x ?_
                    refine Th_x ?_
                    refine InB_hit ?_
                    refine InB_n ?_
                    refine Th_n ?_
                    refine W_rg ?_
                    refine L_mv rfl ?_
                    refine L_y rfl (Y_add (k := .i64) (a := ((i : Nat) : Int)) (b := ((1 : Nat) : Int)) (z := ((i + 1 : Nat) : Int)) e_10_9 rfl (wi (by omega))) ?_
                    refine L_as rfl ?_
                    refine L_nil ?_
                    refine Th_n ⟨_, ?_, (i + 1), _, _, _, rfl, e_10_1, e_10_6, e_10_7, rfl, (((((H_42.erase 3).erase 3).pull 0 rfl).pull 2 rfl).pull 2 rfl), (by first | exact hp | exact Pk.rnum_at hp | exact Pk.take_at hp | exact Pk.take_at (Pk.rnum_at hp) | exact Pk.rtxt_at hp), (by omega)⟩
                    omega
              ·
                have hc_7' := ne_of_beq_false hc_7
                refine W_seq ?_
                refine W_rg ?_
                refine L_y rfl (Y_eql (k := .i64) (a := el75.kind) (b := ((3 : Nat) : Int)) rfl rfl) ?_
                refine L_as rfl ?_
                refine L_nil ?_
                refine Th_n ?_
                refine W_cond (b := (el75.kind == ((3 : Nat) : Int))) rfl (fun hc_9 => ?_) (fun hc_9 => ?_)
                ·
                  have hc_9' := eq_of_beq hc_9
                  refine W_seq ?_
                  refine W_rg ?_
                  refine L_mv rfl ?_
                  refine L_mv rfl ?_
                  refine L_mv rfl ?_
                  refine L_y rfl (Y_idxT (j := i) T_sl22 (hT.hp H_14) hel75 e_3_1 e_3_9 rfl) ?_
                  refine L_y rfl (Y_fldT T_fld34_2 rfl (hT.hp H_14) hel75 rfl) ?_
                  refine L_y rfl (Y_ldT (j := i) (off := 2) T_scal32 (hT.hp H_14) hel75 rfl rfl rfl) ?_
                  refine L_yr (z := el75.n % 100) (m := 18446744073709551616) rfl (Yu_rem (k := .u64) el75.n 100 rfl rfl (by decide)) (Nat.lt_of_le_of_lt (Nat.mod_le _ _) gel75.n64) ?_; intro x135 hx135 rx135
                  refine L_y rfl (Y_convI (k := .u64) (n := ((x135 : Nat) : Int)) (z := ((x135 : Nat) : Int)) T_some32 T_kind26 rfl (wi (by exact ⟨rfl, by omega, by have := rx135; omega⟩))) ?_
                  refine L_callv rfl rfl T_en16 (A2 e_3_6 rfl) (dFail x135 (by omega) hbb (by first | exact hp | exact Pk.rnum_at hp | exact Pk.take_at hp | exact Pk.take_at (Pk.rnum_at hp) | exact Pk.rtxt_at hp) H_14) ?_
                  rintro _ w_34 ⟨v137, rfl, H_44⟩; refine ⟨_, rfl, ?_⟩
                  refine L_nil ?_
                  refine Th_n ?_
                  refine W_rg ?_
                  refine L_mv rfl ?_
                  refine L_mv rfl ?_
                  refine L_mv rfl ?_
                  refine L_y rfl (Y_idxT (j := i) T_sl22 (hT.hp H_44) hel75 e_3_1 e_3_9 rfl) ?_
                  refine L_y rfl (Y_fldT T_fld34_2 rfl (hT.hp H_44) hel75 rfl) ?_
                  refine L_y rfl (Y_ldT (j := i) (off := 2) T_scal32 (hT.hp H_44) hel75 rfl rfl rfl) ?_
                  refine L_yr (z := el75.n % 100) (m := 18446744073709551616) rfl (Yu_rem (k := .u64) el75.n 100 rfl rfl (by decide)) (Nat.lt_of_le_of_lt (Nat.mod_le _ _) gel75.n64) ?_; intro x144 hx144 rx144
                  obtain rfl : x135 = x144 := hx135.trans hx144.symm
                  refine L_y rfl (Y_convI (k := .u64) (n := ((x135 : Nat) : Int)) (z := ((x135 : Nat) : Int)) T_some32 T_kind26 rfl (wi (by exact ⟨rfl, by omega, by have := rx135; omega⟩))) ?_
                  have H_45 : Hp w0 [] w_34 [Ent.blk bk37 53 #[Value.slice a0 m0 c0, Value.int .i64 ((p : Nat) : Int), Value.int .i64 ((er : Nat) : Int)], Ent.blk b34 59 #[v137, Value.int .i64 ((p : Nat) : Int), Value.int .i64 ((Pk.fail er x135 : Nat) : Int)], Ent.own v137 5 1 b.length (us .u8 b)] := (H_44.pull 2 rfl)
                  refine L_callv rfl rfl T_en26 (A2 e_3_7 rfl) (fFail x135 (by omega) (by rw [← hbl]; first | exact hp | exact Pk.rnum_at hp | exact Pk.take_at hp | exact Pk.take_at (Pk.rnum_at hp) | exact Pk.rtxt_at hp) (Seen.old hs0) hbb H_45) ?_
                  rintro _ w_35 ⟨rfl, H_46⟩; refine ⟨_, rfl, ?_⟩
                  refine L_nil ?_
                  refine InB_n ?_
                  refine Th_n ?_
                  refine W_seq ?_
                  refine W_rg ?_
                  refine L_mv rfl ?_
                  have H_47 : Hp w0 [] w_35 [Ent.blk b34 59 #[v137, Value.int .i64 ((p : Nat) : Int), Value.int .i64 ((Pk.fail er x135 : Nat) : Int)], Ent.own v137 5 1 b.length (us .u8 b), Ent.blk bk37 53 #[Value.slice a0 m0 c0, Value.int .i64 ((p : Nat) : Int), Value.int .i64 ((Pk.fail er x135 : Nat) : Int)]] := ((H_46.pull 2 rfl).pull 2 rfl)
                  refine L_callv rfl rfl T_en17 (A1 e_3_6) (dDone (by omega) hbb (by first | exact hp | exact Pk.rnum_at hp | exact Pk.take_at hp | exact Pk.take_at (Pk.rnum_at hp) | exact Pk.rtxt_at hp) H_47) ?_
                  rintro _ w_36 ⟨rfl, H_48⟩; refine ⟨_, rfl, ?_⟩
                  refine L_mv rfl ?_
                  refine L_y rfl (Y_ext rfl rfl) ?_
                  refine L_y rfl (Y_ext rfl rfl) ?_
                  refine L_as rfl ?_
                  refine L_as rfl ?_
                  refine L_nil ?_
                  refine Th_n ?_
                  refine W_seq ?_
                  refine W_rg ?_
                  refine L_mv rfl ?_
                  have H_49 : Hp w0 [] w_36 [Ent.blk bk37 53 #[Value.slice a0 m0 c0, Value.int .i64 ((p : Nat) : Int), Value.int .i64 ((Pk.fail er x135 : Nat) : Int)], Ent.blk b34 59 #[v137, Value.int .i64 ((p : Nat) : Int), Value.int .i64 ((Pk.fail er x135 : Nat) : Int)], Ent.own v137 5 1 b.length (us .u8 b)] := (H_48.pull 2 rfl)
                  refine L_callv rfl rfl T_en27 (A1 e_3_7) (fDone (by omega) (by rw [← hbl]; first | exact hp | exact Pk.rnum_at hp | exact Pk.take_at hp | exact Pk.take_at (Pk.rnum_at hp) | exact Pk.rtxt_at hp) (Seen.old hs0) hbb H_49) ?_
                  rintro _ w_37 ⟨rfl, H_50⟩; refine ⟨_, rfl, ?_⟩
                  refine L_mv rfl ?_
                  refine L_y rfl (Y_ext rfl rfl) ?_
                  refine L_y rfl (Y_ext rfl rfl) ?_
                  refine L_as rfl ?_
                  refine L_as rfl ?_
                  refine L_nil ?_
                  refine Th_n ?_
                  refine W_seq ?_
                  refine W_seq ?_
                  refine W_quiet H_50 28 [Value.slice none 0 0, Value.string (bs []), Value.slice none 0 0, Value.string (bs []), Value.bool (!decide (([] : List Nat) = [])), Value.bool (!decide (([] : List Nat) = [])), Value.int .i64 (((Pk.rdone b p (Pk.fail er x135)).1 : Nat) : Int), Value.int .i64 (((Pk.rdone b p (Pk.fail er x135)).1 : Nat) : Int), Value.bool ((((Pk.rdone b p (Pk.fail er x135)).1 : Nat) : Int) != (((Pk.rdone b p (Pk.fail er x135)).1 : Nat) : Int)), Value.bool ((((Pk.rdone b p (Pk.fail er x135)).1 : Nat) : Int) != (((Pk.rdone b p (Pk.fail er x135)).1 : Nat) : Int)), Value.bool ((((Pk.rdone b p (Pk.fail er x135)).1 : Nat) : Int) != (((Pk.rdone b p (Pk.fail er x135)).1 : Nat) : Int)), Value.int .i64 (((Pk.rdone b p (Pk.fail er x135)).2 : Nat) : Int), Value.int .i64 (((Pk.rdone b p (Pk.fail er x135)).2 : Nat) : Int), Value.bool ((((Pk.rdone b p (Pk.fail er x135)).2 : Nat) : Int) != (((Pk.rdone b p (Pk.fail er x135)).2 : Nat) : Int)), Value.bool ((((Pk.rdone b p (Pk.fail er x135)).2 : Nat) : Int) != (((Pk.rdone b p (Pk.fail er x135)).2 : Nat) : Int)), Value.bool ((((Pk.rdone b p (Pk.fail er x135)).2 : Nat) : Int) != (((Pk.rdone b p (Pk.fail er x135)).2 : Nat) : Int)), Value.pointer (some ⟨b34, 0, none⟩), Value.int .i64 (((b.length : Nat) : Int) - ((p : Nat) : Int)), Value.pointer (some ⟨bk37, 0, none⟩), Value.pointer (some ⟨bk37, 0, none⟩), Value.pointer (some ⟨bk37, 0, none⟩), Value.slice a0 m0 c0, Value.int .i64 ((m0 : Nat) : Int), Value.pointer (some ⟨bk37, 0, none⟩), Value.pointer (some ⟨bk37, 0, none⟩), Value.pointer (some ⟨bk37, 1, none⟩), Value.int .i64 ((p : Nat) : Int), Value.int .i64 (((m0 : Nat) : Int) - ((p : Nat) : Int))] T_mixed (by kernel_rfl) ?_ ?_
                  ·
                    refine .plain rfl (Pl_y rfl (fun w hBw => rfl)) ?_
                    refine .plain rfl (Pl_y rfl (fun w hBw => Y_strL Try.underlying25 Try.underlying5 Try.underlying9 rfl (Sl.nil _ _))) ?_
                    refine .plain rfl (Pl_y rfl (fun w hBw => rfl)) ?_
                    refine .plain rfl (Pl_y rfl (fun w hBw => Y_strL Try.underlying25 Try.underlying5 Try.underlying9 rfl (Sl.nil _ _))) ?_
                    refine .plain rfl (Pl_y rfl (fun w hBw => Y_neT (l1 := []) (l2 := []) Try.underlying9 (by decide) (by decide) rfl rfl)) ?_
                    refine .plain rfl (Pl_y rfl (fun w hBw => rfl)) ?_
                    refine .plain rfl (Pl_y (wE rfl (congrArg Value.bool rfl)) (fun w hBw => rfl)) ?_
                    refine .plain rfl (Pl_y (wE rfl (congrArg Value.bool rfl)) (fun w hBw => rfl)) ?_
                    refine .plain rfl (Pl_y (wE rfl (congrArg Value.bool rfl)) (fun w hBw => Y_neq (k := .i64) (a := (((Pk.rdone b p (Pk.fail er x135)).1 : Nat) : Int)) (b := (((Pk.rdone b p (Pk.fail er x135)).1 : Nat) : Int)) rfl rfl)) ?_
                    refine .plain rfl (Pl_y rfl (fun w hBw => Y_pickF (congrArg Value.bool rfl))) ?_
                    refine .plain rfl (Pl_y rfl (fun w hBw => rfl)) ?_
                    refine .plain rfl (Pl_y (wE rfl (congrArg Value.bool (by simp [hx135]))) (fun w hBw => rfl)) ?_
                    refine .plain rfl (Pl_y (wE rfl (congrArg Value.bool (by simp [hx135]))) (fun w hBw => rfl)) ?_
                    refine .plain rfl (Pl_y (wE rfl (congrArg Value.bool (by simp [hx135]))) (fun w hBw => Y_neq (k := .i64) (a := (((Pk.rdone b p (Pk.fail er x135)).2 : Nat) : Int)) (b := (((Pk.rdone b p (Pk.fail er x135)).2 : Nat) : Int)) rfl rfl)) ?_
                    refine .plain rfl (Pl_y rfl (fun w hBw => Y_pickF (congrArg Value.bool (by simp [hx135])))) ?_
                    refine .plain rfl (Pl_y rfl (fun w hBw => rfl)) ?_
                    refine .plain rfl (Pl_y (wE rfl (congrArg Value.bool (by simp [hx135]))) (fun w hBw => congrArg (fun v => Result.ok (Next.value v) w) e_3_6)) ?_
                    refine .plain rfl (Pl_c (wE rfl (congrArg Value.bool (by simp [hx135]))) T_en21 (A1 rfl) (fun w hBw => dLeft2 (by omega) (by first | exact hp | exact Pk.rnum_at hp | exact Pk.take_at hp | exact Pk.take_at (Pk.rnum_at hp) | exact Pk.rtxt_at hp) ((hBw.pull 2 rfl).pull 2 rfl))) ?_
                    refine .plain rfl (Pl_y (wE rfl (congrArg Value.bool (by simp [hx135]))) (fun w hBw => congrArg (fun v => Result.ok (Next.value v) w) e_3_7)) ?_
                    refine .plain rfl (Pl_y (wE rfl (congrArg Value.bool (by simp [hx135]))) (fun w hBw => Y_nil rfl)) ?_
                    refine .plain rfl (Pl_y (wE rfl (congrArg Value.bool (by simp [hx135]))) (fun w hBw => Y_fld T_fld53_0 rfl rfl rfl)) ?_
                    refine .plain rfl (Pl_y (wE rfl (congrArg Value.bool (by simp [hx135]))) (fun w hBw => Y_ld T_scal25 hBw (i := 0) rfl rfl rfl)) ?_
                    refine .plain rfl (Pl_y (wE rfl (congrArg Value.bool (by simp [hx135]))) (fun w hBw => Y_lenS T_sl25 rfl)) ?_
                    refine .plain rfl (Pl_y (wE rfl (congrArg Value.bool (by simp [hx135]))) (fun w hBw => congrArg (fun v => Result.ok (Next.value v) w) e_3_7)) ?_
                    refine .plain rfl (Pl_y (wE rfl (congrArg Value.bool (by simp [hx135]))) (fun w hBw => Y_nil rfl)) ?_
                    refine .plain rfl (Pl_y (wE rfl (congrArg Value.bool (by simp [hx135]))) (fun w hBw => Y_fld T_fld53_1 rfl rfl rfl)) ?_
                    refine .plain rfl (Pl_y (wE rfl (congrArg Value.bool (by simp [hx135]))) (fun w hBw => Y_ld T_scal3 hBw (i := 0) rfl rfl rfl)) ?_
                    refine .plain rfl (Pl_y (wE rfl (congrArg Value.bool (by simp [hx135]))) (fun w hBw => Y_sub (k := .i64) (a := ((m0 : Nat) : Int)) (b := ((p : Nat) : Int)) (z := (((m0 : Nat) : Int) - ((p : Nat) : Int))) rfl rfl (wi (by omega)))) ?_
                    exact .nil _
                  ·
                    intro e_11 w_38 hAg H_51
                    have e_11_1 : e_11 1 = Value.slice a m c := (hAg 1 rfl).trans e_3_1
                    have e_11_6 : e_11 6 = Value.pointer (some ⟨b34, 0, none⟩) := (hAg 6 rfl).trans e_3_6
                    have e_11_7 : e_11 7 = Value.pointer (some ⟨bk37, 0, none⟩) := (hAg 7 rfl).trans e_3_7
                    have e_11_9 : e_11 9 = Value.int .i64 ((i : Nat) : Int) := (hAg 9 rfl).trans e_3_9
                    have e_11_10 : e_11 10 = Value.slice none 0 0 := (hAg 10 rfl).trans rfl
                    have e_11_172 : e_11 172 = Value.bool ((((Pk.rdone b p (Pk.fail er x135)).2 : Nat) : Int) != (((Pk.rdone b p (Pk.fail er x135)).2 : Nat) : Int)) := (hAg 172 rfl).trans rfl
                    have e_11_174 : e_11 174 = Value.int .i64 (((b.length : Nat) : Int) - ((p : Nat) : Int)) := (hAg 174 rfl).trans rfl
                    have e_11_184 : e_11 184 = Value.int .i64 (((m0 : Nat) : Int) - ((p : Nat) : Int)) := (hAg 184 rfl).trans rfl
                    refine G_y (wE rfl (e_11_172.trans (congrArg Value.bool (by simp [hx135])))) rfl (Y_neq (k := .i64) (a := (((b.length : Nat) : Int) - ((p : Nat) : Int))) (b := (((m0 : Nat) : Int) - ((p : Nat) : Int))) e_11_174 e_11_184) ?_
                    refine L_y rfl (Y_pickF (e_11_172.trans (congrArg Value.bool (by simp [hx135])))) ?_
                    refine L_nil ?_
                    refine Th_n ?_
                    refine W_false (congrArg Value.bool (by simp [hbl])) ?_
                    refine W_skip ?_
                    refine Th_n ?_
                    refine W_seq ?_
                    refine W_rg ?_
                    refine L_as rfl ?_
                    refine L_nil ?_
                    refine Th_n ?_
                    refine W_block ?_
                    refine W_loop (fun mu_ e w => mu_ = 0 ∧ e 1 = Value.slice a m c ∧ e 6 = Value.pointer (some ⟨b34, 0, none⟩) ∧ e 7 = Value.pointer (some ⟨bk37, 0, none⟩) ∧ e 9 = Value.int .i64 ((i : Nat) : Int) ∧ e 10 = Value.slice none 0 0 ∧ e 16 = Value.int .i64 ((0 : Nat) : Int) ∧ Hp w0 [] w [Ent.blk bk37 53 #[Value.slice a0 m0 c0, Value.int .i64 ((p : Nat) : Int), Value.int .i64 ((Pk.fail er x135 : Nat) : Int)], Ent.blk b34 59 #[v137, Value.int .i64 ((p : Nat) : Int), Value.int .i64 ((Pk.fail er x135 : Nat) : Int)], Ent.own v137 5 1 b.length (us .u8 b)]) _ ⟨rfl, e_11_1, e_11_6, e_11_7, e_11_9, e_11_10, rfl, H_51⟩ ?_
                    rintro mu_ e_12 w_39 ⟨rfl, e_12_1, e_12_6, e_12_7, e_12_9, e_12_10, e_12_16, H_52⟩
                    refine W_seq ?_
                    refine W_seq ?_
                    refine W_rg ?_
                    refine L_mv rfl ?_
                    refine L_mv rfl ?_
                    refine L_y rfl (Y_lenS T_sl25 e_12_10) ?_
                    refine L_y rfl (Y_lss (k := .i64) (a := ((0 : Nat) : Int)) (b := ((0 : Nat) : Int)) e_12_16 rfl) ?_
                    refine L_nil ?_
                    refine Th_n ?_
                    refine W_false (congrArg Value.bool (by decide : (decide (((0 : Nat) : Int) < ((0 : Nat) : Int))) = false)) ?_
                    refine W_exit ?_
                    refine Th_x ?_
                    refine Th_x ?_
                    refine InB_hit ?_
                    refine InB_n ?_
                    refine Th_n ?_
                    refine W_rg ?_
                    refine L_mv rfl ?_
                    refine L_y rfl (Y_add (k := .i64) (a := ((i : Nat) : Int)) (b := ((1 : Nat) : Int)) (z := ((i + 1 : Nat) : Int)) e_12_9 rfl (wi (by omega))) ?_
                    refine L_as rfl ?_
                    refine L_nil ?_
                    refine Th_n ⟨_, ?_, (i + 1), _, _, _, rfl, e_12_1, e_12_6, e_12_7, rfl, (((H_52.pull 0 rfl).pull 2 rfl).pull 2 rfl), (by first | exact hp | exact Pk.rnum_at hp | exact Pk.take_at hp | exact Pk.take_at (Pk.rnum_at hp) | exact Pk.rtxt_at hp), (by omega)⟩
                    omega
                ·
                  have hc_9' := ne_of_beq_false hc_9
                  refine W_skip ?_
                  refine InB_n ?_
                  refine Th_n ?_
                  refine W_seq ?_
                  refine W_rg ?_
                  refine L_mv rfl ?_
                  refine L_callv rfl rfl T_en17 (A1 e_3_6) (dDone (by omega) hbb (by first | exact hp | exact Pk.rnum_at hp | exact Pk.take_at hp | exact Pk.take_at (Pk.rnum_at hp) | exact Pk.rtxt_at hp) H_14) ?_
                  rintro _ w_40 ⟨rfl, H_53⟩; refine ⟨_, rfl, ?_⟩
                  refine L_mv rfl ?_
                  refine L_y rfl (Y_ext rfl rfl) ?_
                  refine L_y rfl (Y_ext rfl rfl) ?_
                  refine L_as rfl ?_
                  refine L_as rfl ?_
                  refine L_nil ?_
                  refine Th_n ?_
                  refine W_seq ?_
                  refine W_rg ?_
                  refine L_mv rfl ?_
                  have H_54 : Hp w0 [] w_40 [Ent.blk bk37 53 #[Value.slice a0 m0 c0, Value.int .i64 ((p : Nat) : Int), Value.int .i64 ((er : Nat) : Int)], Ent.blk b34 59 #[vr, Value.int .i64 ((p : Nat) : Int), Value.int .i64 ((er : Nat) : Int)], Ent.own vr 5 1 b.length (us .u8 b)] := (H_53.pull 2 rfl)
                  refine L_callv rfl rfl T_en27 (A1 e_3_7) (fDone (by omega) (by rw [← hbl]; first | exact hp | exact Pk.rnum_at hp | exact Pk.take_at hp | exact Pk.take_at (Pk.rnum_at hp) | exact Pk.rtxt_at hp) (Seen.old hs0) hbb H_54) ?_
                  rintro _ w_41 ⟨rfl, H_55⟩; refine ⟨_, rfl, ?_⟩
                  refine L_mv rfl ?_
                  refine L_y rfl (Y_ext rfl rfl) ?_
                  refine L_y rfl (Y_ext rfl rfl) ?_
                  refine L_as rfl ?_
                  refine L_as rfl ?_
                  refine L_nil ?_
                  refine Th_n ?_
                  refine W_seq ?_
                  refine W_seq ?_
                  refine W_quiet H_55 28 [Value.slice none 0 0, Value.string (bs []), Value.slice none 0 0, Value.string (bs []), Value.bool (!decide (([] : List Nat) = [])), Value.bool (!decide (([] : List Nat) = [])), Value.int .i64 (((Pk.rdone b p er).1 : Nat) : Int), Value.int .i64 (((Pk.rdone b p er).1 : Nat) : Int), Value.bool ((((Pk.rdone b p er).1 : Nat) : Int) != (((Pk.rdone b p er).1 : Nat) : Int)), Value.bool ((((Pk.rdone b p er).1 : Nat) : Int) != (((Pk.rdone b p er).1 : Nat) : Int)), Value.bool ((((Pk.rdone b p er).1 : Nat) : Int) != (((Pk.rdone b p er).1 : Nat) : Int)), Value.int .i64 (((Pk.rdone b p er).2 : Nat) : Int), Value.int .i64 (((Pk.rdone b p er).2 : Nat) : Int), Value.bool ((((Pk.rdone b p er).2 : Nat) : Int) != (((Pk.rdone b p er).2 : Nat) : Int)), Value.bool ((((Pk.rdone b p er).2 : Nat) : Int) != (((Pk.rdone b p er).2 : Nat) : Int)), Value.bool ((((Pk.rdone b p er).2 : Nat) : Int) != (((Pk.rdone b p er).2 : Nat) : Int)), Value.pointer (some ⟨b34, 0, none⟩), Value.int .i64 (((b.length : Nat) : Int) - ((p : Nat) : Int)), Value.pointer (some ⟨bk37, 0, none⟩), Value.pointer (some ⟨bk37, 0, none⟩), Value.pointer (some ⟨bk37, 0, none⟩), Value.slice a0 m0 c0, Value.int .i64 ((m0 : Nat) : Int), Value.pointer (some ⟨bk37, 0, none⟩), Value.pointer (some ⟨bk37, 0, none⟩), Value.pointer (some ⟨bk37, 1, none⟩), Value.int .i64 ((p : Nat) : Int), Value.int .i64 (((m0 : Nat) : Int) - ((p : Nat) : Int))] T_mixed (by kernel_rfl) ?_ ?_
                  ·
                    refine .plain rfl (Pl_y rfl (fun w hBw => rfl)) ?_
                    refine .plain rfl (Pl_y rfl (fun w hBw => Y_strL Try.underlying25 Try.underlying5 Try.underlying9 rfl (Sl.nil _ _))) ?_
                    refine .plain rfl (Pl_y rfl (fun w hBw => rfl)) ?_
                    refine .plain rfl (Pl_y rfl (fun w hBw => Y_strL Try.underlying25 Try.underlying5 Try.underlying9 rfl (Sl.nil _ _))) ?_
                    refine .plain rfl (Pl_y rfl (fun w hBw => Y_neT (l1 := []) (l2 := []) Try.underlying9 (by decide) (by decide) rfl rfl)) ?_
                    refine .plain rfl (Pl_y rfl (fun w hBw => rfl)) ?_
                    refine .plain rfl (Pl_y (wE rfl (congrArg Value.bool rfl)) (fun w hBw => rfl)) ?_
                    refine .plain rfl (Pl_y (wE rfl (congrArg Value.bool rfl)) (fun w hBw => rfl)) ?_
                    refine .plain rfl (Pl_y (wE rfl (congrArg Value.bool rfl)) (fun w hBw => Y_neq (k := .i64) (a := (((Pk.rdone b p er).1 : Nat) : Int)) (b := (((Pk.rdone b p er).1 : Nat) : Int)) rfl rfl)) ?_
                    refine .plain rfl (Pl_y rfl (fun w hBw => Y_pickF (congrArg Value.bool rfl))) ?_
                    refine .plain rfl (Pl_y rfl (fun w hBw => rfl)) ?_
                    refine .plain rfl (Pl_y (wE rfl (congrArg Value.bool (by simp []))) (fun w hBw => rfl)) ?_
                    refine .plain rfl (Pl_y (wE rfl (congrArg Value.bool (by simp []))) (fun w hBw => rfl)) ?_
                    refine .plain rfl (Pl_y (wE rfl (congrArg Value.bool (by simp []))) (fun w hBw => Y_neq (k := .i64) (a := (((Pk.rdone b p er).2 : Nat) : Int)) (b := (((Pk.rdone b p er).2 : Nat) : Int)) rfl rfl)) ?_
                    refine .plain rfl (Pl_y rfl (fun w hBw => Y_pickF (congrArg Value.bool (by simp [])))) ?_
                    refine .plain rfl (Pl_y rfl (fun w hBw => rfl)) ?_
                    refine .plain rfl (Pl_y (wE rfl (congrArg Value.bool (by simp []))) (fun w hBw => congrArg (fun v => Result.ok (Next.value v) w) e_3_6)) ?_
                    refine .plain rfl (Pl_c (wE rfl (congrArg Value.bool (by simp []))) T_en21 (A1 rfl) (fun w hBw => dLeft2 (by omega) (by first | exact hp | exact Pk.rnum_at hp | exact Pk.take_at hp | exact Pk.take_at (Pk.rnum_at hp) | exact Pk.rtxt_at hp) ((hBw.pull 2 rfl).pull 2 rfl))) ?_
                    refine .plain rfl (Pl_y (wE rfl (congrArg Value.bool (by simp []))) (fun w hBw => congrArg (fun v => Result.ok (Next.value v) w) e_3_7)) ?_
                    refine .plain rfl (Pl_y (wE rfl (congrArg Value.bool (by simp []))) (fun w hBw => Y_nil rfl)) ?_
                    refine .plain rfl (Pl_y (wE rfl (congrArg Value.bool (by simp []))) (fun w hBw => Y_fld T_fld53_0 rfl rfl rfl)) ?_
                    refine .plain rfl (Pl_y (wE rfl (congrArg Value.bool (by simp []))) (fun w hBw => Y_ld T_scal25 hBw (i := 0) rfl rfl rfl)) ?_
                    refine .plain rfl (Pl_y (wE rfl (congrArg Value.bool (by simp []))) (fun w hBw => Y_lenS T_sl25 rfl)) ?_
                    refine .plain rfl (Pl_y (wE rfl (congrArg Value.bool (by simp []))) (fun w hBw => congrArg (fun v => Result.ok (Next.value v) w) e_3_7)) ?_
                    refine .plain rfl (Pl_y (wE rfl (congrArg Value.bool (by simp []))) (fun w hBw => Y_nil rfl)) ?_
                    refine .plain rfl (Pl_y (wE rfl (congrArg Value.bool (by simp []))) (fun w hBw => Y_fld T_fld53_1 rfl rfl rfl)) ?_
                    refine .plain rfl (Pl_y (wE rfl (congrArg Value.bool (by simp []))) (fun w hBw => Y_ld T_scal3 hBw (i := 0) rfl rfl rfl)) ?_
                    refine .plain rfl (Pl_y (wE rfl (congrArg Value.bool (by simp []))) (fun w hBw => Y_sub (k := .i64) (a := ((m0 : Nat) : Int)) (b := ((p : Nat) : Int)) (z := (((m0 : Nat) : Int) - ((p : Nat) : Int))) rfl rfl (wi (by omega)))) ?_
                    exact .nil _
                  ·
                    intro e_13 w_42 hAg H_56
                    have e_13_1 : e_13 1 = Value.slice a m c := (hAg 1 rfl).trans e_3_1
                    have e_13_6 : e_13 6 = Value.pointer (some ⟨b34, 0, none⟩) := (hAg 6 rfl).trans e_3_6
                    have e_13_7 : e_13 7 = Value.pointer (some ⟨bk37, 0, none⟩) := (hAg 7 rfl).trans e_3_7
                    have e_13_9 : e_13 9 = Value.int .i64 ((i : Nat) : Int) := (hAg 9 rfl).trans e_3_9
                    have e_13_10 : e_13 10 = Value.slice none 0 0 := (hAg 10 rfl).trans rfl
                    have e_13_172 : e_13 172 = Value.bool ((((Pk.rdone b p er).2 : Nat) : Int) != (((Pk.rdone b p er).2 : Nat) : Int)) := (hAg 172 rfl).trans rfl
                    have e_13_174 : e_13 174 = Value.int .i64 (((b.length : Nat) : Int) - ((p : Nat) : Int)) := (hAg 174 rfl).trans rfl
                    have e_13_184 : e_13 184 = Value.int .i64 (((m0 : Nat) : Int) - ((p : Nat) : Int)) := (hAg 184 rfl).trans rfl
                    refine G_y (wE rfl (e_13_172.trans (congrArg Value.bool (by simp [])))) rfl (Y_neq (k := .i64) (a := (((b.length : Nat) : Int) - ((p : Nat) : Int))) (b := (((m0 : Nat) : Int) - ((p : Nat) : Int))) e_13_174 e_13_184) ?_
                    refine L_y rfl (Y_pickF (e_13_172.trans (congrArg Value.bool (by simp [])))) ?_
                    refine L_nil ?_
                    refine Th_n ?_
                    refine W_false (congrArg Value.bool (by simp [hbl])) ?_
                    refine W_skip ?_
                    refine Th_n ?_
                    refine W_seq ?_
                    refine W_rg ?_
                    refine L_as rfl ?_
                    refine L_nil ?_
                    refine Th_n ?_
                    refine W_block ?_
                    refine W_loop (fun mu_ e w => mu_ = 0 ∧ e 1 = Value.slice a m c ∧ e 6 = Value.pointer (some ⟨b34, 0, none⟩) ∧ e 7 = Value.pointer (some ⟨bk37, 0, none⟩) ∧ e 9 = Value.int .i64 ((i : Nat) : Int) ∧ e 10 = Value.slice none 0 0 ∧ e 16 = Value.int .i64 ((0 : Nat) : Int) ∧ Hp w0 [] w [Ent.blk bk37 53 #[Value.slice a0 m0 c0, Value.int .i64 ((p : Nat) : Int), Value.int .i64 ((er : Nat) : Int)], Ent.blk b34 59 #[vr, Value.int .i64 ((p : Nat) : Int), Value.int .i64 ((er : Nat) : Int)], Ent.own vr 5 1 b.length (us .u8 b)]) _ ⟨rfl, e_13_1, e_13_6, e_13_7, e_13_9, e_13_10, rfl, H_56⟩ ?_
                    rintro mu_ e_14 w_43 ⟨rfl, e_14_1, e_14_6, e_14_7, e_14_9, e_14_10, e_14_16, H_57⟩
                    refine W_seq ?_
                    refine W_seq ?_
                    refine W_rg ?_
                    refine L_mv rfl ?_
                    refine L_mv rfl ?_
                    refine L_y rfl (Y_lenS T_sl25 e_14_10) ?_
                    refine L_y rfl (Y_lss (k := .i64) (a := ((0 : Nat) : Int)) (b := ((0 : Nat) : Int)) e_14_16 rfl) ?_
                    refine L_nil ?_
                    refine Th_n ?_
                    refine W_false (congrArg Value.bool (by decide : (decide (((0 : Nat) : Int) < ((0 : Nat) : Int))) = false)) ?_
                    refine W_exit ?_
                    refine Th_x ?_
                    refine Th_x ?_
                    refine InB_hit ?_
                    refine InB_n ?_
                    refine Th_n ?_
                    refine W_rg ?_
                    refine L_mv rfl ?_
                    refine L_y rfl (Y_add (k := .i64) (a := ((i : Nat) : Int)) (b := ((1 : Nat) : Int)) (z := ((i + 1 : Nat) : Int)) e_14_9 rfl (wi (by omega))) ?_
                    refine L_as rfl ?_
                    refine L_nil ?_
                    refine Th_n ⟨_, ?_, (i + 1), _, _, _, rfl, e_14_1, e_14_6, e_14_7, rfl, (((H_57.pull 0 rfl).pull 2 rfl).pull 2 rfl), (by first | exact hp | exact Pk.rnum_at hp | exact Pk.take_at hp | exact Pk.take_at (Pk.rnum_at hp) | exact Pk.rtxt_at hp), (by omega)⟩
                    omega
        ·
          have hc_3' := of_decide_eq_false hc_3
          refine W_exit ?_
          refine Th_x ?_
          refine Th_x ?_
          refine InB_hit ?_
          refine Th_n ?_
          refine W_seq ?_
          refine W_rg ?_
          refine L_callv rfl rfl T_en8 (A0) (known_n _) ?_
          rintro _ w_44 ⟨rfl, hkp_4⟩; refine ⟨_, rfl, ?_⟩; have H_58 := H_14.keep hkp_4
          refine L_as rfl ?_
          refine L_nil ?_
          refine Th_n ?_
          refine W_ret ?_
          refine P_ret (vs := [Value.bool true]) (v := Value.bool true) rfl (.tmp rfl (Res.nil)) rfl ?_
          refine ⟨?_, H_58.nil_⟩
          rfl
end Go.Proofs.Ytidepfhfconkaaa
