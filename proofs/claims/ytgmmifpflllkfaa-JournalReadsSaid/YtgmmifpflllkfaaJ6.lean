/- Walks of layers 6, 17, 21, 22: law reads. Printed by journal.py. -/
import Derived.Test.YtgmmifpflllkfaaJ5
namespace Go.Proofs.Ytgmmifpflllkfaa
open Go.Ev
set_option maxRecDepth 100000
theorem T_en9 : enters Try.prog 9 = true := by kernel_rfl
theorem T_en11 : enters Try.prog 11 = true := by kernel_rfl
theorem T_en12 : enters Try.prog 12 = true := by kernel_rfl
theorem journalReads_n (a : Option Addr) (m c : Nat) (l : List Nat) (hlt : ∀ u ∈ l, u < 256) (w0 : World) (hs0 : Sl w0 .u8 a m c l) :
    Calls Try.prog 3 #[Value.slice a m c] w0 (fun r_ w' => r_ = .returned (.bool true) ∧ Keep w0 w') := by
  have hll := hs0.len
  refine F_in Try.func3 rfl Try.ntmps3 rfl ?_
  intro e he
  have p_0 : e 0 = Value.slice a m c := he 0 _ rfl
  have H := Hp.start w0 []
  refine W_seq ?_
  refine W_rg ?_
  refine L_as rfl ?_
  refine L_nil ?_
  refine Th_n ?_
  refine W_seq ?_
  refine W_seq ?_
  refine W_rg ?_
  refine L_mv rfl ?_
  refine L_y rfl (Y_lenS T_sl22 p_0) ?_
  refine L_y rfl (Y_gtr (k := .i64) (a := ((m : Nat) : Int)) (b := ((300000 : Nat) : Int)) rfl rfl) ?_
  refine L_nil ?_
  refine Th_n ?_
  refine W_cond (b := (decide (((300000 : Nat) : Int) < ((m : Nat) : Int)))) rfl (fun hc => ?_) (fun hc => ?_)
  ·
    have hc' := of_decide_eq_true hc
    refine W_seq ?_
    refine W_rg ?_
    refine L_callv rfl rfl T_en9 (A0) (known_n _) ?_
    rintro _ w_2 ⟨rfl, hkp⟩; refine ⟨_, rfl, ?_⟩; have H_2 := H.keep hkp
    refine L_as rfl ?_
    refine L_nil ?_
    refine Th_n ?_
    refine W_ret ?_
    refine Th_r ?_
    refine P_ret (vs := [Value.bool true]) (v := Value.bool true) rfl (.tmp rfl (Res.nil)) rfl ?_
    refine ⟨?_, H_2.nil_⟩
    rfl
  ·
    have hc' := of_decide_eq_false hc
    refine W_skip ?_
    refine Th_n ?_
    refine W_seq ?_
    refine W_rg ?_
    refine L_bsl (cs := ua .u8 []) rfl H (pv := []) T_sl22 T_zero5 rfl Bp0 (by kernel_rfl) ?_; intro bk15 w_3 H_3
    have H_4 : Hp w0 [] w_3 (Ent.own (Value.slice (some ⟨bk15, 0, none⟩) 0 0) 5 1 0 (us .u8 []) :: ([] : List Ent)) := H_3.say (i := 0) (x' := .own (Value.slice (some ⟨bk15, 0, none⟩) 0 0) 5 1 0 (us .u8 [])) rfl (own_of_blk (Nat.le_refl _) (by decide) rfl rfl) (fun _ h => h) rfl
    refine L_mv rfl ?_
    refine L_appL rfl H_4 (i := 0) rfl T_sl22 T_zero5 rfl T_szb5 rfl p_0 (hs0.hp H_4) (by omega) ?_; intro v17 w_4 Hx
    have H_5 : Hp w0 [] w_4 (Ent.own v17 5 1 m (us .u8 l) :: ([] : List Ent)) := by have h := Hx; simp only [Nat.zero_add] at h; exact h
    refine L_bsl (cs := ua .u8 [77]) rfl H_5 (pv := [(0, Value.int .u8 ((77 : Nat) : Int))]) T_sl22 T_zero5 rfl (Bpc rfl Bp0) (by kernel_rfl) ?_; intro bk18 w_5 H_6
    refine L_appS rfl H_6 (i := 1) rfl T_sl22 T_zero5 rfl T_szb5 rfl rfl (news_ua (H_6.get 0 rfl)) rfl (by omega) ?_; intro v19 w_6 Hx_2
    have H_7 : Hp w0 [] w_6 (Ent.blk bk18 5 (ua .u8 [77]) :: Ent.own v19 5 1 (m + 1) (us .u8 (l ++ [77])) :: ([] : List Ent)) := Hx_2
    refine L_mv rfl ?_
    refine L_y rfl (Y_lenS T_sl22 p_0) ?_
    obtain ⟨a_, c_, rfl⟩ := Sl.opn H_7 (i := 1) rfl
    refine L_y rfl (Y_cutHr (hi := m) T_sl22 (Sl.own H_7 (i := 1) rfl) rfl rfl (Nat.le_trans (by omega) (Sl.own H_7 (i := 1) rfl).cap)) ?_
    refine L_as rfl ?_
    refine L_nil ?_
    refine Th_n ?_
    refine W_seq ?_
    refine W_rg ?_
    refine L_mv rfl ?_
    refine L_callv rfl rfl T_en10 (A1 rfl) (jreadX (by omega) ((Seen.own (i := 1) rfl).map (fun _ h_ => h_.pre hll (by omega))) hlt H_7) ?_
    rintro _ w_7 ⟨a25, c25, K25, p25, rfl, f25_0, H_8⟩; refine ⟨_, rfl, ?_⟩
    have H_9 : Hp w0 [] w_7 (Ent.own (Value.slice a25 K25.length c25) 22 1 K25.length (rows K25) :: Ent.blk bk18 5 (ua .u8 [77]) :: Ent.own (Value.slice a_ (m + 1) c_) 5 1 (m + 1) (us .u8 (l ++ [77])) :: (nest 5 K25 ++ ([] : List Ent))) := Hp.chunk [Ent.own (Value.slice a25 K25.length c25) 22 1 K25.length (rows K25)] (nest 5 K25) [Ent.blk bk18 5 (ua .u8 [77]), Ent.own (Value.slice a_ (m + 1) c_) 5 1 (m + 1) (us .u8 (l ++ [77]))] ([] : List Ent) H_8
    have okK25 : Jn.ok (keys K25) := Jn.End.ok f25_0 (by omega) hlt
    have lenK25 := okK25.len; rw [keys_len] at lenK25
    refine L_mv rfl ?_
    refine L_y rfl (Y_ext rfl rfl) ?_
    refine L_y rfl (Y_ext rfl rfl) ?_
    refine L_as rfl ?_
    refine L_as rfl ?_
    refine L_nil ?_
    refine Th_n ?_
    refine W_seq ?_
    refine W_rg ?_
    refine L_mv rfl ?_
    refine L_callv rfl rfl T_en11 (A1 p_0) (rread (by omega) ((Seen.old (X := []) hs0).mono (fun _ h_ => .tail _ (.tail _ (.tail _ (List.mem_append_right _ (h_)))))) hlt H_9) ?_
    rintro _ w_8 ⟨a30, c30, K30, p30, rfl, f30_0, H_10⟩; refine ⟨_, rfl, ?_⟩
    have EK30 := f30_0.1; have SK30 := f30_0.2 [] (Seen.old hs0)
    have okK30 : Jn.ok (keys K30) := Jn.End.ok EK30 (by omega) hlt
    have lenK30 := okK30.len; rw [keys_len] at lenK30
    refine L_mv rfl ?_
    refine L_y rfl (Y_ext rfl rfl) ?_
    refine L_y rfl (Y_ext rfl rfl) ?_
    refine L_as rfl ?_
    refine L_as rfl ?_
    refine L_nil ?_
    refine Th_n ?_
    refine W_seq ?_
    refine W_rg ?_
    refine L_mv rfl ?_
    refine L_mv rfl ?_
    refine L_callv rfl rfl T_en12 (A2 rfl rfl) (sameAll_n _ (Ts.own H_10 (i := 1) rfl) (Ts.own H_10 (i := 0) rfl) (by omega) (fun x hx => Sl.nest H_10 hx (fun _ h_ => .tail _ (.tail _ (.tail _ (.tail _ (List.mem_append_left _ h_)))))) (fun x hx => (SK30 _ hx).hp H_10 (fun _ h_ => .tail _ (.tail _ (.tail _ (.tail _ (List.mem_append_right _ (h_))))))) (fun x hx => (okK25.lt _ (keys_mem hx)).1) (fun x hx => (okK30.lt _ (keys_mem hx)).1)) ?_
    rintro _ w_9 ⟨rfl, hkp_2⟩; refine ⟨_, rfl, ?_⟩; have H_11 := H_10.keep hkp_2
    refine L_mv rfl ?_
    refine G_mv (wE rfl (congrArg Value.bool ((by rw [(f25_0.same EK30).1]; simp) : (decide (keys K25 = keys K30)) = true))) rfl ?_
    refine G_mv (wE rfl (congrArg Value.bool ((by rw [(f25_0.same EK30).1]; simp) : (decide (keys K25 = keys K30)) = true))) rfl ?_
    refine G_y (wE rfl (congrArg Value.bool ((by rw [(f25_0.same EK30).1]; simp) : (decide (keys K25 = keys K30)) = true))) rfl (Y_eql (k := .i64) (a := ((p25 : Nat) : Int)) (b := ((p30 : Nat) : Int)) rfl rfl) ?_
    refine L_y rfl (Y_pickT (congrArg Value.bool ((by rw [(f25_0.same EK30).1]; simp) : (decide (keys K25 = keys K30)) = true))) ?_
    refine L_as rfl ?_
    refine L_nil ?_
    refine Th_n ?_
    refine W_seq ?_
    refine W_seq ?_
    refine W_rg ?_
    refine L_as rfl ?_
    refine L_nil ?_
    refine Th_n ?_
    refine W_block ?_
    refine W_loop (fun mu_ e w => ∃ i : Nat, ∃ Q : List Lt, mu_ = K25.length - i ∧ e 0 = Value.slice a m c ∧ e 3 = Value.slice a_ m c_ ∧ e 4 = Value.slice a25 K25.length c25 ∧ e 8 = Value.bool (((p25 : Nat) : Int) == ((p30 : Nat) : Int)) ∧ e 9 = Value.int .i64 ((i : Nat) : Int) ∧ Hp w0 [] w (Ent.own (Value.slice a25 K25.length c25) 22 1 K25.length (rows Q) :: Ent.own (Value.slice a_ (m + 1) c_) 5 1 (m + 1) (us .u8 (l ++ [77])) :: (nest 5 Q ++ ([] : List Ent))) ∧ Jn.Sp Q ∧ Q.length = K25.length ∧ i ≤ K25.length) _ ⟨0, K25, rfl, p_0, rfl, rfl, rfl, rfl, ((((H_11.erase 0).erase 1).pull 1 rfl).pull 1 rfl), okK25.sp, rfl, (Nat.zero_le _)⟩ ?_
    rintro mu_ e_2 w_10 ⟨i, Q, rfl, e_2_0, e_2_3, e_2_4, e_2_8, e_2_9, H_12, hS, hl, hi⟩
    refine W_seq ?_
    refine W_seq ?_
    refine W_rg ?_
    refine L_mv rfl ?_
    refine L_mv rfl ?_
    refine L_y rfl (Y_lenS T_sl24 e_2_4) ?_
    refine L_y rfl (Y_lss (k := .i64) (a := ((i : Nat) : Int)) (b := ((K25.length : Nat) : Int)) e_2_9 rfl) ?_
    refine L_nil ?_
    refine Th_n ?_
    refine W_cond (b := (decide (((i : Nat) : Int) < ((K25.length : Nat) : Int)))) rfl (fun hc_2 => ?_) (fun hc_2 => ?_)
    ·
      have hc_2' := of_decide_eq_true hc_2
      refine W_skip ?_
      refine Th_n ?_
      refine W_seq ?_
      refine W_block ?_
      refine W_seq ?_
      refine W_rg ?_
      refine L_as rfl ?_
      refine L_nil ?_
      refine Th_n ?_
      refine W_block ?_
      obtain ⟨el13, hel13⟩ := (Ts.own H_12 (i := 0) rfl).tab.at (j := i) (by omega)
      have mel13 := List.mem_of_getElem? hel13
      have oel13 := hS _ mel13
      have nel13 := oel13.2
      have H_13 : Hp w0 [] w_10 (Ent.own (Value.slice a25 K25.length c25) 22 1 K25.length (rows Q) :: Ent.own (Value.slice a_ (m + 1) c_) 5 1 (m + 1) (us .u8 (l ++ [77])) :: Ent.own (Value.slice el13.a el13.l.length el13.c) 5 1 el13.l.length (us .u8 el13.l) :: (nest 5 (Q.eraseIdx i) ++ ([] : List Ent))) := Hp.back [Ent.own (Value.slice a25 K25.length c25) 22 1 K25.length (rows Q), Ent.own (Value.slice a_ (m + 1) c_) 5 1 (m + 1) (us .u8 (l ++ [77]))] H_12 (nest_out hel13 _)
      refine W_loop (fun mu_ e w => ∃ k : Nat, ∃ y : List Nat, mu_ = el13.l.length - k ∧ e 0 = Value.slice a m c ∧ e 3 = Value.slice a_ m c_ ∧ e 4 = Value.slice a25 K25.length c25 ∧ e 8 = Value.bool (((p25 : Nat) : Int) == ((p30 : Nat) : Int)) ∧ e 9 = Value.int .i64 ((i : Nat) : Int) ∧ e 10 = Value.int .i64 ((k : Nat) : Int) ∧ Hp w0 [] w (Ent.own (Value.slice a25 K25.length c25) 22 1 K25.length (rows Q) :: Ent.own (Value.slice a_ (m + 1) c_) 5 1 (m + 1) (us .u8 (l ++ [77])) :: Ent.own (Value.slice el13.a el13.l.length el13.c) 5 1 el13.l.length (us .u8 y) :: (nest 5 (Q.eraseIdx i) ++ ([] : List Ent))) ∧ (∀ u ∈ y, u < 256) ∧ k ≤ el13.l.length) _ ⟨0, el13.l, rfl, e_2_0, e_2_3, e_2_4, e_2_8, e_2_9, rfl, H_13, oel13.1, (Nat.zero_le _)⟩ ?_
      rintro mu_ e_3 w_11 ⟨k, y, rfl, e_3_0, e_3_3, e_3_4, e_3_8, e_3_9, e_3_10, H_14, hy, hk⟩
      refine W_seq ?_
      refine W_seq ?_
      refine W_rg ?_
      refine L_mv rfl ?_
      refine L_mv rfl ?_
      refine L_mv rfl ?_
      refine L_y rfl (Y_idxT (j := i) T_sl24 (Ts.own H_14 (i := 0) rfl).tab hel13 e_3_4 e_3_9 rfl) ?_
      refine L_y rfl (Y_ldT (j := i) (off := 0) T_scal22 (Ts.own H_14 (i := 0) rfl).tab hel13 rfl rfl rfl) ?_
      refine L_y rfl (Y_lenS T_sl22 rfl) ?_
      refine L_y rfl (Y_lss (k := .i64) (a := ((k : Nat) : Int)) (b := ((el13.l.length : Nat) : Int)) e_3_10 rfl) ?_
      refine L_nil ?_
      refine Th_n ?_
      refine W_cond (b := (decide (((k : Nat) : Int) < ((el13.l.length : Nat) : Int)))) rfl (fun hc_3 => ?_) (fun hc_3 => ?_)
      ·
        have hc_3' := of_decide_eq_true hc_3
        refine W_skip ?_
        refine Th_n ?_
        refine W_seq ?_
        refine W_block ?_
        refine W_rg ?_
        refine L_mv rfl ?_
        refine L_mv rfl ?_
        refine L_y rfl (Y_idxT (j := i) T_sl24 (Ts.own H_14 (i := 0) rfl).tab hel13 e_3_4 e_3_9 rfl) ?_
        refine L_y rfl (Y_ldT (j := i) (off := 0) T_scal22 (Ts.own H_14 (i := 0) rfl).tab hel13 rfl rfl rfl) ?_
        refine L_mv rfl ?_
        refine L_y rfl (Y_idxL (j := k) T_sl22 (Sl.own H_14 (i := 2) rfl) rfl e_3_10 rfl (by omega)) ?_
        obtain ⟨x62, hx62⟩ : ∃ u, y[k]? = some u := ⟨_, List.getElem?_eq_getElem (by have := (⟨(Sl.own H_14 (i := 2) rfl).len, hy⟩ : Wd el13.l.length 256 y).1; omega)⟩
        have rx62 := (⟨(Sl.own H_14 (i := 2) rfl).len, hy⟩ : Wd el13.l.length 256 y).2 _ (List.mem_of_getElem? hx62)
        refine L_y rfl (Y_ldR T_scal5 (Sl.own H_14 (i := 2) rfl).rd rfl (hx62)) ?_
        refine L_yr (z := (x62 + 1) % 256) (m := 256) rfl (Yu_add (k := .u8) rfl x62 1 rfl rfl) (Nat.mod_lt _ (by decide)) ?_; intro x63 hx63 rx63
        refine L_y rfl (Y_idxL (j := k) T_sl22 (Sl.own H_14 (i := 2) rfl) rfl e_3_10 rfl (by omega)) ?_
        refine L_stR T_scal5 H_14 (i := 2) rfl rfl (by omega) rfl ?_; intro w_12 Hx_3
        have H_15 : Hp w0 [] w_12 (Ent.own (Value.slice a25 K25.length c25) 22 1 K25.length (rows Q) :: Ent.own (Value.slice a_ (m + 1) c_) 5 1 (m + 1) (us .u8 (l ++ [77])) :: Ent.own (Value.slice el13.a el13.l.length el13.c) 5 1 el13.l.length (us .u8 (y.set k x63)) :: (nest 5 (Q.eraseIdx i) ++ ([] : List Ent))) := Hx_3
        refine L_nil ?_
        refine InB_n ?_
        refine Th_n ?_
        refine W_rg ?_
        refine L_mv rfl ?_
        refine L_y rfl (Y_add (k := .i64) (a := ((k : Nat) : Int)) (b := ((1 : Nat) : Int)) (z := ((k + 1 : Nat) : Int)) e_3_10 rfl (wi (by omega))) ?_
        refine L_as rfl ?_
        refine L_nil ?_
        refine Th_n ⟨_, ?_, (k + 1), _, rfl, e_3_0, e_3_3, e_3_4, e_3_8, e_3_9, rfl, H_15, (set_lt hy rx63), (by omega)⟩
        omega
      ·
        have hc_3' := of_decide_eq_false hc_3
        refine W_exit ?_
        refine Th_x ?_
        refine Th_x ?_
        refine InB_hit ?_
        refine InB_n ?_
        refine Th_n ?_
        refine W_rg ?_
        refine L_mv rfl ?_
        refine L_y rfl (Y_add (k := .i64) (a := ((i : Nat) : Int)) (b := ((1 : Nat) : Int)) (z := ((i + 1 : Nat) : Int)) e_3_9 rfl (wi (by omega))) ?_
        refine L_as rfl ?_
        refine L_nil ?_
        have hyl := own_length (H_14.get 2 rfl)
        have H_16 : Hp w0 [] w_11 (Ent.own (Value.slice a25 K25.length c25) 22 1 K25.length (rows (Q.set i (⟨el13.a, el13.c, y⟩ : Lt))) :: Ent.own (Value.slice a_ (m + 1) c_) 5 1 (m + 1) (us .u8 (l ++ [77])) :: Ent.own (Value.slice el13.a el13.l.length el13.c) 5 1 el13.l.length (us .u8 y) :: (nest 5 (Q.eraseIdx i) ++ ([] : List Ent))) := H_14.asN (i := 0) rfl rfl (Jn.rows_same hel13 hyl) rfl
        have H_17 : Hp w0 [] w_11 (Ent.own (Value.slice a25 K25.length c25) 22 1 K25.length (rows (Q.set i (⟨el13.a, el13.c, y⟩ : Lt))) :: Ent.own (Value.slice a_ (m + 1) c_) 5 1 (m + 1) (us .u8 (l ++ [77])) :: (nest 5 (Q.set i (⟨el13.a, el13.c, y⟩ : Lt)) ++ ([] : List Ent))) := by have h := H_16; rw [← hyl] at h; exact Hp.back [Ent.own (Value.slice a25 K25.length c25) 22 1 K25.length (rows (Q.set i (⟨el13.a, el13.c, y⟩ : Lt))), Ent.own (Value.slice a_ (m + 1) c_) 5 1 (m + 1) (us .u8 (l ++ [77]))] h (nest_in (u := 5) (y := (⟨el13.a, el13.c, y⟩ : Lt)) hel13 _)
        refine Th_n ⟨_, ?_, (i + 1), _, rfl, e_3_0, e_3_3, e_3_4, e_3_8, rfl, H_17, (hS.set ⟨hy, by show y.length ≤ _; omega⟩), (by rw [List.length_set]; exact hl), (by omega)⟩
        omega
    ·
      have hc_2' := of_decide_eq_false hc_2
      refine W_exit ?_
      refine Th_x ?_
      refine Th_x ?_
      refine InB_hit ?_
      refine Th_n ?_
      refine W_seq ?_
      refine W_rg ?_
      refine L_mv rfl ?_
      refine L_mv rfl ?_
      refine G_mv (wE rfl (e_2_8.trans (congrArg Value.bool ((by rw [(f25_0.same EK30).2]; simp) : (((p25 : Nat) : Int) == ((p30 : Nat) : Int)) = true)))) rfl ?_
      refine G_y (wE rfl (e_2_8.trans (congrArg Value.bool ((by rw [(f25_0.same EK30).2]; simp) : (((p25 : Nat) : Int) == ((p30 : Nat) : Int)) = true)))) rfl (Y_strL Try.underlying22 Try.underlying5 Try.underlying9 e_2_3 ((Sl.own H_12 (i := 1) rfl).pre hll (by omega))) ?_
      refine G_mv (wE rfl (e_2_8.trans (congrArg Value.bool ((by rw [(f25_0.same EK30).2]; simp) : (((p25 : Nat) : Int) == ((p30 : Nat) : Int)) = true)))) rfl ?_
      refine G_y (wE rfl (e_2_8.trans (congrArg Value.bool ((by rw [(f25_0.same EK30).2]; simp) : (((p25 : Nat) : Int) == ((p30 : Nat) : Int)) = true)))) rfl (Y_strL Try.underlying22 Try.underlying5 Try.underlying9 e_2_0 (hs0.hp H_12)) ?_
      refine G_y (wE rfl (e_2_8.trans (congrArg Value.bool ((by rw [(f25_0.same EK30).2]; simp) : (((p25 : Nat) : Int) == ((p30 : Nat) : Int)) = true)))) rfl (Y_eqT (l1 := l) (l2 := l) Try.underlying9 hlt hlt rfl rfl) ?_
      refine L_y rfl (Y_pickT (e_2_8.trans (congrArg Value.bool ((by rw [(f25_0.same EK30).2]; simp) : (((p25 : Nat) : Int) == ((p30 : Nat) : Int)) = true)))) ?_
      refine L_mv rfl ?_
      refine G_mv (wE rfl (congrArg Value.bool ((by simp) : (decide (l = l)) = true))) rfl ?_
      refine G_mv (wE rfl (congrArg Value.bool ((by simp) : (decide (l = l)) = true))) rfl ?_
      refine G_y (wE rfl (congrArg Value.bool ((by simp) : (decide (l = l)) = true))) rfl (Y_lenS T_sl22 e_2_0) ?_
      refine G_y (wE rfl (congrArg Value.bool ((by simp) : (decide (l = l)) = true))) rfl (Y_add (k := .i64) (a := ((m : Nat) : Int)) (b := ((1 : Nat) : Int)) (z := ((m + 1 : Nat) : Int)) rfl rfl (wi (by omega))) ?_
      refine G_y (wE rfl (congrArg Value.bool ((by simp) : (decide (l = l)) = true))) rfl (Y_cutHr (hi := m + 1) T_sl22 ((Sl.own H_12 (i := 1) rfl).pre hll (by omega)) e_2_3 rfl (Sl.own H_12 (i := 1) rfl).cap) ?_
      refine G_mv (wE rfl (congrArg Value.bool ((by simp) : (decide (l = l)) = true))) rfl ?_
      refine G_y (wE rfl (congrArg Value.bool ((by simp) : (decide (l = l)) = true))) rfl (Y_lenS T_sl22 e_2_0) ?_
      refine G_y (wE rfl (congrArg Value.bool ((by simp) : (decide (l = l)) = true))) rfl (Y_idxL (j := m) T_sl22 (Sl.own H_12 (i := 1) rfl) rfl rfl rfl (by omega)) ?_
      refine G_y (wE rfl (congrArg Value.bool ((by simp) : (decide (l = l)) = true))) rfl (Y_ldR T_scal5 (Sl.own H_12 (i := 1) rfl).rd rfl (Jn.at77 hll)) ?_
      refine G_y (wE rfl (congrArg Value.bool ((by simp) : (decide (l = l)) = true))) rfl (Y_eql (k := .u8) (a := ((77 : Nat) : Int)) (b := ((77 : Nat) : Int)) rfl rfl) ?_
      refine L_y rfl (Y_pickT (congrArg Value.bool ((by simp) : (decide (l = l)) = true))) ?_
      refine L_mv rfl ?_
      refine L_callv (wE rfl (congrArg Value.bool (by decide : (((77 : Nat) : Int) == ((77 : Nat) : Int)) = true))) rfl T_en9 (A0) (known_n _) ?_
      rintro _ w_13 ⟨rfl, hkp_3⟩; refine ⟨_, rfl, ?_⟩; have H_18 := H_12.keep hkp_3
      refine L_y rfl (Y_pickT (congrArg Value.bool (by decide : (((77 : Nat) : Int) == ((77 : Nat) : Int)) = true))) ?_
      refine L_as rfl ?_
      refine L_nil ?_
      refine Th_n ?_
      refine W_ret ?_
      refine P_ret (vs := [Value.bool true]) (v := Value.bool true) rfl (.tmp rfl (Res.nil)) rfl ?_
      refine ⟨?_, H_18.nil_⟩
      rfl
end Go.Proofs.Ytgmmifpflllkfaa
