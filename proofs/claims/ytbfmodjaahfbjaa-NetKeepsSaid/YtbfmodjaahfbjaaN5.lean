/- Walks of layer 27 (net) and of its reference. Printed by net.py. -/
import Derived.Test.YtbfmodjaahfbjaaN4
namespace Go.Proofs.Ytbfmodjaahfbjaa
open Go.Ev
set_option maxRecDepth 100000
set_option linter.unusedVariables false
set_option linter.unusedSimpArgs false
theorem T_mixed : Try.prog.follows .mixedOrders = true := by kernel_rfl
theorem send0 (f t : Int) (a : Option Addr) (m c : Nat) (w0 : World) :
    Calls Try.prog 9 #[Value.pointer none, Value.agg #[Value.int .i64 (f), Value.int .i64 (t), Value.slice a m c]] w0 (fun r_ w' => r_ = .returned (.int .i64 ((1 : Nat) : Int)) ∧ Keep w0 w') := by
  refine F_in Try.func9 rfl Try.ntmps9 rfl ?_
  intro e he
  have p_0 : e 0 = Value.pointer none := he 0 _ rfl
  have p_1 : e 1 = Value.agg #[Value.int .i64 (f), Value.int .i64 (t), Value.slice a m c] := he 1 _ rfl
  have H := Hp.start w0 []
  refine W_seq ?_
  refine W_rg ?_
  refine L_box rfl H p_1 (cs := #[Value.int .i64 (f), Value.int .i64 (t), Value.slice a m c]) rfl ?_; intro bk3 w_2 H_2
  refine L_as rfl ?_
  refine L_nil ?_
  refine Th_n ?_
  refine W_seq ?_
  refine W_block ?_
  refine W_seq ?_
  refine W_rg ?_
  refine L_mv rfl ?_
  refine L_y rfl (Y_eqP Try.underlying24 p_0 rfl) ?_
  refine L_as rfl ?_
  refine L_nil ?_
  refine Th_n ?_
  refine W_true rfl ?_
  refine W_seq ?_
  refine W_rg ?_
  refine L_as rfl ?_
  refine L_nil ?_
  refine Th_n ?_
  refine W_ret ?_
  refine InB_r ?_
  refine Th_r ?_
  refine P_ret (vs := [Value.int .i64 ((1 : Nat) : Int)]) (v := Value.int .i64 ((1 : Nat) : Int)) rfl (.tmp rfl (Res.nil)) rfl ?_
  refine ⟨?_, H_2.nil_⟩
  rfl

theorem send_n {w0 w : World} {X : List Ent} {bw : Nat} {v : Value} {K : List Lt} {f t : Int} {a : Option Addr} {c : Nat} {l : List Nat} (hK : Nt.ok (keys K)) (hlt : ∀ u ∈ l, u < 256) (hs : Seen w0 (nest 5 K ++ X) .u8 a l.length c l) (H : Hp w0 [] w (Ent.blk bw 51 #[v] :: Ent.own v 31 3 K.length (rows K) :: (nest 5 K ++ X))) :
    Calls Try.prog 9 #[Value.pointer (some ⟨bw, 0, none⟩), Value.agg #[Value.int .i64 (f), Value.int .i64 (t), Value.slice a l.length c]] w (fun r_ w' => ∃ v' K', r_ = .returned (.int .i64 ((Nt.scode (keys K) l.length : Nat) : Int)) ∧ keys K' = Nt.send (keys K) (f, t, l) ∧ Hp w0 [] w' (Ent.blk bw 51 #[v'] :: Ent.own v' 31 3 K'.length (rows K') :: (nest 5 K' ++ X))) := by
  have hKl := hK.len
  rw [keys_len] at hKl
  refine F_in Try.func9 rfl Try.ntmps9 rfl ?_
  intro e he
  have p_0 : e 0 = Value.pointer (some ⟨bw, 0, none⟩) := he 0 _ rfl
  have p_1 : e 1 = Value.agg #[Value.int .i64 (f), Value.int .i64 (t), Value.slice a l.length c] := he 1 _ rfl
  refine W_seq ?_
  refine W_rg ?_
  refine L_box rfl H p_1 (cs := #[Value.int .i64 (f), Value.int .i64 (t), Value.slice a l.length c]) rfl ?_; intro bk3 w_2 H_2
  refine L_as rfl ?_
  refine L_nil ?_
  refine Th_n ?_
  refine W_seq ?_
  refine W_block ?_
  refine W_seq ?_
  refine W_rg ?_
  refine L_mv rfl ?_
  refine L_y rfl (Y_eqP Try.underlying24 p_0 rfl) ?_
  refine L_as rfl ?_
  refine L_nil ?_
  refine Th_n ?_
  refine W_false rfl ?_
  refine W_seq ?_
  refine W_rg ?_
  refine L_y rfl (Y_fld T_fld31_2 rfl rfl rfl) ?_
  refine L_y rfl (Y_ld T_scal29 H_2 (i := 0) rfl rfl rfl) ?_
  refine L_y rfl (Y_lenS T_sl29 rfl) ?_
  refine L_y rfl (Y_gtr (k := .i64) (a := ((l.length : Nat) : Int)) (b := ((60000 : Nat) : Int)) rfl rfl) ?_
  refine L_as rfl ?_
  refine L_nil ?_
  refine Th_n ?_
  refine W_cond (b := (decide (((60000 : Nat) : Int) < ((l.length : Nat) : Int)))) rfl (fun hc => ?_) (fun hc => ?_)
  ·
    have hc' := of_decide_eq_true hc
    refine W_seq ?_
    refine W_rg ?_
    refine L_as rfl ?_
    refine L_nil ?_
    refine Th_n ?_
    refine W_ret ?_
    refine InB_r ?_
    refine Th_r ?_
    refine P_ret (vs := [Value.int .i64 ((3 : Nat) : Int)]) (v := Value.int .i64 ((3 : Nat) : Int)) rfl (.tmp rfl (Res.nil)) rfl ?_
    have hkl := keys_len K
    have H_3 : Hp w0 [] w_2 (Ent.blk bw 51 #[v] :: Ent.own v 31 3 K.length (rows K) :: (nest 5 K ++ X)) := H_2.erase 0
    have hc : Nt.scode (keys K) l.length = 3 := by unfold Nt.scode; (repeat (first | rw [if_pos (by omega)] | rw [if_neg (by omega)]))
    refine ⟨v, K, by rw [hc], ?_, H_3⟩
    first | exact (Nt.send_long (by omega)).symm | exact (Nt.send_full (by omega) (by omega)).symm
  ·
    have hc' := of_decide_eq_false hc
    refine W_seq ?_
    refine W_rg ?_
    refine L_mv rfl ?_
    refine L_y rfl (Y_nil p_0) ?_
    refine L_y rfl (Y_fld T_fld51_0 rfl rfl rfl) ?_
    refine L_y rfl (Y_ld T_scal35 H_2 (i := 1) rfl rfl rfl) ?_
    refine L_y rfl (Y_lenO T_sl35 H_2 (i := 2) rfl rfl) ?_
    refine L_y rfl (Y_geq (k := .i64) (a := ((K.length : Nat) : Int)) (b := ((200 : Nat) : Int)) rfl rfl) ?_
    refine L_as rfl ?_
    refine L_nil ?_
    refine Th_n ?_
    refine W_cond (b := (decide (((200 : Nat) : Int) ≤ ((K.length : Nat) : Int)))) rfl (fun hc_2 => ?_) (fun hc_2 => ?_)
    ·
      have hc_2' := of_decide_eq_true hc_2
      refine W_seq ?_
      refine W_rg ?_
      refine L_as rfl ?_
      refine L_nil ?_
      refine Th_n ?_
      refine W_ret ?_
      refine InB_r ?_
      refine Th_r ?_
      refine P_ret (vs := [Value.int .i64 ((9 : Nat) : Int)]) (v := Value.int .i64 ((9 : Nat) : Int)) rfl (.tmp rfl (Res.nil)) rfl ?_
      have hkl := keys_len K
      have H_4 : Hp w0 [] w_2 (Ent.blk bw 51 #[v] :: Ent.own v 31 3 K.length (rows K) :: (nest 5 K ++ X)) := H_2.erase 0
      have hc : Nt.scode (keys K) l.length = 9 := by unfold Nt.scode; (repeat (first | rw [if_pos (by omega)] | rw [if_neg (by omega)]))
      refine ⟨v, K, by rw [hc], ?_, H_4⟩
      first | exact (Nt.send_long (by omega)).symm | exact (Nt.send_full (by omega) (by omega)).symm
    ·
      have hc_2' := of_decide_eq_false hc_2
      refine W_skip ?_
      refine InB_n ?_
      refine Th_n ?_
      refine W_seq ?_
      refine W_anyL 9 [6, 7, 8] [26, 27, 28] [Value.pointer (some ⟨bw, 0, none⟩), Value.pointer (some ⟨bw, 0, none⟩), Value.pointer (some ⟨bw, 0, none⟩), Value.pointer (some ⟨bw, 0, none⟩), v, Value.agg #[Value.int .i64 (f), Value.int .i64 (t), Value.slice a l.length c], undef, undef, undef] (fun w => w.heap[bk3]? = some (.cells #[Value.int .i64 (f), Value.int .i64 (t), Value.slice a l.length c] 31 (0, 0)) ∧ w.heap[bw]? = some (.cells #[v] 51 (0, 0))) [fun vs w => Hp w0 [] w (Ent.blk bk3 31 #[Value.int .i64 (f), Value.int .i64 (t), Value.slice a l.length c] :: Ent.blk bw 51 #[v] :: Ent.own v 31 3 K.length (rows K) :: (nest 5 K ++ X)), fun vs w => ∃ a26_, ∃ c26_, vs[0]? = some (Value.agg #[Value.int .i64 (f), Value.int .i64 (t), Value.slice a26_ l.length c26_]) ∧ Hp w0 [] w (Ent.own (Value.slice a26_ l.length c26_) 5 1 l.length (us .u8 l) :: Ent.blk bk3 31 #[Value.int .i64 (f), Value.int .i64 (t), Value.slice a l.length c] :: Ent.blk bw 51 #[v] :: Ent.own v 31 3 K.length (rows K) :: (nest 5 K ++ X)), fun _ _ => False, fun vs w => ∃ a26_, ∃ c26_, ∃ bk27_, vs[0]? = some (Value.agg #[Value.int .i64 (f), Value.int .i64 (t), Value.slice a26_ l.length c26_]) ∧ vs[1]? = some (Value.slice (some ⟨bk27_, 0, none⟩) 1 1) ∧ Hp w0 [] w (Ent.own (Value.slice a26_ l.length c26_) 5 1 l.length (us .u8 l) :: Ent.blk bk27_ 31 #[Value.int .i64 (f), Value.int .i64 (t), Value.slice a26_ l.length c26_] :: Ent.blk bk3 31 #[Value.int .i64 (f), Value.int .i64 (t), Value.slice a l.length c] :: Ent.blk bw 51 #[v] :: Ent.own v 31 3 K.length (rows K) :: (nest 5 K ++ X)), fun _ _ => False, fun _ _ => False, fun _ _ => False, fun vs w => ∃ a26_, ∃ c26_, ∃ bk27_, ∃ v28_, vs[0]? = some (Value.agg #[Value.int .i64 (f), Value.int .i64 (t), Value.slice a26_ l.length c26_]) ∧ vs[1]? = some (Value.slice (some ⟨bk27_, 0, none⟩) 1 1) ∧ vs[2]? = some (v28_) ∧ Hp w0 [] w (Ent.own (Value.slice a26_ l.length c26_) 5 1 l.length (us .u8 l) :: Ent.blk bk27_ 31 #[Value.int .i64 (f), Value.int .i64 (t), Value.slice a26_ l.length c26_] :: Ent.blk bk3 31 #[Value.int .i64 (f), Value.int .i64 (t), Value.slice a l.length c] :: Ent.blk bw 51 #[v] :: Ent.own v28_ 31 3 (K.length + 1) (rows (K ++ [(⟨f, t, a26_, c26_, l⟩ : Lt)])) :: (nest 5 K ++ X))] T_mixed (by kernel_rfl) ⟨fun _ _ H => ⟨H.get 0 rfl, H.get 1 rfl⟩, fun _ _ h => by obtain ⟨_, _, _, H⟩ := h; exact ⟨H.get 1 rfl, H.get 2 rfl⟩, fun _ _ h => h.elim, fun _ _ h => by obtain ⟨_, _, _, _, _, H⟩ := h; exact ⟨H.get 2 rfl, H.get 3 rfl⟩, fun _ _ h => h.elim, fun _ _ h => h.elim, fun _ _ h => h.elim, fun _ _ h => by obtain ⟨_, _, _, _, _, _, _, H⟩ := h; exact ⟨H.get 2 rfl, H.get 3 rfl⟩, trivial⟩ ⟨fun _ _ _ hkp H => H.keep hkp, fun _ _ _ hkp h => by obtain ⟨q0, q1, q2, H⟩ := h; exact ⟨q0, q1, q2, H.keep hkp⟩, fun _ _ _ _ h => h.elim, fun _ _ _ hkp h => by obtain ⟨q0, q1, q2, q3, q4, H⟩ := h; exact ⟨q0, q1, q2, q3, q4, H.keep hkp⟩, fun _ _ _ _ h => h.elim, fun _ _ _ _ h => h.elim, fun _ _ _ _ h => h.elim, fun _ _ _ hkp h => by obtain ⟨q0, q1, q2, q3, q4, q5, q6, H⟩ := h; exact ⟨q0, q1, q2, q3, q4, q5, q6, H.keep hkp⟩, trivial⟩ H_2 ?_ ?_
      ·
        refine .plain rfl (Pl_y rfl (fun w hBw => congrArg (fun v => Result.ok (Next.value v) w) p_0)) ?_
        refine .plain rfl (Pl_y rfl (fun w hBw => congrArg (fun v => Result.ok (Next.value v) w) p_0)) ?_
        refine .plain rfl (Pl_y rfl (fun w hBw => Y_nil rfl)) ?_
        refine .plain rfl (Pl_y rfl (fun w hBw => Y_fld T_fld51_0 rfl rfl rfl)) ?_
        refine .plain rfl (Pl_y rfl (fun w hBw => Y_ldb T_scal35 hBw.2 rfl rfl)) ?_
        refine .plain rfl (Pl_y rfl (fun w hBw => Y_ldrb T_row31 hBw.1 rfl rfl)) ?_
        refine .special 0 rfl (Special.of ⟨⟨⟨⟨⟨⟨⟨⟨trivial, fun _ _ _ e' w' hAg hYs => by
            have H : Hp w0 [] w' (Ent.blk bk3 31 #[Value.int .i64 (f), Value.int .i64 (t), Value.slice a l.length c] :: Ent.blk bw 51 #[v] :: Ent.own v 31 3 K.length (rows K) :: (nest 5 K ++ X)) := hYs
            exact ⟨rfl, Dn_callv T_en21 (A1 ((hAg 25 rfl).trans rfl)) ((own_n (by omega) (hs.mono (fun _ h_ => .tail _ (.tail _ (.tail _ (h_))))) hlt H).mono (fun r_ w2 h => by obtain ⟨a26_, c26_, rfl, Hn⟩ := h; exact ⟨_, rfl, ⟨a26_, c26_, rfl, ((((Hn.pull 3 rfl).pull 3 rfl).pull 3 rfl).pull 3 rfl)⟩⟩))⟩⟩, fun h => absurd h (by decide)⟩, fun _ _ h => absurd (by decide) (h 1 7 rfl (by decide))⟩, fun h => absurd h (by decide)⟩, fun _ _ h => absurd (by decide) (h 2 8 rfl (by decide))⟩, fun h => absurd h (by decide)⟩, fun _ _ h => absurd (by decide) (h 1 7 rfl (by decide))⟩, fun h => absurd h (by decide)⟩) ?_
        refine .special 1 rfl (Special.of ⟨⟨⟨⟨⟨⟨⟨⟨trivial, fun _ h => absurd (h 0 6 rfl (by decide)) (by decide)⟩, fun _ _ _ e' w' hAg hYs => by
            obtain ⟨a26_, c26_, q0, H⟩ := hYs
            exact ⟨rfl, Dn_bsl (cs := #[Value.int .i64 (f), Value.int .i64 (t), Value.slice a26_ l.length c26_]) H (pv := [(0, Value.agg #[Value.int .i64 (f), Value.int .i64 (t), Value.slice a26_ l.length c26_])]) T_sl35 T_zero31 rfl (Bpc (Option.some.inj q0) Bp0) (by kernel_rfl) (fun b w2 Hn => ⟨a26_, c26_, _, q0, rfl, Hn.swap⟩)⟩⟩, fun h => absurd h (by decide)⟩, fun h => absurd h (by decide)⟩, fun _ h => absurd (h 0 6 rfl (by decide)) (by decide)⟩, fun _ _ h => absurd (by decide) (h 2 8 rfl (by decide))⟩, fun h => absurd h (by decide)⟩, fun h => absurd h (by decide)⟩) ?_
        refine .special 2 rfl (Special.of ⟨⟨⟨⟨⟨⟨⟨⟨trivial, fun _ h => absurd (h 0 6 rfl (by decide)) (by decide)⟩, fun _ h => absurd (h 1 7 rfl (by decide)) (by decide)⟩, fun _ h => absurd (h 0 6 rfl (by decide)) (by decide)⟩, fun _ _ _ e' w' hAg hYs => by
            obtain ⟨a26_, c26_, bk27_, q0, q1, H⟩ := hYs
            exact ⟨rfl, Dn_appT H (i := 4) rfl T_sl35 T_zero31 rfl T_szb31 ((hAg 24 rfl).trans rfl) (Option.some.inj q1) (Ts.blk (x0 := (⟨f, t, a26_, c26_, l⟩ : Lt)) H (i := 1) rfl) (by omega) (fun v2 w2 Hn => ⟨a26_, c26_, bk27_, _, q0, q1, rfl, Hn⟩)⟩⟩, fun h => absurd h (by decide)⟩, fun h => absurd h (by decide)⟩, fun h => absurd h (by decide)⟩, fun h => absurd h (by decide)⟩) ?_
        exact .nil _
      ·
        intro e_2 w_3 hAg hYs
        obtain ⟨a26_, c26_, bk27_, v28_, q0, q1, q2, H_5⟩ := hYs
        have e_2_26 : e_2 26 = Value.agg #[Value.int .i64 (f), Value.int .i64 (t), Value.slice a26_ l.length c26_] := Option.some.inj q0
        have e_2_27 : e_2 27 = Value.slice (some ⟨bk27_, 0, none⟩) 1 1 := Option.some.inj q1
        have e_2_28 : e_2 28 = v28_ := Option.some.inj q2
        have e_2_20 : e_2 20 = Value.pointer (some ⟨bw, 0, none⟩) := (hAg 20 rfl).trans rfl
        refine L_y rfl (Y_nil e_2_20) ?_
        refine L_y rfl (Y_fld T_fld51_0 rfl rfl rfl) ?_
        refine L_st (v := v28_) T_scal35 H_5 (i := 3) rfl rfl e_2_28 (own_one H_5 (i := 4) rfl) (Nat.le_of_ble_eq_true rfl) (l' := (Ent.own (Value.slice a26_ l.length c26_) 5 1 l.length (us .u8 l) :: Ent.blk bk27_ 31 #[Value.int .i64 (f), Value.int .i64 (t), Value.slice a26_ l.length c26_] :: Ent.blk bk3 31 #[Value.int .i64 (f), Value.int .i64 (t), Value.slice a l.length c] :: Ent.blk bw 51 #[v28_] :: Ent.own v28_ 31 3 (K.length + 1) (rows (K ++ [(⟨f, t, a26_, c26_, l⟩ : Lt)])) :: (nest 5 K ++ X))) rfl ?_; intro w_4 H_6
        refine L_nil ?_
        refine Th_n ?_
        refine W_seq ?_
        refine W_rg ?_
        refine L_as rfl ?_
        refine L_nil ?_
        refine Th_n ?_
        refine W_ret ?_
        refine P_ret (vs := [Value.int .i64 ((0 : Nat) : Int)]) (v := Value.int .i64 ((0 : Nat) : Int)) rfl (.tmp rfl (Res.nil)) rfl ?_
        have hkl := keys_len K
        have H_7 : Hp w0 [] w_4 (Ent.own (Value.slice a26_ l.length c26_) 5 1 l.length (us .u8 l) :: Ent.blk bk27_ 31 #[Value.int .i64 (f), Value.int .i64 (t), Value.slice a26_ l.length c26_] :: Ent.blk bk3 31 #[Value.int .i64 (f), Value.int .i64 (t), Value.slice a l.length c] :: Ent.blk bw 51 #[v28_] :: Ent.own v28_ 31 3 ((K ++ [(⟨f, t, a26_, c26_, l⟩ : Lt)]).length) (rows (K ++ [(⟨f, t, a26_, c26_, l⟩ : Lt)])) :: (nest 5 K ++ X)) := H_6.asN (i := 4) rfl (by simp) rfl rfl
        have H_8 : Hp w0 [] w_4 (Ent.own (Value.slice a26_ l.length c26_) 5 1 l.length (us .u8 l) :: Ent.blk bk27_ 31 #[Value.int .i64 (f), Value.int .i64 (t), Value.slice a26_ l.length c26_] :: Ent.blk bw 51 #[v28_] :: Ent.own v28_ 31 3 ((K ++ [(⟨f, t, a26_, c26_, l⟩ : Lt)]).length) (rows (K ++ [(⟨f, t, a26_, c26_, l⟩ : Lt)])) :: (nest 5 K ++ X)) := H_7.erase 2
        have H_9 : Hp w0 [] w_4 (Ent.own (Value.slice a26_ l.length c26_) 5 1 l.length (us .u8 l) :: Ent.blk bw 51 #[v28_] :: Ent.own v28_ 31 3 ((K ++ [(⟨f, t, a26_, c26_, l⟩ : Lt)]).length) (rows (K ++ [(⟨f, t, a26_, c26_, l⟩ : Lt)])) :: (nest 5 K ++ X)) := H_8.erase 1
        have H_10 : Hp w0 [] w_4 (Ent.blk bw 51 #[v28_] :: Ent.own v28_ 31 3 ((K ++ [(⟨f, t, a26_, c26_, l⟩ : Lt)]).length) (rows (K ++ [(⟨f, t, a26_, c26_, l⟩ : Lt)])) :: Ent.own (Value.slice a26_ l.length c26_) 5 1 l.length (us .u8 l) :: (nest 5 K ++ X)) := (((H_9.pull 0 rfl).pull 2 rfl).pull 2 rfl)
        have hc : Nt.scode (keys K) l.length = 0 := by unfold Nt.scode; rw [if_neg (by omega), if_neg (by omega)]
        have hF := Hp.tuck (x := (⟨f, t, a26_, c26_, l⟩ : Lt)) [Ent.blk bw 51 #[v28_], Ent.own v28_ 31 3 ((K ++ [(⟨f, t, a26_, c26_, l⟩ : Lt)]).length) (rows (K ++ [(⟨f, t, a26_, c26_, l⟩ : Lt)]))] H_10 (rfl) rfl
        refine ⟨v28_, K ++ [(⟨f, t, a26_, c26_, l⟩ : Lt)], by rw [hc], ?_, hF⟩
        rw [keys_snoc, Nt.send_in (by omega) (by omega)]; rfl
end Go.Proofs.Ytbfmodjaahfbjaa
