/- Walks of layer 27 (net) and of its reference. Printed by net.py. -/
import Derived.Test.YtbfmodjaahfbjaaN15
namespace Go.Proofs.Ytbfmodjaahfbjaa
open Go.Ev
set_option maxRecDepth 100000
set_option linter.unusedVariables false
set_option linter.unusedSimpArgs false
theorem rsend_n {w0 w : World} {X : List Ent} {bw : Nat} {v : Value} {K : List Lt} {f t : Int} {a : Option Addr} {c : Nat} {l : List Nat} (hK : Nt.ok (keys K)) (hlt : ∀ u ∈ l, u < 256) (hs : Seen w0 (nest 5 K ++ X) .u8 a l.length c l) (H : Hp w0 [] w (Ent.blk bw 47 #[v] :: Ent.own v 31 3 K.length (rows K) :: (nest 5 K ++ X))) :
    Calls Try.prog 15 #[Value.pointer (some ⟨bw, 0, none⟩), Value.agg #[Value.int .i64 (f), Value.int .i64 (t), Value.slice a l.length c]] w (fun r_ w' => ∃ v' K', r_ = .returned (.int .i64 ((Nt.scode (keys K) l.length : Nat) : Int)) ∧ keys K' = Nt.send (keys K) (f, t, l) ∧ Hp w0 [] w' (Ent.blk bw 47 #[v'] :: Ent.own v' 31 3 K'.length (rows K') :: (nest 5 K' ++ X))) := by
  have hKl := hK.len
  rw [keys_len] at hKl
  obtain ⟨ra, rc, rfl⟩ := Ts.opn H (i := 1) rfl
  refine F_in Try.func15 rfl Try.ntmps15 rfl ?_
  intro e he
  have p_0 : e 0 = Value.pointer (some ⟨bw, 0, none⟩) := he 0 _ rfl
  have p_1 : e 1 = Value.agg #[Value.int .i64 (f), Value.int .i64 (t), Value.slice a l.length c] := he 1 _ rfl
  refine W_seq ?_
  refine W_rg ?_
  refine L_box rfl H p_1 (cs := #[Value.int .i64 (f), Value.int .i64 (t), Value.slice a l.length c]) rfl ?_; intro bk3 w_2 H_2
  refine L_as rfl ?_
  refine L_nil ?_
  refine Th_n ?_
  refine W_seq ?_
  refine W_block ?_
  refine W_seq ?_
  refine W_rg ?_
  refine L_y rfl (Y_fld T_fld31_2 rfl rfl rfl) ?_
  refine L_y rfl (Y_ld T_scal29 H_2 (i := 0) rfl rfl rfl) ?_
  refine L_y rfl (Y_lenS T_sl29 rfl) ?_
  refine L_y rfl (Y_gtr (k := .i64) (a := ((l.length : Nat) : Int)) (b := ((60000 : Nat) : Int)) rfl rfl) ?_
  refine L_as rfl ?_
  refine L_nil ?_
  refine Th_n ?_
  refine W_cond (b := (decide (((60000 : Nat) : Int) < ((l.length : Nat) : Int)))) rfl (fun hc => ?_) (fun hc => ?_)
  ·
    have hc' := of_decide_eq_true hc
    refine W_seq ?_
    refine W_rg ?_
    refine L_as rfl ?_
    refine L_nil ?_
    refine Th_n ?_
    refine W_ret ?_
    refine InB_r ?_
    refine Th_r ?_
    refine P_ret (vs := [Value.int .i64 ((3 : Nat) : Int)]) (v := Value.int .i64 ((3 : Nat) : Int)) rfl (.tmp rfl (Res.nil)) rfl ?_
    have hkl := keys_len K
    have H_3 : Hp w0 [] w_2 (Ent.blk bw 47 #[Value.slice ra K.length rc] :: Ent.own (Value.slice ra K.length rc) 31 3 K.length (rows K) :: (nest 5 K ++ X)) := H_2.erase 0
    have hc : Nt.scode (keys K) l.length = 3 := by unfold Nt.scode; (repeat (first | rw [if_pos (by omega)] | rw [if_neg (by omega)]))
    refine ⟨_, K, by rw [hc], ?_, H_3⟩
    first | exact (Nt.send_long (by omega)).symm | exact (Nt.send_full (by omega) (by omega)).symm
  ·
    have hc' := of_decide_eq_false hc
    refine W_seq ?_
    refine W_rg ?_
    refine L_mv rfl ?_
    refine L_y rfl (Y_nil p_0) ?_
    refine L_y rfl (Y_fld T_fld47_0 rfl rfl rfl) ?_
    refine L_y rfl (Y_ld T_scal35 H_2 (i := 1) rfl rfl rfl) ?_
    refine L_y rfl (Y_lenS T_sl35 rfl) ?_
    refine L_y rfl (Y_geq (k := .i64) (a := ((K.length : Nat) : Int)) (b := ((200 : Nat) : Int)) rfl rfl) ?_
    refine L_as rfl ?_
    refine L_nil ?_
    refine Th_n ?_
    refine W_cond (b := (decide (((200 : Nat) : Int) ≤ ((K.length : Nat) : Int)))) rfl (fun hc_2 => ?_) (fun hc_2 => ?_)
    ·
      have hc_2' := of_decide_eq_true hc_2
      refine W_seq ?_
      refine W_rg ?_
      refine L_as rfl ?_
      refine L_nil ?_
      refine Th_n ?_
      refine W_ret ?_
      refine InB_r ?_
      refine Th_r ?_
      refine P_ret (vs := [Value.int .i64 ((9 : Nat) : Int)]) (v := Value.int .i64 ((9 : Nat) : Int)) rfl (.tmp rfl (Res.nil)) rfl ?_
      have hkl := keys_len K
      have H_4 : Hp w0 [] w_2 (Ent.blk bw 47 #[Value.slice ra K.length rc] :: Ent.own (Value.slice ra K.length rc) 31 3 K.length (rows K) :: (nest 5 K ++ X)) := H_2.erase 0
      have hc : Nt.scode (keys K) l.length = 9 := by unfold Nt.scode; (repeat (first | rw [if_pos (by omega)] | rw [if_neg (by omega)]))
      refine ⟨_, K, by rw [hc], ?_, H_4⟩
      first | exact (Nt.send_long (by omega)).symm | exact (Nt.send_full (by omega) (by omega)).symm
    ·
      have hc_2' := of_decide_eq_false hc_2
      refine W_skip ?_
      refine InB_n ?_
      refine Th_n ?_
      refine W_seq ?_
      refine W_rg ?_
      refine L_bsl (cs := ua .u8 []) rfl H_2 (pv := []) T_sl29 T_zero5 rfl Bp0 (by kernel_rfl) ?_; intro bk17 w_3 H_5
      have H_6 : Hp w0 [] w_3 (Ent.own (Value.slice (some ⟨bk17, 0, none⟩) 0 0) 5 1 0 (us .u8 []) :: Ent.blk bk3 31 #[Value.int .i64 (f), Value.int .i64 (t), Value.slice a l.length c] :: Ent.blk bw 47 #[Value.slice ra K.length rc] :: Ent.own (Value.slice ra K.length rc) 31 3 K.length (rows K) :: (nest 5 K ++ X)) := H_5.say (i := 0) (x' := .own (Value.slice (some ⟨bk17, 0, none⟩) 0 0) 5 1 0 (us .u8 [])) rfl (own_of_blk (Nat.le_refl _) (by decide) rfl rfl) (fun _ h => h) rfl
      refine L_y rfl (Y_fld T_fld31_2 rfl rfl rfl) ?_
      refine L_y rfl (Y_ld T_scal29 H_6 (i := 1) rfl rfl rfl) ?_
      refine L_appL rfl H_6 (i := 0) rfl T_sl29 T_zero5 rfl T_szb5 rfl rfl (hs.hp H_6 (fun _ h_ => .tail _ (.tail _ (.tail _ (.tail _ (h_)))))) (by omega) ?_; intro v20 w_4 Hx
      have H_7 : Hp w0 [] w_4 (Ent.own v20 5 1 l.length (us .u8 l) :: Ent.blk bk3 31 #[Value.int .i64 (f), Value.int .i64 (t), Value.slice a l.length c] :: Ent.blk bw 47 #[Value.slice ra K.length rc] :: Ent.own (Value.slice ra K.length rc) 31 3 K.length (rows K) :: (nest 5 K ++ X)) := by have h := Hx; simp only [Nat.zero_add] at h; exact h
      refine L_y rfl (Y_fld T_fld31_2 rfl rfl rfl) ?_
      obtain ⟨a_, c_, rfl⟩ := Sl.opn H_7 (i := 0) rfl
      refine L_st (v := Value.slice a_ l.length c_) T_scal29 H_7 (i := 1) rfl rfl rfl rfl (Nat.le_of_ble_eq_true rfl) (l' := (Ent.own (Value.slice a_ l.length c_) 5 1 l.length (us .u8 l) :: Ent.blk bk3 31 #[Value.int .i64 (f), Value.int .i64 (t), Value.slice a_ l.length c_] :: Ent.blk bw 47 #[Value.slice ra K.length rc] :: Ent.own (Value.slice ra K.length rc) 31 3 K.length (rows K) :: (nest 5 K ++ X))) rfl ?_; intro w_5 H_8
      refine L_nil ?_
      refine Th_n ?_
      refine W_seq ?_
      refine W_anyL 10 [1, 6, 8, 9] [23, 28, 30, 31] [Value.pointer (some ⟨bw, 0, none⟩), undef, Value.pointer (some ⟨bw, 0, none⟩), Value.pointer (some ⟨bw, 0, none⟩), Value.pointer (some ⟨bw, 0, none⟩), Value.slice ra K.length rc, undef, Value.agg #[Value.int .i64 (f), Value.int .i64 (t), Value.slice a_ l.length c_], undef, undef] (fun w => w.heap[bk3]? = some (.cells #[Value.int .i64 (f), Value.int .i64 (t), Value.slice a_ l.length c_] 31 (0, 0)) ∧ w.heap[bw]? = some (.cells #[Value.slice ra K.length rc] 47 (0, 0))) [fun vs w => Hp w0 [] w (Ent.own (Value.slice a_ l.length c_) 5 1 l.length (us .u8 l) :: Ent.blk bk3 31 #[Value.int .i64 (f), Value.int .i64 (t), Value.slice a_ l.length c_] :: Ent.blk bw 47 #[Value.slice ra K.length rc] :: Ent.own (Value.slice ra K.length rc) 31 3 K.length (rows K) :: (nest 5 K ++ X)), fun vs w => ∃ bk23_, vs[0]? = some (Value.slice (some ⟨bk23_, 0, none⟩) 0 0) ∧ Hp w0 [] w (Ent.own (Value.slice (some ⟨bk23_, 0, none⟩) 0 0) 31 3 0 (rows []) :: Ent.own (Value.slice a_ l.length c_) 5 1 l.length (us .u8 l) :: Ent.blk bk3 31 #[Value.int .i64 (f), Value.int .i64 (t), Value.slice a_ l.length c_] :: Ent.blk bw 47 #[Value.slice ra K.length rc] :: Ent.own (Value.slice ra K.length rc) 31 3 K.length (rows K) :: (nest 5 K ++ X)), fun _ _ => False, fun vs w => ∃ bk23_, ∃ v28_, vs[0]? = some (Value.slice (some ⟨bk23_, 0, none⟩) 0 0) ∧ vs[1]? = some (v28_) ∧ Hp w0 [] w (Ent.own v28_ 31 3 (0 + K.length) (rows K) :: Ent.own (Value.slice a_ l.length c_) 5 1 l.length (us .u8 l) :: Ent.blk bk3 31 #[Value.int .i64 (f), Value.int .i64 (t), Value.slice a_ l.length c_] :: Ent.blk bw 47 #[Value.slice ra K.length rc] :: Ent.own (Value.slice ra K.length rc) 31 3 K.length (rows K) :: (nest 5 K ++ X)), fun vs w => ∃ bk30_, vs[2]? = some (Value.slice (some ⟨bk30_, 0, none⟩) 1 1) ∧ Hp w0 [] w (Ent.blk bk30_ 31 #[Value.int .i64 (f), Value.int .i64 (t), Value.slice a_ l.length c_] :: Ent.own (Value.slice a_ l.length c_) 5 1 l.length (us .u8 l) :: Ent.blk bk3 31 #[Value.int .i64 (f), Value.int .i64 (t), Value.slice a_ l.length c_] :: Ent.blk bw 47 #[Value.slice ra K.length rc] :: Ent.own (Value.slice ra K.length rc) 31 3 K.length (rows K) :: (nest 5 K ++ X)), fun vs w => ∃ bk23_, ∃ bk30_, vs[0]? = some (Value.slice (some ⟨bk23_, 0, none⟩) 0 0) ∧ vs[2]? = some (Value.slice (some ⟨bk30_, 0, none⟩) 1 1) ∧ Hp w0 [] w (Ent.own (Value.slice (some ⟨bk23_, 0, none⟩) 0 0) 31 3 0 (rows []) :: Ent.blk bk30_ 31 #[Value.int .i64 (f), Value.int .i64 (t), Value.slice a_ l.length c_] :: Ent.own (Value.slice a_ l.length c_) 5 1 l.length (us .u8 l) :: Ent.blk bk3 31 #[Value.int .i64 (f), Value.int .i64 (t), Value.slice a_ l.length c_] :: Ent.blk bw 47 #[Value.slice ra K.length rc] :: Ent.own (Value.slice ra K.length rc) 31 3 K.length (rows K) :: (nest 5 K ++ X)), fun _ _ => False, fun vs w => ∃ bk23_, ∃ v28_, ∃ bk30_, vs[0]? = some (Value.slice (some ⟨bk23_, 0, none⟩) 0 0) ∧ vs[1]? = some (v28_) ∧ vs[2]? = some (Value.slice (some ⟨bk30_, 0, none⟩) 1 1) ∧ Hp w0 [] w (Ent.own v28_ 31 3 (0 + K.length) (rows K) :: Ent.blk bk30_ 31 #[Value.int .i64 (f), Value.int .i64 (t), Value.slice a_ l.length c_] :: Ent.own (Value.slice a_ l.length c_) 5 1 l.length (us .u8 l) :: Ent.blk bk3 31 #[Value.int .i64 (f), Value.int .i64 (t), Value.slice a_ l.length c_] :: Ent.blk bw 47 #[Value.slice ra K.length rc] :: Ent.own (Value.slice ra K.length rc) 31 3 K.length (rows K) :: (nest 5 K ++ X)), fun _ _ => False, fun _ _ => False, fun _ _ => False, fun _ _ => False, fun _ _ => False, fun _ _ => False, fun _ _ => False, fun vs w => ∃ bk23_, ∃ v28_, ∃ bk30_, ∃ v31_, vs[0]? = some (Value.slice (some ⟨bk23_, 0, none⟩) 0 0) ∧ vs[1]? = some (v28_) ∧ vs[2]? = some (Value.slice (some ⟨bk30_, 0, none⟩) 1 1) ∧ vs[3]? = some (v31_) ∧ Hp w0 [] w (Ent.own v31_ 31 3 ((0 + K.length) + 1) (rows (K ++ [(⟨f, t, a_, c_, l⟩ : Lt)])) :: Ent.blk bk30_ 31 #[Value.int .i64 (f), Value.int .i64 (t), Value.slice a_ l.length c_] :: Ent.own (Value.slice a_ l.length c_) 5 1 l.length (us .u8 l) :: Ent.blk bk3 31 #[Value.int .i64 (f), Value.int .i64 (t), Value.slice a_ l.length c_] :: Ent.blk bw 47 #[Value.slice ra K.length rc] :: Ent.own (Value.slice ra K.length rc) 31 3 K.length (rows K) :: (nest 5 K ++ X))] T_mixed (by kernel_rfl) ⟨fun _ _ H => ⟨H.get 1 rfl, H.get 2 rfl⟩, fun _ _ h => by obtain ⟨_, _, H⟩ := h; exact ⟨H.get 2 rfl, H.get 3 rfl⟩, fun _ _ h => h.elim, fun _ _ h => by obtain ⟨_, _, _, _, H⟩ := h; exact ⟨H.get 2 rfl, H.get 3 rfl⟩, fun _ _ h => by obtain ⟨_, _, H⟩ := h; exact ⟨H.get 2 rfl, H.get 3 rfl⟩, fun _ _ h => by obtain ⟨_, _, _, _, H⟩ := h; exact ⟨H.get 3 rfl, H.get 4 rfl⟩, fun _ _ h => h.elim, fun _ _ h => by obtain ⟨_, _, _, _, _, _, H⟩ := h; exact ⟨H.get 3 rfl, H.get 4 rfl⟩, fun _ _ h => h.elim, fun _ _ h => h.elim, fun _ _ h => h.elim, fun _ _ h => h.elim, fun _ _ h => h.elim, fun _ _ h => h.elim, fun _ _ h => h.elim, fun _ _ h => by obtain ⟨_, _, _, _, _, _, _, _, H⟩ := h; exact ⟨H.get 3 rfl, H.get 4 rfl⟩, trivial⟩ ⟨fun _ _ _ hkp H => H.keep hkp, fun _ _ _ hkp h => by obtain ⟨q0, q1, H⟩ := h; exact ⟨q0, q1, H.keep hkp⟩, fun _ _ _ _ h => h.elim, fun _ _ _ hkp h => by obtain ⟨q0, q1, q2, q3, H⟩ := h; exact ⟨q0, q1, q2, q3, H.keep hkp⟩, fun _ _ _ hkp h => by obtain ⟨q0, q1, H⟩ := h; exact ⟨q0, q1, H.keep hkp⟩, fun _ _ _ hkp h => by obtain ⟨q0, q1, q2, q3, H⟩ := h; exact ⟨q0, q1, q2, q3, H.keep hkp⟩, fun _ _ _ _ h => h.elim, fun _ _ _ hkp h => by obtain ⟨q0, q1, q2, q3, q4, q5, H⟩ := h; exact ⟨q0, q1, q2, q3, q4, q5, H.keep hkp⟩, fun _ _ _ _ h => h.elim, fun _ _ _ _ h => h.elim, fun _ _ _ _ h => h.elim, fun _ _ _ _ h => h.elim, fun _ _ _ _ h => h.elim, fun _ _ _ _ h => h.elim, fun _ _ _ _ h => h.elim, fun _ _ _ hkp h => by obtain ⟨q0, q1, q2, q3, q4, q5, q6, q7, H⟩ := h; exact ⟨q0, q1, q2, q3, q4, q5, q6, q7, H.keep hkp⟩, trivial⟩ H_8 ?_ ?_
      ·
        refine .plain rfl (Pl_y rfl (fun w hBw => congrArg (fun v => Result.ok (Next.value v) w) p_0)) ?_
        refine .special 0 rfl (Special.of ⟨⟨⟨⟨⟨⟨⟨⟨⟨⟨⟨⟨⟨⟨⟨⟨trivial, fun _ _ _ e' w' hAg hYs => by
            have H : Hp w0 [] w' (Ent.own (Value.slice a_ l.length c_) 5 1 l.length (us .u8 l) :: Ent.blk bk3 31 #[Value.int .i64 (f), Value.int .i64 (t), Value.slice a_ l.length c_] :: Ent.blk bw 47 #[Value.slice ra K.length rc] :: Ent.own (Value.slice ra K.length rc) 31 3 K.length (rows K) :: (nest 5 K ++ X)) := hYs
            exact ⟨rfl, Dn_bsl (cs := #[]) H (pv := []) T_sl35 T_zero31 rfl Bp0 (by kernel_rfl) (fun b w2 Hn => ⟨_, rfl, (Hn.say (i := 0) (x' := Ent.own (Value.slice (some ⟨b, 0, none⟩) 0 0) 31 3 0 (rows [])) rfl (own_of_blk (Nat.le_refl _) (by decide) rfl rfl) (fun _ h => h) rfl)⟩)⟩⟩, fun h => absurd h (by decide)⟩, fun _ _ h => absurd (by decide) (h 1 6 rfl (by decide))⟩, fun h => absurd h (by decide)⟩, fun _ _ _ e' w' hAg hYs => by
            obtain ⟨bk30_, q2, H⟩ := hYs
            exact ⟨rfl, Dn_bsl (cs := #[]) H (pv := []) T_sl35 T_zero31 rfl Bp0 (by kernel_rfl) (fun b w2 Hn => ⟨_, bk30_, rfl, q2, (Hn.say (i := 0) (x' := Ent.own (Value.slice (some ⟨b, 0, none⟩) 0 0) 31 3 0 (rows [])) rfl (own_of_blk (Nat.le_refl _) (by decide) rfl rfl) (fun _ h => h) rfl)⟩)⟩⟩, fun h => absurd h (by decide)⟩, fun _ _ h => absurd (by decide) (h 1 6 rfl (by decide))⟩, fun h => absurd h (by decide)⟩, fun _ _ _ _ _ _ h => h.elim⟩, fun h => absurd h (by decide)⟩, fun _ _ h => absurd (by decide) (h 1 6 rfl (by decide))⟩, fun h => absurd h (by decide)⟩, fun _ _ _ _ _ _ h => h.elim⟩, fun h => absurd h (by decide)⟩, fun _ _ h => absurd (by decide) (h 1 6 rfl (by decide))⟩, fun h => absurd h (by decide)⟩) ?_
        refine .plain rfl (Pl_y rfl (fun w hBw => congrArg (fun v => Result.ok (Next.value v) w) p_0)) ?_
        refine .plain rfl (Pl_y rfl (fun w hBw => Y_nil rfl)) ?_
        refine .plain rfl (Pl_y rfl (fun w hBw => Y_fld T_fld47_0 rfl rfl rfl)) ?_
        refine .plain rfl (Pl_y rfl (fun w hBw => Y_ldb T_scal35 hBw.2 rfl rfl)) ?_
        refine .special 1 rfl (Special.of ⟨⟨⟨⟨⟨⟨⟨⟨⟨⟨⟨⟨⟨⟨⟨⟨trivial, fun _ h => absurd (h 0 1 rfl (by decide)) (by decide)⟩, fun _ _ _ e' w' hAg hYs => by
            obtain ⟨bk23_, q0, H⟩ := hYs
            exact ⟨rfl, Dn_appT H (i := 0) rfl T_sl35 T_zero31 rfl T_szb31 (Option.some.inj q0) ((hAg 27 rfl).trans rfl) (Ts.own H (i := 4) rfl) (by omega) (fun v2 w2 Hn => ⟨bk23_, _, q0, rfl, Hn⟩)⟩⟩, fun h => absurd h (by decide)⟩, fun h => absurd h (by decide)⟩, fun _ h => absurd (h 0 1 rfl (by decide)) (by decide)⟩, fun _ _ _ e' w' hAg hYs => by
            obtain ⟨bk23_, bk30_, q0, q2, H⟩ := hYs
            exact ⟨rfl, Dn_appT H (i := 0) rfl T_sl35 T_zero31 rfl T_szb31 (Option.some.inj q0) ((hAg 27 rfl).trans rfl) (Ts.own H (i := 5) rfl) (by omega) (fun v2 w2 Hn => ⟨bk23_, _, bk30_, q0, rfl, q2, Hn⟩)⟩⟩, fun h => absurd h (by decide)⟩, fun h => absurd h (by decide)⟩, fun _ h => absurd (h 0 1 rfl (by decide)) (by decide)⟩, fun _ _ h => absurd (by decide) (h 3 9 rfl (by decide))⟩, fun h => absurd h (by decide)⟩, fun h => absurd h (by decide)⟩, fun _ h => absurd (h 0 1 rfl (by decide)) (by decide)⟩, fun _ _ h => absurd (by decide) (h 3 9 rfl (by decide))⟩, fun h => absurd h (by decide)⟩, fun h => absurd h (by decide)⟩) ?_
        refine .plain rfl (Pl_y rfl (fun w hBw => Y_ldrb T_row31 hBw.1 rfl rfl)) ?_
        refine .special 2 rfl (Special.of ⟨⟨⟨⟨⟨⟨⟨⟨⟨⟨⟨⟨⟨⟨⟨⟨trivial, fun _ _ _ e' w' hAg hYs => by
            have H : Hp w0 [] w' (Ent.own (Value.slice a_ l.length c_) 5 1 l.length (us .u8 l) :: Ent.blk bk3 31 #[Value.int .i64 (f), Value.int .i64 (t), Value.slice a_ l.length c_] :: Ent.blk bw 47 #[Value.slice ra K.length rc] :: Ent.own (Value.slice ra K.length rc) 31 3 K.length (rows K) :: (nest 5 K ++ X)) := hYs
            exact ⟨rfl, Dn_bsl (cs := #[Value.int .i64 (f), Value.int .i64 (t), Value.slice a_ l.length c_]) H (pv := [(0, Value.agg #[Value.int .i64 (f), Value.int .i64 (t), Value.slice a_ l.length c_])]) T_sl35 T_zero31 rfl (Bpc ((hAg 29 rfl).trans rfl) Bp0) (by kernel_rfl) (fun b w2 Hn => ⟨_, rfl, Hn⟩)⟩⟩, fun _ _ _ e' w' hAg hYs => by
            obtain ⟨bk23_, q0, H⟩ := hYs
            exact ⟨rfl, Dn_bsl (cs := #[Value.int .i64 (f), Value.int .i64 (t), Value.slice a_ l.length c_]) H (pv := [(0, Value.agg #[Value.int .i64 (f), Value.int .i64 (t), Value.slice a_ l.length c_])]) T_sl35 T_zero31 rfl (Bpc ((hAg 29 rfl).trans rfl) Bp0) (by kernel_rfl) (fun b w2 Hn => ⟨bk23_, _, q0, rfl, Hn.swap⟩)⟩⟩, fun _ _ _ _ _ _ h => h.elim⟩, fun _ _ _ e' w' hAg hYs => by
            obtain ⟨bk23_, v28_, q0, q1, H⟩ := hYs
            exact ⟨rfl, Dn_bsl (cs := #[Value.int .i64 (f), Value.int .i64 (t), Value.slice a_ l.length c_]) H (pv := [(0, Value.agg #[Value.int .i64 (f), Value.int .i64 (t), Value.slice a_ l.length c_])]) T_sl35 T_zero31 rfl (Bpc ((hAg 29 rfl).trans rfl) Bp0) (by kernel_rfl) (fun b w2 Hn => ⟨bk23_, v28_, _, q0, q1, rfl, Hn.swap⟩)⟩⟩, fun h => absurd h (by decide)⟩, fun h => absurd h (by decide)⟩, fun h => absurd h (by decide)⟩, fun h => absurd h (by decide)⟩, fun _ _ h => absurd (by decide) (h 3 9 rfl (by decide))⟩, fun _ _ h => absurd (by decide) (h 3 9 rfl (by decide))⟩, fun _ _ h => absurd (by decide) (h 3 9 rfl (by decide))⟩, fun _ _ h => absurd (by decide) (h 3 9 rfl (by decide))⟩, fun h => absurd h (by decide)⟩, fun h => absurd h (by decide)⟩, fun h => absurd h (by decide)⟩, fun h => absurd h (by decide)⟩) ?_
        refine .special 3 rfl (Special.of ⟨⟨⟨⟨⟨⟨⟨⟨⟨⟨⟨⟨⟨⟨⟨⟨trivial, fun _ h => absurd (h 2 8 rfl (by decide)) (by decide)⟩, fun _ h => absurd (h 2 8 rfl (by decide)) (by decide)⟩, fun _ h => absurd (h 2 8 rfl (by decide)) (by decide)⟩, fun _ h => absurd (h 2 8 rfl (by decide)) (by decide)⟩, fun _ h => absurd (h 1 6 rfl (by decide)) (by decide)⟩, fun _ h => absurd (h 1 6 rfl (by decide)) (by decide)⟩, fun _ _ _ _ _ _ h => h.elim⟩, fun _ _ _ e' w' hAg hYs => by
            obtain ⟨bk23_, v28_, bk30_, q0, q1, q2, H⟩ := hYs
            exact ⟨rfl, Dn_appT H (i := 0) rfl T_sl35 T_zero31 rfl T_szb31 (Option.some.inj q1) (Option.some.inj q2) (Ts.blk (x0 := (⟨f, t, a_, c_, l⟩ : Lt)) H (i := 1) rfl) (by omega) (fun v2 w2 Hn => ⟨bk23_, v28_, bk30_, _, q0, q1, q2, rfl, Hn⟩)⟩⟩, fun h => absurd h (by decide)⟩, fun h => absurd h (by decide)⟩, fun h => absurd h (by decide)⟩, fun h => absurd h (by decide)⟩, fun h => absurd h (by decide)⟩, fun h => absurd h (by decide)⟩, fun h => absurd h (by decide)⟩, fun h => absurd h (by decide)⟩) ?_
        exact .nil _
      ·
        intro e_2 w_6 hAg hYs
        obtain ⟨bk23_, v28_, bk30_, v31_, q0, q1, q2, q3, H_9⟩ := hYs
        have e_2_23 : e_2 23 = Value.slice (some ⟨bk23_, 0, none⟩) 0 0 := Option.some.inj q0
        have e_2_28 : e_2 28 = v28_ := Option.some.inj q1
        have e_2_30 : e_2 30 = Value.slice (some ⟨bk30_, 0, none⟩) 1 1 := Option.some.inj q2
        have e_2_31 : e_2 31 = v31_ := Option.some.inj q3
        have e_2_22 : e_2 22 = Value.pointer (some ⟨bw, 0, none⟩) := (hAg 22 rfl).trans rfl
        refine L_y rfl (Y_nil e_2_22) ?_
        refine L_y rfl (Y_fld T_fld47_0 rfl rfl rfl) ?_
        obtain ⟨a__2, c__2, rfl⟩ := Ts.opn H_9 (i := 0) rfl
        refine L_st (v := Value.slice a__2 ((0 + K.length) + 1) c__2) T_scal35 H_9 (i := 4) rfl rfl e_2_31 rfl (Nat.le_of_ble_eq_true rfl) (l' := (Ent.own (Value.slice a__2 ((0 + K.length) + 1) c__2) 31 3 ((0 + K.length) + 1) (rows (K ++ [(⟨f, t, a_, c_, l⟩ : Lt)])) :: Ent.blk bk30_ 31 #[Value.int .i64 (f), Value.int .i64 (t), Value.slice a_ l.length c_] :: Ent.own (Value.slice a_ l.length c_) 5 1 l.length (us .u8 l) :: Ent.blk bk3 31 #[Value.int .i64 (f), Value.int .i64 (t), Value.slice a_ l.length c_] :: Ent.blk bw 47 #[Value.slice a__2 ((0 + K.length) + 1) c__2] :: Ent.own (Value.slice ra K.length rc) 31 3 K.length (rows K) :: (nest 5 K ++ X))) rfl ?_; intro w_7 H_10
        refine L_nil ?_
        refine Th_n ?_
        refine W_seq ?_
        refine W_rg ?_
        refine L_as rfl ?_
        refine L_nil ?_
        refine Th_n ?_
        refine W_ret ?_
        refine P_ret (vs := [Value.int .i64 ((0 : Nat) : Int)]) (v := Value.int .i64 ((0 : Nat) : Int)) rfl (.tmp rfl (Res.nil)) rfl ?_
        have hkl := keys_len K
        have H_11 : Hp w0 [] w_7 (Ent.own (Value.slice a__2 ((0 + K.length) + 1) c__2) 31 3 ((K ++ [(⟨f, t, a_, c_, l⟩ : Lt)]).length) (rows (K ++ [(⟨f, t, a_, c_, l⟩ : Lt)])) :: Ent.blk bk30_ 31 #[Value.int .i64 (f), Value.int .i64 (t), Value.slice a_ l.length c_] :: Ent.own (Value.slice a_ l.length c_) 5 1 l.length (us .u8 l) :: Ent.blk bk3 31 #[Value.int .i64 (f), Value.int .i64 (t), Value.slice a_ l.length c_] :: Ent.blk bw 47 #[Value.slice a__2 ((0 + K.length) + 1) c__2] :: Ent.own (Value.slice ra K.length rc) 31 3 K.length (rows K) :: (nest 5 K ++ X)) := H_10.asN (i := 0) rfl (by simp) rfl rfl
        have H_12 : Hp w0 [] w_7 (Ent.own (Value.slice a__2 ((0 + K.length) + 1) c__2) 31 3 ((K ++ [(⟨f, t, a_, c_, l⟩ : Lt)]).length) (rows (K ++ [(⟨f, t, a_, c_, l⟩ : Lt)])) :: Ent.blk bk30_ 31 #[Value.int .i64 (f), Value.int .i64 (t), Value.slice a_ l.length c_] :: Ent.own (Value.slice a_ l.length c_) 5 1 l.length (us .u8 l) :: Ent.blk bk3 31 #[Value.int .i64 (f), Value.int .i64 (t), Value.slice a_ l.length c_] :: Ent.blk bw 47 #[Value.slice a__2 ((0 + K.length) + 1) c__2] :: (nest 5 K ++ X)) := H_11.erase 5
        have H_13 : Hp w0 [] w_7 (Ent.own (Value.slice a__2 ((0 + K.length) + 1) c__2) 31 3 ((K ++ [(⟨f, t, a_, c_, l⟩ : Lt)]).length) (rows (K ++ [(⟨f, t, a_, c_, l⟩ : Lt)])) :: Ent.blk bk30_ 31 #[Value.int .i64 (f), Value.int .i64 (t), Value.slice a_ l.length c_] :: Ent.own (Value.slice a_ l.length c_) 5 1 l.length (us .u8 l) :: Ent.blk bw 47 #[Value.slice a__2 ((0 + K.length) + 1) c__2] :: (nest 5 K ++ X)) := H_12.erase 3
        have H_14 : Hp w0 [] w_7 (Ent.own (Value.slice a__2 ((0 + K.length) + 1) c__2) 31 3 ((K ++ [(⟨f, t, a_, c_, l⟩ : Lt)]).length) (rows (K ++ [(⟨f, t, a_, c_, l⟩ : Lt)])) :: Ent.own (Value.slice a_ l.length c_) 5 1 l.length (us .u8 l) :: Ent.blk bw 47 #[Value.slice a__2 ((0 + K.length) + 1) c__2] :: (nest 5 K ++ X)) := H_13.erase 1
        have H_15 : Hp w0 [] w_7 (Ent.blk bw 47 #[Value.slice a__2 ((0 + K.length) + 1) c__2] :: Ent.own (Value.slice a__2 ((0 + K.length) + 1) c__2) 31 3 ((K ++ [(⟨f, t, a_, c_, l⟩ : Lt)]).length) (rows (K ++ [(⟨f, t, a_, c_, l⟩ : Lt)])) :: Ent.own (Value.slice a_ l.length c_) 5 1 l.length (us .u8 l) :: (nest 5 K ++ X)) := (((H_14.pull 1 rfl).pull 1 rfl).pull 2 rfl)
        have hc : Nt.scode (keys K) l.length = 0 := by unfold Nt.scode; rw [if_neg (by omega), if_neg (by omega)]
        have hF := Hp.tuck (x := (⟨f, t, a_, c_, l⟩ : Lt)) [Ent.blk bw 47 #[Value.slice a__2 ((0 + K.length) + 1) c__2], Ent.own (Value.slice a__2 ((0 + K.length) + 1) c__2) 31 3 ((K ++ [(⟨f, t, a_, c_, l⟩ : Lt)]).length) (rows (K ++ [(⟨f, t, a_, c_, l⟩ : Lt)]))] H_15 rfl rfl
        refine ⟨(Value.slice a__2 ((0 + K.length) + 1) c__2), K ++ [(⟨f, t, a_, c_, l⟩ : Lt)], by rw [hc], ?_, hF⟩
        rw [keys_snoc, Nt.send_in (by omega) (by omega)]; rfl
end Go.Proofs.Ytbfmodjaahfbjaa
