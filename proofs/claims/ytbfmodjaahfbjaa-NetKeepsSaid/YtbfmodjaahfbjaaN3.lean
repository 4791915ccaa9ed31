/- Walks of layer 27 (net) and of its reference. Printed by net.py. -/
import Derived.Test.YtbfmodjaahfbjaaN2
namespace Go.Proofs.Ytbfmodjaahfbjaa
open Go.Ev
set_option maxRecDepth 100000
set_option linter.unusedVariables false
set_option linter.unusedSimpArgs false
theorem T_sl35 : slOf Try.prog 35 = some (31, 3) := by kernel_rfl
theorem T_en21 : enters Try.prog 21 = true := by kernel_rfl
theorem T_szb31 : szOf Try.prog 31 = some 40 := by kernel_rfl
theorem each_n {w0 w : World} {X : List Ent} {a : Option Addr} {m c : Nat} {K : List Lt} (hT : SeenT w0 X a m c K) (hK : Nt.ok (keys K)) (H : Hp w0 [] w X) :
    Calls Try.prog 24 #[Value.slice a m c, Value.func (.func 21) #[] #[]] w (fun r_ w' => ∃ a1 c1 M, r_ = .returned (.slice a1 m c1) ∧ keys M = keys K ∧ Hp w0 [] w' (.own (.slice a1 m c1) 31 3 m (rows M) :: (nest 5 M ++ X))) := by
  have hKl : K.length = m := hT.len H (fun _ h_ => h_)
  have hK2 := hK.len
  rw [keys_len] at hK2
  refine F_in Try.func24 rfl Try.ntmps24 rfl ?_
  intro e he
  have p_0 : e 0 = Value.slice a m c := he 0 _ rfl
  have p_1 : e 1 = Value.func (.func 21) #[] #[] := he 1 _ rfl
  refine W_seq ?_
  refine W_rg ?_
  refine L_as rfl ?_
  refine L_nil ?_
  refine Th_n ?_
  refine W_seq ?_
  refine W_rg ?_
  refine L_as rfl ?_
  have H_2 : Hp w0 [] w (Ent.own (Value.slice none 0 0) 31 3 0 (rows []) :: X) := H.nilOwn 31 3
  refine L_nil ?_
  refine Th_n ?_
  refine W_seq ?_
  refine W_seq ?_
  refine W_rg ?_
  refine L_mv rfl ?_
  refine L_y rfl (Y_lenS T_sl35 p_0) ?_
  refine L_mv rfl ?_
  refine L_nil ?_
  refine Th_n ?_
  refine W_block ?_
  refine W_loop (fun mu_ e w => ∃ i : Nat, ∃ M : List Lt, ∃ vo : Value, mu_ = m - i ∧ e 1 = Value.func (.func 21) #[] #[] ∧ e 5 = vo ∧ e 8 = Value.slice a m c ∧ e 9 = Value.int .i64 ((m : Nat) : Int) ∧ e 10 = Value.int .i64 ((i : Nat) : Int) ∧ Hp w0 [] w (Ent.own vo 31 3 i (rows M) :: (nest 5 M ++ X)) ∧ keys M = keys (K.take i) ∧ i ≤ m) _ ⟨0, [], _, rfl, p_1, rfl, p_0, rfl, rfl, H_2, rfl, (Nat.zero_le _)⟩ ?_
  rintro mu_ e_2 w_2 ⟨i, M, vo, rfl, e_2_1, e_2_5, e_2_8, e_2_9, e_2_10, H_3, hM, hi⟩
  refine W_seq ?_
  refine W_rg ?_
  refine L_y rfl (Y_lss (k := .i64) (a := ((i : Nat) : Int)) (b := ((m : Nat) : Int)) e_2_10 e_2_9) ?_
  refine L_nil ?_
  refine Th_n ?_
  refine W_seq ?_
  refine W_cond (b := (decide (((i : Nat) : Int) < ((m : Nat) : Int)))) rfl (fun hc => ?_) (fun hc => ?_)
  ·
    have hc' := of_decide_eq_true hc
    refine W_skip ?_
    refine Th_n ?_
    refine W_seq ?_
    refine W_block ?_
    refine W_seq ?_
    refine W_rg ?_
    obtain ⟨el12, hel12⟩ := (hT.hp H_3 (fun _ h_ => .tail _ (List.mem_append_right _ (h_)))).tab.at (j := i) (by omega)
    have mel12 := List.mem_of_getElem? hel12
    have oel12 := (hK).lt _ (keys_mem mel12)
    have nel12 : el12.l.length ≤ 60000 := oel12.2
    refine L_y rfl (Y_idxT (j := i) T_sl35 (hT.hp H_3 (fun _ h_ => .tail _ (List.mem_append_right _ (h_)))).tab hel12 e_2_8 e_2_10 rfl) ?_
    refine L_y rfl (Y_ldTs (j := i) T_row31 (hT.hp H_3 (fun _ h_ => .tail _ (List.mem_append_right _ (h_)))).tab hel12 rfl rfl) ?_
    refine L_alloc rfl H_3 T_zero31 ?_; intro bk7 w_3 H_4
    refine L_str (ds := #[Value.int .i64 (el12.f), Value.int .i64 (el12.t), Value.slice el12.a el12.l.length el12.c]) T_row31 H_4 (i := 0) rfl rfl rfl rfl rfl (allOne3 _ _ _ _ _) (l' := (Ent.blk bk7 31 #[Value.int .i64 (el12.f), Value.int .i64 (el12.t), Value.slice el12.a el12.l.length el12.c] :: Ent.own vo 31 3 i (rows M) :: (nest 5 M ++ X))) rfl ?_; intro w_4 H_5
    refine L_nil ?_
    refine Th_n ?_
    refine W_rg ?_
    refine L_mv rfl ?_
    refine L_mv rfl ?_
    refine L_y rfl (Y_ldr T_row31 H_5 (i := 0) rfl rfl rfl) ?_
    refine L_callz e_2_1 rfl rfl T_en21 (A1 rfl) (own_n (by omega) ((hT.el _ mel12).mono (fun _ h_ => .tail _ (.tail _ (List.mem_append_right _ (h_))))) oel12.1 H_5) ?_
    rintro _ w_5 ⟨a17, c17, rfl, H_6⟩; refine ⟨_, rfl, ?_⟩
    refine L_bsl (cs := #[Value.int .i64 (el12.f), Value.int .i64 (el12.t), Value.slice a17 el12.l.length c17]) rfl H_6 (pv := [(0, Value.agg #[Value.int .i64 (el12.f), Value.int .i64 (el12.t), Value.slice a17 el12.l.length c17])]) T_sl35 T_zero31 rfl (Bpc rfl Bp0) (by kernel_rfl) ?_; intro bk18 w_6 H_7
    refine L_appT rfl H_7 (i := 3) rfl T_sl35 T_zero31 rfl T_szb31 e_2_5 rfl (Ts.blk (x0 := (⟨el12.f, el12.t, a17, c17, el12.l⟩ : Lt)) H_7 (i := 0) rfl) (by omega) ?_; intro v19 w_7 Hx
    have H_8 : Hp w0 [] w_7 (Ent.blk bk18 31 #[Value.int .i64 (el12.f), Value.int .i64 (el12.t), Value.slice a17 el12.l.length c17] :: Ent.own (Value.slice a17 el12.l.length c17) 5 1 el12.l.length (us .u8 el12.l) :: Ent.blk bk7 31 #[Value.int .i64 (el12.f), Value.int .i64 (el12.t), Value.slice el12.a el12.l.length el12.c] :: Ent.own v19 31 3 (i + 1) (rows (M ++ [(⟨el12.f, el12.t, a17, c17, el12.l⟩ : Lt)])) :: (nest 5 M ++ X)) := Hx
    refine L_as rfl ?_
    refine L_nil ?_
    refine InB_n ?_
    refine Th_n ?_
    refine W_rg ?_
    refine L_y rfl (Y_add (k := .i64) (a := ((i : Nat) : Int)) (b := ((1 : Nat) : Int)) (z := ((i + 1 : Nat) : Int)) e_2_10 rfl (wi (by omega))) ?_
    refine L_mv rfl ?_
    refine L_nil ?_
    have H_9 : Hp w0 [] w_7 (Ent.own v19 31 3 (i + 1) (rows (M ++ [(⟨el12.f, el12.t, a17, c17, el12.l⟩ : Lt)])) :: Ent.own (Value.slice a17 el12.l.length c17) 5 1 el12.l.length (us .u8 el12.l) :: Ent.blk bk18 31 #[Value.int .i64 (el12.f), Value.int .i64 (el12.t), Value.slice a17 el12.l.length c17] :: Ent.blk bk7 31 #[Value.int .i64 (el12.f), Value.int .i64 (el12.t), Value.slice el12.a el12.l.length el12.c] :: (nest 5 M ++ X)) := ((H_8.pull 1 rfl).pull 3 rfl)
    have H_10 : Hp w0 [] w_7 (Ent.own v19 31 3 (i + 1) (rows (M ++ [(⟨el12.f, el12.t, a17, c17, el12.l⟩ : Lt)])) :: Ent.own (Value.slice a17 el12.l.length c17) 5 1 el12.l.length (us .u8 el12.l) :: Ent.blk bk7 31 #[Value.int .i64 (el12.f), Value.int .i64 (el12.t), Value.slice el12.a el12.l.length el12.c] :: (nest 5 M ++ X)) := H_9.erase 2
    have H_11 : Hp w0 [] w_7 (Ent.own v19 31 3 (i + 1) (rows (M ++ [(⟨el12.f, el12.t, a17, c17, el12.l⟩ : Lt)])) :: Ent.own (Value.slice a17 el12.l.length c17) 5 1 el12.l.length (us .u8 el12.l) :: (nest 5 M ++ X)) := H_10.erase 2
    have H_12 : Hp w0 [] w_7 (Ent.own v19 31 3 (i + 1) (rows (M ++ [(⟨el12.f, el12.t, a17, c17, el12.l⟩ : Lt)])) :: (nest 5 (M ++ [(⟨el12.f, el12.t, a17, c17, el12.l⟩ : Lt)]) ++ X)) := Hp.tuck (x := (⟨el12.f, el12.t, a17, c17, el12.l⟩ : Lt)) [Ent.own v19 31 3 (i + 1) (rows (M ++ [(⟨el12.f, el12.t, a17, c17, el12.l⟩ : Lt)]))] H_11 rfl rfl
    refine Th_n ⟨_, ?_, (i + 1), _, _, rfl, e_2_1, rfl, e_2_8, e_2_9, rfl, H_12, (by rw [List.take_add_one, hel12]; simp only [Option.toList_some, keys_snoc, hM]; rfl), (by omega)⟩
    omega
  ·
    have hc' := of_decide_eq_false hc
    refine W_exit ?_
    refine Th_x ?_
    refine Th_x ?_
    refine InB_hit ?_
    refine Th_n ?_
    refine W_seq ?_
    refine W_rg ?_
    refine L_mv rfl ?_
    refine L_as rfl ?_
    refine L_nil ?_
    refine Th_n ?_
    refine W_ret ?_
    refine P_ret (vs := [vo]) (v := vo) rfl (.tmp e_2_5 (Res.nil)) rfl ?_
    obtain rfl : i = m := (by omega)
    obtain ⟨a1, c1, hv1⟩ := Ts.opn H_3 (i := 0) rfl
    have hM2 : keys M = keys K := by rw [hM, List.take_of_length_le (by omega)]
    refine ⟨a1, c1, M, by rw [hv1], hM2, ?_⟩; have h := H_3; rw [hv1] at h; exact h
end Go.Proofs.Ytbfmodjaahfbjaa
