/- Walks of layer 27 (net) and of its reference. Printed by net.py. -/
import Derived.Test.YtbfmodjaahfbjaaN8
namespace Go.Proofs.Ytbfmodjaahfbjaa
open Go.Ev
set_option maxRecDepth 100000
set_option linter.unusedVariables false
set_option linter.unusedSimpArgs false
theorem T_en24 : enters Try.prog 24 = true := by kernel_rfl
theorem letters0 (w0 : World) :
    Calls Try.prog 12 #[Value.pointer none] w0 (fun r_ w' => r_ = .returned (Value.slice none 0 0) ∧ Keep w0 w') := by
  refine F_in Try.func12 rfl Try.ntmps12 rfl ?_
  intro e he
  have p_0 : e 0 = Value.pointer none := he 0 _ rfl
  have H := Hp.start w0 []
  refine W_seq ?_
  refine W_rg ?_
  refine L_as rfl ?_
  refine L_nil ?_
  refine Th_n ?_
  refine W_seq ?_
  refine W_seq ?_
  refine W_rg ?_
  refine L_mv rfl ?_
  refine L_y rfl (Y_eqP Try.underlying24 p_0 rfl) ?_
  refine L_nil ?_
  refine Th_n ?_
  refine W_true rfl ?_
  refine W_seq ?_
  refine W_rg ?_
  refine L_as rfl ?_
  refine L_nil ?_
  refine Th_n ?_
  refine W_ret ?_
  refine Th_r ?_
  refine P_ret (vs := [Value.slice none 0 0]) (v := Value.slice none 0 0) rfl (.tmp rfl (Res.nil)) rfl ?_
  refine ⟨?_, H.nil_⟩
  rfl

theorem letters_n {w0 w : World} {X : List Ent} {bw : Nat} {v : Value} {K : List Lt}  (hK : Nt.ok (keys K))  (H : Hp w0 [] w (Ent.blk bw 51 #[v] :: Ent.own v 31 3 K.length (rows K) :: (nest 5 K ++ X))) :
    Calls Try.prog 12 #[Value.pointer (some ⟨bw, 0, none⟩)] w (fun r_ w' => ∃ a1 c1 M v', r_ = .returned (.slice a1 K.length c1) ∧ keys M = keys K ∧ Hp w0 [] w' (.own (.slice a1 K.length c1) 31 3 K.length (rows M) :: Ent.blk bw 51 #[v'] :: Ent.own v' 31 3 K.length (rows K) :: (nest 5 M ++ (nest 5 K ++ X)))) := by
  have hKl := hK.len
  rw [keys_len] at hKl
  refine F_in Try.func12 rfl Try.ntmps12 rfl ?_
  intro e he
  have p_0 : e 0 = Value.pointer (some ⟨bw, 0, none⟩) := he 0 _ rfl
  refine W_seq ?_
  refine W_rg ?_
  refine L_as rfl ?_
  refine L_nil ?_
  refine Th_n ?_
  refine W_seq ?_
  refine W_seq ?_
  refine W_rg ?_
  refine L_mv rfl ?_
  refine L_y rfl (Y_eqP Try.underlying24 p_0 rfl) ?_
  refine L_nil ?_
  refine Th_n ?_
  refine W_false rfl ?_
  refine W_skip ?_
  refine Th_n ?_
  refine W_seq ?_
  refine W_rg ?_
  refine L_mv rfl ?_
  refine L_y rfl (Y_nil p_0) ?_
  refine L_y rfl (Y_fld T_fld51_0 rfl rfl rfl) ?_
  refine L_y rfl (Y_ld T_scal35 H (i := 0) rfl rfl rfl) ?_
  obtain ⟨a_, c_, rfl⟩ := Ts.opn H (i := 1) rfl
  refine L_callv rfl rfl T_en24 (A2 rfl rfl) (each_n (SeenT.own (u := 5) (List.mem_of_getElem? (i := 1) rfl) (fun _ h_ => .tail _ (.tail _ (List.mem_append_left _ h_)))) hK H) ?_
  rintro _ w_2 ⟨a9, c9, M9, rfl, f9_0, H_2⟩; refine ⟨_, rfl, ?_⟩
  have H_3 : Hp w0 [] w_2 (Ent.own (Value.slice a9 K.length c9) 31 3 K.length (rows M9) :: Ent.blk bw 51 #[Value.slice a_ K.length c_] :: Ent.own (Value.slice a_ K.length c_) 31 3 K.length (rows K) :: (nest 5 M9 ++ (nest 5 K ++ X))) := Hp.chunk [Ent.own (Value.slice a9 K.length c9) 31 3 K.length (rows M9)] (nest 5 M9) [Ent.blk bw 51 #[Value.slice a_ K.length c_], Ent.own (Value.slice a_ K.length c_) 31 3 K.length (rows K)] (nest 5 K ++ X) H_2
  have kM9 := f9_0
  have okM9 : Nt.ok (keys M9) := by rw [kM9]; exact hK
  refine L_as rfl ?_
  refine L_nil ?_
  refine Th_n ?_
  refine W_ret ?_
  refine P_ret (vs := [Value.slice a9 K.length c9]) (v := Value.slice a9 K.length c9) rfl (.tmp rfl (Res.nil)) rfl ?_
  exact ⟨a9, c9, M9, (Value.slice a_ K.length c_), rfl, kM9, H_3⟩

theorem copy0 (w0 : World) :
    Calls Try.prog 20 #[Value.pointer none] w0 (fun r_ w' => r_ = .returned (Value.pointer none) ∧ Keep w0 w') := by
  refine F_in Try.func20 rfl Try.ntmps20 rfl ?_
  intro e he
  have p_0 : e 0 = Value.pointer none := he 0 _ rfl
  have H := Hp.start w0 []
  refine W_seq ?_
  refine W_rg ?_
  refine L_as rfl ?_
  refine L_nil ?_
  refine Th_n ?_
  refine W_seq ?_
  refine W_seq ?_
  refine W_rg ?_
  refine L_mv rfl ?_
  refine L_y rfl (Y_eqP Try.underlying24 p_0 rfl) ?_
  refine L_nil ?_
  refine Th_n ?_
  refine W_true rfl ?_
  refine W_seq ?_
  refine W_rg ?_
  refine L_as rfl ?_
  refine L_nil ?_
  refine Th_n ?_
  refine W_ret ?_
  refine Th_r ?_
  refine P_ret (vs := [Value.pointer none]) (v := Value.pointer none) rfl (.tmp rfl (Res.nil)) rfl ?_
  refine ⟨?_, H.nil_⟩
  rfl

theorem copy_n {w0 w : World} {X : List Ent} {bw : Nat} {v : Value} {K : List Lt}  (hK : Nt.ok (keys K))  (H : Hp w0 [] w (Ent.blk bw 51 #[v] :: Ent.own v 31 3 K.length (rows K) :: (nest 5 K ++ X))) :
    Calls Try.prog 20 #[Value.pointer (some ⟨bw, 0, none⟩)] w (fun r_ w' => ∃ b v1 M v', r_ = .returned (.pointer (some ⟨b, 0, none⟩)) ∧ keys M = keys K ∧ Hp w0 [] w' (Ent.blk b 51 #[v1] :: Ent.own v1 31 3 M.length (rows M) :: Ent.blk bw 51 #[v'] :: Ent.own v' 31 3 K.length (rows K) :: (nest 5 M ++ (nest 5 K ++ X)))) := by
  have hKl := hK.len
  rw [keys_len] at hKl
  refine F_in Try.func20 rfl Try.ntmps20 rfl ?_
  intro e he
  have p_0 : e 0 = Value.pointer (some ⟨bw, 0, none⟩) := he 0 _ rfl
  refine W_seq ?_
  refine W_rg ?_
  refine L_as rfl ?_
  refine L_nil ?_
  refine Th_n ?_
  refine W_seq ?_
  refine W_seq ?_
  refine W_rg ?_
  refine L_mv rfl ?_
  refine L_y rfl (Y_eqP Try.underlying24 p_0 rfl) ?_
  refine L_nil ?_
  refine Th_n ?_
  refine W_false rfl ?_
  refine W_skip ?_
  refine Th_n ?_
  refine W_seq ?_
  refine W_rg ?_
  refine L_mv rfl ?_
  refine L_y rfl (Y_nil p_0) ?_
  refine L_y rfl (Y_fld T_fld51_0 rfl rfl rfl) ?_
  refine L_y rfl (Y_ld T_scal35 H (i := 0) rfl rfl rfl) ?_
  obtain ⟨a_, c_, rfl⟩ := Ts.opn H (i := 1) rfl
  refine L_callv rfl rfl T_en24 (A2 rfl rfl) (each_n (SeenT.own (u := 5) (List.mem_of_getElem? (i := 1) rfl) (fun _ h_ => .tail _ (.tail _ (List.mem_append_left _ h_)))) hK H) ?_
  rintro _ w_2 ⟨a9, c9, M9, rfl, f9_0, H_2⟩; refine ⟨_, rfl, ?_⟩
  have H_3 : Hp w0 [] w_2 (Ent.own (Value.slice a9 K.length c9) 31 3 K.length (rows M9) :: Ent.blk bw 51 #[Value.slice a_ K.length c_] :: Ent.own (Value.slice a_ K.length c_) 31 3 K.length (rows K) :: (nest 5 M9 ++ (nest 5 K ++ X))) := Hp.chunk [Ent.own (Value.slice a9 K.length c9) 31 3 K.length (rows M9)] (nest 5 M9) [Ent.blk bw 51 #[Value.slice a_ K.length c_], Ent.own (Value.slice a_ K.length c_) 31 3 K.length (rows K)] (nest 5 K ++ X) H_2
  have kM9 := f9_0
  have okM9 : Nt.ok (keys M9) := by rw [kM9]; exact hK
  refine L_y rfl (Y_build (pv := [(0, Value.slice a9 K.length c9)]) (cs := #[Value.slice a9 K.length c9]) (Bpc rfl Bp0) (by kernel_rfl)) ?_
  refine L_box rfl H_3 rfl (cs := #[Value.slice a9 K.length c9]) rfl ?_; intro bk11 w_3 H_4
  refine L_as rfl ?_
  refine L_nil ?_
  refine Th_n ?_
  refine W_ret ?_
  refine P_ret (vs := [Value.pointer (some ⟨bk11, 0, none⟩)]) (v := Value.pointer (some ⟨bk11, 0, none⟩)) rfl (.tmp rfl (Res.nil)) rfl ?_
  have hML : M9.length = K.length := by rw [← keys_len, kM9, keys_len]
  have H_5 : Hp w0 [] w_3 (Ent.blk bk11 51 #[Value.slice a9 K.length c9] :: Ent.own (Value.slice a9 K.length c9) 31 3 M9.length (rows M9) :: Ent.blk bw 51 #[Value.slice a_ K.length c_] :: Ent.own (Value.slice a_ K.length c_) 31 3 K.length (rows K) :: (nest 5 M9 ++ (nest 5 K ++ X))) := H_4.asN (i := 1) rfl hML.symm rfl rfl
  exact ⟨_, _, M9, _, rfl, kM9, H_5⟩

theorem new_n {w0 w : World} {X : List Ent} (H : Hp w0 [] w X) :
    Calls Try.prog 8 #[] w (fun r_ w' => ∃ b v K, r_ = .returned (.pointer (some ⟨b, 0, none⟩)) ∧ keys K = [] ∧ Hp w0 [] w' (Ent.blk b 51 #[v] :: Ent.own v 31 3 K.length (rows K) :: (nest 5 K ++ X))) := by
  refine F_in Try.func8 rfl Try.ntmps8 rfl ?_
  intro e he
  refine W_seq ?_
  refine W_rg ?_
  refine L_as rfl ?_
  refine L_nil ?_
  refine Th_n ?_
  refine W_seq ?_
  refine W_rg ?_
  refine L_y rfl (Y_build (pv := []) (cs := #[Value.slice none 0 0]) Bp0 (by kernel_rfl)) ?_
  refine L_box rfl H rfl (cs := #[Value.slice none 0 0]) rfl ?_; intro bk2 w_2 H_2
  have H_3 : Hp w0 [] w_2 (Ent.blk bk2 51 #[Value.slice none 0 0] :: Ent.own (Value.slice none 0 0) 31 3 0 (rows []) :: X) := (H_2.nilOwn 31 3).perm (List.Perm.swap _ _ _)
  refine L_as rfl ?_
  refine L_nil ?_
  refine Th_n ?_
  refine W_ret ?_
  refine P_ret (vs := [Value.pointer (some ⟨bk2, 0, none⟩)]) (v := Value.pointer (some ⟨bk2, 0, none⟩)) rfl (.tmp rfl (Res.nil)) rfl ?_
  exact ⟨_, _, [], rfl, rfl, H_3⟩
end Go.Proofs.Ytbfmodjaahfbjaa
