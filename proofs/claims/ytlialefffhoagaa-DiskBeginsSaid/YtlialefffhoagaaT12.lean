/- Walks of layer 21 (disk) and of its reference. Printed by disk.py. -/
import Derived.Test.YtlialefffhoagaaT11
namespace Go.Proofs.Ytlialefffhoagaa
open Go.Ev
set_option maxRecDepth 100000
set_option linter.unusedVariables false
set_option linter.unusedSimpArgs false
theorem T_row45 : rowOf Try.prog 45 = some 4 := by kernel_rfl
theorem dCopy {w0 w : World} {X : List Ent} {bw : Nat} {v : Value} (d : Dk.D) (hd : Dk.ok d) (H : Hp w0 [] w (Ent.blk bw 45 #[v, Value.int .i64 (d.left), Value.bool d.armed, Value.bool d.off] :: Ent.own v 5 1 d.l.length (us .u8 d.l) :: X)) :
    Calls Try.prog 20 #[Value.pointer (some ⟨bw, 0, none⟩)] w (fun r_ w' => ∃ b v1 v2, r_ = .returned (.pointer (some ⟨b, 0, none⟩)) ∧ Hp w0 [] w' (Ent.blk b 45 #[v1, Value.int .i64 (d.left), Value.bool d.armed, Value.bool d.off] :: Ent.own v1 5 1 d.l.length (us .u8 d.l) :: Ent.blk bw 45 #[v2, Value.int .i64 (d.left), Value.bool d.armed, Value.bool d.off] :: Ent.own v2 5 1 d.l.length (us .u8 d.l) :: X)) := by
  have hlen := hd.len
  have hv1 := own_one H (i := 1) rfl
  refine F_in Try.func20 rfl Try.ntmps20 rfl ?_
  intro e he
  have p_0 : e 0 = Value.pointer (some ⟨bw, 0, none⟩) := he 0 _ rfl
  refine W_seq ?_
  refine W_rg ?_
  refine L_as rfl ?_
  refine L_nil ?_
  refine Th_n ?_
  refine W_seq ?_
  refine W_seq ?_
  refine W_rg ?_
  refine L_mv rfl ?_
  refine L_y rfl (Y_eqP Try.underlying25 p_0 rfl) ?_
  refine L_nil ?_
  refine Th_n ?_
  refine W_false rfl ?_
  refine W_skip ?_
  refine Th_n ?_
  refine W_seq ?_
  refine W_rg ?_
  refine L_mv rfl ?_
  refine L_y rfl (Y_nil p_0) ?_
  refine L_y rfl (Y_ldr T_row45 H (i := 0) rfl rfl rfl) ?_
  refine L_alloc rfl H T_zero45 ?_; intro bk3 w_2 H_2
  have H_3 : Hp w0 [] w_2 (Ent.blk bk3 45 #[Value.slice none 0 0, Value.int .i64 ((0 : Nat) : Int), Value.bool false, Value.bool false] :: Ent.own (Value.slice none 0 0) 5 1 0 (us .u8 []) :: Ent.blk bw 45 #[v, Value.int .i64 (d.left), Value.bool d.armed, Value.bool d.off] :: Ent.own v 5 1 d.l.length (us .u8 d.l) :: X) := (H_2.nilOwn 5 1).perm (List.Perm.swap _ _ _)
  refine L_str (ds := #[v, Value.int .i64 (d.left), Value.bool d.armed, Value.bool d.off]) T_row45 H_3 (i := 0) rfl rfl rfl rfl rfl (by intro u hu; simp at hu; rcases hu with rfl | rfl | rfl | rfl <;> first | rfl | exact hv1) (l' := (Ent.blk bk3 45 #[v, Value.int .i64 (d.left), Value.bool d.armed, Value.bool d.off] :: Ent.own (Value.slice none 0 0) 5 1 0 (us .u8 []) :: Ent.blk bw 45 #[v, Value.int .i64 (d.left), Value.bool d.armed, Value.bool d.off] :: Ent.own v 5 1 d.l.length (us .u8 d.l) :: X)) rfl ?_; intro w_3 H_4
  refine L_nil ?_
  refine Th_n ?_
  refine W_seq ?_
  refine W_rg ?_
  refine L_mv rfl ?_
  refine L_y rfl (Y_nil p_0) ?_
  refine L_y rfl (Y_fld T_fld45_0 rfl rfl rfl) ?_
  refine L_y rfl (Y_ld T_scal23 H_4 (i := 2) rfl rfl rfl) ?_
  refine L_y rfl (Y_lenO T_sl23 H_4 (i := 3) rfl rfl) ?_
  refine L_mk rfl H_4 T_sl23 T_zero5 T_szb5 rfl rfl (Nat.le_refl _) (by omega) (by omega) ?_; intro bk14 w_4 H_5
  have H_6 : Hp w0 [] w_4 (Ent.blk bk14 5 (ua .u8 (List.replicate d.l.length 0)) :: Ent.blk bk3 45 #[v, Value.int .i64 (d.left), Value.bool d.armed, Value.bool d.off] :: Ent.own (Value.slice none 0 0) 5 1 0 (us .u8 []) :: Ent.blk bw 45 #[v, Value.int .i64 (d.left), Value.bool d.armed, Value.bool d.off] :: Ent.own v 5 1 d.l.length (us .u8 d.l) :: X) := by have h := H_5; rw [show ua .u8 [0] = #[.int .u8 0] from rfl, Nat.mul_one, made_ua] at h; exact h
  refine L_y rfl (Y_fld T_fld45_0 rfl rfl rfl) ?_
  refine L_st (v := Value.slice (some ⟨bk14, 0, none⟩) d.l.length d.l.length) T_scal23 H_6 (i := 1) rfl rfl rfl rfl (Nat.le_of_ble_eq_true rfl) (l' := (Ent.blk bk14 5 (ua .u8 (List.replicate d.l.length 0)) :: Ent.blk bk3 45 #[Value.slice (some ⟨bk14, 0, none⟩) d.l.length d.l.length, Value.int .i64 (d.left), Value.bool d.armed, Value.bool d.off] :: Ent.own (Value.slice none 0 0) 5 1 0 (us .u8 []) :: Ent.blk bw 45 #[v, Value.int .i64 (d.left), Value.bool d.armed, Value.bool d.off] :: Ent.own v 5 1 d.l.length (us .u8 d.l) :: X)) rfl ?_; intro w_5 H_7
  refine L_nil ?_
  refine Th_n ?_
  refine W_seq ?_
  refine W_quiet H_7 6 [Value.pointer (some ⟨bk3, 0, none⟩), Value.slice (some ⟨bk14, 0, none⟩) d.l.length d.l.length, Value.pointer (some ⟨bw, 0, none⟩), Value.pointer (some ⟨bw, 0, none⟩), Value.pointer (some ⟨bw, 0, none⟩), v] T_mixed (by kernel_rfl) ?_ ?_
  ·
    refine .plain rfl (Pl_y rfl (fun w hBw => Y_fld T_fld45_0 rfl rfl rfl)) ?_
    refine .plain rfl (Pl_y rfl (fun w hBw => Y_ld T_scal23 hBw (i := 1) rfl rfl rfl)) ?_
    refine .plain rfl (Pl_y rfl (fun w hBw => congrArg (fun v => Result.ok (Next.value v) w) p_0)) ?_
    refine .plain rfl (Pl_y rfl (fun w hBw => Y_nil rfl)) ?_
    refine .plain rfl (Pl_y rfl (fun w hBw => Y_fld T_fld45_0 rfl rfl rfl)) ?_
    refine .plain rfl (Pl_y rfl (fun w hBw => Y_ld T_scal23 hBw (i := 3) rfl rfl rfl)) ?_
    exact .nil _
  ·
    intro e_2 w_6 hAg H_8
    have e_2_3 : e_2 3 = Value.pointer (some ⟨bk3, 0, none⟩) := (hAg 3 rfl).trans rfl
    have e_2_17 : e_2 17 = Value.slice (some ⟨bk14, 0, none⟩) d.l.length d.l.length := (hAg 17 rfl).trans rfl
    have e_2_21 : e_2 21 = v := (hAg 21 rfl).trans rfl
    obtain ⟨a_, c_, rfl⟩ := Sl.opn H_8 (i := 4) rfl
    refine L_cp rfl H_8 (i := 0) rfl T_sl23 e_2_17 (⟨List.length_replicate, fun u hu => by rw [(List.mem_replicate.1 hu).2]; decide⟩ : Wd d.l.length 256 (List.replicate d.l.length 0)).1 e_2_21 (Sl.own H_8 (i := 4) rfl) ?_; intro w_7 H_9
    refine L_nil ?_
    refine Th_n ?_
    refine W_seq ?_
    refine W_rg ?_
    refine L_as rfl ?_
    refine L_nil ?_
    refine Th_n ?_
    refine W_ret ?_
    refine P_ret (vs := [Value.pointer (some ⟨bk3, 0, none⟩)]) (v := Value.pointer (some ⟨bk3, 0, none⟩)) rfl (.tmp e_2_3 (Res.nil)) rfl ?_
    have H_10 : Hp w0 [] w_7 (Ent.own (Value.slice (some ⟨bk14, 0, none⟩) d.l.length d.l.length) 5 1 d.l.length (us .u8 (d.l.take d.l.length ++ (List.replicate d.l.length 0).drop d.l.length)) :: Ent.blk bk3 45 #[Value.slice (some ⟨bk14, 0, none⟩) d.l.length d.l.length, Value.int .i64 (d.left), Value.bool d.armed, Value.bool d.off] :: Ent.own (Value.slice none 0 0) 5 1 0 (us .u8 []) :: Ent.blk bw 45 #[Value.slice a_ d.l.length c_, Value.int .i64 (d.left), Value.bool d.armed, Value.bool d.off] :: Ent.own (Value.slice a_ d.l.length c_) 5 1 d.l.length (us .u8 d.l) :: X) := H_9.asRow (i := 0) rfl (by simp [List.length_take]) (by have := hd.len; simp only [maxLen]; omega) rfl
    have H_11 : Hp w0 [] w_7 (Ent.own (Value.slice (some ⟨bk14, 0, none⟩) d.l.length d.l.length) 5 1 d.l.length (us .u8 d.l) :: Ent.blk bk3 45 #[Value.slice (some ⟨bk14, 0, none⟩) d.l.length d.l.length, Value.int .i64 (d.left), Value.bool d.armed, Value.bool d.off] :: Ent.own (Value.slice none 0 0) 5 1 0 (us .u8 []) :: Ent.blk bw 45 #[Value.slice a_ d.l.length c_, Value.int .i64 (d.left), Value.bool d.armed, Value.bool d.off] :: Ent.own (Value.slice a_ d.l.length c_) 5 1 d.l.length (us .u8 d.l) :: X) := H_10.asL (i := 0) rfl rfl (by simp) rfl
    have H_12 : Hp w0 [] w_7 (Ent.own (Value.slice (some ⟨bk14, 0, none⟩) d.l.length d.l.length) 5 1 d.l.length (us .u8 d.l) :: Ent.blk bk3 45 #[Value.slice (some ⟨bk14, 0, none⟩) d.l.length d.l.length, Value.int .i64 (d.left), Value.bool d.armed, Value.bool d.off] :: Ent.blk bw 45 #[Value.slice a_ d.l.length c_, Value.int .i64 (d.left), Value.bool d.armed, Value.bool d.off] :: Ent.own (Value.slice a_ d.l.length c_) 5 1 d.l.length (us .u8 d.l) :: X) := H_11.erase 2
    have H_13 : Hp w0 [] w_7 (Ent.blk bk3 45 #[Value.slice (some ⟨bk14, 0, none⟩) d.l.length d.l.length, Value.int .i64 (d.left), Value.bool d.armed, Value.bool d.off] :: Ent.own (Value.slice (some ⟨bk14, 0, none⟩) d.l.length d.l.length) 5 1 d.l.length (us .u8 d.l) :: Ent.blk bw 45 #[Value.slice a_ d.l.length c_, Value.int .i64 (d.left), Value.bool d.armed, Value.bool d.off] :: Ent.own (Value.slice a_ d.l.length c_) 5 1 d.l.length (us .u8 d.l) :: X) := ((((H_12.pull 3 rfl).pull 3 rfl).pull 2 rfl).pull 3 rfl)
    exact ⟨_, _, _, rfl, H_13⟩
end Go.Proofs.Ytlialefffhoagaa
