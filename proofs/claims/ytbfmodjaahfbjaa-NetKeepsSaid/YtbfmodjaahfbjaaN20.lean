/- Walks of layer 27 (net) and of its reference. Printed by net.py. -/
import Derived.Test.YtbfmodjaahfbjaaN19
import Derived.Test.YtbfmodjaahfbjaaNetTab
namespace Go.Proofs.Ytbfmodjaahfbjaa
open Go.Ev
set_option maxRecDepth 100000
set_option linter.unusedVariables false
set_option linter.unusedSimpArgs false
theorem T_sl42 : slOf Try.prog 42 = some (44, 5) := by kernel_rfl
theorem T_fld44_2 : fldOf Try.prog 44 2 = some (2, 3) := by kernel_rfl
theorem T_fld44_0 : fldOf Try.prog 44 0 = some (0, 1) := by kernel_rfl
theorem T_en16 : enters Try.prog 16 = true := by kernel_rfl
theorem T_en11 : enters Try.prog 11 = true := by kernel_rfl
theorem T_fld44_1 : fldOf Try.prog 44 1 = some (1, 1) := by kernel_rfl
theorem T_en17 : enters Try.prog 17 = true := by kernel_rfl
theorem T_en18 : enters Try.prog 18 = true := by kernel_rfl
set_option maxHeartbeats 4000000 in
theorem netPlays_n (a : Option Addr) (m c : Nat) (L : List Nt.Op) (w0 : World) (hT : Tab w0 Nt.Op.cells 5 a m c L) (hg : ∀ x ∈ L, Nt.Op.good w0 x) (hmm : m ≤ 140737488351232) :
    Calls Try.prog 5 #[Value.slice a m c] w0 (fun r_ w' => r_ = .returned (.bool true) ∧ Keep w0 w') := by
  refine F_in Try.func5 rfl Try.ntmps5 rfl ?_
  intro e he
  have p_0 : e 0 = Value.slice a m c := he 0 _ rfl
  have H := Hp.start w0 []
  refine W_seq ?_
  refine W_rg ?_
  refine L_as rfl ?_
  refine L_nil ?_
  refine Th_n ?_
  refine W_seq ?_
  refine W_rg ?_
  refine L_as rfl ?_
  refine L_nil ?_
  refine Th_n ?_
  refine W_seq ?_
  refine W_seq ?_
  refine W_rg ?_
  refine L_as rfl ?_
  refine L_nil ?_
  refine Th_n ?_
  refine W_block ?_
  refine W_loop (fun mu_ e w => ∃ i : Nat, ∃ s0 : Nat, mu_ = m - i ∧ e 0 = Value.slice a m c ∧ e 3 = Value.int .i64 ((s0 : Nat) : Int) ∧ e 4 = Value.int .i64 ((i : Nat) : Int) ∧ Hp w0 [] w (([] : List Ent)) ∧ s0 = Nt.sum (L.take i) ∧ s0 ≤ 140737489399808 ∧ i ≤ m) _ ⟨0, 0, rfl, p_0, rfl, rfl, H, rfl, (by decide), (Nat.zero_le _)⟩ ?_
  rintro mu_ e_2 w_2 ⟨i, s0, rfl, e_2_0, e_2_3, e_2_4, H_2, hs, hB, hi⟩
  refine W_seq ?_
  refine W_seq ?_
  refine W_rg ?_
  refine L_mv rfl ?_
  refine L_mv rfl ?_
  refine L_y rfl (Y_lenS T_sl42 e_2_0) ?_
  refine L_y rfl (Y_lss (k := .i64) (a := ((i : Nat) : Int)) (b := ((m : Nat) : Int)) e_2_4 rfl) ?_
  refine L_mv rfl ?_
  rcases Bool.eq_false_or_eq_true (decide (((i : Nat) : Int) < ((m : Nat) : Int))) with hb | hb
  ·
    have hb' := of_decide_eq_true hb
    refine G_mv (wE rfl (congrArg Value.bool hb)) rfl ?_
    refine G_y (wE rfl (congrArg Value.bool hb)) rfl (Y_leq (k := .i64) (a := ((s0 : Nat) : Int)) (b := ((1048576 : Nat) : Int)) e_2_3 rfl) ?_
    refine L_y rfl (Y_pickT (congrArg Value.bool hb)) ?_
    refine L_nil ?_
    refine Th_n ?_
    refine W_cond (b := (decide (((s0 : Nat) : Int) ≤ ((1048576 : Nat) : Int)))) rfl (fun hc => ?_) (fun hc => ?_)
    ·
      have hc' := of_decide_eq_true hc
      refine W_skip ?_
      refine Th_n ?_
      refine W_seq ?_
      refine W_block ?_
      refine W_rg ?_
      refine L_mv rfl ?_
      refine L_mv rfl ?_
      refine L_mv rfl ?_
      obtain ⟨el32, hel32⟩ := hT.at (j := i) (by omega)
      have gel32 := hg el32 (List.mem_of_getElem? hel32)
      have bel32 := gel32.big
      refine L_y rfl (Y_idxT (j := i) T_sl42 (hT.hp H_2) hel32 e_2_0 e_2_4 rfl) ?_
      refine L_y rfl (Y_fldT T_fld44_2 rfl (hT.hp H_2) hel32 rfl) ?_
      refine L_y rfl (Y_fldT T_fld31_2 rfl (hT.hp H_2) hel32 rfl) ?_
      refine L_y rfl (Y_ldT (j := i) (off := 4) T_scal29 (hT.hp H_2) hel32 rfl rfl rfl) ?_
      refine L_y rfl (Y_lenS T_sl29 rfl) ?_
      refine L_y rfl (Y_add (k := .i64) (a := ((s0 : Nat) : Int)) (b := ((el32.y.l.length : Nat) : Int)) (z := ((s0 + el32.y.l.length : Nat) : Int)) e_2_3 rfl (wi (by omega))) ?_
      refine L_as rfl ?_
      refine L_nil ?_
      refine InB_n ?_
      refine Th_n ?_
      refine W_rg ?_
      refine L_mv rfl ?_
      refine L_y rfl (Y_add (k := .i64) (a := ((i : Nat) : Int)) (b := ((1 : Nat) : Int)) (z := ((i + 1 : Nat) : Int)) e_2_4 rfl (wi (by omega))) ?_
      refine L_as rfl ?_
      refine L_nil ?_
      refine Th_n ⟨_, ?_, (i + 1), _, rfl, e_2_0, rfl, rfl, H_2, (by rw [hs, Nt.sum_snoc hel32]), (by omega), (by omega)⟩
      omega
    ·
      have hc' := of_decide_eq_false hc
      refine W_exit ?_
      refine Th_x ?_
      refine Th_x ?_
      refine InB_hit ?_
      refine Th_n ?_
      refine W_seq ?_
      refine W_seq ?_
      refine W_rg ?_
      refine L_mv rfl ?_
      refine L_y rfl (Y_lenS T_sl42 e_2_0) ?_
      refine L_y rfl (Y_gtr (k := .i64) (a := ((m : Nat) : Int)) (b := ((500 : Nat) : Int)) rfl rfl) ?_
      refine L_mv rfl ?_
      rcases Bool.eq_false_or_eq_true (decide (((500 : Nat) : Int) < ((m : Nat) : Int))) with hb_2 | hb_2
      ·
        have hb_2' := of_decide_eq_true hb_2
        refine G_no (wN (b := false) rfl (congrArg Value.bool hb_2)) rfl ?_
        refine G_no (wN (b := false) rfl (congrArg Value.bool hb_2)) rfl ?_
        refine L_y rfl (Y_pickT (congrArg Value.bool hb_2)) ?_
        refine L_nil ?_
        refine Th_n ?_
        refine W_true rfl ?_
        refine W_seq ?_
        refine W_rg ?_
        refine L_callv rfl rfl T_en7 (A0) (known_n _) ?_
        rintro _ w_3 ⟨rfl, hkp⟩; refine ⟨_, rfl, ?_⟩; have H_3 := H_2.keep hkp
        refine L_as rfl ?_
        refine L_nil ?_
        refine Th_n ?_
        refine W_ret ?_
        refine Th_r ?_
        refine P_ret (vs := [Value.bool true]) (v := Value.bool true) rfl (.tmp rfl (Res.nil)) rfl ?_
        refine ⟨?_, H_3.nil_⟩
        rfl
      ·
        have hb_2' := of_decide_eq_false hb_2
        refine G_mv (wE rfl (congrArg Value.bool hb_2)) rfl ?_
        refine G_y (wE rfl (congrArg Value.bool hb_2)) rfl (Y_gtr (k := .i64) (a := ((s0 : Nat) : Int)) (b := ((1048576 : Nat) : Int)) e_2_3 rfl) ?_
        refine L_y rfl (Y_pickF (congrArg Value.bool hb_2)) ?_
        refine L_nil ?_
        refine Th_n ?_
        refine W_true (congrArg Value.bool ((decide_eq_true (by have := of_decide_eq_false hc; omega)) : (decide (((1048576 : Nat) : Int) < ((s0 : Nat) : Int))) = true)) ?_
        refine W_seq ?_
        refine W_rg ?_
        refine L_callv rfl rfl T_en7 (A0) (known_n _) ?_
        rintro _ w_4 ⟨rfl, hkp_2⟩; refine ⟨_, rfl, ?_⟩; have H_4 := H_2.keep hkp_2
        refine L_as rfl ?_
        refine L_nil ?_
        refine Th_n ?_
        refine W_ret ?_
        refine Th_r ?_
        refine P_ret (vs := [Value.bool true]) (v := Value.bool true) rfl (.tmp rfl (Res.nil)) rfl ?_
        refine ⟨?_, H_4.nil_⟩
        rfl
  ·
    have hb' := of_decide_eq_false hb
    refine G_no (wN (b := true) rfl (congrArg Value.bool hb)) rfl ?_
    refine G_no (wN (b := true) rfl (congrArg Value.bool hb)) rfl ?_
    refine L_y rfl (Y_pickF (congrArg Value.bool hb)) ?_
    refine L_nil ?_
    refine Th_n ?_
    refine W_false rfl ?_
    refine W_exit ?_
    refine Th_x ?_
    refine Th_x ?_
    refine InB_hit ?_
    refine Th_n ?_
    refine W_seq ?_
    refine W_seq ?_
    refine W_rg ?_
    refine L_mv rfl ?_
    refine L_y rfl (Y_lenS T_sl42 e_2_0) ?_
    refine L_y rfl (Y_gtr (k := .i64) (a := ((m : Nat) : Int)) (b := ((500 : Nat) : Int)) rfl rfl) ?_
    refine L_mv rfl ?_
    rcases Bool.eq_false_or_eq_true (decide (((500 : Nat) : Int) < ((m : Nat) : Int))) with hb_3 | hb_3
    ·
      have hb_3' := of_decide_eq_true hb_3
      refine G_no (wN (b := false) rfl (congrArg Value.bool hb_3)) rfl ?_
      refine G_no (wN (b := false) rfl (congrArg Value.bool hb_3)) rfl ?_
      refine L_y rfl (Y_pickT (congrArg Value.bool hb_3)) ?_
      refine L_nil ?_
      refine Th_n ?_
      refine W_true rfl ?_
      refine W_seq ?_
      refine W_rg ?_
      refine L_callv rfl rfl T_en7 (A0) (known_n _) ?_
      rintro _ w_5 ⟨rfl, hkp_3⟩; refine ⟨_, rfl, ?_⟩; have H_5 := H_2.keep hkp_3
      refine L_as rfl ?_
      refine L_nil ?_
      refine Th_n ?_
      refine W_ret ?_
      refine Th_r ?_
      refine P_ret (vs := [Value.bool true]) (v := Value.bool true) rfl (.tmp rfl (Res.nil)) rfl ?_
      refine ⟨?_, H_5.nil_⟩
      rfl
    ·
      have hb_3' := of_decide_eq_false hb_3
      refine G_mv (wE rfl (congrArg Value.bool hb_3)) rfl ?_
      refine G_y (wE rfl (congrArg Value.bool hb_3)) rfl (Y_gtr (k := .i64) (a := ((s0 : Nat) : Int)) (b := ((1048576 : Nat) : Int)) e_2_3 rfl) ?_
      refine L_y rfl (Y_pickF (congrArg Value.bool hb_3)) ?_
      refine L_nil ?_
      refine Th_n ?_
      refine W_cond (b := (decide (((1048576 : Nat) : Int) < ((s0 : Nat) : Int)))) rfl (fun hc_2 => ?_) (fun hc_2 => ?_)
      ·
        have hc_2' := of_decide_eq_true hc_2
        refine W_seq ?_
        refine W_rg ?_
        refine L_callv rfl rfl T_en7 (A0) (known_n _) ?_
        rintro _ w_6 ⟨rfl, hkp_4⟩; refine ⟨_, rfl, ?_⟩; have H_6 := H_2.keep hkp_4
        refine L_as rfl ?_
        refine L_nil ?_
        refine Th_n ?_
        refine W_ret ?_
        refine Th_r ?_
        refine P_ret (vs := [Value.bool true]) (v := Value.bool true) rfl (.tmp rfl (Res.nil)) rfl ?_
        refine ⟨?_, H_6.nil_⟩
        rfl
      ·
        have hmax : ∀ x ∈ L, x.y.l.length ≤ 1048576 := fun x hx => by have e1 : L.take i = L := List.take_of_length_le (by have := hT.len; have := of_decide_eq_false hc_2; omega); rw [e1] at hs; have := of_decide_eq_false hc_2; have := Nt.sum_mem hx; omega
        have hc_2' := of_decide_eq_false hc_2
        refine W_skip ?_
        refine Th_n ?_
        refine W_seq ?_
        refine W_rg ?_
        refine L_callv rfl rfl T_en8 (A0) (new_n H_2) ?_
        rintro _ w_7 ⟨b46, v46, K46, rfl, f46_0, H_7⟩; refine ⟨_, rfl, ?_⟩
        have H_8 : Hp w0 [] w_7 (Ent.blk b46 51 #[v46] :: Ent.own v46 31 3 K46.length (rows K46) :: (nest 5 K46 ++ ([] : List Ent))) := Hp.chunk [Ent.blk b46 51 #[v46], Ent.own v46 31 3 K46.length (rows K46)] (nest 5 K46) [] ([] : List Ent) H_7
        have kK46 := f46_0
        have okK46 : Nt.ok (keys K46) := by rw [kK46]; exact Nt.ok_nil
        refine L_as rfl ?_
        refine L_nil ?_
        refine Th_n ?_
        refine W_seq ?_
        refine W_rg ?_
        refine L_y rfl (Y_build (pv := []) (cs := #[Value.slice none 0 0]) Bp0 (by kernel_rfl)) ?_
        refine L_box rfl H_8 rfl (cs := #[Value.slice none 0 0]) rfl ?_; intro bk48 w_8 H_9
        have H_10 : Hp w0 [] w_8 (Ent.blk bk48 47 #[Value.slice none 0 0] :: Ent.own (Value.slice none 0 0) 31 3 0 (rows []) :: Ent.blk b46 51 #[v46] :: Ent.own v46 31 3 K46.length (rows K46) :: (nest 5 K46 ++ ([] : List Ent))) := (H_9.nilOwn 31 3).perm (List.Perm.swap _ _ _)
        refine L_as rfl ?_
        refine L_nil ?_
        refine Th_n ?_
        refine W_seq ?_
        refine W_seq ?_
        refine W_rg ?_
        refine L_as rfl ?_
        refine L_nil ?_
        refine Th_n ?_
        refine W_block ?_
        obtain ⟨K0, hK0⟩ : ∃ K_ : List Lt, K_ = [] := ⟨_, rfl⟩
        have kK0 : keys K0 = [] := by rw [hK0]; rfl
        have okK0 : Nt.ok (keys K0) := by rw [kK0]; exact Nt.ok_nil
        have H_11 : Hp w0 [] w_8 (Ent.blk bk48 47 #[Value.slice none 0 0] :: Ent.own (Value.slice none 0 0) 31 3 K0.length (rows K0) :: Ent.blk b46 51 #[v46] :: Ent.own v46 31 3 K46.length (rows K46) :: (nest 5 K0 ++ (nest 5 K46 ++ ([] : List Ent)))) := by subst hK0; exact H_10
        have H_12 : Hp w0 [] w_8 (Ent.blk bk48 47 #[Value.slice none 0 0] :: Ent.own (Value.slice none 0 0) 31 3 K0.length (rows K0) :: Ent.blk b46 51 #[v46] :: Ent.own v46 31 3 K46.length (rows K46) :: (nest 5 K46 ++ (nest 5 K0 ++ ([] : List Ent)))) := Hp.chunk [Ent.blk bk48 47 #[Value.slice none 0 0], Ent.own (Value.slice none 0 0) 31 3 K0.length (rows K0), Ent.blk b46 51 #[v46], Ent.own v46 31 3 K46.length (rows K46)] (nest 5 K0) (nest 5 K46) ([] : List Ent) H_11
        refine W_loop (fun mu_ e w => ∃ i : Nat, ∃ bp : Nat, ∃ vp : Value, ∃ vr : Value, ∃ K : List Lt, ∃ R : List Lt, mu_ = m - i ∧ e 0 = Value.slice a m c ∧ e 5 = Value.pointer (some ⟨bp, 0, none⟩) ∧ e 6 = Value.pointer (some ⟨bk48, 0, none⟩) ∧ e 7 = Value.int .i64 ((i : Nat) : Int) ∧ Hp w0 [] w (Ent.blk bp 51 #[vp] :: Ent.own vp 31 3 K.length (rows K) :: Ent.blk bk48 47 #[vr] :: Ent.own vr 31 3 R.length (rows R) :: (nest 5 K ++ (nest 5 R ++ ([] : List Ent)))) ∧ Nt.ok (keys K) ∧ Nt.ok (keys R) ∧ keys K = keys R ∧ i ≤ m) _ ⟨0, b46, _, _, K46, K0, rfl, e_2_0, rfl, rfl, rfl, ((((H_12.pull 1 rfl).pull 1 rfl).pull 3 rfl).pull 3 rfl), okK46, okK0, (by rw [kK46, kK0]), (Nat.zero_le _)⟩ ?_
        rintro mu_ e_3 w_9 ⟨i, bp, vp, vr, K, R, rfl, e_3_0, e_3_5, e_3_6, e_3_7, H_13, okK, okR, hKR, hi⟩
        refine W_seq ?_
        refine W_seq ?_
        refine W_rg ?_
        refine L_mv rfl ?_
        refine L_mv rfl ?_
        refine L_y rfl (Y_lenS T_sl42 e_3_0) ?_
        refine L_y rfl (Y_lss (k := .i64) (a := ((i : Nat) : Int)) (b := ((m : Nat) : Int)) e_3_7 rfl) ?_
        refine L_nil ?_
        refine Th_n ?_
        refine W_cond (b := (decide (((i : Nat) : Int) < ((m : Nat) : Int)))) rfl (fun hc_3 => ?_) (fun hc_3 => ?_)
        ·
          have hc_3' := of_decide_eq_true hc_3
          refine W_skip ?_
          refine Th_n ?_
          refine W_seq ?_
          refine W_block ?_
          refine W_seq ?_
          refine W_rg ?_
          refine L_as rfl ?_
          refine L_nil ?_
          refine Th_n ?_
          refine W_seq ?_
          refine W_seq ?_
          refine W_rg ?_
          refine L_mv rfl ?_
          refine L_mv rfl ?_
          obtain ⟨el57, hel57⟩ := hT.at (j := i) (by omega)
          have gel57 := hg el57 (List.mem_of_getElem? hel57)
          have bel57 := gel57.big
          have hmel57 := hmax el57 (List.mem_of_getElem? hel57)
          refine L_y rfl (Y_idxT (j := i) T_sl42 (hT.hp H_13) hel57 e_3_0 e_3_7 rfl) ?_
          refine L_y rfl (Y_fldT T_fld44_0 rfl (hT.hp H_13) hel57 rfl) ?_
          refine L_y rfl (Y_ldT (j := i) (off := 0) T_scal3 (hT.hp H_13) hel57 rfl rfl rfl) ?_
          refine L_nil ?_
          refine Th_n ?_
          refine W_block ?_
          refine W_seq ?_
          refine W_rg ?_
          refine L_y rfl (Y_eql (k := .i64) (a := el57.kind) (b := ((0 : Nat) : Int)) rfl rfl) ?_
          refine L_as rfl ?_
          refine L_nil ?_
          refine Th_n ?_
          refine W_cond (b := (el57.kind == ((0 : Nat) : Int))) rfl (fun hc_4 => ?_) (fun hc_4 => ?_)
          ·
            have hc_4' := eq_of_beq hc_4
            refine W_seq ?_
            refine W_rg ?_
            refine L_mv rfl ?_
            refine L_mv rfl ?_
            refine L_y rfl (Y_idxT (j := i) T_sl42 (hT.hp H_13) hel57 e_3_0 e_3_7 rfl) ?_
            refine L_y rfl (Y_fldT T_fld44_2 rfl (hT.hp H_13) hel57 rfl) ?_
            refine L_y rfl (Y_ldTg (j := i) (off := 2) T_row31 (hT.hp H_13) hel57 rfl rfl rfl rfl) ?_
            refine L_alloc rfl H_13 T_zero31 ?_; intro bk9 w_10 H_14
            refine L_str (ds := #[Value.int .i64 (el57.y.f), Value.int .i64 (el57.y.t), Value.slice el57.y.a el57.y.l.length el57.y.c]) T_row31 H_14 (i := 0) rfl rfl rfl rfl rfl (allOne3 _ _ _ _ _) (l' := (Ent.blk bk9 31 #[Value.int .i64 (el57.y.f), Value.int .i64 (el57.y.t), Value.slice el57.y.a el57.y.l.length el57.y.c] :: Ent.blk bp 51 #[vp] :: Ent.own vp 31 3 K.length (rows K) :: Ent.blk bk48 47 #[vr] :: Ent.own vr 31 3 R.length (rows R) :: (nest 5 K ++ (nest 5 R ++ ([] : List Ent))))) rfl ?_; intro w_11 H_15
            refine L_nil ?_
            refine Th_n ?_
            refine W_seq ?_
            refine W_rg ?_
            refine L_bsl (cs := ua .u8 []) rfl H_15 (pv := []) T_sl29 T_zero5 rfl Bp0 (by kernel_rfl) ?_; intro bk67 w_12 H_16
            have H_17 : Hp w0 [] w_12 (Ent.own (Value.slice (some ⟨bk67, 0, none⟩) 0 0) 5 1 0 (us .u8 []) :: Ent.blk bk9 31 #[Value.int .i64 (el57.y.f), Value.int .i64 (el57.y.t), Value.slice el57.y.a el57.y.l.length el57.y.c] :: Ent.blk bp 51 #[vp] :: Ent.own vp 31 3 K.length (rows K) :: Ent.blk bk48 47 #[vr] :: Ent.own vr 31 3 R.length (rows R) :: (nest 5 K ++ (nest 5 R ++ ([] : List Ent)))) := H_16.say (i := 0) (x' := .own (Value.slice (some ⟨bk67, 0, none⟩) 0 0) 5 1 0 (us .u8 [])) rfl (own_of_blk (Nat.le_refl _) (by decide) rfl rfl) (fun _ h => h) rfl
            refine L_mv rfl ?_
            refine L_mv rfl ?_
            refine L_y rfl (Y_idxT (j := i) T_sl42 (hT.hp H_17) hel57 e_3_0 e_3_7 rfl) ?_
            refine L_y rfl (Y_fldT T_fld44_2 rfl (hT.hp H_17) hel57 rfl) ?_
            refine L_y rfl (Y_fldT T_fld31_2 rfl (hT.hp H_17) hel57 rfl) ?_
            refine L_y rfl (Y_ldT (j := i) (off := 4) T_scal29 (hT.hp H_17) hel57 rfl rfl rfl) ?_
            refine L_appL rfl H_17 (i := 0) rfl T_sl29 T_zero5 rfl T_szb5 rfl rfl (gel57.sl.hp H_17) (by omega) ?_; intro v74 w_13 Hx
            have H_18 : Hp w0 [] w_13 (Ent.own v74 5 1 el57.y.l.length (us .u8 el57.y.l) :: Ent.blk bk9 31 #[Value.int .i64 (el57.y.f), Value.int .i64 (el57.y.t), Value.slice el57.y.a el57.y.l.length el57.y.c] :: Ent.blk bp 51 #[vp] :: Ent.own vp 31 3 K.length (rows K) :: Ent.blk bk48 47 #[vr] :: Ent.own vr 31 3 R.length (rows R) :: (nest 5 K ++ (nest 5 R ++ ([] : List Ent)))) := by have h := Hx; simp only [Nat.zero_add] at h; exact h
            refine L_y rfl (Y_fld T_fld31_2 rfl rfl rfl) ?_
            refine Exists.elim (Sl.opn H_18 (i := 0) rfl) fun a_ hx_ => Exists.elim hx_ fun c_ hv => ?_
            have H_19 : Hp w0 [] w_13 (Ent.own (Value.slice a_ el57.y.l.length c_) 5 1 el57.y.l.length (us .u8 el57.y.l) :: Ent.blk bk9 31 #[Value.int .i64 (el57.y.f), Value.int .i64 (el57.y.t), Value.slice el57.y.a el57.y.l.length el57.y.c] :: Ent.blk bp 51 #[vp] :: Ent.own vp 31 3 K.length (rows K) :: Ent.blk bk48 47 #[vr] :: Ent.own vr 31 3 R.length (rows R) :: (nest 5 K ++ (nest 5 R ++ ([] : List Ent)))) := by have h := H_18; rw [hv] at h; exact h
            refine L_st (v := Value.slice a_ el57.y.l.length c_) T_scal29 H_19 (i := 1) rfl rfl (Eq.trans rfl hv) rfl (Nat.le_of_ble_eq_true rfl) (l' := (Ent.own (Value.slice a_ el57.y.l.length c_) 5 1 el57.y.l.length (us .u8 el57.y.l) :: Ent.blk bk9 31 #[Value.int .i64 (el57.y.f), Value.int .i64 (el57.y.t), Value.slice a_ el57.y.l.length c_] :: Ent.blk bp 51 #[vp] :: Ent.own vp 31 3 K.length (rows K) :: Ent.blk bk48 47 #[vr] :: Ent.own vr 31 3 R.length (rows R) :: (nest 5 K ++ (nest 5 R ++ ([] : List Ent))))) rfl ?_; intro w_14 H_20
            refine L_nil ?_
            refine Th_n ?_
            refine W_seq ?_
            refine W_anyS 22 [2, 9, 14] [] [] [Value.pointer (some ⟨bp, 0, none⟩), Value.agg #[Value.int .i64 (el57.y.f), Value.int .i64 (el57.y.t), Value.slice a_ el57.y.l.length c_], Value.int .i64 ((Nt.scode (keys K) el57.y.l.length : Nat) : Int), Value.pointer (some ⟨bk48, 0, none⟩), Value.slice a m c, Value.int .i64 ((i : Nat) : Int), pl a (i * 5 + 0), pl a (i * 5 + 0 + 2), Value.agg #[Value.int .i64 (el57.y.f), Value.int .i64 (el57.y.t), Value.slice el57.y.a el57.y.l.length el57.y.c], Value.int .i64 ((Nt.scode (keys R) el57.y.l.length : Nat) : Int), Value.bool (((Nt.scode (keys K) el57.y.l.length : Nat) : Int) == ((Nt.scode (keys R) el57.y.l.length : Nat) : Int)), Value.bool (((Nt.scode (keys K) el57.y.l.length : Nat) : Int) == ((Nt.scode (keys R) el57.y.l.length : Nat) : Int)), Value.pointer (some ⟨bk9, 2, none⟩), Value.slice a_ el57.y.l.length c_, Value.string (bs el57.y.l), Value.slice a m c, Value.int .i64 ((i : Nat) : Int), pl a (i * 5 + 0), pl a (i * 5 + 0 + 2), pl a (i * 5 + 0 + 2 + 2), Value.slice el57.y.a el57.y.l.length el57.y.c, Value.string (bs el57.y.l)] (fun w => w.heap[bk9]? = some (.cells #[Value.int .i64 (el57.y.f), Value.int .i64 (el57.y.t), Value.slice a_ el57.y.l.length c_] 31 (0, 0)) ∧ Stay w0 w) [fun vs w => Hp w0 [] w (Ent.own (Value.slice a_ el57.y.l.length c_) 5 1 el57.y.l.length (us .u8 el57.y.l) :: Ent.blk bk9 31 #[Value.int .i64 (el57.y.f), Value.int .i64 (el57.y.t), Value.slice a_ el57.y.l.length c_] :: Ent.blk bp 51 #[vp] :: Ent.own vp 31 3 K.length (rows K) :: Ent.blk bk48 47 #[vr] :: Ent.own vr 31 3 R.length (rows R) :: (nest 5 K ++ (nest 5 R ++ ([] : List Ent)))), fun vs w => ∃ v78_, ∃ K78'_, keys K78'_ = Nt.send (keys K) (el57.y.f, el57.y.t, el57.y.l) ∧ Hp w0 [] w (Ent.own (Value.slice a_ el57.y.l.length c_) 5 1 el57.y.l.length (us .u8 el57.y.l) :: Ent.blk bk9 31 #[Value.int .i64 (el57.y.f), Value.int .i64 (el57.y.t), Value.slice a_ el57.y.l.length c_] :: Ent.blk bp 51 #[v78_] :: Ent.own v78_ 31 3 K78'_.length (rows K78'_) :: Ent.blk bk48 47 #[vr] :: Ent.own vr 31 3 R.length (rows R) :: (nest 5 K78'_ ++ (nest 5 R ++ ([] : List Ent)))), fun _ _ => False, fun vs w => ∃ v78_, ∃ K78'_, ∃ v85_, ∃ K85'_, keys K78'_ = Nt.send (keys K) (el57.y.f, el57.y.t, el57.y.l) ∧ keys K85'_ = Nt.send (keys R) (el57.y.f, el57.y.t, el57.y.l) ∧ Hp w0 [] w (Ent.own (Value.slice a_ el57.y.l.length c_) 5 1 el57.y.l.length (us .u8 el57.y.l) :: Ent.blk bk9 31 #[Value.int .i64 (el57.y.f), Value.int .i64 (el57.y.t), Value.slice a_ el57.y.l.length c_] :: Ent.blk bp 51 #[v78_] :: Ent.own v78_ 31 3 K78'_.length (rows K78'_) :: Ent.blk bk48 47 #[v85_] :: Ent.own v85_ 31 3 K85'_.length (rows K85'_) :: (nest 5 K78'_ ++ (nest 5 K85'_ ++ ([] : List Ent)))), fun vs w => Hp w0 [] w (Ent.own (Value.slice a_ el57.y.l.length c_) 5 1 el57.y.l.length (us .u8 el57.y.l) :: Ent.blk bk9 31 #[Value.int .i64 (el57.y.f), Value.int .i64 (el57.y.t), Value.slice a_ el57.y.l.length c_] :: Ent.blk bp 51 #[vp] :: Ent.own vp 31 3 K.length (rows K) :: Ent.blk bk48 47 #[vr] :: Ent.own vr 31 3 R.length (rows R) :: (nest 5 K ++ (nest 5 R ++ ([] : List Ent)))), fun vs w => ∃ v78_, ∃ K78'_, keys K78'_ = Nt.send (keys K) (el57.y.f, el57.y.t, el57.y.l) ∧ Hp w0 [] w (Ent.own (Value.slice a_ el57.y.l.length c_) 5 1 el57.y.l.length (us .u8 el57.y.l) :: Ent.blk bk9 31 #[Value.int .i64 (el57.y.f), Value.int .i64 (el57.y.t), Value.slice a_ el57.y.l.length c_] :: Ent.blk bp 51 #[v78_] :: Ent.own v78_ 31 3 K78'_.length (rows K78'_) :: Ent.blk bk48 47 #[vr] :: Ent.own vr 31 3 R.length (rows R) :: (nest 5 K78'_ ++ (nest 5 R ++ ([] : List Ent)))), fun _ _ => False, fun vs w => ∃ v78_, ∃ K78'_, ∃ v85_, ∃ K85'_, keys K78'_ = Nt.send (keys K) (el57.y.f, el57.y.t, el57.y.l) ∧ keys K85'_ = Nt.send (keys R) (el57.y.f, el57.y.t, el57.y.l) ∧ Hp w0 [] w (Ent.own (Value.slice a_ el57.y.l.length c_) 5 1 el57.y.l.length (us .u8 el57.y.l) :: Ent.blk bk9 31 #[Value.int .i64 (el57.y.f), Value.int .i64 (el57.y.t), Value.slice a_ el57.y.l.length c_] :: Ent.blk bp 51 #[v78_] :: Ent.own v78_ 31 3 K78'_.length (rows K78'_) :: Ent.blk bk48 47 #[v85_] :: Ent.own v85_ 31 3 K85'_.length (rows K85'_) :: (nest 5 K78'_ ++ (nest 5 K85'_ ++ ([] : List Ent))))] T_mixed (by kernel_rfl) ⟨fun _ _ H => ⟨H.get 1 rfl, H.stay⟩, fun _ _ h => by obtain ⟨_, _, _, H⟩ := h; exact ⟨H.get 1 rfl, H.stay⟩, fun _ _ h => h.elim, fun _ _ h => by obtain ⟨_, _, _, _, _, _, H⟩ := h; exact ⟨H.get 1 rfl, H.stay⟩, fun _ _ H => ⟨H.get 1 rfl, H.stay⟩, fun _ _ h => by obtain ⟨_, _, _, H⟩ := h; exact ⟨H.get 1 rfl, H.stay⟩, fun _ _ h => h.elim, fun _ _ h => by obtain ⟨_, _, _, _, _, _, H⟩ := h; exact ⟨H.get 1 rfl, H.stay⟩, trivial⟩ ⟨fun _ _ _ hkp H => H.keep hkp, fun _ _ _ hkp h => by obtain ⟨q0, q1, q2, H⟩ := h; exact ⟨q0, q1, q2, H.keep hkp⟩, fun _ _ _ _ h => h.elim, fun _ _ _ hkp h => by obtain ⟨q0, q1, q2, q3, q4, q5, H⟩ := h; exact ⟨q0, q1, q2, q3, q4, q5, H.keep hkp⟩, fun _ _ _ hkp H => H.keep hkp, fun _ _ _ hkp h => by obtain ⟨q0, q1, q2, H⟩ := h; exact ⟨q0, q1, q2, H.keep hkp⟩, fun _ _ _ _ h => h.elim, fun _ _ _ hkp h => by obtain ⟨q0, q1, q2, q3, q4, q5, H⟩ := h; exact ⟨q0, q1, q2, q3, q4, q5, H.keep hkp⟩, trivial⟩ H_20 ?_ ?_
            ·
              refine .plain rfl (Pl_y rfl (fun w hBw => congrArg (fun v => Result.ok (Next.value v) w) e_3_5)) ?_
              refine .plain rfl (Pl_y rfl (fun w hBw => Y_ldrb T_row31 hBw.1 rfl rfl)) ?_
              refine .special 0 rfl (Special.ofD ⟨⟨⟨⟨⟨⟨⟨⟨trivial, fun _ _ _ e' w' hAg hYs => by
                  have H : Hp w0 [] w' (Ent.own (Value.slice a_ el57.y.l.length c_) 5 1 el57.y.l.length (us .u8 el57.y.l) :: Ent.blk bk9 31 #[Value.int .i64 (el57.y.f), Value.int .i64 (el57.y.t), Value.slice a_ el57.y.l.length c_] :: Ent.blk bp 51 #[vp] :: Ent.own vp 31 3 K.length (rows K) :: Ent.blk bk48 47 #[vr] :: Ent.own vr 31 3 R.length (rows R) :: (nest 5 K ++ (nest 5 R ++ ([] : List Ent)))) := hYs
                  exact ⟨rfl, Dn_callv T_en9 (A2 ((hAg 76 rfl).trans rfl) ((hAg 77 rfl).trans rfl)) ((send_n (f := el57.y.f) (t := el57.y.t) (l := el57.y.l) okK gel57.lt (Seen.mono (Seen.own (X := [Ent.own (Value.slice a_ el57.y.l.length c_) 5 1 el57.y.l.length (us .u8 el57.y.l)]) (i := 0) rfl) (fun y hy => by simp only [List.mem_singleton] at hy; subst hy; simp)) (Hp.chunk [Ent.blk bp 51 #[vp], Ent.own vp 31 3 K.length (rows K)] [Ent.own (Value.slice a_ el57.y.l.length c_) 5 1 el57.y.l.length (us .u8 el57.y.l), Ent.blk bk9 31 #[Value.int .i64 (el57.y.f), Value.int .i64 (el57.y.t), Value.slice a_ el57.y.l.length c_], Ent.blk bk48 47 #[vr], Ent.own vr 31 3 R.length (rows R)] (nest 5 K) (nest 5 R ++ ([] : List Ent)) ((H.pull 3 rfl).pull 3 rfl))).mono (fun r_ w2 h => by obtain ⟨v78_, K78'_, rfl, g0_, Hn⟩ := h; exact ⟨_, rfl, ⟨(fun d hd => by cases hd; rfl), ⟨v78_, K78'_, g0_, (((((((Hp.chunk [Ent.blk bp 51 #[v78_], Ent.own v78_ 31 3 K78'_.length (rows K78'_)] (nest 5 K78'_) [Ent.own (Value.slice a_ el57.y.l.length c_) 5 1 el57.y.l.length (us .u8 el57.y.l), Ent.blk bk9 31 #[Value.int .i64 (el57.y.f), Value.int .i64 (el57.y.t), Value.slice a_ el57.y.l.length c_], Ent.blk bk48 47 #[vr], Ent.own vr 31 3 R.length (rows R)] (nest 5 R ++ ([] : List Ent)) Hn).pull 5 rfl).pull 5 rfl).pull 3 rfl).pull 3 rfl).pull 5 rfl).pull 5 rfl)⟩⟩⟩))⟩⟩, fun h => absurd h (by decide)⟩, fun _ _ h => absurd (by decide) (h 1 9 rfl (by decide))⟩, fun h => absurd h (by decide)⟩, fun _ _ _ e' w' hAg hYs => by
                  have H : Hp w0 [] w' (Ent.own (Value.slice a_ el57.y.l.length c_) 5 1 el57.y.l.length (us .u8 el57.y.l) :: Ent.blk bk9 31 #[Value.int .i64 (el57.y.f), Value.int .i64 (el57.y.t), Value.slice a_ el57.y.l.length c_] :: Ent.blk bp 51 #[vp] :: Ent.own vp 31 3 K.length (rows K) :: Ent.blk bk48 47 #[vr] :: Ent.own vr 31 3 R.length (rows R) :: (nest 5 K ++ (nest 5 R ++ ([] : List Ent)))) := hYs
                  exact ⟨rfl, Dn_callv T_en9 (A2 ((hAg 76 rfl).trans rfl) ((hAg 77 rfl).trans rfl)) ((send_n (f := el57.y.f) (t := el57.y.t) (l := el57.y.l) okK gel57.lt (Seen.mono (Seen.own (X := [Ent.own (Value.slice a_ el57.y.l.length c_) 5 1 el57.y.l.length (us .u8 el57.y.l)]) (i := 0) rfl) (fun y hy => by simp only [List.mem_singleton] at hy; subst hy; simp)) (Hp.chunk [Ent.blk bp 51 #[vp], Ent.own vp 31 3 K.length (rows K)] [Ent.own (Value.slice a_ el57.y.l.length c_) 5 1 el57.y.l.length (us .u8 el57.y.l), Ent.blk bk9 31 #[Value.int .i64 (el57.y.f), Value.int .i64 (el57.y.t), Value.slice a_ el57.y.l.length c_], Ent.blk bk48 47 #[vr], Ent.own vr 31 3 R.length (rows R)] (nest 5 K) (nest 5 R ++ ([] : List Ent)) ((H.pull 3 rfl).pull 3 rfl))).mono (fun r_ w2 h => by obtain ⟨v78_, K78'_, rfl, g0_, Hn⟩ := h; exact ⟨_, rfl, ⟨(fun d hd => by cases hd; rfl), ⟨v78_, K78'_, g0_, (((((((Hp.chunk [Ent.blk bp 51 #[v78_], Ent.own v78_ 31 3 K78'_.length (rows K78'_)] (nest 5 K78'_) [Ent.own (Value.slice a_ el57.y.l.length c_) 5 1 el57.y.l.length (us .u8 el57.y.l), Ent.blk bk9 31 #[Value.int .i64 (el57.y.f), Value.int .i64 (el57.y.t), Value.slice a_ el57.y.l.length c_], Ent.blk bk48 47 #[vr], Ent.own vr 31 3 R.length (rows R)] (nest 5 R ++ ([] : List Ent)) Hn).pull 5 rfl).pull 5 rfl).pull 3 rfl).pull 3 rfl).pull 5 rfl).pull 5 rfl)⟩⟩⟩))⟩⟩, fun h => absurd h (by decide)⟩, fun _ _ h => absurd (by decide) (h 1 9 rfl (by decide))⟩, fun h => absurd h (by decide)⟩) ?_
              refine .plain rfl (Pl_y rfl (fun w hBw => congrArg (fun v => Result.ok (Next.value v) w) e_3_6)) ?_
              refine .plain rfl (Pl_y rfl (fun w hBw => congrArg (fun v => Result.ok (Next.value v) w) e_3_0)) ?_
              refine .plain rfl (Pl_y rfl (fun w hBw => congrArg (fun v => Result.ok (Next.value v) w) e_3_7)) ?_
              refine .plain rfl (Pl_y rfl (fun w hBw => Y_idxT (j := i) T_sl42 (hT.stay hBw.2) hel57 rfl rfl rfl)) ?_
              refine .plain rfl (Pl_y rfl (fun w hBw => Y_fldT T_fld44_2 rfl (hT.stay hBw.2) hel57 rfl)) ?_
              refine .plain rfl (Pl_y rfl (fun w hBw => Y_ldTg (j := i) (off := 2) T_row31 (hT.stay hBw.2) hel57 rfl rfl rfl rfl)) ?_
              refine .special 1 rfl (Special.ofD ⟨⟨⟨⟨⟨⟨⟨⟨trivial, fun _ h => absurd (h 0 2 rfl (by decide)) (by decide)⟩, fun _ _ _ e' w' hAg hYs => by
                  obtain ⟨v78_, K78'_, f0_0, H⟩ := hYs
                  exact ⟨rfl, Dn_callv T_en15 (A2 ((hAg 79 rfl).trans rfl) ((hAg 84 rfl).trans rfl)) ((rsend_n (f := el57.y.f) (t := el57.y.t) (l := el57.y.l) okR gel57.lt (Seen.old gel57.sl) (Hp.chunk [Ent.blk bk48 47 #[vr], Ent.own vr 31 3 R.length (rows R)] [Ent.own (Value.slice a_ el57.y.l.length c_) 5 1 el57.y.l.length (us .u8 el57.y.l), Ent.blk bk9 31 #[Value.int .i64 (el57.y.f), Value.int .i64 (el57.y.t), Value.slice a_ el57.y.l.length c_], Ent.blk bp 51 #[v78_], Ent.own v78_ 31 3 K78'_.length (rows K78'_)] (nest 5 R) (nest 5 K78'_ ++ ([] : List Ent)) (Hp.chunk [Ent.blk bk48 47 #[vr], Ent.own vr 31 3 R.length (rows R), Ent.own (Value.slice a_ el57.y.l.length c_) 5 1 el57.y.l.length (us .u8 el57.y.l), Ent.blk bk9 31 #[Value.int .i64 (el57.y.f), Value.int .i64 (el57.y.t), Value.slice a_ el57.y.l.length c_], Ent.blk bp 51 #[v78_], Ent.own v78_ 31 3 K78'_.length (rows K78'_)] (nest 5 K78'_) (nest 5 R) ([] : List Ent) ((H.pull 5 rfl).pull 5 rfl)))).mono (fun r_ w2 h => by obtain ⟨v85_, K85'_, rfl, g0_, Hn⟩ := h; exact ⟨_, rfl, ⟨(fun d hd => by cases hd; rfl), ⟨v78_, K78'_, v85_, K85'_, f0_0, g0_, (((((((Hp.chunk [Ent.blk bk48 47 #[v85_], Ent.own v85_ 31 3 K85'_.length (rows K85'_), Ent.own (Value.slice a_ el57.y.l.length c_) 5 1 el57.y.l.length (us .u8 el57.y.l), Ent.blk bk9 31 #[Value.int .i64 (el57.y.f), Value.int .i64 (el57.y.t), Value.slice a_ el57.y.l.length c_], Ent.blk bp 51 #[v78_], Ent.own v78_ 31 3 K78'_.length (rows K78'_)] (nest 5 K85'_) (nest 5 K78'_) ([] : List Ent) (Hp.chunk [Ent.blk bk48 47 #[v85_], Ent.own v85_ 31 3 K85'_.length (rows K85'_)] (nest 5 K85'_) [Ent.own (Value.slice a_ el57.y.l.length c_) 5 1 el57.y.l.length (us .u8 el57.y.l), Ent.blk bk9 31 #[Value.int .i64 (el57.y.f), Value.int .i64 (el57.y.t), Value.slice a_ el57.y.l.length c_], Ent.blk bp 51 #[v78_], Ent.own v78_ 31 3 K78'_.length (rows K78'_)] (nest 5 K78'_ ++ ([] : List Ent)) Hn)).pull 1 rfl).pull 1 rfl).pull 5 rfl).pull 5 rfl).pull 5 rfl).pull 5 rfl)⟩⟩⟩))⟩⟩, fun h => absurd h (by decide)⟩, fun h => absurd h (by decide)⟩, fun _ h => absurd (h 0 2 rfl (by decide)) (by decide)⟩, fun _ _ _ e' w' hAg hYs => by
                  obtain ⟨v78_, K78'_, f0_0, H⟩ := hYs
                  exact ⟨rfl, Dn_callv T_en15 (A2 ((hAg 79 rfl).trans rfl) ((hAg 84 rfl).trans rfl)) ((rsend_n (f := el57.y.f) (t := el57.y.t) (l := el57.y.l) okR gel57.lt (Seen.old gel57.sl) (Hp.chunk [Ent.blk bk48 47 #[vr], Ent.own vr 31 3 R.length (rows R)] [Ent.own (Value.slice a_ el57.y.l.length c_) 5 1 el57.y.l.length (us .u8 el57.y.l), Ent.blk bk9 31 #[Value.int .i64 (el57.y.f), Value.int .i64 (el57.y.t), Value.slice a_ el57.y.l.length c_], Ent.blk bp 51 #[v78_], Ent.own v78_ 31 3 K78'_.length (rows K78'_)] (nest 5 R) (nest 5 K78'_ ++ ([] : List Ent)) (Hp.chunk [Ent.blk bk48 47 #[vr], Ent.own vr 31 3 R.length (rows R), Ent.own (Value.slice a_ el57.y.l.length c_) 5 1 el57.y.l.length (us .u8 el57.y.l), Ent.blk bk9 31 #[Value.int .i64 (el57.y.f), Value.int .i64 (el57.y.t), Value.slice a_ el57.y.l.length c_], Ent.blk bp 51 #[v78_], Ent.own v78_ 31 3 K78'_.length (rows K78'_)] (nest 5 K78'_) (nest 5 R) ([] : List Ent) ((H.pull 5 rfl).pull 5 rfl)))).mono (fun r_ w2 h => by obtain ⟨v85_, K85'_, rfl, g0_, Hn⟩ := h; exact ⟨_, rfl, ⟨(fun d hd => by cases hd; rfl), ⟨v78_, K78'_, v85_, K85'_, f0_0, g0_, (((((((Hp.chunk [Ent.blk bk48 47 #[v85_], Ent.own v85_ 31 3 K85'_.length (rows K85'_), Ent.own (Value.slice a_ el57.y.l.length c_) 5 1 el57.y.l.length (us .u8 el57.y.l), Ent.blk bk9 31 #[Value.int .i64 (el57.y.f), Value.int .i64 (el57.y.t), Value.slice a_ el57.y.l.length c_], Ent.blk bp 51 #[v78_], Ent.own v78_ 31 3 K78'_.length (rows K78'_)] (nest 5 K85'_) (nest 5 K78'_) ([] : List Ent) (Hp.chunk [Ent.blk bk48 47 #[v85_], Ent.own v85_ 31 3 K85'_.length (rows K85'_)] (nest 5 K85'_) [Ent.own (Value.slice a_ el57.y.l.length c_) 5 1 el57.y.l.length (us .u8 el57.y.l), Ent.blk bk9 31 #[Value.int .i64 (el57.y.f), Value.int .i64 (el57.y.t), Value.slice a_ el57.y.l.length c_], Ent.blk bp 51 #[v78_], Ent.own v78_ 31 3 K78'_.length (rows K78'_)] (nest 5 K78'_ ++ ([] : List Ent)) Hn)).pull 1 rfl).pull 1 rfl).pull 5 rfl).pull 5 rfl).pull 5 rfl).pull 5 rfl)⟩⟩⟩))⟩⟩, fun h => absurd h (by decide)⟩, fun h => absurd h (by decide)⟩) ?_
              refine .plain rfl (Pl_y rfl (fun w hBw => Y_eql (k := .i64) (a := ((Nt.scode (keys K) el57.y.l.length : Nat) : Int)) (b := ((Nt.scode (keys R) el57.y.l.length : Nat) : Int)) rfl rfl)) ?_
              refine .plain rfl (Pl_y rfl (fun w hBw => rfl)) ?_
              refine .plain rfl (Pl_y (wE rfl (congrArg Value.bool ((by rw [hKR]; simp) : (((Nt.scode (keys K) el57.y.l.length : Nat) : Int) == ((Nt.scode (keys R) el57.y.l.length : Nat) : Int)) = true))) (fun w hBw => Y_fld T_fld31_2 rfl rfl rfl)) ?_
              refine .plain rfl (Pl_y (wE rfl (congrArg Value.bool ((by rw [hKR]; simp) : (((Nt.scode (keys K) el57.y.l.length : Nat) : Int) == ((Nt.scode (keys R) el57.y.l.length : Nat) : Int)) = true))) (fun w hBw => Y_ldb T_scal29 hBw.1 rfl rfl)) ?_
              refine .special 2 rfl (Special.ofD ⟨⟨⟨⟨⟨⟨⟨⟨trivial, fun _ _ _ e' w' hAg hYs => by
                  have H : Hp w0 [] w' (Ent.own (Value.slice a_ el57.y.l.length c_) 5 1 el57.y.l.length (us .u8 el57.y.l) :: Ent.blk bk9 31 #[Value.int .i64 (el57.y.f), Value.int .i64 (el57.y.t), Value.slice a_ el57.y.l.length c_] :: Ent.blk bp 51 #[vp] :: Ent.own vp 31 3 K.length (rows K) :: Ent.blk bk48 47 #[vr] :: Ent.own vr 31 3 R.length (rows R) :: (nest 5 K ++ (nest 5 R ++ ([] : List Ent)))) := hYs
                  exact ⟨(wE rfl (congrArg Value.bool ((by rw [hKR]; simp) : (((Nt.scode (keys K) el57.y.l.length : Nat) : Int) == ((Nt.scode (keys R) el57.y.l.length : Nat) : Int)) = true))), Yl.dn (Y_strL Try.underlying29 Try.underlying5 Try.underlying9 ((hAg 89 rfl).trans rfl) (Sl.own H (i := 0) rfl)) ⟨(fun d hd => by cases hd; rfl), H⟩⟩⟩, fun _ _ _ e' w' hAg hYs => by
                  obtain ⟨v78_, K78'_, f0_0, H⟩ := hYs
                  exact ⟨(wE rfl (congrArg Value.bool ((by rw [hKR]; simp) : (((Nt.scode (keys K) el57.y.l.length : Nat) : Int) == ((Nt.scode (keys R) el57.y.l.length : Nat) : Int)) = true))), Yl.dn (Y_strL Try.underlying29 Try.underlying5 Try.underlying9 ((hAg 89 rfl).trans rfl) (Sl.own H (i := 0) rfl)) ⟨(fun d hd => by cases hd; rfl), ⟨v78_, K78'_, f0_0, H⟩⟩⟩⟩, fun _ _ _ _ _ _ h => h.elim⟩, fun _ _ _ e' w' hAg hYs => by
                  obtain ⟨v78_, K78'_, v85_, K85'_, f0_0, f1_0, H⟩ := hYs
                  exact ⟨(wE rfl (congrArg Value.bool ((by rw [hKR]; simp) : (((Nt.scode (keys K) el57.y.l.length : Nat) : Int) == ((Nt.scode (keys R) el57.y.l.length : Nat) : Int)) = true))), Yl.dn (Y_strL Try.underlying29 Try.underlying5 Try.underlying9 ((hAg 89 rfl).trans rfl) (Sl.own H (i := 0) rfl)) ⟨(fun d hd => by cases hd; rfl), ⟨v78_, K78'_, v85_, K85'_, f0_0, f1_0, H⟩⟩⟩⟩, fun h => absurd h (by decide)⟩, fun h => absurd h (by decide)⟩, fun h => absurd h (by decide)⟩, fun h => absurd h (by decide)⟩) ?_
              refine .plain rfl (Pl_y (wE rfl (congrArg Value.bool ((by rw [hKR]; simp) : (((Nt.scode (keys K) el57.y.l.length : Nat) : Int) == ((Nt.scode (keys R) el57.y.l.length : Nat) : Int)) = true))) (fun w hBw => congrArg (fun v => Result.ok (Next.value v) w) e_3_0)) ?_
              refine .plain rfl (Pl_y (wE rfl (congrArg Value.bool ((by rw [hKR]; simp) : (((Nt.scode (keys K) el57.y.l.length : Nat) : Int) == ((Nt.scode (keys R) el57.y.l.length : Nat) : Int)) = true))) (fun w hBw => congrArg (fun v => Result.ok (Next.value v) w) e_3_7)) ?_
              refine .plain rfl (Pl_y (wE rfl (congrArg Value.bool ((by rw [hKR]; simp) : (((Nt.scode (keys K) el57.y.l.length : Nat) : Int) == ((Nt.scode (keys R) el57.y.l.length : Nat) : Int)) = true))) (fun w hBw => Y_idxT (j := i) T_sl42 (hT.stay hBw.2) hel57 rfl rfl rfl)) ?_
              refine .plain rfl (Pl_y (wE rfl (congrArg Value.bool ((by rw [hKR]; simp) : (((Nt.scode (keys K) el57.y.l.length : Nat) : Int) == ((Nt.scode (keys R) el57.y.l.length : Nat) : Int)) = true))) (fun w hBw => Y_fldT T_fld44_2 rfl (hT.stay hBw.2) hel57 rfl)) ?_
              refine .plain rfl (Pl_y (wE rfl (congrArg Value.bool ((by rw [hKR]; simp) : (((Nt.scode (keys K) el57.y.l.length : Nat) : Int) == ((Nt.scode (keys R) el57.y.l.length : Nat) : Int)) = true))) (fun w hBw => Y_fldT T_fld31_2 rfl (hT.stay hBw.2) hel57 rfl)) ?_
              refine .plain rfl (Pl_y (wE rfl (congrArg Value.bool ((by rw [hKR]; simp) : (((Nt.scode (keys K) el57.y.l.length : Nat) : Int) == ((Nt.scode (keys R) el57.y.l.length : Nat) : Int)) = true))) (fun w hBw => Y_ldT (j := i) (off := 4) T_scal29 (hT.stay hBw.2) hel57 rfl rfl rfl)) ?_
              refine .plain rfl (Pl_y (wE rfl (congrArg Value.bool ((by rw [hKR]; simp) : (((Nt.scode (keys K) el57.y.l.length : Nat) : Int) == ((Nt.scode (keys R) el57.y.l.length : Nat) : Int)) = true))) (fun w hBw => Y_strL Try.underlying29 Try.underlying5 Try.underlying9 rfl (gel57.sl.stay hBw.2))) ?_
              exact .nil _
            ·
              intro e_4 w_15 hAg hYs
              obtain ⟨v78_, K78'_, v85_, K85'_, f0_0, f1_0, H_21⟩ := hYs
              have kK78'_ := f0_0
              have okK78'_ : Nt.ok (keys K78'_) := by rw [kK78'_]; exact (okK).send gel57.lt
              have kK85'_ := f1_0
              have okK85'_ : Nt.ok (keys K85'_) := by rw [kK85'_]; exact (okR).send gel57.lt
              have e_4_0 : e_4 0 = Value.slice a m c := (hAg 0 rfl).trans e_3_0
              have e_4_5 : e_4 5 = Value.pointer (some ⟨bp, 0, none⟩) := (hAg 5 rfl).trans e_3_5
              have e_4_6 : e_4 6 = Value.pointer (some ⟨bk48, 0, none⟩) := (hAg 6 rfl).trans e_3_6
              have e_4_7 : e_4 7 = Value.int .i64 ((i : Nat) : Int) := (hAg 7 rfl).trans e_3_7
              have e_4_9 : e_4 9 = Value.pointer (some ⟨bk9, 0, none⟩) := (hAg 9 rfl).trans rfl
              have e_4_87 : e_4 87 = Value.bool (((Nt.scode (keys K) el57.y.l.length : Nat) : Int) == ((Nt.scode (keys R) el57.y.l.length : Nat) : Int)) := (hAg 87 rfl).trans rfl
              have e_4_90 : e_4 90 = Value.string (bs el57.y.l) := (hAg 90 rfl).trans rfl
              have e_4_97 : e_4 97 = Value.string (bs el57.y.l) := (hAg 97 rfl).trans rfl
              refine G_y (wE rfl (e_4_87.trans (congrArg Value.bool ((by rw [hKR]; simp) : (((Nt.scode (keys K) el57.y.l.length : Nat) : Int) == ((Nt.scode (keys R) el57.y.l.length : Nat) : Int)) = true)))) rfl (Y_eqT (l1 := el57.y.l) (l2 := el57.y.l) Try.underlying9 gel57.lt gel57.lt e_4_90 e_4_97) ?_
              refine L_y rfl (Y_pickT (e_4_87.trans (congrArg Value.bool ((by rw [hKR]; simp) : (((Nt.scode (keys K) el57.y.l.length : Nat) : Int) == ((Nt.scode (keys R) el57.y.l.length : Nat) : Int)) = true)))) ?_
              refine L_as rfl ?_
              refine L_nil ?_
              refine Th_n ?_
              refine W_rg ?_
              refine L_y rfl (Y_ldr T_row31 H_21 (i := 1) rfl e_4_9 rfl) ?_
              refine L_bsl (cs := #[Value.int .i64 (el57.y.f), Value.int .i64 (el57.y.t), Value.slice a_ el57.y.l.length c_]) rfl H_21 (pv := [(0, Value.agg #[Value.int .i64 (el57.y.f), Value.int .i64 (el57.y.t), Value.slice a_ el57.y.l.length c_])]) T_sl35 T_zero31 rfl (Bpc rfl Bp0) (by kernel_rfl) ?_; intro bk101 w_16 H_22
              have H_23 : Hp w0 [] w_16 (Ent.own (Value.slice (some ⟨bk101, 0, none⟩) 1 1) 31 3 1 (rows [(⟨el57.y.f, el57.y.t, a_, c_, el57.y.l⟩ : Lt)]) :: Ent.own (Value.slice a_ el57.y.l.length c_) 5 1 el57.y.l.length (us .u8 el57.y.l) :: Ent.blk bk9 31 #[Value.int .i64 (el57.y.f), Value.int .i64 (el57.y.t), Value.slice a_ el57.y.l.length c_] :: Ent.blk bp 51 #[v78_] :: Ent.own v78_ 31 3 K78'_.length (rows K78'_) :: Ent.blk bk48 47 #[v85_] :: Ent.own v85_ 31 3 K85'_.length (rows K85'_) :: (nest 5 K78'_ ++ (nest 5 K85'_ ++ ([] : List Ent)))) := H_22.say (i := 0) (x' := .own (Value.slice (some ⟨bk101, 0, none⟩) 1 1) 31 3 1 (rows [(⟨el57.y.f, el57.y.t, a_, c_, el57.y.l⟩ : Lt)])) rfl (own_of_blk (Nat.le_refl _) (by decide) rfl rfl) (fun _ h => h) rfl
              have H_24 : Hp w0 [] w_16 (Ent.own (Value.slice a_ el57.y.l.length c_) 5 1 el57.y.l.length (us .u8 el57.y.l) :: Ent.own (Value.slice (some ⟨bk101, 0, none⟩) 1 1) 31 3 1 (rows [(⟨el57.y.f, el57.y.t, a_, c_, el57.y.l⟩ : Lt)]) :: Ent.blk bk9 31 #[Value.int .i64 (el57.y.f), Value.int .i64 (el57.y.t), Value.slice a_ el57.y.l.length c_] :: Ent.blk bp 51 #[v78_] :: Ent.own v78_ 31 3 K78'_.length (rows K78'_) :: Ent.blk bk48 47 #[v85_] :: Ent.own v85_ 31 3 K85'_.length (rows K85'_) :: (nest 5 K78'_ ++ (nest 5 K85'_ ++ ([] : List Ent)))) := (H_23.pull 1 rfl)
              have H_25 : Hp w0 [] w_16 (Ent.own (Value.slice (some ⟨bk101, 0, none⟩) 1 1) 31 3 1 (rows [(⟨el57.y.f, el57.y.t, a_, c_, el57.y.l⟩ : Lt)]) :: Ent.blk bk9 31 #[Value.int .i64 (el57.y.f), Value.int .i64 (el57.y.t), Value.slice a_ el57.y.l.length c_] :: Ent.blk bp 51 #[v78_] :: Ent.own v78_ 31 3 K78'_.length (rows K78'_) :: Ent.blk bk48 47 #[v85_] :: Ent.own v85_ 31 3 K85'_.length (rows K85'_) :: (nest 5 [(⟨el57.y.f, el57.y.t, a_, c_, el57.y.l⟩ : Lt)] ++ (nest 5 K78'_ ++ (nest 5 K85'_ ++ ([] : List Ent))))) := Hp.chunk [] (nest 5 [(⟨el57.y.f, el57.y.t, a_, c_, el57.y.l⟩ : Lt)]) [Ent.own (Value.slice (some ⟨bk101, 0, none⟩) 1 1) 31 3 1 (rows [(⟨el57.y.f, el57.y.t, a_, c_, el57.y.l⟩ : Lt)]), Ent.blk bk9 31 #[Value.int .i64 (el57.y.f), Value.int .i64 (el57.y.t), Value.slice a_ el57.y.l.length c_], Ent.blk bp 51 #[v78_], Ent.own v78_ 31 3 K78'_.length (rows K78'_), Ent.blk bk48 47 #[v85_], Ent.own v85_ 31 3 K85'_.length (rows K85'_)] (nest 5 K78'_ ++ (nest 5 K85'_ ++ ([] : List Ent))) H_24
              have Hc : Hp w0 [] w_16 (Ent.own (Value.slice (some ⟨bk101, 0, none⟩) 1 1) 31 3 1 (rows [(⟨el57.y.f, el57.y.t, a_, c_, el57.y.l⟩ : Lt)]) :: (nest 5 [(⟨el57.y.f, el57.y.t, a_, c_, el57.y.l⟩ : Lt)] ++ (Ent.blk bk9 31 #[Value.int .i64 (el57.y.f), Value.int .i64 (el57.y.t), Value.slice a_ el57.y.l.length c_] :: Ent.blk bp 51 #[v78_] :: Ent.own v78_ 31 3 K78'_.length (rows K78'_) :: Ent.blk bk48 47 #[v85_] :: Ent.own v85_ 31 3 K85'_.length (rows K85'_) :: (nest 5 K78'_ ++ (nest 5 K85'_ ++ ([] : List Ent)))))) := Hp.chunk [Ent.own (Value.slice (some ⟨bk101, 0, none⟩) 1 1) 31 3 1 (rows [(⟨el57.y.f, el57.y.t, a_, c_, el57.y.l⟩ : Lt)])] [Ent.blk bk9 31 #[Value.int .i64 (el57.y.f), Value.int .i64 (el57.y.t), Value.slice a_ el57.y.l.length c_], Ent.blk bp 51 #[v78_], Ent.own v78_ 31 3 K78'_.length (rows K78'_), Ent.blk bk48 47 #[v85_], Ent.own v85_ 31 3 K85'_.length (rows K85'_)] (nest 5 [(⟨el57.y.f, el57.y.t, a_, c_, el57.y.l⟩ : Lt)]) (nest 5 K78'_ ++ (nest 5 K85'_ ++ ([] : List Ent))) H_25
              refine L_callv rfl rfl T_en16 (A1 rfl) (spoil_n (by intro x hx; simp only [List.mem_singleton] at hx; subst hx; exact ⟨gel57.lt, by show el57.y.l.length ≤ _; omega⟩) rfl (by decide) Hc) ?_
              rintro _ w_17 ⟨rfl, H_26⟩; refine ⟨_, rfl, ?_⟩
              refine L_nil ?_
              refine InB_n ?_
              refine Th_n ?_
              refine W_seq ?_
              refine W_rg ?_
              refine L_mv rfl ?_
              have H_27 : Hp w0 [] w_17 (Ent.blk bp 51 #[v78_] :: Ent.own v78_ 31 3 K78'_.length (rows K78'_) :: Ent.blk bk9 31 #[Value.int .i64 (el57.y.f), Value.int .i64 (el57.y.t), Value.slice a_ el57.y.l.length c_] :: Ent.blk bk48 47 #[v85_] :: Ent.own v85_ 31 3 K85'_.length (rows K85'_) :: (nest 5 K78'_ ++ (nest 5 K85'_ ++ ([] : List Ent)))) := ((H_26.pull 2 rfl).pull 2 rfl)
              have Hc_2 : Hp w0 [] w_17 (Ent.blk bp 51 #[v78_] :: Ent.own v78_ 31 3 K78'_.length (rows K78'_) :: (nest 5 K78'_ ++ (Ent.blk bk9 31 #[Value.int .i64 (el57.y.f), Value.int .i64 (el57.y.t), Value.slice a_ el57.y.l.length c_] :: Ent.blk bk48 47 #[v85_] :: Ent.own v85_ 31 3 K85'_.length (rows K85'_) :: (nest 5 K85'_ ++ ([] : List Ent))))) := Hp.chunk [Ent.blk bp 51 #[v78_], Ent.own v78_ 31 3 K78'_.length (rows K78'_)] [Ent.blk bk9 31 #[Value.int .i64 (el57.y.f), Value.int .i64 (el57.y.t), Value.slice a_ el57.y.l.length c_], Ent.blk bk48 47 #[v85_], Ent.own v85_ 31 3 K85'_.length (rows K85'_)] (nest 5 K78'_) (nest 5 K85'_ ++ ([] : List Ent)) H_27
              refine L_callv rfl rfl T_en12 (A1 e_4_5) (letters_n okK78'_ Hc_2) ?_
              rintro _ w_18 ⟨a190, c190, M190, v190, rfl, f190_0, H_28⟩; refine ⟨_, rfl, ?_⟩
              have H_29 : Hp w0 [] w_18 (Ent.own (Value.slice a190 K78'_.length c190) 31 3 K78'_.length (rows M190) :: Ent.blk bp 51 #[v190] :: Ent.own v190 31 3 K78'_.length (rows K78'_) :: (nest 5 M190 ++ (Ent.blk bk9 31 #[Value.int .i64 (el57.y.f), Value.int .i64 (el57.y.t), Value.slice a_ el57.y.l.length c_] :: Ent.blk bk48 47 #[v85_] :: Ent.own v85_ 31 3 K85'_.length (rows K85'_) :: (nest 5 K78'_ ++ (nest 5 K85'_ ++ ([] : List Ent)))))) := Hp.chunk ([Ent.own (Value.slice a190 K78'_.length c190) 31 3 K78'_.length (rows M190), Ent.blk bp 51 #[v190], Ent.own v190 31 3 K78'_.length (rows K78'_)] ++ nest 5 M190) (nest 5 K78'_) [Ent.blk bk9 31 #[Value.int .i64 (el57.y.f), Value.int .i64 (el57.y.t), Value.slice a_ el57.y.l.length c_], Ent.blk bk48 47 #[v85_], Ent.own v85_ 31 3 K85'_.length (rows K85'_)] (nest 5 K85'_ ++ ([] : List Ent)) H_28
              have H_30 : Hp w0 [] w_18 (Ent.own (Value.slice a190 K78'_.length c190) 31 3 K78'_.length (rows M190) :: Ent.blk bp 51 #[v190] :: Ent.own v190 31 3 K78'_.length (rows K78'_) :: Ent.blk bk9 31 #[Value.int .i64 (el57.y.f), Value.int .i64 (el57.y.t), Value.slice a_ el57.y.l.length c_] :: Ent.blk bk48 47 #[v85_] :: Ent.own v85_ 31 3 K85'_.length (rows K85'_) :: (nest 5 M190 ++ (nest 5 K78'_ ++ (nest 5 K85'_ ++ ([] : List Ent))))) := Hp.chunk [Ent.own (Value.slice a190 K78'_.length c190) 31 3 K78'_.length (rows M190), Ent.blk bp 51 #[v190], Ent.own v190 31 3 K78'_.length (rows K78'_)] (nest 5 M190) [Ent.blk bk9 31 #[Value.int .i64 (el57.y.f), Value.int .i64 (el57.y.t), Value.slice a_ el57.y.l.length c_], Ent.blk bk48 47 #[v85_], Ent.own v85_ 31 3 K85'_.length (rows K85'_)] (nest 5 K78'_ ++ (nest 5 K85'_ ++ ([] : List Ent))) H_29
              have kM190 := f190_0
              have okM190 : Nt.ok (keys M190) := by rw [kM190]; exact okK78'_
              refine L_as rfl ?_
              refine L_nil ?_
              refine Th_n ?_
              refine W_seq ?_
              refine W_seq ?_
              refine W_rg ?_
              refine L_mv rfl ?_
              refine L_y rfl (Y_not (b := (decide (el57.y.l = el57.y.l))) rfl) ?_
              refine L_mv rfl ?_
              refine G_mv (wE rfl (congrArg Value.bool (congrArg Bool.not ((by simp) : (decide (el57.y.l = el57.y.l)) = true)))) rfl ?_
              refine G_mv (wE rfl (congrArg Value.bool (congrArg Bool.not ((by simp) : (decide (el57.y.l = el57.y.l)) = true)))) rfl ?_
              refine G_y (wE rfl (congrArg Value.bool (congrArg Bool.not ((by simp) : (decide (el57.y.l = el57.y.l)) = true)))) rfl (Y_nil e_4_6) ?_
              refine G_y (wE rfl (congrArg Value.bool (congrArg Bool.not ((by simp) : (decide (el57.y.l = el57.y.l)) = true)))) rfl (Y_fld T_fld47_0 rfl rfl rfl) ?_
              refine G_y (wE rfl (congrArg Value.bool (congrArg Bool.not ((by simp) : (decide (el57.y.l = el57.y.l)) = true)))) rfl (Y_ld T_scal35 H_30 (i := 4) rfl rfl rfl) ?_
              refine Exists.elim (Ts.opn H_30 (i := 5) rfl) fun a__2 hx_ => Exists.elim hx_ fun c__2 hv_2 => ?_
              have H_31 : Hp w0 [] w_18 (Ent.own (Value.slice a190 K78'_.length c190) 31 3 K78'_.length (rows M190) :: Ent.blk bp 51 #[v190] :: Ent.own v190 31 3 K78'_.length (rows K78'_) :: Ent.blk bk9 31 #[Value.int .i64 (el57.y.f), Value.int .i64 (el57.y.t), Value.slice a_ el57.y.l.length c_] :: Ent.blk bk48 47 #[Value.slice a__2 K85'_.length c__2] :: Ent.own (Value.slice a__2 K85'_.length c__2) 31 3 K85'_.length (rows K85'_) :: (nest 5 M190 ++ (nest 5 K78'_ ++ (nest 5 K85'_ ++ ([] : List Ent))))) := by have h := H_30; rw [hv_2] at h; exact h
              refine L_callv (wE rfl (congrArg Value.bool (congrArg Bool.not ((by simp) : (decide (el57.y.l = el57.y.l)) = true)))) rfl T_en11 (A2 rfl (Eq.trans rfl hv_2)) (sameAll_n _ (Ts.own H_31 (i := 0) rfl) (Ts.own H_31 (i := 5) rfl) (by have := (okK78'_).len; rw [keys_len] at this; omega) (fun x hx => Sl.nest H_31 hx (fun _ h_ => .tail _ (.tail _ (.tail _ (.tail _ (.tail _ (.tail _ (List.mem_append_left _ h_)))))))) (fun x hx => Sl.nest H_31 hx (fun _ h_ => .tail _ (.tail _ (.tail _ (.tail _ (.tail _ (.tail _ (List.mem_append_right _ (List.mem_append_right _ (List.mem_append_left _ h_)))))))))) (fun x hx => ((okM190).lt _ (keys_mem hx)).1) (fun x hx => ((okK85'_).lt _ (keys_mem hx)).1)) ?_
              rintro _ w_19 ⟨rfl, hkp_5⟩; refine ⟨_, rfl, ?_⟩; have H_32 := H_31.keep hkp_5
              refine G_y (wE rfl (congrArg Value.bool (congrArg Bool.not ((by simp) : (decide (el57.y.l = el57.y.l)) = true)))) rfl (Y_not (b := (decide (keys M190 = keys K85'_))) rfl) ?_
              refine L_y rfl (Y_pickF (congrArg Value.bool (congrArg Bool.not ((by simp) : (decide (el57.y.l = el57.y.l)) = true)))) ?_
              refine L_nil ?_
              refine Th_n ?_
              refine W_false (congrArg Value.bool (congrArg Bool.not ((by rw [show keys M190 = keys K85'_ by rw [kM190, kK78'_, kK85'_, hKR]]; simp) : (decide (keys M190 = keys K85'_)) = true))) ?_
              refine W_skip ?_
              refine Th_n ?_
              refine W_rg ?_
              refine L_mv rfl ?_
              have Hc_3 : Hp w0 [] w_19 (Ent.own (Value.slice a190 K78'_.length c190) 31 3 K78'_.length (rows M190) :: (nest 5 M190 ++ (Ent.blk bp 51 #[v190] :: Ent.own v190 31 3 K78'_.length (rows K78'_) :: Ent.blk bk9 31 #[Value.int .i64 (el57.y.f), Value.int .i64 (el57.y.t), Value.slice a_ el57.y.l.length c_] :: Ent.blk bk48 47 #[Value.slice a__2 K85'_.length c__2] :: Ent.own (Value.slice a__2 K85'_.length c__2) 31 3 K85'_.length (rows K85'_) :: (nest 5 K78'_ ++ (nest 5 K85'_ ++ ([] : List Ent)))))) := Hp.chunk [Ent.own (Value.slice a190 K78'_.length c190) 31 3 K78'_.length (rows M190)] [Ent.blk bp 51 #[v190], Ent.own v190 31 3 K78'_.length (rows K78'_), Ent.blk bk9 31 #[Value.int .i64 (el57.y.f), Value.int .i64 (el57.y.t), Value.slice a_ el57.y.l.length c_], Ent.blk bk48 47 #[Value.slice a__2 K85'_.length c__2], Ent.own (Value.slice a__2 K85'_.length c__2) 31 3 K85'_.length (rows K85'_)] (nest 5 M190) (nest 5 K78'_ ++ (nest 5 K85'_ ++ ([] : List Ent))) H_32
              refine L_callv rfl rfl T_en16 (A1 rfl) (spoil_n (okM190).sp (by rw [← keys_len, kM190, keys_len]) (by have := (okK78'_).len; rw [keys_len] at this; omega) Hc_3) ?_
              rintro _ w_20 ⟨rfl, H_33⟩; refine ⟨_, rfl, ?_⟩
              refine L_nil ?_
              refine InB_n ?_
              refine Th_n ?_
              refine W_rg ?_
              refine L_mv rfl ?_
              refine L_y rfl (Y_add (k := .i64) (a := ((i : Nat) : Int)) (b := ((1 : Nat) : Int)) (z := ((i + 1 : Nat) : Int)) e_4_7 rfl (wi (by omega))) ?_
              refine L_as rfl ?_
              refine L_nil ?_
              refine Th_n ⟨_, ?_, (i + 1), bp, _, _, _, _, rfl, e_4_0, e_4_5, e_4_6, rfl, (((((H_33.erase 2).pull 3 rfl).pull 3 rfl).pull 3 rfl).pull 3 rfl), okK78'_, okK85'_, (by rw [kK78'_, kK85'_, hKR]), (by omega)⟩
              omega
          ·
            have hc_4' := ne_of_beq_false hc_4
            refine W_seq ?_
            refine W_rg ?_
            refine L_y rfl (Y_eql (k := .i64) (a := el57.kind) (b := ((1 : Nat) : Int)) rfl rfl) ?_
            refine L_as rfl ?_
            refine L_nil ?_
            refine Th_n ?_
            refine W_cond (b := (el57.kind == ((1 : Nat) : Int))) rfl (fun hc_5 => ?_) (fun hc_5 => ?_)
            ·
              have hc_5' := eq_of_beq hc_5
              refine W_seq ?_
              refine W_rg ?_
              refine L_mv rfl ?_
              refine L_mv rfl ?_
              refine L_mv rfl ?_
              refine L_y rfl (Y_idxT (j := i) T_sl42 (hT.hp H_13) hel57 e_3_0 e_3_7 rfl) ?_
              refine L_y rfl (Y_fldT T_fld44_1 rfl (hT.hp H_13) hel57 rfl) ?_
              refine L_y rfl (Y_ldT (j := i) (off := 1) T_scal3 (hT.hp H_13) hel57 rfl rfl rfl) ?_
              have Hc_4 : Hp w0 [] w_9 (Ent.blk bp 51 #[vp] :: Ent.own vp 31 3 K.length (rows K) :: (nest 5 K ++ (Ent.blk bk48 47 #[vr] :: Ent.own vr 31 3 R.length (rows R) :: (nest 5 R ++ ([] : List Ent))))) := Hp.chunk [Ent.blk bp 51 #[vp], Ent.own vp 31 3 K.length (rows K)] [Ent.blk bk48 47 #[vr], Ent.own vr 31 3 R.length (rows R)] (nest 5 K) (nest 5 R ++ ([] : List Ent)) H_13
              refine L_callv rfl rfl T_en10 (A2 e_3_5 rfl) (take_n el57.n okK Hc_4) ?_
              rintro _ w_21 ⟨y112, v112, K112, rfl, f112_0, H_34⟩; refine ⟨_, rfl, ?_⟩
              have H_35 : Hp w0 [] w_21 (Ent.own (Value.slice y112.a y112.l.length y112.c) 5 1 y112.l.length (us .u8 y112.l) :: Ent.blk bp 51 #[v112] :: Ent.own v112 31 3 K112.length (rows K112) :: Ent.blk bk48 47 #[vr] :: Ent.own vr 31 3 R.length (rows R) :: (nest 5 K112 ++ (nest 5 R ++ ([] : List Ent)))) := Hp.chunk [Ent.own (Value.slice y112.a y112.l.length y112.c) 5 1 y112.l.length (us .u8 y112.l), Ent.blk bp 51 #[v112], Ent.own v112 31 3 K112.length (rows K112)] (nest 5 K112) [Ent.blk bk48 47 #[vr], Ent.own vr 31 3 R.length (rows R)] (nest 5 R ++ ([] : List Ent)) H_34
              obtain ⟨ky112, hkK112⟩ := f112_0
              have hy112 : ∀ u ∈ y112.l, u < 256 := by have h := (okK.letter el57.n).1; rw [← ky112] at h; exact h
              have okK112 : Nt.ok (keys K112) := by rw [hkK112]; exact (okK).left _
              have by112 : y112.l.length ≤ 60000 := by have h := (okK.letter el57.n).2; rw [← ky112] at h; exact h
              have kK112 := hkK112
              refine L_mv rfl ?_
              refine L_y rfl (Y_ext rfl rfl) ?_
              refine L_y rfl (Y_ext rfl rfl) ?_
              refine L_alloc rfl H_35 T_zero31 ?_; intro bk10 w_22 H_36
              refine L_str (ds := #[Value.int .i64 (y112.f), Value.int .i64 (y112.t), Value.slice y112.a y112.l.length y112.c]) T_row31 H_36 (i := 0) rfl rfl rfl rfl rfl (allOne3 _ _ _ _ _) (l' := (Ent.blk bk10 31 #[Value.int .i64 (y112.f), Value.int .i64 (y112.t), Value.slice y112.a y112.l.length y112.c] :: Ent.own (Value.slice y112.a y112.l.length y112.c) 5 1 y112.l.length (us .u8 y112.l) :: Ent.blk bp 51 #[v112] :: Ent.own v112 31 3 K112.length (rows K112) :: Ent.blk bk48 47 #[vr] :: Ent.own vr 31 3 R.length (rows R) :: (nest 5 K112 ++ (nest 5 R ++ ([] : List Ent))))) rfl ?_; intro w_23 H_37
              refine L_as rfl ?_
              refine L_nil ?_
              refine Th_n ?_
              refine W_seq ?_
              refine W_rg ?_
              refine L_mv rfl ?_
              refine L_mv rfl ?_
              refine L_mv rfl ?_
              refine L_y rfl (Y_idxT (j := i) T_sl42 (hT.hp H_37) hel57 e_3_0 e_3_7 rfl) ?_
              refine L_y rfl (Y_fldT T_fld44_1 rfl (hT.hp H_37) hel57 rfl) ?_
              refine L_y rfl (Y_ldT (j := i) (off := 1) T_scal3 (hT.hp H_37) hel57 rfl rfl rfl) ?_
              have H_38 : Hp w0 [] w_23 (Ent.blk bk10 31 #[Value.int .i64 (y112.f), Value.int .i64 (y112.t), Value.slice y112.a y112.l.length y112.c] :: Ent.own (Value.slice y112.a y112.l.length y112.c) 5 1 y112.l.length (us .u8 y112.l) :: Ent.blk bp 51 #[v112] :: Ent.own v112 31 3 K112.length (rows K112) :: Ent.blk bk48 47 #[vr] :: Ent.own vr 31 3 R.length (rows R) :: (nest 5 R ++ (nest 5 K112 ++ ([] : List Ent)))) := Hp.chunk [Ent.blk bk10 31 #[Value.int .i64 (y112.f), Value.int .i64 (y112.t), Value.slice y112.a y112.l.length y112.c], Ent.own (Value.slice y112.a y112.l.length y112.c) 5 1 y112.l.length (us .u8 y112.l), Ent.blk bp 51 #[v112], Ent.own v112 31 3 K112.length (rows K112), Ent.blk bk48 47 #[vr], Ent.own vr 31 3 R.length (rows R)] (nest 5 K112) (nest 5 R) ([] : List Ent) H_37
              have H_39 : Hp w0 [] w_23 (Ent.blk bk48 47 #[vr] :: Ent.own vr 31 3 R.length (rows R) :: Ent.blk bk10 31 #[Value.int .i64 (y112.f), Value.int .i64 (y112.t), Value.slice y112.a y112.l.length y112.c] :: Ent.own (Value.slice y112.a y112.l.length y112.c) 5 1 y112.l.length (us .u8 y112.l) :: Ent.blk bp 51 #[v112] :: Ent.own v112 31 3 K112.length (rows K112) :: (nest 5 R ++ (nest 5 K112 ++ ([] : List Ent)))) := ((H_38.pull 5 rfl).pull 5 rfl)
              have Hc_5 : Hp w0 [] w_23 (Ent.blk bk48 47 #[vr] :: Ent.own vr 31 3 R.length (rows R) :: (nest 5 R ++ (Ent.blk bk10 31 #[Value.int .i64 (y112.f), Value.int .i64 (y112.t), Value.slice y112.a y112.l.length y112.c] :: Ent.own (Value.slice y112.a y112.l.length y112.c) 5 1 y112.l.length (us .u8 y112.l) :: Ent.blk bp 51 #[v112] :: Ent.own v112 31 3 K112.length (rows K112) :: (nest 5 K112 ++ ([] : List Ent))))) := Hp.chunk [Ent.blk bk48 47 #[vr], Ent.own vr 31 3 R.length (rows R)] [Ent.blk bk10 31 #[Value.int .i64 (y112.f), Value.int .i64 (y112.t), Value.slice y112.a y112.l.length y112.c], Ent.own (Value.slice y112.a y112.l.length y112.c) 5 1 y112.l.length (us .u8 y112.l), Ent.blk bp 51 #[v112], Ent.own v112 31 3 K112.length (rows K112)] (nest 5 R) (nest 5 K112 ++ ([] : List Ent)) H_39
              refine L_callv rfl rfl T_en17 (A2 e_3_6 rfl) (rtake_n el57.n okR Hc_5) ?_
              rintro _ w_24 ⟨y122, v122, K122, rfl, f122_0, H_40⟩; refine ⟨_, rfl, ?_⟩
              have H_41 : Hp w0 [] w_24 (Ent.own (Value.slice y122.a y122.l.length y122.c) 5 1 y122.l.length (us .u8 y122.l) :: Ent.blk bk48 47 #[v122] :: Ent.own v122 31 3 K122.length (rows K122) :: Ent.blk bk10 31 #[Value.int .i64 (y112.f), Value.int .i64 (y112.t), Value.slice y112.a y112.l.length y112.c] :: Ent.own (Value.slice y112.a y112.l.length y112.c) 5 1 y112.l.length (us .u8 y112.l) :: Ent.blk bp 51 #[v112] :: Ent.own v112 31 3 K112.length (rows K112) :: (nest 5 K122 ++ (nest 5 K112 ++ ([] : List Ent)))) := Hp.chunk [Ent.own (Value.slice y122.a y122.l.length y122.c) 5 1 y122.l.length (us .u8 y122.l), Ent.blk bk48 47 #[v122], Ent.own v122 31 3 K122.length (rows K122)] (nest 5 K122) [Ent.blk bk10 31 #[Value.int .i64 (y112.f), Value.int .i64 (y112.t), Value.slice y112.a y112.l.length y112.c], Ent.own (Value.slice y112.a y112.l.length y112.c) 5 1 y112.l.length (us .u8 y112.l), Ent.blk bp 51 #[v112], Ent.own v112 31 3 K112.length (rows K112)] (nest 5 K112 ++ ([] : List Ent)) H_40
              obtain ⟨ky122, hkK122⟩ := f122_0
              have hy122 : ∀ u ∈ y122.l, u < 256 := by have h := (okR.letter el57.n).1; rw [← ky122] at h; exact h
              have okK122 : Nt.ok (keys K122) := by rw [hkK122]; exact (okR).left _
              have by122 : y122.l.length ≤ 60000 := by have h := (okR.letter el57.n).2; rw [← ky122] at h; exact h
              have kK122 := hkK122
              refine L_mv rfl ?_
              refine L_y rfl (Y_ext rfl rfl) ?_
              refine L_y rfl (Y_ext rfl rfl) ?_
              refine L_alloc rfl H_41 T_zero31 ?_; intro bk12 w_25 H_42
              refine L_str (ds := #[Value.int .i64 (y122.f), Value.int .i64 (y122.t), Value.slice y122.a y122.l.length y122.c]) T_row31 H_42 (i := 0) rfl rfl rfl rfl rfl (allOne3 _ _ _ _ _) (l' := (Ent.blk bk12 31 #[Value.int .i64 (y122.f), Value.int .i64 (y122.t), Value.slice y122.a y122.l.length y122.c] :: Ent.own (Value.slice y122.a y122.l.length y122.c) 5 1 y122.l.length (us .u8 y122.l) :: Ent.blk bk48 47 #[v122] :: Ent.own v122 31 3 K122.length (rows K122) :: Ent.blk bk10 31 #[Value.int .i64 (y112.f), Value.int .i64 (y112.t), Value.slice y112.a y112.l.length y112.c] :: Ent.own (Value.slice y112.a y112.l.length y112.c) 5 1 y112.l.length (us .u8 y112.l) :: Ent.blk bp 51 #[v112] :: Ent.own v112 31 3 K112.length (rows K112) :: (nest 5 K122 ++ (nest 5 K112 ++ ([] : List Ent))))) rfl ?_; intro w_26 H_43
              refine L_as rfl ?_
              refine L_nil ?_
              refine Th_n ?_
              refine W_seq ?_
              refine W_rg ?_
              refine L_y rfl (Y_ldr T_row31 H_43 (i := 4) rfl rfl rfl) ?_
              refine L_y rfl (Y_ldr T_row31 H_43 (i := 0) rfl rfl rfl) ?_
              refine L_callv rfl rfl T_en14 (A2 rfl rfl) (same_n (l1 := y112.l) (l2 := y122.l) _ (Sl.own H_43 (i := 5) rfl) hy112 (Sl.own H_43 (i := 1) rfl) hy122) ?_
              rintro _ w_27 ⟨rfl, hkp_6⟩; refine ⟨_, rfl, ?_⟩; have H_44 := H_43.keep hkp_6
              refine L_mv rfl ?_
              refine G_mv (wE rfl (congrArg Value.bool ((decide_eq_true (by have h1 : Lt.key y112 = Lt.key y122 := (by rw [ky112, ky122, hKR]); exact h1)) : (decide (((y112.f, y112.t, y112.l) : Key) = ((y122.f, y122.t, y122.l) : Key))) = true))) rfl ?_
              refine G_mv (wE rfl (congrArg Value.bool ((decide_eq_true (by have h1 : Lt.key y112 = Lt.key y122 := (by rw [ky112, ky122, hKR]); exact h1)) : (decide (((y112.f, y112.t, y112.l) : Key) = ((y122.f, y122.t, y122.l) : Key))) = true))) rfl ?_
              refine G_y (wE rfl (congrArg Value.bool ((decide_eq_true (by have h1 : Lt.key y112 = Lt.key y122 := (by rw [ky112, ky122, hKR]); exact h1)) : (decide (((y112.f, y112.t, y112.l) : Key) = ((y122.f, y122.t, y122.l) : Key))) = true))) rfl (Y_eql (k := .i64) (a := ((Nt.tcode (keys K) : Nat) : Int)) (b := ((Nt.tcode (keys R) : Nat) : Int)) rfl rfl) ?_
              refine L_y rfl (Y_pickT (congrArg Value.bool ((decide_eq_true (by have h1 : Lt.key y112 = Lt.key y122 := (by rw [ky112, ky122, hKR]); exact h1)) : (decide (((y112.f, y112.t, y112.l) : Key) = ((y122.f, y122.t, y122.l) : Key))) = true))) ?_
              refine L_as rfl ?_
              refine L_nil ?_
              refine Th_n ?_
              refine W_rg ?_
              refine L_y rfl (Y_ldr T_row31 H_44 (i := 4) rfl rfl rfl) ?_
              refine L_bsl (cs := #[Value.int .i64 (y112.f), Value.int .i64 (y112.t), Value.slice y112.a y112.l.length y112.c]) rfl H_44 (pv := [(0, Value.agg #[Value.int .i64 (y112.f), Value.int .i64 (y112.t), Value.slice y112.a y112.l.length y112.c])]) T_sl35 T_zero31 rfl (Bpc rfl Bp0) (by kernel_rfl) ?_; intro bk134 w_28 H_45
              have H_46 : Hp w0 [] w_28 (Ent.own (Value.slice (some ⟨bk134, 0, none⟩) 1 1) 31 3 1 (rows [(⟨y112.f, y112.t, y112.a, y112.c, y112.l⟩ : Lt)]) :: Ent.blk bk12 31 #[Value.int .i64 (y122.f), Value.int .i64 (y122.t), Value.slice y122.a y122.l.length y122.c] :: Ent.own (Value.slice y122.a y122.l.length y122.c) 5 1 y122.l.length (us .u8 y122.l) :: Ent.blk bk48 47 #[v122] :: Ent.own v122 31 3 K122.length (rows K122) :: Ent.blk bk10 31 #[Value.int .i64 (y112.f), Value.int .i64 (y112.t), Value.slice y112.a y112.l.length y112.c] :: Ent.own (Value.slice y112.a y112.l.length y112.c) 5 1 y112.l.length (us .u8 y112.l) :: Ent.blk bp 51 #[v112] :: Ent.own v112 31 3 K112.length (rows K112) :: (nest 5 K122 ++ (nest 5 K112 ++ ([] : List Ent)))) := H_45.say (i := 0) (x' := .own (Value.slice (some ⟨bk134, 0, none⟩) 1 1) 31 3 1 (rows [(⟨y112.f, y112.t, y112.a, y112.c, y112.l⟩ : Lt)])) rfl (own_of_blk (Nat.le_refl _) (by decide) rfl rfl) (fun _ h => h) rfl
              have H_47 : Hp w0 [] w_28 (Ent.own (Value.slice y112.a y112.l.length y112.c) 5 1 y112.l.length (us .u8 y112.l) :: Ent.own (Value.slice (some ⟨bk134, 0, none⟩) 1 1) 31 3 1 (rows [(⟨y112.f, y112.t, y112.a, y112.c, y112.l⟩ : Lt)]) :: Ent.blk bk12 31 #[Value.int .i64 (y122.f), Value.int .i64 (y122.t), Value.slice y122.a y122.l.length y122.c] :: Ent.own (Value.slice y122.a y122.l.length y122.c) 5 1 y122.l.length (us .u8 y122.l) :: Ent.blk bk48 47 #[v122] :: Ent.own v122 31 3 K122.length (rows K122) :: Ent.blk bk10 31 #[Value.int .i64 (y112.f), Value.int .i64 (y112.t), Value.slice y112.a y112.l.length y112.c] :: Ent.blk bp 51 #[v112] :: Ent.own v112 31 3 K112.length (rows K112) :: (nest 5 K122 ++ (nest 5 K112 ++ ([] : List Ent)))) := (H_46.pull 6 rfl)
              have H_48 : Hp w0 [] w_28 (Ent.own (Value.slice (some ⟨bk134, 0, none⟩) 1 1) 31 3 1 (rows [(⟨y112.f, y112.t, y112.a, y112.c, y112.l⟩ : Lt)]) :: Ent.blk bk12 31 #[Value.int .i64 (y122.f), Value.int .i64 (y122.t), Value.slice y122.a y122.l.length y122.c] :: Ent.own (Value.slice y122.a y122.l.length y122.c) 5 1 y122.l.length (us .u8 y122.l) :: Ent.blk bk48 47 #[v122] :: Ent.own v122 31 3 K122.length (rows K122) :: Ent.blk bk10 31 #[Value.int .i64 (y112.f), Value.int .i64 (y112.t), Value.slice y112.a y112.l.length y112.c] :: Ent.blk bp 51 #[v112] :: Ent.own v112 31 3 K112.length (rows K112) :: (nest 5 [(⟨y112.f, y112.t, y112.a, y112.c, y112.l⟩ : Lt)] ++ (nest 5 K122 ++ (nest 5 K112 ++ ([] : List Ent))))) := Hp.chunk [] (nest 5 [(⟨y112.f, y112.t, y112.a, y112.c, y112.l⟩ : Lt)]) [Ent.own (Value.slice (some ⟨bk134, 0, none⟩) 1 1) 31 3 1 (rows [(⟨y112.f, y112.t, y112.a, y112.c, y112.l⟩ : Lt)]), Ent.blk bk12 31 #[Value.int .i64 (y122.f), Value.int .i64 (y122.t), Value.slice y122.a y122.l.length y122.c], Ent.own (Value.slice y122.a y122.l.length y122.c) 5 1 y122.l.length (us .u8 y122.l), Ent.blk bk48 47 #[v122], Ent.own v122 31 3 K122.length (rows K122), Ent.blk bk10 31 #[Value.int .i64 (y112.f), Value.int .i64 (y112.t), Value.slice y112.a y112.l.length y112.c], Ent.blk bp 51 #[v112], Ent.own v112 31 3 K112.length (rows K112)] (nest 5 K122 ++ (nest 5 K112 ++ ([] : List Ent))) H_47
              have Hc_6 : Hp w0 [] w_28 (Ent.own (Value.slice (some ⟨bk134, 0, none⟩) 1 1) 31 3 1 (rows [(⟨y112.f, y112.t, y112.a, y112.c, y112.l⟩ : Lt)]) :: (nest 5 [(⟨y112.f, y112.t, y112.a, y112.c, y112.l⟩ : Lt)] ++ (Ent.blk bk12 31 #[Value.int .i64 (y122.f), Value.int .i64 (y122.t), Value.slice y122.a y122.l.length y122.c] :: Ent.own (Value.slice y122.a y122.l.length y122.c) 5 1 y122.l.length (us .u8 y122.l) :: Ent.blk bk48 47 #[v122] :: Ent.own v122 31 3 K122.length (rows K122) :: Ent.blk bk10 31 #[Value.int .i64 (y112.f), Value.int .i64 (y112.t), Value.slice y112.a y112.l.length y112.c] :: Ent.blk bp 51 #[v112] :: Ent.own v112 31 3 K112.length (rows K112) :: (nest 5 K122 ++ (nest 5 K112 ++ ([] : List Ent)))))) := Hp.chunk [Ent.own (Value.slice (some ⟨bk134, 0, none⟩) 1 1) 31 3 1 (rows [(⟨y112.f, y112.t, y112.a, y112.c, y112.l⟩ : Lt)])] [Ent.blk bk12 31 #[Value.int .i64 (y122.f), Value.int .i64 (y122.t), Value.slice y122.a y122.l.length y122.c], Ent.own (Value.slice y122.a y122.l.length y122.c) 5 1 y122.l.length (us .u8 y122.l), Ent.blk bk48 47 #[v122], Ent.own v122 31 3 K122.length (rows K122), Ent.blk bk10 31 #[Value.int .i64 (y112.f), Value.int .i64 (y112.t), Value.slice y112.a y112.l.length y112.c], Ent.blk bp 51 #[v112], Ent.own v112 31 3 K112.length (rows K112)] (nest 5 [(⟨y112.f, y112.t, y112.a, y112.c, y112.l⟩ : Lt)]) (nest 5 K122 ++ (nest 5 K112 ++ ([] : List Ent))) H_48
              refine L_callv rfl rfl T_en16 (A1 rfl) (spoil_n (by intro x hx; simp only [List.mem_singleton] at hx; subst hx; exact ⟨hy112, by show y112.l.length ≤ _; omega⟩) rfl (by decide) Hc_6) ?_
              rintro _ w_29 ⟨rfl, H_49⟩; refine ⟨_, rfl, ?_⟩
              refine L_nil ?_
              refine InB_n ?_
              refine Th_n ?_
              refine W_seq ?_
              refine W_rg ?_
              refine L_mv rfl ?_
              have H_50 : Hp w0 [] w_29 (Ent.blk bk12 31 #[Value.int .i64 (y122.f), Value.int .i64 (y122.t), Value.slice y122.a y122.l.length y122.c] :: Ent.own (Value.slice y122.a y122.l.length y122.c) 5 1 y122.l.length (us .u8 y122.l) :: Ent.blk bk48 47 #[v122] :: Ent.own v122 31 3 K122.length (rows K122) :: Ent.blk bk10 31 #[Value.int .i64 (y112.f), Value.int .i64 (y112.t), Value.slice y112.a y112.l.length y112.c] :: Ent.blk bp 51 #[v112] :: Ent.own v112 31 3 K112.length (rows K112) :: (nest 5 K112 ++ (nest 5 K122 ++ ([] : List Ent)))) := Hp.chunk [Ent.blk bk12 31 #[Value.int .i64 (y122.f), Value.int .i64 (y122.t), Value.slice y122.a y122.l.length y122.c], Ent.own (Value.slice y122.a y122.l.length y122.c) 5 1 y122.l.length (us .u8 y122.l), Ent.blk bk48 47 #[v122], Ent.own v122 31 3 K122.length (rows K122), Ent.blk bk10 31 #[Value.int .i64 (y112.f), Value.int .i64 (y112.t), Value.slice y112.a y112.l.length y112.c], Ent.blk bp 51 #[v112], Ent.own v112 31 3 K112.length (rows K112)] (nest 5 K122) (nest 5 K112) ([] : List Ent) H_49
              have H_51 : Hp w0 [] w_29 (Ent.blk bp 51 #[v112] :: Ent.own v112 31 3 K112.length (rows K112) :: Ent.blk bk12 31 #[Value.int .i64 (y122.f), Value.int .i64 (y122.t), Value.slice y122.a y122.l.length y122.c] :: Ent.own (Value.slice y122.a y122.l.length y122.c) 5 1 y122.l.length (us .u8 y122.l) :: Ent.blk bk48 47 #[v122] :: Ent.own v122 31 3 K122.length (rows K122) :: Ent.blk bk10 31 #[Value.int .i64 (y112.f), Value.int .i64 (y112.t), Value.slice y112.a y112.l.length y112.c] :: (nest 5 K112 ++ (nest 5 K122 ++ ([] : List Ent)))) := ((H_50.pull 6 rfl).pull 6 rfl)
              have Hc_7 : Hp w0 [] w_29 (Ent.blk bp 51 #[v112] :: Ent.own v112 31 3 K112.length (rows K112) :: (nest 5 K112 ++ (Ent.blk bk12 31 #[Value.int .i64 (y122.f), Value.int .i64 (y122.t), Value.slice y122.a y122.l.length y122.c] :: Ent.own (Value.slice y122.a y122.l.length y122.c) 5 1 y122.l.length (us .u8 y122.l) :: Ent.blk bk48 47 #[v122] :: Ent.own v122 31 3 K122.length (rows K122) :: Ent.blk bk10 31 #[Value.int .i64 (y112.f), Value.int .i64 (y112.t), Value.slice y112.a y112.l.length y112.c] :: (nest 5 K122 ++ ([] : List Ent))))) := Hp.chunk [Ent.blk bp 51 #[v112], Ent.own v112 31 3 K112.length (rows K112)] [Ent.blk bk12 31 #[Value.int .i64 (y122.f), Value.int .i64 (y122.t), Value.slice y122.a y122.l.length y122.c], Ent.own (Value.slice y122.a y122.l.length y122.c) 5 1 y122.l.length (us .u8 y122.l), Ent.blk bk48 47 #[v122], Ent.own v122 31 3 K122.length (rows K122), Ent.blk bk10 31 #[Value.int .i64 (y112.f), Value.int .i64 (y112.t), Value.slice y112.a y112.l.length y112.c]] (nest 5 K112) (nest 5 K122 ++ ([] : List Ent)) H_51
              refine L_callv rfl rfl T_en12 (A1 e_3_5) (letters_n okK112 Hc_7) ?_
              rintro _ w_30 ⟨a190_2, c190_2, M190_2, v190_2, rfl, f190_0_2, H_52⟩; refine ⟨_, rfl, ?_⟩
              have H_53 : Hp w0 [] w_30 (Ent.own (Value.slice a190_2 K112.length c190_2) 31 3 K112.length (rows M190_2) :: Ent.blk bp 51 #[v190_2] :: Ent.own v190_2 31 3 K112.length (rows K112) :: (nest 5 M190_2 ++ (Ent.blk bk12 31 #[Value.int .i64 (y122.f), Value.int .i64 (y122.t), Value.slice y122.a y122.l.length y122.c] :: Ent.own (Value.slice y122.a y122.l.length y122.c) 5 1 y122.l.length (us .u8 y122.l) :: Ent.blk bk48 47 #[v122] :: Ent.own v122 31 3 K122.length (rows K122) :: Ent.blk bk10 31 #[Value.int .i64 (y112.f), Value.int .i64 (y112.t), Value.slice y112.a y112.l.length y112.c] :: (nest 5 K112 ++ (nest 5 K122 ++ ([] : List Ent)))))) := Hp.chunk ([Ent.own (Value.slice a190_2 K112.length c190_2) 31 3 K112.length (rows M190_2), Ent.blk bp 51 #[v190_2], Ent.own v190_2 31 3 K112.length (rows K112)] ++ nest 5 M190_2) (nest 5 K112) [Ent.blk bk12 31 #[Value.int .i64 (y122.f), Value.int .i64 (y122.t), Value.slice y122.a y122.l.length y122.c], Ent.own (Value.slice y122.a y122.l.length y122.c) 5 1 y122.l.length (us .u8 y122.l), Ent.blk bk48 47 #[v122], Ent.own v122 31 3 K122.length (rows K122), Ent.blk bk10 31 #[Value.int .i64 (y112.f), Value.int .i64 (y112.t), Value.slice y112.a y112.l.length y112.c]] (nest 5 K122 ++ ([] : List Ent)) H_52
              have H_54 : Hp w0 [] w_30 (Ent.own (Value.slice a190_2 K112.length c190_2) 31 3 K112.length (rows M190_2) :: Ent.blk bp 51 #[v190_2] :: Ent.own v190_2 31 3 K112.length (rows K112) :: Ent.blk bk12 31 #[Value.int .i64 (y122.f), Value.int .i64 (y122.t), Value.slice y122.a y122.l.length y122.c] :: Ent.own (Value.slice y122.a y122.l.length y122.c) 5 1 y122.l.length (us .u8 y122.l) :: Ent.blk bk48 47 #[v122] :: Ent.own v122 31 3 K122.length (rows K122) :: Ent.blk bk10 31 #[Value.int .i64 (y112.f), Value.int .i64 (y112.t), Value.slice y112.a y112.l.length y112.c] :: (nest 5 M190_2 ++ (nest 5 K112 ++ (nest 5 K122 ++ ([] : List Ent))))) := Hp.chunk [Ent.own (Value.slice a190_2 K112.length c190_2) 31 3 K112.length (rows M190_2), Ent.blk bp 51 #[v190_2], Ent.own v190_2 31 3 K112.length (rows K112)] (nest 5 M190_2) [Ent.blk bk12 31 #[Value.int .i64 (y122.f), Value.int .i64 (y122.t), Value.slice y122.a y122.l.length y122.c], Ent.own (Value.slice y122.a y122.l.length y122.c) 5 1 y122.l.length (us .u8 y122.l), Ent.blk bk48 47 #[v122], Ent.own v122 31 3 K122.length (rows K122), Ent.blk bk10 31 #[Value.int .i64 (y112.f), Value.int .i64 (y112.t), Value.slice y112.a y112.l.length y112.c]] (nest 5 K112 ++ (nest 5 K122 ++ ([] : List Ent))) H_53
              have kM190_2 := f190_0_2
              have okM190_2 : Nt.ok (keys M190_2) := by rw [kM190_2]; exact okK112
              refine L_as rfl ?_
              refine L_nil ?_
              refine Th_n ?_
              refine W_seq ?_
              refine W_seq ?_
              refine W_rg ?_
              refine L_mv rfl ?_
              refine L_y rfl (Y_not (b := (((Nt.tcode (keys K) : Nat) : Int) == ((Nt.tcode (keys R) : Nat) : Int))) rfl) ?_
              refine L_mv rfl ?_
              refine G_mv (wE rfl (congrArg Value.bool (congrArg Bool.not ((by rw [hKR]; simp) : (((Nt.tcode (keys K) : Nat) : Int) == ((Nt.tcode (keys R) : Nat) : Int)) = true)))) rfl ?_
              refine G_mv (wE rfl (congrArg Value.bool (congrArg Bool.not ((by rw [hKR]; simp) : (((Nt.tcode (keys K) : Nat) : Int) == ((Nt.tcode (keys R) : Nat) : Int)) = true)))) rfl ?_
              refine G_y (wE rfl (congrArg Value.bool (congrArg Bool.not ((by rw [hKR]; simp) : (((Nt.tcode (keys K) : Nat) : Int) == ((Nt.tcode (keys R) : Nat) : Int)) = true)))) rfl (Y_nil e_3_6) ?_
              refine G_y (wE rfl (congrArg Value.bool (congrArg Bool.not ((by rw [hKR]; simp) : (((Nt.tcode (keys K) : Nat) : Int) == ((Nt.tcode (keys R) : Nat) : Int)) = true)))) rfl (Y_fld T_fld47_0 rfl rfl rfl) ?_
              refine G_y (wE rfl (congrArg Value.bool (congrArg Bool.not ((by rw [hKR]; simp) : (((Nt.tcode (keys K) : Nat) : Int) == ((Nt.tcode (keys R) : Nat) : Int)) = true)))) rfl (Y_ld T_scal35 H_54 (i := 5) rfl rfl rfl) ?_
              refine Exists.elim (Ts.opn H_54 (i := 6) rfl) fun a__3 hx_ => Exists.elim hx_ fun c__3 hv_3 => ?_
              have H_55 : Hp w0 [] w_30 (Ent.own (Value.slice a190_2 K112.length c190_2) 31 3 K112.length (rows M190_2) :: Ent.blk bp 51 #[v190_2] :: Ent.own v190_2 31 3 K112.length (rows K112) :: Ent.blk bk12 31 #[Value.int .i64 (y122.f), Value.int .i64 (y122.t), Value.slice y122.a y122.l.length y122.c] :: Ent.own (Value.slice y122.a y122.l.length y122.c) 5 1 y122.l.length (us .u8 y122.l) :: Ent.blk bk48 47 #[Value.slice a__3 K122.length c__3] :: Ent.own (Value.slice a__3 K122.length c__3) 31 3 K122.length (rows K122) :: Ent.blk bk10 31 #[Value.int .i64 (y112.f), Value.int .i64 (y112.t), Value.slice y112.a y112.l.length y112.c] :: (nest 5 M190_2 ++ (nest 5 K112 ++ (nest 5 K122 ++ ([] : List Ent))))) := by have h := H_54; rw [hv_3] at h; exact h
              refine L_callv (wE rfl (congrArg Value.bool (congrArg Bool.not ((by rw [hKR]; simp) : (((Nt.tcode (keys K) : Nat) : Int) == ((Nt.tcode (keys R) : Nat) : Int)) = true)))) rfl T_en11 (A2 rfl (Eq.trans rfl hv_3)) (sameAll_n _ (Ts.own H_55 (i := 0) rfl) (Ts.own H_55 (i := 6) rfl) (by have := (okK112).len; rw [keys_len] at this; omega) (fun x hx => Sl.nest H_55 hx (fun _ h_ => .tail _ (.tail _ (.tail _ (.tail _ (.tail _ (.tail _ (.tail _ (.tail _ (List.mem_append_left _ h_)))))))))) (fun x hx => Sl.nest H_55 hx (fun _ h_ => .tail _ (.tail _ (.tail _ (.tail _ (.tail _ (.tail _ (.tail _ (.tail _ (List.mem_append_right _ (List.mem_append_right _ (List.mem_append_left _ h_)))))))))))) (fun x hx => ((okM190_2).lt _ (keys_mem hx)).1) (fun x hx => ((okK122).lt _ (keys_mem hx)).1)) ?_
              rintro _ w_31 ⟨rfl, hkp_7⟩; refine ⟨_, rfl, ?_⟩; have H_56 := H_55.keep hkp_7
              refine G_y (wE rfl (congrArg Value.bool (congrArg Bool.not ((by rw [hKR]; simp) : (((Nt.tcode (keys K) : Nat) : Int) == ((Nt.tcode (keys R) : Nat) : Int)) = true)))) rfl (Y_not (b := (decide (keys M190_2 = keys K122))) rfl) ?_
              refine L_y rfl (Y_pickF (congrArg Value.bool (congrArg Bool.not ((by rw [hKR]; simp) : (((Nt.tcode (keys K) : Nat) : Int) == ((Nt.tcode (keys R) : Nat) : Int)) = true)))) ?_
              refine L_nil ?_
              refine Th_n ?_
              refine W_false (congrArg Value.bool (congrArg Bool.not ((by rw [show keys M190_2 = keys K122 by rw [kM190_2, kK112, kK122, hKR]]; simp) : (decide (keys M190_2 = keys K122)) = true))) ?_
              refine W_skip ?_
              refine Th_n ?_
              refine W_rg ?_
              refine L_mv rfl ?_
              have Hc_8 : Hp w0 [] w_31 (Ent.own (Value.slice a190_2 K112.length c190_2) 31 3 K112.length (rows M190_2) :: (nest 5 M190_2 ++ (Ent.blk bp 51 #[v190_2] :: Ent.own v190_2 31 3 K112.length (rows K112) :: Ent.blk bk12 31 #[Value.int .i64 (y122.f), Value.int .i64 (y122.t), Value.slice y122.a y122.l.length y122.c] :: Ent.own (Value.slice y122.a y122.l.length y122.c) 5 1 y122.l.length (us .u8 y122.l) :: Ent.blk bk48 47 #[Value.slice a__3 K122.length c__3] :: Ent.own (Value.slice a__3 K122.length c__3) 31 3 K122.length (rows K122) :: Ent.blk bk10 31 #[Value.int .i64 (y112.f), Value.int .i64 (y112.t), Value.slice y112.a y112.l.length y112.c] :: (nest 5 K112 ++ (nest 5 K122 ++ ([] : List Ent)))))) := Hp.chunk [Ent.own (Value.slice a190_2 K112.length c190_2) 31 3 K112.length (rows M190_2)] [Ent.blk bp 51 #[v190_2], Ent.own v190_2 31 3 K112.length (rows K112), Ent.blk bk12 31 #[Value.int .i64 (y122.f), Value.int .i64 (y122.t), Value.slice y122.a y122.l.length y122.c], Ent.own (Value.slice y122.a y122.l.length y122.c) 5 1 y122.l.length (us .u8 y122.l), Ent.blk bk48 47 #[Value.slice a__3 K122.length c__3], Ent.own (Value.slice a__3 K122.length c__3) 31 3 K122.length (rows K122), Ent.blk bk10 31 #[Value.int .i64 (y112.f), Value.int .i64 (y112.t), Value.slice y112.a y112.l.length y112.c]] (nest 5 M190_2) (nest 5 K112 ++ (nest 5 K122 ++ ([] : List Ent))) H_56
              refine L_callv rfl rfl T_en16 (A1 rfl) (spoil_n (okM190_2).sp (by rw [← keys_len, kM190_2, keys_len]) (by have := (okK112).len; rw [keys_len] at this; omega) Hc_8) ?_
              rintro _ w_32 ⟨rfl, H_57⟩; refine ⟨_, rfl, ?_⟩
              refine L_nil ?_
              refine InB_n ?_
              refine Th_n ?_
              refine W_rg ?_
              refine L_mv rfl ?_
              refine L_y rfl (Y_add (k := .i64) (a := ((i : Nat) : Int)) (b := ((1 : Nat) : Int)) (z := ((i + 1 : Nat) : Int)) e_3_7 rfl (wi (by omega))) ?_
              refine L_as rfl ?_
              refine L_nil ?_
              refine Th_n ⟨_, ?_, (i + 1), bp, _, _, _, _, rfl, e_3_0, e_3_5, e_3_6, rfl, (((((((H_57.erase 2).erase 2).erase 4).pull 3 rfl).pull 3 rfl).pull 3 rfl).pull 3 rfl), okK112, okK122, (by rw [kK112, kK122, hKR]), (by omega)⟩
              omega
            ·
              have hc_5' := ne_of_beq_false hc_5
              refine W_seq ?_
              refine W_rg ?_
              refine L_y rfl (Y_eql (k := .i64) (a := el57.kind) (b := ((2 : Nat) : Int)) rfl rfl) ?_
              refine L_as rfl ?_
              refine L_nil ?_
              refine Th_n ?_
              refine W_cond (b := (el57.kind == ((2 : Nat) : Int))) rfl (fun hc_6 => ?_) (fun hc_6 => ?_)
              ·
                have hc_6' := eq_of_beq hc_6
                refine W_anyS 13 [6] [] [] [Value.pointer (some ⟨bp, 0, none⟩), Value.slice a m c, Value.int .i64 ((i : Nat) : Int), pl a (i * 5 + 0), pl a (i * 5 + 0 + 1), Value.int .i64 (el57.n), Value.int .i64 ((Nt.wcode (keys K) el57.n : Nat) : Int), Value.pointer (some ⟨bk48, 0, none⟩), Value.slice a m c, Value.int .i64 ((i : Nat) : Int), pl a (i * 5 + 0), pl a (i * 5 + 0 + 1), Value.int .i64 (el57.n)] (fun w => w.heap[bk48]? = some (.cells #[vr] 47 (0, 0)) ∧ Stay w0 w) [fun vs w => Hp w0 [] w (Ent.blk bp 51 #[vp] :: Ent.own vp 31 3 K.length (rows K) :: Ent.blk bk48 47 #[vr] :: Ent.own vr 31 3 R.length (rows R) :: (nest 5 K ++ (nest 5 R ++ ([] : List Ent)))), fun vs w => ∃ v144_, ∃ K144'_, keys K144'_ = Nt.twice (keys K) el57.n ∧ Hp w0 [] w (Ent.blk bp 51 #[v144_] :: Ent.own v144_ 31 3 K144'_.length (rows K144'_) :: Ent.blk bk48 47 #[vr] :: Ent.own vr 31 3 R.length (rows R) :: (nest 5 K144'_ ++ (nest 5 R ++ ([] : List Ent))))] T_mixed (by kernel_rfl) ⟨fun _ _ H => ⟨H.get 2 rfl, H.stay⟩, fun _ _ h => by obtain ⟨_, _, _, H⟩ := h; exact ⟨H.get 2 rfl, H.stay⟩, trivial⟩ ⟨fun _ _ _ hkp H => H.keep hkp, fun _ _ _ hkp h => by obtain ⟨q0, q1, q2, H⟩ := h; exact ⟨q0, q1, q2, H.keep hkp⟩, trivial⟩ H_13 ?_ ?_
                ·
                  refine .plain rfl (Pl_y rfl (fun w hBw => congrArg (fun v => Result.ok (Next.value v) w) e_3_5)) ?_
                  refine .plain rfl (Pl_y rfl (fun w hBw => congrArg (fun v => Result.ok (Next.value v) w) e_3_0)) ?_
                  refine .plain rfl (Pl_y rfl (fun w hBw => congrArg (fun v => Result.ok (Next.value v) w) e_3_7)) ?_
                  refine .plain rfl (Pl_y rfl (fun w hBw => Y_idxT (j := i) T_sl42 (hT.stay hBw.2) hel57 rfl rfl rfl)) ?_
                  refine .plain rfl (Pl_y rfl (fun w hBw => Y_fldT T_fld44_1 rfl (hT.stay hBw.2) hel57 rfl)) ?_
                  refine .plain rfl (Pl_y rfl (fun w hBw => Y_ldT (j := i) (off := 1) T_scal3 (hT.stay hBw.2) hel57 rfl rfl rfl)) ?_
                  refine .special 0 rfl (Special.ofD ⟨⟨trivial, fun _ _ _ e' w' hAg hYs => by
                      have H : Hp w0 [] w' (Ent.blk bp 51 #[vp] :: Ent.own vp 31 3 K.length (rows K) :: Ent.blk bk48 47 #[vr] :: Ent.own vr 31 3 R.length (rows R) :: (nest 5 K ++ (nest 5 R ++ ([] : List Ent)))) := hYs
                      exact ⟨rfl, Dn_callv T_en13 (A2 ((hAg 138 rfl).trans rfl) ((hAg 143 rfl).trans rfl)) ((twice_n el57.n okK (Hp.chunk [Ent.blk bp 51 #[vp], Ent.own vp 31 3 K.length (rows K)] [Ent.blk bk48 47 #[vr], Ent.own vr 31 3 R.length (rows R)] (nest 5 K) (nest 5 R ++ ([] : List Ent)) ((H.pull 1 rfl).pull 1 rfl))).mono (fun r_ w2 h => by obtain ⟨v144_, K144'_, rfl, g0_, Hn⟩ := h; exact ⟨_, rfl, ⟨(fun d hd => by cases hd; rfl), ⟨v144_, K144'_, g0_, (((((Hp.chunk [Ent.blk bp 51 #[v144_], Ent.own v144_ 31 3 K144'_.length (rows K144'_)] (nest 5 K144'_) [Ent.blk bk48 47 #[vr], Ent.own vr 31 3 R.length (rows R)] (nest 5 R ++ ([] : List Ent)) Hn).pull 3 rfl).pull 3 rfl).pull 3 rfl).pull 3 rfl)⟩⟩⟩))⟩⟩, fun h => absurd h (by decide)⟩) ?_
                  refine .plain rfl (Pl_y rfl (fun w hBw => congrArg (fun v => Result.ok (Next.value v) w) e_3_6)) ?_
                  refine .plain rfl (Pl_y rfl (fun w hBw => congrArg (fun v => Result.ok (Next.value v) w) e_3_0)) ?_
                  refine .plain rfl (Pl_y rfl (fun w hBw => congrArg (fun v => Result.ok (Next.value v) w) e_3_7)) ?_
                  refine .plain rfl (Pl_y rfl (fun w hBw => Y_idxT (j := i) T_sl42 (hT.stay hBw.2) hel57 rfl rfl rfl)) ?_
                  refine .plain rfl (Pl_y rfl (fun w hBw => Y_fldT T_fld44_1 rfl (hT.stay hBw.2) hel57 rfl)) ?_
                  refine .plain rfl (Pl_y rfl (fun w hBw => Y_ldT (j := i) (off := 1) T_scal3 (hT.stay hBw.2) hel57 rfl rfl rfl)) ?_
                  exact .nil _
                ·
                  intro e_5 w_33 hAg hYs
                  obtain ⟨v144_, K144'_, f0_0_2, H_58⟩ := hYs
                  have kK144'_ := f0_0_2
                  have okK144'_ : Nt.ok (keys K144'_) := by rw [kK144'_]; exact (okK).twice _
                  have e_5_0 : e_5 0 = Value.slice a m c := (hAg 0 rfl).trans e_3_0
                  have e_5_5 : e_5 5 = Value.pointer (some ⟨bp, 0, none⟩) := (hAg 5 rfl).trans e_3_5
                  have e_5_6 : e_5 6 = Value.pointer (some ⟨bk48, 0, none⟩) := (hAg 6 rfl).trans e_3_6
                  have e_5_7 : e_5 7 = Value.int .i64 ((i : Nat) : Int) := (hAg 7 rfl).trans e_3_7
                  obtain ⟨x144, hx144⟩ : ∃ z_ : Nat, z_ = Nt.wcode (keys K) el57.n := ⟨_, rfl⟩
                  have e_5_144 : e_5 144 = Value.int .i64 ((x144 : Nat) : Int) := (hAg 144 rfl).trans (by rw [hx144]; exact rfl)
                  have e_5_145 : e_5 145 = Value.pointer (some ⟨bk48, 0, none⟩) := (hAg 145 rfl).trans rfl
                  have e_5_150 : e_5 150 = Value.int .i64 (el57.n) := (hAg 150 rfl).trans rfl
                  have H_59 : Hp w0 [] w_33 (Ent.blk bp 51 #[v144_] :: Ent.own v144_ 31 3 K144'_.length (rows K144'_) :: Ent.blk bk48 47 #[vr] :: Ent.own vr 31 3 R.length (rows R) :: (nest 5 R ++ (nest 5 K144'_ ++ ([] : List Ent)))) := Hp.chunk [Ent.blk bp 51 #[v144_], Ent.own v144_ 31 3 K144'_.length (rows K144'_), Ent.blk bk48 47 #[vr], Ent.own vr 31 3 R.length (rows R)] (nest 5 K144'_) (nest 5 R) ([] : List Ent) H_58
                  have H_60 : Hp w0 [] w_33 (Ent.blk bk48 47 #[vr] :: Ent.own vr 31 3 R.length (rows R) :: Ent.blk bp 51 #[v144_] :: Ent.own v144_ 31 3 K144'_.length (rows K144'_) :: (nest 5 R ++ (nest 5 K144'_ ++ ([] : List Ent)))) := ((H_59.pull 3 rfl).pull 3 rfl)
                  have Hc_9 : Hp w0 [] w_33 (Ent.blk bk48 47 #[vr] :: Ent.own vr 31 3 R.length (rows R) :: (nest 5 R ++ (Ent.blk bp 51 #[v144_] :: Ent.own v144_ 31 3 K144'_.length (rows K144'_) :: (nest 5 K144'_ ++ ([] : List Ent))))) := Hp.chunk [Ent.blk bk48 47 #[vr], Ent.own vr 31 3 R.length (rows R)] [Ent.blk bp 51 #[v144_], Ent.own v144_ 31 3 K144'_.length (rows K144'_)] (nest 5 R) (nest 5 K144'_ ++ ([] : List Ent)) H_60
                  refine L_callv rfl rfl T_en18 (A2 e_5_145 e_5_150) (rtwice_n el57.n okR Hc_9) ?_
                  rintro _ w_34 ⟨v151, K151, rfl, f151_0, H_61⟩; refine ⟨_, rfl, ?_⟩
                  have H_62 : Hp w0 [] w_34 (Ent.blk bk48 47 #[v151] :: Ent.own v151 31 3 K151.length (rows K151) :: Ent.blk bp 51 #[v144_] :: Ent.own v144_ 31 3 K144'_.length (rows K144'_) :: (nest 5 K151 ++ (nest 5 K144'_ ++ ([] : List Ent)))) := Hp.chunk [Ent.blk bk48 47 #[v151], Ent.own v151 31 3 K151.length (rows K151)] (nest 5 K151) [Ent.blk bp 51 #[v144_], Ent.own v144_ 31 3 K144'_.length (rows K144'_)] (nest 5 K144'_ ++ ([] : List Ent)) H_61
                  have kK151 := f151_0
                  have okK151 : Nt.ok (keys K151) := by rw [kK151]; exact (okR).twice _
                  refine L_y rfl (Y_eql (k := .i64) (a := ((x144 : Nat) : Int)) (b := ((Nt.wcode (keys R) el57.n : Nat) : Int)) e_5_144 rfl) ?_
                  refine L_as rfl ?_
                  refine L_nil ?_
                  refine InB_n ?_
                  refine Th_n ?_
                  refine W_seq ?_
                  refine W_rg ?_
                  refine L_mv rfl ?_
                  have H_63 : Hp w0 [] w_34 (Ent.blk bk48 47 #[v151] :: Ent.own v151 31 3 K151.length (rows K151) :: Ent.blk bp 51 #[v144_] :: Ent.own v144_ 31 3 K144'_.length (rows K144'_) :: (nest 5 K144'_ ++ (nest 5 K151 ++ ([] : List Ent)))) := Hp.chunk [Ent.blk bk48 47 #[v151], Ent.own v151 31 3 K151.length (rows K151), Ent.blk bp 51 #[v144_], Ent.own v144_ 31 3 K144'_.length (rows K144'_)] (nest 5 K151) (nest 5 K144'_) ([] : List Ent) H_62
                  have H_64 : Hp w0 [] w_34 (Ent.blk bp 51 #[v144_] :: Ent.own v144_ 31 3 K144'_.length (rows K144'_) :: Ent.blk bk48 47 #[v151] :: Ent.own v151 31 3 K151.length (rows K151) :: (nest 5 K144'_ ++ (nest 5 K151 ++ ([] : List Ent)))) := ((H_63.pull 3 rfl).pull 3 rfl)
                  have Hc_10 : Hp w0 [] w_34 (Ent.blk bp 51 #[v144_] :: Ent.own v144_ 31 3 K144'_.length (rows K144'_) :: (nest 5 K144'_ ++ (Ent.blk bk48 47 #[v151] :: Ent.own v151 31 3 K151.length (rows K151) :: (nest 5 K151 ++ ([] : List Ent))))) := Hp.chunk [Ent.blk bp 51 #[v144_], Ent.own v144_ 31 3 K144'_.length (rows K144'_)] [Ent.blk bk48 47 #[v151], Ent.own v151 31 3 K151.length (rows K151)] (nest 5 K144'_) (nest 5 K151 ++ ([] : List Ent)) H_64
                  refine L_callv rfl rfl T_en12 (A1 e_5_5) (letters_n okK144'_ Hc_10) ?_
                  rintro _ w_35 ⟨a190_3, c190_3, M190_3, v190_3, rfl, f190_0_3, H_65⟩; refine ⟨_, rfl, ?_⟩
                  have H_66 : Hp w0 [] w_35 (Ent.own (Value.slice a190_3 K144'_.length c190_3) 31 3 K144'_.length (rows M190_3) :: Ent.blk bp 51 #[v190_3] :: Ent.own v190_3 31 3 K144'_.length (rows K144'_) :: (nest 5 M190_3 ++ (Ent.blk bk48 47 #[v151] :: Ent.own v151 31 3 K151.length (rows K151) :: (nest 5 K144'_ ++ (nest 5 K151 ++ ([] : List Ent)))))) := Hp.chunk ([Ent.own (Value.slice a190_3 K144'_.length c190_3) 31 3 K144'_.length (rows M190_3), Ent.blk bp 51 #[v190_3], Ent.own v190_3 31 3 K144'_.length (rows K144'_)] ++ nest 5 M190_3) (nest 5 K144'_) [Ent.blk bk48 47 #[v151], Ent.own v151 31 3 K151.length (rows K151)] (nest 5 K151 ++ ([] : List Ent)) H_65
                  have H_67 : Hp w0 [] w_35 (Ent.own (Value.slice a190_3 K144'_.length c190_3) 31 3 K144'_.length (rows M190_3) :: Ent.blk bp 51 #[v190_3] :: Ent.own v190_3 31 3 K144'_.length (rows K144'_) :: Ent.blk bk48 47 #[v151] :: Ent.own v151 31 3 K151.length (rows K151) :: (nest 5 M190_3 ++ (nest 5 K144'_ ++ (nest 5 K151 ++ ([] : List Ent))))) := Hp.chunk [Ent.own (Value.slice a190_3 K144'_.length c190_3) 31 3 K144'_.length (rows M190_3), Ent.blk bp 51 #[v190_3], Ent.own v190_3 31 3 K144'_.length (rows K144'_)] (nest 5 M190_3) [Ent.blk bk48 47 #[v151], Ent.own v151 31 3 K151.length (rows K151)] (nest 5 K144'_ ++ (nest 5 K151 ++ ([] : List Ent))) H_66
                  have kM190_3 := f190_0_3
                  have okM190_3 : Nt.ok (keys M190_3) := by rw [kM190_3]; exact okK144'_
                  refine L_as rfl ?_
                  refine L_nil ?_
                  refine Th_n ?_
                  refine W_seq ?_
                  refine W_seq ?_
                  refine W_rg ?_
                  refine L_mv rfl ?_
                  refine L_y rfl (Y_not (b := (((x144 : Nat) : Int) == ((Nt.wcode (keys R) el57.n : Nat) : Int))) rfl) ?_
                  refine L_mv rfl ?_
                  refine G_mv (wE rfl (congrArg Value.bool (congrArg Bool.not ((by rw [hx144, hKR]; simp) : (((x144 : Nat) : Int) == ((Nt.wcode (keys R) el57.n : Nat) : Int)) = true)))) rfl ?_
                  refine G_mv (wE rfl (congrArg Value.bool (congrArg Bool.not ((by rw [hx144, hKR]; simp) : (((x144 : Nat) : Int) == ((Nt.wcode (keys R) el57.n : Nat) : Int)) = true)))) rfl ?_
                  refine G_y (wE rfl (congrArg Value.bool (congrArg Bool.not ((by rw [hx144, hKR]; simp) : (((x144 : Nat) : Int) == ((Nt.wcode (keys R) el57.n : Nat) : Int)) = true)))) rfl (Y_nil e_5_6) ?_
                  refine G_y (wE rfl (congrArg Value.bool (congrArg Bool.not ((by rw [hx144, hKR]; simp) : (((x144 : Nat) : Int) == ((Nt.wcode (keys R) el57.n : Nat) : Int)) = true)))) rfl (Y_fld T_fld47_0 rfl rfl rfl) ?_
                  refine G_y (wE rfl (congrArg Value.bool (congrArg Bool.not ((by rw [hx144, hKR]; simp) : (((x144 : Nat) : Int) == ((Nt.wcode (keys R) el57.n : Nat) : Int)) = true)))) rfl (Y_ld T_scal35 H_67 (i := 3) rfl rfl rfl) ?_
                  refine Exists.elim (Ts.opn H_67 (i := 4) rfl) fun a__4 hx_ => Exists.elim hx_ fun c__4 hv_4 => ?_
                  have H_68 : Hp w0 [] w_35 (Ent.own (Value.slice a190_3 K144'_.length c190_3) 31 3 K144'_.length (rows M190_3) :: Ent.blk bp 51 #[v190_3] :: Ent.own v190_3 31 3 K144'_.length (rows K144'_) :: Ent.blk bk48 47 #[Value.slice a__4 K151.length c__4] :: Ent.own (Value.slice a__4 K151.length c__4) 31 3 K151.length (rows K151) :: (nest 5 M190_3 ++ (nest 5 K144'_ ++ (nest 5 K151 ++ ([] : List Ent))))) := by have h := H_67; rw [hv_4] at h; exact h
                  refine L_callv (wE rfl (congrArg Value.bool (congrArg Bool.not ((by rw [hx144, hKR]; simp) : (((x144 : Nat) : Int) == ((Nt.wcode (keys R) el57.n : Nat) : Int)) = true)))) rfl T_en11 (A2 rfl (Eq.trans rfl hv_4)) (sameAll_n _ (Ts.own H_68 (i := 0) rfl) (Ts.own H_68 (i := 4) rfl) (by have := (okK144'_).len; rw [keys_len] at this; omega) (fun x hx => Sl.nest H_68 hx (fun _ h_ => .tail _ (.tail _ (.tail _ (.tail _ (.tail _ (List.mem_append_left _ h_))))))) (fun x hx => Sl.nest H_68 hx (fun _ h_ => .tail _ (.tail _ (.tail _ (.tail _ (.tail _ (List.mem_append_right _ (List.mem_append_right _ (List.mem_append_left _ h_))))))))) (fun x hx => ((okM190_3).lt _ (keys_mem hx)).1) (fun x hx => ((okK151).lt _ (keys_mem hx)).1)) ?_
                  rintro _ w_36 ⟨rfl, hkp_8⟩; refine ⟨_, rfl, ?_⟩; have H_69 := H_68.keep hkp_8
                  refine G_y (wE rfl (congrArg Value.bool (congrArg Bool.not ((by rw [hx144, hKR]; simp) : (((x144 : Nat) : Int) == ((Nt.wcode (keys R) el57.n : Nat) : Int)) = true)))) rfl (Y_not (b := (decide (keys M190_3 = keys K151))) rfl) ?_
                  refine L_y rfl (Y_pickF (congrArg Value.bool (congrArg Bool.not ((by rw [hx144, hKR]; simp) : (((x144 : Nat) : Int) == ((Nt.wcode (keys R) el57.n : Nat) : Int)) = true)))) ?_
                  refine L_nil ?_
                  refine Th_n ?_
                  refine W_false (congrArg Value.bool (congrArg Bool.not ((by rw [show keys M190_3 = keys K151 by rw [kM190_3, kK144'_, kK151, hKR]]; simp) : (decide (keys M190_3 = keys K151)) = true))) ?_
                  refine W_skip ?_
                  refine Th_n ?_
                  refine W_rg ?_
                  refine L_mv rfl ?_
                  have Hc_11 : Hp w0 [] w_36 (Ent.own (Value.slice a190_3 K144'_.length c190_3) 31 3 K144'_.length (rows M190_3) :: (nest 5 M190_3 ++ (Ent.blk bp 51 #[v190_3] :: Ent.own v190_3 31 3 K144'_.length (rows K144'_) :: Ent.blk bk48 47 #[Value.slice a__4 K151.length c__4] :: Ent.own (Value.slice a__4 K151.length c__4) 31 3 K151.length (rows K151) :: (nest 5 K144'_ ++ (nest 5 K151 ++ ([] : List Ent)))))) := Hp.chunk [Ent.own (Value.slice a190_3 K144'_.length c190_3) 31 3 K144'_.length (rows M190_3)] [Ent.blk bp 51 #[v190_3], Ent.own v190_3 31 3 K144'_.length (rows K144'_), Ent.blk bk48 47 #[Value.slice a__4 K151.length c__4], Ent.own (Value.slice a__4 K151.length c__4) 31 3 K151.length (rows K151)] (nest 5 M190_3) (nest 5 K144'_ ++ (nest 5 K151 ++ ([] : List Ent))) H_69
                  refine L_callv rfl rfl T_en16 (A1 rfl) (spoil_n (okM190_3).sp (by rw [← keys_len, kM190_3, keys_len]) (by have := (okK144'_).len; rw [keys_len] at this; omega) Hc_11) ?_
                  rintro _ w_37 ⟨rfl, H_70⟩; refine ⟨_, rfl, ?_⟩
                  refine L_nil ?_
                  refine InB_n ?_
                  refine Th_n ?_
                  refine W_rg ?_
                  refine L_mv rfl ?_
                  refine L_y rfl (Y_add (k := .i64) (a := ((i : Nat) : Int)) (b := ((1 : Nat) : Int)) (z := ((i + 1 : Nat) : Int)) e_5_7 rfl (wi (by omega))) ?_
                  refine L_as rfl ?_
                  refine L_nil ?_
                  refine Th_n ⟨_, ?_, (i + 1), bp, _, _, _, _, rfl, e_5_0, e_5_5, e_5_6, rfl, H_70, okK144'_, okK151, (by rw [kK144'_, kK151, hKR]), (by omega)⟩
                  omega
              ·
                have hc_6' := ne_of_beq_false hc_6
                refine W_seq ?_
                refine W_rg ?_
                refine L_y rfl (Y_eql (k := .i64) (a := el57.kind) (b := ((3 : Nat) : Int)) rfl rfl) ?_
                refine L_as rfl ?_
                refine L_nil ?_
                refine Th_n ?_
                refine W_cond (b := (el57.kind == ((3 : Nat) : Int))) rfl (fun hc_7 => ?_) (fun hc_7 => ?_)
                ·
                  have hc_7' := eq_of_beq hc_7
                  refine W_seq ?_
                  refine W_rg ?_
                  refine L_mv rfl ?_
                  refine L_mv rfl ?_
                  refine L_mv rfl ?_
                  refine L_y rfl (Y_idxT (j := i) T_sl42 (hT.hp H_13) hel57 e_3_0 e_3_7 rfl) ?_
                  refine L_y rfl (Y_fldT T_fld44_1 rfl (hT.hp H_13) hel57 rfl) ?_
                  refine L_y rfl (Y_ldT (j := i) (off := 1) T_scal3 (hT.hp H_13) hel57 rfl rfl rfl) ?_
                  have H_71 : Hp w0 [] w_9 (Ent.blk bp 51 #[vp] :: Ent.own vp 31 3 K.length (rows K) :: Ent.blk bk48 47 #[vr] :: Ent.own vr 31 3 R.length (rows R) :: (nest 5 R ++ (nest 5 K ++ ([] : List Ent)))) := Hp.chunk [Ent.blk bp 51 #[vp], Ent.own vp 31 3 K.length (rows K), Ent.blk bk48 47 #[vr], Ent.own vr 31 3 R.length (rows R)] (nest 5 K) (nest 5 R) ([] : List Ent) H_13
                  have H_72 : Hp w0 [] w_9 (Ent.blk bk48 47 #[vr] :: Ent.own vr 31 3 R.length (rows R) :: Ent.blk bp 51 #[vp] :: Ent.own vp 31 3 K.length (rows K) :: (nest 5 R ++ (nest 5 K ++ ([] : List Ent)))) := ((H_71.pull 3 rfl).pull 3 rfl)
                  have Hc_12 : Hp w0 [] w_9 (Ent.blk bk48 47 #[vr] :: Ent.own vr 31 3 R.length (rows R) :: (nest 5 R ++ (Ent.blk bp 51 #[vp] :: Ent.own vp 31 3 K.length (rows K) :: (nest 5 K ++ ([] : List Ent))))) := Hp.chunk [Ent.blk bk48 47 #[vr], Ent.own vr 31 3 R.length (rows R)] [Ent.blk bp 51 #[vp], Ent.own vp 31 3 K.length (rows K)] (nest 5 R) (nest 5 K ++ ([] : List Ent)) H_72
                  refine L_callv rfl rfl T_en17 (A2 e_3_6 rfl) (rtake_n el57.n okR Hc_12) ?_
                  rintro _ w_38 ⟨y162, v162, K162, rfl, f162_0, H_73⟩; refine ⟨_, rfl, ?_⟩
                  have H_74 : Hp w0 [] w_38 (Ent.own (Value.slice y162.a y162.l.length y162.c) 5 1 y162.l.length (us .u8 y162.l) :: Ent.blk bk48 47 #[v162] :: Ent.own v162 31 3 K162.length (rows K162) :: Ent.blk bp 51 #[vp] :: Ent.own vp 31 3 K.length (rows K) :: (nest 5 K162 ++ (nest 5 K ++ ([] : List Ent)))) := Hp.chunk [Ent.own (Value.slice y162.a y162.l.length y162.c) 5 1 y162.l.length (us .u8 y162.l), Ent.blk bk48 47 #[v162], Ent.own v162 31 3 K162.length (rows K162)] (nest 5 K162) [Ent.blk bp 51 #[vp], Ent.own vp 31 3 K.length (rows K)] (nest 5 K ++ ([] : List Ent)) H_73
                  obtain ⟨ky162, hkK162⟩ := f162_0
                  have hy162 : ∀ u ∈ y162.l, u < 256 := by have h := (okR.letter el57.n).1; rw [← ky162] at h; exact h
                  have okK162 : Nt.ok (keys K162) := by rw [hkK162]; exact (okR).left _
                  have by162 : y162.l.length ≤ 60000 := by have h := (okR.letter el57.n).2; rw [← ky162] at h; exact h
                  have kK162 := hkK162
                  refine L_mv rfl ?_
                  refine L_y rfl (Y_ext rfl rfl) ?_
                  refine L_y rfl (Y_ext rfl rfl) ?_
                  refine L_alloc rfl H_74 T_zero31 ?_; intro bk14 w_39 H_75
                  refine L_str (ds := #[Value.int .i64 (y162.f), Value.int .i64 (y162.t), Value.slice y162.a y162.l.length y162.c]) T_row31 H_75 (i := 0) rfl rfl rfl rfl rfl (allOne3 _ _ _ _ _) (l' := (Ent.blk bk14 31 #[Value.int .i64 (y162.f), Value.int .i64 (y162.t), Value.slice y162.a y162.l.length y162.c] :: Ent.own (Value.slice y162.a y162.l.length y162.c) 5 1 y162.l.length (us .u8 y162.l) :: Ent.blk bk48 47 #[v162] :: Ent.own v162 31 3 K162.length (rows K162) :: Ent.blk bp 51 #[vp] :: Ent.own vp 31 3 K.length (rows K) :: (nest 5 K162 ++ (nest 5 K ++ ([] : List Ent))))) rfl ?_; intro w_40 H_76
                  refine L_as rfl ?_
                  refine L_nil ?_
                  refine Th_n ?_
                  refine W_rg ?_
                  refine L_mv rfl ?_
                  refine L_mv rfl ?_
                  refine L_mv rfl ?_
                  refine L_y rfl (Y_idxT (j := i) T_sl42 (hT.hp H_76) hel57 e_3_0 e_3_7 rfl) ?_
                  refine L_y rfl (Y_fldT T_fld44_1 rfl (hT.hp H_76) hel57 rfl) ?_
                  refine L_y rfl (Y_ldT (j := i) (off := 1) T_scal3 (hT.hp H_76) hel57 rfl rfl rfl) ?_
                  have H_77 : Hp w0 [] w_40 (Ent.blk bk14 31 #[Value.int .i64 (y162.f), Value.int .i64 (y162.t), Value.slice y162.a y162.l.length y162.c] :: Ent.own (Value.slice y162.a y162.l.length y162.c) 5 1 y162.l.length (us .u8 y162.l) :: Ent.blk bk48 47 #[v162] :: Ent.own v162 31 3 K162.length (rows K162) :: Ent.blk bp 51 #[vp] :: Ent.own vp 31 3 K.length (rows K) :: (nest 5 K ++ (nest 5 K162 ++ ([] : List Ent)))) := Hp.chunk [Ent.blk bk14 31 #[Value.int .i64 (y162.f), Value.int .i64 (y162.t), Value.slice y162.a y162.l.length y162.c], Ent.own (Value.slice y162.a y162.l.length y162.c) 5 1 y162.l.length (us .u8 y162.l), Ent.blk bk48 47 #[v162], Ent.own v162 31 3 K162.length (rows K162), Ent.blk bp 51 #[vp], Ent.own vp 31 3 K.length (rows K)] (nest 5 K162) (nest 5 K) ([] : List Ent) H_76
                  have H_78 : Hp w0 [] w_40 (Ent.blk bp 51 #[vp] :: Ent.own vp 31 3 K.length (rows K) :: Ent.blk bk14 31 #[Value.int .i64 (y162.f), Value.int .i64 (y162.t), Value.slice y162.a y162.l.length y162.c] :: Ent.own (Value.slice y162.a y162.l.length y162.c) 5 1 y162.l.length (us .u8 y162.l) :: Ent.blk bk48 47 #[v162] :: Ent.own v162 31 3 K162.length (rows K162) :: (nest 5 K ++ (nest 5 K162 ++ ([] : List Ent)))) := ((H_77.pull 5 rfl).pull 5 rfl)
                  have Hc_13 : Hp w0 [] w_40 (Ent.blk bp 51 #[vp] :: Ent.own vp 31 3 K.length (rows K) :: (nest 5 K ++ (Ent.blk bk14 31 #[Value.int .i64 (y162.f), Value.int .i64 (y162.t), Value.slice y162.a y162.l.length y162.c] :: Ent.own (Value.slice y162.a y162.l.length y162.c) 5 1 y162.l.length (us .u8 y162.l) :: Ent.blk bk48 47 #[v162] :: Ent.own v162 31 3 K162.length (rows K162) :: (nest 5 K162 ++ ([] : List Ent))))) := Hp.chunk [Ent.blk bp 51 #[vp], Ent.own vp 31 3 K.length (rows K)] [Ent.blk bk14 31 #[Value.int .i64 (y162.f), Value.int .i64 (y162.t), Value.slice y162.a y162.l.length y162.c], Ent.own (Value.slice y162.a y162.l.length y162.c) 5 1 y162.l.length (us .u8 y162.l), Ent.blk bk48 47 #[v162], Ent.own v162 31 3 K162.length (rows K162)] (nest 5 K) (nest 5 K162 ++ ([] : List Ent)) H_78
                  refine L_callv rfl rfl T_en19 (A2 e_3_5 rfl) (lose_n el57.n okK Hc_13) ?_
                  rintro _ w_41 ⟨v171, K171, rfl, f171_0, H_79⟩; refine ⟨_, rfl, ?_⟩
                  have H_80 : Hp w0 [] w_41 (Ent.blk bp 51 #[v171] :: Ent.own v171 31 3 K171.length (rows K171) :: Ent.blk bk14 31 #[Value.int .i64 (y162.f), Value.int .i64 (y162.t), Value.slice y162.a y162.l.length y162.c] :: Ent.own (Value.slice y162.a y162.l.length y162.c) 5 1 y162.l.length (us .u8 y162.l) :: Ent.blk bk48 47 #[v162] :: Ent.own v162 31 3 K162.length (rows K162) :: (nest 5 K171 ++ (nest 5 K162 ++ ([] : List Ent)))) := Hp.chunk [Ent.blk bp 51 #[v171], Ent.own v171 31 3 K171.length (rows K171)] (nest 5 K171) [Ent.blk bk14 31 #[Value.int .i64 (y162.f), Value.int .i64 (y162.t), Value.slice y162.a y162.l.length y162.c], Ent.own (Value.slice y162.a y162.l.length y162.c) 5 1 y162.l.length (us .u8 y162.l), Ent.blk bk48 47 #[v162], Ent.own v162 31 3 K162.length (rows K162)] (nest 5 K162 ++ ([] : List Ent)) H_79
                  have kK171 := f171_0
                  have okK171 : Nt.ok (keys K171) := by rw [kK171]; exact (okK).left _
                  refine L_mv rfl ?_
                  refine L_y rfl (Y_eql (k := .i64) (a := ((Nt.tcode (keys K) : Nat) : Int)) (b := ((Nt.tcode (keys R) : Nat) : Int)) rfl rfl) ?_
                  refine L_as rfl ?_
                  refine L_nil ?_
                  refine InB_n ?_
                  refine Th_n ?_
                  refine W_seq ?_
                  refine W_rg ?_
                  refine L_mv rfl ?_
                  have Hc_14 : Hp w0 [] w_41 (Ent.blk bp 51 #[v171] :: Ent.own v171 31 3 K171.length (rows K171) :: (nest 5 K171 ++ (Ent.blk bk14 31 #[Value.int .i64 (y162.f), Value.int .i64 (y162.t), Value.slice y162.a y162.l.length y162.c] :: Ent.own (Value.slice y162.a y162.l.length y162.c) 5 1 y162.l.length (us .u8 y162.l) :: Ent.blk bk48 47 #[v162] :: Ent.own v162 31 3 K162.length (rows K162) :: (nest 5 K162 ++ ([] : List Ent))))) := Hp.chunk [Ent.blk bp 51 #[v171], Ent.own v171 31 3 K171.length (rows K171)] [Ent.blk bk14 31 #[Value.int .i64 (y162.f), Value.int .i64 (y162.t), Value.slice y162.a y162.l.length y162.c], Ent.own (Value.slice y162.a y162.l.length y162.c) 5 1 y162.l.length (us .u8 y162.l), Ent.blk bk48 47 #[v162], Ent.own v162 31 3 K162.length (rows K162)] (nest 5 K171) (nest 5 K162 ++ ([] : List Ent)) H_80
                  refine L_callv rfl rfl T_en12 (A1 e_3_5) (letters_n okK171 Hc_14) ?_
                  rintro _ w_42 ⟨a190_4, c190_4, M190_4, v190_4, rfl, f190_0_4, H_81⟩; refine ⟨_, rfl, ?_⟩
                  have H_82 : Hp w0 [] w_42 (Ent.own (Value.slice a190_4 K171.length c190_4) 31 3 K171.length (rows M190_4) :: Ent.blk bp 51 #[v190_4] :: Ent.own v190_4 31 3 K171.length (rows K171) :: (nest 5 M190_4 ++ (Ent.blk bk14 31 #[Value.int .i64 (y162.f), Value.int .i64 (y162.t), Value.slice y162.a y162.l.length y162.c] :: Ent.own (Value.slice y162.a y162.l.length y162.c) 5 1 y162.l.length (us .u8 y162.l) :: Ent.blk bk48 47 #[v162] :: Ent.own v162 31 3 K162.length (rows K162) :: (nest 5 K171 ++ (nest 5 K162 ++ ([] : List Ent)))))) := Hp.chunk ([Ent.own (Value.slice a190_4 K171.length c190_4) 31 3 K171.length (rows M190_4), Ent.blk bp 51 #[v190_4], Ent.own v190_4 31 3 K171.length (rows K171)] ++ nest 5 M190_4) (nest 5 K171) [Ent.blk bk14 31 #[Value.int .i64 (y162.f), Value.int .i64 (y162.t), Value.slice y162.a y162.l.length y162.c], Ent.own (Value.slice y162.a y162.l.length y162.c) 5 1 y162.l.length (us .u8 y162.l), Ent.blk bk48 47 #[v162], Ent.own v162 31 3 K162.length (rows K162)] (nest 5 K162 ++ ([] : List Ent)) H_81
                  have H_83 : Hp w0 [] w_42 (Ent.own (Value.slice a190_4 K171.length c190_4) 31 3 K171.length (rows M190_4) :: Ent.blk bp 51 #[v190_4] :: Ent.own v190_4 31 3 K171.length (rows K171) :: Ent.blk bk14 31 #[Value.int .i64 (y162.f), Value.int .i64 (y162.t), Value.slice y162.a y162.l.length y162.c] :: Ent.own (Value.slice y162.a y162.l.length y162.c) 5 1 y162.l.length (us .u8 y162.l) :: Ent.blk bk48 47 #[v162] :: Ent.own v162 31 3 K162.length (rows K162) :: (nest 5 M190_4 ++ (nest 5 K171 ++ (nest 5 K162 ++ ([] : List Ent))))) := Hp.chunk [Ent.own (Value.slice a190_4 K171.length c190_4) 31 3 K171.length (rows M190_4), Ent.blk bp 51 #[v190_4], Ent.own v190_4 31 3 K171.length (rows K171)] (nest 5 M190_4) [Ent.blk bk14 31 #[Value.int .i64 (y162.f), Value.int .i64 (y162.t), Value.slice y162.a y162.l.length y162.c], Ent.own (Value.slice y162.a y162.l.length y162.c) 5 1 y162.l.length (us .u8 y162.l), Ent.blk bk48 47 #[v162], Ent.own v162 31 3 K162.length (rows K162)] (nest 5 K171 ++ (nest 5 K162 ++ ([] : List Ent))) H_82
                  have kM190_4 := f190_0_4
                  have okM190_4 : Nt.ok (keys M190_4) := by rw [kM190_4]; exact okK171
                  refine L_as rfl ?_
                  refine L_nil ?_
                  refine Th_n ?_
                  refine W_seq ?_
                  refine W_seq ?_
                  refine W_rg ?_
                  refine L_mv rfl ?_
                  refine L_y rfl (Y_not (b := (((Nt.tcode (keys K) : Nat) : Int) == ((Nt.tcode (keys R) : Nat) : Int))) rfl) ?_
                  refine L_mv rfl ?_
                  refine G_mv (wE rfl (congrArg Value.bool (congrArg Bool.not ((by rw [hKR]; simp) : (((Nt.tcode (keys K) : Nat) : Int) == ((Nt.tcode (keys R) : Nat) : Int)) = true)))) rfl ?_
                  refine G_mv (wE rfl (congrArg Value.bool (congrArg Bool.not ((by rw [hKR]; simp) : (((Nt.tcode (keys K) : Nat) : Int) == ((Nt.tcode (keys R) : Nat) : Int)) = true)))) rfl ?_
                  refine G_y (wE rfl (congrArg Value.bool (congrArg Bool.not ((by rw [hKR]; simp) : (((Nt.tcode (keys K) : Nat) : Int) == ((Nt.tcode (keys R) : Nat) : Int)) = true)))) rfl (Y_nil e_3_6) ?_
                  refine G_y (wE rfl (congrArg Value.bool (congrArg Bool.not ((by rw [hKR]; simp) : (((Nt.tcode (keys K) : Nat) : Int) == ((Nt.tcode (keys R) : Nat) : Int)) = true)))) rfl (Y_fld T_fld47_0 rfl rfl rfl) ?_
                  refine G_y (wE rfl (congrArg Value.bool (congrArg Bool.not ((by rw [hKR]; simp) : (((Nt.tcode (keys K) : Nat) : Int) == ((Nt.tcode (keys R) : Nat) : Int)) = true)))) rfl (Y_ld T_scal35 H_83 (i := 5) rfl rfl rfl) ?_
                  refine Exists.elim (Ts.opn H_83 (i := 6) rfl) fun a__5 hx_ => Exists.elim hx_ fun c__5 hv_5 => ?_
                  have H_84 : Hp w0 [] w_42 (Ent.own (Value.slice a190_4 K171.length c190_4) 31 3 K171.length (rows M190_4) :: Ent.blk bp 51 #[v190_4] :: Ent.own v190_4 31 3 K171.length (rows K171) :: Ent.blk bk14 31 #[Value.int .i64 (y162.f), Value.int .i64 (y162.t), Value.slice y162.a y162.l.length y162.c] :: Ent.own (Value.slice y162.a y162.l.length y162.c) 5 1 y162.l.length (us .u8 y162.l) :: Ent.blk bk48 47 #[Value.slice a__5 K162.length c__5] :: Ent.own (Value.slice a__5 K162.length c__5) 31 3 K162.length (rows K162) :: (nest 5 M190_4 ++ (nest 5 K171 ++ (nest 5 K162 ++ ([] : List Ent))))) := by have h := H_83; rw [hv_5] at h; exact h
                  refine L_callv (wE rfl (congrArg Value.bool (congrArg Bool.not ((by rw [hKR]; simp) : (((Nt.tcode (keys K) : Nat) : Int) == ((Nt.tcode (keys R) : Nat) : Int)) = true)))) rfl T_en11 (A2 rfl (Eq.trans rfl hv_5)) (sameAll_n _ (Ts.own H_84 (i := 0) rfl) (Ts.own H_84 (i := 6) rfl) (by have := (okK171).len; rw [keys_len] at this; omega) (fun x hx => Sl.nest H_84 hx (fun _ h_ => .tail _ (.tail _ (.tail _ (.tail _ (.tail _ (.tail _ (.tail _ (List.mem_append_left _ h_))))))))) (fun x hx => Sl.nest H_84 hx (fun _ h_ => .tail _ (.tail _ (.tail _ (.tail _ (.tail _ (.tail _ (.tail _ (List.mem_append_right _ (List.mem_append_right _ (List.mem_append_left _ h_))))))))))) (fun x hx => ((okM190_4).lt _ (keys_mem hx)).1) (fun x hx => ((okK162).lt _ (keys_mem hx)).1)) ?_
                  rintro _ w_43 ⟨rfl, hkp_9⟩; refine ⟨_, rfl, ?_⟩; have H_85 := H_84.keep hkp_9
                  refine G_y (wE rfl (congrArg Value.bool (congrArg Bool.not ((by rw [hKR]; simp) : (((Nt.tcode (keys K) : Nat) : Int) == ((Nt.tcode (keys R) : Nat) : Int)) = true)))) rfl (Y_not (b := (decide (keys M190_4 = keys K162))) rfl) ?_
                  refine L_y rfl (Y_pickF (congrArg Value.bool (congrArg Bool.not ((by rw [hKR]; simp) : (((Nt.tcode (keys K) : Nat) : Int) == ((Nt.tcode (keys R) : Nat) : Int)) = true)))) ?_
                  refine L_nil ?_
                  refine Th_n ?_
                  refine W_false (congrArg Value.bool (congrArg Bool.not ((by rw [show keys M190_4 = keys K162 by rw [kM190_4, kK171, kK162, hKR]]; simp) : (decide (keys M190_4 = keys K162)) = true))) ?_
                  refine W_skip ?_
                  refine Th_n ?_
                  refine W_rg ?_
                  refine L_mv rfl ?_
                  have Hc_15 : Hp w0 [] w_43 (Ent.own (Value.slice a190_4 K171.length c190_4) 31 3 K171.length (rows M190_4) :: (nest 5 M190_4 ++ (Ent.blk bp 51 #[v190_4] :: Ent.own v190_4 31 3 K171.length (rows K171) :: Ent.blk bk14 31 #[Value.int .i64 (y162.f), Value.int .i64 (y162.t), Value.slice y162.a y162.l.length y162.c] :: Ent.own (Value.slice y162.a y162.l.length y162.c) 5 1 y162.l.length (us .u8 y162.l) :: Ent.blk bk48 47 #[Value.slice a__5 K162.length c__5] :: Ent.own (Value.slice a__5 K162.length c__5) 31 3 K162.length (rows K162) :: (nest 5 K171 ++ (nest 5 K162 ++ ([] : List Ent)))))) := Hp.chunk [Ent.own (Value.slice a190_4 K171.length c190_4) 31 3 K171.length (rows M190_4)] [Ent.blk bp 51 #[v190_4], Ent.own v190_4 31 3 K171.length (rows K171), Ent.blk bk14 31 #[Value.int .i64 (y162.f), Value.int .i64 (y162.t), Value.slice y162.a y162.l.length y162.c], Ent.own (Value.slice y162.a y162.l.length y162.c) 5 1 y162.l.length (us .u8 y162.l), Ent.blk bk48 47 #[Value.slice a__5 K162.length c__5], Ent.own (Value.slice a__5 K162.length c__5) 31 3 K162.length (rows K162)] (nest 5 M190_4) (nest 5 K171 ++ (nest 5 K162 ++ ([] : List Ent))) H_85
                  refine L_callv rfl rfl T_en16 (A1 rfl) (spoil_n (okM190_4).sp (by rw [← keys_len, kM190_4, keys_len]) (by have := (okK171).len; rw [keys_len] at this; omega) Hc_15) ?_
                  rintro _ w_44 ⟨rfl, H_86⟩; refine ⟨_, rfl, ?_⟩
                  refine L_nil ?_
                  refine InB_n ?_
                  refine Th_n ?_
                  refine W_rg ?_
                  refine L_mv rfl ?_
                  refine L_y rfl (Y_add (k := .i64) (a := ((i : Nat) : Int)) (b := ((1 : Nat) : Int)) (z := ((i + 1 : Nat) : Int)) e_3_7 rfl (wi (by omega))) ?_
                  refine L_as rfl ?_
                  refine L_nil ?_
                  refine Th_n ⟨_, ?_, (i + 1), bp, _, _, _, _, rfl, e_3_0, e_3_5, e_3_6, rfl, ((((((H_86.erase 2).erase 2).pull 3 rfl).pull 3 rfl).pull 3 rfl).pull 3 rfl), okK171, okK162, (by rw [kK171, kK162, hKR]), (by omega)⟩
                  omega
                ·
                  have hc_7' := ne_of_beq_false hc_7
                  refine W_seq ?_
                  refine W_rg ?_
                  refine L_y rfl (Y_eql (k := .i64) (a := el57.kind) (b := ((4 : Nat) : Int)) rfl rfl) ?_
                  refine L_as rfl ?_
                  refine L_nil ?_
                  refine Th_n ?_
                  refine W_cond (b := (el57.kind == ((4 : Nat) : Int))) rfl (fun hc_8 => ?_) (fun hc_8 => ?_)
                  ·
                    have hc_8' := eq_of_beq hc_8
                    refine W_seq ?_
                    refine W_rg ?_
                    refine L_mv rfl ?_
                    have Hc_16 : Hp w0 [] w_9 (Ent.blk bp 51 #[vp] :: Ent.own vp 31 3 K.length (rows K) :: (nest 5 K ++ (Ent.blk bk48 47 #[vr] :: Ent.own vr 31 3 R.length (rows R) :: (nest 5 R ++ ([] : List Ent))))) := Hp.chunk [Ent.blk bp 51 #[vp], Ent.own vp 31 3 K.length (rows K)] [Ent.blk bk48 47 #[vr], Ent.own vr 31 3 R.length (rows R)] (nest 5 K) (nest 5 R ++ ([] : List Ent)) H_13
                    refine L_callv rfl rfl T_en20 (A1 e_3_5) (copy_n okK Hc_16) ?_
                    rintro _ w_45 ⟨b177, v177, M177, v177_2, rfl, f177_0, H_87⟩; refine ⟨_, rfl, ?_⟩
                    have H_88 : Hp w0 [] w_45 (Ent.blk b177 51 #[v177] :: Ent.own v177 31 3 M177.length (rows M177) :: Ent.blk bp 51 #[v177_2] :: Ent.own v177_2 31 3 K.length (rows K) :: (nest 5 M177 ++ (Ent.blk bk48 47 #[vr] :: Ent.own vr 31 3 R.length (rows R) :: (nest 5 K ++ (nest 5 R ++ ([] : List Ent)))))) := Hp.chunk ([Ent.blk b177 51 #[v177], Ent.own v177 31 3 M177.length (rows M177), Ent.blk bp 51 #[v177_2], Ent.own v177_2 31 3 K.length (rows K)] ++ nest 5 M177) (nest 5 K) [Ent.blk bk48 47 #[vr], Ent.own vr 31 3 R.length (rows R)] (nest 5 R ++ ([] : List Ent)) H_87
                    have H_89 : Hp w0 [] w_45 (Ent.blk b177 51 #[v177] :: Ent.own v177 31 3 M177.length (rows M177) :: Ent.blk bp 51 #[v177_2] :: Ent.own v177_2 31 3 K.length (rows K) :: Ent.blk bk48 47 #[vr] :: Ent.own vr 31 3 R.length (rows R) :: (nest 5 M177 ++ (nest 5 K ++ (nest 5 R ++ ([] : List Ent))))) := Hp.chunk [Ent.blk b177 51 #[v177], Ent.own v177 31 3 M177.length (rows M177), Ent.blk bp 51 #[v177_2], Ent.own v177_2 31 3 K.length (rows K)] (nest 5 M177) [Ent.blk bk48 47 #[vr], Ent.own vr 31 3 R.length (rows R)] (nest 5 K ++ (nest 5 R ++ ([] : List Ent))) H_88
                    have kM177 := f177_0
                    have okM177 : Nt.ok (keys M177) := by rw [kM177]; exact okK
                    refine L_as rfl ?_
                    refine L_nil ?_
                    refine Th_n ?_
                    refine W_seq ?_
                    refine W_rg ?_
                    refine L_mv rfl ?_
                    refine L_y rfl (Y_build (pv := []) (cs := #[Value.int .i64 ((0 : Nat) : Int), Value.int .i64 ((0 : Nat) : Int), Value.slice none 0 0]) Bp0 (by kernel_rfl)) ?_
                    have H_90 : Hp w0 [] w_45 (Ent.blk b177 51 #[v177] :: Ent.own v177 31 3 M177.length (rows M177) :: Ent.blk bp 51 #[v177_2] :: Ent.own v177_2 31 3 K.length (rows K) :: Ent.blk bk48 47 #[vr] :: Ent.own vr 31 3 R.length (rows R) :: (nest 5 K ++ (nest 5 M177 ++ (nest 5 R ++ ([] : List Ent))))) := Hp.chunk [Ent.blk b177 51 #[v177], Ent.own v177 31 3 M177.length (rows M177), Ent.blk bp 51 #[v177_2], Ent.own v177_2 31 3 K.length (rows K), Ent.blk bk48 47 #[vr], Ent.own vr 31 3 R.length (rows R)] (nest 5 M177) (nest 5 K) (nest 5 R ++ ([] : List Ent)) H_89
                    have H_91 : Hp w0 [] w_45 (Ent.blk bp 51 #[v177_2] :: Ent.own v177_2 31 3 K.length (rows K) :: Ent.blk b177 51 #[v177] :: Ent.own v177 31 3 M177.length (rows M177) :: Ent.blk bk48 47 #[vr] :: Ent.own vr 31 3 R.length (rows R) :: (nest 5 K ++ (nest 5 M177 ++ (nest 5 R ++ ([] : List Ent))))) := ((H_90.pull 3 rfl).pull 3 rfl)
                    have Hc_17 : Hp w0 [] w_45 (Ent.blk bp 51 #[v177_2] :: Ent.own v177_2 31 3 K.length (rows K) :: (nest 5 K ++ (Ent.blk b177 51 #[v177] :: Ent.own v177 31 3 M177.length (rows M177) :: Ent.blk bk48 47 #[vr] :: Ent.own vr 31 3 R.length (rows R) :: (nest 5 M177 ++ (nest 5 R ++ ([] : List Ent)))))) := Hp.chunk [Ent.blk bp 51 #[v177_2], Ent.own v177_2 31 3 K.length (rows K)] [Ent.blk b177 51 #[v177], Ent.own v177 31 3 M177.length (rows M177), Ent.blk bk48 47 #[vr], Ent.own vr 31 3 R.length (rows R)] (nest 5 K) (nest 5 M177 ++ (nest 5 R ++ ([] : List Ent))) H_91
                    refine L_callv rfl rfl T_en9 (A2 e_3_5 rfl) (send_n (f := ((0 : Nat) : Int)) (t := ((0 : Nat) : Int)) (l := []) okK (by simp) Seen.nil Hc_17) ?_
                    rintro _ w_46 ⟨v180, K180, rfl, f180_0, H_92⟩; refine ⟨_, rfl, ?_⟩
                    have H_93 : Hp w0 [] w_46 (Ent.blk bp 51 #[v180] :: Ent.own v180 31 3 K180.length (rows K180) :: Ent.blk b177 51 #[v177] :: Ent.own v177 31 3 M177.length (rows M177) :: Ent.blk bk48 47 #[vr] :: Ent.own vr 31 3 R.length (rows R) :: (nest 5 K180 ++ (nest 5 M177 ++ (nest 5 R ++ ([] : List Ent))))) := Hp.chunk [Ent.blk bp 51 #[v180], Ent.own v180 31 3 K180.length (rows K180)] (nest 5 K180) [Ent.blk b177 51 #[v177], Ent.own v177 31 3 M177.length (rows M177), Ent.blk bk48 47 #[vr], Ent.own vr 31 3 R.length (rows R)] (nest 5 M177 ++ (nest 5 R ++ ([] : List Ent))) H_92
                    have kK180 := f180_0
                    have okK180 : Nt.ok (keys K180) := by rw [kK180]; exact (okK).send (by simp)
                    refine L_nil ?_
                    refine Th_n ?_
                    refine W_seq ?_
                    refine W_seq ?_
                    refine W_rg ?_
                    refine L_as rfl ?_
                    refine L_nil ?_
                    refine Th_n ?_
                    refine W_block ?_
                    refine W_loop (fun mu_ e w => ∃ k : Nat, ∃ Q : List Lt, ∃ vq : Value, mu_ = 5 - k ∧ e 0 = Value.slice a m c ∧ e 5 = Value.pointer (some ⟨bp, 0, none⟩) ∧ e 6 = Value.pointer (some ⟨bk48, 0, none⟩) ∧ e 7 = Value.int .i64 ((i : Nat) : Int) ∧ e 8 = Value.bool true ∧ e 16 = Value.pointer (some ⟨b177, 0, none⟩) ∧ e 17 = Value.int .i64 ((k : Nat) : Int) ∧ Hp w0 [] w (Ent.blk bp 51 #[vq] :: Ent.own vq 31 3 Q.length (rows Q) :: Ent.blk b177 51 #[v177] :: Ent.own v177 31 3 M177.length (rows M177) :: Ent.blk bk48 47 #[vr] :: Ent.own vr 31 3 R.length (rows R) :: (nest 5 Q ++ (nest 5 M177 ++ (nest 5 R ++ ([] : List Ent))))) ∧ Nt.ok (keys Q)) _ ⟨0, K180, _, rfl, e_3_0, e_3_5, e_3_6, e_3_7, rfl, rfl, rfl, H_93, okK180⟩ ?_
                    rintro mu_ e_6 w_47 ⟨k, Q, vq, rfl, e_6_0, e_6_5, e_6_6, e_6_7, e_6_8, e_6_16, e_6_17, H_94, okQ⟩
                    refine W_seq ?_
                    refine W_seq ?_
                    refine W_rg ?_
                    refine L_mv rfl ?_
                    refine L_y rfl (Y_lss (k := .i64) (a := ((k : Nat) : Int)) (b := ((5 : Nat) : Int)) e_6_17 rfl) ?_
                    refine L_nil ?_
                    refine Th_n ?_
                    refine W_cond (b := (decide (((k : Nat) : Int) < ((5 : Nat) : Int)))) rfl (fun hc_9 => ?_) (fun hc_9 => ?_)
                    ·
                      have hc_9' := of_decide_eq_true hc_9
                      refine W_skip ?_
                      refine Th_n ?_
                      refine W_seq ?_
                      refine W_block ?_
                      refine W_rg ?_
                      refine L_mv rfl ?_
                      refine L_mv rfl ?_
                      have Hc_18 : Hp w0 [] w_47 (Ent.blk bp 51 #[vq] :: Ent.own vq 31 3 Q.length (rows Q) :: (nest 5 Q ++ (Ent.blk b177 51 #[v177] :: Ent.own v177 31 3 M177.length (rows M177) :: Ent.blk bk48 47 #[vr] :: Ent.own vr 31 3 R.length (rows R) :: (nest 5 M177 ++ (nest 5 R ++ ([] : List Ent)))))) := Hp.chunk [Ent.blk bp 51 #[vq], Ent.own vq 31 3 Q.length (rows Q)] [Ent.blk b177 51 #[v177], Ent.own v177 31 3 M177.length (rows M177), Ent.blk bk48 47 #[vr], Ent.own vr 31 3 R.length (rows R)] (nest 5 Q) (nest 5 M177 ++ (nest 5 R ++ ([] : List Ent))) H_94
                      refine L_callv rfl rfl T_en19 (A2 e_6_5 e_6_17) (lose_n ((k : Nat) : Int) okQ Hc_18) ?_
                      rintro _ w_48 ⟨v187, K187, rfl, f187_0, H_95⟩; refine ⟨_, rfl, ?_⟩
                      have H_96 : Hp w0 [] w_48 (Ent.blk bp 51 #[v187] :: Ent.own v187 31 3 K187.length (rows K187) :: Ent.blk b177 51 #[v177] :: Ent.own v177 31 3 M177.length (rows M177) :: Ent.blk bk48 47 #[vr] :: Ent.own vr 31 3 R.length (rows R) :: (nest 5 K187 ++ (nest 5 M177 ++ (nest 5 R ++ ([] : List Ent))))) := Hp.chunk [Ent.blk bp 51 #[v187], Ent.own v187 31 3 K187.length (rows K187)] (nest 5 K187) [Ent.blk b177 51 #[v177], Ent.own v177 31 3 M177.length (rows M177), Ent.blk bk48 47 #[vr], Ent.own vr 31 3 R.length (rows R)] (nest 5 M177 ++ (nest 5 R ++ ([] : List Ent))) H_95
                      have kK187 := f187_0
                      have okK187 : Nt.ok (keys K187) := by rw [kK187]; exact (okQ).left _
                      refine L_nil ?_
                      refine InB_n ?_
                      refine Th_n ?_
                      refine W_rg ?_
                      refine L_mv rfl ?_
                      refine L_y rfl (Y_add (k := .i64) (a := ((k : Nat) : Int)) (b := ((1 : Nat) : Int)) (z := ((k + 1 : Nat) : Int)) e_6_17 rfl (wi (by omega))) ?_
                      refine L_as rfl ?_
                      refine L_nil ?_
                      refine Th_n ⟨_, ?_, (k + 1), _, _, rfl, e_6_0, e_6_5, e_6_6, e_6_7, e_6_8, e_6_16, rfl, H_96, okK187⟩
                      omega
                    ·
                      have hc_9' := of_decide_eq_false hc_9
                      refine W_exit ?_
                      refine Th_x ?_
                      refine Th_x ?_
                      refine InB_hit ?_
                      refine Th_n ?_
                      refine W_rg ?_
                      refine L_mv rfl ?_
                      refine L_as rfl ?_
                      refine L_nil ?_
                      refine InB_n ?_
                      refine Th_n ?_
                      refine W_seq ?_
                      refine W_rg ?_
                      refine L_mv rfl ?_
                      have H_97 : Hp w0 [] w_47 (Ent.blk bp 51 #[vq] :: Ent.own vq 31 3 Q.length (rows Q) :: Ent.blk b177 51 #[v177] :: Ent.own v177 31 3 M177.length (rows M177) :: Ent.blk bk48 47 #[vr] :: Ent.own vr 31 3 R.length (rows R) :: (nest 5 M177 ++ (nest 5 Q ++ (nest 5 R ++ ([] : List Ent))))) := Hp.chunk [Ent.blk bp 51 #[vq], Ent.own vq 31 3 Q.length (rows Q), Ent.blk b177 51 #[v177], Ent.own v177 31 3 M177.length (rows M177), Ent.blk bk48 47 #[vr], Ent.own vr 31 3 R.length (rows R)] (nest 5 Q) (nest 5 M177) (nest 5 R ++ ([] : List Ent)) H_94
                      have H_98 : Hp w0 [] w_47 (Ent.blk b177 51 #[v177] :: Ent.own v177 31 3 M177.length (rows M177) :: Ent.blk bp 51 #[vq] :: Ent.own vq 31 3 Q.length (rows Q) :: Ent.blk bk48 47 #[vr] :: Ent.own vr 31 3 R.length (rows R) :: (nest 5 M177 ++ (nest 5 Q ++ (nest 5 R ++ ([] : List Ent))))) := ((H_97.pull 3 rfl).pull 3 rfl)
                      have Hc_19 : Hp w0 [] w_47 (Ent.blk b177 51 #[v177] :: Ent.own v177 31 3 M177.length (rows M177) :: (nest 5 M177 ++ (Ent.blk bp 51 #[vq] :: Ent.own vq 31 3 Q.length (rows Q) :: Ent.blk bk48 47 #[vr] :: Ent.own vr 31 3 R.length (rows R) :: (nest 5 Q ++ (nest 5 R ++ ([] : List Ent)))))) := Hp.chunk [Ent.blk b177 51 #[v177], Ent.own v177 31 3 M177.length (rows M177)] [Ent.blk bp 51 #[vq], Ent.own vq 31 3 Q.length (rows Q), Ent.blk bk48 47 #[vr], Ent.own vr 31 3 R.length (rows R)] (nest 5 M177) (nest 5 Q ++ (nest 5 R ++ ([] : List Ent))) H_98
                      refine L_callv rfl rfl T_en12 (A1 e_6_16) (letters_n okM177 Hc_19) ?_
                      rintro _ w_49 ⟨a190_5, c190_5, M190_5, v190_5, rfl, f190_0_5, H_99⟩; refine ⟨_, rfl, ?_⟩
                      have H_100 : Hp w0 [] w_49 (Ent.own (Value.slice a190_5 M177.length c190_5) 31 3 M177.length (rows M190_5) :: Ent.blk b177 51 #[v190_5] :: Ent.own v190_5 31 3 M177.length (rows M177) :: (nest 5 M190_5 ++ (Ent.blk bp 51 #[vq] :: Ent.own vq 31 3 Q.length (rows Q) :: Ent.blk bk48 47 #[vr] :: Ent.own vr 31 3 R.length (rows R) :: (nest 5 M177 ++ (nest 5 Q ++ (nest 5 R ++ ([] : List Ent))))))) := Hp.chunk ([Ent.own (Value.slice a190_5 M177.length c190_5) 31 3 M177.length (rows M190_5), Ent.blk b177 51 #[v190_5], Ent.own v190_5 31 3 M177.length (rows M177)] ++ nest 5 M190_5) (nest 5 M177) [Ent.blk bp 51 #[vq], Ent.own vq 31 3 Q.length (rows Q), Ent.blk bk48 47 #[vr], Ent.own vr 31 3 R.length (rows R)] (nest 5 Q ++ (nest 5 R ++ ([] : List Ent))) H_99
                      have H_101 : Hp w0 [] w_49 (Ent.own (Value.slice a190_5 M177.length c190_5) 31 3 M177.length (rows M190_5) :: Ent.blk b177 51 #[v190_5] :: Ent.own v190_5 31 3 M177.length (rows M177) :: Ent.blk bp 51 #[vq] :: Ent.own vq 31 3 Q.length (rows Q) :: Ent.blk bk48 47 #[vr] :: Ent.own vr 31 3 R.length (rows R) :: (nest 5 M190_5 ++ (nest 5 M177 ++ (nest 5 Q ++ (nest 5 R ++ ([] : List Ent)))))) := Hp.chunk [Ent.own (Value.slice a190_5 M177.length c190_5) 31 3 M177.length (rows M190_5), Ent.blk b177 51 #[v190_5], Ent.own v190_5 31 3 M177.length (rows M177)] (nest 5 M190_5) [Ent.blk bp 51 #[vq], Ent.own vq 31 3 Q.length (rows Q), Ent.blk bk48 47 #[vr], Ent.own vr 31 3 R.length (rows R)] (nest 5 M177 ++ (nest 5 Q ++ (nest 5 R ++ ([] : List Ent)))) H_100
                      have kM190_5 := f190_0_5
                      have okM190_5 : Nt.ok (keys M190_5) := by rw [kM190_5]; exact okM177
                      refine L_as rfl ?_
                      refine L_nil ?_
                      refine Th_n ?_
                      refine W_seq ?_
                      refine W_seq ?_
                      refine W_rg ?_
                      refine L_mv rfl ?_
                      refine L_y rfl (Y_not (b := true) e_6_8) ?_
                      refine L_mv rfl ?_
                      refine G_mv (wE rfl rfl) rfl ?_
                      refine G_mv (wE rfl rfl) rfl ?_
                      refine G_y (wE rfl rfl) rfl (Y_nil e_6_6) ?_
                      refine G_y (wE rfl rfl) rfl (Y_fld T_fld47_0 rfl rfl rfl) ?_
                      refine G_y (wE rfl rfl) rfl (Y_ld T_scal35 H_101 (i := 5) rfl rfl rfl) ?_
                      refine Exists.elim (Ts.opn H_101 (i := 6) rfl) fun a__6 hx_ => Exists.elim hx_ fun c__6 hv_6 => ?_
                      have H_102 : Hp w0 [] w_49 (Ent.own (Value.slice a190_5 M177.length c190_5) 31 3 M177.length (rows M190_5) :: Ent.blk b177 51 #[v190_5] :: Ent.own v190_5 31 3 M177.length (rows M177) :: Ent.blk bp 51 #[vq] :: Ent.own vq 31 3 Q.length (rows Q) :: Ent.blk bk48 47 #[Value.slice a__6 R.length c__6] :: Ent.own (Value.slice a__6 R.length c__6) 31 3 R.length (rows R) :: (nest 5 M190_5 ++ (nest 5 M177 ++ (nest 5 Q ++ (nest 5 R ++ ([] : List Ent)))))) := by have h := H_101; rw [hv_6] at h; exact h
                      refine L_callv (wE rfl rfl) rfl T_en11 (A2 rfl (Eq.trans rfl hv_6)) (sameAll_n _ (Ts.own H_102 (i := 0) rfl) (Ts.own H_102 (i := 6) rfl) (by have := (okM177).len; rw [keys_len] at this; omega) (fun x hx => Sl.nest H_102 hx (fun _ h_ => .tail _ (.tail _ (.tail _ (.tail _ (.tail _ (.tail _ (.tail _ (List.mem_append_left _ h_))))))))) (fun x hx => Sl.nest H_102 hx (fun _ h_ => .tail _ (.tail _ (.tail _ (.tail _ (.tail _ (.tail _ (.tail _ (List.mem_append_right _ (List.mem_append_right _ (List.mem_append_right _ (List.mem_append_left _ h_)))))))))))) (fun x hx => ((okM190_5).lt _ (keys_mem hx)).1) (fun x hx => ((okR).lt _ (keys_mem hx)).1)) ?_
                      rintro _ w_50 ⟨rfl, hkp_10⟩; refine ⟨_, rfl, ?_⟩; have H_103 := H_102.keep hkp_10
                      refine G_y (wE rfl rfl) rfl (Y_not (b := (decide (keys M190_5 = keys R))) rfl) ?_
                      refine L_y rfl (Y_pickF rfl) ?_
                      refine L_nil ?_
                      refine Th_n ?_
                      refine W_false (congrArg Value.bool (congrArg Bool.not ((by rw [show keys M190_5 = keys R by rw [kM190_5, kM177, hKR]]; simp) : (decide (keys M190_5 = keys R)) = true))) ?_
                      refine W_skip ?_
                      refine Th_n ?_
                      refine W_rg ?_
                      refine L_mv rfl ?_
                      have Hc_20 : Hp w0 [] w_50 (Ent.own (Value.slice a190_5 M177.length c190_5) 31 3 M177.length (rows M190_5) :: (nest 5 M190_5 ++ (Ent.blk b177 51 #[v190_5] :: Ent.own v190_5 31 3 M177.length (rows M177) :: Ent.blk bp 51 #[vq] :: Ent.own vq 31 3 Q.length (rows Q) :: Ent.blk bk48 47 #[Value.slice a__6 R.length c__6] :: Ent.own (Value.slice a__6 R.length c__6) 31 3 R.length (rows R) :: (nest 5 M177 ++ (nest 5 Q ++ (nest 5 R ++ ([] : List Ent))))))) := Hp.chunk [Ent.own (Value.slice a190_5 M177.length c190_5) 31 3 M177.length (rows M190_5)] [Ent.blk b177 51 #[v190_5], Ent.own v190_5 31 3 M177.length (rows M177), Ent.blk bp 51 #[vq], Ent.own vq 31 3 Q.length (rows Q), Ent.blk bk48 47 #[Value.slice a__6 R.length c__6], Ent.own (Value.slice a__6 R.length c__6) 31 3 R.length (rows R)] (nest 5 M190_5) (nest 5 M177 ++ (nest 5 Q ++ (nest 5 R ++ ([] : List Ent)))) H_103
                      refine L_callv rfl rfl T_en16 (A1 rfl) (spoil_n (okM190_5).sp (by rw [← keys_len, kM190_5, keys_len]) (by have := (okM177).len; rw [keys_len] at this; omega) Hc_20) ?_
                      rintro _ w_51 ⟨rfl, H_104⟩; refine ⟨_, rfl, ?_⟩
                      refine L_nil ?_
                      refine InB_n ?_
                      refine Th_n ?_
                      refine W_rg ?_
                      refine L_mv rfl ?_
                      refine L_y rfl (Y_add (k := .i64) (a := ((i : Nat) : Int)) (b := ((1 : Nat) : Int)) (z := ((i + 1 : Nat) : Int)) e_6_7 rfl (wi (by omega))) ?_
                      refine L_as rfl ?_
                      refine L_nil ?_
                      have H_105 : Hp w0 [] w_51 (Ent.blk b177 51 #[v190_5] :: Ent.own v190_5 31 3 M177.length (rows M177) :: Ent.blk bp 51 #[vq] :: Ent.own vq 31 3 Q.length (rows Q) :: Ent.blk bk48 47 #[Value.slice a__6 R.length c__6] :: Ent.own (Value.slice a__6 R.length c__6) 31 3 R.length (rows R) :: (nest 5 Q ++ (nest 5 M177 ++ (nest 5 R ++ ([] : List Ent))))) := Hp.chunk [Ent.blk b177 51 #[v190_5], Ent.own v190_5 31 3 M177.length (rows M177), Ent.blk bp 51 #[vq], Ent.own vq 31 3 Q.length (rows Q), Ent.blk bk48 47 #[Value.slice a__6 R.length c__6], Ent.own (Value.slice a__6 R.length c__6) 31 3 R.length (rows R)] (nest 5 M177) (nest 5 Q) (nest 5 R ++ ([] : List Ent)) H_104
                      have H_106 : Hp w0 [] w_51 (Ent.blk b177 51 #[v190_5] :: Ent.own v190_5 31 3 M177.length (rows M177) :: Ent.blk bp 51 #[vq] :: Ent.own vq 31 3 Q.length (rows Q) :: Ent.blk bk48 47 #[Value.slice a__6 R.length c__6] :: Ent.own (Value.slice a__6 R.length c__6) 31 3 R.length (rows R) :: (nest 5 M177 ++ (nest 5 R ++ ([] : List Ent)))) := Hp.cast [Ent.blk b177 51 #[v190_5], Ent.own v190_5 31 3 M177.length (rows M177), Ent.blk bp 51 #[vq], Ent.own vq 31 3 Q.length (rows Q), Ent.blk bk48 47 #[Value.slice a__6 R.length c__6], Ent.own (Value.slice a__6 R.length c__6) 31 3 R.length (rows R)] (B := nest 5 Q) H_105
                      refine Th_n ⟨_, ?_, (i + 1), b177, _, _, _, _, rfl, e_6_0, e_6_16, e_6_6, rfl, ((((((H_106.erase 2).erase 2).pull 3 rfl).pull 3 rfl).pull 3 rfl).pull 3 rfl), okM177, okR, (by rw [kM177, hKR]), (by omega)⟩
                      omega
                  ·
                    have hc_8' := ne_of_beq_false hc_8
                    refine W_skip ?_
                    refine InB_n ?_
                    refine Th_n ?_
                    refine W_seq ?_
                    refine W_rg ?_
                    refine L_mv rfl ?_
                    have Hc_21 : Hp w0 [] w_9 (Ent.blk bp 51 #[vp] :: Ent.own vp 31 3 K.length (rows K) :: (nest 5 K ++ (Ent.blk bk48 47 #[vr] :: Ent.own vr 31 3 R.length (rows R) :: (nest 5 R ++ ([] : List Ent))))) := Hp.chunk [Ent.blk bp 51 #[vp], Ent.own vp 31 3 K.length (rows K)] [Ent.blk bk48 47 #[vr], Ent.own vr 31 3 R.length (rows R)] (nest 5 K) (nest 5 R ++ ([] : List Ent)) H_13
                    refine L_callv rfl rfl T_en12 (A1 e_3_5) (letters_n okK Hc_21) ?_
                    rintro _ w_52 ⟨a190_6, c190_6, M190_6, v190_6, rfl, f190_0_6, H_107⟩; refine ⟨_, rfl, ?_⟩
                    have H_108 : Hp w0 [] w_52 (Ent.own (Value.slice a190_6 K.length c190_6) 31 3 K.length (rows M190_6) :: Ent.blk bp 51 #[v190_6] :: Ent.own v190_6 31 3 K.length (rows K) :: (nest 5 M190_6 ++ (Ent.blk bk48 47 #[vr] :: Ent.own vr 31 3 R.length (rows R) :: (nest 5 K ++ (nest 5 R ++ ([] : List Ent)))))) := Hp.chunk ([Ent.own (Value.slice a190_6 K.length c190_6) 31 3 K.length (rows M190_6), Ent.blk bp 51 #[v190_6], Ent.own v190_6 31 3 K.length (rows K)] ++ nest 5 M190_6) (nest 5 K) [Ent.blk bk48 47 #[vr], Ent.own vr 31 3 R.length (rows R)] (nest 5 R ++ ([] : List Ent)) H_107
                    have H_109 : Hp w0 [] w_52 (Ent.own (Value.slice a190_6 K.length c190_6) 31 3 K.length (rows M190_6) :: Ent.blk bp 51 #[v190_6] :: Ent.own v190_6 31 3 K.length (rows K) :: Ent.blk bk48 47 #[vr] :: Ent.own vr 31 3 R.length (rows R) :: (nest 5 M190_6 ++ (nest 5 K ++ (nest 5 R ++ ([] : List Ent))))) := Hp.chunk [Ent.own (Value.slice a190_6 K.length c190_6) 31 3 K.length (rows M190_6), Ent.blk bp 51 #[v190_6], Ent.own v190_6 31 3 K.length (rows K)] (nest 5 M190_6) [Ent.blk bk48 47 #[vr], Ent.own vr 31 3 R.length (rows R)] (nest 5 K ++ (nest 5 R ++ ([] : List Ent))) H_108
                    have kM190_6 := f190_0_6
                    have okM190_6 : Nt.ok (keys M190_6) := by rw [kM190_6]; exact okK
                    refine L_as rfl ?_
                    refine L_nil ?_
                    refine Th_n ?_
                    refine W_seq ?_
                    refine W_seq ?_
                    refine W_rg ?_
                    refine L_mv rfl ?_
                    refine L_y rfl (Y_not (b := true) rfl) ?_
                    refine L_mv rfl ?_
                    refine G_mv (wE rfl rfl) rfl ?_
                    refine G_mv (wE rfl rfl) rfl ?_
                    refine G_y (wE rfl rfl) rfl (Y_nil e_3_6) ?_
                    refine G_y (wE rfl rfl) rfl (Y_fld T_fld47_0 rfl rfl rfl) ?_
                    refine G_y (wE rfl rfl) rfl (Y_ld T_scal35 H_109 (i := 3) rfl rfl rfl) ?_
                    refine Exists.elim (Ts.opn H_109 (i := 4) rfl) fun a__7 hx_ => Exists.elim hx_ fun c__7 hv_7 => ?_
                    have H_110 : Hp w0 [] w_52 (Ent.own (Value.slice a190_6 K.length c190_6) 31 3 K.length (rows M190_6) :: Ent.blk bp 51 #[v190_6] :: Ent.own v190_6 31 3 K.length (rows K) :: Ent.blk bk48 47 #[Value.slice a__7 R.length c__7] :: Ent.own (Value.slice a__7 R.length c__7) 31 3 R.length (rows R) :: (nest 5 M190_6 ++ (nest 5 K ++ (nest 5 R ++ ([] : List Ent))))) := by have h := H_109; rw [hv_7] at h; exact h
                    refine L_callv (wE rfl rfl) rfl T_en11 (A2 rfl (Eq.trans rfl hv_7)) (sameAll_n _ (Ts.own H_110 (i := 0) rfl) (Ts.own H_110 (i := 4) rfl) (by have := (okK).len; rw [keys_len] at this; omega) (fun x hx => Sl.nest H_110 hx (fun _ h_ => .tail _ (.tail _ (.tail _ (.tail _ (.tail _ (List.mem_append_left _ h_))))))) (fun x hx => Sl.nest H_110 hx (fun _ h_ => .tail _ (.tail _ (.tail _ (.tail _ (.tail _ (List.mem_append_right _ (List.mem_append_right _ (List.mem_append_left _ h_))))))))) (fun x hx => ((okM190_6).lt _ (keys_mem hx)).1) (fun x hx => ((okR).lt _ (keys_mem hx)).1)) ?_
                    rintro _ w_53 ⟨rfl, hkp_11⟩; refine ⟨_, rfl, ?_⟩; have H_111 := H_110.keep hkp_11
                    refine G_y (wE rfl rfl) rfl (Y_not (b := (decide (keys M190_6 = keys R))) rfl) ?_
                    refine L_y rfl (Y_pickF rfl) ?_
                    refine L_nil ?_
                    refine Th_n ?_
                    refine W_false (congrArg Value.bool (congrArg Bool.not ((by rw [show keys M190_6 = keys R by rw [kM190_6, hKR]]; simp) : (decide (keys M190_6 = keys R)) = true))) ?_
                    refine W_skip ?_
                    refine Th_n ?_
                    refine W_rg ?_
                    refine L_mv rfl ?_
                    have Hc_22 : Hp w0 [] w_53 (Ent.own (Value.slice a190_6 K.length c190_6) 31 3 K.length (rows M190_6) :: (nest 5 M190_6 ++ (Ent.blk bp 51 #[v190_6] :: Ent.own v190_6 31 3 K.length (rows K) :: Ent.blk bk48 47 #[Value.slice a__7 R.length c__7] :: Ent.own (Value.slice a__7 R.length c__7) 31 3 R.length (rows R) :: (nest 5 K ++ (nest 5 R ++ ([] : List Ent)))))) := Hp.chunk [Ent.own (Value.slice a190_6 K.length c190_6) 31 3 K.length (rows M190_6)] [Ent.blk bp 51 #[v190_6], Ent.own v190_6 31 3 K.length (rows K), Ent.blk bk48 47 #[Value.slice a__7 R.length c__7], Ent.own (Value.slice a__7 R.length c__7) 31 3 R.length (rows R)] (nest 5 M190_6) (nest 5 K ++ (nest 5 R ++ ([] : List Ent))) H_111
                    refine L_callv rfl rfl T_en16 (A1 rfl) (spoil_n (okM190_6).sp (by rw [← keys_len, kM190_6, keys_len]) (by have := (okK).len; rw [keys_len] at this; omega) Hc_22) ?_
                    rintro _ w_54 ⟨rfl, H_112⟩; refine ⟨_, rfl, ?_⟩
                    refine L_nil ?_
                    refine InB_n ?_
                    refine Th_n ?_
                    refine W_rg ?_
                    refine L_mv rfl ?_
                    refine L_y rfl (Y_add (k := .i64) (a := ((i : Nat) : Int)) (b := ((1 : Nat) : Int)) (z := ((i + 1 : Nat) : Int)) e_3_7 rfl (wi (by omega))) ?_
                    refine L_as rfl ?_
                    refine L_nil ?_
                    refine Th_n ⟨_, ?_, (i + 1), bp, _, _, _, _, rfl, e_3_0, e_3_5, e_3_6, rfl, H_112, okK, okR, hKR, (by omega)⟩
                    omega
        ·
          have hc_3' := of_decide_eq_false hc_3
          refine W_exit ?_
          refine Th_x ?_
          refine Th_x ?_
          refine InB_hit ?_
          refine Th_n ?_
          refine W_seq ?_
          refine W_rg ?_
          refine L_callv rfl rfl T_en7 (A0) (known_n _) ?_
          rintro _ w_55 ⟨rfl, hkp_12⟩; refine ⟨_, rfl, ?_⟩; have H_113 := H_13.keep hkp_12
          refine L_as rfl ?_
          refine L_nil ?_
          refine Th_n ?_
          refine W_ret ?_
          refine P_ret (vs := [Value.bool true]) (v := Value.bool true) rfl (.tmp rfl (Res.nil)) rfl ?_
          refine ⟨?_, H_113.nil_⟩
          rfl
end Go.Proofs.Ytbfmodjaahfbjaa
