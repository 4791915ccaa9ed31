/- Walks of layer 21 (disk) and of its reference. Printed by disk.py. -/
import Derived.Test.YtlialefffhoagaaT13
namespace Go.Proofs.Ytlialefffhoagaa
open Go.Ev
set_option maxRecDepth 100000
set_option linter.unusedVariables false
set_option linter.unusedSimpArgs false
theorem play_n {w0 w : World} {X : List Ent} {bw : Nat} {v : Value} (d : Dk.D) {a : Option Addr} {m c : Nat} {L : List Dk.Op} (hT : Tab w0 Dk.Op.cells 3 a m c L) (hg : ∀ x ∈ L, Dk.Op.good w0 x) (hm3 : m ≤ 300) (hd : Dk.ok d) (H : Hp w0 [] w (Ent.blk bw 45 #[v, Value.int .i64 (d.left), Value.bool d.armed, Value.bool d.off] :: Ent.own v 5 1 d.l.length (us .u8 d.l) :: X)) :
    Calls Try.prog 22 #[Value.pointer (some ⟨bw, 0, none⟩), Value.slice a m c] w (fun r_ w' => ∃ v', r_ = .returned (.tuple #[]) ∧ Dk.ok (Dk.play d L) ∧ Hp w0 [] w' (Ent.blk bw 45 #[v', Value.int .i64 ((Dk.play d L).left), Value.bool ((Dk.play d L).armed), Value.bool ((Dk.play d L).off)] :: Ent.own v' 5 1 ((Dk.play d L).l.length) (us .u8 ((Dk.play d L).l)) :: X)) := by
  refine F_in Try.func22 rfl Try.ntmps22 rfl ?_
  intro e he
  have p_0 : e 0 = Value.pointer (some ⟨bw, 0, none⟩) := he 0 _ rfl
  have p_1 : e 1 = Value.slice a m c := he 1 _ rfl
  refine W_seq ?_
  refine W_rg ?_
  refine L_as rfl ?_
  refine L_nil ?_
  refine Th_n ?_
  refine W_block ?_
  refine W_loop (fun mu_ e w => ∃ i : Nat, ∃ vj : Value, ∃ dj : Dk.D, mu_ = m - i ∧ e 0 = Value.pointer (some ⟨bw, 0, none⟩) ∧ e 1 = Value.slice a m c ∧ e 4 = Value.int .i64 ((i : Nat) : Int) ∧ Hp w0 [] w (Ent.blk bw 45 #[vj, Value.int .i64 (dj.left), Value.bool dj.armed, Value.bool dj.off] :: Ent.own vj 5 1 dj.l.length (us .u8 dj.l) :: X) ∧ Dk.ok dj ∧ dj = Dk.play d (L.take i) ∧ i ≤ m) _ ⟨0, v, d, rfl, p_0, p_1, rfl, H, hd, rfl, (Nat.zero_le _)⟩ ?_
  rintro mu_ e_2 w_2 ⟨i, vj, dj, rfl, e_2_0, e_2_1, e_2_4, H_2, hdk, hdj, hi⟩
  refine W_seq ?_
  refine W_seq ?_
  refine W_rg ?_
  refine L_mv rfl ?_
  refine L_mv rfl ?_
  refine L_y rfl (Y_lenS T_sl35 e_2_1) ?_
  refine L_y rfl (Y_lss (k := .i64) (a := ((i : Nat) : Int)) (b := ((m : Nat) : Int)) e_2_4 rfl) ?_
  refine L_nil ?_
  refine Th_n ?_
  refine W_cond (b := (decide (((i : Nat) : Int) < ((m : Nat) : Int)))) rfl (fun hc => ?_) (fun hc => ?_)
  ·
    have hc' := of_decide_eq_true hc
    refine W_skip ?_
    refine Th_n ?_
    refine W_seq ?_
    refine W_block ?_
    refine W_seq ?_
    refine W_rg ?_
    refine L_mv rfl ?_
    refine L_mv rfl ?_
    obtain ⟨el13, hel13⟩ := hT.at (j := i) (by omega)
    have gel13 := hg el13 (List.mem_of_getElem? hel13)
    have bel13 := gel13.big
    have lel13 := gel13.sl.len
    have sel13 := gel13.s1
    have tel13 := gel13.s2
    refine L_y rfl (Y_idxT (j := i) T_sl35 (hT.hp H_2) hel13 e_2_1 e_2_4 rfl) ?_
    refine L_y rfl (Y_fldT T_fld41_0 rfl (hT.hp H_2) hel13 rfl) ?_
    refine L_y rfl (Y_ldT (j := i) (off := 0) T_scal3 (hT.hp H_2) hel13 rfl rfl rfl) ?_
    refine L_nil ?_
    refine Th_n ?_
    refine W_block ?_
    refine W_seq ?_
    refine W_rg ?_
    refine L_y rfl (Y_eql (k := .i64) (a := el13.kind) (b := ((0 : Nat) : Int)) rfl rfl) ?_
    refine L_as rfl ?_
    refine L_nil ?_
    refine Th_n ?_
    refine W_cond (b := (el13.kind == ((0 : Nat) : Int))) rfl (fun hc_2 => ?_) (fun hc_2 => ?_)
    ·
      have hc_2' := eq_of_beq hc_2
      refine W_rg ?_
      refine L_mv rfl ?_
      refine L_mv rfl ?_
      refine L_mv rfl ?_
      refine L_y rfl (Y_idxT (j := i) T_sl35 (hT.hp H_2) hel13 e_2_1 e_2_4 rfl) ?_
      refine L_y rfl (Y_fldT T_fld41_2 rfl (hT.hp H_2) hel13 rfl) ?_
      refine L_y rfl (Y_ldT (j := i) (off := 2) T_scal23 (hT.hp H_2) hel13 rfl rfl rfl) ?_
      refine L_callv rfl rfl T_en11 (A2 e_2_0 rfl) (dAdd dj hdk (Seen.old gel13.sl) gel13.lt H_2) ?_
      rintro _ w_3 ⟨v24, rfl, H_3⟩; refine ⟨_, rfl, ?_⟩
      refine L_nil ?_
      refine InB_n ?_
      refine InB_n ?_
      refine Th_n ?_
      refine W_rg ?_
      refine L_mv rfl ?_
      refine L_y rfl (Y_add (k := .i64) (a := ((i : Nat) : Int)) (b := ((1 : Nat) : Int)) (z := ((i + 1 : Nat) : Int)) e_2_4 rfl (wi (by omega))) ?_
      refine L_as rfl ?_
      refine L_nil ?_
      refine Th_n ⟨_, ?_, (i + 1), _, _, rfl, e_2_0, e_2_1, rfl, H_3, (Dk.add_ok hdk gel13.lt), (by rw [Dk.play_snoc hel13, ← hdj, Dk.Op.run]; (repeat (first | rw [if_pos (by omega)] | rw [if_neg (by omega)]))), (by omega)⟩
      omega
    ·
      have hc_2' := ne_of_beq_false hc_2
      refine W_seq ?_
      refine W_rg ?_
      refine L_y rfl (Y_eql (k := .i64) (a := el13.kind) (b := ((1 : Nat) : Int)) rfl rfl) ?_
      refine L_as rfl ?_
      refine L_nil ?_
      refine Th_n ?_
      refine W_cond (b := (el13.kind == ((1 : Nat) : Int))) rfl (fun hc_3 => ?_) (fun hc_3 => ?_)
      ·
        have hc_3' := eq_of_beq hc_3
        refine W_rg ?_
        refine L_mv rfl ?_
        refine L_mv rfl ?_
        refine L_mv rfl ?_
        refine L_y rfl (Y_idxT (j := i) T_sl35 (hT.hp H_2) hel13 e_2_1 e_2_4 rfl) ?_
        refine L_y rfl (Y_fldT T_fld41_1 rfl (hT.hp H_2) hel13 rfl) ?_
        refine L_y rfl (Y_ldT (j := i) (off := 1) T_scal3 (hT.hp H_2) hel13 rfl rfl rfl) ?_
        refine L_callv rfl rfl T_en16 (A2 e_2_0 rfl) (dCut dj el13.n hdk H_2) ?_
        rintro _ w_4 ⟨v33, rfl, H_4⟩; refine ⟨_, rfl, ?_⟩
        refine L_nil ?_
        refine InB_n ?_
        refine InB_n ?_
        refine Th_n ?_
        refine W_rg ?_
        refine L_mv rfl ?_
        refine L_y rfl (Y_add (k := .i64) (a := ((i : Nat) : Int)) (b := ((1 : Nat) : Int)) (z := ((i + 1 : Nat) : Int)) e_2_4 rfl (wi (by omega))) ?_
        refine L_as rfl ?_
        refine L_nil ?_
        refine Th_n ⟨_, ?_, (i + 1), _, _, rfl, e_2_0, e_2_1, rfl, H_4, (Dk.cut_ok hdk), (by rw [Dk.play_snoc hel13, ← hdj, Dk.Op.run]; (repeat (first | rw [if_pos (by omega)] | rw [if_neg (by omega)]))), (by omega)⟩
        omega
      ·
        have hc_3' := ne_of_beq_false hc_3
        refine W_seq ?_
        refine W_rg ?_
        refine L_y rfl (Y_eql (k := .i64) (a := el13.kind) (b := ((2 : Nat) : Int)) rfl rfl) ?_
        refine L_as rfl ?_
        refine L_nil ?_
        refine Th_n ?_
        refine W_cond (b := (el13.kind == ((2 : Nat) : Int))) rfl (fun hc_4 => ?_) (fun hc_4 => ?_)
        ·
          have hc_4' := eq_of_beq hc_4
          refine W_rg ?_
          refine L_mv rfl ?_
          refine L_mv rfl ?_
          refine L_mv rfl ?_
          refine L_y rfl (Y_idxT (j := i) T_sl35 (hT.hp H_2) hel13 e_2_1 e_2_4 rfl) ?_
          refine L_y rfl (Y_fldT T_fld41_1 rfl (hT.hp H_2) hel13 rfl) ?_
          refine L_y rfl (Y_ldT (j := i) (off := 1) T_scal3 (hT.hp H_2) hel13 rfl rfl rfl) ?_
          refine L_callv rfl rfl T_en9 (A2 e_2_0 rfl) (dArm dj el13.n hdk H_2) ?_
          rintro _ w_5 ⟨v42, rfl, H_5⟩; refine ⟨_, rfl, ?_⟩
          refine L_nil ?_
          refine InB_n ?_
          refine InB_n ?_
          refine Th_n ?_
          refine W_rg ?_
          refine L_mv rfl ?_
          refine L_y rfl (Y_add (k := .i64) (a := ((i : Nat) : Int)) (b := ((1 : Nat) : Int)) (z := ((i + 1 : Nat) : Int)) e_2_4 rfl (wi (by omega))) ?_
          refine L_as rfl ?_
          refine L_nil ?_
          refine Th_n ⟨_, ?_, (i + 1), _, _, rfl, e_2_0, e_2_1, rfl, H_5, (Dk.arm_ok hdk sel13 tel13), (by rw [Dk.play_snoc hel13, ← hdj, Dk.Op.run]; (repeat (first | rw [if_pos (by omega)] | rw [if_neg (by omega)]))), (by omega)⟩
          omega
        ·
          have hc_4' := ne_of_beq_false hc_4
          refine W_seq ?_
          refine W_rg ?_
          refine L_y rfl (Y_eql (k := .i64) (a := el13.kind) (b := ((3 : Nat) : Int)) rfl rfl) ?_
          refine L_as rfl ?_
          refine L_nil ?_
          refine Th_n ?_
          refine W_cond (b := (el13.kind == ((3 : Nat) : Int))) rfl (fun hc_5 => ?_) (fun hc_5 => ?_)
          ·
            have hc_5' := eq_of_beq hc_5
            refine W_rg ?_
            refine L_mv rfl ?_
            refine L_callv rfl rfl T_en12 (A1 e_2_0) (dRestart dj  hdk H_2) ?_
            rintro _ w_6 ⟨v46, rfl, H_6⟩; refine ⟨_, rfl, ?_⟩
            refine L_nil ?_
            refine InB_n ?_
            refine InB_n ?_
            refine Th_n ?_
            refine W_rg ?_
            refine L_mv rfl ?_
            refine L_y rfl (Y_add (k := .i64) (a := ((i : Nat) : Int)) (b := ((1 : Nat) : Int)) (z := ((i + 1 : Nat) : Int)) e_2_4 rfl (wi (by omega))) ?_
            refine L_as rfl ?_
            refine L_nil ?_
            refine Th_n ⟨_, ?_, (i + 1), _, _, rfl, e_2_0, e_2_1, rfl, H_6, (Dk.restart_ok hdk), (by rw [Dk.play_snoc hel13, ← hdj, Dk.Op.run]; (repeat (first | rw [if_pos (by omega)] | rw [if_neg (by omega)]))), (by omega)⟩
            omega
          ·
            have hc_5' := ne_of_beq_false hc_5
            refine W_skip ?_
            refine InB_n ?_
            refine InB_n ?_
            refine Th_n ?_
            refine W_rg ?_
            refine L_mv rfl ?_
            refine L_y rfl (Y_add (k := .i64) (a := ((i : Nat) : Int)) (b := ((1 : Nat) : Int)) (z := ((i + 1 : Nat) : Int)) e_2_4 rfl (wi (by omega))) ?_
            refine L_as rfl ?_
            refine L_nil ?_
            refine Th_n ⟨_, ?_, (i + 1), _, _, rfl, e_2_0, e_2_1, rfl, H_2, hdk, (by rw [Dk.play_snoc hel13, ← hdj, Dk.Op.run]; (repeat (first | rw [if_pos (by omega)] | rw [if_neg (by omega)]))), (by omega)⟩
            omega
  ·
    have hc' := of_decide_eq_false hc
    refine W_exit ?_
    refine Th_x ?_
    refine Th_x ?_
    refine InB_hit ?_
    refine P_end (vs := []) (v := Value.tuple #[]) rfl (Res.nil) rfl ?_
    have hlT := hT.len
    obtain rfl : i = m := (by omega)
    have e1 : dj = Dk.play d L := (by rw [hdj, List.take_of_length_le (by omega)])
    subst e1
    exact ⟨_, rfl, hdk, H_2⟩
end Go.Proofs.Ytlialefffhoagaa
