/- Walks of layer 21 (disk) and of its reference. Printed by disk.py. -/
import Derived.Test.YtlialefffhoagaaT7
namespace Go.Proofs.Ytlialefffhoagaa
open Go.Ev
set_option maxRecDepth 100000
set_option linter.unusedVariables false
set_option linter.unusedSimpArgs false
theorem T_fld39_2 : fldOf Try.prog 39 2 = some (2, 1) := by kernel_rfl
theorem T_fld39_1 : fldOf Try.prog 39 1 = some (1, 1) := by kernel_rfl
theorem T_fld39_3 : fldOf Try.prog 39 3 = some (3, 1) := by kernel_rfl
theorem rStep {w0 w : World} {X : List Ent} {bw : Nat} {c0 : Value} (d : Dk.D)  (hd : Dk.ok d)  (H : Hp w0 [] w (Ent.blk bw 39 #[c0, Value.int .i64 (d.left), Value.bool d.armed, Value.bool d.off] :: X)) :
    Calls Try.prog 27 #[Value.pointer (some ⟨bw, 0, none⟩)] w (fun r_ w' => r_ = .returned (.bool (Dk.step d).1) ∧ Hp w0 [] w' (Ent.blk bw 39 #[c0, Value.int .i64 (((Dk.step d).2).left), Value.bool (((Dk.step d).2).armed), Value.bool (((Dk.step d).2).off)] :: X)) := by
  have hlo := hd.lo
  have hhi := hd.hi
  refine F_in Try.func27 rfl Try.ntmps27 rfl ?_
  intro e he
  have p_0 : e 0 = Value.pointer (some ⟨bw, 0, none⟩) := he 0 _ rfl
  refine W_seq ?_
  refine W_rg ?_
  refine L_as rfl ?_
  refine L_nil ?_
  refine Th_n ?_
  refine W_seq ?_
  refine W_seq ?_
  refine W_rg ?_
  refine L_mv rfl ?_
  refine L_y rfl (Y_nil p_0) ?_
  refine L_y rfl (Y_fld T_fld39_2 rfl rfl rfl) ?_
  refine L_y rfl (Y_ld T_scal4 H (i := 0) rfl rfl rfl) ?_
  refine L_mv rfl ?_
  rcases Bool.eq_false_or_eq_true d.armed with hb | hb
  ·
    have hp := hd.pos hb
    refine G_mv (wE rfl (congrArg Value.bool hb)) rfl ?_
    refine G_y (wE rfl (congrArg Value.bool hb)) rfl (Y_nil p_0) ?_
    refine G_y (wE rfl (congrArg Value.bool hb)) rfl (Y_fld T_fld39_1 rfl rfl rfl) ?_
    refine G_y (wE rfl (congrArg Value.bool hb)) rfl (Y_ld T_scal3 H (i := 0) rfl rfl rfl) ?_
    refine G_y (wE rfl (congrArg Value.bool hb)) rfl (Y_eql (k := .i64) (a := d.left) (b := ((0 : Nat) : Int)) rfl rfl) ?_
    refine L_y rfl (Y_pickT (congrArg Value.bool hb)) ?_
    refine L_nil ?_
    refine Th_n ?_
    refine W_cond (b := (d.left == ((0 : Nat) : Int))) rfl (fun hc => ?_) (fun hc => ?_)
    ·
      have hc' := eq_of_beq hc
      refine W_seq ?_
      refine W_rg ?_
      refine L_mv rfl ?_
      refine L_y rfl (Y_nil p_0) ?_
      refine L_y rfl (Y_fld T_fld39_3 rfl rfl rfl) ?_
      refine L_st (v := Value.bool true) T_scal4 H (i := 0) rfl rfl rfl rfl (Nat.le_of_ble_eq_true rfl) (l' := (Ent.blk bw 39 #[c0, Value.int .i64 (d.left), Value.bool d.armed, Value.bool true] :: X)) rfl ?_; intro w_2 H_2
      refine L_nil ?_
      refine Th_n ?_
      refine W_seq ?_
      refine W_rg ?_
      refine L_mv rfl ?_
      refine L_y rfl (Y_nil p_0) ?_
      refine L_y rfl (Y_fld T_fld39_2 rfl rfl rfl) ?_
      refine L_st (v := Value.bool false) T_scal4 H_2 (i := 0) rfl rfl rfl rfl (Nat.le_of_ble_eq_true rfl) (l' := (Ent.blk bw 39 #[c0, Value.int .i64 (d.left), Value.bool false, Value.bool true] :: X)) rfl ?_; intro w_3 H_3
      refine L_nil ?_
      refine Th_n ?_
      refine W_seq ?_
      refine W_rg ?_
      refine L_as rfl ?_
      refine L_nil ?_
      refine Th_n ?_
      refine W_ret ?_
      refine Th_r ?_
      refine P_ret (vs := [Value.bool false]) (v := Value.bool false) rfl (.tmp rfl (Res.nil)) rfl ?_
      have hm : Dk.step d = (false, ⟨d.l, d.left, false, true⟩) := by first | (have ha : d.armed = true := (by assumption); have h0 : d.left = 0 := (by omega); rw [Dk.step, if_pos ⟨ha, h0⟩]; done) | (have ha : d.armed = true := (by assumption); rw [Dk.step, if_neg (fun h => absurd h.2 (by omega)), if_pos ha]; rfl) | (have ha : ¬ d.armed = true := (by simp_all); rw [Dk.step, if_neg (fun h => ha h.1), if_neg ha])
      refine ⟨by rw [hm], ?_⟩; rw [hm]; exact H_3
    ·
      have hc' := ne_of_beq_false hc
      refine W_skip ?_
      refine Th_n ?_
      refine W_seq ?_
      refine W_seq ?_
      refine W_rg ?_
      refine L_mv rfl ?_
      refine L_y rfl (Y_nil p_0) ?_
      refine L_y rfl (Y_fld T_fld39_2 rfl rfl rfl) ?_
      refine L_y rfl (Y_ld T_scal4 H (i := 0) rfl rfl rfl) ?_
      refine L_nil ?_
      refine Th_n ?_
      refine W_true (congrArg Value.bool hb) ?_
      refine W_rg ?_
      refine L_mv rfl ?_
      refine L_y rfl (Y_nil p_0) ?_
      refine L_y rfl (Y_fld T_fld39_1 rfl rfl rfl) ?_
      refine L_y rfl (Y_ld T_scal3 H (i := 0) rfl rfl rfl) ?_
      refine L_y rfl (Y_sub (k := .i64) (a := d.left) (b := ((1 : Nat) : Int)) (z := (d.left - ((1 : Nat) : Int))) rfl rfl (wi (by omega))) ?_
      refine L_y rfl (Y_nil p_0) ?_
      refine L_y rfl (Y_fld T_fld39_1 rfl rfl rfl) ?_
      refine L_st (v := Value.int .i64 (d.left - ((1 : Nat) : Int))) T_scal3 H (i := 0) rfl rfl rfl rfl (Nat.le_of_ble_eq_true rfl) (l' := (Ent.blk bw 39 #[c0, Value.int .i64 (d.left - ((1 : Nat) : Int)), Value.bool d.armed, Value.bool d.off] :: X)) rfl ?_; intro w_4 H_4
      refine L_nil ?_
      refine Th_n ?_
      refine W_seq ?_
      refine W_rg ?_
      refine L_as rfl ?_
      refine L_nil ?_
      refine Th_n ?_
      refine W_ret ?_
      refine P_ret (vs := [Value.bool true]) (v := Value.bool true) rfl (.tmp rfl (Res.nil)) rfl ?_
      have hm : Dk.step d = (true, ⟨d.l, (d.left - ((1 : Nat) : Int)), d.armed, d.off⟩) := by first | (have ha : d.armed = true := (by assumption); have h0 : d.left = 0 := (by omega); rw [Dk.step, if_pos ⟨ha, h0⟩]; done) | (have ha : d.armed = true := (by assumption); rw [Dk.step, if_neg (fun h => absurd h.2 (by omega)), if_pos ha]; rfl) | (have ha : ¬ d.armed = true := (by simp_all); rw [Dk.step, if_neg (fun h => ha h.1), if_neg ha])
      refine ⟨by rw [hm], ?_⟩; rw [hm]; exact H_4
  ·
    refine G_no (wN (b := true) rfl (congrArg Value.bool hb)) rfl ?_
    refine G_no (wN (b := true) rfl (congrArg Value.bool hb)) rfl ?_
    refine G_no (wN (b := true) rfl (congrArg Value.bool hb)) rfl ?_
    refine G_no (wN (b := true) rfl (congrArg Value.bool hb)) rfl ?_
    refine G_no (wN (b := true) rfl (congrArg Value.bool hb)) rfl ?_
    refine L_y rfl (Y_pickF (congrArg Value.bool hb)) ?_
    refine L_nil ?_
    refine Th_n ?_
    refine W_false rfl ?_
    refine W_skip ?_
    refine Th_n ?_
    refine W_seq ?_
    refine W_seq ?_
    refine W_rg ?_
    refine L_mv rfl ?_
    refine L_y rfl (Y_nil p_0) ?_
    refine L_y rfl (Y_fld T_fld39_2 rfl rfl rfl) ?_
    refine L_y rfl (Y_ld T_scal4 H (i := 0) rfl rfl rfl) ?_
    refine L_nil ?_
    refine Th_n ?_
    refine W_false (congrArg Value.bool hb) ?_
    refine W_skip ?_
    refine Th_n ?_
    refine W_seq ?_
    refine W_rg ?_
    refine L_as rfl ?_
    refine L_nil ?_
    refine Th_n ?_
    refine W_ret ?_
    refine P_ret (vs := [Value.bool true]) (v := Value.bool true) rfl (.tmp rfl (Res.nil)) rfl ?_
    have hm : Dk.step d = (true, ⟨d.l, d.left, d.armed, d.off⟩) := by first | (have ha : d.armed = true := (by assumption); have h0 : d.left = 0 := (by omega); rw [Dk.step, if_pos ⟨ha, h0⟩]; done) | (have ha : d.armed = true := (by assumption); rw [Dk.step, if_neg (fun h => absurd h.2 (by omega)), if_pos ha]; rfl) | (have ha : ¬ d.armed = true := (by simp_all); rw [Dk.step, if_neg (fun h => ha h.1), if_neg ha])
    refine ⟨by rw [hm], ?_⟩; rw [hm]; exact H
end Go.Proofs.Ytlialefffhoagaa
