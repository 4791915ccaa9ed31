/- Walks of layer 21 (disk) and of its reference. Printed by disk.py. -/
import Derived.Test.YtlialefffhoagaaT1
namespace Go.Proofs.Ytlialefffhoagaa
open Go.Ev
set_option maxRecDepth 100000
set_option linter.unusedVariables false
set_option linter.unusedSimpArgs false
theorem T_fld45_3 : fldOf Try.prog 45 3 = some (3, 1) := by kernel_rfl
theorem T_scal4 : scal Try.prog 4 = true := by kernel_rfl
theorem T_fld45_0 : fldOf Try.prog 45 0 = some (0, 1) := by kernel_rfl
theorem T_scal23 : scal Try.prog 23 = true := by kernel_rfl
theorem T_sl23 : slOf Try.prog 23 = some (5, 1) := by kernel_rfl
theorem T_fld45_2 : fldOf Try.prog 45 2 = some (2, 1) := by kernel_rfl
theorem T_fld45_1 : fldOf Try.prog 45 1 = some (1, 1) := by kernel_rfl
theorem T_scal3 : scal Try.prog 3 = true := by kernel_rfl
theorem dReady {w0 w : World} {X : List Ent} {bw : Nat} {v : Value} (d : Dk.D) (H : Hp w0 [] w (Ent.blk bw 45 #[v, Value.int .i64 (d.left), Value.bool d.armed, Value.bool d.off] :: Ent.own v 5 1 d.l.length (us .u8 d.l) :: X)) :
    Calls Try.prog 24 #[Value.pointer (some ⟨bw, 0, none⟩)] w (fun r_ w' => r_ = .returned (.int .i64 ((Dk.ready d : Nat) : Int)) ∧ Keep w w') := by
  refine F_in Try.func24 rfl Try.ntmps24 rfl ?_
  intro e he
  have p_0 : e 0 = Value.pointer (some ⟨bw, 0, none⟩) := he 0 _ rfl
  refine W_seq ?_
  refine W_rg ?_
  refine L_as rfl ?_
  refine L_nil ?_
  refine Th_n ?_
  refine W_seq ?_
  refine W_block ?_
  refine W_seq ?_
  refine W_rg ?_
  refine L_mv rfl ?_
  refine L_y rfl (Y_eqP Try.underlying25 p_0 rfl) ?_
  refine L_as rfl ?_
  refine L_nil ?_
  refine Th_n ?_
  refine W_false rfl ?_
  refine W_seq ?_
  refine W_rg ?_
  refine L_mv rfl ?_
  refine L_y rfl (Y_nil p_0) ?_
  refine L_y rfl (Y_fld T_fld45_3 rfl rfl rfl) ?_
  refine L_y rfl (Y_ld T_scal4 H (i := 0) rfl rfl rfl) ?_
  refine L_as rfl ?_
  refine L_nil ?_
  refine Th_n ?_
  refine W_cond (b := d.off) rfl (fun hc => ?_) (fun hc => ?_)
  ·
    refine W_seq ?_
    refine W_rg ?_
    refine L_as rfl ?_
    refine L_nil ?_
    refine Th_n ?_
    refine W_ret ?_
    refine InB_r ?_
    refine Th_r ?_
    refine P_ret (vs := [Value.int .i64 ((210 : Nat) : Int)]) (v := Value.int .i64 ((210 : Nat) : Int)) rfl (.tmp rfl (Res.nil)) rfl ?_
    refine ⟨by simp [Dk.ready, *], ?_⟩; exact Keep.refl _
  ·
    refine W_skip ?_
    refine InB_n ?_
    refine Th_n ?_
    refine W_seq ?_
    refine W_rg ?_
    refine L_as rfl ?_
    refine L_nil ?_
    refine Th_n ?_
    refine W_ret ?_
    refine P_ret (vs := [Value.int .i64 ((0 : Nat) : Int)]) (v := Value.int .i64 ((0 : Nat) : Int)) rfl (.tmp rfl (Res.nil)) rfl ?_
    refine ⟨by simp [Dk.ready, *], ?_⟩; exact Keep.refl _

theorem dDown {w0 w : World} {X : List Ent} {bw : Nat} {v : Value} (d : Dk.D) (H : Hp w0 [] w (Ent.blk bw 45 #[v, Value.int .i64 (d.left), Value.bool d.armed, Value.bool d.off] :: Ent.own v 5 1 d.l.length (us .u8 d.l) :: X)) :
    Calls Try.prog 10 #[Value.pointer (some ⟨bw, 0, none⟩)] w (fun r_ w' => r_ = .returned (.bool d.off) ∧ Keep w w') := by
  refine F_in Try.func10 rfl Try.ntmps10 rfl ?_
  intro e he
  have p_0 : e 0 = Value.pointer (some ⟨bw, 0, none⟩) := he 0 _ rfl
  refine W_seq ?_
  refine W_rg ?_
  refine L_as rfl ?_
  refine L_nil ?_
  refine Th_n ?_
  refine W_seq ?_
  refine W_rg ?_
  refine L_mv rfl ?_
  refine L_y rfl (Y_neP Try.underlying25 p_0 rfl) ?_
  refine L_mv rfl ?_
  refine G_mv (wE rfl rfl) rfl ?_
  refine G_y (wE rfl rfl) rfl (Y_nil p_0) ?_
  refine G_y (wE rfl rfl) rfl (Y_fld T_fld45_3 rfl rfl rfl) ?_
  refine G_y (wE rfl rfl) rfl (Y_ld T_scal4 H (i := 0) rfl rfl rfl) ?_
  refine L_y rfl (Y_pickT rfl) ?_
  refine L_as rfl ?_
  refine L_nil ?_
  refine Th_n ?_
  refine W_ret ?_
  refine P_ret (vs := [Value.bool d.off]) (v := Value.bool d.off) rfl (.tmp rfl (Res.nil)) rfl ?_
  refine ⟨by rfl, ?_⟩; exact Keep.refl _

theorem dLen {w0 w : World} {X : List Ent} {bw : Nat} {v : Value} (d : Dk.D) (H : Hp w0 [] w (Ent.blk bw 45 #[v, Value.int .i64 (d.left), Value.bool d.armed, Value.bool d.off] :: Ent.own v 5 1 d.l.length (us .u8 d.l) :: X)) :
    Calls Try.prog 21 #[Value.pointer (some ⟨bw, 0, none⟩)] w (fun r_ w' => r_ = .returned (.int .i64 ((d.l.length : Nat) : Int)) ∧ Keep w w') := by
  refine F_in Try.func21 rfl Try.ntmps21 rfl ?_
  intro e he
  have p_0 : e 0 = Value.pointer (some ⟨bw, 0, none⟩) := he 0 _ rfl
  refine W_seq ?_
  refine W_rg ?_
  refine L_as rfl ?_
  refine L_nil ?_
  refine Th_n ?_
  refine W_seq ?_
  refine W_seq ?_
  refine W_rg ?_
  refine L_mv rfl ?_
  refine L_y rfl (Y_eqP Try.underlying25 p_0 rfl) ?_
  refine L_nil ?_
  refine Th_n ?_
  refine W_false rfl ?_
  refine W_skip ?_
  refine Th_n ?_
  refine W_seq ?_
  refine W_rg ?_
  refine L_mv rfl ?_
  refine L_y rfl (Y_nil p_0) ?_
  refine L_y rfl (Y_fld T_fld45_0 rfl rfl rfl) ?_
  refine L_y rfl (Y_ld T_scal23 H (i := 0) rfl rfl rfl) ?_
  refine L_y rfl (Y_lenO T_sl23 H (i := 1) rfl rfl) ?_
  refine L_as rfl ?_
  refine L_nil ?_
  refine Th_n ?_
  refine W_ret ?_
  refine P_ret (vs := [Value.int .i64 ((d.l.length : Nat) : Int)]) (v := Value.int .i64 ((d.l.length : Nat) : Int)) rfl (.tmp rfl (Res.nil)) rfl ?_
  refine ⟨by rfl, ?_⟩; exact Keep.refl _

theorem dThrough {w0 w : World} {X : List Ent} {bw : Nat} {c0 : Value} (d : Dk.D) (n : Nat) (hd : Dk.ok d) (hn : n ≤ 9223372036854775807) (H : Hp w0 [] w (Ent.blk bw 45 #[c0, Value.int .i64 (d.left), Value.bool d.armed, Value.bool d.off] :: X)) :
    Calls Try.prog 25 #[Value.pointer (some ⟨bw, 0, none⟩), Value.int .i64 ((n : Nat) : Int)] w (fun r_ w' => r_ = .returned (.int .i64 (((Dk.through d n).1 : Nat) : Int)) ∧ Hp w0 [] w' (Ent.blk bw 45 #[c0, Value.int .i64 (((Dk.through d n).2).left), Value.bool (((Dk.through d n).2).armed), Value.bool (((Dk.through d n).2).off)] :: X)) := by
  have hlo := hd.lo
  have hhi := hd.hi
  refine F_in Try.func25 rfl Try.ntmps25 rfl ?_
  intro e he
  have p_0 : e 0 = Value.pointer (some ⟨bw, 0, none⟩) := he 0 _ rfl
  have p_1 : e 1 = Value.int .i64 ((n : Nat) : Int) := he 1 _ rfl
  refine W_seq ?_
  refine W_rg ?_
  refine L_as rfl ?_
  refine L_nil ?_
  refine Th_n ?_
  refine W_seq ?_
  refine W_seq ?_
  refine W_rg ?_
  refine L_mv rfl ?_
  refine L_y rfl (Y_nil p_0) ?_
  refine L_y rfl (Y_fld T_fld45_2 rfl rfl rfl) ?_
  refine L_y rfl (Y_ld T_scal4 H (i := 0) rfl rfl rfl) ?_
  refine L_y rfl (Y_not (b := d.armed) rfl) ?_
  refine L_nil ?_
  refine Th_n ?_
  refine W_cond (b := (!d.armed)) rfl (fun hc => ?_) (fun hc => ?_)
  ·
    refine W_seq ?_
    refine W_rg ?_
    refine L_mv rfl ?_
    refine L_as rfl ?_
    refine L_nil ?_
    refine Th_n ?_
    refine W_ret ?_
    refine Th_r ?_
    refine P_ret (vs := [Value.int .i64 ((n : Nat) : Int)]) (v := Value.int .i64 ((n : Nat) : Int)) rfl (.tmp p_1 (Res.nil)) rfl ?_
    have hm : Dk.through d n = (n, ⟨d.l, d.left, d.armed, d.off⟩) := by first | (simp only [Dk.through]; rw [if_neg (by simp_all)]; done) | (have hkn : k ≤ n := (by omega); simp only [Dk.through, ← hk]; have ha : d.armed = true := (by simp_all); rw [if_pos ha]; first | (have hlt : k < n := (by omega); simp [hlt]; done) | (have hlt : ¬ k < n := (by omega); simp [hlt, ha]; done))
    refine ⟨by rw [hm], ?_⟩; rw [hm]; exact H
  ·
    refine W_skip ?_
    refine Th_n ?_
    refine W_seq ?_
    refine W_rg ?_
    refine L_mv rfl ?_
    refine L_mv rfl ?_
    refine L_y rfl (Y_nil p_0) ?_
    refine L_y rfl (Y_fld T_fld45_1 rfl rfl rfl) ?_
    refine L_y rfl (Y_ld T_scal3 H (i := 0) rfl rfl rfl) ?_
    have hpos := hd.pos (by first | assumption | simp_all)
    obtain ⟨k, hk⟩ : ∃ k : Nat, k = min n d.left.toNat := ⟨_, rfl⟩
    have hmz : (if d.left < ((n : Nat) : Int) then d.left else ((n : Nat) : Int)) = ((k : Nat) : Int) := by split <;> omega
    refine L_y rfl (Y_minZ p_1 rfl hmz) ?_
    refine L_as rfl ?_
    refine L_nil ?_
    refine Th_n ?_
    refine W_seq ?_
    refine W_rg ?_
    refine L_mv rfl ?_
    refine L_y rfl (Y_nil p_0) ?_
    refine L_y rfl (Y_fld T_fld45_1 rfl rfl rfl) ?_
    refine L_y rfl (Y_ld T_scal3 H (i := 0) rfl rfl rfl) ?_
    refine L_mv rfl ?_
    refine L_y rfl (Y_sub (k := .i64) (a := d.left) (b := ((k : Nat) : Int)) (z := (d.left - ((k : Nat) : Int))) rfl rfl (wi (by omega))) ?_
    refine L_y rfl (Y_nil p_0) ?_
    refine L_y rfl (Y_fld T_fld45_1 rfl rfl rfl) ?_
    refine L_st (v := Value.int .i64 (d.left - ((k : Nat) : Int))) T_scal3 H (i := 0) rfl rfl rfl rfl (Nat.le_of_ble_eq_true rfl) (l' := (Ent.blk bw 45 #[c0, Value.int .i64 (d.left - ((k : Nat) : Int)), Value.bool d.armed, Value.bool d.off] :: X)) rfl ?_; intro w_2 H_2
    refine L_nil ?_
    refine Th_n ?_
    refine W_seq ?_
    refine W_seq ?_
    refine W_rg ?_
    refine L_mv rfl ?_
    refine L_mv rfl ?_
    refine L_y rfl (Y_lss (k := .i64) (a := ((k : Nat) : Int)) (b := ((n : Nat) : Int)) rfl p_1) ?_
    refine L_nil ?_
    refine Th_n ?_
    refine W_cond (b := (decide (((k : Nat) : Int) < ((n : Nat) : Int)))) rfl (fun hc_2 => ?_) (fun hc_2 => ?_)
    ·
      have hc_2' := of_decide_eq_true hc_2
      refine W_rg ?_
      refine L_mv rfl ?_
      refine L_mv rfl ?_
      refine L_y rfl (Y_nil p_0) ?_
      refine L_y rfl (Y_fld T_fld45_3 rfl rfl rfl) ?_
      refine L_st (v := Value.bool true) T_scal4 H_2 (i := 0) rfl rfl rfl rfl (Nat.le_of_ble_eq_true rfl) (l' := (Ent.blk bw 45 #[c0, Value.int .i64 (d.left - ((k : Nat) : Int)), Value.bool d.armed, Value.bool true] :: X)) rfl ?_; intro w_3 H_3
      refine L_y rfl (Y_nil p_0) ?_
      refine L_y rfl (Y_fld T_fld45_2 rfl rfl rfl) ?_
      refine L_st (v := Value.bool false) T_scal4 H_3 (i := 0) rfl rfl rfl rfl (Nat.le_of_ble_eq_true rfl) (l' := (Ent.blk bw 45 #[c0, Value.int .i64 (d.left - ((k : Nat) : Int)), Value.bool false, Value.bool true] :: X)) rfl ?_; intro w_4 H_4
      refine L_nil ?_
      refine Th_n ?_
      refine W_seq ?_
      refine W_rg ?_
      refine L_mv rfl ?_
      refine L_as rfl ?_
      refine L_nil ?_
      refine Th_n ?_
      refine W_ret ?_
      refine P_ret (vs := [Value.int .i64 ((k : Nat) : Int)]) (v := Value.int .i64 ((k : Nat) : Int)) rfl (.tmp rfl (Res.nil)) rfl ?_
      have hm : Dk.through d n = (k, ⟨d.l, (d.left - ((k : Nat) : Int)), false, true⟩) := by first | (simp only [Dk.through]; rw [if_neg (by simp_all)]; done) | (have hkn : k ≤ n := (by omega); simp only [Dk.through, ← hk]; have ha : d.armed = true := (by simp_all); rw [if_pos ha]; first | (have hlt : k < n := (by omega); simp [hlt]; done) | (have hlt : ¬ k < n := (by omega); simp [hlt, ha]; done))
      refine ⟨by rw [hm], ?_⟩; rw [hm]; exact H_4
    ·
      have hc_2' := of_decide_eq_false hc_2
      refine W_skip ?_
      refine Th_n ?_
      refine W_seq ?_
      refine W_rg ?_
      refine L_mv rfl ?_
      refine L_as rfl ?_
      refine L_nil ?_
      refine Th_n ?_
      refine W_ret ?_
      refine P_ret (vs := [Value.int .i64 ((k : Nat) : Int)]) (v := Value.int .i64 ((k : Nat) : Int)) rfl (.tmp rfl (Res.nil)) rfl ?_
      have hm : Dk.through d n = (k, ⟨d.l, (d.left - ((k : Nat) : Int)), d.armed, d.off⟩) := by first | (simp only [Dk.through]; rw [if_neg (by simp_all)]; done) | (have hkn : k ≤ n := (by omega); simp only [Dk.through, ← hk]; have ha : d.armed = true := (by simp_all); rw [if_pos ha]; first | (have hlt : k < n := (by omega); simp [hlt]; done) | (have hlt : ¬ k < n := (by omega); simp [hlt, ha]; done))
      refine ⟨by rw [hm], ?_⟩; rw [hm]; exact H_2
end Go.Proofs.Ytlialefffhoagaa
