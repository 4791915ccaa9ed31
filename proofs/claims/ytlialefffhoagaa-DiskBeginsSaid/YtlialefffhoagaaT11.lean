/- Walks of layer 21 (disk) and of its reference. Printed by disk.py. -/
import Derived.Test.YtlialefffhoagaaT10
import Derived.Test.YtlialefffhoagaaDiskTab
namespace Go.Proofs.Ytlialefffhoagaa
open Go.Ev
set_option maxRecDepth 100000
set_option linter.unusedVariables false
set_option linter.unusedSimpArgs false
theorem T_sl35 : slOf Try.prog 35 = some (41, 3) := by kernel_rfl
theorem T_fld41_2 : fldOf Try.prog 41 2 = some (2, 1) := by kernel_rfl
theorem total_n {a : Option Addr} {m c : Nat} {L : List Dk.Op} {w0 w : World} {X : List Ent} (hT : Tab w0 Dk.Op.cells 3 a m c L) (hg : ∀ x ∈ L, Dk.Op.good w0 x) (hm3 : m ≤ 300) (H : Hp w0 [] w X) :
    Calls Try.prog 14 #[Value.slice a m c] w (fun r_ w' => ∃ q : Nat, r_ = .returned (.int .i64 ((q : Nat) : Int)) ∧ (q ≤ 140737489399808 ∧ (q ≤ 1048576 → ∀ x ∈ L, x.m ≤ 1048576)) ∧ Hp w0 [] w' X) := by
  refine F_in Try.func14 rfl Try.ntmps14 rfl ?_
  intro e he
  have p_0 : e 0 = Value.slice a m c := he 0 _ rfl
  refine W_seq ?_
  refine W_rg ?_
  refine L_as rfl ?_
  refine L_nil ?_
  refine Th_n ?_
  refine W_seq ?_
  refine W_rg ?_
  refine L_as rfl ?_
  refine L_nil ?_
  refine Th_n ?_
  refine W_seq ?_
  refine W_seq ?_
  refine W_rg ?_
  refine L_as rfl ?_
  refine L_nil ?_
  refine Th_n ?_
  refine W_block ?_
  refine W_loop (fun mu_ e w => ∃ i : Nat, ∃ s0 : Nat, mu_ = m - i ∧ e 0 = Value.slice a m c ∧ e 3 = Value.int .i64 ((s0 : Nat) : Int) ∧ e 4 = Value.int .i64 ((i : Nat) : Int) ∧ Hp w0 [] w (X) ∧ s0 = Dk.sum (L.take i) ∧ s0 ≤ 140737489399808 ∧ i ≤ m) _ ⟨0, 0, rfl, p_0, rfl, rfl, H, rfl, (by decide), (Nat.zero_le _)⟩ ?_
  rintro mu_ e_2 w_2 ⟨i, s0, rfl, e_2_0, e_2_3, e_2_4, H_2, hs, hB, hi⟩
  refine W_seq ?_
  refine W_seq ?_
  refine W_rg ?_
  refine L_mv rfl ?_
  refine L_mv rfl ?_
  refine L_y rfl (Y_lenS T_sl35 e_2_0) ?_
  refine L_y rfl (Y_lss (k := .i64) (a := ((i : Nat) : Int)) (b := ((m : Nat) : Int)) e_2_4 rfl) ?_
  refine L_mv rfl ?_
  rcases Bool.eq_false_or_eq_true (decide (((i : Nat) : Int) < ((m : Nat) : Int))) with hb | hb
  ·
    have hb' := of_decide_eq_true hb
    refine G_mv (wE rfl (congrArg Value.bool hb)) rfl ?_
    refine G_y (wE rfl (congrArg Value.bool hb)) rfl (Y_leq (k := .i64) (a := ((s0 : Nat) : Int)) (b := ((1048576 : Nat) : Int)) e_2_3 rfl) ?_
    refine L_y rfl (Y_pickT (congrArg Value.bool hb)) ?_
    refine L_nil ?_
    refine Th_n ?_
    refine W_cond (b := (decide (((s0 : Nat) : Int) ≤ ((1048576 : Nat) : Int)))) rfl (fun hc => ?_) (fun hc => ?_)
    ·
      have hc' := of_decide_eq_true hc
      refine W_skip ?_
      refine Th_n ?_
      refine W_seq ?_
      refine W_block ?_
      refine W_rg ?_
      refine L_mv rfl ?_
      refine L_mv rfl ?_
      refine L_mv rfl ?_
      obtain ⟨el18, hel18⟩ := hT.at (j := i) (by omega)
      have gel18 := hg el18 (List.mem_of_getElem? hel18)
      have bel18 := gel18.big
      have lel18 := gel18.sl.len
      have sel18 := gel18.s1
      have tel18 := gel18.s2
      refine L_y rfl (Y_idxT (j := i) T_sl35 (hT.hp H_2) hel18 e_2_0 e_2_4 rfl) ?_
      refine L_y rfl (Y_fldT T_fld41_2 rfl (hT.hp H_2) hel18 rfl) ?_
      refine L_y rfl (Y_ldT (j := i) (off := 2) T_scal23 (hT.hp H_2) hel18 rfl rfl rfl) ?_
      refine L_y rfl (Y_lenS T_sl23 rfl) ?_
      refine L_y rfl (Y_add (k := .i64) (a := ((s0 : Nat) : Int)) (b := ((el18.m : Nat) : Int)) (z := ((s0 + el18.m : Nat) : Int)) e_2_3 rfl (wi (by omega))) ?_
      refine L_as rfl ?_
      refine L_nil ?_
      refine InB_n ?_
      refine Th_n ?_
      refine W_rg ?_
      refine L_mv rfl ?_
      refine L_y rfl (Y_add (k := .i64) (a := ((i : Nat) : Int)) (b := ((1 : Nat) : Int)) (z := ((i + 1 : Nat) : Int)) e_2_4 rfl (wi (by omega))) ?_
      refine L_as rfl ?_
      refine L_nil ?_
      refine Th_n ⟨_, ?_, (i + 1), _, rfl, e_2_0, rfl, rfl, H_2, (by rw [hs, Dk.sum_snoc hel18]), (by omega), (by omega)⟩
      omega
    ·
      have hc' := of_decide_eq_false hc
      refine W_exit ?_
      refine Th_x ?_
      refine Th_x ?_
      refine InB_hit ?_
      refine Th_n ?_
      refine W_seq ?_
      refine W_rg ?_
      refine L_mv rfl ?_
      refine L_as rfl ?_
      refine L_nil ?_
      refine Th_n ?_
      refine W_ret ?_
      refine P_ret (vs := [Value.int .i64 ((s0 : Nat) : Int)]) (v := Value.int .i64 ((s0 : Nat) : Int)) rfl (.tmp e_2_3 (Res.nil)) rfl ?_
      refine ⟨s0, rfl, ⟨hB, fun hle => ?_⟩, H_2⟩
      have hlT := hT.len
      obtain rfl : i = m := (by omega)
      have e1 : s0 = Dk.sum L := (by rw [hs, List.take_of_length_le (by omega)])
      exact fun x hx => Nat.le_trans (Dk.sum_mem hx) (by omega)
  ·
    have hb' := of_decide_eq_false hb
    refine G_no (wN (b := true) rfl (congrArg Value.bool hb)) rfl ?_
    refine G_no (wN (b := true) rfl (congrArg Value.bool hb)) rfl ?_
    refine L_y rfl (Y_pickF (congrArg Value.bool hb)) ?_
    refine L_nil ?_
    refine Th_n ?_
    refine W_false rfl ?_
    refine W_exit ?_
    refine Th_x ?_
    refine Th_x ?_
    refine InB_hit ?_
    refine Th_n ?_
    refine W_seq ?_
    refine W_rg ?_
    refine L_mv rfl ?_
    refine L_as rfl ?_
    refine L_nil ?_
    refine Th_n ?_
    refine W_ret ?_
    refine P_ret (vs := [Value.int .i64 ((s0 : Nat) : Int)]) (v := Value.int .i64 ((s0 : Nat) : Int)) rfl (.tmp e_2_3 (Res.nil)) rfl ?_
    refine ⟨s0, rfl, ⟨hB, fun hle => ?_⟩, H_2⟩
    have hlT := hT.len
    obtain rfl : i = m := (by omega)
    have e1 : s0 = Dk.sum L := (by rw [hs, List.take_of_length_le (by omega)])
    exact fun x hx => Nat.le_trans (Dk.sum_mem hx) (by omega)
end Go.Proofs.Ytlialefffhoagaa
