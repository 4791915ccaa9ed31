/- Walks of layer 21 (disk) and of its reference. Printed by disk.py. -/
import Derived.Test.YtlialefffhoagaaT16
import Derived.Test.YtlialefffhoagaaV19
import Derived.Test.YtlialefffhoagaaBeginMath
namespace Go.Proofs.Ytlialefffhoagaa
open Go.Ev
set_option maxRecDepth 100000
set_option linter.unusedVariables false
set_option linter.unusedSimpArgs false
theorem T_sl22 : slOf Try.prog 22 = some (23, 1) := by kernel_rfl
theorem T_some3 : (Try.prog.underlying 3).isSome = true := by kernel_rfl
theorem T_kind29 : kindOf Try.prog 29 = some .u64 := by kernel_rfl
theorem T_some29 : (Try.prog.underlying 29).isSome = true := by kernel_rfl
theorem T_kind3 : kindOf Try.prog 3 = some .i64 := by kernel_rfl
theorem diskBegins_n (a : Option Addr) (m c : Nat) (L : List Bs) (arm : Int) (w0 : World) (hT : Tab w0 Bs.cells 1 a m c L) (hg : ∀ x ∈ L, Bs.good w0 x) (hmm : m ≤ 140737488351232) :
    Calls Try.prog 3 #[Value.slice a m c, Value.int .i64 (arm)] w0 (fun r_ w' => r_ = .returned (.bool true) ∧ Keep w0 w') := by
  refine F_in Try.func3 rfl Try.ntmps3 rfl ?_
  intro e he
  have p_0 : e 0 = Value.slice a m c := he 0 _ rfl
  have p_1 : e 1 = Value.int .i64 (arm) := he 1 _ rfl
  have H := Hp.start w0 []
  refine W_seq ?_
  refine W_rg ?_
  refine L_as rfl ?_
  refine L_nil ?_
  refine Th_n ?_
  refine W_seq ?_
  refine W_rg ?_
  refine L_as rfl ?_
  refine L_nil ?_
  refine Th_n ?_
  refine W_seq ?_
  refine W_seq ?_
  refine W_rg ?_
  refine L_as rfl ?_
  refine L_nil ?_
  refine Th_n ?_
  refine W_block ?_
  refine W_loop (fun mu_ e w => ∃ i : Nat, ∃ s0 : Nat, mu_ = m - i ∧ e 0 = Value.slice a m c ∧ e 1 = Value.int .i64 (arm) ∧ e 5 = Value.int .i64 ((s0 : Nat) : Int) ∧ e 6 = Value.int .i64 ((i : Nat) : Int) ∧ Hp w0 [] w [] ∧ s0 = Bs.sum (L.take i) ∧ s0 ≤ 140737488416768 ∧ i ≤ m) _ ⟨0, 0, rfl, p_0, p_1, rfl, rfl, H, rfl, (by decide), (Nat.zero_le _)⟩ ?_
  rintro mu_ e_2 w_2 ⟨i, s0, rfl, e_2_0, e_2_1, e_2_5, e_2_6, H_2, hs, hB0, hi⟩
  refine W_seq ?_
  refine W_seq ?_
  refine W_rg ?_
  refine L_mv rfl ?_
  refine L_mv rfl ?_
  refine L_y rfl (Y_lenS T_sl22 e_2_0) ?_
  refine L_y rfl (Y_lss (k := .i64) (a := ((i : Nat) : Int)) (b := ((m : Nat) : Int)) e_2_6 rfl) ?_
  refine L_mv rfl ?_
  rcases Bool.eq_false_or_eq_true (decide (((i : Nat) : Int) < ((m : Nat) : Int))) with hb | hb
  ·
    have hb' := of_decide_eq_true hb
    refine G_mv (wE rfl (congrArg Value.bool hb)) rfl ?_
    refine G_y (wE rfl (congrArg Value.bool hb)) rfl (Y_leq (k := .i64) (a := ((s0 : Nat) : Int)) (b := ((65536 : Nat) : Int)) e_2_5 rfl) ?_
    refine L_y rfl (Y_pickT (congrArg Value.bool hb)) ?_
    refine L_nil ?_
    refine Th_n ?_
    refine W_cond (b := (decide (((s0 : Nat) : Int) ≤ ((65536 : Nat) : Int)))) rfl (fun hc => ?_) (fun hc => ?_)
    ·
      have hc' := of_decide_eq_true hc
      refine W_skip ?_
      refine Th_n ?_
      refine W_seq ?_
      refine W_block ?_
      refine W_rg ?_
      refine L_mv rfl ?_
      refine L_mv rfl ?_
      refine L_mv rfl ?_
      obtain ⟨el26, hel26⟩ := hT.at (j := i) (by omega)
      have gel26 := hg el26 (List.mem_of_getElem? hel26)
      have bel26 := gel26.big
      have lel26 := gel26.sl.len
      have hssel26 := Bs.sum_step hel26
      refine L_y rfl (Y_idxT (j := i) T_sl22 (hT.hp H_2) hel26 e_2_0 e_2_6 rfl) ?_
      refine L_y rfl (Y_ldT (j := i) (off := 0) T_scal23 (hT.hp H_2) hel26 rfl rfl rfl) ?_
      refine L_y rfl (Y_lenS T_sl23 rfl) ?_
      refine L_y rfl (Y_add (k := .i64) (a := ((s0 : Nat) : Int)) (b := ((el26.m : Nat) : Int)) (z := ((s0 + el26.m : Nat) : Int)) e_2_5 rfl (wi (by omega))) ?_
      refine L_as rfl ?_
      refine L_nil ?_
      refine InB_n ?_
      refine Th_n ?_
      refine W_rg ?_
      refine L_mv rfl ?_
      refine L_y rfl (Y_add (k := .i64) (a := ((i : Nat) : Int)) (b := ((1 : Nat) : Int)) (z := ((i + 1 : Nat) : Int)) e_2_6 rfl (wi (by omega))) ?_
      refine L_as rfl ?_
      refine L_nil ?_
      refine Th_n ⟨_, ?_, (i + 1), _, rfl, e_2_0, e_2_1, rfl, rfl, H_2, (by rw [hs, Bs.sum_snoc hel26]), (by omega), (by omega)⟩
      omega
    ·
      have hc' := of_decide_eq_false hc
      refine W_exit ?_
      refine Th_x ?_
      refine Th_x ?_
      refine InB_hit ?_
      refine Th_n ?_
      refine W_seq ?_
      refine W_seq ?_
      refine W_rg ?_
      refine L_mv rfl ?_
      refine L_y rfl (Y_lenS T_sl22 e_2_0) ?_
      refine L_y rfl (Y_gtr (k := .i64) (a := ((m : Nat) : Int)) (b := ((100 : Nat) : Int)) rfl rfl) ?_
      refine L_mv rfl ?_
      rcases Bool.eq_false_or_eq_true (decide (((100 : Nat) : Int) < ((m : Nat) : Int))) with hb_2 | hb_2
      ·
        have hb_2' := of_decide_eq_true hb_2
        refine G_no (wN (b := false) rfl (congrArg Value.bool hb_2)) rfl ?_
        refine G_no (wN (b := false) rfl (congrArg Value.bool hb_2)) rfl ?_
        refine L_y rfl (Y_pickT (congrArg Value.bool hb_2)) ?_
        refine L_nil ?_
        refine Th_n ?_
        refine W_true rfl ?_
        refine W_seq ?_
        refine W_rg ?_
        refine L_callv rfl rfl T_en7 (A0) (known_n _) ?_
        rintro _ w_3 ⟨rfl, hkp⟩; refine ⟨_, rfl, ?_⟩; have H_3 := H_2.keep hkp
        refine L_as rfl ?_
        refine L_nil ?_
        refine Th_n ?_
        refine W_ret ?_
        refine Th_r ?_
        refine P_ret (vs := [Value.bool true]) (v := Value.bool true) rfl (.tmp rfl (Res.nil)) rfl ?_
        refine ⟨?_, H_3.nil_⟩
        rfl
      ·
        have hb_2' := of_decide_eq_false hb_2
        refine G_mv (wE rfl (congrArg Value.bool hb_2)) rfl ?_
        refine G_y (wE rfl (congrArg Value.bool hb_2)) rfl (Y_gtr (k := .i64) (a := ((s0 : Nat) : Int)) (b := ((65536 : Nat) : Int)) e_2_5 rfl) ?_
        refine L_y rfl (Y_pickF (congrArg Value.bool hb_2)) ?_
        refine L_nil ?_
        refine Th_n ?_
        refine W_cond (b := (decide (((65536 : Nat) : Int) < ((s0 : Nat) : Int)))) rfl (fun hc_2 => ?_) (fun hc_2 => ?_)
        ·
          have hc_2' := of_decide_eq_true hc_2
          refine W_seq ?_
          refine W_rg ?_
          refine L_callv rfl rfl T_en7 (A0) (known_n _) ?_
          rintro _ w_4 ⟨rfl, hkp_2⟩; refine ⟨_, rfl, ?_⟩; have H_4 := H_2.keep hkp_2
          refine L_as rfl ?_
          refine L_nil ?_
          refine Th_n ?_
          refine W_ret ?_
          refine Th_r ?_
          refine P_ret (vs := [Value.bool true]) (v := Value.bool true) rfl (.tmp rfl (Res.nil)) rfl ?_
          refine ⟨?_, H_4.nil_⟩
          rfl
        ·
          have hsum : Bs.sum L ≤ 65536 := by have e1 : L.take i = L := List.take_of_length_le (by have := hT.len; have := of_decide_eq_false hc_2; omega); rw [e1] at hs; have := of_decide_eq_false hc_2; omega
          have hc_2' := of_decide_eq_false hc_2
          refine W_skip ?_
          refine Th_n ?_
          refine W_seq ?_
          refine W_rg ?_
          refine L_callv rfl rfl T_en8 (A0) (dNew H_2) ?_
          rintro _ w_5 ⟨b38, v38, rfl, H_5⟩; refine ⟨_, rfl, ?_⟩
          refine L_as rfl ?_
          refine L_nil ?_
          refine Th_n ?_
          refine W_seq ?_
          refine W_seq ?_
          refine W_rg ?_
          refine L_mv rfl ?_
          refine L_mv rfl ?_
          refine L_y rfl (Y_convI (k := .i64) (n := arm) (z := ((un arm : Nat) : Int)) T_some3 T_kind29 e_2_1 (un_wrap _)) ?_
          refine L_yr (z := (un arm) % 65536) (m := 18446744073709551616) rfl (Yu_rem (k := .u64) (un arm) 65536 rfl rfl (by decide)) (Nat.lt_of_le_of_lt (Nat.mod_le _ _) (un_lt _)) ?_; intro x42 hx42 rx42
          refine L_y rfl (Y_convI (k := .u64) (n := ((x42 : Nat) : Int)) (z := ((x42 : Nat) : Int)) T_some29 T_kind3 rfl (wi (by exact ⟨rfl, by omega, by have := rx42; omega⟩))) ?_
          refine L_callv rfl rfl T_en9 (A2 rfl rfl) (dArm Dk.new ((x42 : Nat) : Int) Dk.new_ok H_5) ?_
          rintro _ w_6 ⟨v44, rfl, H_6⟩; refine ⟨_, rfl, ?_⟩
          refine L_y rfl (Y_neq (k := .i64) (a := (((Dk.arm Dk.new ((x42 : Nat) : Int)).1 : Nat) : Int)) (b := ((0 : Nat) : Int)) rfl rfl) ?_
          refine L_nil ?_
          refine Th_n ?_
          refine W_false (congrArg Value.bool ((by rw [Dk.arm0 (by omega)]; rfl) : ((((Dk.arm Dk.new ((x42 : Nat) : Int)).1 : Nat) : Int) != ((0 : Nat) : Int)) = false)) ?_
          refine W_skip ?_
          refine Th_n ?_
          refine W_seq ?_
          refine W_rg ?_
          refine L_as rfl ?_
          refine L_nil ?_
          refine Th_n ?_
          refine W_seq ?_
          refine W_rg ?_
          refine L_as rfl ?_
          refine L_nil ?_
          refine Th_n ?_
          refine W_seq ?_
          refine W_seq ?_
          refine W_rg ?_
          refine L_as rfl ?_
          refine L_nil ?_
          refine Th_n ?_
          refine W_block ?_
          refine W_loop (fun mu_ e w => ∃ i : Nat, ∃ vd : Value, ∃ d : Dk.D, ∃ s1 : List Nat, ∃ t1 : List Nat, mu_ = m - i ∧ e 0 = Value.slice a m c ∧ e 7 = Value.pointer (some ⟨b38, 0, none⟩) ∧ e 8 = Value.string (bs s1) ∧ e 9 = Value.string (bs t1) ∧ e 10 = Value.int .i64 ((i : Nat) : Int) ∧ Hp w0 [] w [Ent.blk b38 45 #[vd, Value.int .i64 (d.left), Value.bool d.armed, Value.bool d.off], Ent.own vd 5 1 d.l.length (us .u8 d.l)] ∧ Dk.Beg d s1 t1 ∧ t1.length = Bs.sum (L.take i) ∧ i ≤ m) _ ⟨0, _, _, [], [], rfl, e_2_0, rfl, (by kernel_rfl), (by kernel_rfl), rfl, H_6, (Dk.beg0 (by omega) (by omega) (by omega)), rfl, (Nat.zero_le _)⟩ ?_
          rintro mu_ e_3 w_7 ⟨i, vd, d, s1, t1, rfl, e_3_0, e_3_7, e_3_8, e_3_9, e_3_10, H_7, hB, htl, hi⟩
          refine W_seq ?_
          refine W_seq ?_
          refine W_rg ?_
          refine L_mv rfl ?_
          refine L_mv rfl ?_
          refine L_y rfl (Y_lenS T_sl22 e_3_0) ?_
          refine L_y rfl (Y_lss (k := .i64) (a := ((i : Nat) : Int)) (b := ((m : Nat) : Int)) e_3_10 rfl) ?_
          refine L_nil ?_
          refine Th_n ?_
          refine W_cond (b := (decide (((i : Nat) : Int) < ((m : Nat) : Int)))) rfl (fun hc_3 => ?_) (fun hc_3 => ?_)
          ·
            have hc_3' := of_decide_eq_true hc_3
            refine W_skip ?_
            refine Th_n ?_
            refine W_seq ?_
            refine W_block ?_
            refine W_seq ?_
            refine W_seq ?_
            refine W_rg ?_
            refine L_mv rfl ?_
            refine L_callv rfl rfl T_en10 (A1 e_3_7) (dDown d H_7) ?_
            rintro _ w_8 ⟨rfl, hkp_3⟩; refine ⟨_, rfl, ?_⟩; have H_8 := H_7.keep hkp_3
            refine L_nil ?_
            refine Th_n ?_
            refine W_cond (b := d.off) rfl (fun hc_4 => ?_) (fun hc_4 => ?_)
            ·
              refine W_exit ?_
              refine Th_x ?_
              refine InB_miss rfl ?_
              refine Th_x ?_
              refine Th_x ?_
              refine InB_hit ?_
              refine Th_n ?_
              refine W_seq ?_
              refine W_rg ?_
              refine L_mv rfl ?_
              refine L_callv rfl rfl T_en12 (A1 e_3_7) (dRestart d  hB.ok H_8) ?_
              rintro _ w_9 ⟨v70, rfl, H_9⟩; refine ⟨_, rfl, ?_⟩
              refine L_nil ?_
              refine Th_n ?_
              refine W_seq ?_
              refine W_rg ?_
              refine L_mv rfl ?_
              have H_10 : Hp w0 [] w_9 [Ent.blk b38 45 #[v70, Value.int .i64 (((Dk.restart d).2).left), Value.bool (((Dk.restart d).2).armed), Value.bool (((Dk.restart d).2).off)], Ent.own v70 5 1 ((((Dk.restart d).2).l).length) (us .u8 (((Dk.restart d).2).l))] := H_9.asL (i := 1) rfl (by rfl) rfl rfl
              refine L_callv rfl rfl T_en13 (A1 e_3_7) (dBytes ((Dk.restart d).2) (Dk.restart_ok hB.ok) H_10) ?_
              rintro _ w_10 ⟨v73, rfl, H_11⟩; refine ⟨_, rfl, ?_⟩
              have hq := Dk.told_len (d := (Dk.restart d).2) (Dk.restart_ok hB.ok)
              refine L_mv rfl ?_
              refine L_y rfl (Y_ext rfl rfl) ?_
              refine L_y rfl (Y_ext rfl rfl) ?_
              refine L_as rfl ?_
              refine L_as rfl ?_
              refine L_nil ?_
              refine Th_n ?_
              refine W_seq ?_
              refine W_quiet H_11 23 [Value.int .i64 ((Dk.ready ((Dk.restart d).2) : Nat) : Int), Value.bool (((Dk.ready ((Dk.restart d).2) : Nat) : Int) == ((0 : Nat) : Int)), Value.bool (((Dk.ready ((Dk.restart d).2) : Nat) : Int) == ((0 : Nat) : Int)), v73, Value.int .i64 (((Dk.told ((Dk.restart d).2)).length : Nat) : Int), Value.string (bs s1), Value.int .i64 ((s1.length : Nat) : Int), Value.bool (decide (((s1.length : Nat) : Int) ≤ (((Dk.told ((Dk.restart d).2)).length : Nat) : Int))), Value.bool (decide (((s1.length : Nat) : Int) ≤ (((Dk.told ((Dk.restart d).2)).length : Nat) : Int))), Value.bool (decide (((s1.length : Nat) : Int) ≤ (((Dk.told ((Dk.restart d).2)).length : Nat) : Int))), v73, Value.int .i64 (((Dk.told ((Dk.restart d).2)).length : Nat) : Int), Value.string (bs t1), Value.int .i64 ((t1.length : Nat) : Int), Value.bool (decide ((((Dk.told ((Dk.restart d).2)).length : Nat) : Int) ≤ ((t1.length : Nat) : Int))), Value.bool (decide ((((Dk.told ((Dk.restart d).2)).length : Nat) : Int) ≤ ((t1.length : Nat) : Int))), Value.bool (decide ((((Dk.told ((Dk.restart d).2)).length : Nat) : Int) ≤ ((t1.length : Nat) : Int))), v73, Value.string (bs (Dk.told ((Dk.restart d).2))), Value.string (bs t1), v73, Value.int .i64 (((Dk.told ((Dk.restart d).2)).length : Nat) : Int), Value.string (bs (t1.take ((Dk.told ((Dk.restart d).2)).length)))] T_mixed (by kernel_rfl) ?_ ?_
              ·
                refine .plain rfl (Pl_y rfl (fun w hBw => rfl)) ?_
                refine .plain rfl (Pl_y rfl (fun w hBw => Y_eql (k := .i64) (a := ((Dk.ready ((Dk.restart d).2) : Nat) : Int)) (b := ((0 : Nat) : Int)) rfl rfl)) ?_
                refine .plain rfl (Pl_y rfl (fun w hBw => rfl)) ?_
                refine .plain rfl (Pl_y (wE rfl (congrArg Value.bool ((by rfl) : (((Dk.ready ((Dk.restart d).2) : Nat) : Int) == ((0 : Nat) : Int)) = true))) (fun w hBw => rfl)) ?_
                refine .plain rfl (Pl_y (wE rfl (congrArg Value.bool ((by rfl) : (((Dk.ready ((Dk.restart d).2) : Nat) : Int) == ((0 : Nat) : Int)) = true))) (fun w hBw => Y_lenO T_sl23 hBw (i := 0) rfl rfl)) ?_
                refine .plain rfl (Pl_y (wE rfl (congrArg Value.bool ((by rfl) : (((Dk.ready ((Dk.restart d).2) : Nat) : Int) == ((0 : Nat) : Int)) = true))) (fun w hBw => congrArg (fun v => Result.ok (Next.value v) w) e_3_8)) ?_
                refine .plain rfl (Pl_y (wE rfl (congrArg Value.bool ((by rfl) : (((Dk.ready ((Dk.restart d).2) : Nat) : Int) == ((0 : Nat) : Int)) = true))) (fun w hBw => Y_lenT (l := s1) Try.underlying9 rfl)) ?_
                refine .plain rfl (Pl_y (wE rfl (congrArg Value.bool ((by rfl) : (((Dk.ready ((Dk.restart d).2) : Nat) : Int) == ((0 : Nat) : Int)) = true))) (fun w hBw => Y_geq (k := .i64) (a := (((Dk.told ((Dk.restart d).2)).length : Nat) : Int)) (b := ((s1.length : Nat) : Int)) rfl rfl)) ?_
                refine .plain rfl (Pl_y rfl (fun w hBw => Y_pickT (congrArg Value.bool ((by rfl) : (((Dk.ready ((Dk.restart d).2) : Nat) : Int) == ((0 : Nat) : Int)) = true)))) ?_
                refine .plain rfl (Pl_y rfl (fun w hBw => rfl)) ?_
                refine .plain rfl (Pl_y (wE rfl (congrArg Value.bool ((decide_eq_true (by have := hB.slen; rw [Dk.told_re]; omega)) : (decide (((s1.length : Nat) : Int) ≤ (((Dk.told ((Dk.restart d).2)).length : Nat) : Int))) = true))) (fun w hBw => rfl)) ?_
                refine .plain rfl (Pl_y (wE rfl (congrArg Value.bool ((decide_eq_true (by have := hB.slen; rw [Dk.told_re]; omega)) : (decide (((s1.length : Nat) : Int) ≤ (((Dk.told ((Dk.restart d).2)).length : Nat) : Int))) = true))) (fun w hBw => Y_lenO T_sl23 hBw (i := 0) rfl rfl)) ?_
                refine .plain rfl (Pl_y (wE rfl (congrArg Value.bool ((decide_eq_true (by have := hB.slen; rw [Dk.told_re]; omega)) : (decide (((s1.length : Nat) : Int) ≤ (((Dk.told ((Dk.restart d).2)).length : Nat) : Int))) = true))) (fun w hBw => congrArg (fun v => Result.ok (Next.value v) w) e_3_9)) ?_
                refine .plain rfl (Pl_y (wE rfl (congrArg Value.bool ((decide_eq_true (by have := hB.slen; rw [Dk.told_re]; omega)) : (decide (((s1.length : Nat) : Int) ≤ (((Dk.told ((Dk.restart d).2)).length : Nat) : Int))) = true))) (fun w hBw => Y_lenT (l := t1) Try.underlying9 rfl)) ?_
                refine .plain rfl (Pl_y (wE rfl (congrArg Value.bool ((decide_eq_true (by have := hB.slen; rw [Dk.told_re]; omega)) : (decide (((s1.length : Nat) : Int) ≤ (((Dk.told ((Dk.restart d).2)).length : Nat) : Int))) = true))) (fun w hBw => Y_leq (k := .i64) (a := (((Dk.told ((Dk.restart d).2)).length : Nat) : Int)) (b := ((t1.length : Nat) : Int)) rfl rfl)) ?_
                refine .plain rfl (Pl_y rfl (fun w hBw => Y_pickT (congrArg Value.bool ((decide_eq_true (by have := hB.slen; rw [Dk.told_re]; omega)) : (decide (((s1.length : Nat) : Int) ≤ (((Dk.told ((Dk.restart d).2)).length : Nat) : Int))) = true)))) ?_
                refine .plain rfl (Pl_y rfl (fun w hBw => rfl)) ?_
                refine .plain rfl (Pl_y (wE rfl (congrArg Value.bool ((decide_eq_true (by have := hB.tlen; rw [Dk.told_re]; omega)) : (decide ((((Dk.told ((Dk.restart d).2)).length : Nat) : Int) ≤ ((t1.length : Nat) : Int))) = true))) (fun w hBw => rfl)) ?_
                refine .plain rfl (Pl_y (wE rfl (congrArg Value.bool ((decide_eq_true (by have := hB.tlen; rw [Dk.told_re]; omega)) : (decide ((((Dk.told ((Dk.restart d).2)).length : Nat) : Int) ≤ ((t1.length : Nat) : Int))) = true))) (fun w hBw => Y_strO Try.underlying23 Try.underlying5 Try.underlying9 hBw (i := 0) rfl rfl)) ?_
                refine .plain rfl (Pl_y (wE rfl (congrArg Value.bool ((decide_eq_true (by have := hB.tlen; rw [Dk.told_re]; omega)) : (decide ((((Dk.told ((Dk.restart d).2)).length : Nat) : Int) ≤ ((t1.length : Nat) : Int))) = true))) (fun w hBw => congrArg (fun v => Result.ok (Next.value v) w) e_3_9)) ?_
                refine .plain rfl (Pl_y (wE rfl (congrArg Value.bool ((decide_eq_true (by have := hB.tlen; rw [Dk.told_re]; omega)) : (decide ((((Dk.told ((Dk.restart d).2)).length : Nat) : Int) ≤ ((t1.length : Nat) : Int))) = true))) (fun w hBw => rfl)) ?_
                refine .plain rfl (Pl_y (wE rfl (congrArg Value.bool ((decide_eq_true (by have := hB.tlen; rw [Dk.told_re]; omega)) : (decide ((((Dk.told ((Dk.restart d).2)).length : Nat) : Int) ≤ ((t1.length : Nat) : Int))) = true))) (fun w hBw => Y_lenO T_sl23 hBw (i := 0) rfl rfl)) ?_
                refine .plain rfl (Pl_y (wE rfl (congrArg Value.bool ((decide_eq_true (by have := hB.tlen; rw [Dk.told_re]; omega)) : (decide ((((Dk.told ((Dk.restart d).2)).length : Nat) : Int) ≤ ((t1.length : Nat) : Int))) = true))) (fun w hBw => Y_cutT (l := t1) (h := (Dk.told ((Dk.restart d).2)).length) Try.underlying9 rfl rfl (by have := hB.tlen; rw [Dk.told_re]; omega))) ?_
                exact .nil _
              ·
                intro e_4 w_11 hAg H_12
                have e_4_92 : e_4 92 = Value.bool (decide ((((Dk.told ((Dk.restart d).2)).length : Nat) : Int) ≤ ((t1.length : Nat) : Int))) := (hAg 92 rfl).trans rfl
                have e_4_94 : e_4 94 = Value.string (bs (Dk.told ((Dk.restart d).2))) := (hAg 94 rfl).trans rfl
                have e_4_98 : e_4 98 = Value.string (bs (t1.take ((Dk.told ((Dk.restart d).2)).length))) := (hAg 98 rfl).trans rfl
                refine G_y (wE rfl (e_4_92.trans (congrArg Value.bool ((decide_eq_true (by have := hB.tlen; rw [Dk.told_re]; omega)) : (decide ((((Dk.told ((Dk.restart d).2)).length : Nat) : Int) ≤ ((t1.length : Nat) : Int))) = true)))) rfl (Y_eqT (l1 := Dk.told ((Dk.restart d).2)) (l2 := t1.take ((Dk.told ((Dk.restart d).2)).length)) Try.underlying9 (Dk.told_lt (Dk.restart_ok hB.ok)) (fun u hu => hB.lt u (List.mem_of_mem_take hu)) e_4_94 e_4_98) ?_
                refine L_y rfl (Y_pickT (e_4_92.trans (congrArg Value.bool ((decide_eq_true (by have := hB.tlen; rw [Dk.told_re]; omega)) : (decide ((((Dk.told ((Dk.restart d).2)).length : Nat) : Int) ≤ ((t1.length : Nat) : Int))) = true)))) ?_
                refine L_mv rfl ?_
                refine L_callv (wE rfl (congrArg Value.bool ((decide_eq_true (by rw [Dk.told_re]; exact hB.eq)) : (decide (Dk.told ((Dk.restart d).2) = t1.take ((Dk.told ((Dk.restart d).2)).length))) = true))) rfl T_en7 (A0) (known_n _) ?_
                rintro _ w_12 ⟨rfl, hkp_4⟩; refine ⟨_, rfl, ?_⟩; have H_13 := H_12.keep hkp_4
                refine L_y rfl (Y_pickT (congrArg Value.bool ((decide_eq_true (by rw [Dk.told_re]; exact hB.eq)) : (decide (Dk.told ((Dk.restart d).2) = t1.take ((Dk.told ((Dk.restart d).2)).length))) = true))) ?_
                refine L_as rfl ?_
                refine L_nil ?_
                refine Th_n ?_
                refine W_ret ?_
                refine P_ret (vs := [Value.bool true]) (v := Value.bool true) rfl (.tmp rfl (Res.nil)) rfl ?_
                refine ⟨?_, H_13.nil_⟩
                rfl
            ·
              refine W_skip ?_
              refine Th_n ?_
              refine W_seq ?_
              refine W_rg ?_
              refine L_mv rfl ?_
              refine L_mv rfl ?_
              refine L_mv rfl ?_
              obtain ⟨el57, hel57⟩ := hT.at (j := i) (by omega)
              have gel57 := hg el57 (List.mem_of_getElem? hel57)
              have bel57 := gel57.big
              have lel57 := gel57.sl.len
              have hssel57 := Bs.sum_step hel57
              refine L_y rfl (Y_idxT (j := i) T_sl22 (hT.hp H_8) hel57 e_3_0 e_3_10 rfl) ?_
              refine L_y rfl (Y_ldT (j := i) (off := 0) T_scal23 (hT.hp H_8) hel57 rfl rfl rfl) ?_
              refine L_y rfl (Y_strL Try.underlying23 Try.underlying5 Try.underlying9 rfl (gel57.sl.hp H_8)) ?_
              refine L_y rfl (Y_addT (l1 := t1) (l2 := el57.l) (by omega) e_3_9 rfl) ?_
              refine L_as rfl ?_
              refine L_nil ?_
              refine Th_n ?_
              refine W_seq ?_
              refine W_rg ?_
              refine L_mv rfl ?_
              refine L_mv rfl ?_
              refine L_mv rfl ?_
              refine L_y rfl (Y_idxT (j := i) T_sl22 (hT.hp H_8) hel57 e_3_0 e_3_10 rfl) ?_
              refine L_y rfl (Y_ldT (j := i) (off := 0) T_scal23 (hT.hp H_8) hel57 rfl rfl rfl) ?_
              refine L_callv rfl rfl T_en11 (A2 e_3_7 rfl) (dAdd d hB.ok (Seen.old gel57.sl) gel57.lt H_8) ?_
              rintro _ w_13 ⟨v66, rfl, H_14⟩; refine ⟨_, rfl, ?_⟩
              refine L_y rfl (Y_eql (k := .i64) (a := (((Dk.add d el57.l).1 : Nat) : Int)) (b := ((0 : Nat) : Int)) rfl rfl) ?_
              refine L_nil ?_
              refine Th_n ?_
              refine W_cond (b := ((((Dk.add d el57.l).1 : Nat) : Int) == ((0 : Nat) : Int))) rfl (fun hc_5 => ?_) (fun hc_5 => ?_)
              ·
                have hc_5' := eq_of_beq hc_5
                refine W_rg ?_
                refine L_mv rfl ?_
                refine L_as rfl ?_
                refine L_nil ?_
                refine InB_n ?_
                refine Th_n ?_
                refine W_rg ?_
                refine L_mv rfl ?_
                refine L_y rfl (Y_add (k := .i64) (a := ((i : Nat) : Int)) (b := ((1 : Nat) : Int)) (z := ((i + 1 : Nat) : Int)) e_3_10 rfl (wi (by omega))) ?_
                refine L_as rfl ?_
                refine L_nil ?_
                refine Th_n ⟨_, ?_, (i + 1), _, _, _, _, rfl, e_3_0, e_3_7, rfl, rfl, rfl, H_14, (by first | exact hB.yes (by assumption) gel57.lt (by omega) (by first | assumption | omega) | exact hB.no (by assumption) gel57.lt (by omega) (by first | assumption | omega)), (by rw [List.length_append, htl, Bs.sum_snoc hel57]; omega), (by omega)⟩
                omega
              ·
                have hc_5' := ne_of_beq_false hc_5
                refine W_skip ?_
                refine InB_n ?_
                refine Th_n ?_
                refine W_rg ?_
                refine L_mv rfl ?_
                refine L_y rfl (Y_add (k := .i64) (a := ((i : Nat) : Int)) (b := ((1 : Nat) : Int)) (z := ((i + 1 : Nat) : Int)) e_3_10 rfl (wi (by omega))) ?_
                refine L_as rfl ?_
                refine L_nil ?_
                refine Th_n ⟨_, ?_, (i + 1), _, _, _, _, rfl, e_3_0, e_3_7, e_3_8, rfl, rfl, H_14, (by first | exact hB.yes (by assumption) gel57.lt (by omega) (by first | assumption | omega) | exact hB.no (by assumption) gel57.lt (by omega) (by first | assumption | omega)), (by rw [List.length_append, htl, Bs.sum_snoc hel57]; omega), (by omega)⟩
                omega
          ·
            have hc_3' := of_decide_eq_false hc_3
            refine W_exit ?_
            refine Th_x ?_
            refine Th_x ?_
            refine InB_hit ?_
            refine Th_n ?_
            refine W_seq ?_
            refine W_rg ?_
            refine L_mv rfl ?_
            refine L_callv rfl rfl T_en12 (A1 e_3_7) (dRestart d  hB.ok H_7) ?_
            rintro _ w_14 ⟨v70_2, rfl, H_15⟩; refine ⟨_, rfl, ?_⟩
            refine L_nil ?_
            refine Th_n ?_
            refine W_seq ?_
            refine W_rg ?_
            refine L_mv rfl ?_
            have H_16 : Hp w0 [] w_14 [Ent.blk b38 45 #[v70_2, Value.int .i64 (((Dk.restart d).2).left), Value.bool (((Dk.restart d).2).armed), Value.bool (((Dk.restart d).2).off)], Ent.own v70_2 5 1 ((((Dk.restart d).2).l).length) (us .u8 (((Dk.restart d).2).l))] := H_15.asL (i := 1) rfl (by rfl) rfl rfl
            refine L_callv rfl rfl T_en13 (A1 e_3_7) (dBytes ((Dk.restart d).2) (Dk.restart_ok hB.ok) H_16) ?_
            rintro _ w_15 ⟨v73_2, rfl, H_17⟩; refine ⟨_, rfl, ?_⟩
            have hq_2 := Dk.told_len (d := (Dk.restart d).2) (Dk.restart_ok hB.ok)
            refine L_mv rfl ?_
            refine L_y rfl (Y_ext rfl rfl) ?_
            refine L_y rfl (Y_ext rfl rfl) ?_
            refine L_as rfl ?_
            refine L_as rfl ?_
            refine L_nil ?_
            refine Th_n ?_
            refine W_seq ?_
            refine W_quiet H_17 23 [Value.int .i64 ((Dk.ready ((Dk.restart d).2) : Nat) : Int), Value.bool (((Dk.ready ((Dk.restart d).2) : Nat) : Int) == ((0 : Nat) : Int)), Value.bool (((Dk.ready ((Dk.restart d).2) : Nat) : Int) == ((0 : Nat) : Int)), v73_2, Value.int .i64 (((Dk.told ((Dk.restart d).2)).length : Nat) : Int), Value.string (bs s1), Value.int .i64 ((s1.length : Nat) : Int), Value.bool (decide (((s1.length : Nat) : Int) ≤ (((Dk.told ((Dk.restart d).2)).length : Nat) : Int))), Value.bool (decide (((s1.length : Nat) : Int) ≤ (((Dk.told ((Dk.restart d).2)).length : Nat) : Int))), Value.bool (decide (((s1.length : Nat) : Int) ≤ (((Dk.told ((Dk.restart d).2)).length : Nat) : Int))), v73_2, Value.int .i64 (((Dk.told ((Dk.restart d).2)).length : Nat) : Int), Value.string (bs t1), Value.int .i64 ((t1.length : Nat) : Int), Value.bool (decide ((((Dk.told ((Dk.restart d).2)).length : Nat) : Int) ≤ ((t1.length : Nat) : Int))), Value.bool (decide ((((Dk.told ((Dk.restart d).2)).length : Nat) : Int) ≤ ((t1.length : Nat) : Int))), Value.bool (decide ((((Dk.told ((Dk.restart d).2)).length : Nat) : Int) ≤ ((t1.length : Nat) : Int))), v73_2, Value.string (bs (Dk.told ((Dk.restart d).2))), Value.string (bs t1), v73_2, Value.int .i64 (((Dk.told ((Dk.restart d).2)).length : Nat) : Int), Value.string (bs (t1.take ((Dk.told ((Dk.restart d).2)).length)))] T_mixed (by kernel_rfl) ?_ ?_
            ·
              refine .plain rfl (Pl_y rfl (fun w hBw => rfl)) ?_
              refine .plain rfl (Pl_y rfl (fun w hBw => Y_eql (k := .i64) (a := ((Dk.ready ((Dk.restart d).2) : Nat) : Int)) (b := ((0 : Nat) : Int)) rfl rfl)) ?_
              refine .plain rfl (Pl_y rfl (fun w hBw => rfl)) ?_
              refine .plain rfl (Pl_y (wE rfl (congrArg Value.bool ((by rfl) : (((Dk.ready ((Dk.restart d).2) : Nat) : Int) == ((0 : Nat) : Int)) = true))) (fun w hBw => rfl)) ?_
              refine .plain rfl (Pl_y (wE rfl (congrArg Value.bool ((by rfl) : (((Dk.ready ((Dk.restart d).2) : Nat) : Int) == ((0 : Nat) : Int)) = true))) (fun w hBw => Y_lenO T_sl23 hBw (i := 0) rfl rfl)) ?_
              refine .plain rfl (Pl_y (wE rfl (congrArg Value.bool ((by rfl) : (((Dk.ready ((Dk.restart d).2) : Nat) : Int) == ((0 : Nat) : Int)) = true))) (fun w hBw => congrArg (fun v => Result.ok (Next.value v) w) e_3_8)) ?_
              refine .plain rfl (Pl_y (wE rfl (congrArg Value.bool ((by rfl) : (((Dk.ready ((Dk.restart d).2) : Nat) : Int) == ((0 : Nat) : Int)) = true))) (fun w hBw => Y_lenT (l := s1) Try.underlying9 rfl)) ?_
              refine .plain rfl (Pl_y (wE rfl (congrArg Value.bool ((by rfl) : (((Dk.ready ((Dk.restart d).2) : Nat) : Int) == ((0 : Nat) : Int)) = true))) (fun w hBw => Y_geq (k := .i64) (a := (((Dk.told ((Dk.restart d).2)).length : Nat) : Int)) (b := ((s1.length : Nat) : Int)) rfl rfl)) ?_
              refine .plain rfl (Pl_y rfl (fun w hBw => Y_pickT (congrArg Value.bool ((by rfl) : (((Dk.ready ((Dk.restart d).2) : Nat) : Int) == ((0 : Nat) : Int)) = true)))) ?_
              refine .plain rfl (Pl_y rfl (fun w hBw => rfl)) ?_
              refine .plain rfl (Pl_y (wE rfl (congrArg Value.bool ((decide_eq_true (by have := hB.slen; rw [Dk.told_re]; omega)) : (decide (((s1.length : Nat) : Int) ≤ (((Dk.told ((Dk.restart d).2)).length : Nat) : Int))) = true))) (fun w hBw => rfl)) ?_
              refine .plain rfl (Pl_y (wE rfl (congrArg Value.bool ((decide_eq_true (by have := hB.slen; rw [Dk.told_re]; omega)) : (decide (((s1.length : Nat) : Int) ≤ (((Dk.told ((Dk.restart d).2)).length : Nat) : Int))) = true))) (fun w hBw => Y_lenO T_sl23 hBw (i := 0) rfl rfl)) ?_
              refine .plain rfl (Pl_y (wE rfl (congrArg Value.bool ((decide_eq_true (by have := hB.slen; rw [Dk.told_re]; omega)) : (decide (((s1.length : Nat) : Int) ≤ (((Dk.told ((Dk.restart d).2)).length : Nat) : Int))) = true))) (fun w hBw => congrArg (fun v => Result.ok (Next.value v) w) e_3_9)) ?_
              refine .plain rfl (Pl_y (wE rfl (congrArg Value.bool ((decide_eq_true (by have := hB.slen; rw [Dk.told_re]; omega)) : (decide (((s1.length : Nat) : Int) ≤ (((Dk.told ((Dk.restart d).2)).length : Nat) : Int))) = true))) (fun w hBw => Y_lenT (l := t1) Try.underlying9 rfl)) ?_
              refine .plain rfl (Pl_y (wE rfl (congrArg Value.bool ((decide_eq_true (by have := hB.slen; rw [Dk.told_re]; omega)) : (decide (((s1.length : Nat) : Int) ≤ (((Dk.told ((Dk.restart d).2)).length : Nat) : Int))) = true))) (fun w hBw => Y_leq (k := .i64) (a := (((Dk.told ((Dk.restart d).2)).length : Nat) : Int)) (b := ((t1.length : Nat) : Int)) rfl rfl)) ?_
              refine .plain rfl (Pl_y rfl (fun w hBw => Y_pickT (congrArg Value.bool ((decide_eq_true (by have := hB.slen; rw [Dk.told_re]; omega)) : (decide (((s1.length : Nat) : Int) ≤ (((Dk.told ((Dk.restart d).2)).length : Nat) : Int))) = true)))) ?_
              refine .plain rfl (Pl_y rfl (fun w hBw => rfl)) ?_
              refine .plain rfl (Pl_y (wE rfl (congrArg Value.bool ((decide_eq_true (by have := hB.tlen; rw [Dk.told_re]; omega)) : (decide ((((Dk.told ((Dk.restart d).2)).length : Nat) : Int) ≤ ((t1.length : Nat) : Int))) = true))) (fun w hBw => rfl)) ?_
              refine .plain rfl (Pl_y (wE rfl (congrArg Value.bool ((decide_eq_true (by have := hB.tlen; rw [Dk.told_re]; omega)) : (decide ((((Dk.told ((Dk.restart d).2)).length : Nat) : Int) ≤ ((t1.length : Nat) : Int))) = true))) (fun w hBw => Y_strO Try.underlying23 Try.underlying5 Try.underlying9 hBw (i := 0) rfl rfl)) ?_
              refine .plain rfl (Pl_y (wE rfl (congrArg Value.bool ((decide_eq_true (by have := hB.tlen; rw [Dk.told_re]; omega)) : (decide ((((Dk.told ((Dk.restart d).2)).length : Nat) : Int) ≤ ((t1.length : Nat) : Int))) = true))) (fun w hBw => congrArg (fun v => Result.ok (Next.value v) w) e_3_9)) ?_
              refine .plain rfl (Pl_y (wE rfl (congrArg Value.bool ((decide_eq_true (by have := hB.tlen; rw [Dk.told_re]; omega)) : (decide ((((Dk.told ((Dk.restart d).2)).length : Nat) : Int) ≤ ((t1.length : Nat) : Int))) = true))) (fun w hBw => rfl)) ?_
              refine .plain rfl (Pl_y (wE rfl (congrArg Value.bool ((decide_eq_true (by have := hB.tlen; rw [Dk.told_re]; omega)) : (decide ((((Dk.told ((Dk.restart d).2)).length : Nat) : Int) ≤ ((t1.length : Nat) : Int))) = true))) (fun w hBw => Y_lenO T_sl23 hBw (i := 0) rfl rfl)) ?_
              refine .plain rfl (Pl_y (wE rfl (congrArg Value.bool ((decide_eq_true (by have := hB.tlen; rw [Dk.told_re]; omega)) : (decide ((((Dk.told ((Dk.restart d).2)).length : Nat) : Int) ≤ ((t1.length : Nat) : Int))) = true))) (fun w hBw => Y_cutT (l := t1) (h := (Dk.told ((Dk.restart d).2)).length) Try.underlying9 rfl rfl (by have := hB.tlen; rw [Dk.told_re]; omega))) ?_
              exact .nil _
            ·
              intro e_5 w_16 hAg H_18
              have e_5_92 : e_5 92 = Value.bool (decide ((((Dk.told ((Dk.restart d).2)).length : Nat) : Int) ≤ ((t1.length : Nat) : Int))) := (hAg 92 rfl).trans rfl
              have e_5_94 : e_5 94 = Value.string (bs (Dk.told ((Dk.restart d).2))) := (hAg 94 rfl).trans rfl
              have e_5_98 : e_5 98 = Value.string (bs (t1.take ((Dk.told ((Dk.restart d).2)).length))) := (hAg 98 rfl).trans rfl
              refine G_y (wE rfl (e_5_92.trans (congrArg Value.bool ((decide_eq_true (by have := hB.tlen; rw [Dk.told_re]; omega)) : (decide ((((Dk.told ((Dk.restart d).2)).length : Nat) : Int) ≤ ((t1.length : Nat) : Int))) = true)))) rfl (Y_eqT (l1 := Dk.told ((Dk.restart d).2)) (l2 := t1.take ((Dk.told ((Dk.restart d).2)).length)) Try.underlying9 (Dk.told_lt (Dk.restart_ok hB.ok)) (fun u hu => hB.lt u (List.mem_of_mem_take hu)) e_5_94 e_5_98) ?_
              refine L_y rfl (Y_pickT (e_5_92.trans (congrArg Value.bool ((decide_eq_true (by have := hB.tlen; rw [Dk.told_re]; omega)) : (decide ((((Dk.told ((Dk.restart d).2)).length : Nat) : Int) ≤ ((t1.length : Nat) : Int))) = true)))) ?_
              refine L_mv rfl ?_
              refine L_callv (wE rfl (congrArg Value.bool ((decide_eq_true (by rw [Dk.told_re]; exact hB.eq)) : (decide (Dk.told ((Dk.restart d).2) = t1.take ((Dk.told ((Dk.restart d).2)).length))) = true))) rfl T_en7 (A0) (known_n _) ?_
              rintro _ w_17 ⟨rfl, hkp_5⟩; refine ⟨_, rfl, ?_⟩; have H_19 := H_18.keep hkp_5
              refine L_y rfl (Y_pickT (congrArg Value.bool ((decide_eq_true (by rw [Dk.told_re]; exact hB.eq)) : (decide (Dk.told ((Dk.restart d).2) = t1.take ((Dk.told ((Dk.restart d).2)).length))) = true))) ?_
              refine L_as rfl ?_
              refine L_nil ?_
              refine Th_n ?_
              refine W_ret ?_
              refine P_ret (vs := [Value.bool true]) (v := Value.bool true) rfl (.tmp rfl (Res.nil)) rfl ?_
              refine ⟨?_, H_19.nil_⟩
              rfl
  ·
    have hb' := of_decide_eq_false hb
    refine G_no (wN (b := true) rfl (congrArg Value.bool hb)) rfl ?_
    refine G_no (wN (b := true) rfl (congrArg Value.bool hb)) rfl ?_
    refine L_y rfl (Y_pickF (congrArg Value.bool hb)) ?_
    refine L_nil ?_
    refine Th_n ?_
    refine W_false rfl ?_
    refine W_exit ?_
    refine Th_x ?_
    refine Th_x ?_
    refine InB_hit ?_
    refine Th_n ?_
    refine W_seq ?_
    refine W_seq ?_
    refine W_rg ?_
    refine L_mv rfl ?_
    refine L_y rfl (Y_lenS T_sl22 e_2_0) ?_
    refine L_y rfl (Y_gtr (k := .i64) (a := ((m : Nat) : Int)) (b := ((100 : Nat) : Int)) rfl rfl) ?_
    refine L_mv rfl ?_
    rcases Bool.eq_false_or_eq_true (decide (((100 : Nat) : Int) < ((m : Nat) : Int))) with hb_3 | hb_3
    ·
      have hb_3' := of_decide_eq_true hb_3
      refine G_no (wN (b := false) rfl (congrArg Value.bool hb_3)) rfl ?_
      refine G_no (wN (b := false) rfl (congrArg Value.bool hb_3)) rfl ?_
      refine L_y rfl (Y_pickT (congrArg Value.bool hb_3)) ?_
      refine L_nil ?_
      refine Th_n ?_
      refine W_true rfl ?_
      refine W_seq ?_
      refine W_rg ?_
      refine L_callv rfl rfl T_en7 (A0) (known_n _) ?_
      rintro _ w_18 ⟨rfl, hkp_6⟩; refine ⟨_, rfl, ?_⟩; have H_20 := H_2.keep hkp_6
      refine L_as rfl ?_
      refine L_nil ?_
      refine Th_n ?_
      refine W_ret ?_
      refine Th_r ?_
      refine P_ret (vs := [Value.bool true]) (v := Value.bool true) rfl (.tmp rfl (Res.nil)) rfl ?_
      refine ⟨?_, H_20.nil_⟩
      rfl
    ·
      have hb_3' := of_decide_eq_false hb_3
      refine G_mv (wE rfl (congrArg Value.bool hb_3)) rfl ?_
      refine G_y (wE rfl (congrArg Value.bool hb_3)) rfl (Y_gtr (k := .i64) (a := ((s0 : Nat) : Int)) (b := ((65536 : Nat) : Int)) e_2_5 rfl) ?_
      refine L_y rfl (Y_pickF (congrArg Value.bool hb_3)) ?_
      refine L_nil ?_
      refine Th_n ?_
      refine W_cond (b := (decide (((65536 : Nat) : Int) < ((s0 : Nat) : Int)))) rfl (fun hc_6 => ?_) (fun hc_6 => ?_)
      ·
        have hc_6' := of_decide_eq_true hc_6
        refine W_seq ?_
        refine W_rg ?_
        refine L_callv rfl rfl T_en7 (A0) (known_n _) ?_
        rintro _ w_19 ⟨rfl, hkp_7⟩; refine ⟨_, rfl, ?_⟩; have H_21 := H_2.keep hkp_7
        refine L_as rfl ?_
        refine L_nil ?_
        refine Th_n ?_
        refine W_ret ?_
        refine Th_r ?_
        refine P_ret (vs := [Value.bool true]) (v := Value.bool true) rfl (.tmp rfl (Res.nil)) rfl ?_
        refine ⟨?_, H_21.nil_⟩
        rfl
      ·
        have hsum : Bs.sum L ≤ 65536 := by have e1 : L.take i = L := List.take_of_length_le (by have := hT.len; have := of_decide_eq_false hc_6; omega); rw [e1] at hs; have := of_decide_eq_false hc_6; omega
        have hc_6' := of_decide_eq_false hc_6
        refine W_skip ?_
        refine Th_n ?_
        refine W_seq ?_
        refine W_rg ?_
        refine L_callv rfl rfl T_en8 (A0) (dNew H_2) ?_
        rintro _ w_20 ⟨b38_2, v38_2, rfl, H_22⟩; refine ⟨_, rfl, ?_⟩
        refine L_as rfl ?_
        refine L_nil ?_
        refine Th_n ?_
        refine W_seq ?_
        refine W_seq ?_
        refine W_rg ?_
        refine L_mv rfl ?_
        refine L_mv rfl ?_
        refine L_y rfl (Y_convI (k := .i64) (n := arm) (z := ((un arm : Nat) : Int)) T_some3 T_kind29 e_2_1 (un_wrap _)) ?_
        refine L_yr (z := (un arm) % 65536) (m := 18446744073709551616) rfl (Yu_rem (k := .u64) (un arm) 65536 rfl rfl (by decide)) (Nat.lt_of_le_of_lt (Nat.mod_le _ _) (un_lt _)) ?_; intro x42_2 hx42_2 rx42_2
        refine L_y rfl (Y_convI (k := .u64) (n := ((x42_2 : Nat) : Int)) (z := ((x42_2 : Nat) : Int)) T_some29 T_kind3 rfl (wi (by exact ⟨rfl, by omega, by have := rx42_2; omega⟩))) ?_
        refine L_callv rfl rfl T_en9 (A2 rfl rfl) (dArm Dk.new ((x42_2 : Nat) : Int) Dk.new_ok H_22) ?_
        rintro _ w_21 ⟨v44_2, rfl, H_23⟩; refine ⟨_, rfl, ?_⟩
        refine L_y rfl (Y_neq (k := .i64) (a := (((Dk.arm Dk.new ((x42_2 : Nat) : Int)).1 : Nat) : Int)) (b := ((0 : Nat) : Int)) rfl rfl) ?_
        refine L_nil ?_
        refine Th_n ?_
        refine W_false (congrArg Value.bool ((by rw [Dk.arm0 (by omega)]; rfl) : ((((Dk.arm Dk.new ((x42_2 : Nat) : Int)).1 : Nat) : Int) != ((0 : Nat) : Int)) = false)) ?_
        refine W_skip ?_
        refine Th_n ?_
        refine W_seq ?_
        refine W_rg ?_
        refine L_as rfl ?_
        refine L_nil ?_
        refine Th_n ?_
        refine W_seq ?_
        refine W_rg ?_
        refine L_as rfl ?_
        refine L_nil ?_
        refine Th_n ?_
        refine W_seq ?_
        refine W_seq ?_
        refine W_rg ?_
        refine L_as rfl ?_
        refine L_nil ?_
        refine Th_n ?_
        refine W_block ?_
        refine W_loop (fun mu_ e w => ∃ i : Nat, ∃ vd : Value, ∃ d : Dk.D, ∃ s1 : List Nat, ∃ t1 : List Nat, mu_ = m - i ∧ e 0 = Value.slice a m c ∧ e 7 = Value.pointer (some ⟨b38_2, 0, none⟩) ∧ e 8 = Value.string (bs s1) ∧ e 9 = Value.string (bs t1) ∧ e 10 = Value.int .i64 ((i : Nat) : Int) ∧ Hp w0 [] w [Ent.blk b38_2 45 #[vd, Value.int .i64 (d.left), Value.bool d.armed, Value.bool d.off], Ent.own vd 5 1 d.l.length (us .u8 d.l)] ∧ Dk.Beg d s1 t1 ∧ t1.length = Bs.sum (L.take i) ∧ i ≤ m) _ ⟨0, _, _, [], [], rfl, e_2_0, rfl, (by kernel_rfl), (by kernel_rfl), rfl, H_23, (Dk.beg0 (by omega) (by omega) (by omega)), rfl, (Nat.zero_le _)⟩ ?_
        rintro mu_ e_6 w_22 ⟨i, vd, d, s1, t1, rfl, e_6_0, e_6_7, e_6_8, e_6_9, e_6_10, H_24, hB, htl, hi⟩
        refine W_seq ?_
        refine W_seq ?_
        refine W_rg ?_
        refine L_mv rfl ?_
        refine L_mv rfl ?_
        refine L_y rfl (Y_lenS T_sl22 e_6_0) ?_
        refine L_y rfl (Y_lss (k := .i64) (a := ((i : Nat) : Int)) (b := ((m : Nat) : Int)) e_6_10 rfl) ?_
        refine L_nil ?_
        refine Th_n ?_
        refine W_cond (b := (decide (((i : Nat) : Int) < ((m : Nat) : Int)))) rfl (fun hc_7 => ?_) (fun hc_7 => ?_)
        ·
          have hc_7' := of_decide_eq_true hc_7
          refine W_skip ?_
          refine Th_n ?_
          refine W_seq ?_
          refine W_block ?_
          refine W_seq ?_
          refine W_seq ?_
          refine W_rg ?_
          refine L_mv rfl ?_
          refine L_callv rfl rfl T_en10 (A1 e_6_7) (dDown d H_24) ?_
          rintro _ w_23 ⟨rfl, hkp_8⟩; refine ⟨_, rfl, ?_⟩; have H_25 := H_24.keep hkp_8
          refine L_nil ?_
          refine Th_n ?_
          refine W_cond (b := d.off) rfl (fun hc_8 => ?_) (fun hc_8 => ?_)
          ·
            refine W_exit ?_
            refine Th_x ?_
            refine InB_miss rfl ?_
            refine Th_x ?_
            refine Th_x ?_
            refine InB_hit ?_
            refine Th_n ?_
            refine W_seq ?_
            refine W_rg ?_
            refine L_mv rfl ?_
            refine L_callv rfl rfl T_en12 (A1 e_6_7) (dRestart d  hB.ok H_25) ?_
            rintro _ w_24 ⟨v70_3, rfl, H_26⟩; refine ⟨_, rfl, ?_⟩
            refine L_nil ?_
            refine Th_n ?_
            refine W_seq ?_
            refine W_rg ?_
            refine L_mv rfl ?_
            have H_27 : Hp w0 [] w_24 [Ent.blk b38_2 45 #[v70_3, Value.int .i64 (((Dk.restart d).2).left), Value.bool (((Dk.restart d).2).armed), Value.bool (((Dk.restart d).2).off)], Ent.own v70_3 5 1 ((((Dk.restart d).2).l).length) (us .u8 (((Dk.restart d).2).l))] := H_26.asL (i := 1) rfl (by rfl) rfl rfl
            refine L_callv rfl rfl T_en13 (A1 e_6_7) (dBytes ((Dk.restart d).2) (Dk.restart_ok hB.ok) H_27) ?_
            rintro _ w_25 ⟨v73_3, rfl, H_28⟩; refine ⟨_, rfl, ?_⟩
            have hq_3 := Dk.told_len (d := (Dk.restart d).2) (Dk.restart_ok hB.ok)
            refine L_mv rfl ?_
            refine L_y rfl (Y_ext rfl rfl) ?_
            refine L_y rfl (Y_ext rfl rfl) ?_
            refine L_as rfl ?_
            refine L_as rfl ?_
            refine L_nil ?_
            refine Th_n ?_
            refine W_seq ?_
            refine W_quiet H_28 23 [Value.int .i64 ((Dk.ready ((Dk.restart d).2) : Nat) : Int), Value.bool (((Dk.ready ((Dk.restart d).2) : Nat) : Int) == ((0 : Nat) : Int)), Value.bool (((Dk.ready ((Dk.restart d).2) : Nat) : Int) == ((0 : Nat) : Int)), v73_3, Value.int .i64 (((Dk.told ((Dk.restart d).2)).length : Nat) : Int), Value.string (bs s1), Value.int .i64 ((s1.length : Nat) : Int), Value.bool (decide (((s1.length : Nat) : Int) ≤ (((Dk.told ((Dk.restart d).2)).length : Nat) : Int))), Value.bool (decide (((s1.length : Nat) : Int) ≤ (((Dk.told ((Dk.restart d).2)).length : Nat) : Int))), Value.bool (decide (((s1.length : Nat) : Int) ≤ (((Dk.told ((Dk.restart d).2)).length : Nat) : Int))), v73_3, Value.int .i64 (((Dk.told ((Dk.restart d).2)).length : Nat) : Int), Value.string (bs t1), Value.int .i64 ((t1.length : Nat) : Int), Value.bool (decide ((((Dk.told ((Dk.restart d).2)).length : Nat) : Int) ≤ ((t1.length : Nat) : Int))), Value.bool (decide ((((Dk.told ((Dk.restart d).2)).length : Nat) : Int) ≤ ((t1.length : Nat) : Int))), Value.bool (decide ((((Dk.told ((Dk.restart d).2)).length : Nat) : Int) ≤ ((t1.length : Nat) : Int))), v73_3, Value.string (bs (Dk.told ((Dk.restart d).2))), Value.string (bs t1), v73_3, Value.int .i64 (((Dk.told ((Dk.restart d).2)).length : Nat) : Int), Value.string (bs (t1.take ((Dk.told ((Dk.restart d).2)).length)))] T_mixed (by kernel_rfl) ?_ ?_
            ·
              refine .plain rfl (Pl_y rfl (fun w hBw => rfl)) ?_
              refine .plain rfl (Pl_y rfl (fun w hBw => Y_eql (k := .i64) (a := ((Dk.ready ((Dk.restart d).2) : Nat) : Int)) (b := ((0 : Nat) : Int)) rfl rfl)) ?_
              refine .plain rfl (Pl_y rfl (fun w hBw => rfl)) ?_
              refine .plain rfl (Pl_y (wE rfl (congrArg Value.bool ((by rfl) : (((Dk.ready ((Dk.restart d).2) : Nat) : Int) == ((0 : Nat) : Int)) = true))) (fun w hBw => rfl)) ?_
              refine .plain rfl (Pl_y (wE rfl (congrArg Value.bool ((by rfl) : (((Dk.ready ((Dk.restart d).2) : Nat) : Int) == ((0 : Nat) : Int)) = true))) (fun w hBw => Y_lenO T_sl23 hBw (i := 0) rfl rfl)) ?_
              refine .plain rfl (Pl_y (wE rfl (congrArg Value.bool ((by rfl) : (((Dk.ready ((Dk.restart d).2) : Nat) : Int) == ((0 : Nat) : Int)) = true))) (fun w hBw => congrArg (fun v => Result.ok (Next.value v) w) e_6_8)) ?_
              refine .plain rfl (Pl_y (wE rfl (congrArg Value.bool ((by rfl) : (((Dk.ready ((Dk.restart d).2) : Nat) : Int) == ((0 : Nat) : Int)) = true))) (fun w hBw => Y_lenT (l := s1) Try.underlying9 rfl)) ?_
              refine .plain rfl (Pl_y (wE rfl (congrArg Value.bool ((by rfl) : (((Dk.ready ((Dk.restart d).2) : Nat) : Int) == ((0 : Nat) : Int)) = true))) (fun w hBw => Y_geq (k := .i64) (a := (((Dk.told ((Dk.restart d).2)).length : Nat) : Int)) (b := ((s1.length : Nat) : Int)) rfl rfl)) ?_
              refine .plain rfl (Pl_y rfl (fun w hBw => Y_pickT (congrArg Value.bool ((by rfl) : (((Dk.ready ((Dk.restart d).2) : Nat) : Int) == ((0 : Nat) : Int)) = true)))) ?_
              refine .plain rfl (Pl_y rfl (fun w hBw => rfl)) ?_
              refine .plain rfl (Pl_y (wE rfl (congrArg Value.bool ((decide_eq_true (by have := hB.slen; rw [Dk.told_re]; omega)) : (decide (((s1.length : Nat) : Int) ≤ (((Dk.told ((Dk.restart d).2)).length : Nat) : Int))) = true))) (fun w hBw => rfl)) ?_
              refine .plain rfl (Pl_y (wE rfl (congrArg Value.bool ((decide_eq_true (by have := hB.slen; rw [Dk.told_re]; omega)) : (decide (((s1.length : Nat) : Int) ≤ (((Dk.told ((Dk.restart d).2)).length : Nat) : Int))) = true))) (fun w hBw => Y_lenO T_sl23 hBw (i := 0) rfl rfl)) ?_
              refine .plain rfl (Pl_y (wE rfl (congrArg Value.bool ((decide_eq_true (by have := hB.slen; rw [Dk.told_re]; omega)) : (decide (((s1.length : Nat) : Int) ≤ (((Dk.told ((Dk.restart d).2)).length : Nat) : Int))) = true))) (fun w hBw => congrArg (fun v => Result.ok (Next.value v) w) e_6_9)) ?_
              refine .plain rfl (Pl_y (wE rfl (congrArg Value.bool ((decide_eq_true (by have := hB.slen; rw [Dk.told_re]; omega)) : (decide (((s1.length : Nat) : Int) ≤ (((Dk.told ((Dk.restart d).2)).length : Nat) : Int))) = true))) (fun w hBw => Y_lenT (l := t1) Try.underlying9 rfl)) ?_
              refine .plain rfl (Pl_y (wE rfl (congrArg Value.bool ((decide_eq_true (by have := hB.slen; rw [Dk.told_re]; omega)) : (decide (((s1.length : Nat) : Int) ≤ (((Dk.told ((Dk.restart d).2)).length : Nat) : Int))) = true))) (fun w hBw => Y_leq (k := .i64) (a := (((Dk.told ((Dk.restart d).2)).length : Nat) : Int)) (b := ((t1.length : Nat) : Int)) rfl rfl)) ?_
              refine .plain rfl (Pl_y rfl (fun w hBw => Y_pickT (congrArg Value.bool ((decide_eq_true (by have := hB.slen; rw [Dk.told_re]; omega)) : (decide (((s1.length : Nat) : Int) ≤ (((Dk.told ((Dk.restart d).2)).length : Nat) : Int))) = true)))) ?_
              refine .plain rfl (Pl_y rfl (fun w hBw => rfl)) ?_
              refine .plain rfl (Pl_y (wE rfl (congrArg Value.bool ((decide_eq_true (by have := hB.tlen; rw [Dk.told_re]; omega)) : (decide ((((Dk.told ((Dk.restart d).2)).length : Nat) : Int) ≤ ((t1.length : Nat) : Int))) = true))) (fun w hBw => rfl)) ?_
              refine .plain rfl (Pl_y (wE rfl (congrArg Value.bool ((decide_eq_true (by have := hB.tlen; rw [Dk.told_re]; omega)) : (decide ((((Dk.told ((Dk.restart d).2)).length : Nat) : Int) ≤ ((t1.length : Nat) : Int))) = true))) (fun w hBw => Y_strO Try.underlying23 Try.underlying5 Try.underlying9 hBw (i := 0) rfl rfl)) ?_
              refine .plain rfl (Pl_y (wE rfl (congrArg Value.bool ((decide_eq_true (by have := hB.tlen; rw [Dk.told_re]; omega)) : (decide ((((Dk.told ((Dk.restart d).2)).length : Nat) : Int) ≤ ((t1.length : Nat) : Int))) = true))) (fun w hBw => congrArg (fun v => Result.ok (Next.value v) w) e_6_9)) ?_
              refine .plain rfl (Pl_y (wE rfl (congrArg Value.bool ((decide_eq_true (by have := hB.tlen; rw [Dk.told_re]; omega)) : (decide ((((Dk.told ((Dk.restart d).2)).length : Nat) : Int) ≤ ((t1.length : Nat) : Int))) = true))) (fun w hBw => rfl)) ?_
              refine .plain rfl (Pl_y (wE rfl (congrArg Value.bool ((decide_eq_true (by have := hB.tlen; rw [Dk.told_re]; omega)) : (decide ((((Dk.told ((Dk.restart d).2)).length : Nat) : Int) ≤ ((t1.length : Nat) : Int))) = true))) (fun w hBw => Y_lenO T_sl23 hBw (i := 0) rfl rfl)) ?_
              refine .plain rfl (Pl_y (wE rfl (congrArg Value.bool ((decide_eq_true (by have := hB.tlen; rw [Dk.told_re]; omega)) : (decide ((((Dk.told ((Dk.restart d).2)).length : Nat) : Int) ≤ ((t1.length : Nat) : Int))) = true))) (fun w hBw => Y_cutT (l := t1) (h := (Dk.told ((Dk.restart d).2)).length) Try.underlying9 rfl rfl (by have := hB.tlen; rw [Dk.told_re]; omega))) ?_
              exact .nil _
            ·
              intro e_7 w_26 hAg H_29
              have e_7_92 : e_7 92 = Value.bool (decide ((((Dk.told ((Dk.restart d).2)).length : Nat) : Int) ≤ ((t1.length : Nat) : Int))) := (hAg 92 rfl).trans rfl
              have e_7_94 : e_7 94 = Value.string (bs (Dk.told ((Dk.restart d).2))) := (hAg 94 rfl).trans rfl
              have e_7_98 : e_7 98 = Value.string (bs (t1.take ((Dk.told ((Dk.restart d).2)).length))) := (hAg 98 rfl).trans rfl
              refine G_y (wE rfl (e_7_92.trans (congrArg Value.bool ((decide_eq_true (by have := hB.tlen; rw [Dk.told_re]; omega)) : (decide ((((Dk.told ((Dk.restart d).2)).length : Nat) : Int) ≤ ((t1.length : Nat) : Int))) = true)))) rfl (Y_eqT (l1 := Dk.told ((Dk.restart d).2)) (l2 := t1.take ((Dk.told ((Dk.restart d).2)).length)) Try.underlying9 (Dk.told_lt (Dk.restart_ok hB.ok)) (fun u hu => hB.lt u (List.mem_of_mem_take hu)) e_7_94 e_7_98) ?_
              refine L_y rfl (Y_pickT (e_7_92.trans (congrArg Value.bool ((decide_eq_true (by have := hB.tlen; rw [Dk.told_re]; omega)) : (decide ((((Dk.told ((Dk.restart d).2)).length : Nat) : Int) ≤ ((t1.length : Nat) : Int))) = true)))) ?_
              refine L_mv rfl ?_
              refine L_callv (wE rfl (congrArg Value.bool ((decide_eq_true (by rw [Dk.told_re]; exact hB.eq)) : (decide (Dk.told ((Dk.restart d).2) = t1.take ((Dk.told ((Dk.restart d).2)).length))) = true))) rfl T_en7 (A0) (known_n _) ?_
              rintro _ w_27 ⟨rfl, hkp_9⟩; refine ⟨_, rfl, ?_⟩; have H_30 := H_29.keep hkp_9
              refine L_y rfl (Y_pickT (congrArg Value.bool ((decide_eq_true (by rw [Dk.told_re]; exact hB.eq)) : (decide (Dk.told ((Dk.restart d).2) = t1.take ((Dk.told ((Dk.restart d).2)).length))) = true))) ?_
              refine L_as rfl ?_
              refine L_nil ?_
              refine Th_n ?_
              refine W_ret ?_
              refine P_ret (vs := [Value.bool true]) (v := Value.bool true) rfl (.tmp rfl (Res.nil)) rfl ?_
              refine ⟨?_, H_30.nil_⟩
              rfl
          ·
            refine W_skip ?_
            refine Th_n ?_
            refine W_seq ?_
            refine W_rg ?_
            refine L_mv rfl ?_
            refine L_mv rfl ?_
            refine L_mv rfl ?_
            obtain ⟨el57_2, hel57_2⟩ := hT.at (j := i) (by omega)
            have gel57_2 := hg el57_2 (List.mem_of_getElem? hel57_2)
            have bel57_2 := gel57_2.big
            have lel57_2 := gel57_2.sl.len
            have hssel57_2 := Bs.sum_step hel57_2
            refine L_y rfl (Y_idxT (j := i) T_sl22 (hT.hp H_25) hel57_2 e_6_0 e_6_10 rfl) ?_
            refine L_y rfl (Y_ldT (j := i) (off := 0) T_scal23 (hT.hp H_25) hel57_2 rfl rfl rfl) ?_
            refine L_y rfl (Y_strL Try.underlying23 Try.underlying5 Try.underlying9 rfl (gel57_2.sl.hp H_25)) ?_
            refine L_y rfl (Y_addT (l1 := t1) (l2 := el57_2.l) (by omega) e_6_9 rfl) ?_
            refine L_as rfl ?_
            refine L_nil ?_
            refine Th_n ?_
            refine W_seq ?_
            refine W_rg ?_
            refine L_mv rfl ?_
            refine L_mv rfl ?_
            refine L_mv rfl ?_
            refine L_y rfl (Y_idxT (j := i) T_sl22 (hT.hp H_25) hel57_2 e_6_0 e_6_10 rfl) ?_
            refine L_y rfl (Y_ldT (j := i) (off := 0) T_scal23 (hT.hp H_25) hel57_2 rfl rfl rfl) ?_
            refine L_callv rfl rfl T_en11 (A2 e_6_7 rfl) (dAdd d hB.ok (Seen.old gel57_2.sl) gel57_2.lt H_25) ?_
            rintro _ w_28 ⟨v66_2, rfl, H_31⟩; refine ⟨_, rfl, ?_⟩
            refine L_y rfl (Y_eql (k := .i64) (a := (((Dk.add d el57_2.l).1 : Nat) : Int)) (b := ((0 : Nat) : Int)) rfl rfl) ?_
            refine L_nil ?_
            refine Th_n ?_
            refine W_cond (b := ((((Dk.add d el57_2.l).1 : Nat) : Int) == ((0 : Nat) : Int))) rfl (fun hc_9 => ?_) (fun hc_9 => ?_)
            ·
              have hc_9' := eq_of_beq hc_9
              refine W_rg ?_
              refine L_mv rfl ?_
              refine L_as rfl ?_
              refine L_nil ?_
              refine InB_n ?_
              refine Th_n ?_
              refine W_rg ?_
              refine L_mv rfl ?_
              refine L_y rfl (Y_add (k := .i64) (a := ((i : Nat) : Int)) (b := ((1 : Nat) : Int)) (z := ((i + 1 : Nat) : Int)) e_6_10 rfl (wi (by omega))) ?_
              refine L_as rfl ?_
              refine L_nil ?_
              refine Th_n ⟨_, ?_, (i + 1), _, _, _, _, rfl, e_6_0, e_6_7, rfl, rfl, rfl, H_31, (by first | exact hB.yes (by assumption) gel57_2.lt (by omega) (by first | assumption | omega) | exact hB.no (by assumption) gel57_2.lt (by omega) (by first | assumption | omega)), (by rw [List.length_append, htl, Bs.sum_snoc hel57_2]; omega), (by omega)⟩
              omega
            ·
              have hc_9' := ne_of_beq_false hc_9
              refine W_skip ?_
              refine InB_n ?_
              refine Th_n ?_
              refine W_rg ?_
              refine L_mv rfl ?_
              refine L_y rfl (Y_add (k := .i64) (a := ((i : Nat) : Int)) (b := ((1 : Nat) : Int)) (z := ((i + 1 : Nat) : Int)) e_6_10 rfl (wi (by omega))) ?_
              refine L_as rfl ?_
              refine L_nil ?_
              refine Th_n ⟨_, ?_, (i + 1), _, _, _, _, rfl, e_6_0, e_6_7, e_6_8, rfl, rfl, H_31, (by first | exact hB.yes (by assumption) gel57_2.lt (by omega) (by first | assumption | omega) | exact hB.no (by assumption) gel57_2.lt (by omega) (by first | assumption | omega)), (by rw [List.length_append, htl, Bs.sum_snoc hel57_2]; omega), (by omega)⟩
              omega
        ·
          have hc_7' := of_decide_eq_false hc_7
          refine W_exit ?_
          refine Th_x ?_
          refine Th_x ?_
          refine InB_hit ?_
          refine Th_n ?_
          refine W_seq ?_
          refine W_rg ?_
          refine L_mv rfl ?_
          refine L_callv rfl rfl T_en12 (A1 e_6_7) (dRestart d  hB.ok H_24) ?_
          rintro _ w_29 ⟨v70_4, rfl, H_32⟩; refine ⟨_, rfl, ?_⟩
          refine L_nil ?_
          refine Th_n ?_
          refine W_seq ?_
          refine W_rg ?_
          refine L_mv rfl ?_
          have H_33 : Hp w0 [] w_29 [Ent.blk b38_2 45 #[v70_4, Value.int .i64 (((Dk.restart d).2).left), Value.bool (((Dk.restart d).2).armed), Value.bool (((Dk.restart d).2).off)], Ent.own v70_4 5 1 ((((Dk.restart d).2).l).length) (us .u8 (((Dk.restart d).2).l))] := H_32.asL (i := 1) rfl (by rfl) rfl rfl
          refine L_callv rfl rfl T_en13 (A1 e_6_7) (dBytes ((Dk.restart d).2) (Dk.restart_ok hB.ok) H_33) ?_
          rintro _ w_30 ⟨v73_4, rfl, H_34⟩; refine ⟨_, rfl, ?_⟩
          have hq_4 := Dk.told_len (d := (Dk.restart d).2) (Dk.restart_ok hB.ok)
          refine L_mv rfl ?_
          refine L_y rfl (Y_ext rfl rfl) ?_
          refine L_y rfl (Y_ext rfl rfl) ?_
          refine L_as rfl ?_
          refine L_as rfl ?_
          refine L_nil ?_
          refine Th_n ?_
          refine W_seq ?_
          refine W_quiet H_34 23 [Value.int .i64 ((Dk.ready ((Dk.restart d).2) : Nat) : Int), Value.bool (((Dk.ready ((Dk.restart d).2) : Nat) : Int) == ((0 : Nat) : Int)), Value.bool (((Dk.ready ((Dk.restart d).2) : Nat) : Int) == ((0 : Nat) : Int)), v73_4, Value.int .i64 (((Dk.told ((Dk.restart d).2)).length : Nat) : Int), Value.string (bs s1), Value.int .i64 ((s1.length : Nat) : Int), Value.bool (decide (((s1.length : Nat) : Int) ≤ (((Dk.told ((Dk.restart d).2)).length : Nat) : Int))), Value.bool (decide (((s1.length : Nat) : Int) ≤ (((Dk.told ((Dk.restart d).2)).length : Nat) : Int))), Value.bool (decide (((s1.length : Nat) : Int) ≤ (((Dk.told ((Dk.restart d).2)).length : Nat) : Int))), v73_4, Value.int .i64 (((Dk.told ((Dk.restart d).2)).length : Nat) : Int), Value.string (bs t1), Value.int .i64 ((t1.length : Nat) : Int), Value.bool (decide ((((Dk.told ((Dk.restart d).2)).length : Nat) : Int) ≤ ((t1.length : Nat) : Int))), Value.bool (decide ((((Dk.told ((Dk.restart d).2)).length : Nat) : Int) ≤ ((t1.length : Nat) : Int))), Value.bool (decide ((((Dk.told ((Dk.restart d).2)).length : Nat) : Int) ≤ ((t1.length : Nat) : Int))), v73_4, Value.string (bs (Dk.told ((Dk.restart d).2))), Value.string (bs t1), v73_4, Value.int .i64 (((Dk.told ((Dk.restart d).2)).length : Nat) : Int), Value.string (bs (t1.take ((Dk.told ((Dk.restart d).2)).length)))] T_mixed (by kernel_rfl) ?_ ?_
          ·
            refine .plain rfl (Pl_y rfl (fun w hBw => rfl)) ?_
            refine .plain rfl (Pl_y rfl (fun w hBw => Y_eql (k := .i64) (a := ((Dk.ready ((Dk.restart d).2) : Nat) : Int)) (b := ((0 : Nat) : Int)) rfl rfl)) ?_
            refine .plain rfl (Pl_y rfl (fun w hBw => rfl)) ?_
            refine .plain rfl (Pl_y (wE rfl (congrArg Value.bool ((by rfl) : (((Dk.ready ((Dk.restart d).2) : Nat) : Int) == ((0 : Nat) : Int)) = true))) (fun w hBw => rfl)) ?_
            refine .plain rfl (Pl_y (wE rfl (congrArg Value.bool ((by rfl) : (((Dk.ready ((Dk.restart d).2) : Nat) : Int) == ((0 : Nat) : Int)) = true))) (fun w hBw => Y_lenO T_sl23 hBw (i := 0) rfl rfl)) ?_
            refine .plain rfl (Pl_y (wE rfl (congrArg Value.bool ((by rfl) : (((Dk.ready ((Dk.restart d).2) : Nat) : Int) == ((0 : Nat) : Int)) = true))) (fun w hBw => congrArg (fun v => Result.ok (Next.value v) w) e_6_8)) ?_
            refine .plain rfl (Pl_y (wE rfl (congrArg Value.bool ((by rfl) : (((Dk.ready ((Dk.restart d).2) : Nat) : Int) == ((0 : Nat) : Int)) = true))) (fun w hBw => Y_lenT (l := s1) Try.underlying9 rfl)) ?_
            refine .plain rfl (Pl_y (wE rfl (congrArg Value.bool ((by rfl) : (((Dk.ready ((Dk.restart d).2) : Nat) : Int) == ((0 : Nat) : Int)) = true))) (fun w hBw => Y_geq (k := .i64) (a := (((Dk.told ((Dk.restart d).2)).length : Nat) : Int)) (b := ((s1.length : Nat) : Int)) rfl rfl)) ?_
            refine .plain rfl (Pl_y rfl (fun w hBw => Y_pickT (congrArg Value.bool ((by rfl) : (((Dk.ready ((Dk.restart d).2) : Nat) : Int) == ((0 : Nat) : Int)) = true)))) ?_
            refine .plain rfl (Pl_y rfl (fun w hBw => rfl)) ?_
            refine .plain rfl (Pl_y (wE rfl (congrArg Value.bool ((decide_eq_true (by have := hB.slen; rw [Dk.told_re]; omega)) : (decide (((s1.length : Nat) : Int) ≤ (((Dk.told ((Dk.restart d).2)).length : Nat) : Int))) = true))) (fun w hBw => rfl)) ?_
            refine .plain rfl (Pl_y (wE rfl (congrArg Value.bool ((decide_eq_true (by have := hB.slen; rw [Dk.told_re]; omega)) : (decide (((s1.length : Nat) : Int) ≤ (((Dk.told ((Dk.restart d).2)).length : Nat) : Int))) = true))) (fun w hBw => Y_lenO T_sl23 hBw (i := 0) rfl rfl)) ?_
            refine .plain rfl (Pl_y (wE rfl (congrArg Value.bool ((decide_eq_true (by have := hB.slen; rw [Dk.told_re]; omega)) : (decide (((s1.length : Nat) : Int) ≤ (((Dk.told ((Dk.restart d).2)).length : Nat) : Int))) = true))) (fun w hBw => congrArg (fun v => Result.ok (Next.value v) w) e_6_9)) ?_
            refine .plain rfl (Pl_y (wE rfl (congrArg Value.bool ((decide_eq_true (by have := hB.slen; rw [Dk.told_re]; omega)) : (decide (((s1.length : Nat) : Int) ≤ (((Dk.told ((Dk.restart d).2)).length : Nat) : Int))) = true))) (fun w hBw => Y_lenT (l := t1) Try.underlying9 rfl)) ?_
            refine .plain rfl (Pl_y (wE rfl (congrArg Value.bool ((decide_eq_true (by have := hB.slen; rw [Dk.told_re]; omega)) : (decide (((s1.length : Nat) : Int) ≤ (((Dk.told ((Dk.restart d).2)).length : Nat) : Int))) = true))) (fun w hBw => Y_leq (k := .i64) (a := (((Dk.told ((Dk.restart d).2)).length : Nat) : Int)) (b := ((t1.length : Nat) : Int)) rfl rfl)) ?_
            refine .plain rfl (Pl_y rfl (fun w hBw => Y_pickT (congrArg Value.bool ((decide_eq_true (by have := hB.slen; rw [Dk.told_re]; omega)) : (decide (((s1.length : Nat) : Int) ≤ (((Dk.told ((Dk.restart d).2)).length : Nat) : Int))) = true)))) ?_
            refine .plain rfl (Pl_y rfl (fun w hBw => rfl)) ?_
            refine .plain rfl (Pl_y (wE rfl (congrArg Value.bool ((decide_eq_true (by have := hB.tlen; rw [Dk.told_re]; omega)) : (decide ((((Dk.told ((Dk.restart d).2)).length : Nat) : Int) ≤ ((t1.length : Nat) : Int))) = true))) (fun w hBw => rfl)) ?_
            refine .plain rfl (Pl_y (wE rfl (congrArg Value.bool ((decide_eq_true (by have := hB.tlen; rw [Dk.told_re]; omega)) : (decide ((((Dk.told ((Dk.restart d).2)).length : Nat) : Int) ≤ ((t1.length : Nat) : Int))) = true))) (fun w hBw => Y_strO Try.underlying23 Try.underlying5 Try.underlying9 hBw (i := 0) rfl rfl)) ?_
            refine .plain rfl (Pl_y (wE rfl (congrArg Value.bool ((decide_eq_true (by have := hB.tlen; rw [Dk.told_re]; omega)) : (decide ((((Dk.told ((Dk.restart d).2)).length : Nat) : Int) ≤ ((t1.length : Nat) : Int))) = true))) (fun w hBw => congrArg (fun v => Result.ok (Next.value v) w) e_6_9)) ?_
            refine .plain rfl (Pl_y (wE rfl (congrArg Value.bool ((decide_eq_true (by have := hB.tlen; rw [Dk.told_re]; omega)) : (decide ((((Dk.told ((Dk.restart d).2)).length : Nat) : Int) ≤ ((t1.length : Nat) : Int))) = true))) (fun w hBw => rfl)) ?_
            refine .plain rfl (Pl_y (wE rfl (congrArg Value.bool ((decide_eq_true (by have := hB.tlen; rw [Dk.told_re]; omega)) : (decide ((((Dk.told ((Dk.restart d).2)).length : Nat) : Int) ≤ ((t1.length : Nat) : Int))) = true))) (fun w hBw => Y_lenO T_sl23 hBw (i := 0) rfl rfl)) ?_
            refine .plain rfl (Pl_y (wE rfl (congrArg Value.bool ((decide_eq_true (by have := hB.tlen; rw [Dk.told_re]; omega)) : (decide ((((Dk.told ((Dk.restart d).2)).length : Nat) : Int) ≤ ((t1.length : Nat) : Int))) = true))) (fun w hBw => Y_cutT (l := t1) (h := (Dk.told ((Dk.restart d).2)).length) Try.underlying9 rfl rfl (by have := hB.tlen; rw [Dk.told_re]; omega))) ?_
            exact .nil _
          ·
            intro e_8 w_31 hAg H_35
            have e_8_92 : e_8 92 = Value.bool (decide ((((Dk.told ((Dk.restart d).2)).length : Nat) : Int) ≤ ((t1.length : Nat) : Int))) := (hAg 92 rfl).trans rfl
            have e_8_94 : e_8 94 = Value.string (bs (Dk.told ((Dk.restart d).2))) := (hAg 94 rfl).trans rfl
            have e_8_98 : e_8 98 = Value.string (bs (t1.take ((Dk.told ((Dk.restart d).2)).length))) := (hAg 98 rfl).trans rfl
            refine G_y (wE rfl (e_8_92.trans (congrArg Value.bool ((decide_eq_true (by have := hB.tlen; rw [Dk.told_re]; omega)) : (decide ((((Dk.told ((Dk.restart d).2)).length : Nat) : Int) ≤ ((t1.length : Nat) : Int))) = true)))) rfl (Y_eqT (l1 := Dk.told ((Dk.restart d).2)) (l2 := t1.take ((Dk.told ((Dk.restart d).2)).length)) Try.underlying9 (Dk.told_lt (Dk.restart_ok hB.ok)) (fun u hu => hB.lt u (List.mem_of_mem_take hu)) e_8_94 e_8_98) ?_
            refine L_y rfl (Y_pickT (e_8_92.trans (congrArg Value.bool ((decide_eq_true (by have := hB.tlen; rw [Dk.told_re]; omega)) : (decide ((((Dk.told ((Dk.restart d).2)).length : Nat) : Int) ≤ ((t1.length : Nat) : Int))) = true)))) ?_
            refine L_mv rfl ?_
            refine L_callv (wE rfl (congrArg Value.bool ((decide_eq_true (by rw [Dk.told_re]; exact hB.eq)) : (decide (Dk.told ((Dk.restart d).2) = t1.take ((Dk.told ((Dk.restart d).2)).length))) = true))) rfl T_en7 (A0) (known_n _) ?_
            rintro _ w_32 ⟨rfl, hkp_10⟩; refine ⟨_, rfl, ?_⟩; have H_36 := H_35.keep hkp_10
            refine L_y rfl (Y_pickT (congrArg Value.bool ((decide_eq_true (by rw [Dk.told_re]; exact hB.eq)) : (decide (Dk.told ((Dk.restart d).2) = t1.take ((Dk.told ((Dk.restart d).2)).length))) = true))) ?_
            refine L_as rfl ?_
            refine L_nil ?_
            refine Th_n ?_
            refine W_ret ?_
            refine P_ret (vs := [Value.bool true]) (v := Value.bool true) rfl (.tmp rfl (Res.nil)) rfl ?_
            refine ⟨?_, H_36.nil_⟩
            rfl
end Go.Proofs.Ytlialefffhoagaa
