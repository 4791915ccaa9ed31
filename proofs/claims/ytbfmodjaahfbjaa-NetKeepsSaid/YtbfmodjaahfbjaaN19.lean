/- Walks of layer 27 (net) and of its reference. Printed by net.py. -/
import Derived.Test.YtbfmodjaahfbjaaN18
namespace Go.Proofs.Ytbfmodjaahfbjaa
open Go.Ev
set_option maxRecDepth 100000
set_option linter.unusedVariables false
set_option linter.unusedSimpArgs false
theorem spoil_n {w0 w : World} {X : List Ent} {a : Option Addr} {m c : Nat} {K : List Lt} (hS : Nt.Sp K) (hl : K.length = m) (hm : m ≤ 4294967) (H : Hp w0 [] w (Ent.own (Value.slice a m c) 31 3 m (rows K) :: (nest 5 K ++ X))) :
    Calls Try.prog 16 #[Value.slice a m c] w (fun r_ w' => r_ = .returned (.tuple #[]) ∧ Hp w0 [] w' X) := by
  refine F_in Try.func16 rfl Try.ntmps16 rfl ?_
  intro e he
  have p_0 : e 0 = Value.slice a m c := he 0 _ rfl
  refine W_seq ?_
  refine W_rg ?_
  refine L_as rfl ?_
  refine L_nil ?_
  refine Th_n ?_
  refine W_block ?_
  refine W_loop (fun mu_ e w => ∃ i : Nat, ∃ Q : List Lt, mu_ = m - i ∧ e 0 = Value.slice a m c ∧ e 2 = Value.int .i64 ((i : Nat) : Int) ∧ Hp w0 [] w (Ent.own (Value.slice a m c) 31 3 m (rows Q) :: (nest 5 Q ++ X)) ∧ Nt.Sp Q ∧ Q.length = m ∧ i ≤ m) _ ⟨0, K, rfl, p_0, rfl, H, hS, hl, (Nat.zero_le _)⟩ ?_
  rintro mu_ e_2 w_2 ⟨i, Q, rfl, e_2_0, e_2_2, H_2, hS, hl, hi⟩
  refine W_seq ?_
  refine W_seq ?_
  refine W_rg ?_
  refine L_mv rfl ?_
  refine L_mv rfl ?_
  refine L_y rfl (Y_lenS T_sl35 e_2_0) ?_
  refine L_y rfl (Y_lss (k := .i64) (a := ((i : Nat) : Int)) (b := ((m : Nat) : Int)) e_2_2 rfl) ?_
  refine L_nil ?_
  refine Th_n ?_
  refine W_cond (b := (decide (((i : Nat) : Int) < ((m : Nat) : Int)))) rfl (fun hc => ?_) (fun hc => ?_)
  ·
    have hc' := of_decide_eq_true hc
    refine W_skip ?_
    refine Th_n ?_
    refine W_seq ?_
    refine W_block ?_
    refine W_seq ?_
    refine W_seq ?_
    refine W_rg ?_
    refine L_as rfl ?_
    refine L_nil ?_
    refine Th_n ?_
    refine W_block ?_
    obtain ⟨el13, hel13⟩ := (Ts.own H_2 (i := 0) rfl).tab.at (j := i) (by omega)
    have mel13 := List.mem_of_getElem? hel13
    have oel13 := hS _ mel13
    have nel13 := oel13.2
    have H_3 : Hp w0 [] w_2 (Ent.own (Value.slice a m c) 31 3 m (rows Q) :: Ent.own (Value.slice el13.a el13.l.length el13.c) 5 1 el13.l.length (us .u8 el13.l) :: (nest 5 (Q.eraseIdx i) ++ X)) := Hp.back [Ent.own (Value.slice a m c) 31 3 m (rows Q)] H_2 (nest_out hel13 X)
    refine W_loop (fun mu_ e w => ∃ k : Nat, ∃ y : List Nat, mu_ = el13.l.length - k ∧ e 0 = Value.slice a m c ∧ e 2 = Value.int .i64 ((i : Nat) : Int) ∧ e 3 = Value.int .i64 ((k : Nat) : Int) ∧ Hp w0 [] w (Ent.own (Value.slice a m c) 31 3 m (rows Q) :: Ent.own (Value.slice el13.a el13.l.length el13.c) 5 1 el13.l.length (us .u8 y) :: (nest 5 (Q.eraseIdx i) ++ X)) ∧ (∀ u ∈ y, u < 256) ∧ k ≤ el13.l.length) _ ⟨0, el13.l, rfl, e_2_0, e_2_2, rfl, H_3, oel13.1, (Nat.zero_le _)⟩ ?_
    rintro mu_ e_3 w_3 ⟨k, y, rfl, e_3_0, e_3_2, e_3_3, H_4, hy, hk⟩
    refine W_seq ?_
    refine W_seq ?_
    refine W_rg ?_
    refine L_mv rfl ?_
    refine L_mv rfl ?_
    refine L_mv rfl ?_
    refine L_y rfl (Y_idxT (j := i) T_sl35 (Ts.own H_4 (i := 0) rfl).tab hel13 e_3_0 e_3_2 rfl) ?_
    refine L_y rfl (Y_fldT T_fld31_2 rfl (Ts.own H_4 (i := 0) rfl).tab hel13 rfl) ?_
    refine L_y rfl (Y_ldT (j := i) (off := 2) T_scal29 (Ts.own H_4 (i := 0) rfl).tab hel13 rfl rfl rfl) ?_
    refine L_y rfl (Y_lenS T_sl29 rfl) ?_
    refine L_y rfl (Y_lss (k := .i64) (a := ((k : Nat) : Int)) (b := ((el13.l.length : Nat) : Int)) e_3_3 rfl) ?_
    refine L_nil ?_
    refine Th_n ?_
    refine W_cond (b := (decide (((k : Nat) : Int) < ((el13.l.length : Nat) : Int)))) rfl (fun hc_2 => ?_) (fun hc_2 => ?_)
    ·
      have hc_2' := of_decide_eq_true hc_2
      refine W_skip ?_
      refine Th_n ?_
      refine W_seq ?_
      refine W_block ?_
      refine W_rg ?_
      refine L_mv rfl ?_
      refine L_mv rfl ?_
      refine L_y rfl (Y_idxT (j := i) T_sl35 (Ts.own H_4 (i := 0) rfl).tab hel13 e_3_0 e_3_2 rfl) ?_
      refine L_y rfl (Y_fldT T_fld31_2 rfl (Ts.own H_4 (i := 0) rfl).tab hel13 rfl) ?_
      refine L_y rfl (Y_ldT (j := i) (off := 2) T_scal29 (Ts.own H_4 (i := 0) rfl).tab hel13 rfl rfl rfl) ?_
      refine L_mv rfl ?_
      refine L_y rfl (Y_idxL (j := k) T_sl29 (Sl.own H_4 (i := 1) rfl) rfl e_3_3 rfl (by omega)) ?_
      obtain ⟨x27, hx27⟩ : ∃ u, y[k]? = some u := ⟨_, List.getElem?_eq_getElem (by have := (⟨(Sl.own H_4 (i := 1) rfl).len, hy⟩ : Wd el13.l.length 256 y).1; omega)⟩
      have rx27 := (⟨(Sl.own H_4 (i := 1) rfl).len, hy⟩ : Wd el13.l.length 256 y).2 _ (List.mem_of_getElem? hx27)
      refine L_y rfl (Y_ldR T_scal5 (Sl.own H_4 (i := 1) rfl).rd rfl (hx27)) ?_
      refine L_yr (z := (x27 + 1) % 256) (m := 256) rfl (Yu_add (k := .u8) rfl x27 1 rfl rfl) (Nat.mod_lt _ (by decide)) ?_; intro x28 hx28 rx28
      refine L_y rfl (Y_idxL (j := k) T_sl29 (Sl.own H_4 (i := 1) rfl) rfl e_3_3 rfl (by omega)) ?_
      refine L_stR T_scal5 H_4 (i := 1) rfl rfl (by omega) rfl ?_; intro w_4 Hx
      have H_5 : Hp w0 [] w_4 (Ent.own (Value.slice a m c) 31 3 m (rows Q) :: Ent.own (Value.slice el13.a el13.l.length el13.c) 5 1 el13.l.length (us .u8 (y.set k x28)) :: (nest 5 (Q.eraseIdx i) ++ X)) := Hx
      refine L_nil ?_
      refine InB_n ?_
      refine Th_n ?_
      refine W_rg ?_
      refine L_mv rfl ?_
      refine L_y rfl (Y_add (k := .i64) (a := ((k : Nat) : Int)) (b := ((1 : Nat) : Int)) (z := ((k + 1 : Nat) : Int)) e_3_3 rfl (wi (by omega))) ?_
      refine L_as rfl ?_
      refine L_nil ?_
      refine Th_n ⟨_, ?_, (k + 1), _, rfl, e_3_0, e_3_2, rfl, H_5, (set_lt hy rx28), (by omega)⟩
      omega
    ·
      have hc_2' := of_decide_eq_false hc_2
      refine W_exit ?_
      refine Th_x ?_
      refine Th_x ?_
      refine InB_hit ?_
      refine Th_n ?_
      refine W_rg ?_
      refine L_mv rfl ?_
      refine L_mv rfl ?_
      refine L_y rfl (Y_idxT (j := i) T_sl35 (Ts.own H_4 (i := 0) rfl).tab hel13 e_3_0 e_3_2 rfl) ?_
      refine L_y rfl (Y_fldT T_fld31_0 rfl (Ts.own H_4 (i := 0) rfl).tab hel13 rfl) ?_
      refine L_y rfl (Y_ldT (j := i) (off := 0) T_scal3 (Ts.own H_4 (i := 0) rfl).tab hel13 rfl rfl rfl) ?_
      refine L_y rfl (Y_add (k := .i64) (a := el13.f) (b := ((1 : Nat) : Int)) (z := IntKind.wrap .i64 (el13.f + ((1 : Nat) : Int))) rfl rfl rfl) ?_
      refine L_y rfl (Y_idxT (j := i) T_sl35 (Ts.own H_4 (i := 0) rfl).tab hel13 e_3_0 e_3_2 rfl) ?_
      refine L_y rfl (Y_fldT T_fld31_0 rfl (Ts.own H_4 (i := 0) rfl).tab hel13 rfl) ?_
      refine L_stT (j := i) T_scal3 H_4 (i := 0) rfl hel13 rfl rfl rfl ?_; intro w_5 Hx_2
      have H_6 : Hp w0 [] w_5 (Ent.own (Value.slice a m c) 31 3 m (rows (Q.set i (⟨(IntKind.wrap .i64 (el13.f + ((1 : Nat) : Int))), el13.t, el13.a, el13.c, el13.l⟩ : Lt))) :: Ent.own (Value.slice el13.a el13.l.length el13.c) 5 1 el13.l.length (us .u8 y) :: (nest 5 (Q.eraseIdx i) ++ X)) := Hx_2
      refine L_nil ?_
      refine InB_n ?_
      refine Th_n ?_
      refine W_rg ?_
      refine L_mv rfl ?_
      refine L_y rfl (Y_add (k := .i64) (a := ((i : Nat) : Int)) (b := ((1 : Nat) : Int)) (z := ((i + 1 : Nat) : Int)) e_3_2 rfl (wi (by omega))) ?_
      refine L_as rfl ?_
      refine L_nil ?_
      have hyl := own_length (H_6.get 1 rfl)
      have H_7 : Hp w0 [] w_5 (Ent.own (Value.slice a m c) 31 3 m (rows (Q.set i (⟨(IntKind.wrap .i64 (el13.f + ((1 : Nat) : Int))), el13.t, el13.a, el13.c, y⟩ : Lt))) :: Ent.own (Value.slice el13.a el13.l.length el13.c) 5 1 el13.l.length (us .u8 y) :: (nest 5 (Q.eraseIdx i) ++ X)) := H_6.asN (i := 0) rfl rfl (rows_bytes hyl.symm Q i) rfl
      have H_8 : Hp w0 [] w_5 (Ent.own (Value.slice a m c) 31 3 m (rows (Q.set i (⟨(IntKind.wrap .i64 (el13.f + ((1 : Nat) : Int))), el13.t, el13.a, el13.c, y⟩ : Lt))) :: (nest 5 (Q.set i (⟨(IntKind.wrap .i64 (el13.f + ((1 : Nat) : Int))), el13.t, el13.a, el13.c, y⟩ : Lt)) ++ X)) := by have h := H_7; rw [← hyl] at h; exact Hp.back [Ent.own (Value.slice a m c) 31 3 m (rows (Q.set i (⟨(IntKind.wrap .i64 (el13.f + ((1 : Nat) : Int))), el13.t, el13.a, el13.c, y⟩ : Lt)))] h (nest_in (u := 5) (y := (⟨(IntKind.wrap .i64 (el13.f + ((1 : Nat) : Int))), el13.t, el13.a, el13.c, y⟩ : Lt)) hel13 X)
      refine Th_n ⟨_, ?_, (i + 1), _, rfl, e_3_0, rfl, H_8, (hS.set ⟨hy, by show y.length ≤ _; omega⟩), (by rw [List.length_set]; exact hl), (by omega)⟩
      omega
  ·
    have hc' := of_decide_eq_false hc
    refine W_exit ?_
    refine Th_x ?_
    refine Th_x ?_
    refine InB_hit ?_
    refine P_end (vs := []) (v := Value.tuple #[]) rfl (Res.nil) rfl ?_
    refine ⟨rfl, ?_⟩
    exact Hp.cast [] (B := Ent.own (Value.slice a m c) 31 3 m (rows Q) :: nest 5 Q) H_2
end Go.Proofs.Ytbfmodjaahfbjaa
