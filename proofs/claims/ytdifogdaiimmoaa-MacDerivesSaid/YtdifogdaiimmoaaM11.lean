/- Walks of layers 6 and 7 (sums, macs) and of their references. Printed by mac.py. -/
import Derived.Test.YtdifogdaiimmoaaM10
namespace Go.Proofs.Ytdifogdaiimmoaa
open Go.Ev
set_option maxRecDepth 100000
theorem expands_neg (a0 : Option Addr) (n0 c0 : Nat) (l0 : List Nat) (a1 : Option Addr) (n1 c1 : Nat) (l1 : List Nat) (hl0 : ∀ u ∈ l0, u < 256) (hl1 : ∀ u ∈ l1, u < 256) (z : Int) (hz : z < 0) (w0 : World) (hb0 : Sl w0 .u8 a0 n0 c0 l0) (hb1 : Sl w0 .u8 a1 n1 c1 l1) :
    Calls Try.prog 5 #[Value.slice a0 n0 c0, Value.slice a1 n1 c1, Value.int .i64 (z)] w0 (fun r_ w' => r_ = .returned (.bool true) ∧ Keep w0 w') := by
  refine F_in Try.func5 rfl Try.ntmps5 rfl ?_
  intro e he
  have p_0 : e 0 = Value.slice a0 n0 c0 := he 0 _ rfl
  have p_1 : e 1 = Value.slice a1 n1 c1 := he 1 _ rfl
  have p_2 : e 2 = Value.int .i64 (z) := he 2 _ rfl
  have H := Hp.start w0 []
  refine W_seq ?_
  refine W_rg ?_
  refine L_as rfl ?_
  refine L_nil ?_
  refine Th_n ?_
  refine W_seq ?_
  refine W_seq ?_
  refine W_rg ?_
  refine L_mv rfl ?_
  refine L_y rfl (Y_lenS T_sl22 p_0) ?_
  refine L_y rfl (Y_gtr (k := .i64) (a := ((n0 : Nat) : Int)) (b := ((2000 : Nat) : Int)) rfl rfl) ?_
  refine L_mv rfl ?_
  rcases Bool.eq_false_or_eq_true (decide (((2000 : Nat) : Int) < ((n0 : Nat) : Int))) with hb | hb
  ·
    have hb' := of_decide_eq_true hb
    refine G_no (wN (b := false) rfl (congrArg Value.bool hb)) rfl ?_
    refine G_no (wN (b := false) rfl (congrArg Value.bool hb)) rfl ?_
    refine G_no (wN (b := false) rfl (congrArg Value.bool hb)) rfl ?_
    refine L_y rfl (Y_pickT (congrArg Value.bool hb)) ?_
    refine L_mv rfl ?_
    refine G_no (wN (b := false) rfl rfl) rfl ?_
    refine G_no (wN (b := false) rfl rfl) rfl ?_
    refine G_no (wN (b := false) rfl rfl) rfl ?_
    refine G_no (wU rfl rfl) rfl ?_
    refine G_no (wU rfl rfl) rfl ?_
    refine G_no (wN (b := false) rfl rfl) rfl ?_
    refine L_y rfl (Y_pickT rfl) ?_
    refine L_nil ?_
    refine Th_n ?_
    refine W_true rfl ?_
    refine W_seq ?_
    refine W_rg ?_
    refine L_callv rfl rfl T_en8 (A0) (known_n _) ?_
    rintro _ w_2 ⟨rfl, hkp⟩; refine ⟨_, rfl, ?_⟩; have H_2 := H.keep hkp
    refine L_as rfl ?_
    refine L_nil ?_
    refine Th_n ?_
    refine W_ret ?_
    refine Th_r ?_
    refine P_ret (vs := [Value.bool true]) (v := Value.bool true) rfl (.tmp rfl (Res.nil)) rfl ?_
    refine ⟨?_, H_2.nil_⟩
    rfl
  ·
    have hb' := of_decide_eq_false hb
    refine G_mv (wE rfl (congrArg Value.bool hb)) rfl ?_
    refine G_y (wE rfl (congrArg Value.bool hb)) rfl (Y_lenS T_sl22 p_1) ?_
    refine G_y (wE rfl (congrArg Value.bool hb)) rfl (Y_gtr (k := .i64) (a := ((n1 : Nat) : Int)) (b := ((2000 : Nat) : Int)) rfl rfl) ?_
    refine L_y rfl (Y_pickF (congrArg Value.bool hb)) ?_
    refine L_mv rfl ?_
    rcases Bool.eq_false_or_eq_true (decide (((2000 : Nat) : Int) < ((n1 : Nat) : Int))) with hb_2 | hb_2
    ·
      have hb_2' := of_decide_eq_true hb_2
      refine G_no (wN (b := false) rfl (congrArg Value.bool hb_2)) rfl ?_
      refine G_no (wN (b := false) rfl (congrArg Value.bool hb_2)) rfl ?_
      refine G_no (wN (b := false) rfl (congrArg Value.bool hb_2)) rfl ?_
      refine G_no (wU rfl rfl) rfl ?_
      refine G_no (wU rfl rfl) rfl ?_
      refine G_no (wN (b := false) rfl (congrArg Value.bool hb_2)) rfl ?_
      refine L_y rfl (Y_pickT (congrArg Value.bool hb_2)) ?_
      refine L_nil ?_
      refine Th_n ?_
      refine W_true rfl ?_
      refine W_seq ?_
      refine W_rg ?_
      refine L_callv rfl rfl T_en8 (A0) (known_n _) ?_
      rintro _ w_3 ⟨rfl, hkp_2⟩; refine ⟨_, rfl, ?_⟩; have H_3 := H.keep hkp_2
      refine L_as rfl ?_
      refine L_nil ?_
      refine Th_n ?_
      refine W_ret ?_
      refine Th_r ?_
      refine P_ret (vs := [Value.bool true]) (v := Value.bool true) rfl (.tmp rfl (Res.nil)) rfl ?_
      refine ⟨?_, H_3.nil_⟩
      rfl
    ·
      have hb_2' := of_decide_eq_false hb_2
      refine G_mv (wE rfl (congrArg Value.bool hb_2)) rfl ?_
      refine G_y (wE rfl (congrArg Value.bool hb_2)) rfl (Y_gtr (k := .i64) (a := z) (b := ((500 : Nat) : Int)) p_2 rfl) ?_
      refine G_mv (wE rfl (congrArg Value.bool hb_2)) rfl ?_
      refine G_no (wN (b := true) rfl (congrArg Value.bool (decide_eq_false (by omega)))) rfl ?_
      refine G_no (wN (b := true) rfl (congrArg Value.bool (decide_eq_false (by omega)))) rfl ?_
      refine G_y (wE rfl (congrArg Value.bool hb_2)) rfl (Y_pickF (congrArg Value.bool (decide_eq_false (by omega)))) ?_
      refine L_y rfl (Y_pickF (congrArg Value.bool hb_2)) ?_
      refine L_nil ?_
      refine Th_n ?_
      refine W_false rfl ?_
      refine W_skip ?_
      refine Th_n ?_
      refine W_seq ?_
      refine W_rg ?_
      refine L_mv rfl ?_
      refine L_callv rfl rfl T_en11 (A1 p_0) (lent_n _ _ _ l0 hl0 (by omega) _ (hb0.hp H)) ?_
      rintro _ w_4 ⟨la31, lc31, rfl, f31_0, hkp_3⟩; refine ⟨_, rfl, ?_⟩; have H_4 := H.more hkp_3
      refine L_mv rfl ?_
      refine L_callv rfl rfl T_en11 (A1 p_1) (lent_n _ _ _ l1 hl1 (by omega) _ (hb1.hp H_4)) ?_
      rintro _ w_5 ⟨la33, lc33, rfl, f33_0, hkp_4⟩; refine ⟨_, rfl, ?_⟩; have H_5 := H_4.more hkp_4
      refine L_as rfl ?_
      refine L_as rfl ?_
      refine L_nil ?_
      refine Th_n ?_
      refine W_seq ?_
      refine W_rg ?_
      refine L_mv rfl ?_
      refine L_mv rfl ?_
      refine L_mv rfl ?_
      refine L_callv rfl rfl T_en17 (A3 rfl rfl p_2) (expand_neg _ _ _ l0 _ _ _ l1 hl0 hl1 (by omega) (by omega) z hz _ ((Sl.own H_5 (i := 1) rfl).pre hb0.len (Nat.le_succ _)) ((Sl.own H_5 (i := 0) rfl).pre hb1.len (Nat.le_succ _))) ?_
      rintro _ w_6 ⟨rfl, hkp_5⟩; refine ⟨_, rfl, ?_⟩; have H_6 := H_5.keep hkp_5
      refine L_mv rfl ?_
      refine L_y rfl (Y_ext rfl rfl) ?_
      refine L_y rfl (Y_ext rfl rfl) ?_
      refine L_as rfl ?_
      refine L_as rfl ?_
      refine L_nil ?_
      refine Th_n ?_
      refine W_seq ?_
      refine W_rg ?_
      refine L_mv rfl ?_
      refine L_mv rfl ?_
      refine L_mv rfl ?_
      refine L_callv rfl rfl T_en18 (A3 p_0 p_1 p_2) (rexpand_neg _ _ _ l0 _ _ _ l1 hl0 hl1 (by omega) (by omega) z hz _ (hb0.hp H_6) (hb1.hp H_6)) ?_
      rintro _ w_7 ⟨rfl, hkp_6⟩; refine ⟨_, rfl, ?_⟩; have H_7 := H_6.keep hkp_6
      refine L_mv rfl ?_
      refine L_y rfl (Y_ext rfl rfl) ?_
      refine L_y rfl (Y_ext rfl rfl) ?_
      refine L_as rfl ?_
      refine L_as rfl ?_
      refine L_nil ?_
      refine Th_n ?_
      refine W_seq ?_
      refine W_rg ?_
      refine L_mv rfl ?_
      refine L_mv rfl ?_
      refine L_callv rfl rfl T_en13 (A2 rfl p_0) (kept_n _ _ _ _ _ l0 hl0 (by omega) _ (Sl.own H_7 (i := 1) rfl) (hb0.hp H_7)) ?_
      rintro _ w_8 ⟨rfl, hkp_7⟩; refine ⟨_, rfl, ?_⟩; have H_8 := H_7.keep hkp_7
      refine L_mv rfl ?_
      refine G_mv (wE rfl rfl) rfl ?_
      refine G_mv (wE rfl rfl) rfl ?_
      refine L_callv (wE rfl rfl) rfl T_en13 (A2 rfl p_1) (kept_n _ _ _ _ _ l1 hl1 (by omega) _ (Sl.own H_8 (i := 0) rfl) (hb1.hp H_8)) ?_
      rintro _ w_9 ⟨rfl, hkp_8⟩; refine ⟨_, rfl, ?_⟩; have H_9 := H_8.keep hkp_8
      refine L_y rfl (Y_pickT rfl) ?_
      refine L_mv rfl ?_
      refine G_mv (wE rfl rfl) rfl ?_
      refine G_y (wE rfl rfl) rfl (Y_strL Try.underlying22 Try.underlying5 Try.underlying9 rfl (Sl.nil _ _)) ?_
      refine G_mv (wE rfl rfl) rfl ?_
      refine G_y (wE rfl rfl) rfl (Y_strL Try.underlying22 Try.underlying5 Try.underlying9 rfl (Sl.nil _ _)) ?_
      refine G_y (wE rfl rfl) rfl (Y_eqT (l1 := []) (l2 := []) Try.underlying9 (by decide) (by decide) rfl rfl) ?_
      refine L_y rfl (Y_pickT rfl) ?_
      refine L_mv rfl ?_
      refine G_mv (wE rfl (congrArg Value.bool (decide_eq_true rfl))) rfl ?_
      refine G_mv (wE rfl (congrArg Value.bool (decide_eq_true rfl))) rfl ?_
      refine G_y (wE rfl (congrArg Value.bool (decide_eq_true rfl))) rfl (Y_eql (k := .i64) (a := ((2 : Nat) : Int)) (b := ((2 : Nat) : Int)) rfl rfl) ?_
      refine L_y rfl (Y_pickT (congrArg Value.bool (decide_eq_true rfl))) ?_
      refine L_mv rfl ?_
      refine L_callv (wE rfl (congrArg Value.bool (by decide : (((2 : Nat) : Int) == ((2 : Nat) : Int)) = true))) rfl T_en8 (A0) (known_n _) ?_
      rintro _ w_10 ⟨rfl, hkp_9⟩; refine ⟨_, rfl, ?_⟩; have H_10 := H_9.keep hkp_9
      refine L_y rfl (Y_pickT (congrArg Value.bool (by decide : (((2 : Nat) : Int) == ((2 : Nat) : Int)) = true))) ?_
      refine L_as rfl ?_
      refine L_nil ?_
      refine Th_n ?_
      refine W_ret ?_
      refine P_ret (vs := [Value.bool true]) (v := Value.bool true) rfl (.tmp rfl (Res.nil)) rfl ?_
      refine ⟨?_, H_10.nil_⟩
      rfl

theorem expands_mid (a0 : Option Addr) (n0 c0 : Nat) (l0 : List Nat) (a1 : Option Addr) (n1 c1 : Nat) (l1 : List Nat) (hl0 : ∀ u ∈ l0, u < 256) (hl1 : ∀ u ∈ l1, u < 256) (n : Nat) (hn : n ≤ 500) (w0 : World) (hb0 : Sl w0 .u8 a0 n0 c0 l0) (hb1 : Sl w0 .u8 a1 n1 c1 l1) :
    Calls Try.prog 5 #[Value.slice a0 n0 c0, Value.slice a1 n1 c1, Value.int .i64 ((n : Nat) : Int)] w0 (fun r_ w' => r_ = .returned (.bool true) ∧ Keep w0 w') := by
  refine F_in Try.func5 rfl Try.ntmps5 rfl ?_
  intro e he
  have p_0 : e 0 = Value.slice a0 n0 c0 := he 0 _ rfl
  have p_1 : e 1 = Value.slice a1 n1 c1 := he 1 _ rfl
  have p_2 : e 2 = Value.int .i64 ((n : Nat) : Int) := he 2 _ rfl
  have H := Hp.start w0 []
  refine W_seq ?_
  refine W_rg ?_
  refine L_as rfl ?_
  refine L_nil ?_
  refine Th_n ?_
  refine W_seq ?_
  refine W_seq ?_
  refine W_rg ?_
  refine L_mv rfl ?_
  refine L_y rfl (Y_lenS T_sl22 p_0) ?_
  refine L_y rfl (Y_gtr (k := .i64) (a := ((n0 : Nat) : Int)) (b := ((2000 : Nat) : Int)) rfl rfl) ?_
  refine L_mv rfl ?_
  rcases Bool.eq_false_or_eq_true (decide (((2000 : Nat) : Int) < ((n0 : Nat) : Int))) with hb | hb
  ·
    have hb' := of_decide_eq_true hb
    refine G_no (wN (b := false) rfl (congrArg Value.bool hb)) rfl ?_
    refine G_no (wN (b := false) rfl (congrArg Value.bool hb)) rfl ?_
    refine G_no (wN (b := false) rfl (congrArg Value.bool hb)) rfl ?_
    refine L_y rfl (Y_pickT (congrArg Value.bool hb)) ?_
    refine L_mv rfl ?_
    refine G_no (wN (b := false) rfl rfl) rfl ?_
    refine G_no (wN (b := false) rfl rfl) rfl ?_
    refine G_no (wN (b := false) rfl rfl) rfl ?_
    refine G_no (wU rfl rfl) rfl ?_
    refine G_no (wU rfl rfl) rfl ?_
    refine G_no (wN (b := false) rfl rfl) rfl ?_
    refine L_y rfl (Y_pickT rfl) ?_
    refine L_nil ?_
    refine Th_n ?_
    refine W_true rfl ?_
    refine W_seq ?_
    refine W_rg ?_
    refine L_callv rfl rfl T_en8 (A0) (known_n _) ?_
    rintro _ w_2 ⟨rfl, hkp⟩; refine ⟨_, rfl, ?_⟩; have H_2 := H.keep hkp
    refine L_as rfl ?_
    refine L_nil ?_
    refine Th_n ?_
    refine W_ret ?_
    refine Th_r ?_
    refine P_ret (vs := [Value.bool true]) (v := Value.bool true) rfl (.tmp rfl (Res.nil)) rfl ?_
    refine ⟨?_, H_2.nil_⟩
    rfl
  ·
    have hb' := of_decide_eq_false hb
    refine G_mv (wE rfl (congrArg Value.bool hb)) rfl ?_
    refine G_y (wE rfl (congrArg Value.bool hb)) rfl (Y_lenS T_sl22 p_1) ?_
    refine G_y (wE rfl (congrArg Value.bool hb)) rfl (Y_gtr (k := .i64) (a := ((n1 : Nat) : Int)) (b := ((2000 : Nat) : Int)) rfl rfl) ?_
    refine L_y rfl (Y_pickF (congrArg Value.bool hb)) ?_
    refine L_mv rfl ?_
    rcases Bool.eq_false_or_eq_true (decide (((2000 : Nat) : Int) < ((n1 : Nat) : Int))) with hb_2 | hb_2
    ·
      have hb_2' := of_decide_eq_true hb_2
      refine G_no (wN (b := false) rfl (congrArg Value.bool hb_2)) rfl ?_
      refine G_no (wN (b := false) rfl (congrArg Value.bool hb_2)) rfl ?_
      refine G_no (wN (b := false) rfl (congrArg Value.bool hb_2)) rfl ?_
      refine G_no (wU rfl rfl) rfl ?_
      refine G_no (wU rfl rfl) rfl ?_
      refine G_no (wN (b := false) rfl (congrArg Value.bool hb_2)) rfl ?_
      refine L_y rfl (Y_pickT (congrArg Value.bool hb_2)) ?_
      refine L_nil ?_
      refine Th_n ?_
      refine W_true rfl ?_
      refine W_seq ?_
      refine W_rg ?_
      refine L_callv rfl rfl T_en8 (A0) (known_n _) ?_
      rintro _ w_3 ⟨rfl, hkp_2⟩; refine ⟨_, rfl, ?_⟩; have H_3 := H.keep hkp_2
      refine L_as rfl ?_
      refine L_nil ?_
      refine Th_n ?_
      refine W_ret ?_
      refine Th_r ?_
      refine P_ret (vs := [Value.bool true]) (v := Value.bool true) rfl (.tmp rfl (Res.nil)) rfl ?_
      refine ⟨?_, H_3.nil_⟩
      rfl
    ·
      have hb_2' := of_decide_eq_false hb_2
      refine G_mv (wE rfl (congrArg Value.bool hb_2)) rfl ?_
      refine G_y (wE rfl (congrArg Value.bool hb_2)) rfl (Y_gtr (k := .i64) (a := ((n : Nat) : Int)) (b := ((500 : Nat) : Int)) p_2 rfl) ?_
      refine G_mv (wE rfl (congrArg Value.bool hb_2)) rfl ?_
      refine G_no (wN (b := true) rfl (congrArg Value.bool (decide_eq_false (by omega)))) rfl ?_
      refine G_no (wN (b := true) rfl (congrArg Value.bool (decide_eq_false (by omega)))) rfl ?_
      refine G_y (wE rfl (congrArg Value.bool hb_2)) rfl (Y_pickF (congrArg Value.bool (decide_eq_false (by omega)))) ?_
      refine L_y rfl (Y_pickF (congrArg Value.bool hb_2)) ?_
      refine L_nil ?_
      refine Th_n ?_
      refine W_false rfl ?_
      refine W_skip ?_
      refine Th_n ?_
      refine W_seq ?_
      refine W_rg ?_
      refine L_mv rfl ?_
      refine L_callv rfl rfl T_en11 (A1 p_0) (lent_n _ _ _ l0 hl0 (by omega) _ (hb0.hp H)) ?_
      rintro _ w_4 ⟨la31, lc31, rfl, f31_0, hkp_3⟩; refine ⟨_, rfl, ?_⟩; have H_4 := H.more hkp_3
      refine L_mv rfl ?_
      refine L_callv rfl rfl T_en11 (A1 p_1) (lent_n _ _ _ l1 hl1 (by omega) _ (hb1.hp H_4)) ?_
      rintro _ w_5 ⟨la33, lc33, rfl, f33_0, hkp_4⟩; refine ⟨_, rfl, ?_⟩; have H_5 := H_4.more hkp_4
      refine L_as rfl ?_
      refine L_as rfl ?_
      refine L_nil ?_
      refine Th_n ?_
      refine W_seq ?_
      refine W_rg ?_
      refine L_mv rfl ?_
      refine L_mv rfl ?_
      refine L_mv rfl ?_
      refine L_callv rfl rfl T_en17 (A3 rfl rfl p_2) (expand_n _ _ _ l0 _ _ _ l1 hl0 hl1 (by omega) (by omega) n (by omega) _ ((Sl.own H_5 (i := 1) rfl).pre hb0.len (Nat.le_succ _)) ((Sl.own H_5 (i := 0) rfl).pre hb1.len (Nat.le_succ _))) ?_
      rintro _ w_6 ⟨ea38, eM38, ec38, eL38, rfl, f38_0, f38_1, hkp_5⟩; refine ⟨_, rfl, ?_⟩; have H_6 := H_5.more hkp_5
      refine L_mv rfl ?_
      refine L_y rfl (Y_ext rfl rfl) ?_
      refine L_y rfl (Y_ext rfl rfl) ?_
      refine L_as rfl ?_
      refine L_as rfl ?_
      refine L_nil ?_
      refine Th_n ?_
      refine W_seq ?_
      refine W_rg ?_
      refine L_mv rfl ?_
      refine L_mv rfl ?_
      refine L_mv rfl ?_
      refine L_callv rfl rfl T_en18 (A3 p_0 p_1 p_2) (rexpand_n _ _ _ l0 _ _ _ l1 hl0 hl1 (by omega) (by omega) n (by omega) _ (hb0.hp H_6) (hb1.hp H_6)) ?_
      rintro _ w_7 ⟨ea45, ec45, rfl, hkp_6⟩; refine ⟨_, rfl, ?_⟩; have H_7 := H_6.more hkp_6
      refine L_mv rfl ?_
      refine L_y rfl (Y_ext rfl rfl) ?_
      refine L_y rfl (Y_ext rfl rfl) ?_
      refine L_as rfl ?_
      refine L_as rfl ?_
      refine L_nil ?_
      refine Th_n ?_
      refine W_seq ?_
      refine W_rg ?_
      refine L_mv rfl ?_
      refine L_mv rfl ?_
      refine L_callv rfl rfl T_en13 (A2 rfl p_0) (kept_n _ _ _ _ _ l0 hl0 (by omega) _ (Sl.own H_7 (i := 3) rfl) (hb0.hp H_7)) ?_
      rintro _ w_8 ⟨rfl, hkp_7⟩; refine ⟨_, rfl, ?_⟩; have H_8 := H_7.keep hkp_7
      refine L_mv rfl ?_
      refine G_mv (wE rfl rfl) rfl ?_
      refine G_mv (wE rfl rfl) rfl ?_
      refine L_callv (wE rfl rfl) rfl T_en13 (A2 rfl p_1) (kept_n _ _ _ _ _ l1 hl1 (by omega) _ (Sl.own H_8 (i := 2) rfl) (hb1.hp H_8)) ?_
      rintro _ w_9 ⟨rfl, hkp_8⟩; refine ⟨_, rfl, ?_⟩; have H_9 := H_8.keep hkp_8
      refine L_y rfl (Y_pickT rfl) ?_
      refine L_mv rfl ?_
      refine G_mv (wE rfl rfl) rfl ?_
      refine G_y (wE rfl rfl) rfl (Y_strL Try.underlying22 Try.underlying5 Try.underlying9 rfl (((Sl.own H_9 (i := 1) rfl).tk3 f38_1).as f38_0)) ?_
      refine G_mv (wE rfl rfl) rfl ?_
      refine G_y (wE rfl rfl) rfl (Y_strL Try.underlying22 Try.underlying5 Try.underlying9 rfl (Sl.own H_9 (i := 0) rfl)) ?_
      refine G_y (wE rfl rfl) rfl (Y_eqT (l1 := Sm.expand l0 l1 n) (l2 := Sm.expand l0 l1 n) Try.underlying9 (Sm.expand_lt _ _ _) (Sm.expand_lt _ _ _) rfl rfl) ?_
      refine L_y rfl (Y_pickT rfl) ?_
      refine L_mv rfl ?_
      refine G_mv (wE rfl (congrArg Value.bool (decide_eq_true rfl))) rfl ?_
      refine G_mv (wE rfl (congrArg Value.bool (decide_eq_true rfl))) rfl ?_
      refine G_y (wE rfl (congrArg Value.bool (decide_eq_true rfl))) rfl (Y_eql (k := .i64) (a := ((0 : Nat) : Int)) (b := ((0 : Nat) : Int)) rfl rfl) ?_
      refine L_y rfl (Y_pickT (congrArg Value.bool (decide_eq_true rfl))) ?_
      refine L_mv rfl ?_
      refine L_callv (wE rfl (congrArg Value.bool (by decide : (((0 : Nat) : Int) == ((0 : Nat) : Int)) = true))) rfl T_en8 (A0) (known_n _) ?_
      rintro _ w_10 ⟨rfl, hkp_9⟩; refine ⟨_, rfl, ?_⟩; have H_10 := H_9.keep hkp_9
      refine L_y rfl (Y_pickT (congrArg Value.bool (by decide : (((0 : Nat) : Int) == ((0 : Nat) : Int)) = true))) ?_
      refine L_as rfl ?_
      refine L_nil ?_
      refine Th_n ?_
      refine W_ret ?_
      refine P_ret (vs := [Value.bool true]) (v := Value.bool true) rfl (.tmp rfl (Res.nil)) rfl ?_
      refine ⟨?_, H_10.nil_⟩
      rfl

theorem expands_btw (a0 : Option Addr) (n0 c0 : Nat) (l0 : List Nat) (a1 : Option Addr) (n1 c1 : Nat) (l1 : List Nat) (hl0 : ∀ u ∈ l0, u < 256) (hl1 : ∀ u ∈ l1, u < 256) (n : Nat) (hn : 500 < n) (hn' : n ≤ 8160) (w0 : World) (hb0 : Sl w0 .u8 a0 n0 c0 l0) (hb1 : Sl w0 .u8 a1 n1 c1 l1) :
    Calls Try.prog 5 #[Value.slice a0 n0 c0, Value.slice a1 n1 c1, Value.int .i64 ((n : Nat) : Int)] w0 (fun r_ w' => r_ = .returned (.bool true) ∧ Keep w0 w') := by
  refine F_in Try.func5 rfl Try.ntmps5 rfl ?_
  intro e he
  have p_0 : e 0 = Value.slice a0 n0 c0 := he 0 _ rfl
  have p_1 : e 1 = Value.slice a1 n1 c1 := he 1 _ rfl
  have p_2 : e 2 = Value.int .i64 ((n : Nat) : Int) := he 2 _ rfl
  have H := Hp.start w0 []
  refine W_seq ?_
  refine W_rg ?_
  refine L_as rfl ?_
  refine L_nil ?_
  refine Th_n ?_
  refine W_seq ?_
  refine W_seq ?_
  refine W_rg ?_
  refine L_mv rfl ?_
  refine L_y rfl (Y_lenS T_sl22 p_0) ?_
  refine L_y rfl (Y_gtr (k := .i64) (a := ((n0 : Nat) : Int)) (b := ((2000 : Nat) : Int)) rfl rfl) ?_
  refine L_mv rfl ?_
  rcases Bool.eq_false_or_eq_true (decide (((2000 : Nat) : Int) < ((n0 : Nat) : Int))) with hb | hb
  ·
    have hb' := of_decide_eq_true hb
    refine G_no (wN (b := false) rfl (congrArg Value.bool hb)) rfl ?_
    refine G_no (wN (b := false) rfl (congrArg Value.bool hb)) rfl ?_
    refine G_no (wN (b := false) rfl (congrArg Value.bool hb)) rfl ?_
    refine L_y rfl (Y_pickT (congrArg Value.bool hb)) ?_
    refine L_mv rfl ?_
    refine G_no (wN (b := false) rfl rfl) rfl ?_
    refine G_no (wN (b := false) rfl rfl) rfl ?_
    refine G_no (wN (b := false) rfl rfl) rfl ?_
    refine G_no (wU rfl rfl) rfl ?_
    refine G_no (wU rfl rfl) rfl ?_
    refine G_no (wN (b := false) rfl rfl) rfl ?_
    refine L_y rfl (Y_pickT rfl) ?_
    refine L_nil ?_
    refine Th_n ?_
    refine W_true rfl ?_
    refine W_seq ?_
    refine W_rg ?_
    refine L_callv rfl rfl T_en8 (A0) (known_n _) ?_
    rintro _ w_2 ⟨rfl, hkp⟩; refine ⟨_, rfl, ?_⟩; have H_2 := H.keep hkp
    refine L_as rfl ?_
    refine L_nil ?_
    refine Th_n ?_
    refine W_ret ?_
    refine Th_r ?_
    refine P_ret (vs := [Value.bool true]) (v := Value.bool true) rfl (.tmp rfl (Res.nil)) rfl ?_
    refine ⟨?_, H_2.nil_⟩
    rfl
  ·
    have hb' := of_decide_eq_false hb
    refine G_mv (wE rfl (congrArg Value.bool hb)) rfl ?_
    refine G_y (wE rfl (congrArg Value.bool hb)) rfl (Y_lenS T_sl22 p_1) ?_
    refine G_y (wE rfl (congrArg Value.bool hb)) rfl (Y_gtr (k := .i64) (a := ((n1 : Nat) : Int)) (b := ((2000 : Nat) : Int)) rfl rfl) ?_
    refine L_y rfl (Y_pickF (congrArg Value.bool hb)) ?_
    refine L_mv rfl ?_
    rcases Bool.eq_false_or_eq_true (decide (((2000 : Nat) : Int) < ((n1 : Nat) : Int))) with hb_2 | hb_2
    ·
      have hb_2' := of_decide_eq_true hb_2
      refine G_no (wN (b := false) rfl (congrArg Value.bool hb_2)) rfl ?_
      refine G_no (wN (b := false) rfl (congrArg Value.bool hb_2)) rfl ?_
      refine G_no (wN (b := false) rfl (congrArg Value.bool hb_2)) rfl ?_
      refine G_no (wU rfl rfl) rfl ?_
      refine G_no (wU rfl rfl) rfl ?_
      refine G_no (wN (b := false) rfl (congrArg Value.bool hb_2)) rfl ?_
      refine L_y rfl (Y_pickT (congrArg Value.bool hb_2)) ?_
      refine L_nil ?_
      refine Th_n ?_
      refine W_true rfl ?_
      refine W_seq ?_
      refine W_rg ?_
      refine L_callv rfl rfl T_en8 (A0) (known_n _) ?_
      rintro _ w_3 ⟨rfl, hkp_2⟩; refine ⟨_, rfl, ?_⟩; have H_3 := H.keep hkp_2
      refine L_as rfl ?_
      refine L_nil ?_
      refine Th_n ?_
      refine W_ret ?_
      refine Th_r ?_
      refine P_ret (vs := [Value.bool true]) (v := Value.bool true) rfl (.tmp rfl (Res.nil)) rfl ?_
      refine ⟨?_, H_3.nil_⟩
      rfl
    ·
      have hb_2' := of_decide_eq_false hb_2
      refine G_mv (wE rfl (congrArg Value.bool hb_2)) rfl ?_
      refine G_y (wE rfl (congrArg Value.bool hb_2)) rfl (Y_gtr (k := .i64) (a := ((n : Nat) : Int)) (b := ((500 : Nat) : Int)) p_2 rfl) ?_
      refine G_mv (wE rfl (congrArg Value.bool hb_2)) rfl ?_
      refine G_mv (wE rfl (congrArg Value.bool (decide_eq_true (by omega)))) rfl ?_
      refine G_y (wE rfl (congrArg Value.bool (decide_eq_true (by omega)))) rfl (Y_leq (k := .i64) (a := ((n : Nat) : Int)) (b := ((8160 : Nat) : Int)) p_2 rfl) ?_
      refine G_y (wE rfl (congrArg Value.bool hb_2)) rfl (Y_pickT (congrArg Value.bool (decide_eq_true (by omega)))) ?_
      refine L_y rfl (Y_pickF (congrArg Value.bool hb_2)) ?_
      refine L_nil ?_
      refine Th_n ?_
      refine W_true (congrArg Value.bool (decide_eq_true (by omega))) ?_
      refine W_seq ?_
      refine W_rg ?_
      refine L_callv rfl rfl T_en8 (A0) (known_n _) ?_
      rintro _ w_4 ⟨rfl, hkp_3⟩; refine ⟨_, rfl, ?_⟩; have H_4 := H.keep hkp_3
      refine L_as rfl ?_
      refine L_nil ?_
      refine Th_n ?_
      refine W_ret ?_
      refine Th_r ?_
      refine P_ret (vs := [Value.bool true]) (v := Value.bool true) rfl (.tmp rfl (Res.nil)) rfl ?_
      refine ⟨?_, H_4.nil_⟩
      rfl

theorem expands_long (a0 : Option Addr) (n0 c0 : Nat) (l0 : List Nat) (a1 : Option Addr) (n1 c1 : Nat) (l1 : List Nat) (hl0 : ∀ u ∈ l0, u < 256) (hl1 : ∀ u ∈ l1, u < 256) (n : Nat) (hn : 8160 < n) (w0 : World) (hb0 : Sl w0 .u8 a0 n0 c0 l0) (hb1 : Sl w0 .u8 a1 n1 c1 l1) :
    Calls Try.prog 5 #[Value.slice a0 n0 c0, Value.slice a1 n1 c1, Value.int .i64 ((n : Nat) : Int)] w0 (fun r_ w' => r_ = .returned (.bool true) ∧ Keep w0 w') := by
  refine F_in Try.func5 rfl Try.ntmps5 rfl ?_
  intro e he
  have p_0 : e 0 = Value.slice a0 n0 c0 := he 0 _ rfl
  have p_1 : e 1 = Value.slice a1 n1 c1 := he 1 _ rfl
  have p_2 : e 2 = Value.int .i64 ((n : Nat) : Int) := he 2 _ rfl
  have H := Hp.start w0 []
  refine W_seq ?_
  refine W_rg ?_
  refine L_as rfl ?_
  refine L_nil ?_
  refine Th_n ?_
  refine W_seq ?_
  refine W_seq ?_
  refine W_rg ?_
  refine L_mv rfl ?_
  refine L_y rfl (Y_lenS T_sl22 p_0) ?_
  refine L_y rfl (Y_gtr (k := .i64) (a := ((n0 : Nat) : Int)) (b := ((2000 : Nat) : Int)) rfl rfl) ?_
  refine L_mv rfl ?_
  rcases Bool.eq_false_or_eq_true (decide (((2000 : Nat) : Int) < ((n0 : Nat) : Int))) with hb | hb
  ·
    have hb' := of_decide_eq_true hb
    refine G_no (wN (b := false) rfl (congrArg Value.bool hb)) rfl ?_
    refine G_no (wN (b := false) rfl (congrArg Value.bool hb)) rfl ?_
    refine G_no (wN (b := false) rfl (congrArg Value.bool hb)) rfl ?_
    refine L_y rfl (Y_pickT (congrArg Value.bool hb)) ?_
    refine L_mv rfl ?_
    refine G_no (wN (b := false) rfl rfl) rfl ?_
    refine G_no (wN (b := false) rfl rfl) rfl ?_
    refine G_no (wN (b := false) rfl rfl) rfl ?_
    refine G_no (wU rfl rfl) rfl ?_
    refine G_no (wU rfl rfl) rfl ?_
    refine G_no (wN (b := false) rfl rfl) rfl ?_
    refine L_y rfl (Y_pickT rfl) ?_
    refine L_nil ?_
    refine Th_n ?_
    refine W_true rfl ?_
    refine W_seq ?_
    refine W_rg ?_
    refine L_callv rfl rfl T_en8 (A0) (known_n _) ?_
    rintro _ w_2 ⟨rfl, hkp⟩; refine ⟨_, rfl, ?_⟩; have H_2 := H.keep hkp
    refine L_as rfl ?_
    refine L_nil ?_
    refine Th_n ?_
    refine W_ret ?_
    refine Th_r ?_
    refine P_ret (vs := [Value.bool true]) (v := Value.bool true) rfl (.tmp rfl (Res.nil)) rfl ?_
    refine ⟨?_, H_2.nil_⟩
    rfl
  ·
    have hb' := of_decide_eq_false hb
    refine G_mv (wE rfl (congrArg Value.bool hb)) rfl ?_
    refine G_y (wE rfl (congrArg Value.bool hb)) rfl (Y_lenS T_sl22 p_1) ?_
    refine G_y (wE rfl (congrArg Value.bool hb)) rfl (Y_gtr (k := .i64) (a := ((n1 : Nat) : Int)) (b := ((2000 : Nat) : Int)) rfl rfl) ?_
    refine L_y rfl (Y_pickF (congrArg Value.bool hb)) ?_
    refine L_mv rfl ?_
    rcases Bool.eq_false_or_eq_true (decide (((2000 : Nat) : Int) < ((n1 : Nat) : Int))) with hb_2 | hb_2
    ·
      have hb_2' := of_decide_eq_true hb_2
      refine G_no (wN (b := false) rfl (congrArg Value.bool hb_2)) rfl ?_
      refine G_no (wN (b := false) rfl (congrArg Value.bool hb_2)) rfl ?_
      refine G_no (wN (b := false) rfl (congrArg Value.bool hb_2)) rfl ?_
      refine G_no (wU rfl rfl) rfl ?_
      refine G_no (wU rfl rfl) rfl ?_
      refine G_no (wN (b := false) rfl (congrArg Value.bool hb_2)) rfl ?_
      refine L_y rfl (Y_pickT (congrArg Value.bool hb_2)) ?_
      refine L_nil ?_
      refine Th_n ?_
      refine W_true rfl ?_
      refine W_seq ?_
      refine W_rg ?_
      refine L_callv rfl rfl T_en8 (A0) (known_n _) ?_
      rintro _ w_3 ⟨rfl, hkp_2⟩; refine ⟨_, rfl, ?_⟩; have H_3 := H.keep hkp_2
      refine L_as rfl ?_
      refine L_nil ?_
      refine Th_n ?_
      refine W_ret ?_
      refine Th_r ?_
      refine P_ret (vs := [Value.bool true]) (v := Value.bool true) rfl (.tmp rfl (Res.nil)) rfl ?_
      refine ⟨?_, H_3.nil_⟩
      rfl
    ·
      have hb_2' := of_decide_eq_false hb_2
      refine G_mv (wE rfl (congrArg Value.bool hb_2)) rfl ?_
      refine G_y (wE rfl (congrArg Value.bool hb_2)) rfl (Y_gtr (k := .i64) (a := ((n : Nat) : Int)) (b := ((500 : Nat) : Int)) p_2 rfl) ?_
      refine G_mv (wE rfl (congrArg Value.bool hb_2)) rfl ?_
      refine G_mv (wE rfl (congrArg Value.bool (decide_eq_true (by omega)))) rfl ?_
      refine G_y (wE rfl (congrArg Value.bool (decide_eq_true (by omega)))) rfl (Y_leq (k := .i64) (a := ((n : Nat) : Int)) (b := ((8160 : Nat) : Int)) p_2 rfl) ?_
      refine G_y (wE rfl (congrArg Value.bool hb_2)) rfl (Y_pickT (congrArg Value.bool (decide_eq_true (by omega)))) ?_
      refine L_y rfl (Y_pickF (congrArg Value.bool hb_2)) ?_
      refine L_nil ?_
      refine Th_n ?_
      refine W_false (congrArg Value.bool (decide_eq_false (by omega))) ?_
      refine W_skip ?_
      refine Th_n ?_
      refine W_seq ?_
      refine W_rg ?_
      refine L_mv rfl ?_
      refine L_callv rfl rfl T_en11 (A1 p_0) (lent_n _ _ _ l0 hl0 (by omega) _ (hb0.hp H)) ?_
      rintro _ w_4 ⟨la31, lc31, rfl, f31_0, hkp_3⟩; refine ⟨_, rfl, ?_⟩; have H_4 := H.more hkp_3
      refine L_mv rfl ?_
      refine L_callv rfl rfl T_en11 (A1 p_1) (lent_n _ _ _ l1 hl1 (by omega) _ (hb1.hp H_4)) ?_
      rintro _ w_5 ⟨la33, lc33, rfl, f33_0, hkp_4⟩; refine ⟨_, rfl, ?_⟩; have H_5 := H_4.more hkp_4
      refine L_as rfl ?_
      refine L_as rfl ?_
      refine L_nil ?_
      refine Th_n ?_
      refine W_seq ?_
      refine W_rg ?_
      refine L_mv rfl ?_
      refine L_mv rfl ?_
      refine L_mv rfl ?_
      refine L_callv rfl rfl T_en17 (A3 rfl rfl p_2) (expand_long _ _ _ l0 _ _ _ l1 hl0 hl1 (by omega) (by omega) n (by omega) _ ((Sl.own H_5 (i := 1) rfl).pre hb0.len (Nat.le_succ _)) ((Sl.own H_5 (i := 0) rfl).pre hb1.len (Nat.le_succ _))) ?_
      rintro _ w_6 ⟨rfl, hkp_5⟩; refine ⟨_, rfl, ?_⟩; have H_6 := H_5.keep hkp_5
      refine L_mv rfl ?_
      refine L_y rfl (Y_ext rfl rfl) ?_
      refine L_y rfl (Y_ext rfl rfl) ?_
      refine L_as rfl ?_
      refine L_as rfl ?_
      refine L_nil ?_
      refine Th_n ?_
      refine W_seq ?_
      refine W_rg ?_
      refine L_mv rfl ?_
      refine L_mv rfl ?_
      refine L_mv rfl ?_
      refine L_callv rfl rfl T_en18 (A3 p_0 p_1 p_2) (rexpand_long _ _ _ l0 _ _ _ l1 hl0 hl1 (by omega) (by omega) n (by omega) _ (hb0.hp H_6) (hb1.hp H_6)) ?_
      rintro _ w_7 ⟨rfl, hkp_6⟩; refine ⟨_, rfl, ?_⟩; have H_7 := H_6.keep hkp_6
      refine L_mv rfl ?_
      refine L_y rfl (Y_ext rfl rfl) ?_
      refine L_y rfl (Y_ext rfl rfl) ?_
      refine L_as rfl ?_
      refine L_as rfl ?_
      refine L_nil ?_
      refine Th_n ?_
      refine W_seq ?_
      refine W_rg ?_
      refine L_mv rfl ?_
      refine L_mv rfl ?_
      refine L_callv rfl rfl T_en13 (A2 rfl p_0) (kept_n _ _ _ _ _ l0 hl0 (by omega) _ (Sl.own H_7 (i := 1) rfl) (hb0.hp H_7)) ?_
      rintro _ w_8 ⟨rfl, hkp_7⟩; refine ⟨_, rfl, ?_⟩; have H_8 := H_7.keep hkp_7
      refine L_mv rfl ?_
      refine G_mv (wE rfl rfl) rfl ?_
      refine G_mv (wE rfl rfl) rfl ?_
      refine L_callv (wE rfl rfl) rfl T_en13 (A2 rfl p_1) (kept_n _ _ _ _ _ l1 hl1 (by omega) _ (Sl.own H_8 (i := 0) rfl) (hb1.hp H_8)) ?_
      rintro _ w_9 ⟨rfl, hkp_8⟩; refine ⟨_, rfl, ?_⟩; have H_9 := H_8.keep hkp_8
      refine L_y rfl (Y_pickT rfl) ?_
      refine L_mv rfl ?_
      refine G_mv (wE rfl rfl) rfl ?_
      refine G_y (wE rfl rfl) rfl (Y_strL Try.underlying22 Try.underlying5 Try.underlying9 rfl (Sl.nil _ _)) ?_
      refine G_mv (wE rfl rfl) rfl ?_
      refine G_y (wE rfl rfl) rfl (Y_strL Try.underlying22 Try.underlying5 Try.underlying9 rfl (Sl.nil _ _)) ?_
      refine G_y (wE rfl rfl) rfl (Y_eqT (l1 := []) (l2 := []) Try.underlying9 (by decide) (by decide) rfl rfl) ?_
      refine L_y rfl (Y_pickT rfl) ?_
      refine L_mv rfl ?_
      refine G_mv (wE rfl (congrArg Value.bool (decide_eq_true rfl))) rfl ?_
      refine G_mv (wE rfl (congrArg Value.bool (decide_eq_true rfl))) rfl ?_
      refine G_y (wE rfl (congrArg Value.bool (decide_eq_true rfl))) rfl (Y_eql (k := .i64) (a := ((3 : Nat) : Int)) (b := ((3 : Nat) : Int)) rfl rfl) ?_
      refine L_y rfl (Y_pickT (congrArg Value.bool (decide_eq_true rfl))) ?_
      refine L_mv rfl ?_
      refine L_callv (wE rfl (congrArg Value.bool (by decide : (((3 : Nat) : Int) == ((3 : Nat) : Int)) = true))) rfl T_en8 (A0) (known_n _) ?_
      rintro _ w_10 ⟨rfl, hkp_9⟩; refine ⟨_, rfl, ?_⟩; have H_10 := H_9.keep hkp_9
      refine L_y rfl (Y_pickT (congrArg Value.bool (by decide : (((3 : Nat) : Int) == ((3 : Nat) : Int)) = true))) ?_
      refine L_as rfl ?_
      refine L_nil ?_
      refine Th_n ?_
      refine W_ret ?_
      refine P_ret (vs := [Value.bool true]) (v := Value.bool true) rfl (.tmp rfl (Res.nil)) rfl ?_
      refine ⟨?_, H_10.nil_⟩
      rfl

theorem expands_law (a0 : Option Addr) (n0 c0 : Nat) (l0 : List Nat) (a1 : Option Addr) (n1 c1 : Nat) (l1 : List Nat) (hl0 : ∀ u ∈ l0, u < 256) (hl1 : ∀ u ∈ l1, u < 256) (z : Int) (w0 : World) (hb0 : Sl w0 .u8 a0 n0 c0 l0) (hb1 : Sl w0 .u8 a1 n1 c1 l1) :
    Calls Try.prog 5 #[Value.slice a0 n0 c0, Value.slice a1 n1 c1, Value.int .i64 (z)] w0 (fun r_ w' => r_ = .returned (.bool true) ∧ Keep w0 w') := by
  rcases Int.lt_or_le z 0 with hz | hz
  · exact expands_neg a0 n0 c0 l0 a1 n1 c1 l1 hl0 hl1 z hz w0 hb0 hb1
  · obtain ⟨n, rfl⟩ := Int.eq_ofNat_of_zero_le hz
    by_cases h1 : n ≤ 500
    · exact expands_mid a0 n0 c0 l0 a1 n1 c1 l1 hl0 hl1 n h1 w0 hb0 hb1
    · by_cases h2 : n ≤ 8160
      · exact expands_btw a0 n0 c0 l0 a1 n1 c1 l1 hl0 hl1 n (by omega) h2 w0 hb0 hb1
      · exact expands_long a0 n0 c0 l0 a1 n1 c1 l1 hl0 hl1 n (by omega) w0 hb0 hb1
end Go.Proofs.Ytdifogdaiimmoaa
