/- Walks of layers 6 and 7 (sums, macs) and of their references. Printed by mac.py. -/
import Derived.Test.YtdifogdaiimmoaaM11
namespace Go.Proofs.Ytdifogdaiimmoaa
open Go.Ev
set_option maxRecDepth 100000
theorem T_en19 : enters Try.prog 19 = true := by kernel_rfl
theorem T_en20 : enters Try.prog 20 = true := by kernel_rfl
theorem derives_neg (a0 : Option Addr) (n0 c0 : Nat) (l0 : List Nat) (a1 : Option Addr) (n1 c1 : Nat) (l1 : List Nat) (a2 : Option Addr) (n2 c2 : Nat) (l2 : List Nat) (hl0 : ∀ u ∈ l0, u < 256) (hl1 : ∀ u ∈ l1, u < 256) (hl2 : ∀ u ∈ l2, u < 256) (z : Int) (hz : z < 0) (w0 : World) (hb0 : Sl w0 .u8 a0 n0 c0 l0) (hb1 : Sl w0 .u8 a1 n1 c1 l1) (hb2 : Sl w0 .u8 a2 n2 c2 l2) :
    Calls Try.prog 7 #[Value.slice a0 n0 c0, Value.slice a1 n1 c1, Value.slice a2 n2 c2, Value.int .i64 (z)] w0 (fun r_ w' => r_ = .returned (.bool true) ∧ Keep w0 w') := by
  refine F_in Try.func7 rfl Try.ntmps7 rfl ?_
  intro e he
  have p_0 : e 0 = Value.slice a0 n0 c0 := he 0 _ rfl
  have p_1 : e 1 = Value.slice a1 n1 c1 := he 1 _ rfl
  have p_2 : e 2 = Value.slice a2 n2 c2 := he 2 _ rfl
  have p_3 : e 3 = Value.int .i64 (z) := he 3 _ rfl
  have H := Hp.start w0 []
  refine W_seq ?_
  refine W_rg ?_
  refine L_as rfl ?_
  refine L_nil ?_
  refine Th_n ?_
  refine W_seq ?_
  refine W_seq ?_
  refine W_rg ?_
  refine L_mv rfl ?_
  refine L_y rfl (Y_lenS T_sl22 p_0) ?_
  refine L_y rfl (Y_gtr (k := .i64) (a := ((n0 : Nat) : Int)) (b := ((2000 : Nat) : Int)) rfl rfl) ?_
  refine L_mv rfl ?_
  rcases Bool.eq_false_or_eq_true (decide (((2000 : Nat) : Int) < ((n0 : Nat) : Int))) with hb | hb
  ·
    have hb' := of_decide_eq_true hb
    refine G_no (wN (b := false) rfl (congrArg Value.bool hb)) rfl ?_
    refine G_no (wN (b := false) rfl (congrArg Value.bool hb)) rfl ?_
    refine G_no (wN (b := false) rfl (congrArg Value.bool hb)) rfl ?_
    refine L_y rfl (Y_pickT (congrArg Value.bool hb)) ?_
    refine L_mv rfl ?_
    refine G_no (wN (b := false) rfl rfl) rfl ?_
    refine G_no (wN (b := false) rfl rfl) rfl ?_
    refine G_no (wN (b := false) rfl rfl) rfl ?_
    refine L_y rfl (Y_pickT rfl) ?_
    refine L_mv rfl ?_
    refine G_no (wN (b := false) rfl rfl) rfl ?_
    refine G_no (wN (b := false) rfl rfl) rfl ?_
    refine G_no (wN (b := false) rfl rfl) rfl ?_
    refine G_no (wU rfl rfl) rfl ?_
    refine G_no (wU rfl rfl) rfl ?_
    refine G_no (wN (b := false) rfl rfl) rfl ?_
    refine L_y rfl (Y_pickT rfl) ?_
    refine L_nil ?_
    refine Th_n ?_
    refine W_true rfl ?_
    refine W_seq ?_
    refine W_rg ?_
    refine L_callv rfl rfl T_en8 (A0) (known_n _) ?_
    rintro _ w_2 ⟨rfl, hkp⟩; refine ⟨_, rfl, ?_⟩; have H_2 := H.keep hkp
    refine L_as rfl ?_
    refine L_nil ?_
    refine Th_n ?_
    refine W_ret ?_
    refine Th_r ?_
    refine P_ret (vs := [Value.bool true]) (v := Value.bool true) rfl (.tmp rfl (Res.nil)) rfl ?_
    refine ⟨?_, H_2.nil_⟩
    rfl
  ·
    have hb' := of_decide_eq_false hb
    refine G_mv (wE rfl (congrArg Value.bool hb)) rfl ?_
    refine G_y (wE rfl (congrArg Value.bool hb)) rfl (Y_lenS T_sl22 p_1) ?_
    refine G_y (wE rfl (congrArg Value.bool hb)) rfl (Y_gtr (k := .i64) (a := ((n1 : Nat) : Int)) (b := ((2000 : Nat) : Int)) rfl rfl) ?_
    refine L_y rfl (Y_pickF (congrArg Value.bool hb)) ?_
    refine L_mv rfl ?_
    rcases Bool.eq_false_or_eq_true (decide (((2000 : Nat) : Int) < ((n1 : Nat) : Int))) with hb_2 | hb_2
    ·
      have hb_2' := of_decide_eq_true hb_2
      refine G_no (wN (b := false) rfl (congrArg Value.bool hb_2)) rfl ?_
      refine G_no (wN (b := false) rfl (congrArg Value.bool hb_2)) rfl ?_
      refine G_no (wN (b := false) rfl (congrArg Value.bool hb_2)) rfl ?_
      refine L_y rfl (Y_pickT (congrArg Value.bool hb_2)) ?_
      refine L_mv rfl ?_
      refine G_no (wN (b := false) rfl rfl) rfl ?_
      refine G_no (wN (b := false) rfl rfl) rfl ?_
      refine G_no (wN (b := false) rfl rfl) rfl ?_
      refine G_no (wU rfl rfl) rfl ?_
      refine G_no (wU rfl rfl) rfl ?_
      refine G_no (wN (b := false) rfl rfl) rfl ?_
      refine L_y rfl (Y_pickT rfl) ?_
      refine L_nil ?_
      refine Th_n ?_
      refine W_true rfl ?_
      refine W_seq ?_
      refine W_rg ?_
      refine L_callv rfl rfl T_en8 (A0) (known_n _) ?_
      rintro _ w_3 ⟨rfl, hkp_2⟩; refine ⟨_, rfl, ?_⟩; have H_3 := H.keep hkp_2
      refine L_as rfl ?_
      refine L_nil ?_
      refine Th_n ?_
      refine W_ret ?_
      refine Th_r ?_
      refine P_ret (vs := [Value.bool true]) (v := Value.bool true) rfl (.tmp rfl (Res.nil)) rfl ?_
      refine ⟨?_, H_3.nil_⟩
      rfl
    ·
      have hb_2' := of_decide_eq_false hb_2
      refine G_mv (wE rfl (congrArg Value.bool hb_2)) rfl ?_
      refine G_y (wE rfl (congrArg Value.bool hb_2)) rfl (Y_lenS T_sl22 p_2) ?_
      refine G_y (wE rfl (congrArg Value.bool hb_2)) rfl (Y_gtr (k := .i64) (a := ((n2 : Nat) : Int)) (b := ((2000 : Nat) : Int)) rfl rfl) ?_
      refine L_y rfl (Y_pickF (congrArg Value.bool hb_2)) ?_
      refine L_mv rfl ?_
      rcases Bool.eq_false_or_eq_true (decide (((2000 : Nat) : Int) < ((n2 : Nat) : Int))) with hb_3 | hb_3
      ·
        have hb_3' := of_decide_eq_true hb_3
        refine G_no (wN (b := false) rfl (congrArg Value.bool hb_3)) rfl ?_
        refine G_no (wN (b := false) rfl (congrArg Value.bool hb_3)) rfl ?_
        refine G_no (wN (b := false) rfl (congrArg Value.bool hb_3)) rfl ?_
        refine G_no (wU rfl rfl) rfl ?_
        refine G_no (wU rfl rfl) rfl ?_
        refine G_no (wN (b := false) rfl (congrArg Value.bool hb_3)) rfl ?_
        refine L_y rfl (Y_pickT (congrArg Value.bool hb_3)) ?_
        refine L_nil ?_
        refine Th_n ?_
        refine W_true rfl ?_
        refine W_seq ?_
        refine W_rg ?_
        refine L_callv rfl rfl T_en8 (A0) (known_n _) ?_
        rintro _ w_4 ⟨rfl, hkp_3⟩; refine ⟨_, rfl, ?_⟩; have H_4 := H.keep hkp_3
        refine L_as rfl ?_
        refine L_nil ?_
        refine Th_n ?_
        refine W_ret ?_
        refine Th_r ?_
        refine P_ret (vs := [Value.bool true]) (v := Value.bool true) rfl (.tmp rfl (Res.nil)) rfl ?_
        refine ⟨?_, H_4.nil_⟩
        rfl
      ·
        have hb_3' := of_decide_eq_false hb_3
        refine G_mv (wE rfl (congrArg Value.bool hb_3)) rfl ?_
        refine G_y (wE rfl (congrArg Value.bool hb_3)) rfl (Y_gtr (k := .i64) (a := z) (b := ((500 : Nat) : Int)) p_3 rfl) ?_
        refine G_mv (wE rfl (congrArg Value.bool hb_3)) rfl ?_
        refine G_no (wN (b := true) rfl (congrArg Value.bool (decide_eq_false (by omega)))) rfl ?_
        refine G_no (wN (b := true) rfl (congrArg Value.bool (decide_eq_false (by omega)))) rfl ?_
        refine G_y (wE rfl (congrArg Value.bool hb_3)) rfl (Y_pickF (congrArg Value.bool (decide_eq_false (by omega)))) ?_
        refine L_y rfl (Y_pickF (congrArg Value.bool hb_3)) ?_
        refine L_nil ?_
        refine Th_n ?_
        refine W_false rfl ?_
        refine W_skip ?_
        refine Th_n ?_
        refine W_seq ?_
        refine W_rg ?_
        refine L_mv rfl ?_
        refine L_callv rfl rfl T_en11 (A1 p_0) (lent_n _ _ _ l0 hl0 (by omega) _ (hb0.hp H)) ?_
        rintro _ w_5 ⟨la39, lc39, rfl, f39_0, hkp_4⟩; refine ⟨_, rfl, ?_⟩; have H_5 := H.more hkp_4
        refine L_mv rfl ?_
        refine L_callv rfl rfl T_en11 (A1 p_1) (lent_n _ _ _ l1 hl1 (by omega) _ (hb1.hp H_5)) ?_
        rintro _ w_6 ⟨la41, lc41, rfl, f41_0, hkp_5⟩; refine ⟨_, rfl, ?_⟩; have H_6 := H_5.more hkp_5
        refine L_mv rfl ?_
        refine L_callv rfl rfl T_en11 (A1 p_2) (lent_n _ _ _ l2 hl2 (by omega) _ (hb2.hp H_6)) ?_
        rintro _ w_7 ⟨la43, lc43, rfl, f43_0, hkp_6⟩; refine ⟨_, rfl, ?_⟩; have H_7 := H_6.more hkp_6
        refine L_as rfl ?_
        refine L_as rfl ?_
        refine L_as rfl ?_
        refine L_nil ?_
        refine Th_n ?_
        refine W_seq ?_
        refine W_rg ?_
        refine L_mv rfl ?_
        refine L_mv rfl ?_
        refine L_mv rfl ?_
        refine L_mv rfl ?_
        refine L_callv rfl rfl T_en19 (A4 rfl rfl rfl p_3) (derive_neg _ _ _ l0 _ _ _ l1 _ _ _ l2 hl0 hl1 hl2 (by omega) (by omega) (by omega) z hz _ ((Sl.own H_7 (i := 2) rfl).pre hb0.len (Nat.le_succ _)) ((Sl.own H_7 (i := 1) rfl).pre hb1.len (Nat.le_succ _)) ((Sl.own H_7 (i := 0) rfl).pre hb2.len (Nat.le_succ _))) ?_
        rintro _ w_8 ⟨rfl, hkp_7⟩; refine ⟨_, rfl, ?_⟩; have H_8 := H_7.keep hkp_7
        refine L_mv rfl ?_
        refine L_y rfl (Y_ext rfl rfl) ?_
        refine L_y rfl (Y_ext rfl rfl) ?_
        refine L_as rfl ?_
        refine L_as rfl ?_
        refine L_nil ?_
        refine Th_n ?_
        refine W_seq ?_
        refine W_rg ?_
        refine L_mv rfl ?_
        refine L_mv rfl ?_
        refine L_mv rfl ?_
        refine L_mv rfl ?_
        refine L_callv rfl rfl T_en20 (A4 p_0 p_1 p_2 p_3) (rderive_neg _ _ _ l0 _ _ _ l1 _ _ _ l2 hl0 hl1 hl2 (by omega) (by omega) (by omega) z hz _ (hb0.hp H_8) (hb1.hp H_8) (hb2.hp H_8)) ?_
        rintro _ w_9 ⟨rfl, hkp_8⟩; refine ⟨_, rfl, ?_⟩; have H_9 := H_8.keep hkp_8
        refine L_mv rfl ?_
        refine L_y rfl (Y_ext rfl rfl) ?_
        refine L_y rfl (Y_ext rfl rfl) ?_
        refine L_as rfl ?_
        refine L_as rfl ?_
        refine L_nil ?_
        refine Th_n ?_
        refine W_seq ?_
        refine W_rg ?_
        refine L_mv rfl ?_
        refine L_mv rfl ?_
        refine L_callv rfl rfl T_en13 (A2 rfl p_0) (kept_n _ _ _ _ _ l0 hl0 (by omega) _ (Sl.own H_9 (i := 2) rfl) (hb0.hp H_9)) ?_
        rintro _ w_10 ⟨rfl, hkp_9⟩; refine ⟨_, rfl, ?_⟩; have H_10 := H_9.keep hkp_9
        refine L_mv rfl ?_
        refine G_mv (wE rfl rfl) rfl ?_
        refine G_mv (wE rfl rfl) rfl ?_
        refine L_callv (wE rfl rfl) rfl T_en13 (A2 rfl p_1) (kept_n _ _ _ _ _ l1 hl1 (by omega) _ (Sl.own H_10 (i := 1) rfl) (hb1.hp H_10)) ?_
        rintro _ w_11 ⟨rfl, hkp_10⟩; refine ⟨_, rfl, ?_⟩; have H_11 := H_10.keep hkp_10
        refine L_y rfl (Y_pickT rfl) ?_
        refine L_mv rfl ?_
        refine G_mv (wE rfl rfl) rfl ?_
        refine G_mv (wE rfl rfl) rfl ?_
        refine L_callv (wE rfl rfl) rfl T_en13 (A2 rfl p_2) (kept_n _ _ _ _ _ l2 hl2 (by omega) _ (Sl.own H_11 (i := 0) rfl) (hb2.hp H_11)) ?_
        rintro _ w_12 ⟨rfl, hkp_11⟩; refine ⟨_, rfl, ?_⟩; have H_12 := H_11.keep hkp_11
        refine L_y rfl (Y_pickT rfl) ?_
        refine L_mv rfl ?_
        refine G_mv (wE rfl rfl) rfl ?_
        refine G_y (wE rfl rfl) rfl (Y_strL Try.underlying22 Try.underlying5 Try.underlying9 rfl (Sl.nil _ _)) ?_
        refine G_mv (wE rfl rfl) rfl ?_
        refine G_y (wE rfl rfl) rfl (Y_strL Try.underlying22 Try.underlying5 Try.underlying9 rfl (Sl.nil _ _)) ?_
        refine G_y (wE rfl rfl) rfl (Y_eqT (l1 := []) (l2 := []) Try.underlying9 (by decide) (by decide) rfl rfl) ?_
        refine L_y rfl (Y_pickT rfl) ?_
        refine L_mv rfl ?_
        refine G_mv (wE rfl (congrArg Value.bool (decide_eq_true rfl))) rfl ?_
        refine G_mv (wE rfl (congrArg Value.bool (decide_eq_true rfl))) rfl ?_
        refine G_y (wE rfl (congrArg Value.bool (decide_eq_true rfl))) rfl (Y_eql (k := .i64) (a := ((2 : Nat) : Int)) (b := ((2 : Nat) : Int)) rfl rfl) ?_
        refine L_y rfl (Y_pickT (congrArg Value.bool (decide_eq_true rfl))) ?_
        refine L_mv rfl ?_
        refine L_callv (wE rfl (congrArg Value.bool (by decide : (((2 : Nat) : Int) == ((2 : Nat) : Int)) = true))) rfl T_en8 (A0) (known_n _) ?_
        rintro _ w_13 ⟨rfl, hkp_12⟩; refine ⟨_, rfl, ?_⟩; have H_13 := H_12.keep hkp_12
        refine L_y rfl (Y_pickT (congrArg Value.bool (by decide : (((2 : Nat) : Int) == ((2 : Nat) : Int)) = true))) ?_
        refine L_as rfl ?_
        refine L_nil ?_
        refine Th_n ?_
        refine W_ret ?_
        refine P_ret (vs := [Value.bool true]) (v := Value.bool true) rfl (.tmp rfl (Res.nil)) rfl ?_
        refine ⟨?_, H_13.nil_⟩
        rfl

theorem derives_mid (a0 : Option Addr) (n0 c0 : Nat) (l0 : List Nat) (a1 : Option Addr) (n1 c1 : Nat) (l1 : List Nat) (a2 : Option Addr) (n2 c2 : Nat) (l2 : List Nat) (hl0 : ∀ u ∈ l0, u < 256) (hl1 : ∀ u ∈ l1, u < 256) (hl2 : ∀ u ∈ l2, u < 256) (n : Nat) (hn : n ≤ 500) (w0 : World) (hb0 : Sl w0 .u8 a0 n0 c0 l0) (hb1 : Sl w0 .u8 a1 n1 c1 l1) (hb2 : Sl w0 .u8 a2 n2 c2 l2) :
    Calls Try.prog 7 #[Value.slice a0 n0 c0, Value.slice a1 n1 c1, Value.slice a2 n2 c2, Value.int .i64 ((n : Nat) : Int)] w0 (fun r_ w' => r_ = .returned (.bool true) ∧ Keep w0 w') := by
  refine F_in Try.func7 rfl Try.ntmps7 rfl ?_
  intro e he
  have p_0 : e 0 = Value.slice a0 n0 c0 := he 0 _ rfl
  have p_1 : e 1 = Value.slice a1 n1 c1 := he 1 _ rfl
  have p_2 : e 2 = Value.slice a2 n2 c2 := he 2 _ rfl
  have p_3 : e 3 = Value.int .i64 ((n : Nat) : Int) := he 3 _ rfl
  have H := Hp.start w0 []
  refine W_seq ?_
  refine W_rg ?_
  refine L_as rfl ?_
  refine L_nil ?_
  refine Th_n ?_
  refine W_seq ?_
  refine W_seq ?_
  refine W_rg ?_
  refine L_mv rfl ?_
  refine L_y rfl (Y_lenS T_sl22 p_0) ?_
  refine L_y rfl (Y_gtr (k := .i64) (a := ((n0 : Nat) : Int)) (b := ((2000 : Nat) : Int)) rfl rfl) ?_
  refine L_mv rfl ?_
  rcases Bool.eq_false_or_eq_true (decide (((2000 : Nat) : Int) < ((n0 : Nat) : Int))) with hb | hb
  ·
    have hb' := of_decide_eq_true hb
    refine G_no (wN (b := false) rfl (congrArg Value.bool hb)) rfl ?_
    refine G_no (wN (b := false) rfl (congrArg Value.bool hb)) rfl ?_
    refine G_no (wN (b := false) rfl (congrArg Value.bool hb)) rfl ?_
    refine L_y rfl (Y_pickT (congrArg Value.bool hb)) ?_
    refine L_mv rfl ?_
    refine G_no (wN (b := false) rfl rfl) rfl ?_
    refine G_no (wN (b := false) rfl rfl) rfl ?_
    refine G_no (wN (b := false) rfl rfl) rfl ?_
    refine L_y rfl (Y_pickT rfl) ?_
    refine L_mv rfl ?_
    refine G_no (wN (b := false) rfl rfl) rfl ?_
    refine G_no (wN (b := false) rfl rfl) rfl ?_
    refine G_no (wN (b := false) rfl rfl) rfl ?_
    refine G_no (wU rfl rfl) rfl ?_
    refine G_no (wU rfl rfl) rfl ?_
    refine G_no (wN (b := false) rfl rfl) rfl ?_
    refine L_y rfl (Y_pickT rfl) ?_
    refine L_nil ?_
    refine Th_n ?_
    refine W_true rfl ?_
    refine W_seq ?_
    refine W_rg ?_
    refine L_callv rfl rfl T_en8 (A0) (known_n _) ?_
    rintro _ w_2 ⟨rfl, hkp⟩; refine ⟨_, rfl, ?_⟩; have H_2 := H.keep hkp
    refine L_as rfl ?_
    refine L_nil ?_
    refine Th_n ?_
    refine W_ret ?_
    refine Th_r ?_
    refine P_ret (vs := [Value.bool true]) (v := Value.bool true) rfl (.tmp rfl (Res.nil)) rfl ?_
    refine ⟨?_, H_2.nil_⟩
    rfl
  ·
    have hb' := of_decide_eq_false hb
    refine G_mv (wE rfl (congrArg Value.bool hb)) rfl ?_
    refine G_y (wE rfl (congrArg Value.bool hb)) rfl (Y_lenS T_sl22 p_1) ?_
    refine G_y (wE rfl (congrArg Value.bool hb)) rfl (Y_gtr (k := .i64) (a := ((n1 : Nat) : Int)) (b := ((2000 : Nat) : Int)) rfl rfl) ?_
    refine L_y rfl (Y_pickF (congrArg Value.bool hb)) ?_
    refine L_mv rfl ?_
    rcases Bool.eq_false_or_eq_true (decide (((2000 : Nat) : Int) < ((n1 : Nat) : Int))) with hb_2 | hb_2
    ·
      have hb_2' := of_decide_eq_true hb_2
      refine G_no (wN (b := false) rfl (congrArg Value.bool hb_2)) rfl ?_
      refine G_no (wN (b := false) rfl (congrArg Value.bool hb_2)) rfl ?_
      refine G_no (wN (b := false) rfl (congrArg Value.bool hb_2)) rfl ?_
      refine L_y rfl (Y_pickT (congrArg Value.bool hb_2)) ?_
      refine L_mv rfl ?_
      refine G_no (wN (b := false) rfl rfl) rfl ?_
      refine G_no (wN (b := false) rfl rfl) rfl ?_
      refine G_no (wN (b := false) rfl rfl) rfl ?_
      refine G_no (wU rfl rfl) rfl ?_
      refine G_no (wU rfl rfl) rfl ?_
      refine G_no (wN (b := false) rfl rfl) rfl ?_
      refine L_y rfl (Y_pickT rfl) ?_
      refine L_nil ?_
      refine Th_n ?_
      refine W_true rfl ?_
      refine W_seq ?_
      refine W_rg ?_
      refine L_callv rfl rfl T_en8 (A0) (known_n _) ?_
      rintro _ w_3 ⟨rfl, hkp_2⟩; refine ⟨_, rfl, ?_⟩; have H_3 := H.keep hkp_2
      refine L_as rfl ?_
      refine L_nil ?_
      refine Th_n ?_
      refine W_ret ?_
      refine Th_r ?_
      refine P_ret (vs := [Value.bool true]) (v := Value.bool true) rfl (.tmp rfl (Res.nil)) rfl ?_
      refine ⟨?_, H_3.nil_⟩
      rfl
    ·
      have hb_2' := of_decide_eq_false hb_2
      refine G_mv (wE rfl (congrArg Value.bool hb_2)) rfl ?_
      refine G_y (wE rfl (congrArg Value.bool hb_2)) rfl (Y_lenS T_sl22 p_2) ?_
      refine G_y (wE rfl (congrArg Value.bool hb_2)) rfl (Y_gtr (k := .i64) (a := ((n2 : Nat) : Int)) (b := ((2000 : Nat) : Int)) rfl rfl) ?_
      refine L_y rfl (Y_pickF (congrArg Value.bool hb_2)) ?_
      refine L_mv rfl ?_
      rcases Bool.eq_false_or_eq_true (decide (((2000 : Nat) : Int) < ((n2 : Nat) : Int))) with hb_3 | hb_3
      ·
        have hb_3' := of_decide_eq_true hb_3
        refine G_no (wN (b := false) rfl (congrArg Value.bool hb_3)) rfl ?_
        refine G_no (wN (b := false) rfl (congrArg Value.bool hb_3)) rfl ?_
        refine G_no (wN (b := false) rfl (congrArg Value.bool hb_3)) rfl ?_
        refine G_no (wU rfl rfl) rfl ?_
        refine G_no (wU rfl rfl) rfl ?_
        refine G_no (wN (b := false) rfl (congrArg Value.bool hb_3)) rfl ?_
        refine L_y rfl (Y_pickT (congrArg Value.bool hb_3)) ?_
        refine L_nil ?_
        refine Th_n ?_
        refine W_true rfl ?_
        refine W_seq ?_
        refine W_rg ?_
        refine L_callv rfl rfl T_en8 (A0) (known_n _) ?_
        rintro _ w_4 ⟨rfl, hkp_3⟩; refine ⟨_, rfl, ?_⟩; have H_4 := H.keep hkp_3
        refine L_as rfl ?_
        refine L_nil ?_
        refine Th_n ?_
        refine W_ret ?_
        refine Th_r ?_
        refine P_ret (vs := [Value.bool true]) (v := Value.bool true) rfl (.tmp rfl (Res.nil)) rfl ?_
        refine ⟨?_, H_4.nil_⟩
        rfl
      ·
        have hb_3' := of_decide_eq_false hb_3
        refine G_mv (wE rfl (congrArg Value.bool hb_3)) rfl ?_
        refine G_y (wE rfl (congrArg Value.bool hb_3)) rfl (Y_gtr (k := .i64) (a := ((n : Nat) : Int)) (b := ((500 : Nat) : Int)) p_3 rfl) ?_
        refine G_mv (wE rfl (congrArg Value.bool hb_3)) rfl ?_
        refine G_no (wN (b := true) rfl (congrArg Value.bool (decide_eq_false (by omega)))) rfl ?_
        refine G_no (wN (b := true) rfl (congrArg Value.bool (decide_eq_false (by omega)))) rfl ?_
        refine G_y (wE rfl (congrArg Value.bool hb_3)) rfl (Y_pickF (congrArg Value.bool (decide_eq_false (by omega)))) ?_
        refine L_y rfl (Y_pickF (congrArg Value.bool hb_3)) ?_
        refine L_nil ?_
        refine Th_n ?_
        refine W_false rfl ?_
        refine W_skip ?_
        refine Th_n ?_
        refine W_seq ?_
        refine W_rg ?_
        refine L_mv rfl ?_
        refine L_callv rfl rfl T_en11 (A1 p_0) (lent_n _ _ _ l0 hl0 (by omega) _ (hb0.hp H)) ?_
        rintro _ w_5 ⟨la39, lc39, rfl, f39_0, hkp_4⟩; refine ⟨_, rfl, ?_⟩; have H_5 := H.more hkp_4
        refine L_mv rfl ?_
        refine L_callv rfl rfl T_en11 (A1 p_1) (lent_n _ _ _ l1 hl1 (by omega) _ (hb1.hp H_5)) ?_
        rintro _ w_6 ⟨la41, lc41, rfl, f41_0, hkp_5⟩; refine ⟨_, rfl, ?_⟩; have H_6 := H_5.more hkp_5
        refine L_mv rfl ?_
        refine L_callv rfl rfl T_en11 (A1 p_2) (lent_n _ _ _ l2 hl2 (by omega) _ (hb2.hp H_6)) ?_
        rintro _ w_7 ⟨la43, lc43, rfl, f43_0, hkp_6⟩; refine ⟨_, rfl, ?_⟩; have H_7 := H_6.more hkp_6
        refine L_as rfl ?_
        refine L_as rfl ?_
        refine L_as rfl ?_
        refine L_nil ?_
        refine Th_n ?_
        refine W_seq ?_
        refine W_rg ?_
        refine L_mv rfl ?_
        refine L_mv rfl ?_
        refine L_mv rfl ?_
        refine L_mv rfl ?_
        refine L_callv rfl rfl T_en19 (A4 rfl rfl rfl p_3) (derive_n _ _ _ l0 _ _ _ l1 _ _ _ l2 hl0 hl1 hl2 (by omega) (by omega) (by omega) n (by omega) _ ((Sl.own H_7 (i := 2) rfl).pre hb0.len (Nat.le_succ _)) ((Sl.own H_7 (i := 1) rfl).pre hb1.len (Nat.le_succ _)) ((Sl.own H_7 (i := 0) rfl).pre hb2.len (Nat.le_succ _))) ?_
        rintro _ w_8 ⟨ea49, eM49, ec49, eL49, rfl, f49_0, f49_1, hkp_7⟩; refine ⟨_, rfl, ?_⟩; have H_8 := H_7.more hkp_7
        refine L_mv rfl ?_
        refine L_y rfl (Y_ext rfl rfl) ?_
        refine L_y rfl (Y_ext rfl rfl) ?_
        refine L_as rfl ?_
        refine L_as rfl ?_
        refine L_nil ?_
        refine Th_n ?_
        refine W_seq ?_
        refine W_rg ?_
        refine L_mv rfl ?_
        refine L_mv rfl ?_
        refine L_mv rfl ?_
        refine L_mv rfl ?_
        refine L_callv rfl rfl T_en20 (A4 p_0 p_1 p_2 p_3) (rderive_n _ _ _ l0 _ _ _ l1 _ _ _ l2 hl0 hl1 hl2 (by omega) (by omega) (by omega) n (by omega) _ (hb0.hp H_8) (hb1.hp H_8) (hb2.hp H_8)) ?_
        rintro _ w_9 ⟨ea57, ec57, rfl, hkp_8⟩; refine ⟨_, rfl, ?_⟩; have H_9 := H_8.more hkp_8
        refine L_mv rfl ?_
        refine L_y rfl (Y_ext rfl rfl) ?_
        refine L_y rfl (Y_ext rfl rfl) ?_
        refine L_as rfl ?_
        refine L_as rfl ?_
        refine L_nil ?_
        refine Th_n ?_
        refine W_seq ?_
        refine W_rg ?_
        refine L_mv rfl ?_
        refine L_mv rfl ?_
        refine L_callv rfl rfl T_en13 (A2 rfl p_0) (kept_n _ _ _ _ _ l0 hl0 (by omega) _ (Sl.own H_9 (i := 4) rfl) (hb0.hp H_9)) ?_
        rintro _ w_10 ⟨rfl, hkp_9⟩; refine ⟨_, rfl, ?_⟩; have H_10 := H_9.keep hkp_9
        refine L_mv rfl ?_
        refine G_mv (wE rfl rfl) rfl ?_
        refine G_mv (wE rfl rfl) rfl ?_
        refine L_callv (wE rfl rfl) rfl T_en13 (A2 rfl p_1) (kept_n _ _ _ _ _ l1 hl1 (by omega) _ (Sl.own H_10 (i := 3) rfl) (hb1.hp H_10)) ?_
        rintro _ w_11 ⟨rfl, hkp_10⟩; refine ⟨_, rfl, ?_⟩; have H_11 := H_10.keep hkp_10
        refine L_y rfl (Y_pickT rfl) ?_
        refine L_mv rfl ?_
        refine G_mv (wE rfl rfl) rfl ?_
        refine G_mv (wE rfl rfl) rfl ?_
        refine L_callv (wE rfl rfl) rfl T_en13 (A2 rfl p_2) (kept_n _ _ _ _ _ l2 hl2 (by omega) _ (Sl.own H_11 (i := 2) rfl) (hb2.hp H_11)) ?_
        rintro _ w_12 ⟨rfl, hkp_11⟩; refine ⟨_, rfl, ?_⟩; have H_12 := H_11.keep hkp_11
        refine L_y rfl (Y_pickT rfl) ?_
        refine L_mv rfl ?_
        refine G_mv (wE rfl rfl) rfl ?_
        refine G_y (wE rfl rfl) rfl (Y_strL Try.underlying22 Try.underlying5 Try.underlying9 rfl (((Sl.own H_12 (i := 1) rfl).tk3 f49_1).as f49_0)) ?_
        refine G_mv (wE rfl rfl) rfl ?_
        refine G_y (wE rfl rfl) rfl (Y_strL Try.underlying22 Try.underlying5 Try.underlying9 rfl (Sl.own H_12 (i := 0) rfl)) ?_
        refine G_y (wE rfl rfl) rfl (Y_eqT (l1 := Sm.expand (Sm.hmac Sm.k256 l0 l1) l2 n) (l2 := Sm.expand (Sm.hmac Sm.k256 l0 l1) l2 n) Try.underlying9 (Sm.expand_lt _ _ _) (Sm.expand_lt _ _ _) rfl rfl) ?_
        refine L_y rfl (Y_pickT rfl) ?_
        refine L_mv rfl ?_
        refine G_mv (wE rfl (congrArg Value.bool (decide_eq_true rfl))) rfl ?_
        refine G_mv (wE rfl (congrArg Value.bool (decide_eq_true rfl))) rfl ?_
        refine G_y (wE rfl (congrArg Value.bool (decide_eq_true rfl))) rfl (Y_eql (k := .i64) (a := ((0 : Nat) : Int)) (b := ((0 : Nat) : Int)) rfl rfl) ?_
        refine L_y rfl (Y_pickT (congrArg Value.bool (decide_eq_true rfl))) ?_
        refine L_mv rfl ?_
        refine L_callv (wE rfl (congrArg Value.bool (by decide : (((0 : Nat) : Int) == ((0 : Nat) : Int)) = true))) rfl T_en8 (A0) (known_n _) ?_
        rintro _ w_13 ⟨rfl, hkp_12⟩; refine ⟨_, rfl, ?_⟩; have H_13 := H_12.keep hkp_12
        refine L_y rfl (Y_pickT (congrArg Value.bool (by decide : (((0 : Nat) : Int) == ((0 : Nat) : Int)) = true))) ?_
        refine L_as rfl ?_
        refine L_nil ?_
        refine Th_n ?_
        refine W_ret ?_
        refine P_ret (vs := [Value.bool true]) (v := Value.bool true) rfl (.tmp rfl (Res.nil)) rfl ?_
        refine ⟨?_, H_13.nil_⟩
        rfl

theorem derives_btw (a0 : Option Addr) (n0 c0 : Nat) (l0 : List Nat) (a1 : Option Addr) (n1 c1 : Nat) (l1 : List Nat) (a2 : Option Addr) (n2 c2 : Nat) (l2 : List Nat) (hl0 : ∀ u ∈ l0, u < 256) (hl1 : ∀ u ∈ l1, u < 256) (hl2 : ∀ u ∈ l2, u < 256) (n : Nat) (hn : 500 < n) (hn' : n ≤ 8160) (w0 : World) (hb0 : Sl w0 .u8 a0 n0 c0 l0) (hb1 : Sl w0 .u8 a1 n1 c1 l1) (hb2 : Sl w0 .u8 a2 n2 c2 l2) :
    Calls Try.prog 7 #[Value.slice a0 n0 c0, Value.slice a1 n1 c1, Value.slice a2 n2 c2, Value.int .i64 ((n : Nat) : Int)] w0 (fun r_ w' => r_ = .returned (.bool true) ∧ Keep w0 w') := by
  refine F_in Try.func7 rfl Try.ntmps7 rfl ?_
  intro e he
  have p_0 : e 0 = Value.slice a0 n0 c0 := he 0 _ rfl
  have p_1 : e 1 = Value.slice a1 n1 c1 := he 1 _ rfl
  have p_2 : e 2 = Value.slice a2 n2 c2 := he 2 _ rfl
  have p_3 : e 3 = Value.int .i64 ((n : Nat) : Int) := he 3 _ rfl
  have H := Hp.start w0 []
  refine W_seq ?_
  refine W_rg ?_
  refine L_as rfl ?_
  refine L_nil ?_
  refine Th_n ?_
  refine W_seq ?_
  refine W_seq ?_
  refine W_rg ?_
  refine L_mv rfl ?_
  refine L_y rfl (Y_lenS T_sl22 p_0) ?_
  refine L_y rfl (Y_gtr (k := .i64) (a := ((n0 : Nat) : Int)) (b := ((2000 : Nat) : Int)) rfl rfl) ?_
  refine L_mv rfl ?_
  rcases Bool.eq_false_or_eq_true (decide (((2000 : Nat) : Int) < ((n0 : Nat) : Int))) with hb | hb
  ·
    have hb' := of_decide_eq_true hb
    refine G_no (wN (b := false) rfl (congrArg Value.bool hb)) rfl ?_
    refine G_no (wN (b := false) rfl (congrArg Value.bool hb)) rfl ?_
    refine G_no (wN (b := false) rfl (congrArg Value.bool hb)) rfl ?_
    refine L_y rfl (Y_pickT (congrArg Value.bool hb)) ?_
    refine L_mv rfl ?_
    refine G_no (wN (b := false) rfl rfl) rfl ?_
    refine G_no (wN (b := false) rfl rfl) rfl ?_
    refine G_no (wN (b := false) rfl rfl) rfl ?_
    refine L_y rfl (Y_pickT rfl) ?_
    refine L_mv rfl ?_
    refine G_no (wN (b := false) rfl rfl) rfl ?_
    refine G_no (wN (b := false) rfl rfl) rfl ?_
    refine G_no (wN (b := false) rfl rfl) rfl ?_
    refine G_no (wU rfl rfl) rfl ?_
    refine G_no (wU rfl rfl) rfl ?_
    refine G_no (wN (b := false) rfl rfl) rfl ?_
    refine L_y rfl (Y_pickT rfl) ?_
    refine L_nil ?_
    refine Th_n ?_
    refine W_true rfl ?_
    refine W_seq ?_
    refine W_rg ?_
    refine L_callv rfl rfl T_en8 (A0) (known_n _) ?_
    rintro _ w_2 ⟨rfl, hkp⟩; refine ⟨_, rfl, ?_⟩; have H_2 := H.keep hkp
    refine L_as rfl ?_
    refine L_nil ?_
    refine Th_n ?_
    refine W_ret ?_
    refine Th_r ?_
    refine P_ret (vs := [Value.bool true]) (v := Value.bool true) rfl (.tmp rfl (Res.nil)) rfl ?_
    refine ⟨?_, H_2.nil_⟩
    rfl
  ·
    have hb' := of_decide_eq_false hb
    refine G_mv (wE rfl (congrArg Value.bool hb)) rfl ?_
    refine G_y (wE rfl (congrArg Value.bool hb)) rfl (Y_lenS T_sl22 p_1) ?_
    refine G_y (wE rfl (congrArg Value.bool hb)) rfl (Y_gtr (k := .i64) (a := ((n1 : Nat) : Int)) (b := ((2000 : Nat) : Int)) rfl rfl) ?_
    refine L_y rfl (Y_pickF (congrArg Value.bool hb)) ?_
    refine L_mv rfl ?_
    rcases Bool.eq_false_or_eq_true (decide (((2000 : Nat) : Int) < ((n1 : Nat) : Int))) with hb_2 | hb_2
    ·
      have hb_2' := of_decide_eq_true hb_2
      refine G_no (wN (b := false) rfl (congrArg Value.bool hb_2)) rfl ?_
      refine G_no (wN (b := false) rfl (congrArg Value.bool hb_2)) rfl ?_
      refine G_no (wN (b := false) rfl (congrArg Value.bool hb_2)) rfl ?_
      refine L_y rfl (Y_pickT (congrArg Value.bool hb_2)) ?_
      refine L_mv rfl ?_
      refine G_no (wN (b := false) rfl rfl) rfl ?_
      refine G_no (wN (b := false) rfl rfl) rfl ?_
      refine G_no (wN (b := false) rfl rfl) rfl ?_
      refine G_no (wU rfl rfl) rfl ?_
      refine G_no (wU rfl rfl) rfl ?_
      refine G_no (wN (b := false) rfl rfl) rfl ?_
      refine L_y rfl (Y_pickT rfl) ?_
      refine L_nil ?_
      refine Th_n ?_
      refine W_true rfl ?_
      refine W_seq ?_
      refine W_rg ?_
      refine L_callv rfl rfl T_en8 (A0) (known_n _) ?_
      rintro _ w_3 ⟨rfl, hkp_2⟩; refine ⟨_, rfl, ?_⟩; have H_3 := H.keep hkp_2
      refine L_as rfl ?_
      refine L_nil ?_
      refine Th_n ?_
      refine W_ret ?_
      refine Th_r ?_
      refine P_ret (vs := [Value.bool true]) (v := Value.bool true) rfl (.tmp rfl (Res.nil)) rfl ?_
      refine ⟨?_, H_3.nil_⟩
      rfl
    ·
      have hb_2' := of_decide_eq_false hb_2
      refine G_mv (wE rfl (congrArg Value.bool hb_2)) rfl ?_
      refine G_y (wE rfl (congrArg Value.bool hb_2)) rfl (Y_lenS T_sl22 p_2) ?_
      refine G_y (wE rfl (congrArg Value.bool hb_2)) rfl (Y_gtr (k := .i64) (a := ((n2 : Nat) : Int)) (b := ((2000 : Nat) : Int)) rfl rfl) ?_
      refine L_y rfl (Y_pickF (congrArg Value.bool hb_2)) ?_
      refine L_mv rfl ?_
      rcases Bool.eq_false_or_eq_true (decide (((2000 : Nat) : Int) < ((n2 : Nat) : Int))) with hb_3 | hb_3
      ·
        have hb_3' := of_decide_eq_true hb_3
        refine G_no (wN (b := false) rfl (congrArg Value.bool hb_3)) rfl ?_
        refine G_no (wN (b := false) rfl (congrArg Value.bool hb_3)) rfl ?_
        refine G_no (wN (b := false) rfl (congrArg Value.bool hb_3)) rfl ?_
        refine G_no (wU rfl rfl) rfl ?_
        refine G_no (wU rfl rfl) rfl ?_
        refine G_no (wN (b := false) rfl (congrArg Value.bool hb_3)) rfl ?_
        refine L_y rfl (Y_pickT (congrArg Value.bool hb_3)) ?_
        refine L_nil ?_
        refine Th_n ?_
        refine W_true rfl ?_
        refine W_seq ?_
        refine W_rg ?_
        refine L_callv rfl rfl T_en8 (A0) (known_n _) ?_
        rintro _ w_4 ⟨rfl, hkp_3⟩; refine ⟨_, rfl, ?_⟩; have H_4 := H.keep hkp_3
        refine L_as rfl ?_
        refine L_nil ?_
        refine Th_n ?_
        refine W_ret ?_
        refine Th_r ?_
        refine P_ret (vs := [Value.bool true]) (v := Value.bool true) rfl (.tmp rfl (Res.nil)) rfl ?_
        refine ⟨?_, H_4.nil_⟩
        rfl
      ·
        have hb_3' := of_decide_eq_false hb_3
        refine G_mv (wE rfl (congrArg Value.bool hb_3)) rfl ?_
        refine G_y (wE rfl (congrArg Value.bool hb_3)) rfl (Y_gtr (k := .i64) (a := ((n : Nat) : Int)) (b := ((500 : Nat) : Int)) p_3 rfl) ?_
        refine G_mv (wE rfl (congrArg Value.bool hb_3)) rfl ?_
        refine G_mv (wE rfl (congrArg Value.bool (decide_eq_true (by omega)))) rfl ?_
        refine G_y (wE rfl (congrArg Value.bool (decide_eq_true (by omega)))) rfl (Y_leq (k := .i64) (a := ((n : Nat) : Int)) (b := ((8160 : Nat) : Int)) p_3 rfl) ?_
        refine G_y (wE rfl (congrArg Value.bool hb_3)) rfl (Y_pickT (congrArg Value.bool (decide_eq_true (by omega)))) ?_
        refine L_y rfl (Y_pickF (congrArg Value.bool hb_3)) ?_
        refine L_nil ?_
        refine Th_n ?_
        refine W_true (congrArg Value.bool (decide_eq_true (by omega))) ?_
        refine W_seq ?_
        refine W_rg ?_
        refine L_callv rfl rfl T_en8 (A0) (known_n _) ?_
        rintro _ w_5 ⟨rfl, hkp_4⟩; refine ⟨_, rfl, ?_⟩; have H_5 := H.keep hkp_4
        refine L_as rfl ?_
        refine L_nil ?_
        refine Th_n ?_
        refine W_ret ?_
        refine Th_r ?_
        refine P_ret (vs := [Value.bool true]) (v := Value.bool true) rfl (.tmp rfl (Res.nil)) rfl ?_
        refine ⟨?_, H_5.nil_⟩
        rfl

theorem derives_long (a0 : Option Addr) (n0 c0 : Nat) (l0 : List Nat) (a1 : Option Addr) (n1 c1 : Nat) (l1 : List Nat) (a2 : Option Addr) (n2 c2 : Nat) (l2 : List Nat) (hl0 : ∀ u ∈ l0, u < 256) (hl1 : ∀ u ∈ l1, u < 256) (hl2 : ∀ u ∈ l2, u < 256) (n : Nat) (hn : 8160 < n) (w0 : World) (hb0 : Sl w0 .u8 a0 n0 c0 l0) (hb1 : Sl w0 .u8 a1 n1 c1 l1) (hb2 : Sl w0 .u8 a2 n2 c2 l2) :
    Calls Try.prog 7 #[Value.slice a0 n0 c0, Value.slice a1 n1 c1, Value.slice a2 n2 c2, Value.int .i64 ((n : Nat) : Int)] w0 (fun r_ w' => r_ = .returned (.bool true) ∧ Keep w0 w') := by
  refine F_in Try.func7 rfl Try.ntmps7 rfl ?_
  intro e he
  have p_0 : e 0 = Value.slice a0 n0 c0 := he 0 _ rfl
  have p_1 : e 1 = Value.slice a1 n1 c1 := he 1 _ rfl
  have p_2 : e 2 = Value.slice a2 n2 c2 := he 2 _ rfl
  have p_3 : e 3 = Value.int .i64 ((n : Nat) : Int) := he 3 _ rfl
  have H := Hp.start w0 []
  refine W_seq ?_
  refine W_rg ?_
  refine L_as rfl ?_
  refine L_nil ?_
  refine Th_n ?_
  refine W_seq ?_
  refine W_seq ?_
  refine W_rg ?_
  refine L_mv rfl ?_
  refine L_y rfl (Y_lenS T_sl22 p_0) ?_
  refine L_y rfl (Y_gtr (k := .i64) (a := ((n0 : Nat) : Int)) (b := ((2000 : Nat) : Int)) rfl rfl) ?_
  refine L_mv rfl ?_
  rcases Bool.eq_false_or_eq_true (decide (((2000 : Nat) : Int) < ((n0 : Nat) : Int))) with hb | hb
  ·
    have hb' := of_decide_eq_true hb
    refine G_no (wN (b := false) rfl (congrArg Value.bool hb)) rfl ?_
    refine G_no (wN (b := false) rfl (congrArg Value.bool hb)) rfl ?_
    refine G_no (wN (b := false) rfl (congrArg Value.bool hb)) rfl ?_
    refine L_y rfl (Y_pickT (congrArg Value.bool hb)) ?_
    refine L_mv rfl ?_
    refine G_no (wN (b := false) rfl rfl) rfl ?_
    refine G_no (wN (b := false) rfl rfl) rfl ?_
    refine G_no (wN (b := false) rfl rfl) rfl ?_
    refine L_y rfl (Y_pickT rfl) ?_
    refine L_mv rfl ?_
    refine G_no (wN (b := false) rfl rfl) rfl ?_
    refine G_no (wN (b := false) rfl rfl) rfl ?_
    refine G_no (wN (b := false) rfl rfl) rfl ?_
    refine G_no (wU rfl rfl) rfl ?_
    refine G_no (wU rfl rfl) rfl ?_
    refine G_no (wN (b := false) rfl rfl) rfl ?_
    refine L_y rfl (Y_pickT rfl) ?_
    refine L_nil ?_
    refine Th_n ?_
    refine W_true rfl ?_
    refine W_seq ?_
    refine W_rg ?_
    refine L_callv rfl rfl T_en8 (A0) (known_n _) ?_
    rintro _ w_2 ⟨rfl, hkp⟩; refine ⟨_, rfl, ?_⟩; have H_2 := H.keep hkp
    refine L_as rfl ?_
    refine L_nil ?_
    refine Th_n ?_
    refine W_ret ?_
    refine Th_r ?_
    refine P_ret (vs := [Value.bool true]) (v := Value.bool true) rfl (.tmp rfl (Res.nil)) rfl ?_
    refine ⟨?_, H_2.nil_⟩
    rfl
  ·
    have hb' := of_decide_eq_false hb
    refine G_mv (wE rfl (congrArg Value.bool hb)) rfl ?_
    refine G_y (wE rfl (congrArg Value.bool hb)) rfl (Y_lenS T_sl22 p_1) ?_
    refine G_y (wE rfl (congrArg Value.bool hb)) rfl (Y_gtr (k := .i64) (a := ((n1 : Nat) : Int)) (b := ((2000 : Nat) : Int)) rfl rfl) ?_
    refine L_y rfl (Y_pickF (congrArg Value.bool hb)) ?_
    refine L_mv rfl ?_
    rcases Bool.eq_false_or_eq_true (decide (((2000 : Nat) : Int) < ((n1 : Nat) : Int))) with hb_2 | hb_2
    ·
      have hb_2' := of_decide_eq_true hb_2
      refine G_no (wN (b := false) rfl (congrArg Value.bool hb_2)) rfl ?_
      refine G_no (wN (b := false) rfl (congrArg Value.bool hb_2)) rfl ?_
      refine G_no (wN (b := false) rfl (congrArg Value.bool hb_2)) rfl ?_
      refine L_y rfl (Y_pickT (congrArg Value.bool hb_2)) ?_
      refine L_mv rfl ?_
      refine G_no (wN (b := false) rfl rfl) rfl ?_
      refine G_no (wN (b := false) rfl rfl) rfl ?_
      refine G_no (wN (b := false) rfl rfl) rfl ?_
      refine G_no (wU rfl rfl) rfl ?_
      refine G_no (wU rfl rfl) rfl ?_
      refine G_no (wN (b := false) rfl rfl) rfl ?_
      refine L_y rfl (Y_pickT rfl) ?_
      refine L_nil ?_
      refine Th_n ?_
      refine W_true rfl ?_
      refine W_seq ?_
      refine W_rg ?_
      refine L_callv rfl rfl T_en8 (A0) (known_n _) ?_
      rintro _ w_3 ⟨rfl, hkp_2⟩; refine ⟨_, rfl, ?_⟩; have H_3 := H.keep hkp_2
      refine L_as rfl ?_
      refine L_nil ?_
      refine Th_n ?_
      refine W_ret ?_
      refine Th_r ?_
      refine P_ret (vs := [Value.bool true]) (v := Value.bool true) rfl (.tmp rfl (Res.nil)) rfl ?_
      refine ⟨?_, H_3.nil_⟩
      rfl
    ·
      have hb_2' := of_decide_eq_false hb_2
      refine G_mv (wE rfl (congrArg Value.bool hb_2)) rfl ?_
      refine G_y (wE rfl (congrArg Value.bool hb_2)) rfl (Y_lenS T_sl22 p_2) ?_
      refine G_y (wE rfl (congrArg Value.bool hb_2)) rfl (Y_gtr (k := .i64) (a := ((n2 : Nat) : Int)) (b := ((2000 : Nat) : Int)) rfl rfl) ?_
      refine L_y rfl (Y_pickF (congrArg Value.bool hb_2)) ?_
      refine L_mv rfl ?_
      rcases Bool.eq_false_or_eq_true (decide (((2000 : Nat) : Int) < ((n2 : Nat) : Int))) with hb_3 | hb_3
      ·
        have hb_3' := of_decide_eq_true hb_3
        refine G_no (wN (b := false) rfl (congrArg Value.bool hb_3)) rfl ?_
        refine G_no (wN (b := false) rfl (congrArg Value.bool hb_3)) rfl ?_
        refine G_no (wN (b := false) rfl (congrArg Value.bool hb_3)) rfl ?_
        refine G_no (wU rfl rfl) rfl ?_
        refine G_no (wU rfl rfl) rfl ?_
        refine G_no (wN (b := false) rfl (congrArg Value.bool hb_3)) rfl ?_
        refine L_y rfl (Y_pickT (congrArg Value.bool hb_3)) ?_
        refine L_nil ?_
        refine Th_n ?_
        refine W_true rfl ?_
        refine W_seq ?_
        refine W_rg ?_
        refine L_callv rfl rfl T_en8 (A0) (known_n _) ?_
        rintro _ w_4 ⟨rfl, hkp_3⟩; refine ⟨_, rfl, ?_⟩; have H_4 := H.keep hkp_3
        refine L_as rfl ?_
        refine L_nil ?_
        refine Th_n ?_
        refine W_ret ?_
        refine Th_r ?_
        refine P_ret (vs := [Value.bool true]) (v := Value.bool true) rfl (.tmp rfl (Res.nil)) rfl ?_
        refine ⟨?_, H_4.nil_⟩
        rfl
      ·
        have hb_3' := of_decide_eq_false hb_3
        refine G_mv (wE rfl (congrArg Value.bool hb_3)) rfl ?_
        refine G_y (wE rfl (congrArg Value.bool hb_3)) rfl (Y_gtr (k := .i64) (a := ((n : Nat) : Int)) (b := ((500 : Nat) : Int)) p_3 rfl) ?_
        refine G_mv (wE rfl (congrArg Value.bool hb_3)) rfl ?_
        refine G_mv (wE rfl (congrArg Value.bool (decide_eq_true (by omega)))) rfl ?_
        refine G_y (wE rfl (congrArg Value.bool (decide_eq_true (by omega)))) rfl (Y_leq (k := .i64) (a := ((n : Nat) : Int)) (b := ((8160 : Nat) : Int)) p_3 rfl) ?_
        refine G_y (wE rfl (congrArg Value.bool hb_3)) rfl (Y_pickT (congrArg Value.bool (decide_eq_true (by omega)))) ?_
        refine L_y rfl (Y_pickF (congrArg Value.bool hb_3)) ?_
        refine L_nil ?_
        refine Th_n ?_
        refine W_false (congrArg Value.bool (decide_eq_false (by omega))) ?_
        refine W_skip ?_
        refine Th_n ?_
        refine W_seq ?_
        refine W_rg ?_
        refine L_mv rfl ?_
        refine L_callv rfl rfl T_en11 (A1 p_0) (lent_n _ _ _ l0 hl0 (by omega) _ (hb0.hp H)) ?_
        rintro _ w_5 ⟨la39, lc39, rfl, f39_0, hkp_4⟩; refine ⟨_, rfl, ?_⟩; have H_5 := H.more hkp_4
        refine L_mv rfl ?_
        refine L_callv rfl rfl T_en11 (A1 p_1) (lent_n _ _ _ l1 hl1 (by omega) _ (hb1.hp H_5)) ?_
        rintro _ w_6 ⟨la41, lc41, rfl, f41_0, hkp_5⟩; refine ⟨_, rfl, ?_⟩; have H_6 := H_5.more hkp_5
        refine L_mv rfl ?_
        refine L_callv rfl rfl T_en11 (A1 p_2) (lent_n _ _ _ l2 hl2 (by omega) _ (hb2.hp H_6)) ?_
        rintro _ w_7 ⟨la43, lc43, rfl, f43_0, hkp_6⟩; refine ⟨_, rfl, ?_⟩; have H_7 := H_6.more hkp_6
        refine L_as rfl ?_
        refine L_as rfl ?_
        refine L_as rfl ?_
        refine L_nil ?_
        refine Th_n ?_
        refine W_seq ?_
        refine W_rg ?_
        refine L_mv rfl ?_
        refine L_mv rfl ?_
        refine L_mv rfl ?_
        refine L_mv rfl ?_
        refine L_callv rfl rfl T_en19 (A4 rfl rfl rfl p_3) (derive_long _ _ _ l0 _ _ _ l1 _ _ _ l2 hl0 hl1 hl2 (by omega) (by omega) (by omega) n (by omega) _ ((Sl.own H_7 (i := 2) rfl).pre hb0.len (Nat.le_succ _)) ((Sl.own H_7 (i := 1) rfl).pre hb1.len (Nat.le_succ _)) ((Sl.own H_7 (i := 0) rfl).pre hb2.len (Nat.le_succ _))) ?_
        rintro _ w_8 ⟨rfl, hkp_7⟩; refine ⟨_, rfl, ?_⟩; have H_8 := H_7.keep hkp_7
        refine L_mv rfl ?_
        refine L_y rfl (Y_ext rfl rfl) ?_
        refine L_y rfl (Y_ext rfl rfl) ?_
        refine L_as rfl ?_
        refine L_as rfl ?_
        refine L_nil ?_
        refine Th_n ?_
        refine W_seq ?_
        refine W_rg ?_
        refine L_mv rfl ?_
        refine L_mv rfl ?_
        refine L_mv rfl ?_
        refine L_mv rfl ?_
        refine L_callv rfl rfl T_en20 (A4 p_0 p_1 p_2 p_3) (rderive_long _ _ _ l0 _ _ _ l1 _ _ _ l2 hl0 hl1 hl2 (by omega) (by omega) (by omega) n (by omega) _ (hb0.hp H_8) (hb1.hp H_8) (hb2.hp H_8)) ?_
        rintro _ w_9 ⟨rfl, hkp_8⟩; refine ⟨_, rfl, ?_⟩; have H_9 := H_8.keep hkp_8
        refine L_mv rfl ?_
        refine L_y rfl (Y_ext rfl rfl) ?_
        refine L_y rfl (Y_ext rfl rfl) ?_
        refine L_as rfl ?_
        refine L_as rfl ?_
        refine L_nil ?_
        refine Th_n ?_
        refine W_seq ?_
        refine W_rg ?_
        refine L_mv rfl ?_
        refine L_mv rfl ?_
        refine L_callv rfl rfl T_en13 (A2 rfl p_0) (kept_n _ _ _ _ _ l0 hl0 (by omega) _ (Sl.own H_9 (i := 2) rfl) (hb0.hp H_9)) ?_
        rintro _ w_10 ⟨rfl, hkp_9⟩; refine ⟨_, rfl, ?_⟩; have H_10 := H_9.keep hkp_9
        refine L_mv rfl ?_
        refine G_mv (wE rfl rfl) rfl ?_
        refine G_mv (wE rfl rfl) rfl ?_
        refine L_callv (wE rfl rfl) rfl T_en13 (A2 rfl p_1) (kept_n _ _ _ _ _ l1 hl1 (by omega) _ (Sl.own H_10 (i := 1) rfl) (hb1.hp H_10)) ?_
        rintro _ w_11 ⟨rfl, hkp_10⟩; refine ⟨_, rfl, ?_⟩; have H_11 := H_10.keep hkp_10
        refine L_y rfl (Y_pickT rfl) ?_
        refine L_mv rfl ?_
        refine G_mv (wE rfl rfl) rfl ?_
        refine G_mv (wE rfl rfl) rfl ?_
        refine L_callv (wE rfl rfl) rfl T_en13 (A2 rfl p_2) (kept_n _ _ _ _ _ l2 hl2 (by omega) _ (Sl.own H_11 (i := 0) rfl) (hb2.hp H_11)) ?_
        rintro _ w_12 ⟨rfl, hkp_11⟩; refine ⟨_, rfl, ?_⟩; have H_12 := H_11.keep hkp_11
        refine L_y rfl (Y_pickT rfl) ?_
        refine L_mv rfl ?_
        refine G_mv (wE rfl rfl) rfl ?_
        refine G_y (wE rfl rfl) rfl (Y_strL Try.underlying22 Try.underlying5 Try.underlying9 rfl (Sl.nil _ _)) ?_
        refine G_mv (wE rfl rfl) rfl ?_
        refine G_y (wE rfl rfl) rfl (Y_strL Try.underlying22 Try.underlying5 Try.underlying9 rfl (Sl.nil _ _)) ?_
        refine G_y (wE rfl rfl) rfl (Y_eqT (l1 := []) (l2 := []) Try.underlying9 (by decide) (by decide) rfl rfl) ?_
        refine L_y rfl (Y_pickT rfl) ?_
        refine L_mv rfl ?_
        refine G_mv (wE rfl (congrArg Value.bool (decide_eq_true rfl))) rfl ?_
        refine G_mv (wE rfl (congrArg Value.bool (decide_eq_true rfl))) rfl ?_
        refine G_y (wE rfl (congrArg Value.bool (decide_eq_true rfl))) rfl (Y_eql (k := .i64) (a := ((3 : Nat) : Int)) (b := ((3 : Nat) : Int)) rfl rfl) ?_
        refine L_y rfl (Y_pickT (congrArg Value.bool (decide_eq_true rfl))) ?_
        refine L_mv rfl ?_
        refine L_callv (wE rfl (congrArg Value.bool (by decide : (((3 : Nat) : Int) == ((3 : Nat) : Int)) = true))) rfl T_en8 (A0) (known_n _) ?_
        rintro _ w_13 ⟨rfl, hkp_12⟩; refine ⟨_, rfl, ?_⟩; have H_13 := H_12.keep hkp_12
        refine L_y rfl (Y_pickT (congrArg Value.bool (by decide : (((3 : Nat) : Int) == ((3 : Nat) : Int)) = true))) ?_
        refine L_as rfl ?_
        refine L_nil ?_
        refine Th_n ?_
        refine W_ret ?_
        refine P_ret (vs := [Value.bool true]) (v := Value.bool true) rfl (.tmp rfl (Res.nil)) rfl ?_
        refine ⟨?_, H_13.nil_⟩
        rfl

theorem derives_law (a0 : Option Addr) (n0 c0 : Nat) (l0 : List Nat) (a1 : Option Addr) (n1 c1 : Nat) (l1 : List Nat) (a2 : Option Addr) (n2 c2 : Nat) (l2 : List Nat) (hl0 : ∀ u ∈ l0, u < 256) (hl1 : ∀ u ∈ l1, u < 256) (hl2 : ∀ u ∈ l2, u < 256) (z : Int) (w0 : World) (hb0 : Sl w0 .u8 a0 n0 c0 l0) (hb1 : Sl w0 .u8 a1 n1 c1 l1) (hb2 : Sl w0 .u8 a2 n2 c2 l2) :
    Calls Try.prog 7 #[Value.slice a0 n0 c0, Value.slice a1 n1 c1, Value.slice a2 n2 c2, Value.int .i64 (z)] w0 (fun r_ w' => r_ = .returned (.bool true) ∧ Keep w0 w') := by
  rcases Int.lt_or_le z 0 with hz | hz
  · exact derives_neg a0 n0 c0 l0 a1 n1 c1 l1 a2 n2 c2 l2 hl0 hl1 hl2 z hz w0 hb0 hb1 hb2
  · obtain ⟨n, rfl⟩ := Int.eq_ofNat_of_zero_le hz
    by_cases h1 : n ≤ 500
    · exact derives_mid a0 n0 c0 l0 a1 n1 c1 l1 a2 n2 c2 l2 hl0 hl1 hl2 n h1 w0 hb0 hb1 hb2
    · by_cases h2 : n ≤ 8160
      · exact derives_btw a0 n0 c0 l0 a1 n1 c1 l1 a2 n2 c2 l2 hl0 hl1 hl2 n (by omega) h2 w0 hb0 hb1 hb2
      · exact derives_long a0 n0 c0 l0 a1 n1 c1 l1 a2 n2 c2 l2 hl0 hl1 hl2 n (by omega) w0 hb0 hb1 hb2
end Go.Proofs.Ytdifogdaiimmoaa
