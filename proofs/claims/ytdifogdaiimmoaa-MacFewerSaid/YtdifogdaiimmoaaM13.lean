/- Walks of layers 6 and 7 (sums, macs) and of their references. Printed by mac.py. -/
import Derived.Test.YtdifogdaiimmoaaM12
namespace Go.Proofs.Ytdifogdaiimmoaa
open Go.Ev
set_option maxRecDepth 100000
theorem fewer_neg (a0 : Option Addr) (n0 c0 : Nat) (l0 : List Nat) (a1 : Option Addr) (n1 c1 : Nat) (l1 : List Nat) (hl0 : ∀ u ∈ l0, u < 256) (hl1 : ∀ u ∈ l1, u < 256) (m n : Int) (hm : m < 0) (w0 : World) (hb0 : Sl w0 .u8 a0 n0 c0 l0) (hb1 : Sl w0 .u8 a1 n1 c1 l1) :
    Calls Try.prog 6 #[Value.slice a0 n0 c0, Value.slice a1 n1 c1, Value.int .i64 (m), Value.int .i64 (n)] w0 (fun r_ w' => r_ = .returned (.bool true) ∧ Keep w0 w') := by
  refine F_in Try.func6 rfl Try.ntmps6 rfl ?_
  intro e he
  have p_0 : e 0 = Value.slice a0 n0 c0 := he 0 _ rfl
  have p_1 : e 1 = Value.slice a1 n1 c1 := he 1 _ rfl
  have p_2 : e 2 = Value.int .i64 (m) := he 2 _ rfl
  have p_3 : e 3 = Value.int .i64 (n) := he 3 _ rfl
  have H := Hp.start w0 []
  refine W_seq ?_
  refine W_rg ?_
  refine L_as rfl ?_
  refine L_nil ?_
  refine Th_n ?_
  refine W_seq ?_
  refine W_seq ?_
  refine W_rg ?_
  refine L_mv rfl ?_
  refine L_y rfl (Y_lenS T_sl22 p_0) ?_
  refine L_y rfl (Y_gtr (k := .i64) (a := ((n0 : Nat) : Int)) (b := ((2000 : Nat) : Int)) rfl rfl) ?_
  refine L_mv rfl ?_
  rcases Bool.eq_false_or_eq_true (decide (((2000 : Nat) : Int) < ((n0 : Nat) : Int))) with hb | hb
  ·
    have hb' := of_decide_eq_true hb
    refine G_no (wN (b := false) rfl (congrArg Value.bool hb)) rfl ?_
    refine G_no (wN (b := false) rfl (congrArg Value.bool hb)) rfl ?_
    refine G_no (wN (b := false) rfl (congrArg Value.bool hb)) rfl ?_
    refine L_y rfl (Y_pickT (congrArg Value.bool hb)) ?_
    refine L_mv rfl ?_
    refine G_no (wN (b := false) rfl rfl) rfl ?_
    refine G_no (wN (b := false) rfl rfl) rfl ?_
    refine L_y rfl (Y_pickT rfl) ?_
    refine L_mv rfl ?_
    refine G_no (wN (b := false) rfl rfl) rfl ?_
    refine G_no (wN (b := false) rfl rfl) rfl ?_
    refine G_no (wN (b := false) rfl rfl) rfl ?_
    refine L_y rfl (Y_pickT rfl) ?_
    refine L_mv rfl ?_
    refine G_no (wN (b := false) rfl rfl) rfl ?_
    refine G_no (wN (b := false) rfl rfl) rfl ?_
    refine L_y rfl (Y_pickT rfl) ?_
    refine L_nil ?_
    refine Th_n ?_
    refine W_true rfl ?_
    refine W_seq ?_
    refine W_rg ?_
    refine L_callv rfl rfl T_en8 (A0) (known_n _) ?_
    rintro _ w_2 ⟨rfl, hkp⟩; refine ⟨_, rfl, ?_⟩; have H_2 := H.keep hkp
    refine L_as rfl ?_
    refine L_nil ?_
    refine Th_n ?_
    refine W_ret ?_
    refine Th_r ?_
    refine P_ret (vs := [Value.bool true]) (v := Value.bool true) rfl (.tmp rfl (Res.nil)) rfl ?_
    refine ⟨?_, H_2.nil_⟩
    rfl
  ·
    have hb' := of_decide_eq_false hb
    refine G_mv (wE rfl (congrArg Value.bool hb)) rfl ?_
    refine G_y (wE rfl (congrArg Value.bool hb)) rfl (Y_lenS T_sl22 p_1) ?_
    refine G_y (wE rfl (congrArg Value.bool hb)) rfl (Y_gtr (k := .i64) (a := ((n1 : Nat) : Int)) (b := ((2000 : Nat) : Int)) rfl rfl) ?_
    refine L_y rfl (Y_pickF (congrArg Value.bool hb)) ?_
    refine L_mv rfl ?_
    rcases Bool.eq_false_or_eq_true (decide (((2000 : Nat) : Int) < ((n1 : Nat) : Int))) with hb_2 | hb_2
    ·
      have hb_2' := of_decide_eq_true hb_2
      refine G_no (wN (b := false) rfl (congrArg Value.bool hb_2)) rfl ?_
      refine G_no (wN (b := false) rfl (congrArg Value.bool hb_2)) rfl ?_
      refine L_y rfl (Y_pickT (congrArg Value.bool hb_2)) ?_
      refine L_mv rfl ?_
      refine G_no (wN (b := false) rfl rfl) rfl ?_
      refine G_no (wN (b := false) rfl rfl) rfl ?_
      refine G_no (wN (b := false) rfl rfl) rfl ?_
      refine L_y rfl (Y_pickT rfl) ?_
      refine L_mv rfl ?_
      refine G_no (wN (b := false) rfl rfl) rfl ?_
      refine G_no (wN (b := false) rfl rfl) rfl ?_
      refine L_y rfl (Y_pickT rfl) ?_
      refine L_nil ?_
      refine Th_n ?_
      refine W_true rfl ?_
      refine W_seq ?_
      refine W_rg ?_
      refine L_callv rfl rfl T_en8 (A0) (known_n _) ?_
      rintro _ w_3 ⟨rfl, hkp_2⟩; refine ⟨_, rfl, ?_⟩; have H_3 := H.keep hkp_2
      refine L_as rfl ?_
      refine L_nil ?_
      refine Th_n ?_
      refine W_ret ?_
      refine Th_r ?_
      refine P_ret (vs := [Value.bool true]) (v := Value.bool true) rfl (.tmp rfl (Res.nil)) rfl ?_
      refine ⟨?_, H_3.nil_⟩
      rfl
    ·
      have hb_2' := of_decide_eq_false hb_2
      refine G_mv (wE rfl (congrArg Value.bool hb_2)) rfl ?_
      refine G_y (wE rfl (congrArg Value.bool hb_2)) rfl (Y_lss (k := .i64) (a := m) (b := ((0 : Nat) : Int)) p_2 rfl) ?_
      refine L_y rfl (Y_pickF (congrArg Value.bool hb_2)) ?_
      refine L_mv rfl ?_
      refine G_no (wN (b := false) rfl (congrArg Value.bool (decide_eq_true (by omega)))) rfl ?_
      refine G_no (wN (b := false) rfl (congrArg Value.bool (decide_eq_true (by omega)))) rfl ?_
      refine G_no (wN (b := false) rfl (congrArg Value.bool (decide_eq_true (by omega)))) rfl ?_
      refine L_y rfl (Y_pickT (congrArg Value.bool (decide_eq_true (by omega)))) ?_
      refine L_mv rfl ?_
      refine G_no (wN (b := false) rfl rfl) rfl ?_
      refine G_no (wN (b := false) rfl rfl) rfl ?_
      refine L_y rfl (Y_pickT rfl) ?_
      refine L_nil ?_
      refine Th_n ?_
      refine W_true rfl ?_
      refine W_seq ?_
      refine W_rg ?_
      refine L_callv rfl rfl T_en8 (A0) (known_n _) ?_
      rintro _ w_4 ⟨rfl, hkp_3⟩; refine ⟨_, rfl, ?_⟩; have H_4 := H.keep hkp_3
      refine L_as rfl ?_
      refine L_nil ?_
      refine Th_n ?_
      refine W_ret ?_
      refine Th_r ?_
      refine P_ret (vs := [Value.bool true]) (v := Value.bool true) rfl (.tmp rfl (Res.nil)) rfl ?_
      refine ⟨?_, H_4.nil_⟩
      rfl

theorem fewer_less (a0 : Option Addr) (n0 c0 : Nat) (l0 : List Nat) (a1 : Option Addr) (n1 c1 : Nat) (l1 : List Nat) (hl0 : ∀ u ∈ l0, u < 256) (hl1 : ∀ u ∈ l1, u < 256) (m n : Int) (hm : 0 ≤ m) (hn : n < m) (w0 : World) (hb0 : Sl w0 .u8 a0 n0 c0 l0) (hb1 : Sl w0 .u8 a1 n1 c1 l1) :
    Calls Try.prog 6 #[Value.slice a0 n0 c0, Value.slice a1 n1 c1, Value.int .i64 (m), Value.int .i64 (n)] w0 (fun r_ w' => r_ = .returned (.bool true) ∧ Keep w0 w') := by
  refine F_in Try.func6 rfl Try.ntmps6 rfl ?_
  intro e he
  have p_0 : e 0 = Value.slice a0 n0 c0 := he 0 _ rfl
  have p_1 : e 1 = Value.slice a1 n1 c1 := he 1 _ rfl
  have p_2 : e 2 = Value.int .i64 (m) := he 2 _ rfl
  have p_3 : e 3 = Value.int .i64 (n) := he 3 _ rfl
  have H := Hp.start w0 []
  refine W_seq ?_
  refine W_rg ?_
  refine L_as rfl ?_
  refine L_nil ?_
  refine Th_n ?_
  refine W_seq ?_
  refine W_seq ?_
  refine W_rg ?_
  refine L_mv rfl ?_
  refine L_y rfl (Y_lenS T_sl22 p_0) ?_
  refine L_y rfl (Y_gtr (k := .i64) (a := ((n0 : Nat) : Int)) (b := ((2000 : Nat) : Int)) rfl rfl) ?_
  refine L_mv rfl ?_
  rcases Bool.eq_false_or_eq_true (decide (((2000 : Nat) : Int) < ((n0 : Nat) : Int))) with hb | hb
  ·
    have hb' := of_decide_eq_true hb
    refine G_no (wN (b := false) rfl (congrArg Value.bool hb)) rfl ?_
    refine G_no (wN (b := false) rfl (congrArg Value.bool hb)) rfl ?_
    refine G_no (wN (b := false) rfl (congrArg Value.bool hb)) rfl ?_
    refine L_y rfl (Y_pickT (congrArg Value.bool hb)) ?_
    refine L_mv rfl ?_
    refine G_no (wN (b := false) rfl rfl) rfl ?_
    refine G_no (wN (b := false) rfl rfl) rfl ?_
    refine L_y rfl (Y_pickT rfl) ?_
    refine L_mv rfl ?_
    refine G_no (wN (b := false) rfl rfl) rfl ?_
    refine G_no (wN (b := false) rfl rfl) rfl ?_
    refine G_no (wN (b := false) rfl rfl) rfl ?_
    refine L_y rfl (Y_pickT rfl) ?_
    refine L_mv rfl ?_
    refine G_no (wN (b := false) rfl rfl) rfl ?_
    refine G_no (wN (b := false) rfl rfl) rfl ?_
    refine L_y rfl (Y_pickT rfl) ?_
    refine L_nil ?_
    refine Th_n ?_
    refine W_true rfl ?_
    refine W_seq ?_
    refine W_rg ?_
    refine L_callv rfl rfl T_en8 (A0) (known_n _) ?_
    rintro _ w_2 ⟨rfl, hkp⟩; refine ⟨_, rfl, ?_⟩; have H_2 := H.keep hkp
    refine L_as rfl ?_
    refine L_nil ?_
    refine Th_n ?_
    refine W_ret ?_
    refine Th_r ?_
    refine P_ret (vs := [Value.bool true]) (v := Value.bool true) rfl (.tmp rfl (Res.nil)) rfl ?_
    refine ⟨?_, H_2.nil_⟩
    rfl
  ·
    have hb' := of_decide_eq_false hb
    refine G_mv (wE rfl (congrArg Value.bool hb)) rfl ?_
    refine G_y (wE rfl (congrArg Value.bool hb)) rfl (Y_lenS T_sl22 p_1) ?_
    refine G_y (wE rfl (congrArg Value.bool hb)) rfl (Y_gtr (k := .i64) (a := ((n1 : Nat) : Int)) (b := ((2000 : Nat) : Int)) rfl rfl) ?_
    refine L_y rfl (Y_pickF (congrArg Value.bool hb)) ?_
    refine L_mv rfl ?_
    rcases Bool.eq_false_or_eq_true (decide (((2000 : Nat) : Int) < ((n1 : Nat) : Int))) with hb_2 | hb_2
    ·
      have hb_2' := of_decide_eq_true hb_2
      refine G_no (wN (b := false) rfl (congrArg Value.bool hb_2)) rfl ?_
      refine G_no (wN (b := false) rfl (congrArg Value.bool hb_2)) rfl ?_
      refine L_y rfl (Y_pickT (congrArg Value.bool hb_2)) ?_
      refine L_mv rfl ?_
      refine G_no (wN (b := false) rfl rfl) rfl ?_
      refine G_no (wN (b := false) rfl rfl) rfl ?_
      refine G_no (wN (b := false) rfl rfl) rfl ?_
      refine L_y rfl (Y_pickT rfl) ?_
      refine L_mv rfl ?_
      refine G_no (wN (b := false) rfl rfl) rfl ?_
      refine G_no (wN (b := false) rfl rfl) rfl ?_
      refine L_y rfl (Y_pickT rfl) ?_
      refine L_nil ?_
      refine Th_n ?_
      refine W_true rfl ?_
      refine W_seq ?_
      refine W_rg ?_
      refine L_callv rfl rfl T_en8 (A0) (known_n _) ?_
      rintro _ w_3 ⟨rfl, hkp_2⟩; refine ⟨_, rfl, ?_⟩; have H_3 := H.keep hkp_2
      refine L_as rfl ?_
      refine L_nil ?_
      refine Th_n ?_
      refine W_ret ?_
      refine Th_r ?_
      refine P_ret (vs := [Value.bool true]) (v := Value.bool true) rfl (.tmp rfl (Res.nil)) rfl ?_
      refine ⟨?_, H_3.nil_⟩
      rfl
    ·
      have hb_2' := of_decide_eq_false hb_2
      refine G_mv (wE rfl (congrArg Value.bool hb_2)) rfl ?_
      refine G_y (wE rfl (congrArg Value.bool hb_2)) rfl (Y_lss (k := .i64) (a := m) (b := ((0 : Nat) : Int)) p_2 rfl) ?_
      refine L_y rfl (Y_pickF (congrArg Value.bool hb_2)) ?_
      refine L_mv rfl ?_
      refine G_mv (wE rfl (congrArg Value.bool (decide_eq_false (by omega)))) rfl ?_
      refine G_mv (wE rfl (congrArg Value.bool (decide_eq_false (by omega)))) rfl ?_
      refine G_y (wE rfl (congrArg Value.bool (decide_eq_false (by omega)))) rfl (Y_lss (k := .i64) (a := n) (b := m) p_3 p_2) ?_
      refine L_y rfl (Y_pickF (congrArg Value.bool (decide_eq_false (by omega)))) ?_
      refine L_mv rfl ?_
      refine G_no (wN (b := false) rfl (congrArg Value.bool (decide_eq_true (by omega)))) rfl ?_
      refine G_no (wN (b := false) rfl (congrArg Value.bool (decide_eq_true (by omega)))) rfl ?_
      refine L_y rfl (Y_pickT (congrArg Value.bool (decide_eq_true (by omega)))) ?_
      refine L_nil ?_
      refine Th_n ?_
      refine W_true rfl ?_
      refine W_seq ?_
      refine W_rg ?_
      refine L_callv rfl rfl T_en8 (A0) (known_n _) ?_
      rintro _ w_4 ⟨rfl, hkp_3⟩; refine ⟨_, rfl, ?_⟩; have H_4 := H.keep hkp_3
      refine L_as rfl ?_
      refine L_nil ?_
      refine Th_n ?_
      refine W_ret ?_
      refine Th_r ?_
      refine P_ret (vs := [Value.bool true]) (v := Value.bool true) rfl (.tmp rfl (Res.nil)) rfl ?_
      refine ⟨?_, H_4.nil_⟩
      rfl

theorem fewer_big (a0 : Option Addr) (n0 c0 : Nat) (l0 : List Nat) (a1 : Option Addr) (n1 c1 : Nat) (l1 : List Nat) (hl0 : ∀ u ∈ l0, u < 256) (hl1 : ∀ u ∈ l1, u < 256) (m n : Int) (hm : 0 ≤ m) (hn : m ≤ n) (hb : 2000 < n) (w0 : World) (hb0 : Sl w0 .u8 a0 n0 c0 l0) (hb1 : Sl w0 .u8 a1 n1 c1 l1) :
    Calls Try.prog 6 #[Value.slice a0 n0 c0, Value.slice a1 n1 c1, Value.int .i64 (m), Value.int .i64 (n)] w0 (fun r_ w' => r_ = .returned (.bool true) ∧ Keep w0 w') := by
  refine F_in Try.func6 rfl Try.ntmps6 rfl ?_
  intro e he
  have p_0 : e 0 = Value.slice a0 n0 c0 := he 0 _ rfl
  have p_1 : e 1 = Value.slice a1 n1 c1 := he 1 _ rfl
  have p_2 : e 2 = Value.int .i64 (m) := he 2 _ rfl
  have p_3 : e 3 = Value.int .i64 (n) := he 3 _ rfl
  have H := Hp.start w0 []
  refine W_seq ?_
  refine W_rg ?_
  refine L_as rfl ?_
  refine L_nil ?_
  refine Th_n ?_
  refine W_seq ?_
  refine W_seq ?_
  refine W_rg ?_
  refine L_mv rfl ?_
  refine L_y rfl (Y_lenS T_sl22 p_0) ?_
  refine L_y rfl (Y_gtr (k := .i64) (a := ((n0 : Nat) : Int)) (b := ((2000 : Nat) : Int)) rfl rfl) ?_
  refine L_mv rfl ?_
  rcases Bool.eq_false_or_eq_true (decide (((2000 : Nat) : Int) < ((n0 : Nat) : Int))) with hb | hb
  ·
    have hb' := of_decide_eq_true hb
    refine G_no (wN (b := false) rfl (congrArg Value.bool hb)) rfl ?_
    refine G_no (wN (b := false) rfl (congrArg Value.bool hb)) rfl ?_
    refine G_no (wN (b := false) rfl (congrArg Value.bool hb)) rfl ?_
    refine L_y rfl (Y_pickT (congrArg Value.bool hb)) ?_
    refine L_mv rfl ?_
    refine G_no (wN (b := false) rfl rfl) rfl ?_
    refine G_no (wN (b := false) rfl rfl) rfl ?_
    refine L_y rfl (Y_pickT rfl) ?_
    refine L_mv rfl ?_
    refine G_no (wN (b := false) rfl rfl) rfl ?_
    refine G_no (wN (b := false) rfl rfl) rfl ?_
    refine G_no (wN (b := false) rfl rfl) rfl ?_
    refine L_y rfl (Y_pickT rfl) ?_
    refine L_mv rfl ?_
    refine G_no (wN (b := false) rfl rfl) rfl ?_
    refine G_no (wN (b := false) rfl rfl) rfl ?_
    refine L_y rfl (Y_pickT rfl) ?_
    refine L_nil ?_
    refine Th_n ?_
    refine W_true rfl ?_
    refine W_seq ?_
    refine W_rg ?_
    refine L_callv rfl rfl T_en8 (A0) (known_n _) ?_
    rintro _ w_2 ⟨rfl, hkp⟩; refine ⟨_, rfl, ?_⟩; have H_2 := H.keep hkp
    refine L_as rfl ?_
    refine L_nil ?_
    refine Th_n ?_
    refine W_ret ?_
    refine Th_r ?_
    refine P_ret (vs := [Value.bool true]) (v := Value.bool true) rfl (.tmp rfl (Res.nil)) rfl ?_
    refine ⟨?_, H_2.nil_⟩
    rfl
  ·
    have hb' := of_decide_eq_false hb
    refine G_mv (wE rfl (congrArg Value.bool hb)) rfl ?_
    refine G_y (wE rfl (congrArg Value.bool hb)) rfl (Y_lenS T_sl22 p_1) ?_
    refine G_y (wE rfl (congrArg Value.bool hb)) rfl (Y_gtr (k := .i64) (a := ((n1 : Nat) : Int)) (b := ((2000 : Nat) : Int)) rfl rfl) ?_
    refine L_y rfl (Y_pickF (congrArg Value.bool hb)) ?_
    refine L_mv rfl ?_
    rcases Bool.eq_false_or_eq_true (decide (((2000 : Nat) : Int) < ((n1 : Nat) : Int))) with hb_2 | hb_2
    ·
      have hb_2' := of_decide_eq_true hb_2
      refine G_no (wN (b := false) rfl (congrArg Value.bool hb_2)) rfl ?_
      refine G_no (wN (b := false) rfl (congrArg Value.bool hb_2)) rfl ?_
      refine L_y rfl (Y_pickT (congrArg Value.bool hb_2)) ?_
      refine L_mv rfl ?_
      refine G_no (wN (b := false) rfl rfl) rfl ?_
      refine G_no (wN (b := false) rfl rfl) rfl ?_
      refine G_no (wN (b := false) rfl rfl) rfl ?_
      refine L_y rfl (Y_pickT rfl) ?_
      refine L_mv rfl ?_
      refine G_no (wN (b := false) rfl rfl) rfl ?_
      refine G_no (wN (b := false) rfl rfl) rfl ?_
      refine L_y rfl (Y_pickT rfl) ?_
      refine L_nil ?_
      refine Th_n ?_
      refine W_true rfl ?_
      refine W_seq ?_
      refine W_rg ?_
      refine L_callv rfl rfl T_en8 (A0) (known_n _) ?_
      rintro _ w_3 ⟨rfl, hkp_2⟩; refine ⟨_, rfl, ?_⟩; have H_3 := H.keep hkp_2
      refine L_as rfl ?_
      refine L_nil ?_
      refine Th_n ?_
      refine W_ret ?_
      refine Th_r ?_
      refine P_ret (vs := [Value.bool true]) (v := Value.bool true) rfl (.tmp rfl (Res.nil)) rfl ?_
      refine ⟨?_, H_3.nil_⟩
      rfl
    ·
      have hb_2' := of_decide_eq_false hb_2
      refine G_mv (wE rfl (congrArg Value.bool hb_2)) rfl ?_
      refine G_y (wE rfl (congrArg Value.bool hb_2)) rfl (Y_lss (k := .i64) (a := m) (b := ((0 : Nat) : Int)) p_2 rfl) ?_
      refine L_y rfl (Y_pickF (congrArg Value.bool hb_2)) ?_
      refine L_mv rfl ?_
      refine G_mv (wE rfl (congrArg Value.bool (decide_eq_false (by omega)))) rfl ?_
      refine G_mv (wE rfl (congrArg Value.bool (decide_eq_false (by omega)))) rfl ?_
      refine G_y (wE rfl (congrArg Value.bool (decide_eq_false (by omega)))) rfl (Y_lss (k := .i64) (a := n) (b := m) p_3 p_2) ?_
      refine L_y rfl (Y_pickF (congrArg Value.bool (decide_eq_false (by omega)))) ?_
      refine L_mv rfl ?_
      refine G_mv (wE rfl (congrArg Value.bool (decide_eq_false (by omega)))) rfl ?_
      refine G_y (wE rfl (congrArg Value.bool (decide_eq_false (by omega)))) rfl (Y_gtr (k := .i64) (a := n) (b := ((2000 : Nat) : Int)) p_3 rfl) ?_
      refine L_y rfl (Y_pickF (congrArg Value.bool (decide_eq_false (by omega)))) ?_
      refine L_nil ?_
      refine Th_n ?_
      refine W_true (congrArg Value.bool (decide_eq_true (by omega))) ?_
      refine W_seq ?_
      refine W_rg ?_
      refine L_callv rfl rfl T_en8 (A0) (known_n _) ?_
      rintro _ w_4 ⟨rfl, hkp_3⟩; refine ⟨_, rfl, ?_⟩; have H_4 := H.keep hkp_3
      refine L_as rfl ?_
      refine L_nil ?_
      refine Th_n ?_
      refine W_ret ?_
      refine Th_r ?_
      refine P_ret (vs := [Value.bool true]) (v := Value.bool true) rfl (.tmp rfl (Res.nil)) rfl ?_
      refine ⟨?_, H_4.nil_⟩
      rfl

theorem fewer_ok (a0 : Option Addr) (n0 c0 : Nat) (l0 : List Nat) (a1 : Option Addr) (n1 c1 : Nat) (l1 : List Nat) (hl0 : ∀ u ∈ l0, u < 256) (hl1 : ∀ u ∈ l1, u < 256) (m n : Nat) (hmn : m ≤ n) (hn : n ≤ 2000) (w0 : World) (hb0 : Sl w0 .u8 a0 n0 c0 l0) (hb1 : Sl w0 .u8 a1 n1 c1 l1) :
    Calls Try.prog 6 #[Value.slice a0 n0 c0, Value.slice a1 n1 c1, Value.int .i64 ((m : Nat) : Int), Value.int .i64 ((n : Nat) : Int)] w0 (fun r_ w' => r_ = .returned (.bool true) ∧ Keep w0 w') := by
  refine F_in Try.func6 rfl Try.ntmps6 rfl ?_
  intro e he
  have p_0 : e 0 = Value.slice a0 n0 c0 := he 0 _ rfl
  have p_1 : e 1 = Value.slice a1 n1 c1 := he 1 _ rfl
  have p_2 : e 2 = Value.int .i64 ((m : Nat) : Int) := he 2 _ rfl
  have p_3 : e 3 = Value.int .i64 ((n : Nat) : Int) := he 3 _ rfl
  have H := Hp.start w0 []
  refine W_seq ?_
  refine W_rg ?_
  refine L_as rfl ?_
  refine L_nil ?_
  refine Th_n ?_
  refine W_seq ?_
  refine W_seq ?_
  refine W_rg ?_
  refine L_mv rfl ?_
  refine L_y rfl (Y_lenS T_sl22 p_0) ?_
  refine L_y rfl (Y_gtr (k := .i64) (a := ((n0 : Nat) : Int)) (b := ((2000 : Nat) : Int)) rfl rfl) ?_
  refine L_mv rfl ?_
  rcases Bool.eq_false_or_eq_true (decide (((2000 : Nat) : Int) < ((n0 : Nat) : Int))) with hb | hb
  ·
    have hb' := of_decide_eq_true hb
    refine G_no (wN (b := false) rfl (congrArg Value.bool hb)) rfl ?_
    refine G_no (wN (b := false) rfl (congrArg Value.bool hb)) rfl ?_
    refine G_no (wN (b := false) rfl (congrArg Value.bool hb)) rfl ?_
    refine L_y rfl (Y_pickT (congrArg Value.bool hb)) ?_
    refine L_mv rfl ?_
    refine G_no (wN (b := false) rfl rfl) rfl ?_
    refine G_no (wN (b := false) rfl rfl) rfl ?_
    refine L_y rfl (Y_pickT rfl) ?_
    refine L_mv rfl ?_
    refine G_no (wN (b := false) rfl rfl) rfl ?_
    refine G_no (wN (b := false) rfl rfl) rfl ?_
    refine G_no (wN (b := false) rfl rfl) rfl ?_
    refine L_y rfl (Y_pickT rfl) ?_
    refine L_mv rfl ?_
    refine G_no (wN (b := false) rfl rfl) rfl ?_
    refine G_no (wN (b := false) rfl rfl) rfl ?_
    refine L_y rfl (Y_pickT rfl) ?_
    refine L_nil ?_
    refine Th_n ?_
    refine W_true rfl ?_
    refine W_seq ?_
    refine W_rg ?_
    refine L_callv rfl rfl T_en8 (A0) (known_n _) ?_
    rintro _ w_2 ⟨rfl, hkp⟩; refine ⟨_, rfl, ?_⟩; have H_2 := H.keep hkp
    refine L_as rfl ?_
    refine L_nil ?_
    refine Th_n ?_
    refine W_ret ?_
    refine Th_r ?_
    refine P_ret (vs := [Value.bool true]) (v := Value.bool true) rfl (.tmp rfl (Res.nil)) rfl ?_
    refine ⟨?_, H_2.nil_⟩
    rfl
  ·
    have hb' := of_decide_eq_false hb
    refine G_mv (wE rfl (congrArg Value.bool hb)) rfl ?_
    refine G_y (wE rfl (congrArg Value.bool hb)) rfl (Y_lenS T_sl22 p_1) ?_
    refine G_y (wE rfl (congrArg Value.bool hb)) rfl (Y_gtr (k := .i64) (a := ((n1 : Nat) : Int)) (b := ((2000 : Nat) : Int)) rfl rfl) ?_
    refine L_y rfl (Y_pickF (congrArg Value.bool hb)) ?_
    refine L_mv rfl ?_
    rcases Bool.eq_false_or_eq_true (decide (((2000 : Nat) : Int) < ((n1 : Nat) : Int))) with hb_2 | hb_2
    ·
      have hb_2' := of_decide_eq_true hb_2
      refine G_no (wN (b := false) rfl (congrArg Value.bool hb_2)) rfl ?_
      refine G_no (wN (b := false) rfl (congrArg Value.bool hb_2)) rfl ?_
      refine L_y rfl (Y_pickT (congrArg Value.bool hb_2)) ?_
      refine L_mv rfl ?_
      refine G_no (wN (b := false) rfl rfl) rfl ?_
      refine G_no (wN (b := false) rfl rfl) rfl ?_
      refine G_no (wN (b := false) rfl rfl) rfl ?_
      refine L_y rfl (Y_pickT rfl) ?_
      refine L_mv rfl ?_
      refine G_no (wN (b := false) rfl rfl) rfl ?_
      refine G_no (wN (b := false) rfl rfl) rfl ?_
      refine L_y rfl (Y_pickT rfl) ?_
      refine L_nil ?_
      refine Th_n ?_
      refine W_true rfl ?_
      refine W_seq ?_
      refine W_rg ?_
      refine L_callv rfl rfl T_en8 (A0) (known_n _) ?_
      rintro _ w_3 ⟨rfl, hkp_2⟩; refine ⟨_, rfl, ?_⟩; have H_3 := H.keep hkp_2
      refine L_as rfl ?_
      refine L_nil ?_
      refine Th_n ?_
      refine W_ret ?_
      refine Th_r ?_
      refine P_ret (vs := [Value.bool true]) (v := Value.bool true) rfl (.tmp rfl (Res.nil)) rfl ?_
      refine ⟨?_, H_3.nil_⟩
      rfl
    ·
      have hb_2' := of_decide_eq_false hb_2
      refine G_mv (wE rfl (congrArg Value.bool hb_2)) rfl ?_
      refine G_y (wE rfl (congrArg Value.bool hb_2)) rfl (Y_lss (k := .i64) (a := ((m : Nat) : Int)) (b := ((0 : Nat) : Int)) p_2 rfl) ?_
      refine L_y rfl (Y_pickF (congrArg Value.bool hb_2)) ?_
      refine L_mv rfl ?_
      refine G_mv (wE rfl (congrArg Value.bool (decide_eq_false (by omega)))) rfl ?_
      refine G_mv (wE rfl (congrArg Value.bool (decide_eq_false (by omega)))) rfl ?_
      refine G_y (wE rfl (congrArg Value.bool (decide_eq_false (by omega)))) rfl (Y_lss (k := .i64) (a := ((n : Nat) : Int)) (b := ((m : Nat) : Int)) p_3 p_2) ?_
      refine L_y rfl (Y_pickF (congrArg Value.bool (decide_eq_false (by omega)))) ?_
      refine L_mv rfl ?_
      refine G_mv (wE rfl (congrArg Value.bool (decide_eq_false (by omega)))) rfl ?_
      refine G_y (wE rfl (congrArg Value.bool (decide_eq_false (by omega)))) rfl (Y_gtr (k := .i64) (a := ((n : Nat) : Int)) (b := ((2000 : Nat) : Int)) p_3 rfl) ?_
      refine L_y rfl (Y_pickF (congrArg Value.bool (decide_eq_false (by omega)))) ?_
      refine L_nil ?_
      refine Th_n ?_
      refine W_false (congrArg Value.bool (decide_eq_false (by omega))) ?_
      refine W_skip ?_
      refine Th_n ?_
      refine W_seq ?_
      refine W_rg ?_
      refine L_mv rfl ?_
      refine L_mv rfl ?_
      refine L_mv rfl ?_
      refine L_callv rfl rfl T_en17 (A3 p_0 p_1 p_2) (expand_n _ _ _ l0 _ _ _ l1 hl0 hl1 (by omega) (by omega) m (by omega) _ (hb0.hp H) (hb1.hp H)) ?_
      rintro _ w_4 ⟨ea39, eM39, ec39, eL39, rfl, f39_0, f39_1, hkp_3⟩; refine ⟨_, rfl, ?_⟩; have H_4 := H.more hkp_3
      refine L_mv rfl ?_
      refine L_y rfl (Y_ext rfl rfl) ?_
      refine L_y rfl (Y_ext rfl rfl) ?_
      refine L_as rfl ?_
      refine L_as rfl ?_
      refine L_nil ?_
      refine Th_n ?_
      refine W_seq ?_
      refine W_rg ?_
      refine L_mv rfl ?_
      refine L_mv rfl ?_
      refine L_mv rfl ?_
      refine L_callv rfl rfl T_en17 (A3 p_0 p_1 p_3) (expand_n _ _ _ l0 _ _ _ l1 hl0 hl1 (by omega) (by omega) n (by omega) _ (hb0.hp H_4) (hb1.hp H_4)) ?_
      rintro _ w_5 ⟨ea46, eM46, ec46, eL46, rfl, f46_0, f46_1, hkp_4⟩; refine ⟨_, rfl, ?_⟩; have H_5 := H_4.more hkp_4
      refine L_mv rfl ?_
      refine L_y rfl (Y_ext rfl rfl) ?_
      refine L_y rfl (Y_ext rfl rfl) ?_
      refine L_as rfl ?_
      refine L_as rfl ?_
      refine L_nil ?_
      refine Th_n ?_
      refine W_seq ?_
      refine W_quiet H_5 25 [Value.int .i64 ((0 : Nat) : Int), Value.bool (((0 : Nat) : Int) == ((0 : Nat) : Int)), Value.bool (((0 : Nat) : Int) == ((0 : Nat) : Int)), Value.int .i64 ((0 : Nat) : Int), Value.bool (((0 : Nat) : Int) == ((0 : Nat) : Int)), Value.bool (((0 : Nat) : Int) == ((0 : Nat) : Int)), Value.bool (((0 : Nat) : Int) == ((0 : Nat) : Int)), Value.slice ea39 m m, Value.int .i64 ((m : Nat) : Int), Value.int .i64 ((m : Nat) : Int), Value.bool (((m : Nat) : Int) == ((m : Nat) : Int)), Value.bool (((m : Nat) : Int) == ((m : Nat) : Int)), Value.bool (((m : Nat) : Int) == ((m : Nat) : Int)), Value.slice ea46 n n, Value.int .i64 ((n : Nat) : Int), Value.int .i64 ((n : Nat) : Int), Value.bool (((n : Nat) : Int) == ((n : Nat) : Int)), Value.bool (((n : Nat) : Int) == ((n : Nat) : Int)), Value.bool (((n : Nat) : Int) == ((n : Nat) : Int)), Value.slice ea46 n n, Value.int .i64 ((m : Nat) : Int), Value.slice ea46 m n, Value.string (bs ((Sm.expand l0 l1 n).take m)), Value.slice ea39 m m, Value.string (bs (Sm.expand l0 l1 m))] T_mixed (by kernel_rfl) ?_ ?_
      ·
        refine .plain rfl (Pl_y rfl (fun w hBw => rfl)) ?_
        refine .plain rfl (Pl_y rfl (fun w hBw => Y_eql (k := .i64) (a := ((0 : Nat) : Int)) (b := ((0 : Nat) : Int)) rfl rfl)) ?_
        refine .plain rfl (Pl_y rfl (fun w hBw => rfl)) ?_
        refine .plain rfl (Pl_y (wE rfl (congrArg Value.bool (by decide : (((0 : Nat) : Int) == ((0 : Nat) : Int)) = true))) (fun w hBw => rfl)) ?_
        refine .plain rfl (Pl_y (wE rfl (congrArg Value.bool (by decide : (((0 : Nat) : Int) == ((0 : Nat) : Int)) = true))) (fun w hBw => Y_eql (k := .i64) (a := ((0 : Nat) : Int)) (b := ((0 : Nat) : Int)) rfl rfl)) ?_
        refine .plain rfl (Pl_y rfl (fun w hBw => Y_pickT (congrArg Value.bool (by decide : (((0 : Nat) : Int) == ((0 : Nat) : Int)) = true)))) ?_
        refine .plain rfl (Pl_y rfl (fun w hBw => rfl)) ?_
        refine .plain rfl (Pl_y (wE rfl (congrArg Value.bool (by decide : (((0 : Nat) : Int) == ((0 : Nat) : Int)) = true))) (fun w hBw => rfl)) ?_
        refine .plain rfl (Pl_y (wE rfl (congrArg Value.bool (by decide : (((0 : Nat) : Int) == ((0 : Nat) : Int)) = true))) (fun w hBw => Y_lenS T_sl22 rfl)) ?_
        refine .plain rfl (Pl_y (wE rfl (congrArg Value.bool (by decide : (((0 : Nat) : Int) == ((0 : Nat) : Int)) = true))) (fun w hBw => congrArg (fun v => Result.ok (Next.value v) w) p_2)) ?_
        refine .plain rfl (Pl_y (wE rfl (congrArg Value.bool (by decide : (((0 : Nat) : Int) == ((0 : Nat) : Int)) = true))) (fun w hBw => Y_eql (k := .i64) (a := ((m : Nat) : Int)) (b := ((m : Nat) : Int)) rfl rfl)) ?_
        refine .plain rfl (Pl_y rfl (fun w hBw => Y_pickT (congrArg Value.bool (by decide : (((0 : Nat) : Int) == ((0 : Nat) : Int)) = true)))) ?_
        refine .plain rfl (Pl_y rfl (fun w hBw => rfl)) ?_
        refine .plain rfl (Pl_y (wE rfl (congrArg Value.bool (beq_self_eq_true _))) (fun w hBw => rfl)) ?_
        refine .plain rfl (Pl_y (wE rfl (congrArg Value.bool (beq_self_eq_true _))) (fun w hBw => Y_lenS T_sl22 rfl)) ?_
        refine .plain rfl (Pl_y (wE rfl (congrArg Value.bool (beq_self_eq_true _))) (fun w hBw => congrArg (fun v => Result.ok (Next.value v) w) p_3)) ?_
        refine .plain rfl (Pl_y (wE rfl (congrArg Value.bool (beq_self_eq_true _))) (fun w hBw => Y_eql (k := .i64) (a := ((n : Nat) : Int)) (b := ((n : Nat) : Int)) rfl rfl)) ?_
        refine .plain rfl (Pl_y rfl (fun w hBw => Y_pickT (congrArg Value.bool (beq_self_eq_true _)))) ?_
        refine .plain rfl (Pl_y rfl (fun w hBw => rfl)) ?_
        refine .plain rfl (Pl_y (wE rfl (congrArg Value.bool (beq_self_eq_true _))) (fun w hBw => rfl)) ?_
        refine .plain rfl (Pl_y (wE rfl (congrArg Value.bool (beq_self_eq_true _))) (fun w hBw => congrArg (fun v => Result.ok (Next.value v) w) p_2)) ?_
        refine .plain rfl (Pl_y (wE rfl (congrArg Value.bool (beq_self_eq_true _))) (fun w hBw => Y_cutHr (hi := m) T_sl22 (((Sl.own hBw (i := 0) rfl).tk3 f46_1).as f46_0) rfl rfl (Nat.le_trans (by omega) (((Sl.own hBw (i := 0) rfl).tk3 f46_1).as f46_0).cap))) ?_
        refine .plain rfl (Pl_y (wE rfl (congrArg Value.bool (beq_self_eq_true _))) (fun w hBw => Y_strL Try.underlying22 Try.underlying5 Try.underlying9 rfl ((((Sl.own hBw (i := 0) rfl).tk3 f46_1).as f46_0).tk (by omega)))) ?_
        refine .plain rfl (Pl_y (wE rfl (congrArg Value.bool (beq_self_eq_true _))) (fun w hBw => rfl)) ?_
        refine .plain rfl (Pl_y (wE rfl (congrArg Value.bool (beq_self_eq_true _))) (fun w hBw => Y_strL Try.underlying22 Try.underlying5 Try.underlying9 rfl (((Sl.own hBw (i := 1) rfl).tk3 f39_1).as f39_0))) ?_
        exact .nil _
      ·
        intro e_2 w_6 hAg H_6
        have e_2_67 : e_2 67 = Value.bool (((n : Nat) : Int) == ((n : Nat) : Int)) := (hAg 67 rfl).trans rfl
        have e_2_71 : e_2 71 = Value.string (bs ((Sm.expand l0 l1 n).take m)) := (hAg 71 rfl).trans rfl
        have e_2_73 : e_2 73 = Value.string (bs (Sm.expand l0 l1 m)) := (hAg 73 rfl).trans rfl
        refine G_y (wE rfl (e_2_67.trans (congrArg Value.bool (beq_self_eq_true _)))) rfl (Y_eqT (l1 := (Sm.expand l0 l1 n).take m) (l2 := Sm.expand l0 l1 m) Try.underlying9 (fun u hu => Sm.expand_lt _ _ _ u (List.mem_of_mem_take hu)) (Sm.expand_lt _ _ _) e_2_71 e_2_73) ?_
        refine L_y rfl (Y_pickT (e_2_67.trans (congrArg Value.bool (beq_self_eq_true _)))) ?_
        refine L_mv rfl ?_
        refine L_callv (wE rfl (congrArg Value.bool (decide_eq_true (Sm.expand_take hmn)))) rfl T_en8 (A0) (known_n _) ?_
        rintro _ w_7 ⟨rfl, hkp_5⟩; refine ⟨_, rfl, ?_⟩; have H_7 := H_6.keep hkp_5
        refine L_y rfl (Y_pickT (congrArg Value.bool (decide_eq_true (Sm.expand_take hmn)))) ?_
        refine L_as rfl ?_
        refine L_nil ?_
        refine Th_n ?_
        refine W_ret ?_
        refine P_ret (vs := [Value.bool true]) (v := Value.bool true) rfl (.tmp rfl (Res.nil)) rfl ?_
        refine ⟨?_, H_7.nil_⟩
        rfl

theorem fewer_law (a0 : Option Addr) (n0 c0 : Nat) (l0 : List Nat) (a1 : Option Addr) (n1 c1 : Nat) (l1 : List Nat) (hl0 : ∀ u ∈ l0, u < 256) (hl1 : ∀ u ∈ l1, u < 256) (m n : Int) (w0 : World) (hb0 : Sl w0 .u8 a0 n0 c0 l0) (hb1 : Sl w0 .u8 a1 n1 c1 l1) :
    Calls Try.prog 6 #[Value.slice a0 n0 c0, Value.slice a1 n1 c1, Value.int .i64 (m), Value.int .i64 (n)] w0 (fun r_ w' => r_ = .returned (.bool true) ∧ Keep w0 w') := by
  rcases Int.lt_or_le m 0 with hm | hm
  · exact fewer_neg a0 n0 c0 l0 a1 n1 c1 l1 hl0 hl1 m n hm w0 hb0 hb1
  · rcases Int.lt_or_le n m with hn | hn
    · exact fewer_less a0 n0 c0 l0 a1 n1 c1 l1 hl0 hl1 m n hm hn w0 hb0 hb1
    · rcases Int.lt_or_le 2000 n with hb | hb
      · exact fewer_big a0 n0 c0 l0 a1 n1 c1 l1 hl0 hl1 m n hm hn hb w0 hb0 hb1
      · obtain ⟨m', rfl⟩ := Int.eq_ofNat_of_zero_le hm
        obtain ⟨n', rfl⟩ := Int.eq_ofNat_of_zero_le (Int.le_trans hm hn)
        exact fewer_ok a0 n0 c0 l0 a1 n1 c1 l1 hl0 hl1 m' n' (by omega) (by omega) w0 hb0 hb1
end Go.Proofs.Ytdifogdaiimmoaa
