/- Walks of layer 21 (disk) and of its reference. Printed by disk.py. -/
import Derived.Test.YtlialefffhoagaaT15
namespace Go.Proofs.Ytlialefffhoagaa
open Go.Ev
set_option maxRecDepth 100000
set_option linter.unusedVariables false
set_option linter.unusedSimpArgs false
theorem T_en22 : enters Try.prog 22 = true := by kernel_rfl
theorem T_en23 : enters Try.prog 23 = true := by kernel_rfl
set_option maxHeartbeats 4000000 in
theorem diskCopies_n (a0 : Option Addr) (m0 c0 : Nat) (L0 : List Dk.Op) (a1 : Option Addr) (m1 c1 : Nat) (L1 : List Dk.Op) (a2 : Option Addr) (m2 c2 : Nat) (L2 : List Dk.Op) (w0 : World) (hT0 : Tab w0 Dk.Op.cells 3 a0 m0 c0 L0) (hg0 : ∀ x ∈ L0, Dk.Op.good w0 x) (hm0 : m0 ≤ 140737488351232) (hT1 : Tab w0 Dk.Op.cells 3 a1 m1 c1 L1) (hg1 : ∀ x ∈ L1, Dk.Op.good w0 x) (hm1 : m1 ≤ 140737488351232) (hT2 : Tab w0 Dk.Op.cells 3 a2 m2 c2 L2) (hg2 : ∀ x ∈ L2, Dk.Op.good w0 x) (hm2 : m2 ≤ 140737488351232) :
    Calls Try.prog 6 #[Value.slice a0 m0 c0, Value.slice a1 m1 c1, Value.slice a2 m2 c2] w0 (fun r_ w' => r_ = .returned (.bool true) ∧ Keep w0 w') := by
  refine F_in Try.func6 rfl Try.ntmps6 rfl ?_
  intro e he
  have p_0 : e 0 = Value.slice a0 m0 c0 := he 0 _ rfl
  have p_1 : e 1 = Value.slice a1 m1 c1 := he 1 _ rfl
  have p_2 : e 2 = Value.slice a2 m2 c2 := he 2 _ rfl
  have H := Hp.start w0 []
  refine W_seq ?_
  refine W_rg ?_
  refine L_as rfl ?_
  refine L_nil ?_
  refine Th_n ?_
  refine W_seq ?_
  refine W_seq ?_
  refine W_rg ?_
  refine L_mv rfl ?_
  refine L_y rfl (Y_lenS T_sl35 p_0) ?_
  refine L_mv rfl ?_
  refine L_y rfl (Y_lenS T_sl35 p_1) ?_
  refine L_y rfl (Y_add (k := .i64) (a := ((m0 : Nat) : Int)) (b := ((m1 : Nat) : Int)) (z := ((m0 + m1 : Nat) : Int)) rfl rfl (wi (by omega))) ?_
  refine L_mv rfl ?_
  refine L_y rfl (Y_lenS T_sl35 p_2) ?_
  refine L_y rfl (Y_add (k := .i64) (a := ((m0 + m1 : Nat) : Int)) (b := ((m2 : Nat) : Int)) (z := (((m0 + m1) + m2 : Nat) : Int)) rfl rfl (wi (by omega))) ?_
  refine L_y rfl (Y_gtr (k := .i64) (a := (((m0 + m1) + m2 : Nat) : Int)) (b := ((300 : Nat) : Int)) rfl rfl) ?_
  refine L_mv rfl ?_
  rcases Bool.eq_false_or_eq_true (decide (((300 : Nat) : Int) < (((m0 + m1) + m2 : Nat) : Int))) with hb | hb
  ·
    have hb' := of_decide_eq_true hb
    refine G_no (wN (b := false) rfl (congrArg Value.bool hb)) rfl ?_
    refine G_no (wN (b := false) rfl (congrArg Value.bool hb)) rfl ?_
    refine G_no (wN (b := false) rfl (congrArg Value.bool hb)) rfl ?_
    refine G_no (wN (b := false) rfl (congrArg Value.bool hb)) rfl ?_
    refine G_no (wN (b := false) rfl (congrArg Value.bool hb)) rfl ?_
    refine G_no (wN (b := false) rfl (congrArg Value.bool hb)) rfl ?_
    refine G_no (wN (b := false) rfl (congrArg Value.bool hb)) rfl ?_
    refine G_no (wN (b := false) rfl (congrArg Value.bool hb)) rfl ?_
    refine G_no (wN (b := false) rfl (congrArg Value.bool hb)) rfl ?_
    refine L_y rfl (Y_pickT (congrArg Value.bool hb)) ?_
    refine L_nil ?_
    refine Th_n ?_
    refine W_true rfl ?_
    refine W_seq ?_
    refine W_rg ?_
    refine L_callv rfl rfl T_en7 (A0) (known_n _) ?_
    rintro _ w_2 ⟨rfl, hkp⟩; refine ⟨_, rfl, ?_⟩; have H_2 := H.keep hkp
    refine L_as rfl ?_
    refine L_nil ?_
    refine Th_n ?_
    refine W_ret ?_
    refine Th_r ?_
    refine P_ret (vs := [Value.bool true]) (v := Value.bool true) rfl (.tmp rfl (Res.nil)) rfl ?_
    refine ⟨?_, H_2.nil_⟩
    rfl
  ·
    have hb' := of_decide_eq_false hb
    refine G_mv (wE rfl (congrArg Value.bool hb)) rfl ?_
    refine L_callv (wE rfl (congrArg Value.bool hb)) rfl T_en14 (A1 p_0) (total_n hT0 hg0 (by omega) H) ?_
    rintro _ w_3 ⟨q22, rfl, f22_0, H_3⟩; refine ⟨_, rfl, ?_⟩
    have hqbq22 := f22_0.1
    have hmxq22 := f22_0.2
    refine G_mv (wE rfl (congrArg Value.bool hb)) rfl ?_
    refine L_callv (wE rfl (congrArg Value.bool hb)) rfl T_en14 (A1 p_1) (total_n hT1 hg1 (by omega) H_3) ?_
    rintro _ w_4 ⟨q24, rfl, f24_0, H_4⟩; refine ⟨_, rfl, ?_⟩
    have hqbq24 := f24_0.1
    have hmxq24 := f24_0.2
    refine G_y (wE rfl (congrArg Value.bool hb)) rfl (Y_add (k := .i64) (a := ((q22 : Nat) : Int)) (b := ((q24 : Nat) : Int)) (z := ((q22 + q24 : Nat) : Int)) rfl rfl (wi (by omega))) ?_
    refine G_mv (wE rfl (congrArg Value.bool hb)) rfl ?_
    refine L_callv (wE rfl (congrArg Value.bool hb)) rfl T_en14 (A1 p_2) (total_n hT2 hg2 (by omega) H_4) ?_
    rintro _ w_5 ⟨q27, rfl, f27_0, H_5⟩; refine ⟨_, rfl, ?_⟩
    have hqbq27 := f27_0.1
    have hmxq27 := f27_0.2
    refine G_y (wE rfl (congrArg Value.bool hb)) rfl (Y_add (k := .i64) (a := ((q22 + q24 : Nat) : Int)) (b := ((q27 : Nat) : Int)) (z := (((q22 + q24) + q27 : Nat) : Int)) rfl rfl (wi (by omega))) ?_
    refine G_y (wE rfl (congrArg Value.bool hb)) rfl (Y_gtr (k := .i64) (a := (((q22 + q24) + q27 : Nat) : Int)) (b := ((65536 : Nat) : Int)) rfl rfl) ?_
    refine L_y rfl (Y_pickF (congrArg Value.bool hb)) ?_
    refine L_nil ?_
    refine Th_n ?_
    refine W_cond (b := (decide (((65536 : Nat) : Int) < (((q22 + q24) + q27 : Nat) : Int)))) rfl (fun hc => ?_) (fun hc => ?_)
    ·
      have hc' := of_decide_eq_true hc
      refine W_seq ?_
      refine W_rg ?_
      refine L_callv rfl rfl T_en7 (A0) (known_n _) ?_
      rintro _ w_6 ⟨rfl, hkp_2⟩; refine ⟨_, rfl, ?_⟩; have H_6 := H_5.keep hkp_2
      refine L_as rfl ?_
      refine L_nil ?_
      refine Th_n ?_
      refine W_ret ?_
      refine Th_r ?_
      refine P_ret (vs := [Value.bool true]) (v := Value.bool true) rfl (.tmp rfl (Res.nil)) rfl ?_
      refine ⟨?_, H_6.nil_⟩
      rfl
    ·
      have hc' := of_decide_eq_false hc
      refine W_skip ?_
      refine Th_n ?_
      refine W_seq ?_
      refine W_rg ?_
      refine L_callv rfl rfl T_en8 (A0) (dNew H_5) ?_
      rintro _ w_7 ⟨b32, v32, rfl, H_7⟩; refine ⟨_, rfl, ?_⟩
      refine L_as rfl ?_
      refine L_nil ?_
      refine Th_n ?_
      refine W_seq ?_
      refine W_rg ?_
      refine L_callv rfl rfl T_en8 (A0) (dNew H_7) ?_
      rintro _ w_8 ⟨b33, v33, rfl, H_8⟩; refine ⟨_, rfl, ?_⟩
      refine L_as rfl ?_
      refine L_nil ?_
      refine Th_n ?_
      refine W_seq ?_
      refine W_rg ?_
      refine L_callv rfl rfl T_en8 (A0) (dNew H_8) ?_
      rintro _ w_9 ⟨b34, v34, rfl, H_9⟩; refine ⟨_, rfl, ?_⟩
      refine L_as rfl ?_
      refine L_nil ?_
      refine Th_n ?_
      refine W_seq ?_
      refine W_rg ?_
      refine L_mv rfl ?_
      refine L_mv rfl ?_
      have H_10 : Hp w0 [] w_9 [Ent.blk b32 45 #[v32, Value.int .i64 (Dk.new.left), Value.bool Dk.new.armed, Value.bool Dk.new.off], Ent.own v32 5 1 Dk.new.l.length (us .u8 Dk.new.l), Ent.blk b34 45 #[v34, Value.int .i64 (Dk.new.left), Value.bool Dk.new.armed, Value.bool Dk.new.off], Ent.own v34 5 1 Dk.new.l.length (us .u8 Dk.new.l), Ent.blk b33 45 #[v33, Value.int .i64 (Dk.new.left), Value.bool Dk.new.armed, Value.bool Dk.new.off], Ent.own v33 5 1 Dk.new.l.length (us .u8 Dk.new.l)] := ((H_9.pull 5 rfl).pull 5 rfl)
      refine L_callv rfl rfl T_en22 (A2 rfl p_0) (play_n Dk.new hT0 hg0 (by omega) Dk.new_ok H_10) ?_
      rintro _ w_10 ⟨v37, rfl, f37_0, H_11⟩; refine ⟨_, rfl, ?_⟩
      refine L_nil ?_
      refine Th_n ?_
      refine W_seq ?_
      refine W_rg ?_
      refine L_mv rfl ?_
      refine L_mv rfl ?_
      have H_12 : Hp w0 [] w_10 [Ent.blk b33 45 #[v33, Value.int .i64 (Dk.new.left), Value.bool Dk.new.armed, Value.bool Dk.new.off], Ent.own v33 5 1 Dk.new.l.length (us .u8 Dk.new.l), Ent.blk b32 45 #[v37, Value.int .i64 ((Dk.play Dk.new L0).left), Value.bool ((Dk.play Dk.new L0).armed), Value.bool ((Dk.play Dk.new L0).off)], Ent.own v37 5 1 ((Dk.play Dk.new L0).l.length) (us .u8 ((Dk.play Dk.new L0).l)), Ent.blk b34 45 #[v34, Value.int .i64 (Dk.new.left), Value.bool Dk.new.armed, Value.bool Dk.new.off], Ent.own v34 5 1 Dk.new.l.length (us .u8 Dk.new.l)] := ((H_11.pull 5 rfl).pull 5 rfl)
      refine L_callv rfl rfl T_en22 (A2 rfl p_0) (play_n Dk.new hT0 hg0 (by omega) Dk.new_ok H_12) ?_
      rintro _ w_11 ⟨v40, rfl, f40_0, H_13⟩; refine ⟨_, rfl, ?_⟩
      refine L_nil ?_
      refine Th_n ?_
      refine W_seq ?_
      refine W_rg ?_
      refine L_mv rfl ?_
      refine L_mv rfl ?_
      have H_14 : Hp w0 [] w_11 [Ent.blk b34 45 #[v34, Value.int .i64 (Dk.new.left), Value.bool Dk.new.armed, Value.bool Dk.new.off], Ent.own v34 5 1 Dk.new.l.length (us .u8 Dk.new.l), Ent.blk b33 45 #[v40, Value.int .i64 ((Dk.play Dk.new L0).left), Value.bool ((Dk.play Dk.new L0).armed), Value.bool ((Dk.play Dk.new L0).off)], Ent.own v40 5 1 ((Dk.play Dk.new L0).l.length) (us .u8 ((Dk.play Dk.new L0).l)), Ent.blk b32 45 #[v37, Value.int .i64 ((Dk.play Dk.new L0).left), Value.bool ((Dk.play Dk.new L0).armed), Value.bool ((Dk.play Dk.new L0).off)], Ent.own v37 5 1 ((Dk.play Dk.new L0).l.length) (us .u8 ((Dk.play Dk.new L0).l))] := ((H_13.pull 5 rfl).pull 5 rfl)
      refine L_callv rfl rfl T_en22 (A2 rfl p_0) (play_n Dk.new hT0 hg0 (by omega) Dk.new_ok H_14) ?_
      rintro _ w_12 ⟨v43, rfl, f43_0, H_15⟩; refine ⟨_, rfl, ?_⟩
      refine L_nil ?_
      refine Th_n ?_
      refine W_seq ?_
      refine W_rg ?_
      refine L_mv rfl ?_
      have H_16 : Hp w0 [] w_12 [Ent.blk b34 45 #[v43, Value.int .i64 ((Dk.play Dk.new L0).left), Value.bool ((Dk.play Dk.new L0).armed), Value.bool ((Dk.play Dk.new L0).off)], Ent.own v43 5 1 ((Dk.play Dk.new L0).l.length) (us .u8 ((Dk.play Dk.new L0).l)), Ent.blk b33 45 #[v40, Value.int .i64 ((Dk.play Dk.new L0).left), Value.bool ((Dk.play Dk.new L0).armed), Value.bool ((Dk.play Dk.new L0).off)], Ent.own v40 5 1 ((Dk.play Dk.new L0).l.length) (us .u8 ((Dk.play Dk.new L0).l)), Ent.blk b32 45 #[v37, Value.int .i64 ((Dk.play Dk.new L0).left), Value.bool ((Dk.play Dk.new L0).armed), Value.bool ((Dk.play Dk.new L0).off)], Ent.own v37 5 1 (((Dk.play Dk.new L0).l).length) (us .u8 ((Dk.play Dk.new L0).l))] := H_15.asL (i := 5) rfl (by rfl) rfl rfl
      have H_17 : Hp w0 [] w_12 [Ent.blk b32 45 #[v37, Value.int .i64 ((Dk.play Dk.new L0).left), Value.bool ((Dk.play Dk.new L0).armed), Value.bool ((Dk.play Dk.new L0).off)], Ent.own v37 5 1 (((Dk.play Dk.new L0).l).length) (us .u8 ((Dk.play Dk.new L0).l)), Ent.blk b34 45 #[v43, Value.int .i64 ((Dk.play Dk.new L0).left), Value.bool ((Dk.play Dk.new L0).armed), Value.bool ((Dk.play Dk.new L0).off)], Ent.own v43 5 1 ((Dk.play Dk.new L0).l.length) (us .u8 ((Dk.play Dk.new L0).l)), Ent.blk b33 45 #[v40, Value.int .i64 ((Dk.play Dk.new L0).left), Value.bool ((Dk.play Dk.new L0).armed), Value.bool ((Dk.play Dk.new L0).off)], Ent.own v40 5 1 ((Dk.play Dk.new L0).l.length) (us .u8 ((Dk.play Dk.new L0).l))] := ((H_16.pull 5 rfl).pull 5 rfl)
      refine L_callv rfl rfl T_en20 (A1 rfl) (dCopy (Dk.play Dk.new L0) f43_0 H_17) ?_
      rintro _ w_13 ⟨b45, v45, v45_2, rfl, H_18⟩; refine ⟨_, rfl, ?_⟩
      refine L_as rfl ?_
      refine L_nil ?_
      refine Th_n ?_
      refine W_seq ?_
      refine W_rg ?_
      refine L_mv rfl ?_
      refine L_mv rfl ?_
      have H_19 : Hp w0 [] w_13 [Ent.blk b45 45 #[v45, Value.int .i64 ((Dk.play Dk.new L0).left), Value.bool ((Dk.play Dk.new L0).armed), Value.bool ((Dk.play Dk.new L0).off)], Ent.own v45 5 1 ((Dk.play Dk.new L0).l.length) (us .u8 ((Dk.play Dk.new L0).l)), Ent.blk b32 45 #[v45_2, Value.int .i64 ((Dk.play Dk.new L0).left), Value.bool ((Dk.play Dk.new L0).armed), Value.bool ((Dk.play Dk.new L0).off)], Ent.own v45_2 5 1 (((Dk.play Dk.new L0).l).length) (us .u8 ((Dk.play Dk.new L0).l)), Ent.blk b34 45 #[v43, Value.int .i64 ((Dk.play Dk.new L0).left), Value.bool ((Dk.play Dk.new L0).armed), Value.bool ((Dk.play Dk.new L0).off)], Ent.own v43 5 1 ((Dk.play Dk.new L0).l.length) (us .u8 ((Dk.play Dk.new L0).l)), Ent.blk b33 45 #[v40, Value.int .i64 ((Dk.play Dk.new L0).left), Value.bool ((Dk.play Dk.new L0).armed), Value.bool ((Dk.play Dk.new L0).off)], Ent.own v40 5 1 ((Dk.play Dk.new L0).l.length) (us .u8 ((Dk.play Dk.new L0).l))] := H_18.asL (i := 3) rfl (by rfl) rfl rfl
      have H_20 : Hp w0 [] w_13 [Ent.blk b32 45 #[v45_2, Value.int .i64 ((Dk.play Dk.new L0).left), Value.bool ((Dk.play Dk.new L0).armed), Value.bool ((Dk.play Dk.new L0).off)], Ent.own v45_2 5 1 (((Dk.play Dk.new L0).l).length) (us .u8 ((Dk.play Dk.new L0).l)), Ent.blk b45 45 #[v45, Value.int .i64 ((Dk.play Dk.new L0).left), Value.bool ((Dk.play Dk.new L0).armed), Value.bool ((Dk.play Dk.new L0).off)], Ent.own v45 5 1 ((Dk.play Dk.new L0).l.length) (us .u8 ((Dk.play Dk.new L0).l)), Ent.blk b34 45 #[v43, Value.int .i64 ((Dk.play Dk.new L0).left), Value.bool ((Dk.play Dk.new L0).armed), Value.bool ((Dk.play Dk.new L0).off)], Ent.own v43 5 1 ((Dk.play Dk.new L0).l.length) (us .u8 ((Dk.play Dk.new L0).l)), Ent.blk b33 45 #[v40, Value.int .i64 ((Dk.play Dk.new L0).left), Value.bool ((Dk.play Dk.new L0).armed), Value.bool ((Dk.play Dk.new L0).off)], Ent.own v40 5 1 ((Dk.play Dk.new L0).l.length) (us .u8 ((Dk.play Dk.new L0).l))] := ((H_19.pull 3 rfl).pull 3 rfl)
      refine L_callv rfl rfl T_en22 (A2 rfl p_1) (play_n (Dk.play Dk.new L0) hT1 hg1 (by omega) f43_0 H_20) ?_
      rintro _ w_14 ⟨v48, rfl, f48_0, H_21⟩; refine ⟨_, rfl, ?_⟩
      refine L_nil ?_
      refine Th_n ?_
      refine W_seq ?_
      refine W_rg ?_
      refine L_mv rfl ?_
      refine L_mv rfl ?_
      have H_22 : Hp w0 [] w_14 [Ent.blk b32 45 #[v48, Value.int .i64 ((Dk.play (Dk.play Dk.new L0) L1).left), Value.bool ((Dk.play (Dk.play Dk.new L0) L1).armed), Value.bool ((Dk.play (Dk.play Dk.new L0) L1).off)], Ent.own v48 5 1 ((Dk.play (Dk.play Dk.new L0) L1).l.length) (us .u8 ((Dk.play (Dk.play Dk.new L0) L1).l)), Ent.blk b45 45 #[v45, Value.int .i64 ((Dk.play Dk.new L0).left), Value.bool ((Dk.play Dk.new L0).armed), Value.bool ((Dk.play Dk.new L0).off)], Ent.own v45 5 1 (((Dk.play Dk.new L0).l).length) (us .u8 ((Dk.play Dk.new L0).l)), Ent.blk b34 45 #[v43, Value.int .i64 ((Dk.play Dk.new L0).left), Value.bool ((Dk.play Dk.new L0).armed), Value.bool ((Dk.play Dk.new L0).off)], Ent.own v43 5 1 ((Dk.play Dk.new L0).l.length) (us .u8 ((Dk.play Dk.new L0).l)), Ent.blk b33 45 #[v40, Value.int .i64 ((Dk.play Dk.new L0).left), Value.bool ((Dk.play Dk.new L0).armed), Value.bool ((Dk.play Dk.new L0).off)], Ent.own v40 5 1 ((Dk.play Dk.new L0).l.length) (us .u8 ((Dk.play Dk.new L0).l))] := H_21.asL (i := 3) rfl (by rfl) rfl rfl
      have H_23 : Hp w0 [] w_14 [Ent.blk b45 45 #[v45, Value.int .i64 ((Dk.play Dk.new L0).left), Value.bool ((Dk.play Dk.new L0).armed), Value.bool ((Dk.play Dk.new L0).off)], Ent.own v45 5 1 (((Dk.play Dk.new L0).l).length) (us .u8 ((Dk.play Dk.new L0).l)), Ent.blk b32 45 #[v48, Value.int .i64 ((Dk.play (Dk.play Dk.new L0) L1).left), Value.bool ((Dk.play (Dk.play Dk.new L0) L1).armed), Value.bool ((Dk.play (Dk.play Dk.new L0) L1).off)], Ent.own v48 5 1 ((Dk.play (Dk.play Dk.new L0) L1).l.length) (us .u8 ((Dk.play (Dk.play Dk.new L0) L1).l)), Ent.blk b34 45 #[v43, Value.int .i64 ((Dk.play Dk.new L0).left), Value.bool ((Dk.play Dk.new L0).armed), Value.bool ((Dk.play Dk.new L0).off)], Ent.own v43 5 1 ((Dk.play Dk.new L0).l.length) (us .u8 ((Dk.play Dk.new L0).l)), Ent.blk b33 45 #[v40, Value.int .i64 ((Dk.play Dk.new L0).left), Value.bool ((Dk.play Dk.new L0).armed), Value.bool ((Dk.play Dk.new L0).off)], Ent.own v40 5 1 ((Dk.play Dk.new L0).l.length) (us .u8 ((Dk.play Dk.new L0).l))] := ((H_22.pull 3 rfl).pull 3 rfl)
      refine L_callv rfl rfl T_en22 (A2 rfl p_2) (play_n (Dk.play Dk.new L0) hT2 hg2 (by omega) f43_0 H_23) ?_
      rintro _ w_15 ⟨v51, rfl, f51_0, H_24⟩; refine ⟨_, rfl, ?_⟩
      refine L_nil ?_
      refine Th_n ?_
      refine W_seq ?_
      refine W_rg ?_
      refine L_mv rfl ?_
      refine L_mv rfl ?_
      have H_25 : Hp w0 [] w_15 [Ent.blk b45 45 #[v51, Value.int .i64 ((Dk.play (Dk.play Dk.new L0) L2).left), Value.bool ((Dk.play (Dk.play Dk.new L0) L2).armed), Value.bool ((Dk.play (Dk.play Dk.new L0) L2).off)], Ent.own v51 5 1 ((Dk.play (Dk.play Dk.new L0) L2).l.length) (us .u8 ((Dk.play (Dk.play Dk.new L0) L2).l)), Ent.blk b32 45 #[v48, Value.int .i64 ((Dk.play (Dk.play Dk.new L0) L1).left), Value.bool ((Dk.play (Dk.play Dk.new L0) L1).armed), Value.bool ((Dk.play (Dk.play Dk.new L0) L1).off)], Ent.own v48 5 1 ((Dk.play (Dk.play Dk.new L0) L1).l.length) (us .u8 ((Dk.play (Dk.play Dk.new L0) L1).l)), Ent.blk b34 45 #[v43, Value.int .i64 ((Dk.play Dk.new L0).left), Value.bool ((Dk.play Dk.new L0).armed), Value.bool ((Dk.play Dk.new L0).off)], Ent.own v43 5 1 ((Dk.play Dk.new L0).l.length) (us .u8 ((Dk.play Dk.new L0).l)), Ent.blk b33 45 #[v40, Value.int .i64 ((Dk.play Dk.new L0).left), Value.bool ((Dk.play Dk.new L0).armed), Value.bool ((Dk.play Dk.new L0).off)], Ent.own v40 5 1 (((Dk.play Dk.new L0).l).length) (us .u8 ((Dk.play Dk.new L0).l))] := H_24.asL (i := 7) rfl (by rfl) rfl rfl
      have H_26 : Hp w0 [] w_15 [Ent.blk b33 45 #[v40, Value.int .i64 ((Dk.play Dk.new L0).left), Value.bool ((Dk.play Dk.new L0).armed), Value.bool ((Dk.play Dk.new L0).off)], Ent.own v40 5 1 (((Dk.play Dk.new L0).l).length) (us .u8 ((Dk.play Dk.new L0).l)), Ent.blk b45 45 #[v51, Value.int .i64 ((Dk.play (Dk.play Dk.new L0) L2).left), Value.bool ((Dk.play (Dk.play Dk.new L0) L2).armed), Value.bool ((Dk.play (Dk.play Dk.new L0) L2).off)], Ent.own v51 5 1 ((Dk.play (Dk.play Dk.new L0) L2).l.length) (us .u8 ((Dk.play (Dk.play Dk.new L0) L2).l)), Ent.blk b32 45 #[v48, Value.int .i64 ((Dk.play (Dk.play Dk.new L0) L1).left), Value.bool ((Dk.play (Dk.play Dk.new L0) L1).armed), Value.bool ((Dk.play (Dk.play Dk.new L0) L1).off)], Ent.own v48 5 1 ((Dk.play (Dk.play Dk.new L0) L1).l.length) (us .u8 ((Dk.play (Dk.play Dk.new L0) L1).l)), Ent.blk b34 45 #[v43, Value.int .i64 ((Dk.play Dk.new L0).left), Value.bool ((Dk.play Dk.new L0).armed), Value.bool ((Dk.play Dk.new L0).off)], Ent.own v43 5 1 ((Dk.play Dk.new L0).l.length) (us .u8 ((Dk.play Dk.new L0).l))] := ((H_25.pull 7 rfl).pull 7 rfl)
      refine L_callv rfl rfl T_en22 (A2 rfl p_1) (play_n (Dk.play Dk.new L0) hT1 hg1 (by omega) f43_0 H_26) ?_
      rintro _ w_16 ⟨v54, rfl, f54_0, H_27⟩; refine ⟨_, rfl, ?_⟩
      refine L_nil ?_
      refine Th_n ?_
      refine W_seq ?_
      refine W_rg ?_
      refine L_mv rfl ?_
      refine L_mv rfl ?_
      have H_28 : Hp w0 [] w_16 [Ent.blk b33 45 #[v54, Value.int .i64 ((Dk.play (Dk.play Dk.new L0) L1).left), Value.bool ((Dk.play (Dk.play Dk.new L0) L1).armed), Value.bool ((Dk.play (Dk.play Dk.new L0) L1).off)], Ent.own v54 5 1 ((Dk.play (Dk.play Dk.new L0) L1).l.length) (us .u8 ((Dk.play (Dk.play Dk.new L0) L1).l)), Ent.blk b45 45 #[v51, Value.int .i64 ((Dk.play (Dk.play Dk.new L0) L2).left), Value.bool ((Dk.play (Dk.play Dk.new L0) L2).armed), Value.bool ((Dk.play (Dk.play Dk.new L0) L2).off)], Ent.own v51 5 1 ((Dk.play (Dk.play Dk.new L0) L2).l.length) (us .u8 ((Dk.play (Dk.play Dk.new L0) L2).l)), Ent.blk b32 45 #[v48, Value.int .i64 ((Dk.play (Dk.play Dk.new L0) L1).left), Value.bool ((Dk.play (Dk.play Dk.new L0) L1).armed), Value.bool ((Dk.play (Dk.play Dk.new L0) L1).off)], Ent.own v48 5 1 ((Dk.play (Dk.play Dk.new L0) L1).l.length) (us .u8 ((Dk.play (Dk.play Dk.new L0) L1).l)), Ent.blk b34 45 #[v43, Value.int .i64 ((Dk.play Dk.new L0).left), Value.bool ((Dk.play Dk.new L0).armed), Value.bool ((Dk.play Dk.new L0).off)], Ent.own v43 5 1 (((Dk.play Dk.new L0).l).length) (us .u8 ((Dk.play Dk.new L0).l))] := H_27.asL (i := 7) rfl (by rfl) rfl rfl
      have H_29 : Hp w0 [] w_16 [Ent.blk b34 45 #[v43, Value.int .i64 ((Dk.play Dk.new L0).left), Value.bool ((Dk.play Dk.new L0).armed), Value.bool ((Dk.play Dk.new L0).off)], Ent.own v43 5 1 (((Dk.play Dk.new L0).l).length) (us .u8 ((Dk.play Dk.new L0).l)), Ent.blk b33 45 #[v54, Value.int .i64 ((Dk.play (Dk.play Dk.new L0) L1).left), Value.bool ((Dk.play (Dk.play Dk.new L0) L1).armed), Value.bool ((Dk.play (Dk.play Dk.new L0) L1).off)], Ent.own v54 5 1 ((Dk.play (Dk.play Dk.new L0) L1).l.length) (us .u8 ((Dk.play (Dk.play Dk.new L0) L1).l)), Ent.blk b45 45 #[v51, Value.int .i64 ((Dk.play (Dk.play Dk.new L0) L2).left), Value.bool ((Dk.play (Dk.play Dk.new L0) L2).armed), Value.bool ((Dk.play (Dk.play Dk.new L0) L2).off)], Ent.own v51 5 1 ((Dk.play (Dk.play Dk.new L0) L2).l.length) (us .u8 ((Dk.play (Dk.play Dk.new L0) L2).l)), Ent.blk b32 45 #[v48, Value.int .i64 ((Dk.play (Dk.play Dk.new L0) L1).left), Value.bool ((Dk.play (Dk.play Dk.new L0) L1).armed), Value.bool ((Dk.play (Dk.play Dk.new L0) L1).off)], Ent.own v48 5 1 ((Dk.play (Dk.play Dk.new L0) L1).l.length) (us .u8 ((Dk.play (Dk.play Dk.new L0) L1).l))] := ((H_28.pull 7 rfl).pull 7 rfl)
      refine L_callv rfl rfl T_en22 (A2 rfl p_2) (play_n (Dk.play Dk.new L0) hT2 hg2 (by omega) f43_0 H_29) ?_
      rintro _ w_17 ⟨v57, rfl, f57_0, H_30⟩; refine ⟨_, rfl, ?_⟩
      refine L_nil ?_
      refine Th_n ?_
      refine W_seq ?_
      refine W_rg ?_
      refine L_mv rfl ?_
      refine L_mv rfl ?_
      have H_31 : Hp w0 [] w_17 [Ent.blk b34 45 #[v57, Value.int .i64 ((Dk.play (Dk.play Dk.new L0) L2).left), Value.bool ((Dk.play (Dk.play Dk.new L0) L2).armed), Value.bool ((Dk.play (Dk.play Dk.new L0) L2).off)], Ent.own v57 5 1 ((Dk.play (Dk.play Dk.new L0) L2).l.length) (us .u8 ((Dk.play (Dk.play Dk.new L0) L2).l)), Ent.blk b33 45 #[v54, Value.int .i64 ((Dk.play (Dk.play Dk.new L0) L1).left), Value.bool ((Dk.play (Dk.play Dk.new L0) L1).armed), Value.bool ((Dk.play (Dk.play Dk.new L0) L1).off)], Ent.own v54 5 1 ((Dk.play (Dk.play Dk.new L0) L1).l.length) (us .u8 ((Dk.play (Dk.play Dk.new L0) L1).l)), Ent.blk b45 45 #[v51, Value.int .i64 ((Dk.play (Dk.play Dk.new L0) L2).left), Value.bool ((Dk.play (Dk.play Dk.new L0) L2).armed), Value.bool ((Dk.play (Dk.play Dk.new L0) L2).off)], Ent.own v51 5 1 ((Dk.play (Dk.play Dk.new L0) L2).l.length) (us .u8 ((Dk.play (Dk.play Dk.new L0) L2).l)), Ent.blk b32 45 #[v48, Value.int .i64 ((Dk.play (Dk.play Dk.new L0) L1).left), Value.bool ((Dk.play (Dk.play Dk.new L0) L1).armed), Value.bool ((Dk.play (Dk.play Dk.new L0) L1).off)], Ent.own v48 5 1 (((Dk.play (Dk.play Dk.new L0) L1).l).length) (us .u8 ((Dk.play (Dk.play Dk.new L0) L1).l))] := H_30.asL (i := 7) rfl (by rfl) rfl rfl
      have H_32 : Hp w0 [] w_17 [Ent.blk b34 45 #[v57, Value.int .i64 ((Dk.play (Dk.play Dk.new L0) L2).left), Value.bool ((Dk.play (Dk.play Dk.new L0) L2).armed), Value.bool ((Dk.play (Dk.play Dk.new L0) L2).off)], Ent.own v57 5 1 ((Dk.play (Dk.play Dk.new L0) L2).l.length) (us .u8 ((Dk.play (Dk.play Dk.new L0) L2).l)), Ent.blk b33 45 #[v54, Value.int .i64 ((Dk.play (Dk.play Dk.new L0) L1).left), Value.bool ((Dk.play (Dk.play Dk.new L0) L1).armed), Value.bool ((Dk.play (Dk.play Dk.new L0) L1).off)], Ent.own v54 5 1 (((Dk.play (Dk.play Dk.new L0) L1).l).length) (us .u8 ((Dk.play (Dk.play Dk.new L0) L1).l)), Ent.blk b45 45 #[v51, Value.int .i64 ((Dk.play (Dk.play Dk.new L0) L2).left), Value.bool ((Dk.play (Dk.play Dk.new L0) L2).armed), Value.bool ((Dk.play (Dk.play Dk.new L0) L2).off)], Ent.own v51 5 1 ((Dk.play (Dk.play Dk.new L0) L2).l.length) (us .u8 ((Dk.play (Dk.play Dk.new L0) L2).l)), Ent.blk b32 45 #[v48, Value.int .i64 ((Dk.play (Dk.play Dk.new L0) L1).left), Value.bool ((Dk.play (Dk.play Dk.new L0) L1).armed), Value.bool ((Dk.play (Dk.play Dk.new L0) L1).off)], Ent.own v48 5 1 (((Dk.play (Dk.play Dk.new L0) L1).l).length) (us .u8 ((Dk.play (Dk.play Dk.new L0) L1).l))] := H_31.asL (i := 3) rfl (by rfl) rfl rfl
      have H_33 : Hp w0 [] w_17 [Ent.blk b32 45 #[v48, Value.int .i64 ((Dk.play (Dk.play Dk.new L0) L1).left), Value.bool ((Dk.play (Dk.play Dk.new L0) L1).armed), Value.bool ((Dk.play (Dk.play Dk.new L0) L1).off)], Ent.own v48 5 1 (((Dk.play (Dk.play Dk.new L0) L1).l).length) (us .u8 ((Dk.play (Dk.play Dk.new L0) L1).l)), Ent.blk b33 45 #[v54, Value.int .i64 ((Dk.play (Dk.play Dk.new L0) L1).left), Value.bool ((Dk.play (Dk.play Dk.new L0) L1).armed), Value.bool ((Dk.play (Dk.play Dk.new L0) L1).off)], Ent.own v54 5 1 (((Dk.play (Dk.play Dk.new L0) L1).l).length) (us .u8 ((Dk.play (Dk.play Dk.new L0) L1).l)), Ent.blk b34 45 #[v57, Value.int .i64 ((Dk.play (Dk.play Dk.new L0) L2).left), Value.bool ((Dk.play (Dk.play Dk.new L0) L2).armed), Value.bool ((Dk.play (Dk.play Dk.new L0) L2).off)], Ent.own v57 5 1 ((Dk.play (Dk.play Dk.new L0) L2).l.length) (us .u8 ((Dk.play (Dk.play Dk.new L0) L2).l)), Ent.blk b45 45 #[v51, Value.int .i64 ((Dk.play (Dk.play Dk.new L0) L2).left), Value.bool ((Dk.play (Dk.play Dk.new L0) L2).armed), Value.bool ((Dk.play (Dk.play Dk.new L0) L2).off)], Ent.own v51 5 1 ((Dk.play (Dk.play Dk.new L0) L2).l.length) (us .u8 ((Dk.play (Dk.play Dk.new L0) L2).l))] := ((((H_32.pull 3 rfl).pull 3 rfl).pull 7 rfl).pull 7 rfl)
      refine L_callv rfl rfl T_en23 (A2 rfl rfl) (alike_n (Dk.play (Dk.play Dk.new L0) L1) f54_0 H_33) ?_
      rintro _ w_18 ⟨v60, v60_2, rfl, H_34⟩; refine ⟨_, rfl, ?_⟩
      refine L_mv rfl ?_
      refine G_mv (wE rfl rfl) rfl ?_
      refine G_mv (wE rfl rfl) rfl ?_
      have H_35 : Hp w0 [] w_18 [Ent.blk b32 45 #[v60, Value.int .i64 (((Dk.restart (Dk.play (Dk.play Dk.new L0) L1)).2).left), Value.bool (((Dk.restart (Dk.play (Dk.play Dk.new L0) L1)).2).armed), Value.bool (((Dk.restart (Dk.play (Dk.play Dk.new L0) L1)).2).off)], Ent.own v60 5 1 (((Dk.restart (Dk.play (Dk.play Dk.new L0) L1)).2).l.length) (us .u8 (((Dk.restart (Dk.play (Dk.play Dk.new L0) L1)).2).l)), Ent.blk b33 45 #[v60_2, Value.int .i64 (((Dk.restart (Dk.play (Dk.play Dk.new L0) L1)).2).left), Value.bool (((Dk.restart (Dk.play (Dk.play Dk.new L0) L1)).2).armed), Value.bool (((Dk.restart (Dk.play (Dk.play Dk.new L0) L1)).2).off)], Ent.own v60_2 5 1 (((Dk.restart (Dk.play (Dk.play Dk.new L0) L1)).2).l.length) (us .u8 (((Dk.restart (Dk.play (Dk.play Dk.new L0) L1)).2).l)), Ent.blk b34 45 #[v57, Value.int .i64 ((Dk.play (Dk.play Dk.new L0) L2).left), Value.bool ((Dk.play (Dk.play Dk.new L0) L2).armed), Value.bool ((Dk.play (Dk.play Dk.new L0) L2).off)], Ent.own v57 5 1 ((Dk.play (Dk.play Dk.new L0) L2).l.length) (us .u8 ((Dk.play (Dk.play Dk.new L0) L2).l)), Ent.blk b45 45 #[v51, Value.int .i64 ((Dk.play (Dk.play Dk.new L0) L2).left), Value.bool ((Dk.play (Dk.play Dk.new L0) L2).armed), Value.bool ((Dk.play (Dk.play Dk.new L0) L2).off)], Ent.own v51 5 1 (((Dk.play (Dk.play Dk.new L0) L2).l).length) (us .u8 ((Dk.play (Dk.play Dk.new L0) L2).l))] := H_34.asL (i := 7) rfl (by rfl) rfl rfl
      have H_36 : Hp w0 [] w_18 [Ent.blk b32 45 #[v60, Value.int .i64 (((Dk.restart (Dk.play (Dk.play Dk.new L0) L1)).2).left), Value.bool (((Dk.restart (Dk.play (Dk.play Dk.new L0) L1)).2).armed), Value.bool (((Dk.restart (Dk.play (Dk.play Dk.new L0) L1)).2).off)], Ent.own v60 5 1 (((Dk.restart (Dk.play (Dk.play Dk.new L0) L1)).2).l.length) (us .u8 (((Dk.restart (Dk.play (Dk.play Dk.new L0) L1)).2).l)), Ent.blk b33 45 #[v60_2, Value.int .i64 (((Dk.restart (Dk.play (Dk.play Dk.new L0) L1)).2).left), Value.bool (((Dk.restart (Dk.play (Dk.play Dk.new L0) L1)).2).armed), Value.bool (((Dk.restart (Dk.play (Dk.play Dk.new L0) L1)).2).off)], Ent.own v60_2 5 1 (((Dk.restart (Dk.play (Dk.play Dk.new L0) L1)).2).l.length) (us .u8 (((Dk.restart (Dk.play (Dk.play Dk.new L0) L1)).2).l)), Ent.blk b34 45 #[v57, Value.int .i64 ((Dk.play (Dk.play Dk.new L0) L2).left), Value.bool ((Dk.play (Dk.play Dk.new L0) L2).armed), Value.bool ((Dk.play (Dk.play Dk.new L0) L2).off)], Ent.own v57 5 1 (((Dk.play (Dk.play Dk.new L0) L2).l).length) (us .u8 ((Dk.play (Dk.play Dk.new L0) L2).l)), Ent.blk b45 45 #[v51, Value.int .i64 ((Dk.play (Dk.play Dk.new L0) L2).left), Value.bool ((Dk.play (Dk.play Dk.new L0) L2).armed), Value.bool ((Dk.play (Dk.play Dk.new L0) L2).off)], Ent.own v51 5 1 (((Dk.play (Dk.play Dk.new L0) L2).l).length) (us .u8 ((Dk.play (Dk.play Dk.new L0) L2).l))] := H_35.asL (i := 5) rfl (by rfl) rfl rfl
      have H_37 : Hp w0 [] w_18 [Ent.blk b45 45 #[v51, Value.int .i64 ((Dk.play (Dk.play Dk.new L0) L2).left), Value.bool ((Dk.play (Dk.play Dk.new L0) L2).armed), Value.bool ((Dk.play (Dk.play Dk.new L0) L2).off)], Ent.own v51 5 1 (((Dk.play (Dk.play Dk.new L0) L2).l).length) (us .u8 ((Dk.play (Dk.play Dk.new L0) L2).l)), Ent.blk b34 45 #[v57, Value.int .i64 ((Dk.play (Dk.play Dk.new L0) L2).left), Value.bool ((Dk.play (Dk.play Dk.new L0) L2).armed), Value.bool ((Dk.play (Dk.play Dk.new L0) L2).off)], Ent.own v57 5 1 (((Dk.play (Dk.play Dk.new L0) L2).l).length) (us .u8 ((Dk.play (Dk.play Dk.new L0) L2).l)), Ent.blk b32 45 #[v60, Value.int .i64 (((Dk.restart (Dk.play (Dk.play Dk.new L0) L1)).2).left), Value.bool (((Dk.restart (Dk.play (Dk.play Dk.new L0) L1)).2).armed), Value.bool (((Dk.restart (Dk.play (Dk.play Dk.new L0) L1)).2).off)], Ent.own v60 5 1 (((Dk.restart (Dk.play (Dk.play Dk.new L0) L1)).2).l.length) (us .u8 (((Dk.restart (Dk.play (Dk.play Dk.new L0) L1)).2).l)), Ent.blk b33 45 #[v60_2, Value.int .i64 (((Dk.restart (Dk.play (Dk.play Dk.new L0) L1)).2).left), Value.bool (((Dk.restart (Dk.play (Dk.play Dk.new L0) L1)).2).armed), Value.bool (((Dk.restart (Dk.play (Dk.play Dk.new L0) L1)).2).off)], Ent.own v60_2 5 1 (((Dk.restart (Dk.play (Dk.play Dk.new L0) L1)).2).l.length) (us .u8 (((Dk.restart (Dk.play (Dk.play Dk.new L0) L1)).2).l))] := ((((H_36.pull 5 rfl).pull 5 rfl).pull 7 rfl).pull 7 rfl)
      refine L_callv (wE rfl rfl) rfl T_en23 (A2 rfl rfl) (alike_n (Dk.play (Dk.play Dk.new L0) L2) f57_0 H_37) ?_
      rintro _ w_19 ⟨v64, v64_2, rfl, H_38⟩; refine ⟨_, rfl, ?_⟩
      refine L_y rfl (Y_pickT rfl) ?_
      refine L_mv rfl ?_
      refine L_callv (wE rfl rfl) rfl T_en7 (A0) (known_n _) ?_
      rintro _ w_20 ⟨rfl, hkp_3⟩; refine ⟨_, rfl, ?_⟩; have H_39 := H_38.keep hkp_3
      refine L_y rfl (Y_pickT rfl) ?_
      refine L_as rfl ?_
      refine L_nil ?_
      refine Th_n ?_
      refine W_ret ?_
      refine P_ret (vs := [Value.bool true]) (v := Value.bool true) rfl (.tmp rfl (Res.nil)) rfl ?_
      refine ⟨?_, H_39.nil_⟩
      rfl
end Go.Proofs.Ytlialefffhoagaa
