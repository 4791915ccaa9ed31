/- Walks of layers 1 and 3 and of their references. Printed by edwards.py. -/
import Derived.Test.YtbjpaggkmlgnoaaG22
namespace Go.Proofs.Ytbjpaggkmlgnoaa
open Go.Ev
set_option maxRecDepth 100000
theorem T_eqg26 : Try.prog.eqGuardType Try.prog.depth 26 = false := by kernel_rfl
theorem T_en12 : enters Try.prog 12 = true := by kernel_rfl
set_option maxRecDepth 100000 in
theorem zz26 (w : World) : (Op.equalIn 10000 26 (.agg (ua .u64 (Lm.l4 ⟨0, 0, 0, 0⟩))) (.agg (ua .u64 (Lm.l4 ⟨0, 0, 0, 0⟩)))).run Try.prog w = .ok true w := by kernel_rfl
theorem Y_zz26 {e : Env} {w : World} {d : Option Nat} {ty t2 : TypeId} {pos : String} {aft : Array Edge} {g : Option (Nat × Bool)} {x y : Operand} {P : Lm.P4} (hP : P = ⟨0, 0, 0, 0⟩) (hx : ev e x = .agg (ua .u64 (Lm.l4 P)))
    (hy : ev e y = .agg (ua .u64 (Lm.l4 ⟨0, 0, 0, 0⟩))) : Yl Try.prog ⟨d, .binOp .eql 26 x y t2, ty, pos, aft, g⟩ e w (.bool true) := by
  subst hP
  have h := zz26 w
  simp [Yl, execOp, hx, hy, eqGuard_arr T_eqg26, binOp, Op.equal, Op.maxDepth]
  rw [h]; rfl

theorem makes_n (y : Nat) (odd : Bool) (hy : y < 115792089237316195423570985008687907853269984665640564039457584007913129639936) (w0 : World) :
    Calls Try.prog 3 #[Value.agg (ua .u64 (Lm.w4 y)), Value.bool odd] w0 (fun r_ w' => r_ = .returned (.bool true) ∧ Keep w0 w') := by
  refine F_in Try.func3 rfl Try.ntmps3 rfl ?_
  intro e he
  have p_0 : e 0 = Value.agg (ua .u64 (Lm.w4 y)) := he 0 _ rfl
  have p_1 : e 1 = Value.bool odd := he 1 _ rfl
  have H := Hp.start w0 []
  refine W_seq ?_
  refine W_rg ?_
  refine L_box rfl H p_0 (cs := ua .u64 (Lm.w4 y)) rfl ?_; intro bk2 w_2 H_2
  refine L_as rfl ?_
  refine L_nil ?_
  refine Th_n ?_
  refine W_seq ?_
  refine W_rg ?_
  refine L_y rfl (Y_ldr T_row24 H_2 (i := 0) rfl rfl (by rw [ua_size]; exact (w4_wd y).1)) ?_
  refine L_mv rfl ?_
  refine L_callv rfl rfl T_en9 (A2 rfl p_1) ((at4_n y odd hy _).mono (fun r_ w' h => (⟨Lm.at4 y odd, Lm.at4b y odd, rfl, rfl, h⟩ : ∃ (P12 : Lm.P4) (q12 : Bool), P12 = Lm.at4 y odd ∧ q12 = Lm.at4b y odd ∧ r_ = .returned (Value.tuple #[Value.agg (ua .u64 (Lm.l4 P12)), Value.bool q12]) ∧ Keep w_2 w'))) ?_
  rintro _ w_3 ⟨P12, q12, hP12, hq12, rfl, hkp⟩; refine ⟨_, rfl, ?_⟩; have H_3 := H_2.keep hkp
  have okP12 : P12.ok := by rw [hP12]; exact Lm.at4_ok _ _
  refine L_mv rfl ?_
  refine L_y rfl (Y_ext rfl rfl) ?_
  refine L_y rfl (Y_ext rfl rfl) ?_
  refine L_alloc rfl H_3 T_zero26 ?_; intro bk5 w_4 H_4
  refine L_str (ds := ua .u64 (Lm.l4 P12)) T_row26 H_4 (i := 0) rfl rfl rfl (by rw [ua_size]; exact (Lm.l4_wd ⟨0, 0, 0, 0⟩).1) (by rw [ua_size]; exact (Lm.l4_wd P12).1) (ua_one _ _) (l' := [.blk bk5 26 (ua .u64 (Lm.l4 P12)), .blk bk2 24 (ua .u64 (Lm.w4 y))]) rfl ?_; intro w_5 H_5
  refine L_as rfl ?_
  refine L_nil ?_
  refine Th_n ?_
  refine W_seq ?_
  refine W_rg ?_
  refine L_y rfl (Y_ldr T_row24 H_5 (i := 1) rfl rfl (by rw [ua_size]; exact (w4_wd y).1)) ?_
  refine L_callv rfl rfl T_en11 (A1 rfl) ((num_n y hy _).mono (fun r_ w' h => (⟨y % Lm.p, rfl, h⟩ : ∃ (N17 : Nat), N17 = y % Lm.p ∧ r_ = .returned (Value.agg (ua .u64 (Lm.n8 N17))) ∧ Keep w_5 w'))) ?_
  rintro _ w_6 ⟨N17, hN17, rfl, hkp_2⟩; refine ⟨_, rfl, ?_⟩; have H_6 := H_5.keep hkp_2
  refine L_mv rfl ?_
  refine L_callv rfl rfl T_en10 (A2 rfl p_1) ((at3_n N17 odd (Lm.ltpp hN17) _).mono (fun r_ w' h => (⟨Lm.at3 N17 odd, Lm.at3b N17 odd, rfl, rfl, h⟩ : ∃ (W19 : Lm.P3) (q19 : Bool), W19 = Lm.at3 N17 odd ∧ q19 = Lm.at3b N17 odd ∧ r_ = .returned (Value.tuple #[Value.agg (ua .u64 (Lm.l3 W19)), Value.bool q19]) ∧ Keep w_6 w'))) ?_
  rintro _ w_7 ⟨W19, q19, hW19, hq19, rfl, hkp_3⟩; refine ⟨_, rfl, ?_⟩; have H_7 := H_6.keep hkp_3
  have okW19 : W19.ok := by rw [hW19]; exact Lm.at3_ok (Lm.ltpp hN17) _
  refine L_mv rfl ?_
  refine L_y rfl (Y_ext rfl rfl) ?_
  refine L_y rfl (Y_ext rfl rfl) ?_
  refine L_alloc rfl H_7 T_zero32 ?_; intro bk7 w_8 H_8
  refine L_str (ds := ua .u64 (Lm.l3 W19)) T_row32 H_8 (i := 0) rfl rfl rfl (by rw [ua_size]; exact (Lm.l3_wd ⟨0, 0, 0⟩).1) (by rw [ua_size]; exact (Lm.l3_wd W19).1) (ua_one _ _) (l' := [.blk bk7 32 (ua .u64 (Lm.l3 W19)), .blk bk5 26 (ua .u64 (Lm.l4 P12)), .blk bk2 24 (ua .u64 (Lm.w4 y))]) rfl ?_; intro w_9 H_9
  refine L_as rfl ?_
  refine L_nil ?_
  refine Th_n ?_
  refine W_seq ?_
  refine W_seq ?_
  refine W_rg ?_
  refine L_mv rfl ?_
  refine L_y rfl (Y_not (b := q19) rfl) ?_
  refine L_nil ?_
  refine Th_n ?_
  refine W_cond (b := (!q19)) rfl (fun hc => ?_) (fun hc => ?_)
  ·
    refine W_seq ?_
    refine W_rg ?_
    refine L_mv rfl ?_
    refine L_y rfl (Y_not (b := q12) rfl) ?_
    refine L_mv rfl ?_
    refine G_y (wE rfl (congrArg Value.bool (Lm.atf' hq12 hq19 hN17 hc))) rfl (Y_ldr T_row26 H_9 (i := 1) rfl rfl (by rw [ua_size]; exact (Lm.l4_wd P12).1)) ?_
    refine G_y (wE rfl (congrArg Value.bool (Lm.atf' hq12 hq19 hN17 hc))) rfl (Y_build (pv := []) (cs := ua .u64 (Lm.l4 ⟨0, 0, 0, 0⟩)) Bp0 (by kernel_rfl)) ?_
    refine G_y (wE rfl (congrArg Value.bool (Lm.atf' hq12 hq19 hN17 hc))) rfl (Y_zz26 (hP12.trans (Lm.q_none (Lm.atf hq12 hq19 hN17 hc))) rfl rfl) ?_
    refine L_y rfl (Y_pickT (congrArg Value.bool (Lm.atf' hq12 hq19 hN17 hc))) ?_
    refine L_mv rfl ?_
    refine L_callv (wE rfl rfl) rfl T_en12 (A0) (known_n _) ?_
    rintro _ w_10 ⟨rfl, hkp_4⟩; refine ⟨_, rfl, ?_⟩; have H_10 := H_9.keep hkp_4
    refine L_y rfl (Y_pickT rfl) ?_
    refine L_as rfl ?_
    refine L_nil ?_
    refine Th_n ?_
    refine W_ret ?_
    refine Th_r ?_
    refine P_ret (vs := [Value.bool true]) (v := Value.bool true) rfl (.tmp rfl (Res.nil)) rfl ?_
    refine ⟨?_, H_10.nil_⟩
    rfl
  ·
    refine W_skip ?_
    refine Th_n ?_
    refine W_seq ?_
    refine W_rg ?_
    refine L_mv rfl ?_
    refine L_mv rfl ?_
    refine G_y (wE rfl (congrArg Value.bool (Lm.att hq12 hq19 hN17 hc))) rfl (Y_ldr T_row26 H_9 (i := 1) rfl rfl (by rw [ua_size]; exact (Lm.l4_wd P12).1)) ?_
    refine G_y (wE rfl (congrArg Value.bool (Lm.att hq12 hq19 hN17 hc))) rfl (Y_ldr T_row32 H_9 (i := 0) rfl rfl (by rw [ua_size]; exact (Lm.l3_wd W19).1)) ?_
    refine L_callv (wE rfl (congrArg Value.bool (Lm.att hq12 hq19 hN17 hc))) rfl T_en13 (A2 rfl rfl) (is_n P12 W19 okP12 okW19 _) ?_
    rintro _ w_11 ⟨rfl, hkp_5⟩; refine ⟨_, rfl, ?_⟩; have H_11 := H_9.keep hkp_5
    refine L_y rfl (Y_pickT (congrArg Value.bool (Lm.att hq12 hq19 hN17 hc))) ?_
    refine L_mv rfl ?_
    refine L_callv (wE rfl (congrArg Value.bool (Lm.R4.is (hP12 ▸ (Lm.R4_at (hq12 ▸ (Lm.att hq12 hq19 hN17 hc) : Lm.at4b y odd = true)) : Lm.R4 P12 (Lm.ptA y odd)) (hW19 ▸ (by rw [hN17]; exact Lm.R3_at (hq12 ▸ (Lm.att hq12 hq19 hN17 hc) : Lm.at4b y odd = true) : Lm.R3 (Lm.at3 N17 odd) (Lm.ptA y odd)) : Lm.R3 W19 (Lm.ptA y odd)) rfl))) rfl T_en14 (A0) (idn4_n _) ?_
    rintro _ w_12 ⟨rfl, hkp_6⟩; refine ⟨_, rfl, ?_⟩; have H_12 := H_11.keep hkp_6
    refine L_callv (wE rfl (congrArg Value.bool (Lm.R4.is (hP12 ▸ (Lm.R4_at (hq12 ▸ (Lm.att hq12 hq19 hN17 hc) : Lm.at4b y odd = true)) : Lm.R4 P12 (Lm.ptA y odd)) (hW19 ▸ (by rw [hN17]; exact Lm.R3_at (hq12 ▸ (Lm.att hq12 hq19 hN17 hc) : Lm.at4b y odd = true) : Lm.R3 (Lm.at3 N17 odd) (Lm.ptA y odd)) : Lm.R3 W19 (Lm.ptA y odd)) rfl))) rfl T_en15 (A0) (idn3_n _) ?_
    rintro _ w_13 ⟨rfl, hkp_7⟩; refine ⟨_, rfl, ?_⟩; have H_13 := H_12.keep hkp_7
    refine L_callv (wE rfl (congrArg Value.bool (Lm.R4.is (hP12 ▸ (Lm.R4_at (hq12 ▸ (Lm.att hq12 hq19 hN17 hc) : Lm.at4b y odd = true)) : Lm.R4 P12 (Lm.ptA y odd)) (hW19 ▸ (by rw [hN17]; exact Lm.R3_at (hq12 ▸ (Lm.att hq12 hq19 hN17 hc) : Lm.at4b y odd = true) : Lm.R3 (Lm.at3 N17 odd) (Lm.ptA y odd)) : Lm.R3 W19 (Lm.ptA y odd)) rfl))) rfl T_en13 (A2 rfl rfl) (is_n Lm.idn4 Lm.idn3 Lm.idn4_ok Lm.idn3_ok _) ?_
    rintro _ w_14 ⟨rfl, hkp_8⟩; refine ⟨_, rfl, ?_⟩; have H_14 := H_13.keep hkp_8
    refine L_y rfl (Y_pickT (congrArg Value.bool (Lm.R4.is (hP12 ▸ (Lm.R4_at (hq12 ▸ (Lm.att hq12 hq19 hN17 hc) : Lm.at4b y odd = true)) : Lm.R4 P12 (Lm.ptA y odd)) (hW19 ▸ (by rw [hN17]; exact Lm.R3_at (hq12 ▸ (Lm.att hq12 hq19 hN17 hc) : Lm.at4b y odd = true) : Lm.R3 (Lm.at3 N17 odd) (Lm.ptA y odd)) : Lm.R3 W19 (Lm.ptA y odd)) rfl))) ?_
    refine L_mv rfl ?_
    refine L_callv (wE rfl (congrArg Value.bool (Lm.R4.is Lm.R4_idn Lm.R3_idn rfl))) rfl T_en12 (A0) (known_n _) ?_
    rintro _ w_15 ⟨rfl, hkp_9⟩; refine ⟨_, rfl, ?_⟩; have H_15 := H_14.keep hkp_9
    refine L_y rfl (Y_pickT (congrArg Value.bool (Lm.R4.is Lm.R4_idn Lm.R3_idn rfl))) ?_
    refine L_as rfl ?_
    refine L_nil ?_
    refine Th_n ?_
    refine W_ret ?_
    refine P_ret (vs := [Value.bool true]) (v := Value.bool true) rfl (.tmp rfl (Res.nil)) rfl ?_
    refine ⟨?_, H_15.nil_⟩
    rfl
end Go.Proofs.Ytbjpaggkmlgnoaa
