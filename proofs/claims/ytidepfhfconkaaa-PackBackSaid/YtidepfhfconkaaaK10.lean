/- Walks of layer 17 (pack) and of its reference. Printed by pack.py. -/
import Derived.Test.YtidepfhfconkaaaK9
namespace Go.Proofs.Ytidepfhfconkaaa
open Go.Ev
set_option maxRecDepth 100000
set_option linter.unusedVariables false
set_option linter.unusedSimpArgs false
theorem T_en7 : enters Try.prog 7 = true := by kernel_rfl
theorem T_fld34_0 : fldOf Try.prog 34 0 = some (0, 1) := by kernel_rfl
theorem T_scal3 : scal Try.prog 3 = true := by kernel_rfl
theorem T_fld34_2 : fldOf Try.prog 34 2 = some (2, 1) := by kernel_rfl
theorem T_scal32 : scal Try.prog 32 = true := by kernel_rfl
theorem T_fld34_1 : fldOf Try.prog 34 1 = some (1, 1) := by kernel_rfl
theorem T_info28 : (Try.prog.info? 28).isSome = true := by kernel_rfl
theorem T_scal5 : scal Try.prog 5 = true := by kernel_rfl
theorem T_en14 : enters Try.prog 14 = true := by kernel_rfl
theorem packWrites_n (a : Option Addr) (m c : Nat) (L : List Pk.Op) (w0 : World) (hT : Tab w0 Pk.Op.cells 4 a m c L) (hg : ∀ x ∈ L, Pk.Op.good w0 x) :
    Calls Try.prog 3 #[Value.slice a m c] w0 (fun r_ w' => r_ = .returned (.bool true) ∧ Keep w0 w') := by
  refine F_in Try.func3 rfl Try.ntmps3 rfl ?_
  intro e he
  have p_0 : e 0 = Value.slice a m c := he 0 _ rfl
  have H := Hp.start w0 []
  refine W_seq ?_
  refine W_rg ?_
  refine L_as rfl ?_
  refine L_nil ?_
  refine Th_n ?_
  refine W_seq ?_
  refine W_seq ?_
  refine W_rg ?_
  refine L_mv rfl ?_
  refine L_callv rfl rfl T_en7 (A1 p_0) (large_n _ _ _ _ _ (hT.hp H) (fun x hx => (hg x hx).hp H)) ?_
  rintro _ w_2 ⟨rfl, hkp⟩; refine ⟨_, rfl, ?_⟩; have H_2 := H.keep hkp
  refine L_nil ?_
  refine Th_n ?_
  refine W_cond (b := (Pk.large L)) rfl (fun hc => ?_) (fun hc => ?_)
  ·
    refine W_seq ?_
    refine W_rg ?_
    refine L_callv rfl rfl T_en8 (A0) (known_n _) ?_
    rintro _ w_3 ⟨rfl, hkp_2⟩; refine ⟨_, rfl, ?_⟩; have H_3 := H_2.keep hkp_2
    refine L_as rfl ?_
    refine L_nil ?_
    refine Th_n ?_
    refine W_ret ?_
    refine Th_r ?_
    refine P_ret (vs := [Value.bool true]) (v := Value.bool true) rfl (.tmp rfl (Res.nil)) rfl ?_
    refine ⟨?_, H_3.nil_⟩
    rfl
  ·
    obtain ⟨h200, hmax⟩ := Pk.large_no hc
    rw [hT.len] at h200
    refine W_skip ?_
    refine Th_n ?_
    refine W_seq ?_
    refine W_rg ?_
    refine L_alloc rfl H_2 T_zero28 ?_; intro bk3 w_4 H_4
    have H_5 : Hp w0 [] w_4 [Ent.blk bk3 28 #[Value.slice none 0 0, Value.int .i64 ((0 : Nat) : Int)], Ent.own (Value.slice none 0 0) 5 1 0 (us .u8 [])] := (H_4.nilOwn 5 1).perm (List.Perm.swap _ _ _)
    refine L_nil ?_
    refine Th_n ?_
    refine W_seq ?_
    refine W_rg ?_
    refine L_y rfl (Y_build (pv := []) (cs := #[Value.slice none 0 0, Value.int .i64 ((0 : Nat) : Int)]) Bp0 (by kernel_rfl)) ?_
    refine L_box rfl H_5 rfl (cs := #[Value.slice none 0 0, Value.int .i64 ((0 : Nat) : Int)]) rfl ?_; intro bk18 w_5 H_6
    have H_7 : Hp w0 [] w_5 [Ent.blk bk18 31 #[Value.slice none 0 0, Value.int .i64 ((0 : Nat) : Int)], Ent.own (Value.slice none 0 0) 5 1 0 (us .u8 []), Ent.blk bk3 28 #[Value.slice none 0 0, Value.int .i64 ((0 : Nat) : Int)], Ent.own (Value.slice none 0 0) 5 1 0 (us .u8 [])] := (H_6.nilOwn 5 1).perm (List.Perm.swap _ _ _)
    refine L_as rfl ?_
    refine L_nil ?_
    refine Th_n ?_
    refine W_seq ?_
    refine W_seq ?_
    refine W_rg ?_
    refine L_as rfl ?_
    refine L_nil ?_
    refine Th_n ?_
    refine W_block ?_
    refine W_loop (fun mu_ e w => ∃ i : Nat, ∃ vp : Value, ∃ vr : Value, ∃ l : List Nat, ∃ er : Nat, mu_ = m - i ∧ e 0 = Value.slice a m c ∧ e 3 = Value.pointer (some ⟨bk3, 0, none⟩) ∧ e 4 = Value.pointer (some ⟨bk18, 0, none⟩) ∧ e 5 = Value.int .i64 ((i : Nat) : Int) ∧ Hp w0 [] w [Ent.blk bk18 31 #[vr, Value.int .i64 ((er : Nat) : Int)], Ent.own vr 5 1 l.length (us .u8 l), Ent.blk bk3 28 #[vp, Value.int .i64 ((er : Nat) : Int)], Ent.own vp 5 1 l.length (us .u8 l)] ∧ (∀ u ∈ l, u < 256) ∧ l.length ≤ i * 300010 ∧ i ≤ m) _ ⟨0, _, _, [], 0, rfl, p_0, rfl, rfl, rfl, H_7, (by simp), (by simp), (Nat.zero_le _)⟩ ?_
    rintro mu_ e_2 w_6 ⟨i, vp, vr, l, er, rfl, e_2_0, e_2_3, e_2_4, e_2_5, H_8, hll, hlen, hi⟩
    refine W_seq ?_
    refine W_seq ?_
    refine W_rg ?_
    refine L_mv rfl ?_
    refine L_mv rfl ?_
    refine L_y rfl (Y_lenS T_sl22 e_2_0) ?_
    refine L_y rfl (Y_lss (k := .i64) (a := ((i : Nat) : Int)) (b := ((m : Nat) : Int)) e_2_5 rfl) ?_
    refine L_nil ?_
    refine Th_n ?_
    refine W_cond (b := (decide (((i : Nat) : Int) < ((m : Nat) : Int)))) rfl (fun hc_2 => ?_) (fun hc_2 => ?_)
    ·
      have hc_2' := of_decide_eq_true hc_2
      refine W_skip ?_
      refine Th_n ?_
      refine W_seq ?_
      refine W_block ?_
      refine W_seq ?_
      obtain ⟨el28, hel28⟩ := hT.at (j := i) (by omega)
      have gel28 := hg el28 (List.mem_of_getElem? hel28)
      have bel28 := gel28.big
      have lel28 := gel28.sl.len
      have hmel28 := hmax el28 (List.mem_of_getElem? hel28)
      have sel28 := gel28.s1
      have tel28 := gel28.s2
      refine W_anyL 15 [0, 6, 7, 8] [25, 31, 32, 33] [undef, Value.slice a m c, Value.int .i64 ((i : Nat) : Int), pl a (i * 4 + 0), pl a (i * 4 + 0 + 3), Value.slice el28.a el28.m el28.c, undef, undef, undef, Value.slice a m c, Value.int .i64 ((i : Nat) : Int), pl a (i * 4 + 0), pl a (i * 4 + 0 + 3), Value.slice el28.a el28.m el28.c, Value.int .i64 ((el28.m : Nat) : Int)] (fun w => w.heap[bk18]? = some (.cells #[vr, Value.int .i64 ((er : Nat) : Int)] 31 (0, 0)) ∧ w.heap[bk3]? = some (.cells #[vp, Value.int .i64 ((er : Nat) : Int)] 28 (0, 0)) ∧ Stay w0 w) [fun vs w => Hp w0 [] w [Ent.blk bk18 31 #[vr, Value.int .i64 ((er : Nat) : Int)], Ent.own vr 5 1 l.length (us .u8 l), Ent.blk bk3 28 #[vp, Value.int .i64 ((er : Nat) : Int)], Ent.own vp 5 1 l.length (us .u8 l)], fun vs w => ∃ bk25_, vs[0]? = some (Value.slice (some ⟨bk25_, 0, none⟩) 0 0) ∧ Hp w0 [] w [Ent.own (Value.slice (some ⟨bk25_, 0, none⟩) 0 0) 5 1 0 (us .u8 []), Ent.blk bk18 31 #[vr, Value.int .i64 ((er : Nat) : Int)], Ent.own vr 5 1 l.length (us .u8 l), Ent.blk bk3 28 #[vp, Value.int .i64 ((er : Nat) : Int)], Ent.own vp 5 1 l.length (us .u8 l)], fun _ _ => False, fun vs w => ∃ bk25_, ∃ v31_, vs[0]? = some (Value.slice (some ⟨bk25_, 0, none⟩) 0 0) ∧ vs[1]? = some (v31_) ∧ Hp w0 [] w [Ent.own v31_ 5 1 (0 + el28.m) (us .u8 el28.l), Ent.blk bk18 31 #[vr, Value.int .i64 ((er : Nat) : Int)], Ent.own vr 5 1 l.length (us .u8 l), Ent.blk bk3 28 #[vp, Value.int .i64 ((er : Nat) : Int)], Ent.own vp 5 1 l.length (us .u8 l)], fun vs w => ∃ bk32_, vs[2]? = some (Value.slice (some ⟨bk32_, 0, none⟩) 1 1) ∧ Hp w0 [] w [Ent.blk bk32_ 5 (ua .u8 [77]), Ent.blk bk18 31 #[vr, Value.int .i64 ((er : Nat) : Int)], Ent.own vr 5 1 l.length (us .u8 l), Ent.blk bk3 28 #[vp, Value.int .i64 ((er : Nat) : Int)], Ent.own vp 5 1 l.length (us .u8 l)], fun vs w => ∃ bk25_, ∃ bk32_, vs[0]? = some (Value.slice (some ⟨bk25_, 0, none⟩) 0 0) ∧ vs[2]? = some (Value.slice (some ⟨bk32_, 0, none⟩) 1 1) ∧ Hp w0 [] w [Ent.own (Value.slice (some ⟨bk25_, 0, none⟩) 0 0) 5 1 0 (us .u8 []), Ent.blk bk32_ 5 (ua .u8 [77]), Ent.blk bk18 31 #[vr, Value.int .i64 ((er : Nat) : Int)], Ent.own vr 5 1 l.length (us .u8 l), Ent.blk bk3 28 #[vp, Value.int .i64 ((er : Nat) : Int)], Ent.own vp 5 1 l.length (us .u8 l)], fun _ _ => False, fun vs w => ∃ bk25_, ∃ v31_, ∃ bk32_, vs[0]? = some (Value.slice (some ⟨bk25_, 0, none⟩) 0 0) ∧ vs[1]? = some (v31_) ∧ vs[2]? = some (Value.slice (some ⟨bk32_, 0, none⟩) 1 1) ∧ Hp w0 [] w [Ent.own v31_ 5 1 (0 + el28.m) (us .u8 el28.l), Ent.blk bk32_ 5 (ua .u8 [77]), Ent.blk bk18 31 #[vr, Value.int .i64 ((er : Nat) : Int)], Ent.own vr 5 1 l.length (us .u8 l), Ent.blk bk3 28 #[vp, Value.int .i64 ((er : Nat) : Int)], Ent.own vp 5 1 l.length (us .u8 l)], fun _ _ => False, fun _ _ => False, fun _ _ => False, fun _ _ => False, fun _ _ => False, fun _ _ => False, fun _ _ => False, fun vs w => ∃ bk25_, ∃ v31_, ∃ bk32_, ∃ v33_, vs[0]? = some (Value.slice (some ⟨bk25_, 0, none⟩) 0 0) ∧ vs[1]? = some (v31_) ∧ vs[2]? = some (Value.slice (some ⟨bk32_, 0, none⟩) 1 1) ∧ vs[3]? = some (v33_) ∧ Hp w0 [] w [Ent.own v33_ 5 1 ((0 + el28.m) + 1) (us .u8 (el28.l ++ [77])), Ent.blk bk32_ 5 (ua .u8 [77]), Ent.blk bk18 31 #[vr, Value.int .i64 ((er : Nat) : Int)], Ent.own vr 5 1 l.length (us .u8 l), Ent.blk bk3 28 #[vp, Value.int .i64 ((er : Nat) : Int)], Ent.own vp 5 1 l.length (us .u8 l)]] T_mixed (by kernel_rfl) ⟨fun _ _ H => ⟨H.get 0 rfl, H.get 2 rfl, H.stay⟩, fun _ _ h => by obtain ⟨_, _, H⟩ := h; exact ⟨H.get 1 rfl, H.get 3 rfl, H.stay⟩, fun _ _ h => h.elim, fun _ _ h => by obtain ⟨_, _, _, _, H⟩ := h; exact ⟨H.get 1 rfl, H.get 3 rfl, H.stay⟩, fun _ _ h => by obtain ⟨_, _, H⟩ := h; exact ⟨H.get 1 rfl, H.get 3 rfl, H.stay⟩, fun _ _ h => by obtain ⟨_, _, _, _, H⟩ := h; exact ⟨H.get 2 rfl, H.get 4 rfl, H.stay⟩, fun _ _ h => h.elim, fun _ _ h => by obtain ⟨_, _, _, _, _, _, H⟩ := h; exact ⟨H.get 2 rfl, H.get 4 rfl, H.stay⟩, fun _ _ h => h.elim, fun _ _ h => h.elim, fun _ _ h => h.elim, fun _ _ h => h.elim, fun _ _ h => h.elim, fun _ _ h => h.elim, fun _ _ h => h.elim, fun _ _ h => by obtain ⟨_, _, _, _, _, _, _, _, H⟩ := h; exact ⟨H.get 2 rfl, H.get 4 rfl, H.stay⟩, trivial⟩ ⟨fun _ _ _ hkp H => H.keep hkp, fun _ _ _ hkp h => by obtain ⟨q0, q1, H⟩ := h; exact ⟨q0, q1, H.keep hkp⟩, fun _ _ _ _ h => h.elim, fun _ _ _ hkp h => by obtain ⟨q0, q1, q2, q3, H⟩ := h; exact ⟨q0, q1, q2, q3, H.keep hkp⟩, fun _ _ _ hkp h => by obtain ⟨q0, q1, H⟩ := h; exact ⟨q0, q1, H.keep hkp⟩, fun _ _ _ hkp h => by obtain ⟨q0, q1, q2, q3, H⟩ := h; exact ⟨q0, q1, q2, q3, H.keep hkp⟩, fun _ _ _ _ h => h.elim, fun _ _ _ hkp h => by obtain ⟨q0, q1, q2, q3, q4, q5, H⟩ := h; exact ⟨q0, q1, q2, q3, q4, q5, H.keep hkp⟩, fun _ _ _ _ h => h.elim, fun _ _ _ _ h => h.elim, fun _ _ _ _ h => h.elim, fun _ _ _ _ h => h.elim, fun _ _ _ _ h => h.elim, fun _ _ _ _ h => h.elim, fun _ _ _ _ h => h.elim, fun _ _ _ hkp h => by obtain ⟨q0, q1, q2, q3, q4, q5, q6, q7, H⟩ := h; exact ⟨q0, q1, q2, q3, q4, q5, q6, q7, H.keep hkp⟩, trivial⟩ H_8 ?_ ?_
      ·
        refine .special 0 rfl (Special.of ⟨⟨⟨⟨⟨⟨⟨⟨⟨⟨⟨⟨⟨⟨⟨⟨trivial, fun _ _ _ e' w' hAg hYs => by
            have H : Hp w0 [] w' [Ent.blk bk18 31 #[vr, Value.int .i64 ((er : Nat) : Int)], Ent.own vr 5 1 l.length (us .u8 l), Ent.blk bk3 28 #[vp, Value.int .i64 ((er : Nat) : Int)], Ent.own vp 5 1 l.length (us .u8 l)] := hYs
            exact ⟨rfl, Dn_bsl (cs := ua .u8 []) H (pv := []) T_sl25 T_zero5 rfl Bp0 (by kernel_rfl) (fun b w2 Hn => ⟨_, rfl, (Hn.say (i := 0) (x' := Ent.own (Value.slice (some ⟨b, 0, none⟩) 0 0) 5 1 0 (us .u8 [])) rfl (own_of_blk (Nat.le_refl _) (by decide) rfl rfl) (fun _ h => h) rfl)⟩)⟩⟩, fun h => absurd h (by decide)⟩, fun _ _ h => absurd (by decide) (h 1 6 rfl (by decide))⟩, fun h => absurd h (by decide)⟩, fun _ _ _ e' w' hAg hYs => by
            obtain ⟨bk32_, q2, H⟩ := hYs
            exact ⟨rfl, Dn_bsl (cs := ua .u8 []) H (pv := []) T_sl25 T_zero5 rfl Bp0 (by kernel_rfl) (fun b w2 Hn => ⟨_, bk32_, rfl, q2, (Hn.say (i := 0) (x' := Ent.own (Value.slice (some ⟨b, 0, none⟩) 0 0) 5 1 0 (us .u8 [])) rfl (own_of_blk (Nat.le_refl _) (by decide) rfl rfl) (fun _ h => h) rfl)⟩)⟩⟩, fun h => absurd h (by decide)⟩, fun _ _ h => absurd (by decide) (h 1 6 rfl (by decide))⟩, fun h => absurd h (by decide)⟩, fun _ _ _ _ _ _ h => h.elim⟩, fun h => absurd h (by decide)⟩, fun _ _ h => absurd (by decide) (h 1 6 rfl (by decide))⟩, fun h => absurd h (by decide)⟩, fun _ _ _ _ _ _ h => h.elim⟩, fun h => absurd h (by decide)⟩, fun _ _ h => absurd (by decide) (h 1 6 rfl (by decide))⟩, fun h => absurd h (by decide)⟩) ?_
        refine .plain rfl (Pl_y rfl (fun w hBw => congrArg (fun v => Result.ok (Next.value v) w) e_2_0)) ?_
        refine .plain rfl (Pl_y rfl (fun w hBw => congrArg (fun v => Result.ok (Next.value v) w) e_2_5)) ?_
        refine .plain rfl (Pl_y rfl (fun w hBw => Y_idxT (j := i) T_sl22 (hT.stay hBw.2.2) hel28 rfl rfl rfl)) ?_
        refine .plain rfl (Pl_y rfl (fun w hBw => Y_fldT T_fld34_3 rfl (hT.stay hBw.2.2) hel28 rfl)) ?_
        refine .plain rfl (Pl_y rfl (fun w hBw => Y_ldT (j := i) (off := 3) T_scal25 (hT.stay hBw.2.2) hel28 rfl rfl rfl)) ?_
        refine .special 1 rfl (Special.of ⟨⟨⟨⟨⟨⟨⟨⟨⟨⟨⟨⟨⟨⟨⟨⟨trivial, fun _ h => absurd (h 0 0 rfl (by decide)) (by decide)⟩, fun _ _ _ e' w' hAg hYs => by
            obtain ⟨bk25_, q0, H⟩ := hYs
            exact ⟨rfl, Dn_appL H (i := 0) rfl T_sl25 T_zero5 rfl T_szb5 (Option.some.inj q0) ((hAg 30 rfl).trans rfl) (gel28.sl.hp H) (by omega) (fun v2 w2 Hn => ⟨bk25_, _, q0, rfl, Hn⟩)⟩⟩, fun h => absurd h (by decide)⟩, fun h => absurd h (by decide)⟩, fun _ h => absurd (h 0 0 rfl (by decide)) (by decide)⟩, fun _ _ _ e' w' hAg hYs => by
            obtain ⟨bk25_, bk32_, q0, q2, H⟩ := hYs
            exact ⟨rfl, Dn_appL H (i := 0) rfl T_sl25 T_zero5 rfl T_szb5 (Option.some.inj q0) ((hAg 30 rfl).trans rfl) (gel28.sl.hp H) (by omega) (fun v2 w2 Hn => ⟨bk25_, _, bk32_, q0, rfl, q2, Hn⟩)⟩⟩, fun h => absurd h (by decide)⟩, fun h => absurd h (by decide)⟩, fun _ h => absurd (h 0 0 rfl (by decide)) (by decide)⟩, fun _ _ h => absurd (by decide) (h 3 8 rfl (by decide))⟩, fun h => absurd h (by decide)⟩, fun h => absurd h (by decide)⟩, fun _ h => absurd (h 0 0 rfl (by decide)) (by decide)⟩, fun _ _ h => absurd (by decide) (h 3 8 rfl (by decide))⟩, fun h => absurd h (by decide)⟩, fun h => absurd h (by decide)⟩) ?_
        refine .special 2 rfl (Special.of ⟨⟨⟨⟨⟨⟨⟨⟨⟨⟨⟨⟨⟨⟨⟨⟨trivial, fun _ _ _ e' w' hAg hYs => by
            have H : Hp w0 [] w' [Ent.blk bk18 31 #[vr, Value.int .i64 ((er : Nat) : Int)], Ent.own vr 5 1 l.length (us .u8 l), Ent.blk bk3 28 #[vp, Value.int .i64 ((er : Nat) : Int)], Ent.own vp 5 1 l.length (us .u8 l)] := hYs
            exact ⟨rfl, Dn_bsl (cs := ua .u8 [77]) H (pv := [(0, Value.int .u8 ((77 : Nat) : Int))]) T_sl25 T_zero5 rfl (Bpc rfl Bp0) (by kernel_rfl) (fun b w2 Hn => ⟨_, rfl, Hn⟩)⟩⟩, fun _ _ _ e' w' hAg hYs => by
            obtain ⟨bk25_, q0, H⟩ := hYs
            exact ⟨rfl, Dn_bsl (cs := ua .u8 [77]) H (pv := [(0, Value.int .u8 ((77 : Nat) : Int))]) T_sl25 T_zero5 rfl (Bpc rfl Bp0) (by kernel_rfl) (fun b w2 Hn => ⟨bk25_, _, q0, rfl, Hn.swap⟩)⟩⟩, fun _ _ _ _ _ _ h => h.elim⟩, fun _ _ _ e' w' hAg hYs => by
            obtain ⟨bk25_, v31_, q0, q1, H⟩ := hYs
            exact ⟨rfl, Dn_bsl (cs := ua .u8 [77]) H (pv := [(0, Value.int .u8 ((77 : Nat) : Int))]) T_sl25 T_zero5 rfl (Bpc rfl Bp0) (by kernel_rfl) (fun b w2 Hn => ⟨bk25_, v31_, _, q0, q1, rfl, Hn.swap⟩)⟩⟩, fun h => absurd h (by decide)⟩, fun h => absurd h (by decide)⟩, fun h => absurd h (by decide)⟩, fun h => absurd h (by decide)⟩, fun _ _ h => absurd (by decide) (h 3 8 rfl (by decide))⟩, fun _ _ h => absurd (by decide) (h 3 8 rfl (by decide))⟩, fun _ _ h => absurd (by decide) (h 3 8 rfl (by decide))⟩, fun _ _ h => absurd (by decide) (h 3 8 rfl (by decide))⟩, fun h => absurd h (by decide)⟩, fun h => absurd h (by decide)⟩, fun h => absurd h (by decide)⟩, fun h => absurd h (by decide)⟩) ?_
        refine .special 3 rfl (Special.of ⟨⟨⟨⟨⟨⟨⟨⟨⟨⟨⟨⟨⟨⟨⟨⟨trivial, fun _ h => absurd (h 1 6 rfl (by decide)) (by decide)⟩, fun _ h => absurd (h 1 6 rfl (by decide)) (by decide)⟩, fun _ h => absurd (h 2 7 rfl (by decide)) (by decide)⟩, fun _ h => absurd (h 2 7 rfl (by decide)) (by decide)⟩, fun _ h => absurd (h 1 6 rfl (by decide)) (by decide)⟩, fun _ h => absurd (h 1 6 rfl (by decide)) (by decide)⟩, fun _ _ _ _ _ _ h => h.elim⟩, fun _ _ _ e' w' hAg hYs => by
            obtain ⟨bk25_, v31_, bk32_, q0, q1, q2, H⟩ := hYs
            exact ⟨rfl, Dn_appL H (i := 0) rfl T_sl25 T_zero5 rfl T_szb5 (Option.some.inj q1) (Option.some.inj q2) (ua_sla H (i := 1) rfl rfl) (by omega) (fun v2 w2 Hn => ⟨bk25_, v31_, bk32_, _, q0, q1, q2, rfl, Hn⟩)⟩⟩, fun h => absurd h (by decide)⟩, fun h => absurd h (by decide)⟩, fun h => absurd h (by decide)⟩, fun h => absurd h (by decide)⟩, fun h => absurd h (by decide)⟩, fun h => absurd h (by decide)⟩, fun h => absurd h (by decide)⟩, fun h => absurd h (by decide)⟩) ?_
        refine .plain rfl (Pl_y rfl (fun w hBw => congrArg (fun v => Result.ok (Next.value v) w) e_2_0)) ?_
        refine .plain rfl (Pl_y rfl (fun w hBw => congrArg (fun v => Result.ok (Next.value v) w) e_2_5)) ?_
        refine .plain rfl (Pl_y rfl (fun w hBw => Y_idxT (j := i) T_sl22 (hT.stay hBw.2.2) hel28 rfl rfl rfl)) ?_
        refine .plain rfl (Pl_y rfl (fun w hBw => Y_fldT T_fld34_3 rfl (hT.stay hBw.2.2) hel28 rfl)) ?_
        refine .plain rfl (Pl_y rfl (fun w hBw => Y_ldT (j := i) (off := 3) T_scal25 (hT.stay hBw.2.2) hel28 rfl rfl rfl)) ?_
        refine .plain rfl (Pl_y rfl (fun w hBw => Y_lenS T_sl25 rfl)) ?_
        exact .nil _
      ·
        intro e_3 w_7 hAg hYs
        obtain ⟨bk25_, v31_, bk32_, v33_, q0, q1, q2, q3, H_9⟩ := hYs
        have e_3_25 : e_3 25 = Value.slice (some ⟨bk25_, 0, none⟩) 0 0 := Option.some.inj q0
        have e_3_31 : e_3 31 = v31_ := Option.some.inj q1
        have e_3_32 : e_3 32 = Value.slice (some ⟨bk32_, 0, none⟩) 1 1 := Option.some.inj q2
        have e_3_33 : e_3 33 = v33_ := Option.some.inj q3
        have e_3_0 : e_3 0 = Value.slice a m c := (hAg 0 rfl).trans e_2_0
        have e_3_3 : e_3 3 = Value.pointer (some ⟨bk3, 0, none⟩) := (hAg 3 rfl).trans e_2_3
        have e_3_4 : e_3 4 = Value.pointer (some ⟨bk18, 0, none⟩) := (hAg 4 rfl).trans e_2_4
        have e_3_5 : e_3 5 = Value.int .i64 ((i : Nat) : Int) := (hAg 5 rfl).trans e_2_5
        have e_3_39 : e_3 39 = Value.int .i64 ((el28.m : Nat) : Int) := (hAg 39 rfl).trans rfl
        have H_10 : Hp w0 [] w_7 [Ent.own v33_ 5 1 (el28.m + 1) (us .u8 (el28.l ++ [77])), Ent.blk bk32_ 5 (ua .u8 [77]), Ent.blk bk18 31 #[vr, Value.int .i64 ((er : Nat) : Int)], Ent.own vr 5 1 l.length (us .u8 l), Ent.blk bk3 28 #[vp, Value.int .i64 ((er : Nat) : Int)], Ent.own vp 5 1 l.length (us .u8 l)] := H_9.asL (i := 0) rfl (by omega) rfl rfl
        obtain ⟨a_, c_, rfl⟩ := Sl.opn H_10 (i := 0) rfl
        refine L_y rfl (Y_cutHr (hi := el28.m) T_sl25 (Sl.own H_10 (i := 0) rfl) e_3_33 e_3_39 (Nat.le_trans (by omega) (Sl.own H_10 (i := 0) rfl).cap)) ?_
        refine L_as rfl ?_
        refine L_nil ?_
        refine Th_n ?_
        refine W_seq ?_
        refine W_rg ?_
        refine L_as rfl ?_
        refine L_nil ?_
        refine Th_n ?_
        refine W_seq ?_
        refine W_seq ?_
        refine W_rg ?_
        refine L_mv rfl ?_
        refine L_mv rfl ?_
        refine L_y rfl (Y_idxT (j := i) T_sl22 (hT.hp H_10) hel28 e_3_0 e_3_5 rfl) ?_
        refine L_y rfl (Y_fldT T_fld34_0 rfl (hT.hp H_10) hel28 rfl) ?_
        refine L_y rfl (Y_ldT (j := i) (off := 0) T_scal3 (hT.hp H_10) hel28 rfl rfl rfl) ?_
        refine L_nil ?_
        refine Th_n ?_
        refine W_block ?_
        refine W_seq ?_
        refine W_rg ?_
        refine L_y rfl (Y_eql (k := .i64) (a := el28.kind) (b := ((0 : Nat) : Int)) rfl rfl) ?_
        refine L_as rfl ?_
        refine L_nil ?_
        refine Th_n ?_
        refine W_cond (b := (el28.kind == ((0 : Nat) : Int))) rfl (fun hc_3 => ?_) (fun hc_3 => ?_)
        ·
          have hc_3' := eq_of_beq hc_3
          refine W_seq ?_
          refine W_quiet H_10 10 [Value.slice a m c, Value.int .i64 ((i : Nat) : Int), pl a (i * 4 + 0), pl a (i * 4 + 0 + 2), Value.int .u64 ((el28.n : Nat) : Int), Value.slice a m c, Value.int .i64 ((i : Nat) : Int), pl a (i * 4 + 0), pl a (i * 4 + 0 + 1), Value.int .i64 (el28.size)] T_mixed (by kernel_rfl) ?_ ?_
          ·
            refine .plain rfl (Pl_y rfl (fun w hBw => congrArg (fun v => Result.ok (Next.value v) w) e_3_0)) ?_
            refine .plain rfl (Pl_y rfl (fun w hBw => congrArg (fun v => Result.ok (Next.value v) w) e_3_5)) ?_
            refine .plain rfl (Pl_y rfl (fun w hBw => Y_idxT (j := i) T_sl22 (hT.hp hBw) hel28 rfl rfl rfl)) ?_
            refine .plain rfl (Pl_y rfl (fun w hBw => Y_fldT T_fld34_2 rfl (hT.hp hBw) hel28 rfl)) ?_
            refine .plain rfl (Pl_y rfl (fun w hBw => Y_ldT (j := i) (off := 2) T_scal32 (hT.hp hBw) hel28 rfl rfl rfl)) ?_
            refine .plain rfl (Pl_y rfl (fun w hBw => congrArg (fun v => Result.ok (Next.value v) w) e_3_0)) ?_
            refine .plain rfl (Pl_y rfl (fun w hBw => congrArg (fun v => Result.ok (Next.value v) w) e_3_5)) ?_
            refine .plain rfl (Pl_y rfl (fun w hBw => Y_idxT (j := i) T_sl22 (hT.hp hBw) hel28 rfl rfl rfl)) ?_
            refine .plain rfl (Pl_y rfl (fun w hBw => Y_fldT T_fld34_1 rfl (hT.hp hBw) hel28 rfl)) ?_
            refine .plain rfl (Pl_y rfl (fun w hBw => Y_ldT (j := i) (off := 1) T_scal3 (hT.hp hBw) hel28 rfl rfl rfl)) ?_
            exact .nil _
          ·
            intro e_4 w_8 hAg H_11
            have e_4_0 : e_4 0 = Value.slice a m c := (hAg 0 rfl).trans e_3_0
            have e_4_3 : e_4 3 = Value.pointer (some ⟨bk3, 0, none⟩) := (hAg 3 rfl).trans e_3_3
            have e_4_4 : e_4 4 = Value.pointer (some ⟨bk18, 0, none⟩) := (hAg 4 rfl).trans e_3_4
            have e_4_5 : e_4 5 = Value.int .i64 ((i : Nat) : Int) := (hAg 5 rfl).trans e_3_5
            have e_4_6 : e_4 6 = Value.slice a_ el28.m c_ := (hAg 6 rfl).trans rfl
            have e_4_52 : e_4 52 = Value.int .u64 ((el28.n : Nat) : Int) := (hAg 52 rfl).trans rfl
            have e_4_57 : e_4 57 = Value.int .i64 (el28.size) := (hAg 57 rfl).trans rfl
            have H_12 : Hp w0 [] w_8 [Ent.blk bk3 28 #[vp, Value.int .i64 ((er : Nat) : Int)], Ent.own vp 5 1 l.length (us .u8 l), Ent.own (Value.slice a_ (el28.m + 1) c_) 5 1 (el28.m + 1) (us .u8 (el28.l ++ [77])), Ent.blk bk32_ 5 (ua .u8 [77]), Ent.blk bk18 31 #[vr, Value.int .i64 ((er : Nat) : Int)], Ent.own vr 5 1 l.length (us .u8 l)] := ((H_11.pull 5 rfl).pull 5 rfl)
            refine L_callv rfl rfl T_en9 (A3 e_4_3 e_4_52 e_4_57) (wNum (l := l) (er := er) el28.n el28.size gel28.n64 (by omega) hll H_12) ?_
            rintro _ w_9 ⟨v58, rfl, H_13⟩; refine ⟨_, rfl, ?_⟩
            have hq := Pk.num_len (l := l) (e := er) (n := el28.n) (s := el28.size)
            refine L_as rfl ?_
            refine L_nil ?_
            refine Th_n ?_
            refine W_quiet H_13 11 [Value.pointer (some ⟨bk18, 0, none⟩), Value.slice a m c, Value.int .i64 ((i : Nat) : Int), pl a (i * 4 + 0), pl a (i * 4 + 0 + 2), Value.int .u64 ((el28.n : Nat) : Int), Value.slice a m c, Value.int .i64 ((i : Nat) : Int), pl a (i * 4 + 0), pl a (i * 4 + 0 + 1), Value.int .i64 (el28.size)] T_mixed (by kernel_rfl) ?_ ?_
            ·
              refine .plain rfl (Pl_y rfl (fun w hBw => congrArg (fun v => Result.ok (Next.value v) w) e_4_4)) ?_
              refine .plain rfl (Pl_y rfl (fun w hBw => congrArg (fun v => Result.ok (Next.value v) w) e_4_0)) ?_
              refine .plain rfl (Pl_y rfl (fun w hBw => congrArg (fun v => Result.ok (Next.value v) w) e_4_5)) ?_
              refine .plain rfl (Pl_y rfl (fun w hBw => Y_idxT (j := i) T_sl22 (hT.hp hBw) hel28 rfl rfl rfl)) ?_
              refine .plain rfl (Pl_y rfl (fun w hBw => Y_fldT T_fld34_2 rfl (hT.hp hBw) hel28 rfl)) ?_
              refine .plain rfl (Pl_y rfl (fun w hBw => Y_ldT (j := i) (off := 2) T_scal32 (hT.hp hBw) hel28 rfl rfl rfl)) ?_
              refine .plain rfl (Pl_y rfl (fun w hBw => congrArg (fun v => Result.ok (Next.value v) w) e_4_0)) ?_
              refine .plain rfl (Pl_y rfl (fun w hBw => congrArg (fun v => Result.ok (Next.value v) w) e_4_5)) ?_
              refine .plain rfl (Pl_y rfl (fun w hBw => Y_idxT (j := i) T_sl22 (hT.hp hBw) hel28 rfl rfl rfl)) ?_
              refine .plain rfl (Pl_y rfl (fun w hBw => Y_fldT T_fld34_1 rfl (hT.hp hBw) hel28 rfl)) ?_
              refine .plain rfl (Pl_y rfl (fun w hBw => Y_ldT (j := i) (off := 1) T_scal3 (hT.hp hBw) hel28 rfl rfl rfl)) ?_
              exact .nil _
            ·
              intro e_5 w_10 hAg H_14
              have e_5_0 : e_5 0 = Value.slice a m c := (hAg 0 rfl).trans e_4_0
              have e_5_3 : e_5 3 = Value.pointer (some ⟨bk3, 0, none⟩) := (hAg 3 rfl).trans e_4_3
              have e_5_4 : e_5 4 = Value.pointer (some ⟨bk18, 0, none⟩) := (hAg 4 rfl).trans e_4_4
              have e_5_5 : e_5 5 = Value.int .i64 ((i : Nat) : Int) := (hAg 5 rfl).trans e_4_5
              have e_5_6 : e_5 6 = Value.slice a_ el28.m c_ := (hAg 6 rfl).trans e_4_6
              have e_5_7 : e_5 7 = Value.pointer (some ⟨bk3, 0, none⟩) := (hAg 7 rfl).trans rfl
              have e_5_59 : e_5 59 = Value.pointer (some ⟨bk18, 0, none⟩) := (hAg 59 rfl).trans rfl
              have e_5_64 : e_5 64 = Value.int .u64 ((el28.n : Nat) : Int) := (hAg 64 rfl).trans rfl
              have e_5_69 : e_5 69 = Value.int .i64 (el28.size) := (hAg 69 rfl).trans rfl
              have H_15 : Hp w0 [] w_10 [Ent.blk bk18 31 #[vr, Value.int .i64 ((er : Nat) : Int)], Ent.own vr 5 1 l.length (us .u8 l), Ent.blk bk3 28 #[v58, Value.int .i64 (((Pk.num l er el28.n el28.size).2 : Nat) : Int)], Ent.own v58 5 1 ((Pk.num l er el28.n el28.size).1.length) (us .u8 ((Pk.num l er el28.n el28.size).1)), Ent.own (Value.slice a_ (el28.m + 1) c_) 5 1 (el28.m + 1) (us .u8 (el28.l ++ [77])), Ent.blk bk32_ 5 (ua .u8 [77])] := ((H_14.pull 5 rfl).pull 5 rfl)
              refine L_callv rfl rfl T_en10 (A3 e_5_59 e_5_64 e_5_69) (rNum (l := l) (er := er) el28.n el28.size gel28.n64 (by omega) hll H_15) ?_
              rintro _ w_11 ⟨v70, rfl, H_16⟩; refine ⟨_, rfl, ?_⟩
              have hq_2 := Pk.num_len (l := l) (e := er) (n := el28.n) (s := el28.size)
              refine L_nil ?_
              refine InB_n ?_
              refine Th_n ?_
              refine W_seq ?_
              refine W_seq ?_
              refine W_quiet H_16 21 [Value.pointer (some ⟨bk3, 0, none⟩), Value.bool false, Value.bool false, Value.slice a_ el28.m c_, Value.string (bs el28.l), Value.slice a m c, Value.int .i64 ((i : Nat) : Int), pl a (i * 4 + 0), pl a (i * 4 + 0 + 3), Value.slice el28.a el28.m el28.c, Value.string (bs el28.l), Value.bool (!decide (el28.l = el28.l)), Value.bool (!decide (el28.l = el28.l)), Value.bool (!decide (el28.l = el28.l)), Value.slice a_ el28.m c_, Value.slice a_ el28.m c_, Value.int .i64 ((el28.m : Nat) : Int), Value.int .i64 ((el28.m + 1 : Nat) : Int), Value.slice a_ (el28.m + 1) c_, Value.slice a_ el28.m c_, Value.int .i64 ((el28.m : Nat) : Int)] T_mixed (by kernel_rfl) ?_ ?_
              ·
                refine .plain rfl (Pl_y rfl (fun w hBw => congrArg (fun v => Result.ok (Next.value v) w) e_5_7)) ?_
                refine .plain rfl (Pl_y rfl (fun w hBw => Y_nePP Try.underlying35 T_info28 rfl e_5_3)) ?_
                refine .plain rfl (Pl_y rfl (fun w hBw => rfl)) ?_
                refine .plain rfl (Pl_y (wE rfl rfl) (fun w hBw => congrArg (fun v => Result.ok (Next.value v) w) e_5_6)) ?_
                refine .plain rfl (Pl_y (wE rfl rfl) (fun w hBw => Y_strL Try.underlying25 Try.underlying5 Try.underlying9 rfl ((Sl.own hBw (i := 4) rfl).pre lel28 (by omega)))) ?_
                refine .plain rfl (Pl_y (wE rfl rfl) (fun w hBw => congrArg (fun v => Result.ok (Next.value v) w) e_5_0)) ?_
                refine .plain rfl (Pl_y (wE rfl rfl) (fun w hBw => congrArg (fun v => Result.ok (Next.value v) w) e_5_5)) ?_
                refine .plain rfl (Pl_y (wE rfl rfl) (fun w hBw => Y_idxT (j := i) T_sl22 (hT.hp hBw) hel28 rfl rfl rfl)) ?_
                refine .plain rfl (Pl_y (wE rfl rfl) (fun w hBw => Y_fldT T_fld34_3 rfl (hT.hp hBw) hel28 rfl)) ?_
                refine .plain rfl (Pl_y (wE rfl rfl) (fun w hBw => Y_ldT (j := i) (off := 3) T_scal25 (hT.hp hBw) hel28 rfl rfl rfl)) ?_
                refine .plain rfl (Pl_y (wE rfl rfl) (fun w hBw => Y_strL Try.underlying25 Try.underlying5 Try.underlying9 rfl (gel28.sl.hp hBw))) ?_
                refine .plain rfl (Pl_y (wE rfl rfl) (fun w hBw => Y_neT (l1 := el28.l) (l2 := el28.l) Try.underlying9 gel28.lt gel28.lt rfl rfl)) ?_
                refine .plain rfl (Pl_y rfl (fun w hBw => Y_pickF rfl)) ?_
                refine .plain rfl (Pl_y rfl (fun w hBw => rfl)) ?_
                refine .plain rfl (Pl_y (wE rfl (congrArg Value.bool (by simp))) (fun w hBw => congrArg (fun v => Result.ok (Next.value v) w) e_5_6)) ?_
                refine .plain rfl (Pl_y (wE rfl (congrArg Value.bool (by simp))) (fun w hBw => congrArg (fun v => Result.ok (Next.value v) w) e_5_6)) ?_
                refine .plain rfl (Pl_y (wE rfl (congrArg Value.bool (by simp))) (fun w hBw => Y_lenS T_sl25 rfl)) ?_
                refine .plain rfl (Pl_y (wE rfl (congrArg Value.bool (by simp))) (fun w hBw => Y_add (k := .i64) (a := ((el28.m : Nat) : Int)) (b := ((1 : Nat) : Int)) (z := ((el28.m + 1 : Nat) : Int)) rfl rfl (wi (by omega)))) ?_
                refine .plain rfl (Pl_y (wE rfl (congrArg Value.bool (by simp))) (fun w hBw => Y_cutHr (hi := el28.m + 1) T_sl25 ((Sl.own hBw (i := 4) rfl).pre lel28 (by omega)) rfl rfl (Sl.own hBw (i := 4) rfl).cap)) ?_
                refine .plain rfl (Pl_y (wE rfl (congrArg Value.bool (by simp))) (fun w hBw => congrArg (fun v => Result.ok (Next.value v) w) e_5_6)) ?_
                refine .plain rfl (Pl_y (wE rfl (congrArg Value.bool (by simp))) (fun w hBw => Y_lenS T_sl25 rfl)) ?_
                exact .nil _
              ·
                intro e_6 w_12 hAg H_17
                have e_6_0 : e_6 0 = Value.slice a m c := (hAg 0 rfl).trans e_5_0
                have e_6_3 : e_6 3 = Value.pointer (some ⟨bk3, 0, none⟩) := (hAg 3 rfl).trans e_5_3
                have e_6_4 : e_6 4 = Value.pointer (some ⟨bk18, 0, none⟩) := (hAg 4 rfl).trans e_5_4
                have e_6_5 : e_6 5 = Value.int .i64 ((i : Nat) : Int) := (hAg 5 rfl).trans e_5_5
                have e_6_6 : e_6 6 = Value.slice a_ el28.m c_ := (hAg 6 rfl).trans e_5_6
                have e_6_106 : e_6 106 = Value.bool (!decide (el28.l = el28.l)) := (hAg 106 rfl).trans rfl
                have e_6_111 : e_6 111 = Value.slice a_ (el28.m + 1) c_ := (hAg 111 rfl).trans rfl
                have e_6_113 : e_6 113 = Value.int .i64 ((el28.m : Nat) : Int) := (hAg 113 rfl).trans rfl
                refine G_y (wE rfl (e_6_106.trans (congrArg Value.bool (by simp)))) rfl (Y_idxL (j := el28.m) T_sl25 (Sl.own H_17 (i := 4) rfl) e_6_111 e_6_113 rfl (by omega)) ?_
                refine G_y (wE rfl (e_6_106.trans (congrArg Value.bool (by simp)))) rfl (Y_ldR T_scal5 (Sl.own H_17 (i := 4) rfl).rd rfl (Pk.at77 lel28)) ?_
                refine G_y (wE rfl (e_6_106.trans (congrArg Value.bool (by simp)))) rfl (Y_neq (k := .u8) (a := ((77 : Nat) : Int)) (b := ((77 : Nat) : Int)) rfl rfl) ?_
                refine L_y rfl (Y_pickF (e_6_106.trans (congrArg Value.bool (by simp)))) ?_
                refine L_nil ?_
                refine Th_n ?_
                refine W_false (congrArg Value.bool (by decide : (((77 : Nat) : Int) != ((77 : Nat) : Int)) = false)) ?_
                refine W_skip ?_
                refine Th_n ?_
                refine W_seq ?_
                refine W_rg ?_
                refine L_as rfl ?_
                refine L_nil ?_
                refine Th_n ?_
                refine W_block ?_
                refine W_loop (fun mu_ e w => ∃ k : Nat, ∃ y : List Nat, mu_ = el28.m - k ∧ e 0 = Value.slice a m c ∧ e 3 = Value.pointer (some ⟨bk3, 0, none⟩) ∧ e 4 = Value.pointer (some ⟨bk18, 0, none⟩) ∧ e 5 = Value.int .i64 ((i : Nat) : Int) ∧ e 6 = Value.slice a_ el28.m c_ ∧ e 8 = Value.int .i64 ((k : Nat) : Int) ∧ Hp w0 [] w [Ent.blk bk18 31 #[v70, Value.int .i64 (((Pk.num l er el28.n el28.size).2 : Nat) : Int)], Ent.own v70 5 1 ((Pk.num l er el28.n el28.size).1.length) (us .u8 ((Pk.num l er el28.n el28.size).1)), Ent.blk bk3 28 #[v58, Value.int .i64 (((Pk.num l er el28.n el28.size).2 : Nat) : Int)], Ent.own v58 5 1 ((Pk.num l er el28.n el28.size).1.length) (us .u8 ((Pk.num l er el28.n el28.size).1)), Ent.own (Value.slice a_ (el28.m + 1) c_) 5 1 (el28.m + 1) (us .u8 y), Ent.blk bk32_ 5 (ua .u8 [77])] ∧ (∀ u ∈ y, u < 256) ∧ k ≤ el28.m) _ ⟨0, el28.l ++ [77], rfl, e_6_0, e_6_3, e_6_4, e_6_5, e_6_6, rfl, H_17, (app_lt gel28.lt (by decide)), (Nat.zero_le _)⟩ ?_
                rintro mu_ e_7 w_13 ⟨k, y, rfl, e_7_0, e_7_3, e_7_4, e_7_5, e_7_6, e_7_8, H_18, hy, hk⟩
                refine W_seq ?_
                refine W_seq ?_
                refine W_rg ?_
                refine L_mv rfl ?_
                refine L_mv rfl ?_
                refine L_y rfl (Y_lenS T_sl25 e_7_6) ?_
                refine L_y rfl (Y_lss (k := .i64) (a := ((k : Nat) : Int)) (b := ((el28.m : Nat) : Int)) e_7_8 rfl) ?_
                refine L_nil ?_
                refine Th_n ?_
                refine W_cond (b := (decide (((k : Nat) : Int) < ((el28.m : Nat) : Int)))) rfl (fun hc_4 => ?_) (fun hc_4 => ?_)
                ·
                  have hc_4' := of_decide_eq_true hc_4
                  refine W_skip ?_
                  refine Th_n ?_
                  refine W_seq ?_
                  refine W_block ?_
                  refine W_rg ?_
                  refine L_mv rfl ?_
                  refine L_mv rfl ?_
                  refine L_y rfl (Y_idxL (j := k) T_sl25 ((Sl.own H_18 (i := 4) rfl).tk (by omega)) e_7_6 e_7_8 rfl (by omega)) ?_
                  obtain ⟨x127, hx127⟩ : ∃ u, (y.take el28.m)[k]? = some u := ⟨_, List.getElem?_eq_getElem (by have := (⟨((Sl.own H_18 (i := 4) rfl).tk (by omega)).len, (fun u hu => hy u (List.mem_of_mem_take hu))⟩ : Wd el28.m 256 (y.take el28.m)).1; omega)⟩
                  have rx127 := (⟨((Sl.own H_18 (i := 4) rfl).tk (by omega)).len, (fun u hu => hy u (List.mem_of_mem_take hu))⟩ : Wd el28.m 256 (y.take el28.m)).2 _ (List.mem_of_getElem? hx127)
                  refine L_y rfl (Y_ldR T_scal5 ((Sl.own H_18 (i := 4) rfl).tk (by omega)).rd rfl (hx127)) ?_
                  refine L_yr (z := (x127 + 1) % 256) (m := 256) rfl (Yu_add (k := .u8) rfl x127 1 rfl rfl) (Nat.mod_lt _ (by decide)) ?_; intro x128 hx128 rx128
                  refine L_y rfl (Y_idxL (j := k) T_sl25 ((Sl.own H_18 (i := 4) rfl).tk (by omega)) e_7_6 e_7_8 rfl (by omega)) ?_
                  refine L_stR T_scal5 H_18 (i := 4) rfl rfl (by omega) rfl ?_; intro w_14 Hx
                  have H_19 : Hp w0 [] w_14 [Ent.blk bk18 31 #[v70, Value.int .i64 (((Pk.num l er el28.n el28.size).2 : Nat) : Int)], Ent.own v70 5 1 ((Pk.num l er el28.n el28.size).1.length) (us .u8 ((Pk.num l er el28.n el28.size).1)), Ent.blk bk3 28 #[v58, Value.int .i64 (((Pk.num l er el28.n el28.size).2 : Nat) : Int)], Ent.own v58 5 1 ((Pk.num l er el28.n el28.size).1.length) (us .u8 ((Pk.num l er el28.n el28.size).1)), Ent.own (Value.slice a_ (el28.m + 1) c_) 5 1 (el28.m + 1) (us .u8 (y.set k x128)), Ent.blk bk32_ 5 (ua .u8 [77])] := Hx
                  refine L_nil ?_
                  refine InB_n ?_
                  refine Th_n ?_
                  refine W_rg ?_
                  refine L_mv rfl ?_
                  refine L_y rfl (Y_add (k := .i64) (a := ((k : Nat) : Int)) (b := ((1 : Nat) : Int)) (z := ((k + 1 : Nat) : Int)) e_7_8 rfl (wi (by omega))) ?_
                  refine L_as rfl ?_
                  refine L_nil ?_
                  refine Th_n ⟨_, ?_, (k + 1), _, rfl, e_7_0, e_7_3, e_7_4, e_7_5, e_7_6, rfl, H_19, (set_lt hy rx128), (by omega)⟩
                  omega
                ·
                  have hc_4' := of_decide_eq_false hc_4
                  refine W_exit ?_
                  refine Th_x ?_
                  refine Th_x ?_
                  refine InB_hit ?_
                  refine InB_n ?_
                  refine Th_n ?_
                  refine W_rg ?_
                  refine L_mv rfl ?_
                  refine L_y rfl (Y_add (k := .i64) (a := ((i : Nat) : Int)) (b := ((1 : Nat) : Int)) (z := ((i + 1 : Nat) : Int)) e_7_5 rfl (wi (by omega))) ?_
                  refine L_as rfl ?_
                  refine L_nil ?_
                  refine Th_n ⟨_, ?_, (i + 1), _, _, _, _, rfl, e_7_0, e_7_3, e_7_4, rfl, ((((((H_18.erase 4).erase 4).pull 3 rfl).pull 3 rfl).pull 3 rfl).pull 3 rfl), (Pk.num_lt hll), (by rw [Nat.add_mul]; first | exact Nat.le_trans hlen (Nat.le_add_right _ _) | omega), (by omega)⟩
                  omega
        ·
          have hc_3' := ne_of_beq_false hc_3
          refine W_seq ?_
          refine W_rg ?_
          refine L_y rfl (Y_eql (k := .i64) (a := el28.kind) (b := ((1 : Nat) : Int)) rfl rfl) ?_
          refine L_as rfl ?_
          refine L_nil ?_
          refine Th_n ?_
          refine W_cond (b := (el28.kind == ((1 : Nat) : Int))) rfl (fun hc_5 => ?_) (fun hc_5 => ?_)
          ·
            have hc_5' := eq_of_beq hc_5
            refine W_seq ?_
            refine W_rg ?_
            refine L_mv rfl ?_
            have H_20 : Hp w0 [] w_7 [Ent.blk bk3 28 #[vp, Value.int .i64 ((er : Nat) : Int)], Ent.own vp 5 1 l.length (us .u8 l), Ent.own (Value.slice a_ (el28.m + 1) c_) 5 1 (el28.m + 1) (us .u8 (el28.l ++ [77])), Ent.blk bk32_ 5 (ua .u8 [77]), Ent.blk bk18 31 #[vr, Value.int .i64 ((er : Nat) : Int)], Ent.own vr 5 1 l.length (us .u8 l)] := ((H_10.pull 5 rfl).pull 5 rfl)
            refine L_callv rfl rfl T_en11 (A2 e_3_3 rfl) (wRaw (l := l) (er := er)  hll (by omega) ((Seen.own (i := 0) rfl).map (fun _ h_ => h_.pre lel28 (by omega))) gel28.lt H_20) ?_
            rintro _ w_15 ⟨v74, rfl, H_21⟩; refine ⟨_, rfl, ?_⟩
            have hq_3 := Pk.raw_len (l := l) (e := er) (b := el28.l)
            refine L_as rfl ?_
            refine L_nil ?_
            refine Th_n ?_
            refine W_rg ?_
            refine L_mv rfl ?_
            refine L_mv rfl ?_
            refine L_mv rfl ?_
            refine L_y rfl (Y_idxT (j := i) T_sl22 (hT.hp H_21) hel28 e_3_0 e_3_5 rfl) ?_
            refine L_y rfl (Y_fldT T_fld34_3 rfl (hT.hp H_21) hel28 rfl) ?_
            refine L_y rfl (Y_ldT (j := i) (off := 3) T_scal25 (hT.hp H_21) hel28 rfl rfl rfl) ?_
            have H_22 : Hp w0 [] w_15 [Ent.blk bk18 31 #[vr, Value.int .i64 ((er : Nat) : Int)], Ent.own vr 5 1 l.length (us .u8 l), Ent.blk bk3 28 #[v74, Value.int .i64 (((Pk.raw l er el28.l).2 : Nat) : Int)], Ent.own v74 5 1 ((Pk.raw l er el28.l).1.length) (us .u8 ((Pk.raw l er el28.l).1)), Ent.own (Value.slice a_ (el28.m + 1) c_) 5 1 (el28.m + 1) (us .u8 (el28.l ++ [77])), Ent.blk bk32_ 5 (ua .u8 [77])] := ((H_21.pull 5 rfl).pull 5 rfl)
            refine L_callv rfl rfl T_en12 (A2 e_3_4 rfl) (rRaw (l := l) (er := er)  hll (by omega) (Seen.old gel28.sl) gel28.lt H_22) ?_
            rintro _ w_16 ⟨v81, rfl, H_23⟩; refine ⟨_, rfl, ?_⟩
            have hq_4 := Pk.raw_len (l := l) (e := er) (b := el28.l)
            refine L_nil ?_
            refine InB_n ?_
            refine Th_n ?_
            refine W_seq ?_
            refine W_seq ?_
            refine W_quiet H_23 21 [Value.pointer (some ⟨bk3, 0, none⟩), Value.bool false, Value.bool false, Value.slice a_ el28.m c_, Value.string (bs el28.l), Value.slice a m c, Value.int .i64 ((i : Nat) : Int), pl a (i * 4 + 0), pl a (i * 4 + 0 + 3), Value.slice el28.a el28.m el28.c, Value.string (bs el28.l), Value.bool (!decide (el28.l = el28.l)), Value.bool (!decide (el28.l = el28.l)), Value.bool (!decide (el28.l = el28.l)), Value.slice a_ el28.m c_, Value.slice a_ el28.m c_, Value.int .i64 ((el28.m : Nat) : Int), Value.int .i64 ((el28.m + 1 : Nat) : Int), Value.slice a_ (el28.m + 1) c_, Value.slice a_ el28.m c_, Value.int .i64 ((el28.m : Nat) : Int)] T_mixed (by kernel_rfl) ?_ ?_
            ·
              refine .plain rfl (Pl_y rfl (fun w hBw => rfl)) ?_
              refine .plain rfl (Pl_y rfl (fun w hBw => Y_nePP Try.underlying35 T_info28 rfl e_3_3)) ?_
              refine .plain rfl (Pl_y rfl (fun w hBw => rfl)) ?_
              refine .plain rfl (Pl_y (wE rfl rfl) (fun w hBw => rfl)) ?_
              refine .plain rfl (Pl_y (wE rfl rfl) (fun w hBw => Y_strL Try.underlying25 Try.underlying5 Try.underlying9 rfl ((Sl.own hBw (i := 4) rfl).pre lel28 (by omega)))) ?_
              refine .plain rfl (Pl_y (wE rfl rfl) (fun w hBw => congrArg (fun v => Result.ok (Next.value v) w) e_3_0)) ?_
              refine .plain rfl (Pl_y (wE rfl rfl) (fun w hBw => congrArg (fun v => Result.ok (Next.value v) w) e_3_5)) ?_
              refine .plain rfl (Pl_y (wE rfl rfl) (fun w hBw => Y_idxT (j := i) T_sl22 (hT.hp hBw) hel28 rfl rfl rfl)) ?_
              refine .plain rfl (Pl_y (wE rfl rfl) (fun w hBw => Y_fldT T_fld34_3 rfl (hT.hp hBw) hel28 rfl)) ?_
              refine .plain rfl (Pl_y (wE rfl rfl) (fun w hBw => Y_ldT (j := i) (off := 3) T_scal25 (hT.hp hBw) hel28 rfl rfl rfl)) ?_
              refine .plain rfl (Pl_y (wE rfl rfl) (fun w hBw => Y_strL Try.underlying25 Try.underlying5 Try.underlying9 rfl (gel28.sl.hp hBw))) ?_
              refine .plain rfl (Pl_y (wE rfl rfl) (fun w hBw => Y_neT (l1 := el28.l) (l2 := el28.l) Try.underlying9 gel28.lt gel28.lt rfl rfl)) ?_
              refine .plain rfl (Pl_y rfl (fun w hBw => Y_pickF rfl)) ?_
              refine .plain rfl (Pl_y rfl (fun w hBw => rfl)) ?_
              refine .plain rfl (Pl_y (wE rfl (congrArg Value.bool (by simp))) (fun w hBw => rfl)) ?_
              refine .plain rfl (Pl_y (wE rfl (congrArg Value.bool (by simp))) (fun w hBw => rfl)) ?_
              refine .plain rfl (Pl_y (wE rfl (congrArg Value.bool (by simp))) (fun w hBw => Y_lenS T_sl25 rfl)) ?_
              refine .plain rfl (Pl_y (wE rfl (congrArg Value.bool (by simp))) (fun w hBw => Y_add (k := .i64) (a := ((el28.m : Nat) : Int)) (b := ((1 : Nat) : Int)) (z := ((el28.m + 1 : Nat) : Int)) rfl rfl (wi (by omega)))) ?_
              refine .plain rfl (Pl_y (wE rfl (congrArg Value.bool (by simp))) (fun w hBw => Y_cutHr (hi := el28.m + 1) T_sl25 ((Sl.own hBw (i := 4) rfl).pre lel28 (by omega)) rfl rfl (Sl.own hBw (i := 4) rfl).cap)) ?_
              refine .plain rfl (Pl_y (wE rfl (congrArg Value.bool (by simp))) (fun w hBw => rfl)) ?_
              refine .plain rfl (Pl_y (wE rfl (congrArg Value.bool (by simp))) (fun w hBw => Y_lenS T_sl25 rfl)) ?_
              exact .nil _
            ·
              intro e_8 w_17 hAg H_24
              have e_8_0 : e_8 0 = Value.slice a m c := (hAg 0 rfl).trans e_3_0
              have e_8_3 : e_8 3 = Value.pointer (some ⟨bk3, 0, none⟩) := (hAg 3 rfl).trans e_3_3
              have e_8_4 : e_8 4 = Value.pointer (some ⟨bk18, 0, none⟩) := (hAg 4 rfl).trans e_3_4
              have e_8_5 : e_8 5 = Value.int .i64 ((i : Nat) : Int) := (hAg 5 rfl).trans e_3_5
              have e_8_6 : e_8 6 = Value.slice a_ el28.m c_ := (hAg 6 rfl).trans rfl
              have e_8_106 : e_8 106 = Value.bool (!decide (el28.l = el28.l)) := (hAg 106 rfl).trans rfl
              have e_8_111 : e_8 111 = Value.slice a_ (el28.m + 1) c_ := (hAg 111 rfl).trans rfl
              have e_8_113 : e_8 113 = Value.int .i64 ((el28.m : Nat) : Int) := (hAg 113 rfl).trans rfl
              refine G_y (wE rfl (e_8_106.trans (congrArg Value.bool (by simp)))) rfl (Y_idxL (j := el28.m) T_sl25 (Sl.own H_24 (i := 4) rfl) e_8_111 e_8_113 rfl (by omega)) ?_
              refine G_y (wE rfl (e_8_106.trans (congrArg Value.bool (by simp)))) rfl (Y_ldR T_scal5 (Sl.own H_24 (i := 4) rfl).rd rfl (Pk.at77 lel28)) ?_
              refine G_y (wE rfl (e_8_106.trans (congrArg Value.bool (by simp)))) rfl (Y_neq (k := .u8) (a := ((77 : Nat) : Int)) (b := ((77 : Nat) : Int)) rfl rfl) ?_
              refine L_y rfl (Y_pickF (e_8_106.trans (congrArg Value.bool (by simp)))) ?_
              refine L_nil ?_
              refine Th_n ?_
              refine W_false (congrArg Value.bool (by decide : (((77 : Nat) : Int) != ((77 : Nat) : Int)) = false)) ?_
              refine W_skip ?_
              refine Th_n ?_
              refine W_seq ?_
              refine W_rg ?_
              refine L_as rfl ?_
              refine L_nil ?_
              refine Th_n ?_
              refine W_block ?_
              refine W_loop (fun mu_ e w => ∃ k : Nat, ∃ y : List Nat, mu_ = el28.m - k ∧ e 0 = Value.slice a m c ∧ e 3 = Value.pointer (some ⟨bk3, 0, none⟩) ∧ e 4 = Value.pointer (some ⟨bk18, 0, none⟩) ∧ e 5 = Value.int .i64 ((i : Nat) : Int) ∧ e 6 = Value.slice a_ el28.m c_ ∧ e 8 = Value.int .i64 ((k : Nat) : Int) ∧ Hp w0 [] w [Ent.blk bk18 31 #[v81, Value.int .i64 (((Pk.raw l er el28.l).2 : Nat) : Int)], Ent.own v81 5 1 ((Pk.raw l er el28.l).1.length) (us .u8 ((Pk.raw l er el28.l).1)), Ent.blk bk3 28 #[v74, Value.int .i64 (((Pk.raw l er el28.l).2 : Nat) : Int)], Ent.own v74 5 1 ((Pk.raw l er el28.l).1.length) (us .u8 ((Pk.raw l er el28.l).1)), Ent.own (Value.slice a_ (el28.m + 1) c_) 5 1 (el28.m + 1) (us .u8 y), Ent.blk bk32_ 5 (ua .u8 [77])] ∧ (∀ u ∈ y, u < 256) ∧ k ≤ el28.m) _ ⟨0, el28.l ++ [77], rfl, e_8_0, e_8_3, e_8_4, e_8_5, e_8_6, rfl, H_24, (app_lt gel28.lt (by decide)), (Nat.zero_le _)⟩ ?_
              rintro mu_ e_9 w_18 ⟨k, y, rfl, e_9_0, e_9_3, e_9_4, e_9_5, e_9_6, e_9_8, H_25, hy, hk⟩
              refine W_seq ?_
              refine W_seq ?_
              refine W_rg ?_
              refine L_mv rfl ?_
              refine L_mv rfl ?_
              refine L_y rfl (Y_lenS T_sl25 e_9_6) ?_
              refine L_y rfl (Y_lss (k := .i64) (a := ((k : Nat) : Int)) (b := ((el28.m : Nat) : Int)) e_9_8 rfl) ?_
              refine L_nil ?_
              refine Th_n ?_
              refine W_cond (b := (decide (((k : Nat) : Int) < ((el28.m : Nat) : Int)))) rfl (fun hc_6 => ?_) (fun hc_6 => ?_)
              ·
                have hc_6' := of_decide_eq_true hc_6
                refine W_skip ?_
                refine Th_n ?_
                refine W_seq ?_
                refine W_block ?_
                refine W_rg ?_
                refine L_mv rfl ?_
                refine L_mv rfl ?_
                refine L_y rfl (Y_idxL (j := k) T_sl25 ((Sl.own H_25 (i := 4) rfl).tk (by omega)) e_9_6 e_9_8 rfl (by omega)) ?_
                obtain ⟨x127_2, hx127_2⟩ : ∃ u, (y.take el28.m)[k]? = some u := ⟨_, List.getElem?_eq_getElem (by have := (⟨((Sl.own H_25 (i := 4) rfl).tk (by omega)).len, (fun u hu => hy u (List.mem_of_mem_take hu))⟩ : Wd el28.m 256 (y.take el28.m)).1; omega)⟩
                have rx127_2 := (⟨((Sl.own H_25 (i := 4) rfl).tk (by omega)).len, (fun u hu => hy u (List.mem_of_mem_take hu))⟩ : Wd el28.m 256 (y.take el28.m)).2 _ (List.mem_of_getElem? hx127_2)
                refine L_y rfl (Y_ldR T_scal5 ((Sl.own H_25 (i := 4) rfl).tk (by omega)).rd rfl (hx127_2)) ?_
                refine L_yr (z := (x127_2 + 1) % 256) (m := 256) rfl (Yu_add (k := .u8) rfl x127_2 1 rfl rfl) (Nat.mod_lt _ (by decide)) ?_; intro x128_2 hx128_2 rx128_2
                refine L_y rfl (Y_idxL (j := k) T_sl25 ((Sl.own H_25 (i := 4) rfl).tk (by omega)) e_9_6 e_9_8 rfl (by omega)) ?_
                refine L_stR T_scal5 H_25 (i := 4) rfl rfl (by omega) rfl ?_; intro w_19 Hx_2
                have H_26 : Hp w0 [] w_19 [Ent.blk bk18 31 #[v81, Value.int .i64 (((Pk.raw l er el28.l).2 : Nat) : Int)], Ent.own v81 5 1 ((Pk.raw l er el28.l).1.length) (us .u8 ((Pk.raw l er el28.l).1)), Ent.blk bk3 28 #[v74, Value.int .i64 (((Pk.raw l er el28.l).2 : Nat) : Int)], Ent.own v74 5 1 ((Pk.raw l er el28.l).1.length) (us .u8 ((Pk.raw l er el28.l).1)), Ent.own (Value.slice a_ (el28.m + 1) c_) 5 1 (el28.m + 1) (us .u8 (y.set k x128_2)), Ent.blk bk32_ 5 (ua .u8 [77])] := Hx_2
                refine L_nil ?_
                refine InB_n ?_
                refine Th_n ?_
                refine W_rg ?_
                refine L_mv rfl ?_
                refine L_y rfl (Y_add (k := .i64) (a := ((k : Nat) : Int)) (b := ((1 : Nat) : Int)) (z := ((k + 1 : Nat) : Int)) e_9_8 rfl (wi (by omega))) ?_
                refine L_as rfl ?_
                refine L_nil ?_
                refine Th_n ⟨_, ?_, (k + 1), _, rfl, e_9_0, e_9_3, e_9_4, e_9_5, e_9_6, rfl, H_26, (set_lt hy rx128_2), (by omega)⟩
                omega
              ·
                have hc_6' := of_decide_eq_false hc_6
                refine W_exit ?_
                refine Th_x ?_
                refine Th_x ?_
                refine InB_hit ?_
                refine InB_n ?_
                refine Th_n ?_
                refine W_rg ?_
                refine L_mv rfl ?_
                refine L_y rfl (Y_add (k := .i64) (a := ((i : Nat) : Int)) (b := ((1 : Nat) : Int)) (z := ((i + 1 : Nat) : Int)) e_9_5 rfl (wi (by omega))) ?_
                refine L_as rfl ?_
                refine L_nil ?_
                refine Th_n ⟨_, ?_, (i + 1), _, _, _, _, rfl, e_9_0, e_9_3, e_9_4, rfl, ((((((H_25.erase 4).erase 4).pull 3 rfl).pull 3 rfl).pull 3 rfl).pull 3 rfl), (Pk.raw_lt hll gel28.lt), (by rw [Nat.add_mul]; first | exact Nat.le_trans hlen (Nat.le_add_right _ _) | omega), (by omega)⟩
                omega
          ·
            have hc_5' := ne_of_beq_false hc_5
            refine W_seq ?_
            refine W_rg ?_
            refine L_y rfl (Y_eql (k := .i64) (a := el28.kind) (b := ((2 : Nat) : Int)) rfl rfl) ?_
            refine L_as rfl ?_
            refine L_nil ?_
            refine Th_n ?_
            refine W_cond (b := (el28.kind == ((2 : Nat) : Int))) rfl (fun hc_7 => ?_) (fun hc_7 => ?_)
            ·
              have hc_7' := eq_of_beq hc_7
              refine W_seq ?_
              refine W_rg ?_
              refine L_mv rfl ?_
              have H_27 : Hp w0 [] w_7 [Ent.blk bk3 28 #[vp, Value.int .i64 ((er : Nat) : Int)], Ent.own vp 5 1 l.length (us .u8 l), Ent.own (Value.slice a_ (el28.m + 1) c_) 5 1 (el28.m + 1) (us .u8 (el28.l ++ [77])), Ent.blk bk32_ 5 (ua .u8 [77]), Ent.blk bk18 31 #[vr, Value.int .i64 ((er : Nat) : Int)], Ent.own vr 5 1 l.length (us .u8 l)] := ((H_10.pull 5 rfl).pull 5 rfl)
              refine L_callv rfl rfl T_en13 (A2 e_3_3 rfl) (wText (l := l) (er := er)  hll (by omega) ((Seen.own (i := 0) rfl).map (fun _ h_ => h_.pre lel28 (by omega))) gel28.lt H_27) ?_
              rintro _ w_20 ⟨v85, rfl, H_28⟩; refine ⟨_, rfl, ?_⟩
              have hq_5 := Pk.text_len (l := l) (e := er) (b := el28.l)
              refine L_as rfl ?_
              refine L_nil ?_
              refine Th_n ?_
              refine W_rg ?_
              refine L_mv rfl ?_
              refine L_mv rfl ?_
              refine L_mv rfl ?_
              refine L_y rfl (Y_idxT (j := i) T_sl22 (hT.hp H_28) hel28 e_3_0 e_3_5 rfl) ?_
              refine L_y rfl (Y_fldT T_fld34_3 rfl (hT.hp H_28) hel28 rfl) ?_
              refine L_y rfl (Y_ldT (j := i) (off := 3) T_scal25 (hT.hp H_28) hel28 rfl rfl rfl) ?_
              have H_29 : Hp w0 [] w_20 [Ent.blk bk18 31 #[vr, Value.int .i64 ((er : Nat) : Int)], Ent.own vr 5 1 l.length (us .u8 l), Ent.blk bk3 28 #[v85, Value.int .i64 (((Pk.text l er el28.l).2 : Nat) : Int)], Ent.own v85 5 1 ((Pk.text l er el28.l).1.length) (us .u8 ((Pk.text l er el28.l).1)), Ent.own (Value.slice a_ (el28.m + 1) c_) 5 1 (el28.m + 1) (us .u8 (el28.l ++ [77])), Ent.blk bk32_ 5 (ua .u8 [77])] := ((H_28.pull 5 rfl).pull 5 rfl)
              refine L_callv rfl rfl T_en14 (A2 e_3_4 rfl) (rText (l := l) (er := er)  hll (by omega) (Seen.old gel28.sl) gel28.lt H_29) ?_
              rintro _ w_21 ⟨v92, rfl, H_30⟩; refine ⟨_, rfl, ?_⟩
              have hq_6 := Pk.text_len (l := l) (e := er) (b := el28.l)
              refine L_nil ?_
              refine InB_n ?_
              refine Th_n ?_
              refine W_seq ?_
              refine W_seq ?_
              refine W_quiet H_30 21 [Value.pointer (some ⟨bk3, 0, none⟩), Value.bool false, Value.bool false, Value.slice a_ el28.m c_, Value.string (bs el28.l), Value.slice a m c, Value.int .i64 ((i : Nat) : Int), pl a (i * 4 + 0), pl a (i * 4 + 0 + 3), Value.slice el28.a el28.m el28.c, Value.string (bs el28.l), Value.bool (!decide (el28.l = el28.l)), Value.bool (!decide (el28.l = el28.l)), Value.bool (!decide (el28.l = el28.l)), Value.slice a_ el28.m c_, Value.slice a_ el28.m c_, Value.int .i64 ((el28.m : Nat) : Int), Value.int .i64 ((el28.m + 1 : Nat) : Int), Value.slice a_ (el28.m + 1) c_, Value.slice a_ el28.m c_, Value.int .i64 ((el28.m : Nat) : Int)] T_mixed (by kernel_rfl) ?_ ?_
              ·
                refine .plain rfl (Pl_y rfl (fun w hBw => rfl)) ?_
                refine .plain rfl (Pl_y rfl (fun w hBw => Y_nePP Try.underlying35 T_info28 rfl e_3_3)) ?_
                refine .plain rfl (Pl_y rfl (fun w hBw => rfl)) ?_
                refine .plain rfl (Pl_y (wE rfl rfl) (fun w hBw => rfl)) ?_
                refine .plain rfl (Pl_y (wE rfl rfl) (fun w hBw => Y_strL Try.underlying25 Try.underlying5 Try.underlying9 rfl ((Sl.own hBw (i := 4) rfl).pre lel28 (by omega)))) ?_
                refine .plain rfl (Pl_y (wE rfl rfl) (fun w hBw => congrArg (fun v => Result.ok (Next.value v) w) e_3_0)) ?_
                refine .plain rfl (Pl_y (wE rfl rfl) (fun w hBw => congrArg (fun v => Result.ok (Next.value v) w) e_3_5)) ?_
                refine .plain rfl (Pl_y (wE rfl rfl) (fun w hBw => Y_idxT (j := i) T_sl22 (hT.hp hBw) hel28 rfl rfl rfl)) ?_
                refine .plain rfl (Pl_y (wE rfl rfl) (fun w hBw => Y_fldT T_fld34_3 rfl (hT.hp hBw) hel28 rfl)) ?_
                refine .plain rfl (Pl_y (wE rfl rfl) (fun w hBw => Y_ldT (j := i) (off := 3) T_scal25 (hT.hp hBw) hel28 rfl rfl rfl)) ?_
                refine .plain rfl (Pl_y (wE rfl rfl) (fun w hBw => Y_strL Try.underlying25 Try.underlying5 Try.underlying9 rfl (gel28.sl.hp hBw))) ?_
                refine .plain rfl (Pl_y (wE rfl rfl) (fun w hBw => Y_neT (l1 := el28.l) (l2 := el28.l) Try.underlying9 gel28.lt gel28.lt rfl rfl)) ?_
                refine .plain rfl (Pl_y rfl (fun w hBw => Y_pickF rfl)) ?_
                refine .plain rfl (Pl_y rfl (fun w hBw => rfl)) ?_
                refine .plain rfl (Pl_y (wE rfl (congrArg Value.bool (by simp))) (fun w hBw => rfl)) ?_
                refine .plain rfl (Pl_y (wE rfl (congrArg Value.bool (by simp))) (fun w hBw => rfl)) ?_
                refine .plain rfl (Pl_y (wE rfl (congrArg Value.bool (by simp))) (fun w hBw => Y_lenS T_sl25 rfl)) ?_
                refine .plain rfl (Pl_y (wE rfl (congrArg Value.bool (by simp))) (fun w hBw => Y_add (k := .i64) (a := ((el28.m : Nat) : Int)) (b := ((1 : Nat) : Int)) (z := ((el28.m + 1 : Nat) : Int)) rfl rfl (wi (by omega)))) ?_
                refine .plain rfl (Pl_y (wE rfl (congrArg Value.bool (by simp))) (fun w hBw => Y_cutHr (hi := el28.m + 1) T_sl25 ((Sl.own hBw (i := 4) rfl).pre lel28 (by omega)) rfl rfl (Sl.own hBw (i := 4) rfl).cap)) ?_
                refine .plain rfl (Pl_y (wE rfl (congrArg Value.bool (by simp))) (fun w hBw => rfl)) ?_
                refine .plain rfl (Pl_y (wE rfl (congrArg Value.bool (by simp))) (fun w hBw => Y_lenS T_sl25 rfl)) ?_
                exact .nil _
              ·
                intro e_10 w_22 hAg H_31
                have e_10_0 : e_10 0 = Value.slice a m c := (hAg 0 rfl).trans e_3_0
                have e_10_3 : e_10 3 = Value.pointer (some ⟨bk3, 0, none⟩) := (hAg 3 rfl).trans e_3_3
                have e_10_4 : e_10 4 = Value.pointer (some ⟨bk18, 0, none⟩) := (hAg 4 rfl).trans e_3_4
                have e_10_5 : e_10 5 = Value.int .i64 ((i : Nat) : Int) := (hAg 5 rfl).trans e_3_5
                have e_10_6 : e_10 6 = Value.slice a_ el28.m c_ := (hAg 6 rfl).trans rfl
                have e_10_106 : e_10 106 = Value.bool (!decide (el28.l = el28.l)) := (hAg 106 rfl).trans rfl
                have e_10_111 : e_10 111 = Value.slice a_ (el28.m + 1) c_ := (hAg 111 rfl).trans rfl
                have e_10_113 : e_10 113 = Value.int .i64 ((el28.m : Nat) : Int) := (hAg 113 rfl).trans rfl
                refine G_y (wE rfl (e_10_106.trans (congrArg Value.bool (by simp)))) rfl (Y_idxL (j := el28.m) T_sl25 (Sl.own H_31 (i := 4) rfl) e_10_111 e_10_113 rfl (by omega)) ?_
                refine G_y (wE rfl (e_10_106.trans (congrArg Value.bool (by simp)))) rfl (Y_ldR T_scal5 (Sl.own H_31 (i := 4) rfl).rd rfl (Pk.at77 lel28)) ?_
                refine G_y (wE rfl (e_10_106.trans (congrArg Value.bool (by simp)))) rfl (Y_neq (k := .u8) (a := ((77 : Nat) : Int)) (b := ((77 : Nat) : Int)) rfl rfl) ?_
                refine L_y rfl (Y_pickF (e_10_106.trans (congrArg Value.bool (by simp)))) ?_
                refine L_nil ?_
                refine Th_n ?_
                refine W_false (congrArg Value.bool (by decide : (((77 : Nat) : Int) != ((77 : Nat) : Int)) = false)) ?_
                refine W_skip ?_
                refine Th_n ?_
                refine W_seq ?_
                refine W_rg ?_
                refine L_as rfl ?_
                refine L_nil ?_
                refine Th_n ?_
                refine W_block ?_
                refine W_loop (fun mu_ e w => ∃ k : Nat, ∃ y : List Nat, mu_ = el28.m - k ∧ e 0 = Value.slice a m c ∧ e 3 = Value.pointer (some ⟨bk3, 0, none⟩) ∧ e 4 = Value.pointer (some ⟨bk18, 0, none⟩) ∧ e 5 = Value.int .i64 ((i : Nat) : Int) ∧ e 6 = Value.slice a_ el28.m c_ ∧ e 8 = Value.int .i64 ((k : Nat) : Int) ∧ Hp w0 [] w [Ent.blk bk18 31 #[v92, Value.int .i64 (((Pk.text l er el28.l).2 : Nat) : Int)], Ent.own v92 5 1 ((Pk.text l er el28.l).1.length) (us .u8 ((Pk.text l er el28.l).1)), Ent.blk bk3 28 #[v85, Value.int .i64 (((Pk.text l er el28.l).2 : Nat) : Int)], Ent.own v85 5 1 ((Pk.text l er el28.l).1.length) (us .u8 ((Pk.text l er el28.l).1)), Ent.own (Value.slice a_ (el28.m + 1) c_) 5 1 (el28.m + 1) (us .u8 y), Ent.blk bk32_ 5 (ua .u8 [77])] ∧ (∀ u ∈ y, u < 256) ∧ k ≤ el28.m) _ ⟨0, el28.l ++ [77], rfl, e_10_0, e_10_3, e_10_4, e_10_5, e_10_6, rfl, H_31, (app_lt gel28.lt (by decide)), (Nat.zero_le _)⟩ ?_
                rintro mu_ e_11 w_23 ⟨k, y, rfl, e_11_0, e_11_3, e_11_4, e_11_5, e_11_6, e_11_8, H_32, hy, hk⟩
                refine W_seq ?_
                refine W_seq ?_
                refine W_rg ?_
                refine L_mv rfl ?_
                refine L_mv rfl ?_
                refine L_y rfl (Y_lenS T_sl25 e_11_6) ?_
                refine L_y rfl (Y_lss (k := .i64) (a := ((k : Nat) : Int)) (b := ((el28.m : Nat) : Int)) e_11_8 rfl) ?_
                refine L_nil ?_
                refine Th_n ?_
                refine W_cond (b := (decide (((k : Nat) : Int) < ((el28.m : Nat) : Int)))) rfl (fun hc_8 => ?_) (fun hc_8 => ?_)
                ·
                  have hc_8' := of_decide_eq_true hc_8
                  refine W_skip ?_
                  refine Th_n ?_
                  refine W_seq ?_
                  refine W_block ?_
                  refine W_rg ?_
                  refine L_mv rfl ?_
                  refine L_mv rfl ?_
                  refine L_y rfl (Y_idxL (j := k) T_sl25 ((Sl.own H_32 (i := 4) rfl).tk (by omega)) e_11_6 e_11_8 rfl (by omega)) ?_
                  obtain ⟨x127_3, hx127_3⟩ : ∃ u, (y.take el28.m)[k]? = some u := ⟨_, List.getElem?_eq_getElem (by have := (⟨((Sl.own H_32 (i := 4) rfl).tk (by omega)).len, (fun u hu => hy u (List.mem_of_mem_take hu))⟩ : Wd el28.m 256 (y.take el28.m)).1; omega)⟩
                  have rx127_3 := (⟨((Sl.own H_32 (i := 4) rfl).tk (by omega)).len, (fun u hu => hy u (List.mem_of_mem_take hu))⟩ : Wd el28.m 256 (y.take el28.m)).2 _ (List.mem_of_getElem? hx127_3)
                  refine L_y rfl (Y_ldR T_scal5 ((Sl.own H_32 (i := 4) rfl).tk (by omega)).rd rfl (hx127_3)) ?_
                  refine L_yr (z := (x127_3 + 1) % 256) (m := 256) rfl (Yu_add (k := .u8) rfl x127_3 1 rfl rfl) (Nat.mod_lt _ (by decide)) ?_; intro x128_3 hx128_3 rx128_3
                  refine L_y rfl (Y_idxL (j := k) T_sl25 ((Sl.own H_32 (i := 4) rfl).tk (by omega)) e_11_6 e_11_8 rfl (by omega)) ?_
                  refine L_stR T_scal5 H_32 (i := 4) rfl rfl (by omega) rfl ?_; intro w_24 Hx_3
                  have H_33 : Hp w0 [] w_24 [Ent.blk bk18 31 #[v92, Value.int .i64 (((Pk.text l er el28.l).2 : Nat) : Int)], Ent.own v92 5 1 ((Pk.text l er el28.l).1.length) (us .u8 ((Pk.text l er el28.l).1)), Ent.blk bk3 28 #[v85, Value.int .i64 (((Pk.text l er el28.l).2 : Nat) : Int)], Ent.own v85 5 1 ((Pk.text l er el28.l).1.length) (us .u8 ((Pk.text l er el28.l).1)), Ent.own (Value.slice a_ (el28.m + 1) c_) 5 1 (el28.m + 1) (us .u8 (y.set k x128_3)), Ent.blk bk32_ 5 (ua .u8 [77])] := Hx_3
                  refine L_nil ?_
                  refine InB_n ?_
                  refine Th_n ?_
                  refine W_rg ?_
                  refine L_mv rfl ?_
                  refine L_y rfl (Y_add (k := .i64) (a := ((k : Nat) : Int)) (b := ((1 : Nat) : Int)) (z := ((k + 1 : Nat) : Int)) e_11_8 rfl (wi (by omega))) ?_
                  refine L_as rfl ?_
                  refine L_nil ?_
                  refine Th_n ⟨_, ?_, (k + 1), _, rfl, e_11_0, e_11_3, e_11_4, e_11_5, e_11_6, rfl, H_33, (set_lt hy rx128_3), (by omega)⟩
                  omega
                ·
                  have hc_8' := of_decide_eq_false hc_8
                  refine W_exit ?_
                  refine Th_x ?_
                  refine Th_x ?_
                  refine InB_hit ?_
                  refine InB_n ?_
                  refine Th_n ?_
                  refine W_rg ?_
                  refine L_mv rfl ?_
                  refine L_y rfl (Y_add (k := .i64) (a := ((i : Nat) : Int)) (b := ((1 : Nat) : Int)) (z := ((i + 1 : Nat) : Int)) e_11_5 rfl (wi (by omega))) ?_
                  refine L_as rfl ?_
                  refine L_nil ?_
                  refine Th_n ⟨_, ?_, (i + 1), _, _, _, _, rfl, e_11_0, e_11_3, e_11_4, rfl, ((((((H_32.erase 4).erase 4).pull 3 rfl).pull 3 rfl).pull 3 rfl).pull 3 rfl), (Pk.text_lt hll gel28.lt), (by rw [Nat.add_mul]; first | exact Nat.le_trans hlen (Nat.le_add_right _ _) | omega), (by omega)⟩
                  omega
            ·
              have hc_7' := ne_of_beq_false hc_7
              refine W_skip ?_
              refine InB_n ?_
              refine Th_n ?_
              refine W_seq ?_
              refine W_seq ?_
              refine W_quiet H_10 21 [Value.pointer (some ⟨bk3, 0, none⟩), Value.bool false, Value.bool false, Value.slice a_ el28.m c_, Value.string (bs el28.l), Value.slice a m c, Value.int .i64 ((i : Nat) : Int), pl a (i * 4 + 0), pl a (i * 4 + 0 + 3), Value.slice el28.a el28.m el28.c, Value.string (bs el28.l), Value.bool (!decide (el28.l = el28.l)), Value.bool (!decide (el28.l = el28.l)), Value.bool (!decide (el28.l = el28.l)), Value.slice a_ el28.m c_, Value.slice a_ el28.m c_, Value.int .i64 ((el28.m : Nat) : Int), Value.int .i64 ((el28.m + 1 : Nat) : Int), Value.slice a_ (el28.m + 1) c_, Value.slice a_ el28.m c_, Value.int .i64 ((el28.m : Nat) : Int)] T_mixed (by kernel_rfl) ?_ ?_
              ·
                refine .plain rfl (Pl_y rfl (fun w hBw => congrArg (fun v => Result.ok (Next.value v) w) e_3_3)) ?_
                refine .plain rfl (Pl_y rfl (fun w hBw => Y_nePP Try.underlying35 T_info28 rfl e_3_3)) ?_
                refine .plain rfl (Pl_y rfl (fun w hBw => rfl)) ?_
                refine .plain rfl (Pl_y (wE rfl rfl) (fun w hBw => rfl)) ?_
                refine .plain rfl (Pl_y (wE rfl rfl) (fun w hBw => Y_strL Try.underlying25 Try.underlying5 Try.underlying9 rfl ((Sl.own hBw (i := 0) rfl).pre lel28 (by omega)))) ?_
                refine .plain rfl (Pl_y (wE rfl rfl) (fun w hBw => congrArg (fun v => Result.ok (Next.value v) w) e_3_0)) ?_
                refine .plain rfl (Pl_y (wE rfl rfl) (fun w hBw => congrArg (fun v => Result.ok (Next.value v) w) e_3_5)) ?_
                refine .plain rfl (Pl_y (wE rfl rfl) (fun w hBw => Y_idxT (j := i) T_sl22 (hT.hp hBw) hel28 rfl rfl rfl)) ?_
                refine .plain rfl (Pl_y (wE rfl rfl) (fun w hBw => Y_fldT T_fld34_3 rfl (hT.hp hBw) hel28 rfl)) ?_
                refine .plain rfl (Pl_y (wE rfl rfl) (fun w hBw => Y_ldT (j := i) (off := 3) T_scal25 (hT.hp hBw) hel28 rfl rfl rfl)) ?_
                refine .plain rfl (Pl_y (wE rfl rfl) (fun w hBw => Y_strL Try.underlying25 Try.underlying5 Try.underlying9 rfl (gel28.sl.hp hBw))) ?_
                refine .plain rfl (Pl_y (wE rfl rfl) (fun w hBw => Y_neT (l1 := el28.l) (l2 := el28.l) Try.underlying9 gel28.lt gel28.lt rfl rfl)) ?_
                refine .plain rfl (Pl_y rfl (fun w hBw => Y_pickF rfl)) ?_
                refine .plain rfl (Pl_y rfl (fun w hBw => rfl)) ?_
                refine .plain rfl (Pl_y (wE rfl (congrArg Value.bool (by simp))) (fun w hBw => rfl)) ?_
                refine .plain rfl (Pl_y (wE rfl (congrArg Value.bool (by simp))) (fun w hBw => rfl)) ?_
                refine .plain rfl (Pl_y (wE rfl (congrArg Value.bool (by simp))) (fun w hBw => Y_lenS T_sl25 rfl)) ?_
                refine .plain rfl (Pl_y (wE rfl (congrArg Value.bool (by simp))) (fun w hBw => Y_add (k := .i64) (a := ((el28.m : Nat) : Int)) (b := ((1 : Nat) : Int)) (z := ((el28.m + 1 : Nat) : Int)) rfl rfl (wi (by omega)))) ?_
                refine .plain rfl (Pl_y (wE rfl (congrArg Value.bool (by simp))) (fun w hBw => Y_cutHr (hi := el28.m + 1) T_sl25 ((Sl.own hBw (i := 0) rfl).pre lel28 (by omega)) rfl rfl (Sl.own hBw (i := 0) rfl).cap)) ?_
                refine .plain rfl (Pl_y (wE rfl (congrArg Value.bool (by simp))) (fun w hBw => rfl)) ?_
                refine .plain rfl (Pl_y (wE rfl (congrArg Value.bool (by simp))) (fun w hBw => Y_lenS T_sl25 rfl)) ?_
                exact .nil _
              ·
                intro e_12 w_25 hAg H_34
                have e_12_0 : e_12 0 = Value.slice a m c := (hAg 0 rfl).trans e_3_0
                have e_12_3 : e_12 3 = Value.pointer (some ⟨bk3, 0, none⟩) := (hAg 3 rfl).trans e_3_3
                have e_12_4 : e_12 4 = Value.pointer (some ⟨bk18, 0, none⟩) := (hAg 4 rfl).trans e_3_4
                have e_12_5 : e_12 5 = Value.int .i64 ((i : Nat) : Int) := (hAg 5 rfl).trans e_3_5
                have e_12_6 : e_12 6 = Value.slice a_ el28.m c_ := (hAg 6 rfl).trans rfl
                have e_12_106 : e_12 106 = Value.bool (!decide (el28.l = el28.l)) := (hAg 106 rfl).trans rfl
                have e_12_111 : e_12 111 = Value.slice a_ (el28.m + 1) c_ := (hAg 111 rfl).trans rfl
                have e_12_113 : e_12 113 = Value.int .i64 ((el28.m : Nat) : Int) := (hAg 113 rfl).trans rfl
                refine G_y (wE rfl (e_12_106.trans (congrArg Value.bool (by simp)))) rfl (Y_idxL (j := el28.m) T_sl25 (Sl.own H_34 (i := 0) rfl) e_12_111 e_12_113 rfl (by omega)) ?_
                refine G_y (wE rfl (e_12_106.trans (congrArg Value.bool (by simp)))) rfl (Y_ldR T_scal5 (Sl.own H_34 (i := 0) rfl).rd rfl (Pk.at77 lel28)) ?_
                refine G_y (wE rfl (e_12_106.trans (congrArg Value.bool (by simp)))) rfl (Y_neq (k := .u8) (a := ((77 : Nat) : Int)) (b := ((77 : Nat) : Int)) rfl rfl) ?_
                refine L_y rfl (Y_pickF (e_12_106.trans (congrArg Value.bool (by simp)))) ?_
                refine L_nil ?_
                refine Th_n ?_
                refine W_false (congrArg Value.bool (by decide : (((77 : Nat) : Int) != ((77 : Nat) : Int)) = false)) ?_
                refine W_skip ?_
                refine Th_n ?_
                refine W_seq ?_
                refine W_rg ?_
                refine L_as rfl ?_
                refine L_nil ?_
                refine Th_n ?_
                refine W_block ?_
                refine W_loop (fun mu_ e w => ∃ k : Nat, ∃ y : List Nat, mu_ = el28.m - k ∧ e 0 = Value.slice a m c ∧ e 3 = Value.pointer (some ⟨bk3, 0, none⟩) ∧ e 4 = Value.pointer (some ⟨bk18, 0, none⟩) ∧ e 5 = Value.int .i64 ((i : Nat) : Int) ∧ e 6 = Value.slice a_ el28.m c_ ∧ e 8 = Value.int .i64 ((k : Nat) : Int) ∧ Hp w0 [] w [Ent.own (Value.slice a_ (el28.m + 1) c_) 5 1 (el28.m + 1) (us .u8 y), Ent.blk bk32_ 5 (ua .u8 [77]), Ent.blk bk18 31 #[vr, Value.int .i64 ((er : Nat) : Int)], Ent.own vr 5 1 l.length (us .u8 l), Ent.blk bk3 28 #[vp, Value.int .i64 ((er : Nat) : Int)], Ent.own vp 5 1 l.length (us .u8 l)] ∧ (∀ u ∈ y, u < 256) ∧ k ≤ el28.m) _ ⟨0, el28.l ++ [77], rfl, e_12_0, e_12_3, e_12_4, e_12_5, e_12_6, rfl, H_34, (app_lt gel28.lt (by decide)), (Nat.zero_le _)⟩ ?_
                rintro mu_ e_13 w_26 ⟨k, y, rfl, e_13_0, e_13_3, e_13_4, e_13_5, e_13_6, e_13_8, H_35, hy, hk⟩
                refine W_seq ?_
                refine W_seq ?_
                refine W_rg ?_
                refine L_mv rfl ?_
                refine L_mv rfl ?_
                refine L_y rfl (Y_lenS T_sl25 e_13_6) ?_
                refine L_y rfl (Y_lss (k := .i64) (a := ((k : Nat) : Int)) (b := ((el28.m : Nat) : Int)) e_13_8 rfl) ?_
                refine L_nil ?_
                refine Th_n ?_
                refine W_cond (b := (decide (((k : Nat) : Int) < ((el28.m : Nat) : Int)))) rfl (fun hc_9 => ?_) (fun hc_9 => ?_)
                ·
                  have hc_9' := of_decide_eq_true hc_9
                  refine W_skip ?_
                  refine Th_n ?_
                  refine W_seq ?_
                  refine W_block ?_
                  refine W_rg ?_
                  refine L_mv rfl ?_
                  refine L_mv rfl ?_
                  refine L_y rfl (Y_idxL (j := k) T_sl25 ((Sl.own H_35 (i := 0) rfl).tk (by omega)) e_13_6 e_13_8 rfl (by omega)) ?_
                  obtain ⟨x127_4, hx127_4⟩ : ∃ u, (y.take el28.m)[k]? = some u := ⟨_, List.getElem?_eq_getElem (by have := (⟨((Sl.own H_35 (i := 0) rfl).tk (by omega)).len, (fun u hu => hy u (List.mem_of_mem_take hu))⟩ : Wd el28.m 256 (y.take el28.m)).1; omega)⟩
                  have rx127_4 := (⟨((Sl.own H_35 (i := 0) rfl).tk (by omega)).len, (fun u hu => hy u (List.mem_of_mem_take hu))⟩ : Wd el28.m 256 (y.take el28.m)).2 _ (List.mem_of_getElem? hx127_4)
                  refine L_y rfl (Y_ldR T_scal5 ((Sl.own H_35 (i := 0) rfl).tk (by omega)).rd rfl (hx127_4)) ?_
                  refine L_yr (z := (x127_4 + 1) % 256) (m := 256) rfl (Yu_add (k := .u8) rfl x127_4 1 rfl rfl) (Nat.mod_lt _ (by decide)) ?_; intro x128_4 hx128_4 rx128_4
                  refine L_y rfl (Y_idxL (j := k) T_sl25 ((Sl.own H_35 (i := 0) rfl).tk (by omega)) e_13_6 e_13_8 rfl (by omega)) ?_
                  refine L_stR T_scal5 H_35 (i := 0) rfl rfl (by omega) rfl ?_; intro w_27 Hx_4
                  have H_36 : Hp w0 [] w_27 [Ent.own (Value.slice a_ (el28.m + 1) c_) 5 1 (el28.m + 1) (us .u8 (y.set k x128_4)), Ent.blk bk32_ 5 (ua .u8 [77]), Ent.blk bk18 31 #[vr, Value.int .i64 ((er : Nat) : Int)], Ent.own vr 5 1 l.length (us .u8 l), Ent.blk bk3 28 #[vp, Value.int .i64 ((er : Nat) : Int)], Ent.own vp 5 1 l.length (us .u8 l)] := Hx_4
                  refine L_nil ?_
                  refine InB_n ?_
                  refine Th_n ?_
                  refine W_rg ?_
                  refine L_mv rfl ?_
                  refine L_y rfl (Y_add (k := .i64) (a := ((k : Nat) : Int)) (b := ((1 : Nat) : Int)) (z := ((k + 1 : Nat) : Int)) e_13_8 rfl (wi (by omega))) ?_
                  refine L_as rfl ?_
                  refine L_nil ?_
                  refine Th_n ⟨_, ?_, (k + 1), _, rfl, e_13_0, e_13_3, e_13_4, e_13_5, e_13_6, rfl, H_36, (set_lt hy rx128_4), (by omega)⟩
                  omega
                ·
                  have hc_9' := of_decide_eq_false hc_9
                  refine W_exit ?_
                  refine Th_x ?_
                  refine Th_x ?_
                  refine InB_hit ?_
                  refine InB_n ?_
                  refine Th_n ?_
                  refine W_rg ?_
                  refine L_mv rfl ?_
                  refine L_y rfl (Y_add (k := .i64) (a := ((i : Nat) : Int)) (b := ((1 : Nat) : Int)) (z := ((i + 1 : Nat) : Int)) e_13_5 rfl (wi (by omega))) ?_
                  refine L_as rfl ?_
                  refine L_nil ?_
                  refine Th_n ⟨_, ?_, (i + 1), _, _, _, _, rfl, e_13_0, e_13_3, e_13_4, rfl, H_35.drop_.drop_, hll, (by rw [Nat.add_mul]; first | exact Nat.le_trans hlen (Nat.le_add_right _ _) | omega), (by omega)⟩
                  omega
    ·
      have hc_2' := of_decide_eq_false hc_2
      refine W_exit ?_
      refine Th_x ?_
      refine Th_x ?_
      refine InB_hit ?_
      refine Th_n ?_
      refine W_seq ?_
      refine W_rg ?_
      have H_37 : Hp w0 [] w_6 [Ent.blk bk3 28 #[vp, Value.int .i64 ((er : Nat) : Int)], Ent.own vp 5 1 l.length (us .u8 l), Ent.blk bk18 31 #[vr, Value.int .i64 ((er : Nat) : Int)], Ent.own vr 5 1 l.length (us .u8 l)] := ((H_8.pull 3 rfl).pull 3 rfl)
      refine L_callv rfl rfl T_en15 (A1 e_2_3) (wDone (l := l) (by omega) hll H_37) ?_
      rintro _ w_28 ⟨v131, rfl, H_38⟩; refine ⟨_, rfl, ?_⟩
      have hq_7 := Pk.told_len (l := l) (e := er)
      refine L_mv rfl ?_
      refine L_y rfl (Y_ext rfl rfl) ?_
      refine L_y rfl (Y_ext rfl rfl) ?_
      refine L_as rfl ?_
      refine L_as rfl ?_
      refine L_nil ?_
      refine Th_n ?_
      refine W_seq ?_
      refine W_seq ?_
      rcases Bool.eq_false_or_eq_true (((er : Nat) : Int) == ((0 : Nat) : Int)) with hb | hb
      ·
        have hb' := eq_of_beq hb
        refine W_quiet H_38 17 [Value.int .i64 ((er : Nat) : Int), Value.pointer (some ⟨bk18, 0, none⟩), Value.pointer (some ⟨bk18, 0, none⟩), Value.pointer (some ⟨bk18, 1, none⟩), Value.int .i64 ((er : Nat) : Int), Value.bool (((er : Nat) : Int) != ((er : Nat) : Int)), Value.bool (((er : Nat) : Int) != ((er : Nat) : Int)), Value.int .i64 ((er : Nat) : Int), Value.bool (((er : Nat) : Int) == ((0 : Nat) : Int)), Value.bool (((er : Nat) : Int) == ((0 : Nat) : Int)), v131, Value.string (bs (Pk.told l er)), Value.pointer (some ⟨bk18, 0, none⟩), Value.pointer (some ⟨bk18, 0, none⟩), Value.pointer (some ⟨bk18, 0, none⟩), vr, Value.string (bs l)] T_mixed (by kernel_rfl) ?_ ?_
        ·
          refine .plain rfl (Pl_y rfl (fun w hBw => rfl)) ?_
          refine .plain rfl (Pl_y rfl (fun w hBw => congrArg (fun v => Result.ok (Next.value v) w) e_2_4)) ?_
          refine .plain rfl (Pl_y rfl (fun w hBw => Y_nil rfl)) ?_
          refine .plain rfl (Pl_y rfl (fun w hBw => Y_fld T_fld31_1 rfl rfl rfl)) ?_
          refine .plain rfl (Pl_y rfl (fun w hBw => Y_ld T_scal26 hBw (i := 3) rfl rfl rfl)) ?_
          refine .plain rfl (Pl_y rfl (fun w hBw => Y_neq (k := .i64) (a := ((er : Nat) : Int)) (b := ((er : Nat) : Int)) rfl rfl)) ?_
          refine .plain rfl (Pl_y rfl (fun w hBw => rfl)) ?_
          refine .plain rfl (Pl_y (wE rfl (congrArg Value.bool (by simp))) (fun w hBw => rfl)) ?_
          refine .plain rfl (Pl_y (wE rfl (congrArg Value.bool (by simp))) (fun w hBw => Y_eql (k := .i64) (a := ((er : Nat) : Int)) (b := ((0 : Nat) : Int)) rfl rfl)) ?_
          refine .plain rfl (Pl_y (wE rfl (congrArg Value.bool (by simp))) (fun w hBw => rfl)) ?_
          refine .plain rfl (Pl_y (wE rfl (congrArg Value.bool hb)) (fun w hBw => rfl)) ?_
          refine .plain rfl (Pl_y (wE rfl (congrArg Value.bool hb)) (fun w hBw => Y_strO Try.underlying25 Try.underlying5 Try.underlying9 hBw (i := 0) rfl rfl)) ?_
          refine .plain rfl (Pl_y (wE rfl (congrArg Value.bool hb)) (fun w hBw => congrArg (fun v => Result.ok (Next.value v) w) e_2_4)) ?_
          refine .plain rfl (Pl_y (wE rfl (congrArg Value.bool hb)) (fun w hBw => Y_nil rfl)) ?_
          refine .plain rfl (Pl_y (wE rfl (congrArg Value.bool hb)) (fun w hBw => Y_fld T_fld31_0 rfl rfl rfl)) ?_
          refine .plain rfl (Pl_y (wE rfl (congrArg Value.bool hb)) (fun w hBw => Y_ld T_scal25 hBw (i := 3) rfl rfl rfl)) ?_
          refine .plain rfl (Pl_y (wE rfl (congrArg Value.bool hb)) (fun w hBw => Y_strO Try.underlying25 Try.underlying5 Try.underlying9 hBw (i := 4) rfl rfl)) ?_
          exact .nil _
        ·
          intro e_14 w_29 hAg H_39
          have e_14_3 : e_14 3 = Value.pointer (some ⟨bk3, 0, none⟩) := (hAg 3 rfl).trans e_2_3
          have e_14_4 : e_14 4 = Value.pointer (some ⟨bk18, 0, none⟩) := (hAg 4 rfl).trans e_2_4
          have e_14_9 : e_14 9 = v131 := (hAg 9 rfl).trans rfl
          have e_14_10 : e_14 10 = Value.int .i64 ((er : Nat) : Int) := (hAg 10 rfl).trans rfl
          have e_14_140 : e_14 140 = Value.bool (((er : Nat) : Int) != ((er : Nat) : Int)) := (hAg 140 rfl).trans rfl
          have e_14_143 : e_14 143 = Value.bool (((er : Nat) : Int) == ((0 : Nat) : Int)) := (hAg 143 rfl).trans rfl
          have e_14_145 : e_14 145 = Value.string (bs (Pk.told l er)) := (hAg 145 rfl).trans rfl
          have e_14_150 : e_14 150 = Value.string (bs l) := (hAg 150 rfl).trans rfl
          refine G_y (wE rfl (e_14_143.trans (congrArg Value.bool hb))) rfl (Y_neT (l1 := Pk.told l er) (l2 := l) Try.underlying9 (Pk.told_lt hll) hll e_14_145 e_14_150) ?_
          refine G_y (wE rfl (e_14_140.trans (congrArg Value.bool (by simp)))) rfl (Y_pickT (e_14_143.trans (congrArg Value.bool hb))) ?_
          refine L_y rfl (Y_pickF (e_14_140.trans (congrArg Value.bool (by simp)))) ?_
          refine L_mv rfl ?_
          refine G_mv (wE rfl (congrArg Value.bool (by rw [Pk.told0 (by omega)]; simp))) rfl ?_
          refine G_y (wE rfl (congrArg Value.bool (by rw [Pk.told0 (by omega)]; simp))) rfl (Y_neq (k := .i64) (a := ((er : Nat) : Int)) (b := ((0 : Nat) : Int)) e_14_10 rfl) ?_
          refine G_mv (wE rfl (congrArg Value.bool (by rw [Pk.told0 (by omega)]; simp))) rfl ?_
          rcases Bool.eq_false_or_eq_true (((er : Nat) : Int) != ((0 : Nat) : Int)) with hb_2 | hb_2
          ·
            have hb_2' := ne_of_bne hb_2
            refine G_mv (wE rfl (congrArg Value.bool hb_2)) rfl ?_
            refine G_y (wE rfl (congrArg Value.bool hb_2)) rfl (Y_lenO T_sl25 H_39 (i := 0) rfl e_14_9) ?_
            refine G_y (wE rfl (congrArg Value.bool hb_2)) rfl (Y_gtr (k := .i64) (a := (((Pk.told l er).length : Nat) : Int)) (b := ((0 : Nat) : Int)) rfl rfl) ?_
            refine G_y (wE rfl (congrArg Value.bool (by rw [Pk.told0 (by omega)]; simp))) rfl (Y_pickT (congrArg Value.bool hb_2)) ?_
            refine L_y rfl (Y_pickF (congrArg Value.bool (by rw [Pk.told0 (by omega)]; simp))) ?_
            refine L_nil ?_
            refine Th_n ?_
            refine W_false (congrArg Value.bool (by rw [Pk.told1 (by omega)]; rfl)) ?_
            refine W_skip ?_
            refine Th_n ?_
            refine W_seq ?_
            refine W_seq ?_
            refine W_rg ?_
            refine L_as rfl ?_
            refine L_nil ?_
            refine Th_n ?_
            refine W_block ?_
            refine W_loop (fun mu_ e w => ∃ k : Nat, ∃ y : List Nat, mu_ = (Pk.told l er).length - k ∧ e 3 = Value.pointer (some ⟨bk3, 0, none⟩) ∧ e 4 = Value.pointer (some ⟨bk18, 0, none⟩) ∧ e 9 = v131 ∧ e 10 = Value.int .i64 ((er : Nat) : Int) ∧ e 11 = Value.int .i64 ((k : Nat) : Int) ∧ Hp w0 [] w [Ent.own v131 5 1 ((Pk.told l er).length) (us .u8 y), Ent.blk bk3 28 #[vp, Value.int .i64 ((er : Nat) : Int)], Ent.own vp 5 1 l.length (us .u8 l), Ent.blk bk18 31 #[vr, Value.int .i64 ((er : Nat) : Int)], Ent.own vr 5 1 l.length (us .u8 l)] ∧ (∀ u ∈ y, u < 256) ∧ k ≤ (Pk.told l er).length) _ ⟨0, Pk.told l er, rfl, e_14_3, e_14_4, e_14_9, e_14_10, rfl, H_39, (Pk.told_lt hll), (Nat.zero_le _)⟩ ?_
            rintro mu_ e_15 w_30 ⟨k, y, rfl, e_15_3, e_15_4, e_15_9, e_15_10, e_15_11, H_40, hy, hk⟩
            refine W_seq ?_
            refine W_seq ?_
            refine W_rg ?_
            refine L_mv rfl ?_
            refine L_mv rfl ?_
            refine L_y rfl (Y_lenO T_sl25 H_40 (i := 0) rfl e_15_9) ?_
            refine L_y rfl (Y_lss (k := .i64) (a := ((k : Nat) : Int)) (b := (((Pk.told l er).length : Nat) : Int)) e_15_11 rfl) ?_
            refine L_nil ?_
            refine Th_n ?_
            refine W_cond (b := (decide (((k : Nat) : Int) < (((Pk.told l er).length : Nat) : Int)))) rfl (fun hc_10 => ?_) (fun hc_10 => ?_)
            ·
              have hc_10' := of_decide_eq_true hc_10
              refine W_skip ?_
              refine Th_n ?_
              refine W_seq ?_
              refine W_block ?_
              refine W_rg ?_
              refine L_mv rfl ?_
              refine L_mv rfl ?_
              refine L_y rfl (Y_idxO (j := k) T_sl25 H_40 (i := 0) rfl e_15_9 e_15_11 rfl (by omega)) ?_
              obtain ⟨x172, hx172⟩ : ∃ u, y[k]? = some u := ⟨_, List.getElem?_eq_getElem (by have := (⟨own_length (H_40.get 0 rfl), hy⟩ : Wd ((Pk.told l er).length) 256 y).1; omega)⟩
              have rx172 := (⟨own_length (H_40.get 0 rfl), hy⟩ : Wd ((Pk.told l er).length) 256 y).2 _ (List.mem_of_getElem? hx172)
              refine L_y rfl (Y_ldO T_scal5 H_40 (i := 0) rfl rfl (hx172)) ?_
              refine L_yr (z := (x172 + 1) % 256) (m := 256) rfl (Yu_add (k := .u8) rfl x172 1 rfl rfl) (Nat.mod_lt _ (by decide)) ?_; intro x173 hx173 rx173
              refine L_y rfl (Y_idxO (j := k) T_sl25 H_40 (i := 0) rfl e_15_9 e_15_11 rfl (by omega)) ?_
              refine L_stO T_scal5 H_40 (i := 0) rfl rfl (by omega) rfl ?_; intro w_31 Hx_5
              have H_41 : Hp w0 [] w_31 [Ent.own v131 5 1 ((Pk.told l er).length) (us .u8 (y.set k x173)), Ent.blk bk3 28 #[vp, Value.int .i64 ((er : Nat) : Int)], Ent.own vp 5 1 l.length (us .u8 l), Ent.blk bk18 31 #[vr, Value.int .i64 ((er : Nat) : Int)], Ent.own vr 5 1 l.length (us .u8 l)] := Hx_5
              refine L_nil ?_
              refine InB_n ?_
              refine Th_n ?_
              refine W_rg ?_
              refine L_mv rfl ?_
              refine L_y rfl (Y_add (k := .i64) (a := ((k : Nat) : Int)) (b := ((1 : Nat) : Int)) (z := ((k + 1 : Nat) : Int)) e_15_11 rfl (wi (by omega))) ?_
              refine L_as rfl ?_
              refine L_nil ?_
              refine Th_n ⟨_, ?_, (k + 1), _, rfl, e_15_3, e_15_4, e_15_9, e_15_10, rfl, H_41, (set_lt hy rx173), (by omega)⟩
              omega
            ·
              have hc_10' := of_decide_eq_false hc_10
              refine W_exit ?_
              refine Th_x ?_
              refine Th_x ?_
              refine InB_hit ?_
              refine Th_n ?_
              refine W_seq ?_
              refine W_rg ?_
              have H_42 : Hp w0 [] w_30 [Ent.blk bk3 28 #[vp, Value.int .i64 ((er : Nat) : Int)], Ent.own vp 5 1 l.length (us .u8 l), Ent.own v131 5 1 ((Pk.told l er).length) (us .u8 y), Ent.blk bk18 31 #[vr, Value.int .i64 ((er : Nat) : Int)], Ent.own vr 5 1 l.length (us .u8 l)] := ((H_40.pull 2 rfl).pull 2 rfl)
              refine L_callv rfl rfl T_en15 (A1 e_15_3) (wDone (l := l) (by omega) hll H_42) ?_
              rintro _ w_32 ⟨v176, rfl, H_43⟩; refine ⟨_, rfl, ?_⟩
              have hq_8 := Pk.told_len (l := l) (e := er)
              refine L_mv rfl ?_
              refine L_y rfl (Y_ext rfl rfl) ?_
              refine L_y rfl (Y_ext rfl rfl) ?_
              refine L_as rfl ?_
              refine L_as rfl ?_
              refine L_nil ?_
              refine Th_n ?_
              refine W_seq ?_
              refine W_quiet H_43 14 [Value.int .i64 ((er : Nat) : Int), Value.int .i64 ((er : Nat) : Int), Value.bool (((er : Nat) : Int) == ((er : Nat) : Int)), Value.bool (((er : Nat) : Int) == ((er : Nat) : Int)), Value.int .i64 ((er : Nat) : Int), Value.bool (((er : Nat) : Int) != ((0 : Nat) : Int)), Value.bool (((er : Nat) : Int) != ((0 : Nat) : Int)), undef, undef, undef, undef, undef, undef, undef] T_mixed (by kernel_rfl) ?_ ?_
              ·
                refine .plain rfl (Pl_y rfl (fun w hBw => rfl)) ?_
                refine .plain rfl (Pl_y rfl (fun w hBw => congrArg (fun v => Result.ok (Next.value v) w) e_15_10)) ?_
                refine .plain rfl (Pl_y rfl (fun w hBw => Y_eql (k := .i64) (a := ((er : Nat) : Int)) (b := ((er : Nat) : Int)) rfl rfl)) ?_
                refine .plain rfl (Pl_y rfl (fun w hBw => rfl)) ?_
                refine .plain rfl (Pl_y (wE rfl (congrArg Value.bool (by simp))) (fun w hBw => congrArg (fun v => Result.ok (Next.value v) w) e_15_10)) ?_
                refine .plain rfl (Pl_y (wE rfl (congrArg Value.bool (by simp))) (fun w hBw => Y_neq (k := .i64) (a := ((er : Nat) : Int)) (b := ((0 : Nat) : Int)) rfl rfl)) ?_
                refine .plain rfl (Pl_y (wE rfl (congrArg Value.bool (by simp))) (fun w hBw => rfl)) ?_
                refine .plain rfl (Pl_n (wN (b := false) rfl (congrArg Value.bool hb_2))) ?_
                refine .plain rfl (Pl_n (wN (b := false) rfl (congrArg Value.bool hb_2))) ?_
                refine .plain rfl (Pl_n (wN (b := false) rfl (congrArg Value.bool hb_2))) ?_
                refine .plain rfl (Pl_n (wN (b := false) rfl (congrArg Value.bool hb_2))) ?_
                refine .plain rfl (Pl_n (wN (b := false) rfl (congrArg Value.bool hb_2))) ?_
                refine .plain rfl (Pl_n (wN (b := false) rfl (congrArg Value.bool hb_2))) ?_
                refine .plain rfl (Pl_n (wN (b := false) rfl (congrArg Value.bool hb_2))) ?_
                exact .nil _
              ·
                intro e_16 w_33 hAg H_44
                have e_16_182 : e_16 182 = Value.bool (((er : Nat) : Int) == ((er : Nat) : Int)) := (hAg 182 rfl).trans rfl
                have e_16_185 : e_16 185 = Value.bool (((er : Nat) : Int) != ((0 : Nat) : Int)) := (hAg 185 rfl).trans rfl
                have e_16_187 : e_16 187 = undef := (hAg 187 rfl).trans rfl
                have e_16_192 : e_16 192 = undef := (hAg 192 rfl).trans rfl
                refine G_no (wN (b := false) rfl (e_16_185.trans (congrArg Value.bool hb_2))) rfl ?_
                refine G_y (wE rfl (e_16_182.trans (congrArg Value.bool (by simp)))) rfl (Y_pickT (e_16_185.trans (congrArg Value.bool hb_2))) ?_
                refine L_y rfl (Y_pickT (e_16_182.trans (congrArg Value.bool (by simp)))) ?_
                refine L_mv rfl ?_
                refine L_callv (wE rfl rfl) rfl T_en8 (A0) (known_n _) ?_
                rintro _ w_34 ⟨rfl, hkp_3⟩; refine ⟨_, rfl, ?_⟩; have H_45 := H_44.keep hkp_3
                refine L_y rfl (Y_pickT rfl) ?_
                refine L_as rfl ?_
                refine L_nil ?_
                refine Th_n ?_
                refine W_ret ?_
                refine P_ret (vs := [Value.bool true]) (v := Value.bool true) rfl (.tmp rfl (Res.nil)) rfl ?_
                refine ⟨?_, H_45.nil_⟩
                rfl
          ·
            have hb_2' := eq_of_bne_false hb_2
            refine G_no (wN (b := true) rfl (congrArg Value.bool hb_2)) rfl ?_
            refine G_no (wN (b := true) rfl (congrArg Value.bool hb_2)) rfl ?_
            refine G_no (wN (b := true) rfl (congrArg Value.bool hb_2)) rfl ?_
            refine G_y (wE rfl (congrArg Value.bool (by rw [Pk.told0 (by omega)]; simp))) rfl (Y_pickF (congrArg Value.bool hb_2)) ?_
            refine L_y rfl (Y_pickF (congrArg Value.bool (by rw [Pk.told0 (by omega)]; simp))) ?_
            refine L_nil ?_
            refine Th_n ?_
            refine W_false rfl ?_
            refine W_skip ?_
            refine Th_n ?_
            refine W_seq ?_
            refine W_seq ?_
            refine W_rg ?_
            refine L_as rfl ?_
            refine L_nil ?_
            refine Th_n ?_
            refine W_block ?_
            refine W_loop (fun mu_ e w => ∃ k : Nat, ∃ y : List Nat, mu_ = (Pk.told l er).length - k ∧ e 3 = Value.pointer (some ⟨bk3, 0, none⟩) ∧ e 4 = Value.pointer (some ⟨bk18, 0, none⟩) ∧ e 9 = v131 ∧ e 10 = Value.int .i64 ((er : Nat) : Int) ∧ e 11 = Value.int .i64 ((k : Nat) : Int) ∧ Hp w0 [] w [Ent.own v131 5 1 ((Pk.told l er).length) (us .u8 y), Ent.blk bk3 28 #[vp, Value.int .i64 ((er : Nat) : Int)], Ent.own vp 5 1 l.length (us .u8 l), Ent.blk bk18 31 #[vr, Value.int .i64 ((er : Nat) : Int)], Ent.own vr 5 1 l.length (us .u8 l)] ∧ (∀ u ∈ y, u < 256) ∧ k ≤ (Pk.told l er).length) _ ⟨0, Pk.told l er, rfl, e_14_3, e_14_4, e_14_9, e_14_10, rfl, H_39, (Pk.told_lt hll), (Nat.zero_le _)⟩ ?_
            rintro mu_ e_17 w_35 ⟨k, y, rfl, e_17_3, e_17_4, e_17_9, e_17_10, e_17_11, H_46, hy, hk⟩
            refine W_seq ?_
            refine W_seq ?_
            refine W_rg ?_
            refine L_mv rfl ?_
            refine L_mv rfl ?_
            refine L_y rfl (Y_lenO T_sl25 H_46 (i := 0) rfl e_17_9) ?_
            refine L_y rfl (Y_lss (k := .i64) (a := ((k : Nat) : Int)) (b := (((Pk.told l er).length : Nat) : Int)) e_17_11 rfl) ?_
            refine L_nil ?_
            refine Th_n ?_
            refine W_cond (b := (decide (((k : Nat) : Int) < (((Pk.told l er).length : Nat) : Int)))) rfl (fun hc_11 => ?_) (fun hc_11 => ?_)
            ·
              have hc_11' := of_decide_eq_true hc_11
              refine W_skip ?_
              refine Th_n ?_
              refine W_seq ?_
              refine W_block ?_
              refine W_rg ?_
              refine L_mv rfl ?_
              refine L_mv rfl ?_
              refine L_y rfl (Y_idxO (j := k) T_sl25 H_46 (i := 0) rfl e_17_9 e_17_11 rfl (by omega)) ?_
              obtain ⟨x172_2, hx172_2⟩ : ∃ u, y[k]? = some u := ⟨_, List.getElem?_eq_getElem (by have := (⟨own_length (H_46.get 0 rfl), hy⟩ : Wd ((Pk.told l er).length) 256 y).1; omega)⟩
              have rx172_2 := (⟨own_length (H_46.get 0 rfl), hy⟩ : Wd ((Pk.told l er).length) 256 y).2 _ (List.mem_of_getElem? hx172_2)
              refine L_y rfl (Y_ldO T_scal5 H_46 (i := 0) rfl rfl (hx172_2)) ?_
              refine L_yr (z := (x172_2 + 1) % 256) (m := 256) rfl (Yu_add (k := .u8) rfl x172_2 1 rfl rfl) (Nat.mod_lt _ (by decide)) ?_; intro x173_2 hx173_2 rx173_2
              refine L_y rfl (Y_idxO (j := k) T_sl25 H_46 (i := 0) rfl e_17_9 e_17_11 rfl (by omega)) ?_
              refine L_stO T_scal5 H_46 (i := 0) rfl rfl (by omega) rfl ?_; intro w_36 Hx_6
              have H_47 : Hp w0 [] w_36 [Ent.own v131 5 1 ((Pk.told l er).length) (us .u8 (y.set k x173_2)), Ent.blk bk3 28 #[vp, Value.int .i64 ((er : Nat) : Int)], Ent.own vp 5 1 l.length (us .u8 l), Ent.blk bk18 31 #[vr, Value.int .i64 ((er : Nat) : Int)], Ent.own vr 5 1 l.length (us .u8 l)] := Hx_6
              refine L_nil ?_
              refine InB_n ?_
              refine Th_n ?_
              refine W_rg ?_
              refine L_mv rfl ?_
              refine L_y rfl (Y_add (k := .i64) (a := ((k : Nat) : Int)) (b := ((1 : Nat) : Int)) (z := ((k + 1 : Nat) : Int)) e_17_11 rfl (wi (by omega))) ?_
              refine L_as rfl ?_
              refine L_nil ?_
              refine Th_n ⟨_, ?_, (k + 1), _, rfl, e_17_3, e_17_4, e_17_9, e_17_10, rfl, H_47, (set_lt hy rx173_2), (by omega)⟩
              omega
            ·
              have hc_11' := of_decide_eq_false hc_11
              refine W_exit ?_
              refine Th_x ?_
              refine Th_x ?_
              refine InB_hit ?_
              refine Th_n ?_
              refine W_seq ?_
              refine W_rg ?_
              have H_48 : Hp w0 [] w_35 [Ent.blk bk3 28 #[vp, Value.int .i64 ((er : Nat) : Int)], Ent.own vp 5 1 l.length (us .u8 l), Ent.own v131 5 1 ((Pk.told l er).length) (us .u8 y), Ent.blk bk18 31 #[vr, Value.int .i64 ((er : Nat) : Int)], Ent.own vr 5 1 l.length (us .u8 l)] := ((H_46.pull 2 rfl).pull 2 rfl)
              refine L_callv rfl rfl T_en15 (A1 e_17_3) (wDone (l := l) (by omega) hll H_48) ?_
              rintro _ w_37 ⟨v176_2, rfl, H_49⟩; refine ⟨_, rfl, ?_⟩
              have hq_9 := Pk.told_len (l := l) (e := er)
              refine L_mv rfl ?_
              refine L_y rfl (Y_ext rfl rfl) ?_
              refine L_y rfl (Y_ext rfl rfl) ?_
              refine L_as rfl ?_
              refine L_as rfl ?_
              refine L_nil ?_
              refine Th_n ?_
              refine W_seq ?_
              refine W_quiet H_49 14 [Value.int .i64 ((er : Nat) : Int), Value.int .i64 ((er : Nat) : Int), Value.bool (((er : Nat) : Int) == ((er : Nat) : Int)), Value.bool (((er : Nat) : Int) == ((er : Nat) : Int)), Value.int .i64 ((er : Nat) : Int), Value.bool (((er : Nat) : Int) != ((0 : Nat) : Int)), Value.bool (((er : Nat) : Int) != ((0 : Nat) : Int)), v176_2, Value.string (bs (Pk.told l er)), Value.pointer (some ⟨bk18, 0, none⟩), Value.pointer (some ⟨bk18, 0, none⟩), Value.pointer (some ⟨bk18, 0, none⟩), vr, Value.string (bs l)] T_mixed (by kernel_rfl) ?_ ?_
              ·
                refine .plain rfl (Pl_y rfl (fun w hBw => rfl)) ?_
                refine .plain rfl (Pl_y rfl (fun w hBw => congrArg (fun v => Result.ok (Next.value v) w) e_17_10)) ?_
                refine .plain rfl (Pl_y rfl (fun w hBw => Y_eql (k := .i64) (a := ((er : Nat) : Int)) (b := ((er : Nat) : Int)) rfl rfl)) ?_
                refine .plain rfl (Pl_y rfl (fun w hBw => rfl)) ?_
                refine .plain rfl (Pl_y (wE rfl (congrArg Value.bool (by simp))) (fun w hBw => congrArg (fun v => Result.ok (Next.value v) w) e_17_10)) ?_
                refine .plain rfl (Pl_y (wE rfl (congrArg Value.bool (by simp))) (fun w hBw => Y_neq (k := .i64) (a := ((er : Nat) : Int)) (b := ((0 : Nat) : Int)) rfl rfl)) ?_
                refine .plain rfl (Pl_y (wE rfl (congrArg Value.bool (by simp))) (fun w hBw => rfl)) ?_
                refine .plain rfl (Pl_y (wE rfl (congrArg Value.bool hb_2)) (fun w hBw => rfl)) ?_
                refine .plain rfl (Pl_y (wE rfl (congrArg Value.bool hb_2)) (fun w hBw => Y_strO Try.underlying25 Try.underlying5 Try.underlying9 hBw (i := 0) rfl rfl)) ?_
                refine .plain rfl (Pl_y (wE rfl (congrArg Value.bool hb_2)) (fun w hBw => congrArg (fun v => Result.ok (Next.value v) w) e_17_4)) ?_
                refine .plain rfl (Pl_y (wE rfl (congrArg Value.bool hb_2)) (fun w hBw => Y_nil rfl)) ?_
                refine .plain rfl (Pl_y (wE rfl (congrArg Value.bool hb_2)) (fun w hBw => Y_fld T_fld31_0 rfl rfl rfl)) ?_
                refine .plain rfl (Pl_y (wE rfl (congrArg Value.bool hb_2)) (fun w hBw => Y_ld T_scal25 hBw (i := 4) rfl rfl rfl)) ?_
                refine .plain rfl (Pl_y (wE rfl (congrArg Value.bool hb_2)) (fun w hBw => Y_strO Try.underlying25 Try.underlying5 Try.underlying9 hBw (i := 5) rfl rfl)) ?_
                exact .nil _
              ·
                intro e_18 w_38 hAg H_50
                have e_18_182 : e_18 182 = Value.bool (((er : Nat) : Int) == ((er : Nat) : Int)) := (hAg 182 rfl).trans rfl
                have e_18_185 : e_18 185 = Value.bool (((er : Nat) : Int) != ((0 : Nat) : Int)) := (hAg 185 rfl).trans rfl
                have e_18_187 : e_18 187 = Value.string (bs (Pk.told l er)) := (hAg 187 rfl).trans rfl
                have e_18_192 : e_18 192 = Value.string (bs l) := (hAg 192 rfl).trans rfl
                refine G_y (wE rfl (e_18_185.trans (congrArg Value.bool hb_2))) rfl (Y_eqT (l1 := Pk.told l er) (l2 := l) Try.underlying9 (Pk.told_lt hll) hll e_18_187 e_18_192) ?_
                refine G_y (wE rfl (e_18_182.trans (congrArg Value.bool (by simp)))) rfl (Y_pickF (e_18_185.trans (congrArg Value.bool hb_2))) ?_
                refine L_y rfl (Y_pickT (e_18_182.trans (congrArg Value.bool (by simp)))) ?_
                refine L_mv rfl ?_
                refine L_callv (wE rfl (congrArg Value.bool (by rw [Pk.told0 (by omega)]; simp))) rfl T_en8 (A0) (known_n _) ?_
                rintro _ w_39 ⟨rfl, hkp_4⟩; refine ⟨_, rfl, ?_⟩; have H_51 := H_50.keep hkp_4
                refine L_y rfl (Y_pickT (congrArg Value.bool (by rw [Pk.told0 (by omega)]; simp))) ?_
                refine L_as rfl ?_
                refine L_nil ?_
                refine Th_n ?_
                refine W_ret ?_
                refine P_ret (vs := [Value.bool true]) (v := Value.bool true) rfl (.tmp rfl (Res.nil)) rfl ?_
                refine ⟨?_, H_51.nil_⟩
                rfl
      ·
        have hb' := ne_of_beq_false hb
        refine W_quiet H_38 17 [Value.int .i64 ((er : Nat) : Int), Value.pointer (some ⟨bk18, 0, none⟩), Value.pointer (some ⟨bk18, 0, none⟩), Value.pointer (some ⟨bk18, 1, none⟩), Value.int .i64 ((er : Nat) : Int), Value.bool (((er : Nat) : Int) != ((er : Nat) : Int)), Value.bool (((er : Nat) : Int) != ((er : Nat) : Int)), Value.int .i64 ((er : Nat) : Int), Value.bool (((er : Nat) : Int) == ((0 : Nat) : Int)), Value.bool (((er : Nat) : Int) == ((0 : Nat) : Int)), undef, undef, undef, undef, undef, undef, undef] T_mixed (by kernel_rfl) ?_ ?_
        ·
          refine .plain rfl (Pl_y rfl (fun w hBw => rfl)) ?_
          refine .plain rfl (Pl_y rfl (fun w hBw => congrArg (fun v => Result.ok (Next.value v) w) e_2_4)) ?_
          refine .plain rfl (Pl_y rfl (fun w hBw => Y_nil rfl)) ?_
          refine .plain rfl (Pl_y rfl (fun w hBw => Y_fld T_fld31_1 rfl rfl rfl)) ?_
          refine .plain rfl (Pl_y rfl (fun w hBw => Y_ld T_scal26 hBw (i := 3) rfl rfl rfl)) ?_
          refine .plain rfl (Pl_y rfl (fun w hBw => Y_neq (k := .i64) (a := ((er : Nat) : Int)) (b := ((er : Nat) : Int)) rfl rfl)) ?_
          refine .plain rfl (Pl_y rfl (fun w hBw => rfl)) ?_
          refine .plain rfl (Pl_y (wE rfl (congrArg Value.bool (by simp))) (fun w hBw => rfl)) ?_
          refine .plain rfl (Pl_y (wE rfl (congrArg Value.bool (by simp))) (fun w hBw => Y_eql (k := .i64) (a := ((er : Nat) : Int)) (b := ((0 : Nat) : Int)) rfl rfl)) ?_
          refine .plain rfl (Pl_y (wE rfl (congrArg Value.bool (by simp))) (fun w hBw => rfl)) ?_
          refine .plain rfl (Pl_n (wN (b := true) rfl (congrArg Value.bool hb))) ?_
          refine .plain rfl (Pl_n (wN (b := true) rfl (congrArg Value.bool hb))) ?_
          refine .plain rfl (Pl_n (wN (b := true) rfl (congrArg Value.bool hb))) ?_
          refine .plain rfl (Pl_n (wN (b := true) rfl (congrArg Value.bool hb))) ?_
          refine .plain rfl (Pl_n (wN (b := true) rfl (congrArg Value.bool hb))) ?_
          refine .plain rfl (Pl_n (wN (b := true) rfl (congrArg Value.bool hb))) ?_
          refine .plain rfl (Pl_n (wN (b := true) rfl (congrArg Value.bool hb))) ?_
          exact .nil _
        ·
          intro e_19 w_40 hAg H_52
          have e_19_3 : e_19 3 = Value.pointer (some ⟨bk3, 0, none⟩) := (hAg 3 rfl).trans e_2_3
          have e_19_4 : e_19 4 = Value.pointer (some ⟨bk18, 0, none⟩) := (hAg 4 rfl).trans e_2_4
          have e_19_9 : e_19 9 = v131 := (hAg 9 rfl).trans rfl
          have e_19_10 : e_19 10 = Value.int .i64 ((er : Nat) : Int) := (hAg 10 rfl).trans rfl
          have e_19_140 : e_19 140 = Value.bool (((er : Nat) : Int) != ((er : Nat) : Int)) := (hAg 140 rfl).trans rfl
          have e_19_143 : e_19 143 = Value.bool (((er : Nat) : Int) == ((0 : Nat) : Int)) := (hAg 143 rfl).trans rfl
          have e_19_145 : e_19 145 = undef := (hAg 145 rfl).trans rfl
          have e_19_150 : e_19 150 = undef := (hAg 150 rfl).trans rfl
          refine G_no (wN (b := true) rfl (e_19_143.trans (congrArg Value.bool hb))) rfl ?_
          refine G_y (wE rfl (e_19_140.trans (congrArg Value.bool (by simp)))) rfl (Y_pickF (e_19_143.trans (congrArg Value.bool hb))) ?_
          refine L_y rfl (Y_pickF (e_19_140.trans (congrArg Value.bool (by simp)))) ?_
          refine L_mv rfl ?_
          refine G_mv (wE rfl rfl) rfl ?_
          refine G_y (wE rfl rfl) rfl (Y_neq (k := .i64) (a := ((er : Nat) : Int)) (b := ((0 : Nat) : Int)) e_19_10 rfl) ?_
          refine G_mv (wE rfl rfl) rfl ?_
          rcases Bool.eq_false_or_eq_true (((er : Nat) : Int) != ((0 : Nat) : Int)) with hb_3 | hb_3
          ·
            have hb_3' := ne_of_bne hb_3
            refine G_mv (wE rfl (congrArg Value.bool hb_3)) rfl ?_
            refine G_y (wE rfl (congrArg Value.bool hb_3)) rfl (Y_lenO T_sl25 H_52 (i := 0) rfl e_19_9) ?_
            refine G_y (wE rfl (congrArg Value.bool hb_3)) rfl (Y_gtr (k := .i64) (a := (((Pk.told l er).length : Nat) : Int)) (b := ((0 : Nat) : Int)) rfl rfl) ?_
            refine G_y (wE rfl rfl) rfl (Y_pickT (congrArg Value.bool hb_3)) ?_
            refine L_y rfl (Y_pickF rfl) ?_
            refine L_nil ?_
            refine Th_n ?_
            refine W_false (congrArg Value.bool (by rw [Pk.told1 (by omega)]; rfl)) ?_
            refine W_skip ?_
            refine Th_n ?_
            refine W_seq ?_
            refine W_seq ?_
            refine W_rg ?_
            refine L_as rfl ?_
            refine L_nil ?_
            refine Th_n ?_
            refine W_block ?_
            refine W_loop (fun mu_ e w => ∃ k : Nat, ∃ y : List Nat, mu_ = (Pk.told l er).length - k ∧ e 3 = Value.pointer (some ⟨bk3, 0, none⟩) ∧ e 4 = Value.pointer (some ⟨bk18, 0, none⟩) ∧ e 9 = v131 ∧ e 10 = Value.int .i64 ((er : Nat) : Int) ∧ e 11 = Value.int .i64 ((k : Nat) : Int) ∧ Hp w0 [] w [Ent.own v131 5 1 ((Pk.told l er).length) (us .u8 y), Ent.blk bk3 28 #[vp, Value.int .i64 ((er : Nat) : Int)], Ent.own vp 5 1 l.length (us .u8 l), Ent.blk bk18 31 #[vr, Value.int .i64 ((er : Nat) : Int)], Ent.own vr 5 1 l.length (us .u8 l)] ∧ (∀ u ∈ y, u < 256) ∧ k ≤ (Pk.told l er).length) _ ⟨0, Pk.told l er, rfl, e_19_3, e_19_4, e_19_9, e_19_10, rfl, H_52, (Pk.told_lt hll), (Nat.zero_le _)⟩ ?_
            rintro mu_ e_20 w_41 ⟨k, y, rfl, e_20_3, e_20_4, e_20_9, e_20_10, e_20_11, H_53, hy, hk⟩
            refine W_seq ?_
            refine W_seq ?_
            refine W_rg ?_
            refine L_mv rfl ?_
            refine L_mv rfl ?_
            refine L_y rfl (Y_lenO T_sl25 H_53 (i := 0) rfl e_20_9) ?_
            refine L_y rfl (Y_lss (k := .i64) (a := ((k : Nat) : Int)) (b := (((Pk.told l er).length : Nat) : Int)) e_20_11 rfl) ?_
            refine L_nil ?_
            refine Th_n ?_
            refine W_cond (b := (decide (((k : Nat) : Int) < (((Pk.told l er).length : Nat) : Int)))) rfl (fun hc_12 => ?_) (fun hc_12 => ?_)
            ·
              have hc_12' := of_decide_eq_true hc_12
              refine W_skip ?_
              refine Th_n ?_
              refine W_seq ?_
              refine W_block ?_
              refine W_rg ?_
              refine L_mv rfl ?_
              refine L_mv rfl ?_
              refine L_y rfl (Y_idxO (j := k) T_sl25 H_53 (i := 0) rfl e_20_9 e_20_11 rfl (by omega)) ?_
              obtain ⟨x172_3, hx172_3⟩ : ∃ u, y[k]? = some u := ⟨_, List.getElem?_eq_getElem (by have := (⟨own_length (H_53.get 0 rfl), hy⟩ : Wd ((Pk.told l er).length) 256 y).1; omega)⟩
              have rx172_3 := (⟨own_length (H_53.get 0 rfl), hy⟩ : Wd ((Pk.told l er).length) 256 y).2 _ (List.mem_of_getElem? hx172_3)
              refine L_y rfl (Y_ldO T_scal5 H_53 (i := 0) rfl rfl (hx172_3)) ?_
              refine L_yr (z := (x172_3 + 1) % 256) (m := 256) rfl (Yu_add (k := .u8) rfl x172_3 1 rfl rfl) (Nat.mod_lt _ (by decide)) ?_; intro x173_3 hx173_3 rx173_3
              refine L_y rfl (Y_idxO (j := k) T_sl25 H_53 (i := 0) rfl e_20_9 e_20_11 rfl (by omega)) ?_
              refine L_stO T_scal5 H_53 (i := 0) rfl rfl (by omega) rfl ?_; intro w_42 Hx_7
              have H_54 : Hp w0 [] w_42 [Ent.own v131 5 1 ((Pk.told l er).length) (us .u8 (y.set k x173_3)), Ent.blk bk3 28 #[vp, Value.int .i64 ((er : Nat) : Int)], Ent.own vp 5 1 l.length (us .u8 l), Ent.blk bk18 31 #[vr, Value.int .i64 ((er : Nat) : Int)], Ent.own vr 5 1 l.length (us .u8 l)] := Hx_7
              refine L_nil ?_
              refine InB_n ?_
              refine Th_n ?_
              refine W_rg ?_
              refine L_mv rfl ?_
              refine L_y rfl (Y_add (k := .i64) (a := ((k : Nat) : Int)) (b := ((1 : Nat) : Int)) (z := ((k + 1 : Nat) : Int)) e_20_11 rfl (wi (by omega))) ?_
              refine L_as rfl ?_
              refine L_nil ?_
              refine Th_n ⟨_, ?_, (k + 1), _, rfl, e_20_3, e_20_4, e_20_9, e_20_10, rfl, H_54, (set_lt hy rx173_3), (by omega)⟩
              omega
            ·
              have hc_12' := of_decide_eq_false hc_12
              refine W_exit ?_
              refine Th_x ?_
              refine Th_x ?_
              refine InB_hit ?_
              refine Th_n ?_
              refine W_seq ?_
              refine W_rg ?_
              have H_55 : Hp w0 [] w_41 [Ent.blk bk3 28 #[vp, Value.int .i64 ((er : Nat) : Int)], Ent.own vp 5 1 l.length (us .u8 l), Ent.own v131 5 1 ((Pk.told l er).length) (us .u8 y), Ent.blk bk18 31 #[vr, Value.int .i64 ((er : Nat) : Int)], Ent.own vr 5 1 l.length (us .u8 l)] := ((H_53.pull 2 rfl).pull 2 rfl)
              refine L_callv rfl rfl T_en15 (A1 e_20_3) (wDone (l := l) (by omega) hll H_55) ?_
              rintro _ w_43 ⟨v176_3, rfl, H_56⟩; refine ⟨_, rfl, ?_⟩
              have hq_10 := Pk.told_len (l := l) (e := er)
              refine L_mv rfl ?_
              refine L_y rfl (Y_ext rfl rfl) ?_
              refine L_y rfl (Y_ext rfl rfl) ?_
              refine L_as rfl ?_
              refine L_as rfl ?_
              refine L_nil ?_
              refine Th_n ?_
              refine W_seq ?_
              refine W_quiet H_56 14 [Value.int .i64 ((er : Nat) : Int), Value.int .i64 ((er : Nat) : Int), Value.bool (((er : Nat) : Int) == ((er : Nat) : Int)), Value.bool (((er : Nat) : Int) == ((er : Nat) : Int)), Value.int .i64 ((er : Nat) : Int), Value.bool (((er : Nat) : Int) != ((0 : Nat) : Int)), Value.bool (((er : Nat) : Int) != ((0 : Nat) : Int)), undef, undef, undef, undef, undef, undef, undef] T_mixed (by kernel_rfl) ?_ ?_
              ·
                refine .plain rfl (Pl_y rfl (fun w hBw => rfl)) ?_
                refine .plain rfl (Pl_y rfl (fun w hBw => congrArg (fun v => Result.ok (Next.value v) w) e_20_10)) ?_
                refine .plain rfl (Pl_y rfl (fun w hBw => Y_eql (k := .i64) (a := ((er : Nat) : Int)) (b := ((er : Nat) : Int)) rfl rfl)) ?_
                refine .plain rfl (Pl_y rfl (fun w hBw => rfl)) ?_
                refine .plain rfl (Pl_y (wE rfl (congrArg Value.bool (by simp))) (fun w hBw => congrArg (fun v => Result.ok (Next.value v) w) e_20_10)) ?_
                refine .plain rfl (Pl_y (wE rfl (congrArg Value.bool (by simp))) (fun w hBw => Y_neq (k := .i64) (a := ((er : Nat) : Int)) (b := ((0 : Nat) : Int)) rfl rfl)) ?_
                refine .plain rfl (Pl_y (wE rfl (congrArg Value.bool (by simp))) (fun w hBw => rfl)) ?_
                refine .plain rfl (Pl_n (wN (b := false) rfl (congrArg Value.bool hb_3))) ?_
                refine .plain rfl (Pl_n (wN (b := false) rfl (congrArg Value.bool hb_3))) ?_
                refine .plain rfl (Pl_n (wN (b := false) rfl (congrArg Value.bool hb_3))) ?_
                refine .plain rfl (Pl_n (wN (b := false) rfl (congrArg Value.bool hb_3))) ?_
                refine .plain rfl (Pl_n (wN (b := false) rfl (congrArg Value.bool hb_3))) ?_
                refine .plain rfl (Pl_n (wN (b := false) rfl (congrArg Value.bool hb_3))) ?_
                refine .plain rfl (Pl_n (wN (b := false) rfl (congrArg Value.bool hb_3))) ?_
                exact .nil _
              ·
                intro e_21 w_44 hAg H_57
                have e_21_182 : e_21 182 = Value.bool (((er : Nat) : Int) == ((er : Nat) : Int)) := (hAg 182 rfl).trans rfl
                have e_21_185 : e_21 185 = Value.bool (((er : Nat) : Int) != ((0 : Nat) : Int)) := (hAg 185 rfl).trans rfl
                have e_21_187 : e_21 187 = undef := (hAg 187 rfl).trans rfl
                have e_21_192 : e_21 192 = undef := (hAg 192 rfl).trans rfl
                refine G_no (wN (b := false) rfl (e_21_185.trans (congrArg Value.bool hb_3))) rfl ?_
                refine G_y (wE rfl (e_21_182.trans (congrArg Value.bool (by simp)))) rfl (Y_pickT (e_21_185.trans (congrArg Value.bool hb_3))) ?_
                refine L_y rfl (Y_pickT (e_21_182.trans (congrArg Value.bool (by simp)))) ?_
                refine L_mv rfl ?_
                refine L_callv (wE rfl rfl) rfl T_en8 (A0) (known_n _) ?_
                rintro _ w_45 ⟨rfl, hkp_5⟩; refine ⟨_, rfl, ?_⟩; have H_58 := H_57.keep hkp_5
                refine L_y rfl (Y_pickT rfl) ?_
                refine L_as rfl ?_
                refine L_nil ?_
                refine Th_n ?_
                refine W_ret ?_
                refine P_ret (vs := [Value.bool true]) (v := Value.bool true) rfl (.tmp rfl (Res.nil)) rfl ?_
                refine ⟨?_, H_58.nil_⟩
                rfl
          ·
            have hb_3' := eq_of_bne_false hb_3
            refine G_no (wN (b := true) rfl (congrArg Value.bool hb_3)) rfl ?_
            refine G_no (wN (b := true) rfl (congrArg Value.bool hb_3)) rfl ?_
            refine G_no (wN (b := true) rfl (congrArg Value.bool hb_3)) rfl ?_
            refine G_y (wE rfl rfl) rfl (Y_pickF (congrArg Value.bool hb_3)) ?_
            refine L_y rfl (Y_pickF rfl) ?_
            refine L_nil ?_
            refine Th_n ?_
            refine W_false rfl ?_
            refine W_skip ?_
            refine Th_n ?_
            refine W_seq ?_
            refine W_seq ?_
            refine W_rg ?_
            refine L_as rfl ?_
            refine L_nil ?_
            refine Th_n ?_
            refine W_block ?_
            refine W_loop (fun mu_ e w => ∃ k : Nat, ∃ y : List Nat, mu_ = (Pk.told l er).length - k ∧ e 3 = Value.pointer (some ⟨bk3, 0, none⟩) ∧ e 4 = Value.pointer (some ⟨bk18, 0, none⟩) ∧ e 9 = v131 ∧ e 10 = Value.int .i64 ((er : Nat) : Int) ∧ e 11 = Value.int .i64 ((k : Nat) : Int) ∧ Hp w0 [] w [Ent.own v131 5 1 ((Pk.told l er).length) (us .u8 y), Ent.blk bk3 28 #[vp, Value.int .i64 ((er : Nat) : Int)], Ent.own vp 5 1 l.length (us .u8 l), Ent.blk bk18 31 #[vr, Value.int .i64 ((er : Nat) : Int)], Ent.own vr 5 1 l.length (us .u8 l)] ∧ (∀ u ∈ y, u < 256) ∧ k ≤ (Pk.told l er).length) _ ⟨0, Pk.told l er, rfl, e_19_3, e_19_4, e_19_9, e_19_10, rfl, H_52, (Pk.told_lt hll), (Nat.zero_le _)⟩ ?_
            rintro mu_ e_22 w_46 ⟨k, y, rfl, e_22_3, e_22_4, e_22_9, e_22_10, e_22_11, H_59, hy, hk⟩
            refine W_seq ?_
            refine W_seq ?_
            refine W_rg ?_
            refine L_mv rfl ?_
            refine L_mv rfl ?_
            refine L_y rfl (Y_lenO T_sl25 H_59 (i := 0) rfl e_22_9) ?_
            refine L_y rfl (Y_lss (k := .i64) (a := ((k : Nat) : Int)) (b := (((Pk.told l er).length : Nat) : Int)) e_22_11 rfl) ?_
            refine L_nil ?_
            refine Th_n ?_
            refine W_cond (b := (decide (((k : Nat) : Int) < (((Pk.told l er).length : Nat) : Int)))) rfl (fun hc_13 => ?_) (fun hc_13 => ?_)
            ·
              have hc_13' := of_decide_eq_true hc_13
              refine W_skip ?_
              refine Th_n ?_
              refine W_seq ?_
              refine W_block ?_
              refine W_rg ?_
              refine L_mv rfl ?_
              refine L_mv rfl ?_
              refine L_y rfl (Y_idxO (j := k) T_sl25 H_59 (i := 0) rfl e_22_9 e_22_11 rfl (by omega)) ?_
              obtain ⟨x172_4, hx172_4⟩ : ∃ u, y[k]? = some u := ⟨_, List.getElem?_eq_getElem (by have := (⟨own_length (H_59.get 0 rfl), hy⟩ : Wd ((Pk.told l er).length) 256 y).1; omega)⟩
              have rx172_4 := (⟨own_length (H_59.get 0 rfl), hy⟩ : Wd ((Pk.told l er).length) 256 y).2 _ (List.mem_of_getElem? hx172_4)
              refine L_y rfl (Y_ldO T_scal5 H_59 (i := 0) rfl rfl (hx172_4)) ?_
              refine L_yr (z := (x172_4 + 1) % 256) (m := 256) rfl (Yu_add (k := .u8) rfl x172_4 1 rfl rfl) (Nat.mod_lt _ (by decide)) ?_; intro x173_4 hx173_4 rx173_4
              refine L_y rfl (Y_idxO (j := k) T_sl25 H_59 (i := 0) rfl e_22_9 e_22_11 rfl (by omega)) ?_
              refine L_stO T_scal5 H_59 (i := 0) rfl rfl (by omega) rfl ?_; intro w_47 Hx_8
              have H_60 : Hp w0 [] w_47 [Ent.own v131 5 1 ((Pk.told l er).length) (us .u8 (y.set k x173_4)), Ent.blk bk3 28 #[vp, Value.int .i64 ((er : Nat) : Int)], Ent.own vp 5 1 l.length (us .u8 l), Ent.blk bk18 31 #[vr, Value.int .i64 ((er : Nat) : Int)], Ent.own vr 5 1 l.length (us .u8 l)] := Hx_8
              refine L_nil ?_
              refine InB_n ?_
              refine Th_n ?_
              refine W_rg ?_
              refine L_mv rfl ?_
              refine L_y rfl (Y_add (k := .i64) (a := ((k : Nat) : Int)) (b := ((1 : Nat) : Int)) (z := ((k + 1 : Nat) : Int)) e_22_11 rfl (wi (by omega))) ?_
              refine L_as rfl ?_
              refine L_nil ?_
              refine Th_n ⟨_, ?_, (k + 1), _, rfl, e_22_3, e_22_4, e_22_9, e_22_10, rfl, H_60, (set_lt hy rx173_4), (by omega)⟩
              omega
            ·
              have hc_13' := of_decide_eq_false hc_13
              refine W_exit ?_
              refine Th_x ?_
              refine Th_x ?_
              refine InB_hit ?_
              refine Th_n ?_
              refine W_seq ?_
              refine W_rg ?_
              have H_61 : Hp w0 [] w_46 [Ent.blk bk3 28 #[vp, Value.int .i64 ((er : Nat) : Int)], Ent.own vp 5 1 l.length (us .u8 l), Ent.own v131 5 1 ((Pk.told l er).length) (us .u8 y), Ent.blk bk18 31 #[vr, Value.int .i64 ((er : Nat) : Int)], Ent.own vr 5 1 l.length (us .u8 l)] := ((H_59.pull 2 rfl).pull 2 rfl)
              refine L_callv rfl rfl T_en15 (A1 e_22_3) (wDone (l := l) (by omega) hll H_61) ?_
              rintro _ w_48 ⟨v176_4, rfl, H_62⟩; refine ⟨_, rfl, ?_⟩
              have hq_11 := Pk.told_len (l := l) (e := er)
              refine L_mv rfl ?_
              refine L_y rfl (Y_ext rfl rfl) ?_
              refine L_y rfl (Y_ext rfl rfl) ?_
              refine L_as rfl ?_
              refine L_as rfl ?_
              refine L_nil ?_
              refine Th_n ?_
              refine W_seq ?_
              refine W_quiet H_62 14 [Value.int .i64 ((er : Nat) : Int), Value.int .i64 ((er : Nat) : Int), Value.bool (((er : Nat) : Int) == ((er : Nat) : Int)), Value.bool (((er : Nat) : Int) == ((er : Nat) : Int)), Value.int .i64 ((er : Nat) : Int), Value.bool (((er : Nat) : Int) != ((0 : Nat) : Int)), Value.bool (((er : Nat) : Int) != ((0 : Nat) : Int)), v176_4, Value.string (bs (Pk.told l er)), Value.pointer (some ⟨bk18, 0, none⟩), Value.pointer (some ⟨bk18, 0, none⟩), Value.pointer (some ⟨bk18, 0, none⟩), vr, Value.string (bs l)] T_mixed (by kernel_rfl) ?_ ?_
              ·
                refine .plain rfl (Pl_y rfl (fun w hBw => rfl)) ?_
                refine .plain rfl (Pl_y rfl (fun w hBw => congrArg (fun v => Result.ok (Next.value v) w) e_22_10)) ?_
                refine .plain rfl (Pl_y rfl (fun w hBw => Y_eql (k := .i64) (a := ((er : Nat) : Int)) (b := ((er : Nat) : Int)) rfl rfl)) ?_
                refine .plain rfl (Pl_y rfl (fun w hBw => rfl)) ?_
                refine .plain rfl (Pl_y (wE rfl (congrArg Value.bool (by simp))) (fun w hBw => congrArg (fun v => Result.ok (Next.value v) w) e_22_10)) ?_
                refine .plain rfl (Pl_y (wE rfl (congrArg Value.bool (by simp))) (fun w hBw => Y_neq (k := .i64) (a := ((er : Nat) : Int)) (b := ((0 : Nat) : Int)) rfl rfl)) ?_
                refine .plain rfl (Pl_y (wE rfl (congrArg Value.bool (by simp))) (fun w hBw => rfl)) ?_
                refine .plain rfl (Pl_y (wE rfl (congrArg Value.bool hb_3)) (fun w hBw => rfl)) ?_
                refine .plain rfl (Pl_y (wE rfl (congrArg Value.bool hb_3)) (fun w hBw => Y_strO Try.underlying25 Try.underlying5 Try.underlying9 hBw (i := 0) rfl rfl)) ?_
                refine .plain rfl (Pl_y (wE rfl (congrArg Value.bool hb_3)) (fun w hBw => congrArg (fun v => Result.ok (Next.value v) w) e_22_4)) ?_
                refine .plain rfl (Pl_y (wE rfl (congrArg Value.bool hb_3)) (fun w hBw => Y_nil rfl)) ?_
                refine .plain rfl (Pl_y (wE rfl (congrArg Value.bool hb_3)) (fun w hBw => Y_fld T_fld31_0 rfl rfl rfl)) ?_
                refine .plain rfl (Pl_y (wE rfl (congrArg Value.bool hb_3)) (fun w hBw => Y_ld T_scal25 hBw (i := 4) rfl rfl rfl)) ?_
                refine .plain rfl (Pl_y (wE rfl (congrArg Value.bool hb_3)) (fun w hBw => Y_strO Try.underlying25 Try.underlying5 Try.underlying9 hBw (i := 5) rfl rfl)) ?_
                exact .nil _
              ·
                intro e_23 w_49 hAg H_63
                have e_23_182 : e_23 182 = Value.bool (((er : Nat) : Int) == ((er : Nat) : Int)) := (hAg 182 rfl).trans rfl
                have e_23_185 : e_23 185 = Value.bool (((er : Nat) : Int) != ((0 : Nat) : Int)) := (hAg 185 rfl).trans rfl
                have e_23_187 : e_23 187 = Value.string (bs (Pk.told l er)) := (hAg 187 rfl).trans rfl
                have e_23_192 : e_23 192 = Value.string (bs l) := (hAg 192 rfl).trans rfl
                refine G_y (wE rfl (e_23_185.trans (congrArg Value.bool hb_3))) rfl (Y_eqT (l1 := Pk.told l er) (l2 := l) Try.underlying9 (Pk.told_lt hll) hll e_23_187 e_23_192) ?_
                refine G_y (wE rfl (e_23_182.trans (congrArg Value.bool (by simp)))) rfl (Y_pickF (e_23_185.trans (congrArg Value.bool hb_3))) ?_
                refine L_y rfl (Y_pickT (e_23_182.trans (congrArg Value.bool (by simp)))) ?_
                refine L_mv rfl ?_
                refine L_callv (wE rfl (congrArg Value.bool (by rw [Pk.told0 (by omega)]; simp))) rfl T_en8 (A0) (known_n _) ?_
                rintro _ w_50 ⟨rfl, hkp_6⟩; refine ⟨_, rfl, ?_⟩; have H_64 := H_63.keep hkp_6
                refine L_y rfl (Y_pickT (congrArg Value.bool (by rw [Pk.told0 (by omega)]; simp))) ?_
                refine L_as rfl ?_
                refine L_nil ?_
                refine Th_n ?_
                refine W_ret ?_
                refine P_ret (vs := [Value.bool true]) (v := Value.bool true) rfl (.tmp rfl (Res.nil)) rfl ?_
                refine ⟨?_, H_64.nil_⟩
                rfl
end Go.Proofs.Ytidepfhfconkaaa
