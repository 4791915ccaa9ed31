/- Walks of layer 17 (pack) and of its reference. Printed by pack.py. -/
import Derived.Test.YtidepfhfconkaaaK16
namespace Go.Proofs.Ytidepfhfconkaaa
open Go.Ev
set_option maxRecDepth 100000
set_option linter.unusedVariables false
set_option linter.unusedSimpArgs false
theorem T_fld53_2 : fldOf Try.prog 53 2 = some (2, 1) := by kernel_rfl
theorem T_fld53_0 : fldOf Try.prog 53 0 = some (0, 1) := by kernel_rfl
theorem T_fld53_1 : fldOf Try.prog 53 1 = some (1, 1) := by kernel_rfl
theorem fRaw {w0 w : World} {X : List Ent} {bw : Nat} {a : Option Addr} {m c : Nat} {b : List Nat} {p er : Nat} (s : Int) (hm : m ≤ 4294967000) (hp : p ≤ m) (hsb : Seen w0 X .u8 a m c b) (hst : ∀ u ∈ b, u < 256) (H : Hp w0 [] w (Ent.blk bw 53 #[Value.slice a m c, Value.int .i64 ((p : Nat) : Int), Value.int .i64 ((er : Nat) : Int)] :: X)) :
    Calls Try.prog 24 #[Value.pointer (some ⟨bw, 0, none⟩), Value.int .i64 (s)] w (fun r_ w' => ∃ v, r_ = .returned v ∧ Hp w0 [] w' (.own v 5 1 (Pk.take b p er s).1.length (us .u8 (Pk.take b p er s).1) :: Ent.blk bw 53 #[Value.slice a m c, Value.int .i64 (((Pk.take b p er s).2.1 : Nat) : Int), Value.int .i64 (((Pk.take b p er s).2.2 : Nat) : Int)] :: X)) := by
  have hbl : b.length = m := hsb.len H (fun _ h_ => .tail _ (h_))
  refine F_in Try.func24 rfl Try.ntmps24 rfl ?_
  intro e he
  have p_0 : e 0 = Value.pointer (some ⟨bw, 0, none⟩) := he 0 _ rfl
  have p_1 : e 1 = Value.int .i64 (s) := he 1 _ rfl
  refine W_seq ?_
  refine W_rg ?_
  refine L_as rfl ?_
  refine L_nil ?_
  refine Th_n ?_
  refine W_seq ?_
  refine W_block ?_
  refine W_seq ?_
  refine W_rg ?_
  refine L_mv rfl ?_
  refine L_y rfl (Y_nil p_0) ?_
  refine L_y rfl (Y_fld T_fld53_2 rfl rfl rfl) ?_
  refine L_y rfl (Y_ld T_scal26 H (i := 0) rfl rfl rfl) ?_
  refine L_y rfl (Y_neq (k := .i64) (a := ((er : Nat) : Int)) (b := ((0 : Nat) : Int)) rfl rfl) ?_
  refine L_as rfl ?_
  refine L_nil ?_
  refine Th_n ?_
  refine W_cond (b := (((er : Nat) : Int) != ((0 : Nat) : Int))) rfl (fun hc => ?_) (fun hc => ?_)
  ·
    have hc' := ne_of_bne hc
    refine W_seq ?_
    refine W_rg ?_
    refine L_as rfl ?_
    refine L_nil ?_
    refine Th_n ?_
    refine W_ret ?_
    refine InB_r ?_
    refine Th_r ?_
    refine P_ret (vs := [Value.slice none 0 0]) (v := Value.slice none 0 0) rfl (.tmp rfl (Res.nil)) rfl ?_
    have hm2 : Pk.take b p er s = ([], p, er) := by first | (simp only [Pk.take, hbl]; (repeat (first | rw [if_pos (by omega)] | rw [if_neg (by omega)])); done) | (obtain rfl : er = 0 := (by omega); simp only [Pk.take, hbl, hk, Int.toNat_natCast]; rw [if_neg (by omega), if_neg (by omega), if_neg (by omega)])
    refine ⟨Value.slice none 0 0, rfl, ?_⟩; rw [hm2]; exact H.nilOwn 5 1
  ·
    have hc' := eq_of_bne_false hc
    refine W_seq ?_
    refine W_rg ?_
    refine L_mv rfl ?_
    refine L_y rfl (Y_lss (k := .i64) (a := s) (b := ((0 : Nat) : Int)) p_1 rfl) ?_
    refine L_as rfl ?_
    refine L_nil ?_
    refine Th_n ?_
    refine W_cond (b := (decide (s < ((0 : Nat) : Int)))) rfl (fun hc_2 => ?_) (fun hc_2 => ?_)
    ·
      have hc_2' := of_decide_eq_true hc_2
      refine W_seq ?_
      refine W_rg ?_
      refine L_mv rfl ?_
      refine L_y rfl (Y_nil p_0) ?_
      refine L_y rfl (Y_fld T_fld53_2 rfl rfl rfl) ?_
      refine L_st (v := Value.int .i64 ((2 : Nat) : Int)) T_scal26 H (i := 0) rfl rfl rfl rfl (Nat.le_of_ble_eq_true rfl) (l' := (Ent.blk bw 53 #[Value.slice a m c, Value.int .i64 ((p : Nat) : Int), Value.int .i64 ((2 : Nat) : Int)] :: X)) rfl ?_; intro w_2 H_2
      refine L_nil ?_
      refine Th_n ?_
      refine W_seq ?_
      refine W_rg ?_
      refine L_as rfl ?_
      refine L_nil ?_
      refine Th_n ?_
      refine W_ret ?_
      refine InB_r ?_
      refine Th_r ?_
      refine P_ret (vs := [Value.slice none 0 0]) (v := Value.slice none 0 0) rfl (.tmp rfl (Res.nil)) rfl ?_
      have hm2 : Pk.take b p er s = ([], p, 2) := by first | (simp only [Pk.take, hbl]; (repeat (first | rw [if_pos (by omega)] | rw [if_neg (by omega)])); done) | (obtain rfl : er = 0 := (by omega); simp only [Pk.take, hbl, hk, Int.toNat_natCast]; rw [if_neg (by omega), if_neg (by omega), if_neg (by omega)])
      refine ⟨Value.slice none 0 0, rfl, ?_⟩; rw [hm2]; exact H_2.nilOwn 5 1
    ·
      have hc_2' := of_decide_eq_false hc_2
      refine W_seq ?_
      refine W_quiet H 11 [Value.int .i64 (s), Value.pointer (some ⟨bw, 0, none⟩), Value.pointer (some ⟨bw, 0, none⟩), Value.pointer (some ⟨bw, 0, none⟩), Value.slice a m c, Value.int .i64 ((m : Nat) : Int), Value.pointer (some ⟨bw, 0, none⟩), Value.pointer (some ⟨bw, 0, none⟩), Value.pointer (some ⟨bw, 1, none⟩), Value.int .i64 ((p : Nat) : Int), Value.int .i64 ((m - p : Nat) : Int)] T_mixed (by kernel_rfl) ?_ ?_
      ·
        refine .plain rfl (Pl_y rfl (fun w hBw => congrArg (fun v => Result.ok (Next.value v) w) p_1)) ?_
        refine .plain rfl (Pl_y rfl (fun w hBw => congrArg (fun v => Result.ok (Next.value v) w) p_0)) ?_
        refine .plain rfl (Pl_y rfl (fun w hBw => Y_nil rfl)) ?_
        refine .plain rfl (Pl_y rfl (fun w hBw => Y_fld T_fld53_0 rfl rfl rfl)) ?_
        refine .plain rfl (Pl_y rfl (fun w hBw => Y_ld T_scal25 hBw (i := 0) rfl rfl rfl)) ?_
        refine .plain rfl (Pl_y rfl (fun w hBw => Y_lenS T_sl25 rfl)) ?_
        refine .plain rfl (Pl_y rfl (fun w hBw => congrArg (fun v => Result.ok (Next.value v) w) p_0)) ?_
        refine .plain rfl (Pl_y rfl (fun w hBw => Y_nil rfl)) ?_
        refine .plain rfl (Pl_y rfl (fun w hBw => Y_fld T_fld53_1 rfl rfl rfl)) ?_
        refine .plain rfl (Pl_y rfl (fun w hBw => Y_ld T_scal3 hBw (i := 0) rfl rfl rfl)) ?_
        refine .plain rfl (Pl_y rfl (fun w hBw => Y_sub (k := .i64) (a := ((m : Nat) : Int)) (b := ((p : Nat) : Int)) (z := ((m - p : Nat) : Int)) rfl rfl (wi (by omega)))) ?_
        exact .nil _
      ·
        intro e_2 w_3 hAg H_3
        have e_2_0 : e_2 0 = Value.pointer (some ⟨bw, 0, none⟩) := (hAg 0 rfl).trans p_0
        have e_2_1 : e_2 1 = Value.int .i64 (s) := (hAg 1 rfl).trans p_1
        have e_2_19 : e_2 19 = Value.int .i64 (s) := (hAg 19 rfl).trans rfl
        obtain ⟨x29, hx29⟩ : ∃ z_ : Nat, z_ = m - p := ⟨_, rfl⟩
        have e_2_29 : e_2 29 = Value.int .i64 ((x29 : Nat) : Int) := (hAg 29 rfl).trans (by rw [hx29]; exact rfl)
        refine L_y rfl (Y_gtr (k := .i64) (a := s) (b := ((x29 : Nat) : Int)) e_2_19 e_2_29) ?_
        refine L_as rfl ?_
        refine L_nil ?_
        refine Th_n ?_
        refine W_cond (b := (decide (((x29 : Nat) : Int) < s))) rfl (fun hc_3 => ?_) (fun hc_3 => ?_)
        ·
          have hc_3' := of_decide_eq_true hc_3
          refine W_seq ?_
          refine W_rg ?_
          refine L_mv rfl ?_
          refine L_y rfl (Y_nil e_2_0) ?_
          refine L_y rfl (Y_fld T_fld53_2 rfl rfl rfl) ?_
          refine L_st (v := Value.int .i64 ((4 : Nat) : Int)) T_scal26 H_3 (i := 0) rfl rfl rfl rfl (Nat.le_of_ble_eq_true rfl) (l' := (Ent.blk bw 53 #[Value.slice a m c, Value.int .i64 ((p : Nat) : Int), Value.int .i64 ((4 : Nat) : Int)] :: X)) rfl ?_; intro w_4 H_4
          refine L_nil ?_
          refine Th_n ?_
          refine W_seq ?_
          refine W_rg ?_
          refine L_as rfl ?_
          refine L_nil ?_
          refine Th_n ?_
          refine W_ret ?_
          refine InB_r ?_
          refine Th_r ?_
          refine P_ret (vs := [Value.slice none 0 0]) (v := Value.slice none 0 0) rfl (.tmp rfl (Res.nil)) rfl ?_
          have hm2 : Pk.take b p er s = ([], p, 4) := by first | (simp only [Pk.take, hbl]; (repeat (first | rw [if_pos (by omega)] | rw [if_neg (by omega)])); done) | (obtain rfl : er = 0 := (by omega); simp only [Pk.take, hbl, hk, Int.toNat_natCast]; rw [if_neg (by omega), if_neg (by omega), if_neg (by omega)])
          refine ⟨Value.slice none 0 0, rfl, ?_⟩; rw [hm2]; exact H_4.nilOwn 5 1
        ·
          have hc_3' := of_decide_eq_false hc_3
          obtain ⟨k, hk⟩ : ∃ k : Nat, s = (k : Int) := ⟨s.toNat, by omega⟩
          refine W_skip ?_
          refine InB_n ?_
          refine Th_n ?_
          refine W_seq ?_
          refine W_anyS 16 [0, 15] [0] [34] [undef, Value.pointer (some ⟨bw, 0, none⟩), Value.pointer (some ⟨bw, 0, none⟩), Value.pointer (some ⟨bw, 0, none⟩), Value.slice a m c, Value.pointer (some ⟨bw, 0, none⟩), Value.pointer (some ⟨bw, 0, none⟩), Value.pointer (some ⟨bw, 1, none⟩), Value.int .i64 ((p : Nat) : Int), Value.pointer (some ⟨bw, 0, none⟩), Value.pointer (some ⟨bw, 0, none⟩), Value.pointer (some ⟨bw, 1, none⟩), Value.int .i64 ((p : Nat) : Int), Value.int .i64 ((k : Nat) : Int), Value.int .i64 ((p + k : Nat) : Int), Value.slice (cutA a c p) ((p + k) - p) (c - p)] (fun w => w.heap[bw]? = some (.cells #[Value.slice a m c, Value.int .i64 ((p : Nat) : Int), Value.int .i64 ((er : Nat) : Int)] 53 (0, 0))) [fun vs w => Hp w0 [] w (Ent.blk bw 53 #[Value.slice a m c, Value.int .i64 ((p : Nat) : Int), Value.int .i64 ((er : Nat) : Int)] :: X), fun vs w => ∃ bk34_, vs[0]? = some (Value.slice (some ⟨bk34_, 0, none⟩) 0 0) ∧ Hp w0 [] w (Ent.own (Value.slice (some ⟨bk34_, 0, none⟩) 0 0) 5 1 0 (us .u8 []) :: Ent.blk bw 53 #[Value.slice a m c, Value.int .i64 ((p : Nat) : Int), Value.int .i64 ((er : Nat) : Int)] :: X), fun vs w => Hp w0 [] w (Ent.blk bw 53 #[Value.slice a m c, Value.int .i64 ((p : Nat) : Int), Value.int .i64 ((er : Nat) : Int)] :: X), fun vs w => ∃ bk34_, vs[0]? = some (Value.slice (some ⟨bk34_, 0, none⟩) 0 0) ∧ Hp w0 [] w (Ent.own (Value.slice (some ⟨bk34_, 0, none⟩) 0 0) 5 1 0 (us .u8 []) :: Ent.blk bw 53 #[Value.slice a m c, Value.int .i64 ((p : Nat) : Int), Value.int .i64 ((er : Nat) : Int)] :: X)] T_mixed (by kernel_rfl) ⟨fun _ _ H => H.get 0 rfl, fun _ _ h => by obtain ⟨_, _, H⟩ := h; exact H.get 1 rfl, fun _ _ H => H.get 0 rfl, fun _ _ h => by obtain ⟨_, _, H⟩ := h; exact H.get 1 rfl, trivial⟩ ⟨fun _ _ _ hkp H => H.keep hkp, fun _ _ _ hkp h => by obtain ⟨q0, q1, H⟩ := h; exact ⟨q0, q1, H.keep hkp⟩, fun _ _ _ hkp H => H.keep hkp, fun _ _ _ hkp h => by obtain ⟨q0, q1, H⟩ := h; exact ⟨q0, q1, H.keep hkp⟩, trivial⟩ H_3 ?_ ?_
          ·
            refine .special 0 rfl (Special.of ⟨⟨⟨⟨trivial, fun _ _ _ e' w' hAg hYs => by
                have H : Hp w0 [] w' (Ent.blk bw 53 #[Value.slice a m c, Value.int .i64 ((p : Nat) : Int), Value.int .i64 ((er : Nat) : Int)] :: X) := hYs
                exact ⟨rfl, Dn_bsl (cs := ua .u8 []) H (pv := []) T_sl25 T_zero5 rfl Bp0 (by kernel_rfl) (fun b w2 Hn => ⟨_, rfl, (Hn.say (i := 0) (x' := Ent.own (Value.slice (some ⟨b, 0, none⟩) 0 0) 5 1 0 (us .u8 [])) rfl (own_of_blk (Nat.le_refl _) (by decide) rfl rfl) (fun _ h => h) rfl)⟩)⟩⟩, fun h => absurd h (by decide)⟩, fun _ _ _ e' w' hAg hYs => by
                have H : Hp w0 [] w' (Ent.blk bw 53 #[Value.slice a m c, Value.int .i64 ((p : Nat) : Int), Value.int .i64 ((er : Nat) : Int)] :: X) := hYs
                exact ⟨rfl, Dn_bsl (cs := ua .u8 []) H (pv := []) T_sl25 T_zero5 rfl Bp0 (by kernel_rfl) (fun b w2 Hn => ⟨_, rfl, (Hn.say (i := 0) (x' := Ent.own (Value.slice (some ⟨b, 0, none⟩) 0 0) 5 1 0 (us .u8 [])) rfl (own_of_blk (Nat.le_refl _) (by decide) rfl rfl) (fun _ h => h) rfl)⟩)⟩⟩, fun h => absurd h (by decide)⟩) ?_
            refine .plain rfl (Pl_y rfl (fun w hBw => congrArg (fun v => Result.ok (Next.value v) w) e_2_0)) ?_
            refine .plain rfl (Pl_y rfl (fun w hBw => Y_nil rfl)) ?_
            refine .plain rfl (Pl_y rfl (fun w hBw => Y_fld T_fld53_0 rfl rfl rfl)) ?_
            refine .plain rfl (Pl_y rfl (fun w hBw => Y_ldb T_scal25 hBw rfl rfl)) ?_
            refine .plain rfl (Pl_y rfl (fun w hBw => congrArg (fun v => Result.ok (Next.value v) w) e_2_0)) ?_
            refine .plain rfl (Pl_y rfl (fun w hBw => Y_nil rfl)) ?_
            refine .plain rfl (Pl_y rfl (fun w hBw => Y_fld T_fld53_1 rfl rfl rfl)) ?_
            refine .plain rfl (Pl_y rfl (fun w hBw => Y_ldb T_scal3 hBw rfl rfl)) ?_
            refine .plain rfl (Pl_y rfl (fun w hBw => congrArg (fun v => Result.ok (Next.value v) w) e_2_0)) ?_
            refine .plain rfl (Pl_y rfl (fun w hBw => Y_nil rfl)) ?_
            refine .plain rfl (Pl_y rfl (fun w hBw => Y_fld T_fld53_1 rfl rfl rfl)) ?_
            refine .plain rfl (Pl_y rfl (fun w hBw => Y_ldb T_scal3 hBw rfl rfl)) ?_
            refine .plain rfl (Pl_y rfl (fun w hBw => congrArg (fun v => Result.ok (Next.value v) w) (e_2_1.trans (congrArg (Value.int .i64) hk)))) ?_
            refine .plain rfl (Pl_y rfl (fun w hBw => Y_add (k := .i64) (a := ((p : Nat) : Int)) (b := ((k : Nat) : Int)) (z := ((p + k : Nat) : Int)) rfl rfl (wi (by omega)))) ?_
            refine .special 1 rfl (Special.ofD ⟨⟨⟨⟨trivial, fun _ _ _ e' w' hAg hYs => by
                have H : Hp w0 [] w' (Ent.blk bw 53 #[Value.slice a m c, Value.int .i64 ((p : Nat) : Int), Value.int .i64 ((er : Nat) : Int)] :: X) := hYs
                exact ⟨rfl, Yl.dn (Y_cutLH (lo := p) (hi := p + k) T_sl25 ((hAg 38 rfl).trans rfl) ((hAg 42 rfl).trans rfl) ((hAg 48 rfl).trans rfl) (by omega) (Nat.le_trans (by omega) (hsb.hp H (fun _ h_ => .tail _ (h_))).cap)) ⟨(fun d hd => by cases hd; rfl), H⟩⟩⟩, fun _ _ _ e' w' hAg hYs => by
                obtain ⟨bk34_, q0, H⟩ := hYs
                exact ⟨rfl, Yl.dn (Y_cutLH (lo := p) (hi := p + k) T_sl25 ((hAg 38 rfl).trans rfl) ((hAg 42 rfl).trans rfl) ((hAg 48 rfl).trans rfl) (by omega) (Nat.le_trans (by omega) (hsb.hp H (fun _ h_ => .tail _ (.tail _ (h_)))).cap)) ⟨(fun d hd => by cases hd; rfl), ⟨bk34_, q0, H⟩⟩⟩⟩, fun h => absurd h (by decide)⟩, fun h => absurd h (by decide)⟩) ?_
            exact .nil _
          ·
            intro e_3 w_5 hAg hYs
            obtain ⟨bk34_, q0, H_5⟩ := hYs
            have e_3_34 : e_3 34 = Value.slice (some ⟨bk34_, 0, none⟩) 0 0 := Option.some.inj q0
            have e_3_0 : e_3 0 = Value.pointer (some ⟨bw, 0, none⟩) := (hAg 0 rfl).trans e_2_0
            have e_3_1 : e_3 1 = Value.int .i64 ((k : Nat) : Int) := (hAg 1 rfl).trans (e_2_1.trans (congrArg (Value.int .i64) hk))
            have e_3_49 : e_3 49 = Value.slice (cutA a c p) ((p + k) - p) (c - p) := (hAg 49 rfl).trans rfl
            refine L_appL rfl H_5 (i := 0) rfl T_sl25 T_zero5 rfl T_szb5 e_3_34 e_3_49 ((hsb.hp H_5 (fun _ h_ => .tail _ (.tail _ (h_)))).mid (by omega) (by omega)) (by omega) ?_; intro v50 w_6 Hx
            have H_6 : Hp w0 [] w_6 (Ent.own v50 5 1 ((p + k) - p) (us .u8 ((b.drop p).take ((p + k) - p))) :: Ent.blk bw 53 #[Value.slice a m c, Value.int .i64 ((p : Nat) : Int), Value.int .i64 ((er : Nat) : Int)] :: X) := by have h := Hx; simp only [Nat.zero_add] at h; exact h
            refine L_as rfl ?_
            refine L_nil ?_
            refine Th_n ?_
            refine W_seq ?_
            refine W_rg ?_
            refine L_mv rfl ?_
            refine L_mv rfl ?_
            refine L_y rfl (Y_nil e_3_0) ?_
            refine L_y rfl (Y_fld T_fld53_1 rfl rfl rfl) ?_
            refine L_y rfl (Y_ld T_scal3 H_6 (i := 1) rfl rfl rfl) ?_
            refine L_mv rfl ?_
            refine L_y rfl (Y_add (k := .i64) (a := ((p : Nat) : Int)) (b := ((k : Nat) : Int)) (z := ((p + k : Nat) : Int)) rfl e_3_1 (wi (by omega))) ?_
            refine L_y rfl (Y_nil e_3_0) ?_
            refine L_y rfl (Y_fld T_fld53_1 rfl rfl rfl) ?_
            refine L_st (v := Value.int .i64 ((p + k : Nat) : Int)) T_scal3 H_6 (i := 1) rfl rfl rfl rfl (Nat.le_of_ble_eq_true rfl) (l' := (Ent.own v50 5 1 ((p + k) - p) (us .u8 ((b.drop p).take ((p + k) - p))) :: Ent.blk bw 53 #[Value.slice a m c, Value.int .i64 ((p + k : Nat) : Int), Value.int .i64 ((er : Nat) : Int)] :: X)) rfl ?_; intro w_7 H_7
            refine L_nil ?_
            refine Th_n ?_
            refine W_seq ?_
            refine W_rg ?_
            refine L_mv rfl ?_
            refine L_as rfl ?_
            refine L_nil ?_
            refine Th_n ?_
            refine W_ret ?_
            refine P_ret (vs := [v50]) (v := v50) rfl (.tmp rfl (Res.nil)) rfl ?_
            have hm2 : Pk.take b p er s = ((b.drop p).take k, p + k, er) := by first | (simp only [Pk.take, hbl]; (repeat (first | rw [if_pos (by omega)] | rw [if_neg (by omega)])); done) | (obtain rfl : er = 0 := (by omega); simp only [Pk.take, hbl, hk, Int.toNat_natCast]; rw [if_neg (by omega), if_neg (by omega), if_neg (by omega)])
            have H_8 : Hp w0 [] w_7 (Ent.own v50 5 1 (((b.drop p).take k).length) (us .u8 ((b.drop p).take k)) :: Ent.blk bw 53 #[Value.slice a m c, Value.int .i64 ((p + k : Nat) : Int), Value.int .i64 ((er : Nat) : Int)] :: X) := H_7.asL (i := 0) rfl (by simp only [List.length_take, List.length_drop, hbl]; omega) (by first | rfl | (congr 1; omega) | (simp; omega)) rfl
            refine ⟨v50, rfl, ?_⟩; rw [hm2]; exact H_8
end Go.Proofs.Ytidepfhfconkaaa
