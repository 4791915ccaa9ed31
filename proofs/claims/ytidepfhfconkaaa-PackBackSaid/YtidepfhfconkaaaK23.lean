/- Walks of layer 17 (pack) and of its reference. Printed by pack.py. -/
import Derived.Test.YtidepfhfconkaaaK22
import Derived.Test.YtidepfhfconkaaaBackMath
namespace Go.Proofs.Ytidepfhfconkaaa
open Go.Ev
set_option maxRecDepth 100000
set_option linter.unusedVariables false
set_option linter.unusedSimpArgs false
set_option maxHeartbeats 4000000 in
theorem packBack_n (a : Option Addr) (m c : Nat) (L : List Pk.Op) (w0 : World) (hT : Tab w0 Pk.Op.cells 4 a m c L) (hg : ∀ x ∈ L, Pk.Op.good w0 x) :
    Calls Try.prog 6 #[Value.slice a m c] w0 (fun r_ w' => r_ = .returned (.bool true) ∧ Keep w0 w') := by
  refine F_in Try.func6 rfl Try.ntmps6 rfl ?_
  intro e he
  have p_0 : e 0 = Value.slice a m c := he 0 _ rfl
  have H := Hp.start w0 []
  refine W_seq ?_
  refine W_rg ?_
  refine L_as rfl ?_
  refine L_nil ?_
  refine Th_n ?_
  refine W_seq ?_
  refine W_seq ?_
  refine W_rg ?_
  refine L_mv rfl ?_
  refine L_callv rfl rfl T_en7 (A1 p_0) (large_n _ _ _ _ _ (hT.hp H) (fun x hx => (hg x hx).hp H)) ?_
  rintro _ w_2 ⟨rfl, hkp⟩; refine ⟨_, rfl, ?_⟩; have H_2 := H.keep hkp
  refine L_nil ?_
  refine Th_n ?_
  refine W_cond (b := (Pk.large L)) rfl (fun hc => ?_) (fun hc => ?_)
  ·
    refine W_seq ?_
    refine W_rg ?_
    refine L_callv rfl rfl T_en8 (A0) (known_n _) ?_
    rintro _ w_3 ⟨rfl, hkp_2⟩; refine ⟨_, rfl, ?_⟩; have H_3 := H_2.keep hkp_2
    refine L_as rfl ?_
    refine L_nil ?_
    refine Th_n ?_
    refine W_ret ?_
    refine Th_r ?_
    refine P_ret (vs := [Value.bool true]) (v := Value.bool true) rfl (.tmp rfl (Res.nil)) rfl ?_
    refine ⟨?_, H_3.nil_⟩
    rfl
  ·
    obtain ⟨h200, hmax⟩ := Pk.large_no hc
    rw [hT.len] at h200
    refine W_skip ?_
    refine Th_n ?_
    refine W_seq ?_
    refine W_rg ?_
    refine L_alloc rfl H_2 T_zero28 ?_; intro bk3 w_4 H_4
    have H_5 : Hp w0 [] w_4 [Ent.blk bk3 28 #[Value.slice none 0 0, Value.int .i64 ((0 : Nat) : Int)], Ent.own (Value.slice none 0 0) 5 1 0 (us .u8 [])] := (H_4.nilOwn 5 1).perm (List.Perm.swap _ _ _)
    refine L_nil ?_
    refine Th_n ?_
    refine W_seq ?_
    refine W_seq ?_
    refine W_rg ?_
    refine L_as rfl ?_
    refine L_nil ?_
    refine Th_n ?_
    refine W_block ?_
    refine W_loop (fun mu_ e w => ∃ i : Nat, ∃ vp : Value, ∃ l : List Nat, ∃ er : Nat, mu_ = m - i ∧ e 0 = Value.slice a m c ∧ e 3 = Value.pointer (some ⟨bk3, 0, none⟩) ∧ e 4 = Value.int .i64 ((i : Nat) : Int) ∧ Hp w0 [] w [Ent.blk bk3 28 #[vp, Value.int .i64 ((er : Nat) : Int)], Ent.own vp 5 1 l.length (us .u8 l)] ∧ Pk.wst (L.take i) = (l, er) ∧ (∀ u ∈ l, u < 256) ∧ l.length ≤ i * 300010 ∧ i ≤ m) _ ⟨0, _, [], 0, rfl, p_0, rfl, rfl, H_5, rfl, (by simp), (by simp), (Nat.zero_le _)⟩ ?_
    rintro mu_ e_2 w_5 ⟨i, vp, l, er, rfl, e_2_0, e_2_3, e_2_4, H_6, hst, hll, hlen, hi⟩
    refine W_seq ?_
    refine W_seq ?_
    refine W_rg ?_
    refine L_mv rfl ?_
    refine L_mv rfl ?_
    refine L_y rfl (Y_lenS T_sl22 e_2_0) ?_
    refine L_y rfl (Y_lss (k := .i64) (a := ((i : Nat) : Int)) (b := ((m : Nat) : Int)) e_2_4 rfl) ?_
    refine L_nil ?_
    refine Th_n ?_
    refine W_cond (b := (decide (((i : Nat) : Int) < ((m : Nat) : Int)))) rfl (fun hc_2 => ?_) (fun hc_2 => ?_)
    ·
      have hc_2' := of_decide_eq_true hc_2
      refine W_skip ?_
      refine Th_n ?_
      refine W_seq ?_
      refine W_block ?_
      refine W_seq ?_
      refine W_rg ?_
      refine L_mv rfl ?_
      refine L_mv rfl ?_
      obtain ⟨el23, hel23⟩ := hT.at (j := i) (by omega)
      have gel23 := hg el23 (List.mem_of_getElem? hel23)
      have bel23 := gel23.big
      have lel23 := gel23.sl.len
      have hmel23 := hmax el23 (List.mem_of_getElem? hel23)
      have sel23 := gel23.s1
      have tel23 := gel23.s2
      refine L_y rfl (Y_idxT (j := i) T_sl22 (hT.hp H_6) hel23 e_2_0 e_2_4 rfl) ?_
      refine L_y rfl (Y_fldT T_fld34_0 rfl (hT.hp H_6) hel23 rfl) ?_
      refine L_y rfl (Y_ldT (j := i) (off := 0) T_scal3 (hT.hp H_6) hel23 rfl rfl rfl) ?_
      refine L_nil ?_
      refine Th_n ?_
      refine W_block ?_
      refine W_seq ?_
      refine W_rg ?_
      refine L_y rfl (Y_eql (k := .i64) (a := el23.kind) (b := ((0 : Nat) : Int)) rfl rfl) ?_
      refine L_as rfl ?_
      refine L_nil ?_
      refine Th_n ?_
      refine W_cond (b := (el23.kind == ((0 : Nat) : Int))) rfl (fun hc_3 => ?_) (fun hc_3 => ?_)
      ·
        have hc_3' := eq_of_beq hc_3
        refine W_quiet H_6 10 [Value.slice a m c, Value.int .i64 ((i : Nat) : Int), pl a (i * 4 + 0), pl a (i * 4 + 0 + 2), Value.int .u64 ((el23.n : Nat) : Int), Value.slice a m c, Value.int .i64 ((i : Nat) : Int), pl a (i * 4 + 0), pl a (i * 4 + 0 + 1), Value.int .i64 (el23.size)] T_mixed (by kernel_rfl) ?_ ?_
        ·
          refine .plain rfl (Pl_y rfl (fun w hBw => congrArg (fun v => Result.ok (Next.value v) w) e_2_0)) ?_
          refine .plain rfl (Pl_y rfl (fun w hBw => congrArg (fun v => Result.ok (Next.value v) w) e_2_4)) ?_
          refine .plain rfl (Pl_y rfl (fun w hBw => Y_idxT (j := i) T_sl22 (hT.hp hBw) hel23 rfl rfl rfl)) ?_
          refine .plain rfl (Pl_y rfl (fun w hBw => Y_fldT T_fld34_2 rfl (hT.hp hBw) hel23 rfl)) ?_
          refine .plain rfl (Pl_y rfl (fun w hBw => Y_ldT (j := i) (off := 2) T_scal32 (hT.hp hBw) hel23 rfl rfl rfl)) ?_
          refine .plain rfl (Pl_y rfl (fun w hBw => congrArg (fun v => Result.ok (Next.value v) w) e_2_0)) ?_
          refine .plain rfl (Pl_y rfl (fun w hBw => congrArg (fun v => Result.ok (Next.value v) w) e_2_4)) ?_
          refine .plain rfl (Pl_y rfl (fun w hBw => Y_idxT (j := i) T_sl22 (hT.hp hBw) hel23 rfl rfl rfl)) ?_
          refine .plain rfl (Pl_y rfl (fun w hBw => Y_fldT T_fld34_1 rfl (hT.hp hBw) hel23 rfl)) ?_
          refine .plain rfl (Pl_y rfl (fun w hBw => Y_ldT (j := i) (off := 1) T_scal3 (hT.hp hBw) hel23 rfl rfl rfl)) ?_
          exact .nil _
        ·
          intro e_3 w_6 hAg H_7
          have e_3_0 : e_3 0 = Value.slice a m c := (hAg 0 rfl).trans e_2_0
          have e_3_3 : e_3 3 = Value.pointer (some ⟨bk3, 0, none⟩) := (hAg 3 rfl).trans e_2_3
          have e_3_4 : e_3 4 = Value.int .i64 ((i : Nat) : Int) := (hAg 4 rfl).trans e_2_4
          have e_3_32 : e_3 32 = Value.int .u64 ((el23.n : Nat) : Int) := (hAg 32 rfl).trans rfl
          have e_3_37 : e_3 37 = Value.int .i64 (el23.size) := (hAg 37 rfl).trans rfl
          refine L_callv rfl rfl T_en9 (A3 e_3_3 e_3_32 e_3_37) (wNum (l := l) (er := er) el23.n el23.size gel23.n64 (by omega) hll H_7) ?_
          rintro _ w_7 ⟨v38, rfl, H_8⟩; refine ⟨_, rfl, ?_⟩
          have hq := Pk.num_len (l := l) (e := er) (n := el23.n) (s := el23.size)
          refine L_nil ?_
          refine InB_n ?_
          refine InB_n ?_
          refine Th_n ?_
          refine W_rg ?_
          refine L_mv rfl ?_
          refine L_y rfl (Y_add (k := .i64) (a := ((i : Nat) : Int)) (b := ((1 : Nat) : Int)) (z := ((i + 1 : Nat) : Int)) e_3_4 rfl (wi (by omega))) ?_
          refine L_as rfl ?_
          refine L_nil ?_
          refine Th_n ⟨_, ?_, (i + 1), _, _, _, rfl, e_3_0, e_3_3, rfl, H_8, (by rw [Pk.wst_succ hel23, hst]; simp only [Pk.wop]; (repeat (first | rw [if_pos (by omega)] | rw [if_neg (by omega)]))), (Pk.num_lt hll), (by rw [Nat.add_mul]; first | exact Nat.le_trans hlen (Nat.le_add_right _ _) | omega), (by omega)⟩
          omega
      ·
        have hc_3' := ne_of_beq_false hc_3
        refine W_seq ?_
        refine W_rg ?_
        refine L_y rfl (Y_eql (k := .i64) (a := el23.kind) (b := ((1 : Nat) : Int)) rfl rfl) ?_
        refine L_as rfl ?_
        refine L_nil ?_
        refine Th_n ?_
        refine W_cond (b := (el23.kind == ((1 : Nat) : Int))) rfl (fun hc_4 => ?_) (fun hc_4 => ?_)
        ·
          have hc_4' := eq_of_beq hc_4
          refine W_rg ?_
          refine L_mv rfl ?_
          refine L_mv rfl ?_
          refine L_y rfl (Y_idxT (j := i) T_sl22 (hT.hp H_6) hel23 e_2_0 e_2_4 rfl) ?_
          refine L_y rfl (Y_fldT T_fld34_3 rfl (hT.hp H_6) hel23 rfl) ?_
          refine L_y rfl (Y_ldT (j := i) (off := 3) T_scal25 (hT.hp H_6) hel23 rfl rfl rfl) ?_
          refine L_callv rfl rfl T_en11 (A2 e_2_3 rfl) (wRaw (l := l) (er := er)  hll (by omega) (Seen.old gel23.sl) gel23.lt H_6) ?_
          rintro _ w_8 ⟨v46, rfl, H_9⟩; refine ⟨_, rfl, ?_⟩
          have hq_2 := Pk.raw_len (l := l) (e := er) (b := el23.l)
          refine L_nil ?_
          refine InB_n ?_
          refine InB_n ?_
          refine Th_n ?_
          refine W_rg ?_
          refine L_mv rfl ?_
          refine L_y rfl (Y_add (k := .i64) (a := ((i : Nat) : Int)) (b := ((1 : Nat) : Int)) (z := ((i + 1 : Nat) : Int)) e_2_4 rfl (wi (by omega))) ?_
          refine L_as rfl ?_
          refine L_nil ?_
          refine Th_n ⟨_, ?_, (i + 1), _, _, _, rfl, e_2_0, e_2_3, rfl, H_9, (by rw [Pk.wst_succ hel23, hst]; simp only [Pk.wop]; (repeat (first | rw [if_pos (by omega)] | rw [if_neg (by omega)]))), (Pk.raw_lt hll gel23.lt), (by rw [Nat.add_mul]; first | exact Nat.le_trans hlen (Nat.le_add_right _ _) | omega), (by omega)⟩
          omega
        ·
          have hc_4' := ne_of_beq_false hc_4
          refine W_seq ?_
          refine W_rg ?_
          refine L_y rfl (Y_eql (k := .i64) (a := el23.kind) (b := ((2 : Nat) : Int)) rfl rfl) ?_
          refine L_as rfl ?_
          refine L_nil ?_
          refine Th_n ?_
          refine W_cond (b := (el23.kind == ((2 : Nat) : Int))) rfl (fun hc_5 => ?_) (fun hc_5 => ?_)
          ·
            have hc_5' := eq_of_beq hc_5
            refine W_rg ?_
            refine L_mv rfl ?_
            refine L_mv rfl ?_
            refine L_y rfl (Y_idxT (j := i) T_sl22 (hT.hp H_6) hel23 e_2_0 e_2_4 rfl) ?_
            refine L_y rfl (Y_fldT T_fld34_3 rfl (hT.hp H_6) hel23 rfl) ?_
            refine L_y rfl (Y_ldT (j := i) (off := 3) T_scal25 (hT.hp H_6) hel23 rfl rfl rfl) ?_
            refine L_callv rfl rfl T_en13 (A2 e_2_3 rfl) (wText (l := l) (er := er)  hll (by omega) (Seen.old gel23.sl) gel23.lt H_6) ?_
            rintro _ w_9 ⟨v54, rfl, H_10⟩; refine ⟨_, rfl, ?_⟩
            have hq_3 := Pk.text_len (l := l) (e := er) (b := el23.l)
            refine L_nil ?_
            refine InB_n ?_
            refine InB_n ?_
            refine Th_n ?_
            refine W_rg ?_
            refine L_mv rfl ?_
            refine L_y rfl (Y_add (k := .i64) (a := ((i : Nat) : Int)) (b := ((1 : Nat) : Int)) (z := ((i + 1 : Nat) : Int)) e_2_4 rfl (wi (by omega))) ?_
            refine L_as rfl ?_
            refine L_nil ?_
            refine Th_n ⟨_, ?_, (i + 1), _, _, _, rfl, e_2_0, e_2_3, rfl, H_10, (by rw [Pk.wst_succ hel23, hst]; simp only [Pk.wop]; (repeat (first | rw [if_pos (by omega)] | rw [if_neg (by omega)]))), (Pk.text_lt hll gel23.lt), (by rw [Nat.add_mul]; first | exact Nat.le_trans hlen (Nat.le_add_right _ _) | omega), (by omega)⟩
            omega
          ·
            have hc_5' := ne_of_beq_false hc_5
            refine W_skip ?_
            refine InB_n ?_
            refine InB_n ?_
            refine Th_n ?_
            refine W_rg ?_
            refine L_mv rfl ?_
            refine L_y rfl (Y_add (k := .i64) (a := ((i : Nat) : Int)) (b := ((1 : Nat) : Int)) (z := ((i + 1 : Nat) : Int)) e_2_4 rfl (wi (by omega))) ?_
            refine L_as rfl ?_
            refine L_nil ?_
            refine Th_n ⟨_, ?_, (i + 1), _, _, _, rfl, e_2_0, e_2_3, rfl, H_6, (by rw [Pk.wst_succ hel23, hst]; simp only [Pk.wop]; (repeat (first | rw [if_pos (by omega)] | rw [if_neg (by omega)]))), hll, (by rw [Nat.add_mul]; first | exact Nat.le_trans hlen (Nat.le_add_right _ _) | omega), (by omega)⟩
            omega
    ·
      have hc_2' := of_decide_eq_false hc_2
      refine W_exit ?_
      refine Th_x ?_
      refine Th_x ?_
      refine InB_hit ?_
      refine Th_n ?_
      refine W_seq ?_
      refine W_rg ?_
      refine L_callv rfl rfl T_en15 (A1 e_2_3) (wDone (l := l) (by omega) hll H_6) ?_
      rintro _ w_10 ⟨v56, rfl, H_11⟩; refine ⟨_, rfl, ?_⟩
      have hq_4 := Pk.told_len (l := l) (e := er)
      refine L_mv rfl ?_
      refine L_y rfl (Y_ext rfl rfl) ?_
      refine L_y rfl (Y_ext rfl rfl) ?_
      refine L_as rfl ?_
      refine L_as rfl ?_
      refine L_nil ?_
      refine Th_n ?_
      refine W_seq ?_
      refine W_seq ?_
      refine W_rg ?_
      refine L_mv rfl ?_
      refine L_y rfl (Y_neq (k := .i64) (a := ((er : Nat) : Int)) (b := ((0 : Nat) : Int)) rfl rfl) ?_
      refine L_nil ?_
      refine Th_n ?_
      refine W_cond (b := (((er : Nat) : Int) != ((0 : Nat) : Int))) rfl (fun hc_6 => ?_) (fun hc_6 => ?_)
      ·
        have hc_6' := ne_of_bne hc_6
        refine W_seq ?_
        refine W_rg ?_
        refine L_callv rfl rfl T_en8 (A0) (known_n _) ?_
        rintro _ w_11 ⟨rfl, hkp_3⟩; refine ⟨_, rfl, ?_⟩; have H_12 := H_11.keep hkp_3
        refine L_as rfl ?_
        refine L_nil ?_
        refine Th_n ?_
        refine W_ret ?_
        refine Th_r ?_
        refine P_ret (vs := [Value.bool true]) (v := Value.bool true) rfl (.tmp rfl (Res.nil)) rfl ?_
        refine ⟨?_, H_12.nil_⟩
        rfl
      ·
        have hwe : er = 0 := by have := eq_of_bne_false hc_6; omega
        have hlT := hT.len
        have hL : Pk.wst L = (l, er) := by rw [← hst, List.take_of_length_le (by omega)]
        have hwlt : ∀ u ∈ (Pk.wst L).1, u < 256 := by rw [hL]; exact hll
        have hwlen : (Pk.wst L).1.length ≤ 60002000 := by rw [hL]; show l.length ≤ _; omega
        have hw0 : (Pk.wst L).2 = 0 := by rw [hL]; exact hwe
        have hM : ∀ x ∈ L, x.n < 18446744073709551616 := fun x hx => (hg x hx).n64
        have H_13 : Hp w0 [] w_10 [Ent.own v56 5 1 ((Pk.wst L).1.length) (us .u8 ((Pk.wst L).1)), Ent.blk bk3 28 #[vp, Value.int .i64 ((er : Nat) : Int)], Ent.own vp 5 1 l.length (us .u8 l)] := H_11.asL (i := 0) rfl (by rw [hL, Pk.told0 hwe]) (by rw [hL, Pk.told0 hwe]) rfl
        refine W_skip ?_
        refine Th_n ?_
        refine W_seq ?_
        refine W_rg ?_
        refine L_mv rfl ?_
        obtain ⟨a_, c_, rfl⟩ := Sl.opn H_13 (i := 0) rfl
        refine L_callv rfl rfl T_en22 (A1 rfl) (dNewReader (by omega) (Seen.own (i := 0) rfl) hwlt H_13) ?_
        rintro _ w_12 ⟨b63, v63, rfl, H_14⟩; refine ⟨_, rfl, ?_⟩
        refine L_as rfl ?_
        refine L_nil ?_
        refine Th_n ?_
        refine W_seq ?_
        refine W_seq ?_
        refine W_rg ?_
        refine L_as rfl ?_
        refine L_nil ?_
        refine Th_n ?_
        refine W_block ?_
        refine W_loop (fun mu_ e w => ∃ i : Nat, ∃ vr : Value, mu_ = m - i ∧ e 0 = Value.slice a m c ∧ e 5 = Value.slice a_ ((Pk.wst L).1.length) c_ ∧ e 7 = Value.pointer (some ⟨b63, 0, none⟩) ∧ e 8 = Value.int .i64 ((i : Nat) : Int) ∧ Hp w0 [] w [Ent.blk b63 59 #[vr, Value.int .i64 (((Pk.wst (L.take i)).1.length : Nat) : Int), Value.int .i64 ((0 : Nat) : Int)], Ent.own vr 5 1 ((Pk.wst L).1.length) (us .u8 ((Pk.wst L).1))] ∧ i ≤ m) _ ⟨0, _, rfl, e_2_0, rfl, rfl, rfl, (((((H_14.erase 2).erase 2).erase 2).pull 1 rfl).pull 1 rfl), (Nat.zero_le _)⟩ ?_
        rintro mu_ e_4 w_13 ⟨i, vr, rfl, e_4_0, e_4_5, e_4_7, e_4_8, H_15, hi⟩
        refine W_seq ?_
        refine W_seq ?_
        refine W_rg ?_
        refine L_mv rfl ?_
        refine L_mv rfl ?_
        refine L_y rfl (Y_lenS T_sl22 e_4_0) ?_
        refine L_y rfl (Y_lss (k := .i64) (a := ((i : Nat) : Int)) (b := ((m : Nat) : Int)) e_4_8 rfl) ?_
        refine L_nil ?_
        refine Th_n ?_
        refine W_cond (b := (decide (((i : Nat) : Int) < ((m : Nat) : Int)))) rfl (fun hc_7 => ?_) (fun hc_7 => ?_)
        ·
          have hc_7' := of_decide_eq_true hc_7
          refine W_skip ?_
          refine Th_n ?_
          refine W_seq ?_
          refine W_block ?_
          refine W_seq ?_
          refine W_rg ?_
          refine L_as rfl ?_
          refine L_nil ?_
          refine Th_n ?_
          refine W_seq ?_
          refine W_seq ?_
          refine W_rg ?_
          refine L_mv rfl ?_
          refine L_mv rfl ?_
          obtain ⟨el72, hel72⟩ := hT.at (j := i) (by omega)
          have gel72 := hg el72 (List.mem_of_getElem? hel72)
          have bel72 := gel72.big
          have lel72 := gel72.sl.len
          have hmel72 := hmax el72 (List.mem_of_getElem? hel72)
          have sel72 := gel72.s1
          have tel72 := gel72.s2
          refine L_y rfl (Y_idxT (j := i) T_sl22 (hT.hp H_15) hel72 e_4_0 e_4_8 rfl) ?_
          refine L_y rfl (Y_fldT T_fld34_0 rfl (hT.hp H_15) hel72 rfl) ?_
          refine L_y rfl (Y_ldT (j := i) (off := 0) T_scal3 (hT.hp H_15) hel72 rfl rfl rfl) ?_
          refine L_nil ?_
          refine Th_n ?_
          refine W_block ?_
          refine W_seq ?_
          refine W_rg ?_
          refine L_y rfl (Y_eql (k := .i64) (a := el72.kind) (b := ((0 : Nat) : Int)) rfl rfl) ?_
          refine L_as rfl ?_
          refine L_nil ?_
          refine Th_n ?_
          refine W_cond (b := (el72.kind == ((0 : Nat) : Int))) rfl (fun hc_8 => ?_) (fun hc_8 => ?_)
          ·
            have hc_8' := eq_of_beq hc_8
            refine W_anyS 12 [6] [] [] [Value.pointer (some ⟨b63, 0, none⟩), Value.slice a m c, Value.int .i64 ((i : Nat) : Int), pl a (i * 4 + 0), pl a (i * 4 + 0 + 1), Value.int .i64 (el72.size), Value.int .u64 (((Pk.rnum ((Pk.wst L).1) ((Pk.wst (L.take i)).1.length) 0 el72.size).1 : Nat) : Int), Value.slice a m c, Value.int .i64 ((i : Nat) : Int), pl a (i * 4 + 0), pl a (i * 4 + 0 + 2), Value.int .u64 ((el72.n : Nat) : Int)] (fun w => Stay w0 w) [fun vs w => Hp w0 [] w [Ent.blk b63 59 #[vr, Value.int .i64 (((Pk.wst (L.take i)).1.length : Nat) : Int), Value.int .i64 ((0 : Nat) : Int)], Ent.own vr 5 1 ((Pk.wst L).1.length) (us .u8 ((Pk.wst L).1))], fun vs w => ∃ v83_, Hp w0 [] w [Ent.blk b63 59 #[v83_, Value.int .i64 (((Pk.rnum ((Pk.wst L).1) ((Pk.wst (L.take i)).1.length) 0 el72.size).2.1 : Nat) : Int), Value.int .i64 (((Pk.rnum ((Pk.wst L).1) ((Pk.wst (L.take i)).1.length) 0 el72.size).2.2 : Nat) : Int)], Ent.own v83_ 5 1 ((Pk.wst L).1.length) (us .u8 ((Pk.wst L).1))]] T_mixed (by kernel_rfl) ⟨fun _ _ H => H.stay, fun _ _ h => by obtain ⟨_, H⟩ := h; exact H.stay, trivial⟩ ⟨fun _ _ _ hkp H => H.keep hkp, fun _ _ _ hkp h => by obtain ⟨q0, H⟩ := h; exact ⟨q0, H.keep hkp⟩, trivial⟩ H_15 ?_ ?_
            ·
              refine .plain rfl (Pl_y rfl (fun w hBw => congrArg (fun v => Result.ok (Next.value v) w) e_4_7)) ?_
              refine .plain rfl (Pl_y rfl (fun w hBw => congrArg (fun v => Result.ok (Next.value v) w) e_4_0)) ?_
              refine .plain rfl (Pl_y rfl (fun w hBw => congrArg (fun v => Result.ok (Next.value v) w) e_4_8)) ?_
              refine .plain rfl (Pl_y rfl (fun w hBw => Y_idxT (j := i) T_sl22 (hT.stay hBw) hel72 rfl rfl rfl)) ?_
              refine .plain rfl (Pl_y rfl (fun w hBw => Y_fldT T_fld34_1 rfl (hT.stay hBw) hel72 rfl)) ?_
              refine .plain rfl (Pl_y rfl (fun w hBw => Y_ldT (j := i) (off := 1) T_scal3 (hT.stay hBw) hel72 rfl rfl rfl)) ?_
              refine .special 0 rfl (Special.ofD ⟨⟨trivial, fun _ _ _ e' w' hAg hYs => by
                  have H : Hp w0 [] w' [Ent.blk b63 59 #[vr, Value.int .i64 (((Pk.wst (L.take i)).1.length : Nat) : Int), Value.int .i64 ((0 : Nat) : Int)], Ent.own vr 5 1 ((Pk.wst L).1.length) (us .u8 ((Pk.wst L).1))] := hYs
                  exact ⟨rfl, Dn_callv T_en18 (A2 ((hAg 77 rfl).trans rfl) ((hAg 82 rfl).trans rfl)) ((dNum el72.size (by omega) hwlt (Pk.wst_le hM hw0 _) ((H.pull 1 rfl).pull 1 rfl)).mono (fun r_ w2 h => by obtain ⟨v83_, rfl, Hn⟩ := h; exact ⟨_, rfl, ⟨(fun d hd => by cases hd; rfl), ⟨v83_, ((Hn.pull 1 rfl).pull 1 rfl)⟩⟩⟩))⟩⟩, fun h => absurd h (by decide)⟩) ?_
              refine .plain rfl (Pl_y rfl (fun w hBw => congrArg (fun v => Result.ok (Next.value v) w) e_4_0)) ?_
              refine .plain rfl (Pl_y rfl (fun w hBw => congrArg (fun v => Result.ok (Next.value v) w) e_4_8)) ?_
              refine .plain rfl (Pl_y rfl (fun w hBw => Y_idxT (j := i) T_sl22 (hT.stay hBw) hel72 rfl rfl rfl)) ?_
              refine .plain rfl (Pl_y rfl (fun w hBw => Y_fldT T_fld34_2 rfl (hT.stay hBw) hel72 rfl)) ?_
              refine .plain rfl (Pl_y rfl (fun w hBw => Y_ldT (j := i) (off := 2) T_scal32 (hT.stay hBw) hel72 rfl rfl rfl)) ?_
              exact .nil _
            ·
              intro e_5 w_14 hAg hYs
              obtain ⟨v83_, H_16⟩ := hYs
              have e_5_0 : e_5 0 = Value.slice a m c := (hAg 0 rfl).trans e_4_0
              have e_5_5 : e_5 5 = Value.slice a_ ((Pk.wst L).1.length) c_ := (hAg 5 rfl).trans e_4_5
              have e_5_7 : e_5 7 = Value.pointer (some ⟨b63, 0, none⟩) := (hAg 7 rfl).trans e_4_7
              have e_5_8 : e_5 8 = Value.int .i64 ((i : Nat) : Int) := (hAg 8 rfl).trans e_4_8
              obtain ⟨x83, hx83⟩ : ∃ z_ : Nat, z_ = (Pk.rnum ((Pk.wst L).1) ((Pk.wst (L.take i)).1.length) 0 el72.size).1 := ⟨_, rfl⟩
              have rx83 : x83 < 18446744073709551616 := by rw [hx83]; exact (Pk.rnum_lt ((Pk.wst L).1) ((Pk.wst (L.take i)).1.length) 0 el72.size)
              have e_5_83 : e_5 83 = Value.int .u64 ((x83 : Nat) : Int) := (hAg 83 rfl).trans (by rw [hx83]; exact rfl)
              have e_5_88 : e_5 88 = Value.int .u64 ((el72.n : Nat) : Int) := (hAg 88 rfl).trans rfl
              refine L_y rfl (Y_eql (k := .u64) (a := ((x83 : Nat) : Int)) (b := ((el72.n : Nat) : Int)) e_5_83 e_5_88) ?_
              refine L_as rfl ?_
              refine L_nil ?_
              refine InB_n ?_
              refine Th_n ?_
              refine W_seq ?_
              refine W_rg ?_
              refine L_mv rfl ?_
              refine L_y rfl (Y_not (b := (((x83 : Nat) : Int) == ((el72.n : Nat) : Int))) rfl) ?_
              refine L_nil ?_
              refine Th_n ?_
              refine W_false (congrArg Value.bool (congrArg Bool.not ((by have hq := Pk.back0 hM hw0 hel72 (by omega); simp [hx83, hq]) : (((x83 : Nat) : Int) == ((el72.n : Nat) : Int)) = true))) ?_
              refine W_skip ?_
              refine InB_n ?_
              refine Th_n ?_
              refine W_rg ?_
              refine L_mv rfl ?_
              refine L_y rfl (Y_add (k := .i64) (a := ((i : Nat) : Int)) (b := ((1 : Nat) : Int)) (z := ((i + 1 : Nat) : Int)) e_5_8 rfl (wi (by omega))) ?_
              refine L_as rfl ?_
              refine L_nil ?_
              have H_17 : Hp w0 [] w_14 [Ent.blk b63 59 #[v83_, Value.int .i64 (((Pk.wst (L.take (i + 1))).1.length : Nat) : Int), Value.int .i64 ((0 : Nat) : Int)], Ent.own v83_ 5 1 ((Pk.wst L).1.length) (us .u8 ((Pk.wst L).1))] := by have h := H_16; rw [Pk.back0 hM hw0 hel72 (by omega)] at h; exact h
              refine Th_n ⟨_, ?_, (i + 1), _, rfl, e_5_0, e_5_5, e_5_7, rfl, H_17, (by omega)⟩
              omega
          ·
            have hc_8' := ne_of_beq_false hc_8
            refine W_seq ?_
            refine W_rg ?_
            refine L_y rfl (Y_eql (k := .i64) (a := el72.kind) (b := ((1 : Nat) : Int)) rfl rfl) ?_
            refine L_as rfl ?_
            refine L_nil ?_
            refine Th_n ?_
            refine W_cond (b := (el72.kind == ((1 : Nat) : Int))) rfl (fun hc_9 => ?_) (fun hc_9 => ?_)
            ·
              have hc_9' := eq_of_beq hc_9
              refine W_anyS 15 [7, 8] [7] [99] [Value.pointer (some ⟨b63, 0, none⟩), Value.slice a m c, Value.int .i64 ((i : Nat) : Int), pl a (i * 4 + 0), pl a (i * 4 + 0 + 3), Value.slice el72.a el72.m el72.c, Value.int .i64 ((el72.m : Nat) : Int), undef, Value.string (bs ((Pk.take ((Pk.wst L).1) ((Pk.wst (L.take i)).1.length) 0 ((el72.m : Nat) : Int)).1)), Value.slice a m c, Value.int .i64 ((i : Nat) : Int), pl a (i * 4 + 0), pl a (i * 4 + 0 + 3), Value.slice el72.a el72.m el72.c, Value.string (bs el72.l)] (fun w => Stay w0 w) [fun vs w => Hp w0 [] w [Ent.blk b63 59 #[vr, Value.int .i64 (((Pk.wst (L.take i)).1.length : Nat) : Int), Value.int .i64 ((0 : Nat) : Int)], Ent.own vr 5 1 ((Pk.wst L).1.length) (us .u8 ((Pk.wst L).1))], fun vs w => ∃ v99_, ∃ v99'_, vs[0]? = some (v99_) ∧ Hp w0 [] w [Ent.own v99_ 5 1 ((Pk.take ((Pk.wst L).1) ((Pk.wst (L.take i)).1.length) 0 ((el72.m : Nat) : Int)).1.length) (us .u8 ((Pk.take ((Pk.wst L).1) ((Pk.wst (L.take i)).1.length) 0 ((el72.m : Nat) : Int)).1)), Ent.blk b63 59 #[v99'_, Value.int .i64 (((Pk.take ((Pk.wst L).1) ((Pk.wst (L.take i)).1.length) 0 ((el72.m : Nat) : Int)).2.1 : Nat) : Int), Value.int .i64 (((Pk.take ((Pk.wst L).1) ((Pk.wst (L.take i)).1.length) 0 ((el72.m : Nat) : Int)).2.2 : Nat) : Int)], Ent.own v99'_ 5 1 ((Pk.wst L).1.length) (us .u8 ((Pk.wst L).1))], fun _ _ => False, fun vs w => ∃ v99_, ∃ v99'_, vs[0]? = some (v99_) ∧ Hp w0 [] w [Ent.own v99_ 5 1 ((Pk.take ((Pk.wst L).1) ((Pk.wst (L.take i)).1.length) 0 ((el72.m : Nat) : Int)).1.length) (us .u8 ((Pk.take ((Pk.wst L).1) ((Pk.wst (L.take i)).1.length) 0 ((el72.m : Nat) : Int)).1)), Ent.blk b63 59 #[v99'_, Value.int .i64 (((Pk.take ((Pk.wst L).1) ((Pk.wst (L.take i)).1.length) 0 ((el72.m : Nat) : Int)).2.1 : Nat) : Int), Value.int .i64 (((Pk.take ((Pk.wst L).1) ((Pk.wst (L.take i)).1.length) 0 ((el72.m : Nat) : Int)).2.2 : Nat) : Int)], Ent.own v99'_ 5 1 ((Pk.wst L).1.length) (us .u8 ((Pk.wst L).1))]] T_mixed (by kernel_rfl) ⟨fun _ _ H => H.stay, fun _ _ h => by obtain ⟨_, _, _, H⟩ := h; exact H.stay, fun _ _ h => h.elim, fun _ _ h => by obtain ⟨_, _, _, H⟩ := h; exact H.stay, trivial⟩ ⟨fun _ _ _ hkp H => H.keep hkp, fun _ _ _ hkp h => by obtain ⟨q0, q1, q2, H⟩ := h; exact ⟨q0, q1, q2, H.keep hkp⟩, fun _ _ _ _ h => h.elim, fun _ _ _ hkp h => by obtain ⟨q0, q1, q2, H⟩ := h; exact ⟨q0, q1, q2, H.keep hkp⟩, trivial⟩ H_15 ?_ ?_
              ·
                refine .plain rfl (Pl_y rfl (fun w hBw => congrArg (fun v => Result.ok (Next.value v) w) e_4_7)) ?_
                refine .plain rfl (Pl_y rfl (fun w hBw => congrArg (fun v => Result.ok (Next.value v) w) e_4_0)) ?_
                refine .plain rfl (Pl_y rfl (fun w hBw => congrArg (fun v => Result.ok (Next.value v) w) e_4_8)) ?_
                refine .plain rfl (Pl_y rfl (fun w hBw => Y_idxT (j := i) T_sl22 (hT.stay hBw) hel72 rfl rfl rfl)) ?_
                refine .plain rfl (Pl_y rfl (fun w hBw => Y_fldT T_fld34_3 rfl (hT.stay hBw) hel72 rfl)) ?_
                refine .plain rfl (Pl_y rfl (fun w hBw => Y_ldT (j := i) (off := 3) T_scal25 (hT.stay hBw) hel72 rfl rfl rfl)) ?_
                refine .plain rfl (Pl_y rfl (fun w hBw => Y_lenS T_sl25 rfl)) ?_
                refine .special 0 rfl (Special.of ⟨⟨⟨⟨trivial, fun _ _ _ e' w' hAg hYs => by
                    have H : Hp w0 [] w' [Ent.blk b63 59 #[vr, Value.int .i64 (((Pk.wst (L.take i)).1.length : Nat) : Int), Value.int .i64 ((0 : Nat) : Int)], Ent.own vr 5 1 ((Pk.wst L).1.length) (us .u8 ((Pk.wst L).1))] := hYs
                    exact ⟨rfl, Dn_callv T_en19 (A2 ((hAg 92 rfl).trans rfl) ((hAg 98 rfl).trans rfl)) ((dRaw ((el72.m : Nat) : Int) (by omega) hwlt (Pk.wst_le hM hw0 _) ((H.pull 1 rfl).pull 1 rfl)).mono (fun r_ w2 h => by obtain ⟨v99_, v99'_, rfl, Hn⟩ := h; exact ⟨_, rfl, ⟨v99_, v99'_, rfl, (((Hn.pull 2 rfl).pull 2 rfl).pull 2 rfl)⟩⟩))⟩⟩, fun h => absurd h (by decide)⟩, fun _ _ h => absurd (by decide) (h 1 8 rfl (by decide))⟩, fun h => absurd h (by decide)⟩) ?_
                refine .special 1 rfl (Special.ofD ⟨⟨⟨⟨trivial, fun _ h => absurd (h 0 7 rfl (by decide)) (by decide)⟩, fun _ _ _ e' w' hAg hYs => by
                    obtain ⟨v99_, v99'_, q0, H⟩ := hYs
                    exact ⟨rfl, Yl.dn (Y_strO Try.underlying25 Try.underlying5 Try.underlying9 H (i := 0) rfl (Option.some.inj q0)) ⟨(fun d hd => by cases hd; rfl), ⟨v99_, v99'_, q0, H⟩⟩⟩⟩, fun h => absurd h (by decide)⟩, fun h => absurd h (by decide)⟩) ?_
                refine .plain rfl (Pl_y rfl (fun w hBw => congrArg (fun v => Result.ok (Next.value v) w) e_4_0)) ?_
                refine .plain rfl (Pl_y rfl (fun w hBw => congrArg (fun v => Result.ok (Next.value v) w) e_4_8)) ?_
                refine .plain rfl (Pl_y rfl (fun w hBw => Y_idxT (j := i) T_sl22 (hT.stay hBw) hel72 rfl rfl rfl)) ?_
                refine .plain rfl (Pl_y rfl (fun w hBw => Y_fldT T_fld34_3 rfl (hT.stay hBw) hel72 rfl)) ?_
                refine .plain rfl (Pl_y rfl (fun w hBw => Y_ldT (j := i) (off := 3) T_scal25 (hT.stay hBw) hel72 rfl rfl rfl)) ?_
                refine .plain rfl (Pl_y rfl (fun w hBw => Y_strL Try.underlying25 Try.underlying5 Try.underlying9 rfl (gel72.sl.stay hBw))) ?_
                exact .nil _
              ·
                intro e_6 w_15 hAg hYs
                obtain ⟨v99_, v99'_, q0, H_18⟩ := hYs
                have e_6_99 : e_6 99 = v99_ := Option.some.inj q0
                have e_6_0 : e_6 0 = Value.slice a m c := (hAg 0 rfl).trans e_4_0
                have e_6_5 : e_6 5 = Value.slice a_ ((Pk.wst L).1.length) c_ := (hAg 5 rfl).trans e_4_5
                have e_6_7 : e_6 7 = Value.pointer (some ⟨b63, 0, none⟩) := (hAg 7 rfl).trans e_4_7
                have e_6_8 : e_6 8 = Value.int .i64 ((i : Nat) : Int) := (hAg 8 rfl).trans e_4_8
                have e_6_100 : e_6 100 = Value.string (bs ((Pk.take ((Pk.wst L).1) ((Pk.wst (L.take i)).1.length) 0 ((el72.m : Nat) : Int)).1)) := (hAg 100 rfl).trans rfl
                have e_6_106 : e_6 106 = Value.string (bs el72.l) := (hAg 106 rfl).trans rfl
                refine L_y rfl (Y_eqT (l1 := (Pk.take ((Pk.wst L).1) ((Pk.wst (L.take i)).1.length) 0 ((el72.m : Nat) : Int)).1) (l2 := el72.l) Try.underlying9 (Pk.take_lt hwlt) gel72.lt e_6_100 e_6_106) ?_
                refine L_as rfl ?_
                refine L_nil ?_
                refine InB_n ?_
                refine Th_n ?_
                refine W_seq ?_
                refine W_rg ?_
                refine L_mv rfl ?_
                refine L_y rfl (Y_not (b := (decide ((Pk.take ((Pk.wst L).1) ((Pk.wst (L.take i)).1.length) 0 ((el72.m : Nat) : Int)).1 = el72.l))) rfl) ?_
                refine L_nil ?_
                refine Th_n ?_
                refine W_false (congrArg Value.bool (congrArg Bool.not ((by have hq := Pk.back1 hM hw0 hel72 (by omega) lel72; simp [hq]) : (decide ((Pk.take ((Pk.wst L).1) ((Pk.wst (L.take i)).1.length) 0 ((el72.m : Nat) : Int)).1 = el72.l)) = true))) ?_
                refine W_skip ?_
                refine InB_n ?_
                refine Th_n ?_
                refine W_rg ?_
                refine L_mv rfl ?_
                refine L_y rfl (Y_add (k := .i64) (a := ((i : Nat) : Int)) (b := ((1 : Nat) : Int)) (z := ((i + 1 : Nat) : Int)) e_6_8 rfl (wi (by omega))) ?_
                refine L_as rfl ?_
                refine L_nil ?_
                have H_19 : Hp w0 [] w_15 [Ent.blk b63 59 #[v99'_, Value.int .i64 (((Pk.take ((Pk.wst L).1) ((Pk.wst (L.take i)).1.length) 0 ((el72.m : Nat) : Int)).2.1 : Nat) : Int), Value.int .i64 (((Pk.take ((Pk.wst L).1) ((Pk.wst (L.take i)).1.length) 0 ((el72.m : Nat) : Int)).2.2 : Nat) : Int)], Ent.own v99'_ 5 1 ((Pk.wst L).1.length) (us .u8 ((Pk.wst L).1))] := H_18.erase 0
                have H_20 : Hp w0 [] w_15 [Ent.blk b63 59 #[v99'_, Value.int .i64 (((Pk.wst (L.take (i + 1))).1.length : Nat) : Int), Value.int .i64 ((0 : Nat) : Int)], Ent.own v99'_ 5 1 ((Pk.wst L).1.length) (us .u8 ((Pk.wst L).1))] := by have h := H_19; rw [Pk.back1 hM hw0 hel72 (by omega) lel72] at h; exact h
                refine Th_n ⟨_, ?_, (i + 1), _, rfl, e_6_0, e_6_5, e_6_7, rfl, H_20, (by omega)⟩
                omega
            ·
              have hc_9' := ne_of_beq_false hc_9
              refine W_seq ?_
              refine W_rg ?_
              refine L_y rfl (Y_eql (k := .i64) (a := el72.kind) (b := ((2 : Nat) : Int)) rfl rfl) ?_
              refine L_as rfl ?_
              refine L_nil ?_
              refine Th_n ?_
              refine W_cond (b := (el72.kind == ((2 : Nat) : Int))) rfl (fun hc_10 => ?_) (fun hc_10 => ?_)
              ·
                have hc_10' := eq_of_beq hc_10
                refine W_anyS 9 [1, 2] [1] [111] [Value.pointer (some ⟨b63, 0, none⟩), undef, Value.string (bs ((Pk.rtxt ((Pk.wst L).1) ((Pk.wst (L.take i)).1.length) 0 ((60000 : Nat) : Int)).1)), Value.slice a m c, Value.int .i64 ((i : Nat) : Int), pl a (i * 4 + 0), pl a (i * 4 + 0 + 3), Value.slice el72.a el72.m el72.c, Value.string (bs el72.l)] (fun w => Stay w0 w) [fun vs w => Hp w0 [] w [Ent.blk b63 59 #[vr, Value.int .i64 (((Pk.wst (L.take i)).1.length : Nat) : Int), Value.int .i64 ((0 : Nat) : Int)], Ent.own vr 5 1 ((Pk.wst L).1.length) (us .u8 ((Pk.wst L).1))], fun vs w => ∃ v111_, ∃ v111'_, vs[0]? = some (v111_) ∧ Hp w0 [] w [Ent.own v111_ 5 1 ((Pk.rtxt ((Pk.wst L).1) ((Pk.wst (L.take i)).1.length) 0 ((60000 : Nat) : Int)).1.length) (us .u8 ((Pk.rtxt ((Pk.wst L).1) ((Pk.wst (L.take i)).1.length) 0 ((60000 : Nat) : Int)).1)), Ent.blk b63 59 #[v111'_, Value.int .i64 (((Pk.rtxt ((Pk.wst L).1) ((Pk.wst (L.take i)).1.length) 0 ((60000 : Nat) : Int)).2.1 : Nat) : Int), Value.int .i64 (((Pk.rtxt ((Pk.wst L).1) ((Pk.wst (L.take i)).1.length) 0 ((60000 : Nat) : Int)).2.2 : Nat) : Int)], Ent.own v111'_ 5 1 ((Pk.wst L).1.length) (us .u8 ((Pk.wst L).1))], fun _ _ => False, fun vs w => ∃ v111_, ∃ v111'_, vs[0]? = some (v111_) ∧ Hp w0 [] w [Ent.own v111_ 5 1 ((Pk.rtxt ((Pk.wst L).1) ((Pk.wst (L.take i)).1.length) 0 ((60000 : Nat) : Int)).1.length) (us .u8 ((Pk.rtxt ((Pk.wst L).1) ((Pk.wst (L.take i)).1.length) 0 ((60000 : Nat) : Int)).1)), Ent.blk b63 59 #[v111'_, Value.int .i64 (((Pk.rtxt ((Pk.wst L).1) ((Pk.wst (L.take i)).1.length) 0 ((60000 : Nat) : Int)).2.1 : Nat) : Int), Value.int .i64 (((Pk.rtxt ((Pk.wst L).1) ((Pk.wst (L.take i)).1.length) 0 ((60000 : Nat) : Int)).2.2 : Nat) : Int)], Ent.own v111'_ 5 1 ((Pk.wst L).1.length) (us .u8 ((Pk.wst L).1))]] T_mixed (by kernel_rfl) ⟨fun _ _ H => H.stay, fun _ _ h => by obtain ⟨_, _, _, H⟩ := h; exact H.stay, fun _ _ h => h.elim, fun _ _ h => by obtain ⟨_, _, _, H⟩ := h; exact H.stay, trivial⟩ ⟨fun _ _ _ hkp H => H.keep hkp, fun _ _ _ hkp h => by obtain ⟨q0, q1, q2, H⟩ := h; exact ⟨q0, q1, q2, H.keep hkp⟩, fun _ _ _ _ h => h.elim, fun _ _ _ hkp h => by obtain ⟨q0, q1, q2, H⟩ := h; exact ⟨q0, q1, q2, H.keep hkp⟩, trivial⟩ H_15 ?_ ?_
                ·
                  refine .plain rfl (Pl_y rfl (fun w hBw => congrArg (fun v => Result.ok (Next.value v) w) e_4_7)) ?_
                  refine .special 0 rfl (Special.of ⟨⟨⟨⟨trivial, fun _ _ _ e' w' hAg hYs => by
                      have H : Hp w0 [] w' [Ent.blk b63 59 #[vr, Value.int .i64 (((Pk.wst (L.take i)).1.length : Nat) : Int), Value.int .i64 ((0 : Nat) : Int)], Ent.own vr 5 1 ((Pk.wst L).1.length) (us .u8 ((Pk.wst L).1))] := hYs
                      exact ⟨rfl, Dn_callv T_en20 (A2 ((hAg 110 rfl).trans rfl) rfl) ((dText ((60000 : Nat) : Int) (by omega) hwlt (Pk.wst_le hM hw0 _) ((H.pull 1 rfl).pull 1 rfl)).mono (fun r_ w2 h => by obtain ⟨v111_, v111'_, rfl, Hn⟩ := h; exact ⟨_, rfl, ⟨v111_, v111'_, rfl, (((Hn.pull 2 rfl).pull 2 rfl).pull 2 rfl)⟩⟩))⟩⟩, fun h => absurd h (by decide)⟩, fun _ _ h => absurd (by decide) (h 1 2 rfl (by decide))⟩, fun h => absurd h (by decide)⟩) ?_
                  refine .special 1 rfl (Special.ofD ⟨⟨⟨⟨trivial, fun _ h => absurd (h 0 1 rfl (by decide)) (by decide)⟩, fun _ _ _ e' w' hAg hYs => by
                      obtain ⟨v111_, v111'_, q0, H⟩ := hYs
                      exact ⟨rfl, Yl.dn (Y_strO Try.underlying25 Try.underlying5 Try.underlying9 H (i := 0) rfl (Option.some.inj q0)) ⟨(fun d hd => by cases hd; rfl), ⟨v111_, v111'_, q0, H⟩⟩⟩⟩, fun h => absurd h (by decide)⟩, fun h => absurd h (by decide)⟩) ?_
                  refine .plain rfl (Pl_y rfl (fun w hBw => congrArg (fun v => Result.ok (Next.value v) w) e_4_0)) ?_
                  refine .plain rfl (Pl_y rfl (fun w hBw => congrArg (fun v => Result.ok (Next.value v) w) e_4_8)) ?_
                  refine .plain rfl (Pl_y rfl (fun w hBw => Y_idxT (j := i) T_sl22 (hT.stay hBw) hel72 rfl rfl rfl)) ?_
                  refine .plain rfl (Pl_y rfl (fun w hBw => Y_fldT T_fld34_3 rfl (hT.stay hBw) hel72 rfl)) ?_
                  refine .plain rfl (Pl_y rfl (fun w hBw => Y_ldT (j := i) (off := 3) T_scal25 (hT.stay hBw) hel72 rfl rfl rfl)) ?_
                  refine .plain rfl (Pl_y rfl (fun w hBw => Y_strL Try.underlying25 Try.underlying5 Try.underlying9 rfl (gel72.sl.stay hBw))) ?_
                  exact .nil _
                ·
                  intro e_7 w_16 hAg hYs
                  obtain ⟨v111_, v111'_, q0, H_21⟩ := hYs
                  have e_7_111 : e_7 111 = v111_ := Option.some.inj q0
                  have e_7_0 : e_7 0 = Value.slice a m c := (hAg 0 rfl).trans e_4_0
                  have e_7_5 : e_7 5 = Value.slice a_ ((Pk.wst L).1.length) c_ := (hAg 5 rfl).trans e_4_5
                  have e_7_7 : e_7 7 = Value.pointer (some ⟨b63, 0, none⟩) := (hAg 7 rfl).trans e_4_7
                  have e_7_8 : e_7 8 = Value.int .i64 ((i : Nat) : Int) := (hAg 8 rfl).trans e_4_8
                  have e_7_112 : e_7 112 = Value.string (bs ((Pk.rtxt ((Pk.wst L).1) ((Pk.wst (L.take i)).1.length) 0 ((60000 : Nat) : Int)).1)) := (hAg 112 rfl).trans rfl
                  have e_7_118 : e_7 118 = Value.string (bs el72.l) := (hAg 118 rfl).trans rfl
                  refine L_y rfl (Y_eqT (l1 := (Pk.rtxt ((Pk.wst L).1) ((Pk.wst (L.take i)).1.length) 0 ((60000 : Nat) : Int)).1) (l2 := el72.l) Try.underlying9 (Pk.rtxt_lt hwlt) gel72.lt e_7_112 e_7_118) ?_
                  refine L_as rfl ?_
                  refine L_nil ?_
                  refine InB_n ?_
                  refine Th_n ?_
                  refine W_seq ?_
                  refine W_rg ?_
                  refine L_mv rfl ?_
                  refine L_y rfl (Y_not (b := (decide ((Pk.rtxt ((Pk.wst L).1) ((Pk.wst (L.take i)).1.length) 0 ((60000 : Nat) : Int)).1 = el72.l))) rfl) ?_
                  refine L_nil ?_
                  refine Th_n ?_
                  refine W_false (congrArg Value.bool (congrArg Bool.not ((by have hq := Pk.back2 hM hw0 hel72 (by omega); simp only [hq]; simp) : (decide ((Pk.rtxt ((Pk.wst L).1) ((Pk.wst (L.take i)).1.length) 0 ((60000 : Nat) : Int)).1 = el72.l)) = true))) ?_
                  refine W_skip ?_
                  refine InB_n ?_
                  refine Th_n ?_
                  refine W_rg ?_
                  refine L_mv rfl ?_
                  refine L_y rfl (Y_add (k := .i64) (a := ((i : Nat) : Int)) (b := ((1 : Nat) : Int)) (z := ((i + 1 : Nat) : Int)) e_7_8 rfl (wi (by omega))) ?_
                  refine L_as rfl ?_
                  refine L_nil ?_
                  have H_22 : Hp w0 [] w_16 [Ent.blk b63 59 #[v111'_, Value.int .i64 (((Pk.rtxt ((Pk.wst L).1) ((Pk.wst (L.take i)).1.length) 0 ((60000 : Nat) : Int)).2.1 : Nat) : Int), Value.int .i64 (((Pk.rtxt ((Pk.wst L).1) ((Pk.wst (L.take i)).1.length) 0 ((60000 : Nat) : Int)).2.2 : Nat) : Int)], Ent.own v111'_ 5 1 ((Pk.wst L).1.length) (us .u8 ((Pk.wst L).1))] := H_21.erase 0
                  have H_23 : Hp w0 [] w_16 [Ent.blk b63 59 #[v111'_, Value.int .i64 (((Pk.wst (L.take (i + 1))).1.length : Nat) : Int), Value.int .i64 ((0 : Nat) : Int)], Ent.own v111'_ 5 1 ((Pk.wst L).1.length) (us .u8 ((Pk.wst L).1))] := by have h := H_22; rw [Pk.back2 hM hw0 hel72 (by omega)] at h; exact h
                  refine Th_n ⟨_, ?_, (i + 1), _, rfl, e_7_0, e_7_5, e_7_7, rfl, H_23, (by omega)⟩
                  omega
              ·
                have hc_10' := ne_of_beq_false hc_10
                refine W_skip ?_
                refine InB_n ?_
                refine Th_n ?_
                refine W_seq ?_
                refine W_rg ?_
                refine L_mv rfl ?_
                refine L_y rfl (Y_not (b := true) rfl) ?_
                refine L_nil ?_
                refine Th_n ?_
                refine W_false rfl ?_
                refine W_skip ?_
                refine InB_n ?_
                refine Th_n ?_
                refine W_rg ?_
                refine L_mv rfl ?_
                refine L_y rfl (Y_add (k := .i64) (a := ((i : Nat) : Int)) (b := ((1 : Nat) : Int)) (z := ((i + 1 : Nat) : Int)) e_4_8 rfl (wi (by omega))) ?_
                refine L_as rfl ?_
                refine L_nil ?_
                have H_24 : Hp w0 [] w_13 [Ent.blk b63 59 #[vr, Value.int .i64 (((Pk.wst (L.take (i + 1))).1.length : Nat) : Int), Value.int .i64 ((0 : Nat) : Int)], Ent.own vr 5 1 ((Pk.wst L).1.length) (us .u8 ((Pk.wst L).1))] := by have h := H_15; rw [Pk.back3 hel72 (by omega) (by omega) (by omega)]; exact h
                refine Th_n ⟨_, ?_, (i + 1), _, rfl, e_4_0, e_4_5, e_4_7, rfl, H_24, (by omega)⟩
                omega
        ·
          have hc_7' := of_decide_eq_false hc_7
          refine W_exit ?_
          refine Th_x ?_
          refine Th_x ?_
          refine InB_hit ?_
          refine Th_n ?_
          refine W_seq ?_
          refine W_rg ?_
          refine L_mv rfl ?_
          refine L_callv rfl rfl T_en17 (A1 e_4_7) (dDone (by omega) hwlt (Pk.wst_le hM hw0 _) H_15) ?_
          rintro _ w_17 ⟨rfl, H_25⟩; refine ⟨_, rfl, ?_⟩
          refine L_mv rfl ?_
          refine L_y rfl (Y_ext rfl rfl) ?_
          refine L_y rfl (Y_ext rfl rfl) ?_
          refine L_as rfl ?_
          refine L_as rfl ?_
          refine L_nil ?_
          refine Th_n ?_
          refine W_seq ?_
          refine W_rg ?_
          refine L_mv rfl ?_
          refine L_y rfl (Y_eql (k := .i64) (a := (((Pk.rdone ((Pk.wst L).1) ((Pk.wst (L.take i)).1.length) 0).1 : Nat) : Int)) (b := ((0 : Nat) : Int)) rfl rfl) ?_
          refine L_mv rfl ?_
          refine G_mv (wE rfl (congrArg Value.bool ((by simp [Pk.back_done (L := L) (i := i) (by omega)]) : ((((Pk.rdone ((Pk.wst L).1) ((Pk.wst (L.take i)).1.length) 0).1 : Nat) : Int) == ((0 : Nat) : Int)) = true))) rfl ?_
          refine G_mv (wE rfl (congrArg Value.bool ((by simp [Pk.back_done (L := L) (i := i) (by omega)]) : ((((Pk.rdone ((Pk.wst L).1) ((Pk.wst (L.take i)).1.length) 0).1 : Nat) : Int) == ((0 : Nat) : Int)) = true))) rfl ?_
          refine G_y (wE rfl (congrArg Value.bool ((by simp [Pk.back_done (L := L) (i := i) (by omega)]) : ((((Pk.rdone ((Pk.wst L).1) ((Pk.wst (L.take i)).1.length) 0).1 : Nat) : Int) == ((0 : Nat) : Int)) = true))) rfl (Y_lenS T_sl25 e_4_5) ?_
          refine G_y (wE rfl (congrArg Value.bool ((by simp [Pk.back_done (L := L) (i := i) (by omega)]) : ((((Pk.rdone ((Pk.wst L).1) ((Pk.wst (L.take i)).1.length) 0).1 : Nat) : Int) == ((0 : Nat) : Int)) = true))) rfl (Y_eql (k := .i64) (a := (((Pk.rdone ((Pk.wst L).1) ((Pk.wst (L.take i)).1.length) 0).2 : Nat) : Int)) (b := (((Pk.wst L).1.length : Nat) : Int)) rfl rfl) ?_
          refine L_y rfl (Y_pickT (congrArg Value.bool ((by simp [Pk.back_done (L := L) (i := i) (by omega)]) : ((((Pk.rdone ((Pk.wst L).1) ((Pk.wst (L.take i)).1.length) 0).1 : Nat) : Int) == ((0 : Nat) : Int)) = true))) ?_
          refine L_mv rfl ?_
          refine G_mv (wE rfl (congrArg Value.bool ((by simp [Pk.back_done (L := L) (i := i) (by omega)]) : ((((Pk.rdone ((Pk.wst L).1) ((Pk.wst (L.take i)).1.length) 0).2 : Nat) : Int) == (((Pk.wst L).1.length : Nat) : Int)) = true))) rfl ?_
          refine L_callv (wE rfl (congrArg Value.bool ((by simp [Pk.back_done (L := L) (i := i) (by omega)]) : ((((Pk.rdone ((Pk.wst L).1) ((Pk.wst (L.take i)).1.length) 0).2 : Nat) : Int) == (((Pk.wst L).1.length : Nat) : Int)) = true))) rfl T_en21 (A1 e_4_7) (dLeft2 (by omega) (Pk.wst_le hM hw0 _) H_25) ?_
          rintro _ w_18 ⟨rfl, hkp_4⟩; refine ⟨_, rfl, ?_⟩; have H_26 := H_25.keep hkp_4
          refine G_y (wE rfl (congrArg Value.bool ((by simp [Pk.back_done (L := L) (i := i) (by omega)]) : ((((Pk.rdone ((Pk.wst L).1) ((Pk.wst (L.take i)).1.length) 0).2 : Nat) : Int) == (((Pk.wst L).1.length : Nat) : Int)) = true))) rfl (Y_eql (k := .i64) (a := (((((Pk.wst L).1).length : Nat) : Int) - (((Pk.wst (L.take i)).1.length : Nat) : Int))) (b := ((0 : Nat) : Int)) rfl rfl) ?_
          refine L_y rfl (Y_pickT (congrArg Value.bool ((by simp [Pk.back_done (L := L) (i := i) (by omega)]) : ((((Pk.rdone ((Pk.wst L).1) ((Pk.wst (L.take i)).1.length) 0).2 : Nat) : Int) == (((Pk.wst L).1.length : Nat) : Int)) = true))) ?_
          refine L_mv rfl ?_
          refine L_callv (wE rfl (congrArg Value.bool ((by rw [Pk.back_left (by omega)]; rfl) : ((((((Pk.wst L).1).length : Nat) : Int) - (((Pk.wst (L.take i)).1.length : Nat) : Int)) == ((0 : Nat) : Int)) = true))) rfl T_en8 (A0) (known_n _) ?_
          rintro _ w_19 ⟨rfl, hkp_5⟩; refine ⟨_, rfl, ?_⟩; have H_27 := H_26.keep hkp_5
          refine L_y rfl (Y_pickT (congrArg Value.bool ((by rw [Pk.back_left (by omega)]; rfl) : ((((((Pk.wst L).1).length : Nat) : Int) - (((Pk.wst (L.take i)).1.length : Nat) : Int)) == ((0 : Nat) : Int)) = true))) ?_
          refine L_as rfl ?_
          refine L_nil ?_
          refine Th_n ?_
          refine W_ret ?_
          refine P_ret (vs := [Value.bool true]) (v := Value.bool true) rfl (.tmp rfl (Res.nil)) rfl ?_
          refine ⟨?_, H_27.nil_⟩
          rfl
end Go.Proofs.Ytidepfhfconkaaa
