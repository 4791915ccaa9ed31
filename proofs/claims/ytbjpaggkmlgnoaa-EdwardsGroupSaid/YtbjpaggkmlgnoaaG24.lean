/- Walks of layers 1 and 3 and of their references. Printed by edwards.py. -/
import Derived.Test.YtbjpaggkmlgnoaaG22
namespace Go.Proofs.Ytbjpaggkmlgnoaa
open Go.Ev
set_option maxRecDepth 100000
theorem T_en12 : enters Try.prog 12 = true := by kernel_rfl
theorem T_en21 : enters Try.prog 21 = true := by kernel_rfl
theorem group_n (A : Lm.Sd) (B : Lm.Sd) (D : Lm.Sd) (hA : A.y < 115792089237316195423570985008687907853269984665640564039457584007913129639936) (hB : B.y < 115792089237316195423570985008687907853269984665640564039457584007913129639936) (hD : D.y < 115792089237316195423570985008687907853269984665640564039457584007913129639936) (w0 : World) :
    Calls Try.prog 5 #[Value.agg (sd A.y A.odd), Value.agg (sd B.y B.odd), Value.agg (sd D.y D.odd)] w0 (fun r_ w' => r_ = .returned (.bool true) ∧ Keep w0 w') := by
  refine F_in Try.func5 rfl Try.ntmps5 rfl ?_
  intro e he
  have p_0 : e 0 = Value.agg (sd A.y A.odd) := he 0 _ rfl
  have p_1 : e 1 = Value.agg (sd B.y B.odd) := he 1 _ rfl
  have p_2 : e 2 = Value.agg (sd D.y D.odd) := he 2 _ rfl
  have H := Hp.start w0 []
  refine W_seq ?_
  refine W_rg ?_
  refine L_box rfl H p_0 (cs := sd A.y A.odd) rfl ?_; intro bk3 w_2 H_2
  refine L_box rfl H_2 p_1 (cs := sd B.y B.odd) rfl ?_; intro bk4 w_3 H_3
  refine L_box rfl H_3 p_2 (cs := sd D.y D.odd) rfl ?_; intro bk5 w_4 H_4
  refine L_as rfl ?_
  refine L_nil ?_
  refine Th_n ?_
  refine W_seq ?_
  refine W_rg ?_
  refine L_y rfl (Y_fld T_fld42_0 rfl rfl rfl) ?_
  refine L_y rfl (Y_sdy T_row24 H_4 (i := 2) rfl rfl) ?_
  refine L_y rfl (Y_fld T_fld42_1 rfl rfl rfl) ?_
  refine L_y rfl (Y_ld T_scal4 H_4 (i := 2) rfl rfl rfl) ?_
  refine L_callv rfl rfl T_en9 (A2 rfl rfl) ((at4_n A.y A.odd hA _).mono (fun r_ w' h => (⟨Lm.at4 A.y A.odd, Lm.at4b A.y A.odd, rfl, rfl, h⟩ : ∃ (P22 : Lm.P4) (q22 : Bool), P22 = Lm.at4 A.y A.odd ∧ q22 = Lm.at4b A.y A.odd ∧ r_ = .returned (Value.tuple #[Value.agg (ua .u64 (Lm.l4 P22)), Value.bool q22]) ∧ Keep w_4 w'))) ?_
  rintro _ w_5 ⟨P22, q22, hP22, hq22, rfl, hkp⟩; refine ⟨_, rfl, ?_⟩; have H_5 := H_4.keep hkp
  have okP22 : P22.ok := by rw [hP22]; exact Lm.at4_ok _ _
  refine L_mv rfl ?_
  refine L_y rfl (Y_ext rfl rfl) ?_
  refine L_y rfl (Y_ext rfl rfl) ?_
  refine L_alloc rfl H_5 T_zero26 ?_; intro bk7 w_6 H_6
  refine L_str (ds := ua .u64 (Lm.l4 P22)) T_row26 H_6 (i := 0) rfl rfl rfl (by rw [ua_size]; exact (Lm.l4_wd ⟨0, 0, 0, 0⟩).1) (by rw [ua_size]; exact (Lm.l4_wd P22).1) (ua_one _ _) (l' := [.blk bk7 26 (ua .u64 (Lm.l4 P22)), .blk bk5 42 (sd D.y D.odd), .blk bk4 42 (sd B.y B.odd), .blk bk3 42 (sd A.y A.odd)]) rfl ?_; intro w_7 H_7
  refine L_as rfl ?_
  refine L_nil ?_
  refine Th_n ?_
  refine W_seq ?_
  refine W_rg ?_
  refine L_y rfl (Y_fld T_fld42_0 rfl rfl rfl) ?_
  refine L_y rfl (Y_sdy T_row24 H_7 (i := 2) rfl rfl) ?_
  refine L_y rfl (Y_fld T_fld42_1 rfl rfl rfl) ?_
  refine L_y rfl (Y_ld T_scal4 H_7 (i := 2) rfl rfl rfl) ?_
  refine L_callv rfl rfl T_en9 (A2 rfl rfl) ((at4_n B.y B.odd hB _).mono (fun r_ w' h => (⟨Lm.at4 B.y B.odd, Lm.at4b B.y B.odd, rfl, rfl, h⟩ : ∃ (P30 : Lm.P4) (q30 : Bool), P30 = Lm.at4 B.y B.odd ∧ q30 = Lm.at4b B.y B.odd ∧ r_ = .returned (Value.tuple #[Value.agg (ua .u64 (Lm.l4 P30)), Value.bool q30]) ∧ Keep w_7 w'))) ?_
  rintro _ w_8 ⟨P30, q30, hP30, hq30, rfl, hkp_2⟩; refine ⟨_, rfl, ?_⟩; have H_8 := H_7.keep hkp_2
  have okP30 : P30.ok := by rw [hP30]; exact Lm.at4_ok _ _
  refine L_mv rfl ?_
  refine L_y rfl (Y_ext rfl rfl) ?_
  refine L_y rfl (Y_ext rfl rfl) ?_
  refine L_alloc rfl H_8 T_zero26 ?_; intro bk9 w_9 H_9
  refine L_str (ds := ua .u64 (Lm.l4 P30)) T_row26 H_9 (i := 0) rfl rfl rfl (by rw [ua_size]; exact (Lm.l4_wd ⟨0, 0, 0, 0⟩).1) (by rw [ua_size]; exact (Lm.l4_wd P30).1) (ua_one _ _) (l' := [.blk bk9 26 (ua .u64 (Lm.l4 P30)), .blk bk7 26 (ua .u64 (Lm.l4 P22)), .blk bk5 42 (sd D.y D.odd), .blk bk4 42 (sd B.y B.odd), .blk bk3 42 (sd A.y A.odd)]) rfl ?_; intro w_10 H_10
  refine L_as rfl ?_
  refine L_nil ?_
  refine Th_n ?_
  refine W_seq ?_
  refine W_rg ?_
  refine L_y rfl (Y_fld T_fld42_0 rfl rfl rfl) ?_
  refine L_y rfl (Y_sdy T_row24 H_10 (i := 2) rfl rfl) ?_
  refine L_y rfl (Y_fld T_fld42_1 rfl rfl rfl) ?_
  refine L_y rfl (Y_ld T_scal4 H_10 (i := 2) rfl rfl rfl) ?_
  refine L_callv rfl rfl T_en9 (A2 rfl rfl) ((at4_n D.y D.odd hD _).mono (fun r_ w' h => (⟨Lm.at4 D.y D.odd, Lm.at4b D.y D.odd, rfl, rfl, h⟩ : ∃ (P38 : Lm.P4) (q38 : Bool), P38 = Lm.at4 D.y D.odd ∧ q38 = Lm.at4b D.y D.odd ∧ r_ = .returned (Value.tuple #[Value.agg (ua .u64 (Lm.l4 P38)), Value.bool q38]) ∧ Keep w_10 w'))) ?_
  rintro _ w_11 ⟨P38, q38, hP38, hq38, rfl, hkp_3⟩; refine ⟨_, rfl, ?_⟩; have H_11 := H_10.keep hkp_3
  have okP38 : P38.ok := by rw [hP38]; exact Lm.at4_ok _ _
  refine L_mv rfl ?_
  refine L_y rfl (Y_ext rfl rfl) ?_
  refine L_y rfl (Y_ext rfl rfl) ?_
  refine L_alloc rfl H_11 T_zero26 ?_; intro bk11 w_12 H_12
  refine L_str (ds := ua .u64 (Lm.l4 P38)) T_row26 H_12 (i := 0) rfl rfl rfl (by rw [ua_size]; exact (Lm.l4_wd ⟨0, 0, 0, 0⟩).1) (by rw [ua_size]; exact (Lm.l4_wd P38).1) (ua_one _ _) (l' := [.blk bk11 26 (ua .u64 (Lm.l4 P38)), .blk bk9 26 (ua .u64 (Lm.l4 P30)), .blk bk7 26 (ua .u64 (Lm.l4 P22)), .blk bk5 42 (sd D.y D.odd), .blk bk4 42 (sd B.y B.odd), .blk bk3 42 (sd A.y A.odd)]) rfl ?_; intro w_13 H_13
  refine L_as rfl ?_
  refine L_nil ?_
  refine Th_n ?_
  refine W_seq ?_
  refine W_seq ?_
  refine W_rg ?_
  refine L_mv rfl ?_
  refine L_y rfl (Y_not (b := q22) rfl) ?_
  refine L_mv rfl ?_
  rcases Bool.eq_false_or_eq_true (!q22) with hb | hb
  ·
    refine G_no (wN (b := false) rfl (congrArg Value.bool hb)) rfl ?_
    refine G_no (wN (b := false) rfl (congrArg Value.bool hb)) rfl ?_
    refine L_y rfl (Y_pickT (congrArg Value.bool hb)) ?_
    refine L_mv rfl ?_
    refine G_no (wN (b := false) rfl rfl) rfl ?_
    refine G_no (wN (b := false) rfl rfl) rfl ?_
    refine L_y rfl (Y_pickT rfl) ?_
    refine L_nil ?_
    refine Th_n ?_
    refine W_true rfl ?_
    refine W_seq ?_
    refine W_rg ?_
    refine L_callv rfl rfl T_en12 (A0) (known_n _) ?_
    rintro _ w_14 ⟨rfl, hkp_4⟩; refine ⟨_, rfl, ?_⟩; have H_14 := H_13.keep hkp_4
    refine L_as rfl ?_
    refine L_nil ?_
    refine Th_n ?_
    refine W_ret ?_
    refine Th_r ?_
    refine P_ret (vs := [Value.bool true]) (v := Value.bool true) rfl (.tmp rfl (Res.nil)) rfl ?_
    refine ⟨?_, H_14.nil_⟩
    rfl
  ·
    refine G_mv (wE rfl (congrArg Value.bool hb)) rfl ?_
    refine G_y (wE rfl (congrArg Value.bool hb)) rfl (Y_not (b := q30) rfl) ?_
    refine L_y rfl (Y_pickF (congrArg Value.bool hb)) ?_
    refine L_mv rfl ?_
    rcases Bool.eq_false_or_eq_true (!q30) with hb_2 | hb_2
    ·
      refine G_no (wN (b := false) rfl (congrArg Value.bool hb_2)) rfl ?_
      refine G_no (wN (b := false) rfl (congrArg Value.bool hb_2)) rfl ?_
      refine L_y rfl (Y_pickT (congrArg Value.bool hb_2)) ?_
      refine L_nil ?_
      refine Th_n ?_
      refine W_true rfl ?_
      refine W_seq ?_
      refine W_rg ?_
      refine L_callv rfl rfl T_en12 (A0) (known_n _) ?_
      rintro _ w_15 ⟨rfl, hkp_5⟩; refine ⟨_, rfl, ?_⟩; have H_15 := H_13.keep hkp_5
      refine L_as rfl ?_
      refine L_nil ?_
      refine Th_n ?_
      refine W_ret ?_
      refine Th_r ?_
      refine P_ret (vs := [Value.bool true]) (v := Value.bool true) rfl (.tmp rfl (Res.nil)) rfl ?_
      refine ⟨?_, H_15.nil_⟩
      rfl
    ·
      refine G_mv (wE rfl (congrArg Value.bool hb_2)) rfl ?_
      refine G_y (wE rfl (congrArg Value.bool hb_2)) rfl (Y_not (b := q38) rfl) ?_
      refine L_y rfl (Y_pickF (congrArg Value.bool hb_2)) ?_
      refine L_nil ?_
      refine Th_n ?_
      refine W_cond (b := (!q38)) rfl (fun hc => ?_) (fun hc => ?_)
      ·
        refine W_seq ?_
        refine W_rg ?_
        refine L_callv rfl rfl T_en12 (A0) (known_n _) ?_
        rintro _ w_16 ⟨rfl, hkp_6⟩; refine ⟨_, rfl, ?_⟩; have H_16 := H_13.keep hkp_6
        refine L_as rfl ?_
        refine L_nil ?_
        refine Th_n ?_
        refine W_ret ?_
        refine Th_r ?_
        refine P_ret (vs := [Value.bool true]) (v := Value.bool true) rfl (.tmp rfl (Res.nil)) rfl ?_
        refine ⟨?_, H_16.nil_⟩
        rfl
      ·
        refine W_skip ?_
        refine Th_n ?_
        refine W_seq ?_
        refine W_anyL 8 [6, 7] [13, 14] [Value.agg (ua .u64 (Lm.l4 P22)), Value.agg (ua .u64 (Lm.l4 P30)), Value.agg (ua .u64 (Lm.l4 (Lm.sum4 P22 P30 Lm.tw))), Value.agg (ua .u64 (Lm.l4 P30)), Value.agg (ua .u64 (Lm.l4 P22)), Value.agg (ua .u64 (Lm.l4 (Lm.sum4 P30 P22 Lm.tw))), undef, undef] (fun w => w.heap[bk11]? = some (.cells (ua .u64 (Lm.l4 P38)) 26 (0, 0)) ∧ w.heap[bk9]? = some (.cells (ua .u64 (Lm.l4 P30)) 26 (0, 0)) ∧ w.heap[bk7]? = some (.cells (ua .u64 (Lm.l4 P22)) 26 (0, 0)) ∧ w.heap[bk5]? = some (.cells (sd D.y D.odd) 42 (0, 0)) ∧ w.heap[bk4]? = some (.cells (sd B.y B.odd) 42 (0, 0)) ∧ w.heap[bk3]? = some (.cells (sd A.y A.odd) 42 (0, 0))) [fun vs w => Hp w0 [] w [.blk bk11 26 (ua .u64 (Lm.l4 P38)), .blk bk9 26 (ua .u64 (Lm.l4 P30)), .blk bk7 26 (ua .u64 (Lm.l4 P22)), .blk bk5 42 (sd D.y D.odd), .blk bk4 42 (sd B.y B.odd), .blk bk3 42 (sd A.y A.odd)], fun vs w => ∃ bk13_, vs[0]? = some (Value.pointer (some ⟨bk13_, 0, none⟩)) ∧ Hp w0 [] w [Ent.blk bk13_ 26 (ua .u64 (Lm.l4 ⟨0, 0, 0, 0⟩)), .blk bk11 26 (ua .u64 (Lm.l4 P38)), .blk bk9 26 (ua .u64 (Lm.l4 P30)), .blk bk7 26 (ua .u64 (Lm.l4 P22)), .blk bk5 42 (sd D.y D.odd), .blk bk4 42 (sd B.y B.odd), .blk bk3 42 (sd A.y A.odd)], fun vs w => ∃ bk14_, vs[1]? = some (Value.pointer (some ⟨bk14_, 0, none⟩)) ∧ Hp w0 [] w [Ent.blk bk14_ 26 (ua .u64 (Lm.l4 ⟨0, 0, 0, 0⟩)), .blk bk11 26 (ua .u64 (Lm.l4 P38)), .blk bk9 26 (ua .u64 (Lm.l4 P30)), .blk bk7 26 (ua .u64 (Lm.l4 P22)), .blk bk5 42 (sd D.y D.odd), .blk bk4 42 (sd B.y B.odd), .blk bk3 42 (sd A.y A.odd)], fun vs w => ∃ bk13_, ∃ bk14_, vs[0]? = some (Value.pointer (some ⟨bk13_, 0, none⟩)) ∧ vs[1]? = some (Value.pointer (some ⟨bk14_, 0, none⟩)) ∧ Hp w0 [] w [Ent.blk bk13_ 26 (ua .u64 (Lm.l4 ⟨0, 0, 0, 0⟩)), Ent.blk bk14_ 26 (ua .u64 (Lm.l4 ⟨0, 0, 0, 0⟩)), .blk bk11 26 (ua .u64 (Lm.l4 P38)), .blk bk9 26 (ua .u64 (Lm.l4 P30)), .blk bk7 26 (ua .u64 (Lm.l4 P22)), .blk bk5 42 (sd D.y D.odd), .blk bk4 42 (sd B.y B.odd), .blk bk3 42 (sd A.y A.odd)]] T_mixed (by kernel_rfl) ⟨fun _ _ H => ⟨H.get 0 rfl, H.get 1 rfl, H.get 2 rfl, H.get 3 rfl, H.get 4 rfl, H.get 5 rfl⟩, fun _ _ h => by obtain ⟨_, _, H⟩ := h; exact ⟨H.get 1 rfl, H.get 2 rfl, H.get 3 rfl, H.get 4 rfl, H.get 5 rfl, H.get 6 rfl⟩, fun _ _ h => by obtain ⟨_, _, H⟩ := h; exact ⟨H.get 1 rfl, H.get 2 rfl, H.get 3 rfl, H.get 4 rfl, H.get 5 rfl, H.get 6 rfl⟩, fun _ _ h => by obtain ⟨_, _, _, _, H⟩ := h; exact ⟨H.get 2 rfl, H.get 3 rfl, H.get 4 rfl, H.get 5 rfl, H.get 6 rfl, H.get 7 rfl⟩, trivial⟩ ⟨fun _ _ _ hkp H => H.keep hkp, fun _ _ _ hkp h => by obtain ⟨q0, q1, H⟩ := h; exact ⟨q0, q1, H.keep hkp⟩, fun _ _ _ hkp h => by obtain ⟨q0, q1, H⟩ := h; exact ⟨q0, q1, H.keep hkp⟩, fun _ _ _ hkp h => by obtain ⟨q0, q1, q2, q3, H⟩ := h; exact ⟨q0, q1, q2, q3, H.keep hkp⟩, trivial⟩ H_13 ?_ ?_
        ·
          refine .plain rfl (Pl_y rfl (fun w hBw => Y_ldrb T_row26 hBw.2.2.1 rfl (by rw [ua_size]; exact (Lm.l4_wd P22).1))) ?_
          refine .plain rfl (Pl_y rfl (fun w hBw => Y_ldrb T_row26 hBw.2.1 rfl (by rw [ua_size]; exact (Lm.l4_wd P30).1))) ?_
          refine .plain rfl (Pl_c rfl T_en17 (A2 rfl rfl) (fun w hBw => addp_n P22 P30 okP22 okP30 _)) ?_
          refine .plain rfl (Pl_y rfl (fun w hBw => Y_ldrb T_row26 hBw.2.1 rfl (by rw [ua_size]; exact (Lm.l4_wd P30).1))) ?_
          refine .plain rfl (Pl_y rfl (fun w hBw => Y_ldrb T_row26 hBw.2.2.1 rfl (by rw [ua_size]; exact (Lm.l4_wd P22).1))) ?_
          refine .plain rfl (Pl_c rfl T_en17 (A2 rfl rfl) (fun w hBw => addp_n P30 P22 okP30 okP22 _)) ?_
          refine .special 0 rfl (Special.of ⟨⟨⟨⟨trivial, fun _ _ _ e' w' hAg hYs => by
              have H : Hp w0 [] w' [.blk bk11 26 (ua .u64 (Lm.l4 P38)), .blk bk9 26 (ua .u64 (Lm.l4 P30)), .blk bk7 26 (ua .u64 (Lm.l4 P22)), .blk bk5 42 (sd D.y D.odd), .blk bk4 42 (sd B.y B.odd), .blk bk3 42 (sd A.y A.odd)] := hYs
              exact ⟨rfl, Dn_alloc H T_zero26 (fun b w2 Hn => ⟨_, rfl, Hn⟩)⟩⟩, fun h => absurd h (by decide)⟩, fun _ _ _ e' w' hAg hYs => by
              obtain ⟨bk14_, q1, H⟩ := hYs
              exact ⟨rfl, Dn_alloc H T_zero26 (fun b w2 Hn => ⟨_, bk14_, rfl, q1, Hn⟩)⟩⟩, fun h => absurd h (by decide)⟩) ?_
          refine .special 1 rfl (Special.of ⟨⟨⟨⟨trivial, fun _ _ _ e' w' hAg hYs => by
              have H : Hp w0 [] w' [.blk bk11 26 (ua .u64 (Lm.l4 P38)), .blk bk9 26 (ua .u64 (Lm.l4 P30)), .blk bk7 26 (ua .u64 (Lm.l4 P22)), .blk bk5 42 (sd D.y D.odd), .blk bk4 42 (sd B.y B.odd), .blk bk3 42 (sd A.y A.odd)] := hYs
              exact ⟨rfl, Dn_alloc H T_zero26 (fun b w2 Hn => ⟨_, rfl, Hn⟩)⟩⟩, fun _ _ _ e' w' hAg hYs => by
              obtain ⟨bk13_, q0, H⟩ := hYs
              exact ⟨rfl, Dn_alloc H T_zero26 (fun b w2 Hn => ⟨bk13_, _, q0, rfl, Hn.swap⟩)⟩⟩, fun h => absurd h (by decide)⟩, fun h => absurd h (by decide)⟩) ?_
          exact .nil _
        ·
          intro e_2 w_17 hAg hYs
          obtain ⟨bk13_, bk14_, q0, q1, H_17⟩ := hYs
          have e_2_13 : e_2 13 = Value.pointer (some ⟨bk13_, 0, none⟩) := Option.some.inj q0
          have e_2_14 : e_2 14 = Value.pointer (some ⟨bk14_, 0, none⟩) := Option.some.inj q1
          have e_2_7 : e_2 7 = Value.pointer (some ⟨bk7, 0, none⟩) := (hAg 7 rfl).trans rfl
          have e_2_9 : e_2 9 = Value.pointer (some ⟨bk9, 0, none⟩) := (hAg 9 rfl).trans rfl
          have e_2_11 : e_2 11 = Value.pointer (some ⟨bk11, 0, none⟩) := (hAg 11 rfl).trans rfl
          have e_2_54 : e_2 54 = Value.agg (ua .u64 (Lm.l4 (Lm.sum4 P22 P30 Lm.tw))) := (hAg 54 rfl).trans rfl
          have e_2_57 : e_2 57 = Value.agg (ua .u64 (Lm.l4 (Lm.sum4 P30 P22 Lm.tw))) := (hAg 57 rfl).trans rfl
          refine L_str (ds := ua .u64 (Lm.l4 (Lm.sum4 P22 P30 Lm.tw))) T_row26 H_17 (i := 0) rfl e_2_13 e_2_54 (by rw [ua_size]; exact (Lm.l4_wd ⟨0, 0, 0, 0⟩).1) (by rw [ua_size]; exact (Lm.l4_wd (Lm.sum4 P22 P30 Lm.tw)).1) (ua_one _ _) (l' := [.blk bk13_ 26 (ua .u64 (Lm.l4 (Lm.sum4 P22 P30 Lm.tw))), .blk bk14_ 26 (ua .u64 (Lm.l4 ⟨0, 0, 0, 0⟩)), .blk bk11 26 (ua .u64 (Lm.l4 P38)), .blk bk9 26 (ua .u64 (Lm.l4 P30)), .blk bk7 26 (ua .u64 (Lm.l4 P22)), .blk bk5 42 (sd D.y D.odd), .blk bk4 42 (sd B.y B.odd), .blk bk3 42 (sd A.y A.odd)]) rfl ?_; intro w_18 H_18
          refine L_str (ds := ua .u64 (Lm.l4 (Lm.sum4 P30 P22 Lm.tw))) T_row26 H_18 (i := 1) rfl e_2_14 e_2_57 (by rw [ua_size]; exact (Lm.l4_wd ⟨0, 0, 0, 0⟩).1) (by rw [ua_size]; exact (Lm.l4_wd (Lm.sum4 P30 P22 Lm.tw)).1) (ua_one _ _) (l' := [.blk bk13_ 26 (ua .u64 (Lm.l4 (Lm.sum4 P22 P30 Lm.tw))), .blk bk14_ 26 (ua .u64 (Lm.l4 (Lm.sum4 P30 P22 Lm.tw))), .blk bk11 26 (ua .u64 (Lm.l4 P38)), .blk bk9 26 (ua .u64 (Lm.l4 P30)), .blk bk7 26 (ua .u64 (Lm.l4 P22)), .blk bk5 42 (sd D.y D.odd), .blk bk4 42 (sd B.y B.odd), .blk bk3 42 (sd A.y A.odd)]) rfl ?_; intro w_19 H_19
          refine L_nil ?_
          refine Th_n ?_
          refine W_seq ?_
          refine W_anyL 10 [8, 9] [15, 16] [Value.agg (ua .u64 (Lm.l4 (Lm.sum4 P22 P30 Lm.tw))), Value.agg (ua .u64 (Lm.l4 P38)), Value.agg (ua .u64 (Lm.l4 (Lm.sum4 (Lm.sum4 P22 P30 Lm.tw) P38 Lm.tw))), Value.agg (ua .u64 (Lm.l4 P22)), Value.agg (ua .u64 (Lm.l4 P30)), Value.agg (ua .u64 (Lm.l4 P38)), Value.agg (ua .u64 (Lm.l4 (Lm.sum4 P30 P38 Lm.tw))), Value.agg (ua .u64 (Lm.l4 (Lm.sum4 P22 (Lm.sum4 P30 P38 Lm.tw) Lm.tw))), undef, undef] (fun w => w.heap[bk13_]? = some (.cells (ua .u64 (Lm.l4 (Lm.sum4 P22 P30 Lm.tw))) 26 (0, 0)) ∧ w.heap[bk14_]? = some (.cells (ua .u64 (Lm.l4 (Lm.sum4 P30 P22 Lm.tw))) 26 (0, 0)) ∧ w.heap[bk11]? = some (.cells (ua .u64 (Lm.l4 P38)) 26 (0, 0)) ∧ w.heap[bk9]? = some (.cells (ua .u64 (Lm.l4 P30)) 26 (0, 0)) ∧ w.heap[bk7]? = some (.cells (ua .u64 (Lm.l4 P22)) 26 (0, 0)) ∧ w.heap[bk5]? = some (.cells (sd D.y D.odd) 42 (0, 0)) ∧ w.heap[bk4]? = some (.cells (sd B.y B.odd) 42 (0, 0)) ∧ w.heap[bk3]? = some (.cells (sd A.y A.odd) 42 (0, 0))) [fun vs w => Hp w0 [] w [.blk bk13_ 26 (ua .u64 (Lm.l4 (Lm.sum4 P22 P30 Lm.tw))), .blk bk14_ 26 (ua .u64 (Lm.l4 (Lm.sum4 P30 P22 Lm.tw))), .blk bk11 26 (ua .u64 (Lm.l4 P38)), .blk bk9 26 (ua .u64 (Lm.l4 P30)), .blk bk7 26 (ua .u64 (Lm.l4 P22)), .blk bk5 42 (sd D.y D.odd), .blk bk4 42 (sd B.y B.odd), .blk bk3 42 (sd A.y A.odd)], fun vs w => ∃ bk15_, vs[0]? = some (Value.pointer (some ⟨bk15_, 0, none⟩)) ∧ Hp w0 [] w [Ent.blk bk15_ 26 (ua .u64 (Lm.l4 ⟨0, 0, 0, 0⟩)), .blk bk13_ 26 (ua .u64 (Lm.l4 (Lm.sum4 P22 P30 Lm.tw))), .blk bk14_ 26 (ua .u64 (Lm.l4 (Lm.sum4 P30 P22 Lm.tw))), .blk bk11 26 (ua .u64 (Lm.l4 P38)), .blk bk9 26 (ua .u64 (Lm.l4 P30)), .blk bk7 26 (ua .u64 (Lm.l4 P22)), .blk bk5 42 (sd D.y D.odd), .blk bk4 42 (sd B.y B.odd), .blk bk3 42 (sd A.y A.odd)], fun vs w => ∃ bk16_, vs[1]? = some (Value.pointer (some ⟨bk16_, 0, none⟩)) ∧ Hp w0 [] w [Ent.blk bk16_ 26 (ua .u64 (Lm.l4 ⟨0, 0, 0, 0⟩)), .blk bk13_ 26 (ua .u64 (Lm.l4 (Lm.sum4 P22 P30 Lm.tw))), .blk bk14_ 26 (ua .u64 (Lm.l4 (Lm.sum4 P30 P22 Lm.tw))), .blk bk11 26 (ua .u64 (Lm.l4 P38)), .blk bk9 26 (ua .u64 (Lm.l4 P30)), .blk bk7 26 (ua .u64 (Lm.l4 P22)), .blk bk5 42 (sd D.y D.odd), .blk bk4 42 (sd B.y B.odd), .blk bk3 42 (sd A.y A.odd)], fun vs w => ∃ bk15_, ∃ bk16_, vs[0]? = some (Value.pointer (some ⟨bk15_, 0, none⟩)) ∧ vs[1]? = some (Value.pointer (some ⟨bk16_, 0, none⟩)) ∧ Hp w0 [] w [Ent.blk bk15_ 26 (ua .u64 (Lm.l4 ⟨0, 0, 0, 0⟩)), Ent.blk bk16_ 26 (ua .u64 (Lm.l4 ⟨0, 0, 0, 0⟩)), .blk bk13_ 26 (ua .u64 (Lm.l4 (Lm.sum4 P22 P30 Lm.tw))), .blk bk14_ 26 (ua .u64 (Lm.l4 (Lm.sum4 P30 P22 Lm.tw))), .blk bk11 26 (ua .u64 (Lm.l4 P38)), .blk bk9 26 (ua .u64 (Lm.l4 P30)), .blk bk7 26 (ua .u64 (Lm.l4 P22)), .blk bk5 42 (sd D.y D.odd), .blk bk4 42 (sd B.y B.odd), .blk bk3 42 (sd A.y A.odd)]] T_mixed (by kernel_rfl) ⟨fun _ _ H => ⟨H.get 0 rfl, H.get 1 rfl, H.get 2 rfl, H.get 3 rfl, H.get 4 rfl, H.get 5 rfl, H.get 6 rfl, H.get 7 rfl⟩, fun _ _ h => by obtain ⟨_, _, H⟩ := h; exact ⟨H.get 1 rfl, H.get 2 rfl, H.get 3 rfl, H.get 4 rfl, H.get 5 rfl, H.get 6 rfl, H.get 7 rfl, H.get 8 rfl⟩, fun _ _ h => by obtain ⟨_, _, H⟩ := h; exact ⟨H.get 1 rfl, H.get 2 rfl, H.get 3 rfl, H.get 4 rfl, H.get 5 rfl, H.get 6 rfl, H.get 7 rfl, H.get 8 rfl⟩, fun _ _ h => by obtain ⟨_, _, _, _, H⟩ := h; exact ⟨H.get 2 rfl, H.get 3 rfl, H.get 4 rfl, H.get 5 rfl, H.get 6 rfl, H.get 7 rfl, H.get 8 rfl, H.get 9 rfl⟩, trivial⟩ ⟨fun _ _ _ hkp H => H.keep hkp, fun _ _ _ hkp h => by obtain ⟨q0, q1, H⟩ := h; exact ⟨q0, q1, H.keep hkp⟩, fun _ _ _ hkp h => by obtain ⟨q0, q1, H⟩ := h; exact ⟨q0, q1, H.keep hkp⟩, fun _ _ _ hkp h => by obtain ⟨q0, q1, q2, q3, H⟩ := h; exact ⟨q0, q1, q2, q3, H.keep hkp⟩, trivial⟩ H_19 ?_ ?_
          ·
            refine .plain rfl (Pl_y rfl (fun w hBw => Y_ldrb T_row26 hBw.1 e_2_13 (by rw [ua_size]; exact (Lm.l4_wd (Lm.sum4 P22 P30 Lm.tw)).1))) ?_
            refine .plain rfl (Pl_y rfl (fun w hBw => Y_ldrb T_row26 hBw.2.2.1 e_2_11 (by rw [ua_size]; exact (Lm.l4_wd P38).1))) ?_
            refine .plain rfl (Pl_c rfl T_en17 (A2 rfl rfl) (fun w hBw => addp_n (Lm.sum4 P22 P30 Lm.tw) P38 (Lm.sum4_ok _ _ _) okP38 _)) ?_
            refine .plain rfl (Pl_y rfl (fun w hBw => Y_ldrb T_row26 hBw.2.2.2.2.1 e_2_7 (by rw [ua_size]; exact (Lm.l4_wd P22).1))) ?_
            refine .plain rfl (Pl_y rfl (fun w hBw => Y_ldrb T_row26 hBw.2.2.2.1 e_2_9 (by rw [ua_size]; exact (Lm.l4_wd P30).1))) ?_
            refine .plain rfl (Pl_y rfl (fun w hBw => Y_ldrb T_row26 hBw.2.2.1 e_2_11 (by rw [ua_size]; exact (Lm.l4_wd P38).1))) ?_
            refine .plain rfl (Pl_c rfl T_en17 (A2 rfl rfl) (fun w hBw => addp_n P30 P38 okP30 okP38 _)) ?_
            refine .plain rfl (Pl_c rfl T_en17 (A2 rfl rfl) (fun w hBw => addp_n P22 (Lm.sum4 P30 P38 Lm.tw) okP22 (Lm.sum4_ok _ _ _) _)) ?_
            refine .special 0 rfl (Special.of ⟨⟨⟨⟨trivial, fun _ _ _ e' w' hAg hYs => by
                have H : Hp w0 [] w' [.blk bk13_ 26 (ua .u64 (Lm.l4 (Lm.sum4 P22 P30 Lm.tw))), .blk bk14_ 26 (ua .u64 (Lm.l4 (Lm.sum4 P30 P22 Lm.tw))), .blk bk11 26 (ua .u64 (Lm.l4 P38)), .blk bk9 26 (ua .u64 (Lm.l4 P30)), .blk bk7 26 (ua .u64 (Lm.l4 P22)), .blk bk5 42 (sd D.y D.odd), .blk bk4 42 (sd B.y B.odd), .blk bk3 42 (sd A.y A.odd)] := hYs
                exact ⟨rfl, Dn_alloc H T_zero26 (fun b w2 Hn => ⟨_, rfl, Hn⟩)⟩⟩, fun h => absurd h (by decide)⟩, fun _ _ _ e' w' hAg hYs => by
                obtain ⟨bk16_, q1, H⟩ := hYs
                exact ⟨rfl, Dn_alloc H T_zero26 (fun b w2 Hn => ⟨_, bk16_, rfl, q1, Hn⟩)⟩⟩, fun h => absurd h (by decide)⟩) ?_
            refine .special 1 rfl (Special.of ⟨⟨⟨⟨trivial, fun _ _ _ e' w' hAg hYs => by
                have H : Hp w0 [] w' [.blk bk13_ 26 (ua .u64 (Lm.l4 (Lm.sum4 P22 P30 Lm.tw))), .blk bk14_ 26 (ua .u64 (Lm.l4 (Lm.sum4 P30 P22 Lm.tw))), .blk bk11 26 (ua .u64 (Lm.l4 P38)), .blk bk9 26 (ua .u64 (Lm.l4 P30)), .blk bk7 26 (ua .u64 (Lm.l4 P22)), .blk bk5 42 (sd D.y D.odd), .blk bk4 42 (sd B.y B.odd), .blk bk3 42 (sd A.y A.odd)] := hYs
                exact ⟨rfl, Dn_alloc H T_zero26 (fun b w2 Hn => ⟨_, rfl, Hn⟩)⟩⟩, fun _ _ _ e' w' hAg hYs => by
                obtain ⟨bk15_, q0, H⟩ := hYs
                exact ⟨rfl, Dn_alloc H T_zero26 (fun b w2 Hn => ⟨bk15_, _, q0, rfl, Hn.swap⟩)⟩⟩, fun h => absurd h (by decide)⟩, fun h => absurd h (by decide)⟩) ?_
            exact .nil _
          ·
            intro e_3 w_20 hAg hYs
            obtain ⟨bk15_, bk16_, q0, q1, H_20⟩ := hYs
            have e_3_15 : e_3 15 = Value.pointer (some ⟨bk15_, 0, none⟩) := Option.some.inj q0
            have e_3_16 : e_3 16 = Value.pointer (some ⟨bk16_, 0, none⟩) := Option.some.inj q1
            have e_3_7 : e_3 7 = Value.pointer (some ⟨bk7, 0, none⟩) := (hAg 7 rfl).trans e_2_7
            have e_3_9 : e_3 9 = Value.pointer (some ⟨bk9, 0, none⟩) := (hAg 9 rfl).trans e_2_9
            have e_3_13 : e_3 13 = Value.pointer (some ⟨bk13_, 0, none⟩) := (hAg 13 rfl).trans e_2_13
            have e_3_14 : e_3 14 = Value.pointer (some ⟨bk14_, 0, none⟩) := (hAg 14 rfl).trans e_2_14
            have e_3_60 : e_3 60 = Value.agg (ua .u64 (Lm.l4 (Lm.sum4 (Lm.sum4 P22 P30 Lm.tw) P38 Lm.tw))) := (hAg 60 rfl).trans rfl
            have e_3_65 : e_3 65 = Value.agg (ua .u64 (Lm.l4 (Lm.sum4 P22 (Lm.sum4 P30 P38 Lm.tw) Lm.tw))) := (hAg 65 rfl).trans rfl
            refine L_str (ds := ua .u64 (Lm.l4 (Lm.sum4 (Lm.sum4 P22 P30 Lm.tw) P38 Lm.tw))) T_row26 H_20 (i := 0) rfl e_3_15 e_3_60 (by rw [ua_size]; exact (Lm.l4_wd ⟨0, 0, 0, 0⟩).1) (by rw [ua_size]; exact (Lm.l4_wd (Lm.sum4 (Lm.sum4 P22 P30 Lm.tw) P38 Lm.tw)).1) (ua_one _ _) (l' := [.blk bk15_ 26 (ua .u64 (Lm.l4 (Lm.sum4 (Lm.sum4 P22 P30 Lm.tw) P38 Lm.tw))), .blk bk16_ 26 (ua .u64 (Lm.l4 ⟨0, 0, 0, 0⟩)), .blk bk13_ 26 (ua .u64 (Lm.l4 (Lm.sum4 P22 P30 Lm.tw))), .blk bk14_ 26 (ua .u64 (Lm.l4 (Lm.sum4 P30 P22 Lm.tw))), .blk bk11 26 (ua .u64 (Lm.l4 P38)), .blk bk9 26 (ua .u64 (Lm.l4 P30)), .blk bk7 26 (ua .u64 (Lm.l4 P22)), .blk bk5 42 (sd D.y D.odd), .blk bk4 42 (sd B.y B.odd), .blk bk3 42 (sd A.y A.odd)]) rfl ?_; intro w_21 H_21
            refine L_str (ds := ua .u64 (Lm.l4 (Lm.sum4 P22 (Lm.sum4 P30 P38 Lm.tw) Lm.tw))) T_row26 H_21 (i := 1) rfl e_3_16 e_3_65 (by rw [ua_size]; exact (Lm.l4_wd ⟨0, 0, 0, 0⟩).1) (by rw [ua_size]; exact (Lm.l4_wd (Lm.sum4 P22 (Lm.sum4 P30 P38 Lm.tw) Lm.tw)).1) (ua_one _ _) (l' := [.blk bk15_ 26 (ua .u64 (Lm.l4 (Lm.sum4 (Lm.sum4 P22 P30 Lm.tw) P38 Lm.tw))), .blk bk16_ 26 (ua .u64 (Lm.l4 (Lm.sum4 P22 (Lm.sum4 P30 P38 Lm.tw) Lm.tw))), .blk bk13_ 26 (ua .u64 (Lm.l4 (Lm.sum4 P22 P30 Lm.tw))), .blk bk14_ 26 (ua .u64 (Lm.l4 (Lm.sum4 P30 P22 Lm.tw))), .blk bk11 26 (ua .u64 (Lm.l4 P38)), .blk bk9 26 (ua .u64 (Lm.l4 P30)), .blk bk7 26 (ua .u64 (Lm.l4 P22)), .blk bk5 42 (sd D.y D.odd), .blk bk4 42 (sd B.y B.odd), .blk bk3 42 (sd A.y A.odd)]) rfl ?_; intro w_22 H_22
            refine L_nil ?_
            refine Th_n ?_
            refine W_seq ?_
            refine W_quiet H_22 29 [Value.agg (ua .u64 (Lm.l4 (Lm.sum4 P22 P30 Lm.tw))), Value.bool (Lm.on4 (Lm.sum4 P22 P30 Lm.tw)), Value.bool (Lm.on4 (Lm.sum4 P22 P30 Lm.tw)), Value.agg (ua .u64 (Lm.l4 (Lm.sum4 (Lm.sum4 P22 P30 Lm.tw) P38 Lm.tw))), Value.bool (Lm.on4 (Lm.sum4 (Lm.sum4 P22 P30 Lm.tw) P38 Lm.tw)), Value.bool (Lm.on4 (Lm.sum4 (Lm.sum4 P22 P30 Lm.tw) P38 Lm.tw)), Value.bool (Lm.on4 (Lm.sum4 (Lm.sum4 P22 P30 Lm.tw) P38 Lm.tw)), Value.agg (ua .u64 (Lm.l4 (Lm.sum4 P22 P30 Lm.tw))), Value.agg (ua .u64 (Lm.l4 (Lm.sum4 P30 P22 Lm.tw))), Value.bool (Lm.same4 (Lm.sum4 P22 P30 Lm.tw) (Lm.sum4 P30 P22 Lm.tw)), Value.bool (Lm.same4 (Lm.sum4 P22 P30 Lm.tw) (Lm.sum4 P30 P22 Lm.tw)), Value.bool (Lm.same4 (Lm.sum4 P22 P30 Lm.tw) (Lm.sum4 P30 P22 Lm.tw)), Value.agg (ua .u64 (Lm.l4 (Lm.sum4 (Lm.sum4 P22 P30 Lm.tw) P38 Lm.tw))), Value.agg (ua .u64 (Lm.l4 (Lm.sum4 P22 (Lm.sum4 P30 P38 Lm.tw) Lm.tw))), Value.bool (Lm.same4 (Lm.sum4 (Lm.sum4 P22 P30 Lm.tw) P38 Lm.tw) (Lm.sum4 P22 (Lm.sum4 P30 P38 Lm.tw) Lm.tw)), Value.bool (Lm.same4 (Lm.sum4 (Lm.sum4 P22 P30 Lm.tw) P38 Lm.tw) (Lm.sum4 P22 (Lm.sum4 P30 P38 Lm.tw) Lm.tw)), Value.bool (Lm.same4 (Lm.sum4 (Lm.sum4 P22 P30 Lm.tw) P38 Lm.tw) (Lm.sum4 P22 (Lm.sum4 P30 P38 Lm.tw) Lm.tw)), Value.agg (ua .u64 (Lm.l4 P22)), Value.agg (ua .u64 (Lm.l4 Lm.idn4)), Value.agg (ua .u64 (Lm.l4 (Lm.sum4 P22 Lm.idn4 Lm.tw))), Value.agg (ua .u64 (Lm.l4 P22)), Value.bool (Lm.same4 (Lm.sum4 P22 Lm.idn4 Lm.tw) P22), Value.bool (Lm.same4 (Lm.sum4 P22 Lm.idn4 Lm.tw) P22), Value.bool (Lm.same4 (Lm.sum4 P22 Lm.idn4 Lm.tw) P22), Value.agg (ua .u64 (Lm.l4 (Lm.sum4 P22 P30 Lm.tw))), Value.agg (ua .u64 (Lm.l4 P30)), Value.agg (ua .u64 (Lm.l4 (Lm.neg4 P30))), Value.agg (ua .u64 (Lm.l4 (Lm.sum4 (Lm.sum4 P22 P30 Lm.tw) (Lm.neg4 P30) Lm.tw))), Value.agg (ua .u64 (Lm.l4 P22))] T_mixed (by kernel_rfl) ?_ ?_
            ·
              refine .plain rfl (Pl_y rfl (fun w hBw => Y_ldr T_row26 hBw (i := 2) rfl e_3_13 (by rw [ua_size]; exact (Lm.l4_wd (Lm.sum4 P22 P30 Lm.tw)).1))) ?_
              refine .plain rfl (Pl_c rfl T_en21 (A1 rfl) (fun w hBw => on4_n (Lm.sum4 P22 P30 Lm.tw) (Lm.sum4_ok _ _ _) _)) ?_
              refine .plain rfl (Pl_y rfl (fun w hBw => rfl)) ?_
              refine .plain rfl (Pl_y (wE rfl (congrArg Value.bool (Lm.R4.on4 (Lm.R4_sum (hP22 ▸ (Lm.R4_at (hq22 ▸ (Lm.nnt hb) : Lm.at4b A.y A.odd = true)) : Lm.R4 P22 (Lm.ptA A.y A.odd)) (hP30 ▸ (Lm.R4_at (hq30 ▸ (Lm.nnt hb_2) : Lm.at4b B.y B.odd = true)) : Lm.R4 P30 (Lm.ptA B.y B.odd)))))) (fun w hBw => Y_ldr T_row26 hBw (i := 0) rfl e_3_15 (by rw [ua_size]; exact (Lm.l4_wd (Lm.sum4 (Lm.sum4 P22 P30 Lm.tw) P38 Lm.tw)).1))) ?_
              refine .plain rfl (Pl_c (wE rfl (congrArg Value.bool (Lm.R4.on4 (Lm.R4_sum (hP22 ▸ (Lm.R4_at (hq22 ▸ (Lm.nnt hb) : Lm.at4b A.y A.odd = true)) : Lm.R4 P22 (Lm.ptA A.y A.odd)) (hP30 ▸ (Lm.R4_at (hq30 ▸ (Lm.nnt hb_2) : Lm.at4b B.y B.odd = true)) : Lm.R4 P30 (Lm.ptA B.y B.odd)))))) T_en21 (A1 rfl) (fun w hBw => on4_n (Lm.sum4 (Lm.sum4 P22 P30 Lm.tw) P38 Lm.tw) (Lm.sum4_ok _ _ _) _)) ?_
              refine .plain rfl (Pl_y rfl (fun w hBw => Y_pickT (congrArg Value.bool (Lm.R4.on4 (Lm.R4_sum (hP22 ▸ (Lm.R4_at (hq22 ▸ (Lm.nnt hb) : Lm.at4b A.y A.odd = true)) : Lm.R4 P22 (Lm.ptA A.y A.odd)) (hP30 ▸ (Lm.R4_at (hq30 ▸ (Lm.nnt hb_2) : Lm.at4b B.y B.odd = true)) : Lm.R4 P30 (Lm.ptA B.y B.odd))))))) ?_
              refine .plain rfl (Pl_y rfl (fun w hBw => rfl)) ?_
              refine .plain rfl (Pl_y (wE rfl (congrArg Value.bool (Lm.R4.on4 (Lm.R4_sum (Lm.R4_sum (hP22 ▸ (Lm.R4_at (hq22 ▸ (Lm.nnt hb) : Lm.at4b A.y A.odd = true)) : Lm.R4 P22 (Lm.ptA A.y A.odd)) (hP30 ▸ (Lm.R4_at (hq30 ▸ (Lm.nnt hb_2) : Lm.at4b B.y B.odd = true)) : Lm.R4 P30 (Lm.ptA B.y B.odd))) (hP38 ▸ (Lm.R4_at (hq38 ▸ (Lm.nnt hc) : Lm.at4b D.y D.odd = true)) : Lm.R4 P38 (Lm.ptA D.y D.odd)))))) (fun w hBw => Y_ldr T_row26 hBw (i := 2) rfl e_3_13 (by rw [ua_size]; exact (Lm.l4_wd (Lm.sum4 P22 P30 Lm.tw)).1))) ?_
              refine .plain rfl (Pl_y (wE rfl (congrArg Value.bool (Lm.R4.on4 (Lm.R4_sum (Lm.R4_sum (hP22 ▸ (Lm.R4_at (hq22 ▸ (Lm.nnt hb) : Lm.at4b A.y A.odd = true)) : Lm.R4 P22 (Lm.ptA A.y A.odd)) (hP30 ▸ (Lm.R4_at (hq30 ▸ (Lm.nnt hb_2) : Lm.at4b B.y B.odd = true)) : Lm.R4 P30 (Lm.ptA B.y B.odd))) (hP38 ▸ (Lm.R4_at (hq38 ▸ (Lm.nnt hc) : Lm.at4b D.y D.odd = true)) : Lm.R4 P38 (Lm.ptA D.y D.odd)))))) (fun w hBw => Y_ldr T_row26 hBw (i := 3) rfl e_3_14 (by rw [ua_size]; exact (Lm.l4_wd (Lm.sum4 P30 P22 Lm.tw)).1))) ?_
              refine .plain rfl (Pl_c (wE rfl (congrArg Value.bool (Lm.R4.on4 (Lm.R4_sum (Lm.R4_sum (hP22 ▸ (Lm.R4_at (hq22 ▸ (Lm.nnt hb) : Lm.at4b A.y A.odd = true)) : Lm.R4 P22 (Lm.ptA A.y A.odd)) (hP30 ▸ (Lm.R4_at (hq30 ▸ (Lm.nnt hb_2) : Lm.at4b B.y B.odd = true)) : Lm.R4 P30 (Lm.ptA B.y B.odd))) (hP38 ▸ (Lm.R4_at (hq38 ▸ (Lm.nnt hc) : Lm.at4b D.y D.odd = true)) : Lm.R4 P38 (Lm.ptA D.y D.odd)))))) T_en22 (A2 rfl rfl) (fun w hBw => same4_n (Lm.sum4 P22 P30 Lm.tw) (Lm.sum4 P30 P22 Lm.tw) (Lm.sum4_ok _ _ _) (Lm.sum4_ok _ _ _) _)) ?_
              refine .plain rfl (Pl_y rfl (fun w hBw => Y_pickT (congrArg Value.bool (Lm.R4.on4 (Lm.R4_sum (Lm.R4_sum (hP22 ▸ (Lm.R4_at (hq22 ▸ (Lm.nnt hb) : Lm.at4b A.y A.odd = true)) : Lm.R4 P22 (Lm.ptA A.y A.odd)) (hP30 ▸ (Lm.R4_at (hq30 ▸ (Lm.nnt hb_2) : Lm.at4b B.y B.odd = true)) : Lm.R4 P30 (Lm.ptA B.y B.odd))) (hP38 ▸ (Lm.R4_at (hq38 ▸ (Lm.nnt hc) : Lm.at4b D.y D.odd = true)) : Lm.R4 P38 (Lm.ptA D.y D.odd))))))) ?_
              refine .plain rfl (Pl_y rfl (fun w hBw => rfl)) ?_
              refine .plain rfl (Pl_y (wE rfl (congrArg Value.bool (Lm.R4.same (Lm.R4_sum (hP22 ▸ (Lm.R4_at (hq22 ▸ (Lm.nnt hb) : Lm.at4b A.y A.odd = true)) : Lm.R4 P22 (Lm.ptA A.y A.odd)) (hP30 ▸ (Lm.R4_at (hq30 ▸ (Lm.nnt hb_2) : Lm.at4b B.y B.odd = true)) : Lm.R4 P30 (Lm.ptA B.y B.odd))) (Lm.R4_sum (hP30 ▸ (Lm.R4_at (hq30 ▸ (Lm.nnt hb_2) : Lm.at4b B.y B.odd = true)) : Lm.R4 P30 (Lm.ptA B.y B.odd)) (hP22 ▸ (Lm.R4_at (hq22 ▸ (Lm.nnt hb) : Lm.at4b A.y A.odd = true)) : Lm.R4 P22 (Lm.ptA A.y A.odd))) (Go.Ev.Nt.ad_comm _ _)))) (fun w hBw => Y_ldr T_row26 hBw (i := 0) rfl e_3_15 (by rw [ua_size]; exact (Lm.l4_wd (Lm.sum4 (Lm.sum4 P22 P30 Lm.tw) P38 Lm.tw)).1))) ?_
              refine .plain rfl (Pl_y (wE rfl (congrArg Value.bool (Lm.R4.same (Lm.R4_sum (hP22 ▸ (Lm.R4_at (hq22 ▸ (Lm.nnt hb) : Lm.at4b A.y A.odd = true)) : Lm.R4 P22 (Lm.ptA A.y A.odd)) (hP30 ▸ (Lm.R4_at (hq30 ▸ (Lm.nnt hb_2) : Lm.at4b B.y B.odd = true)) : Lm.R4 P30 (Lm.ptA B.y B.odd))) (Lm.R4_sum (hP30 ▸ (Lm.R4_at (hq30 ▸ (Lm.nnt hb_2) : Lm.at4b B.y B.odd = true)) : Lm.R4 P30 (Lm.ptA B.y B.odd)) (hP22 ▸ (Lm.R4_at (hq22 ▸ (Lm.nnt hb) : Lm.at4b A.y A.odd = true)) : Lm.R4 P22 (Lm.ptA A.y A.odd))) (Go.Ev.Nt.ad_comm _ _)))) (fun w hBw => Y_ldr T_row26 hBw (i := 1) rfl e_3_16 (by rw [ua_size]; exact (Lm.l4_wd (Lm.sum4 P22 (Lm.sum4 P30 P38 Lm.tw) Lm.tw)).1))) ?_
              refine .plain rfl (Pl_c (wE rfl (congrArg Value.bool (Lm.R4.same (Lm.R4_sum (hP22 ▸ (Lm.R4_at (hq22 ▸ (Lm.nnt hb) : Lm.at4b A.y A.odd = true)) : Lm.R4 P22 (Lm.ptA A.y A.odd)) (hP30 ▸ (Lm.R4_at (hq30 ▸ (Lm.nnt hb_2) : Lm.at4b B.y B.odd = true)) : Lm.R4 P30 (Lm.ptA B.y B.odd))) (Lm.R4_sum (hP30 ▸ (Lm.R4_at (hq30 ▸ (Lm.nnt hb_2) : Lm.at4b B.y B.odd = true)) : Lm.R4 P30 (Lm.ptA B.y B.odd)) (hP22 ▸ (Lm.R4_at (hq22 ▸ (Lm.nnt hb) : Lm.at4b A.y A.odd = true)) : Lm.R4 P22 (Lm.ptA A.y A.odd))) (Go.Ev.Nt.ad_comm _ _)))) T_en22 (A2 rfl rfl) (fun w hBw => same4_n (Lm.sum4 (Lm.sum4 P22 P30 Lm.tw) P38 Lm.tw) (Lm.sum4 P22 (Lm.sum4 P30 P38 Lm.tw) Lm.tw) (Lm.sum4_ok _ _ _) (Lm.sum4_ok _ _ _) _)) ?_
              refine .plain rfl (Pl_y rfl (fun w hBw => Y_pickT (congrArg Value.bool (Lm.R4.same (Lm.R4_sum (hP22 ▸ (Lm.R4_at (hq22 ▸ (Lm.nnt hb) : Lm.at4b A.y A.odd = true)) : Lm.R4 P22 (Lm.ptA A.y A.odd)) (hP30 ▸ (Lm.R4_at (hq30 ▸ (Lm.nnt hb_2) : Lm.at4b B.y B.odd = true)) : Lm.R4 P30 (Lm.ptA B.y B.odd))) (Lm.R4_sum (hP30 ▸ (Lm.R4_at (hq30 ▸ (Lm.nnt hb_2) : Lm.at4b B.y B.odd = true)) : Lm.R4 P30 (Lm.ptA B.y B.odd)) (hP22 ▸ (Lm.R4_at (hq22 ▸ (Lm.nnt hb) : Lm.at4b A.y A.odd = true)) : Lm.R4 P22 (Lm.ptA A.y A.odd))) (Go.Ev.Nt.ad_comm _ _))))) ?_
              refine .plain rfl (Pl_y rfl (fun w hBw => rfl)) ?_
              refine .plain rfl (Pl_y (wE rfl (congrArg Value.bool (Lm.R4.same (Lm.R4_sum (Lm.R4_sum (hP22 ▸ (Lm.R4_at (hq22 ▸ (Lm.nnt hb) : Lm.at4b A.y A.odd = true)) : Lm.R4 P22 (Lm.ptA A.y A.odd)) (hP30 ▸ (Lm.R4_at (hq30 ▸ (Lm.nnt hb_2) : Lm.at4b B.y B.odd = true)) : Lm.R4 P30 (Lm.ptA B.y B.odd))) (hP38 ▸ (Lm.R4_at (hq38 ▸ (Lm.nnt hc) : Lm.at4b D.y D.odd = true)) : Lm.R4 P38 (Lm.ptA D.y D.odd))) (Lm.R4_sum (hP22 ▸ (Lm.R4_at (hq22 ▸ (Lm.nnt hb) : Lm.at4b A.y A.odd = true)) : Lm.R4 P22 (Lm.ptA A.y A.odd)) (Lm.R4_sum (hP30 ▸ (Lm.R4_at (hq30 ▸ (Lm.nnt hb_2) : Lm.at4b B.y B.odd = true)) : Lm.R4 P30 (Lm.ptA B.y B.odd)) (hP38 ▸ (Lm.R4_at (hq38 ▸ (Lm.nnt hc) : Lm.at4b D.y D.odd = true)) : Lm.R4 P38 (Lm.ptA D.y D.odd)))) (Lm.cv.assoc (Lm.pt_on (hq22 ▸ (Lm.nnt hb) : Lm.at4b A.y A.odd = true)) (Lm.pt_on (hq30 ▸ (Lm.nnt hb_2) : Lm.at4b B.y B.odd = true)) (Lm.pt_on (hq38 ▸ (Lm.nnt hc) : Lm.at4b D.y D.odd = true)))))) (fun w hBw => Y_ldr T_row26 hBw (i := 6) rfl e_3_7 (by rw [ua_size]; exact (Lm.l4_wd P22).1))) ?_
              refine .plain rfl (Pl_c (wE rfl (congrArg Value.bool (Lm.R4.same (Lm.R4_sum (Lm.R4_sum (hP22 ▸ (Lm.R4_at (hq22 ▸ (Lm.nnt hb) : Lm.at4b A.y A.odd = true)) : Lm.R4 P22 (Lm.ptA A.y A.odd)) (hP30 ▸ (Lm.R4_at (hq30 ▸ (Lm.nnt hb_2) : Lm.at4b B.y B.odd = true)) : Lm.R4 P30 (Lm.ptA B.y B.odd))) (hP38 ▸ (Lm.R4_at (hq38 ▸ (Lm.nnt hc) : Lm.at4b D.y D.odd = true)) : Lm.R4 P38 (Lm.ptA D.y D.odd))) (Lm.R4_sum (hP22 ▸ (Lm.R4_at (hq22 ▸ (Lm.nnt hb) : Lm.at4b A.y A.odd = true)) : Lm.R4 P22 (Lm.ptA A.y A.odd)) (Lm.R4_sum (hP30 ▸ (Lm.R4_at (hq30 ▸ (Lm.nnt hb_2) : Lm.at4b B.y B.odd = true)) : Lm.R4 P30 (Lm.ptA B.y B.odd)) (hP38 ▸ (Lm.R4_at (hq38 ▸ (Lm.nnt hc) : Lm.at4b D.y D.odd = true)) : Lm.R4 P38 (Lm.ptA D.y D.odd)))) (Lm.cv.assoc (Lm.pt_on (hq22 ▸ (Lm.nnt hb) : Lm.at4b A.y A.odd = true)) (Lm.pt_on (hq30 ▸ (Lm.nnt hb_2) : Lm.at4b B.y B.odd = true)) (Lm.pt_on (hq38 ▸ (Lm.nnt hc) : Lm.at4b D.y D.odd = true)))))) T_en14 (A0) (fun w hBw => idn4_n _)) ?_
              refine .plain rfl (Pl_c (wE rfl (congrArg Value.bool (Lm.R4.same (Lm.R4_sum (Lm.R4_sum (hP22 ▸ (Lm.R4_at (hq22 ▸ (Lm.nnt hb) : Lm.at4b A.y A.odd = true)) : Lm.R4 P22 (Lm.ptA A.y A.odd)) (hP30 ▸ (Lm.R4_at (hq30 ▸ (Lm.nnt hb_2) : Lm.at4b B.y B.odd = true)) : Lm.R4 P30 (Lm.ptA B.y B.odd))) (hP38 ▸ (Lm.R4_at (hq38 ▸ (Lm.nnt hc) : Lm.at4b D.y D.odd = true)) : Lm.R4 P38 (Lm.ptA D.y D.odd))) (Lm.R4_sum (hP22 ▸ (Lm.R4_at (hq22 ▸ (Lm.nnt hb) : Lm.at4b A.y A.odd = true)) : Lm.R4 P22 (Lm.ptA A.y A.odd)) (Lm.R4_sum (hP30 ▸ (Lm.R4_at (hq30 ▸ (Lm.nnt hb_2) : Lm.at4b B.y B.odd = true)) : Lm.R4 P30 (Lm.ptA B.y B.odd)) (hP38 ▸ (Lm.R4_at (hq38 ▸ (Lm.nnt hc) : Lm.at4b D.y D.odd = true)) : Lm.R4 P38 (Lm.ptA D.y D.odd)))) (Lm.cv.assoc (Lm.pt_on (hq22 ▸ (Lm.nnt hb) : Lm.at4b A.y A.odd = true)) (Lm.pt_on (hq30 ▸ (Lm.nnt hb_2) : Lm.at4b B.y B.odd = true)) (Lm.pt_on (hq38 ▸ (Lm.nnt hc) : Lm.at4b D.y D.odd = true)))))) T_en17 (A2 rfl rfl) (fun w hBw => addp_n P22 Lm.idn4 okP22 Lm.idn4_ok _)) ?_
              refine .plain rfl (Pl_y (wE rfl (congrArg Value.bool (Lm.R4.same (Lm.R4_sum (Lm.R4_sum (hP22 ▸ (Lm.R4_at (hq22 ▸ (Lm.nnt hb) : Lm.at4b A.y A.odd = true)) : Lm.R4 P22 (Lm.ptA A.y A.odd)) (hP30 ▸ (Lm.R4_at (hq30 ▸ (Lm.nnt hb_2) : Lm.at4b B.y B.odd = true)) : Lm.R4 P30 (Lm.ptA B.y B.odd))) (hP38 ▸ (Lm.R4_at (hq38 ▸ (Lm.nnt hc) : Lm.at4b D.y D.odd = true)) : Lm.R4 P38 (Lm.ptA D.y D.odd))) (Lm.R4_sum (hP22 ▸ (Lm.R4_at (hq22 ▸ (Lm.nnt hb) : Lm.at4b A.y A.odd = true)) : Lm.R4 P22 (Lm.ptA A.y A.odd)) (Lm.R4_sum (hP30 ▸ (Lm.R4_at (hq30 ▸ (Lm.nnt hb_2) : Lm.at4b B.y B.odd = true)) : Lm.R4 P30 (Lm.ptA B.y B.odd)) (hP38 ▸ (Lm.R4_at (hq38 ▸ (Lm.nnt hc) : Lm.at4b D.y D.odd = true)) : Lm.R4 P38 (Lm.ptA D.y D.odd)))) (Lm.cv.assoc (Lm.pt_on (hq22 ▸ (Lm.nnt hb) : Lm.at4b A.y A.odd = true)) (Lm.pt_on (hq30 ▸ (Lm.nnt hb_2) : Lm.at4b B.y B.odd = true)) (Lm.pt_on (hq38 ▸ (Lm.nnt hc) : Lm.at4b D.y D.odd = true)))))) (fun w hBw => Y_ldr T_row26 hBw (i := 6) rfl e_3_7 (by rw [ua_size]; exact (Lm.l4_wd P22).1))) ?_
              refine .plain rfl (Pl_c (wE rfl (congrArg Value.bool (Lm.R4.same (Lm.R4_sum (Lm.R4_sum (hP22 ▸ (Lm.R4_at (hq22 ▸ (Lm.nnt hb) : Lm.at4b A.y A.odd = true)) : Lm.R4 P22 (Lm.ptA A.y A.odd)) (hP30 ▸ (Lm.R4_at (hq30 ▸ (Lm.nnt hb_2) : Lm.at4b B.y B.odd = true)) : Lm.R4 P30 (Lm.ptA B.y B.odd))) (hP38 ▸ (Lm.R4_at (hq38 ▸ (Lm.nnt hc) : Lm.at4b D.y D.odd = true)) : Lm.R4 P38 (Lm.ptA D.y D.odd))) (Lm.R4_sum (hP22 ▸ (Lm.R4_at (hq22 ▸ (Lm.nnt hb) : Lm.at4b A.y A.odd = true)) : Lm.R4 P22 (Lm.ptA A.y A.odd)) (Lm.R4_sum (hP30 ▸ (Lm.R4_at (hq30 ▸ (Lm.nnt hb_2) : Lm.at4b B.y B.odd = true)) : Lm.R4 P30 (Lm.ptA B.y B.odd)) (hP38 ▸ (Lm.R4_at (hq38 ▸ (Lm.nnt hc) : Lm.at4b D.y D.odd = true)) : Lm.R4 P38 (Lm.ptA D.y D.odd)))) (Lm.cv.assoc (Lm.pt_on (hq22 ▸ (Lm.nnt hb) : Lm.at4b A.y A.odd = true)) (Lm.pt_on (hq30 ▸ (Lm.nnt hb_2) : Lm.at4b B.y B.odd = true)) (Lm.pt_on (hq38 ▸ (Lm.nnt hc) : Lm.at4b D.y D.odd = true)))))) T_en22 (A2 rfl rfl) (fun w hBw => same4_n (Lm.sum4 P22 Lm.idn4 Lm.tw) P22 (Lm.sum4_ok _ _ _) okP22 _)) ?_
              refine .plain rfl (Pl_y rfl (fun w hBw => Y_pickT (congrArg Value.bool (Lm.R4.same (Lm.R4_sum (Lm.R4_sum (hP22 ▸ (Lm.R4_at (hq22 ▸ (Lm.nnt hb) : Lm.at4b A.y A.odd = true)) : Lm.R4 P22 (Lm.ptA A.y A.odd)) (hP30 ▸ (Lm.R4_at (hq30 ▸ (Lm.nnt hb_2) : Lm.at4b B.y B.odd = true)) : Lm.R4 P30 (Lm.ptA B.y B.odd))) (hP38 ▸ (Lm.R4_at (hq38 ▸ (Lm.nnt hc) : Lm.at4b D.y D.odd = true)) : Lm.R4 P38 (Lm.ptA D.y D.odd))) (Lm.R4_sum (hP22 ▸ (Lm.R4_at (hq22 ▸ (Lm.nnt hb) : Lm.at4b A.y A.odd = true)) : Lm.R4 P22 (Lm.ptA A.y A.odd)) (Lm.R4_sum (hP30 ▸ (Lm.R4_at (hq30 ▸ (Lm.nnt hb_2) : Lm.at4b B.y B.odd = true)) : Lm.R4 P30 (Lm.ptA B.y B.odd)) (hP38 ▸ (Lm.R4_at (hq38 ▸ (Lm.nnt hc) : Lm.at4b D.y D.odd = true)) : Lm.R4 P38 (Lm.ptA D.y D.odd)))) (Lm.cv.assoc (Lm.pt_on (hq22 ▸ (Lm.nnt hb) : Lm.at4b A.y A.odd = true)) (Lm.pt_on (hq30 ▸ (Lm.nnt hb_2) : Lm.at4b B.y B.odd = true)) (Lm.pt_on (hq38 ▸ (Lm.nnt hc) : Lm.at4b D.y D.odd = true))))))) ?_
              refine .plain rfl (Pl_y rfl (fun w hBw => rfl)) ?_
              refine .plain rfl (Pl_y (wE rfl (congrArg Value.bool (Lm.R4.same (Lm.R4_sum (hP22 ▸ (Lm.R4_at (hq22 ▸ (Lm.nnt hb) : Lm.at4b A.y A.odd = true)) : Lm.R4 P22 (Lm.ptA A.y A.odd)) Lm.R4_idn) (hP22 ▸ (Lm.R4_at (hq22 ▸ (Lm.nnt hb) : Lm.at4b A.y A.odd = true)) : Lm.R4 P22 (Lm.ptA A.y A.odd)) (Go.Ev.Nt.ad_zero Lm.prm _)))) (fun w hBw => Y_ldr T_row26 hBw (i := 2) rfl e_3_13 (by rw [ua_size]; exact (Lm.l4_wd (Lm.sum4 P22 P30 Lm.tw)).1))) ?_
              refine .plain rfl (Pl_y (wE rfl (congrArg Value.bool (Lm.R4.same (Lm.R4_sum (hP22 ▸ (Lm.R4_at (hq22 ▸ (Lm.nnt hb) : Lm.at4b A.y A.odd = true)) : Lm.R4 P22 (Lm.ptA A.y A.odd)) Lm.R4_idn) (hP22 ▸ (Lm.R4_at (hq22 ▸ (Lm.nnt hb) : Lm.at4b A.y A.odd = true)) : Lm.R4 P22 (Lm.ptA A.y A.odd)) (Go.Ev.Nt.ad_zero Lm.prm _)))) (fun w hBw => Y_ldr T_row26 hBw (i := 5) rfl e_3_9 (by rw [ua_size]; exact (Lm.l4_wd P30).1))) ?_
              refine .plain rfl (Pl_c (wE rfl (congrArg Value.bool (Lm.R4.same (Lm.R4_sum (hP22 ▸ (Lm.R4_at (hq22 ▸ (Lm.nnt hb) : Lm.at4b A.y A.odd = true)) : Lm.R4 P22 (Lm.ptA A.y A.odd)) Lm.R4_idn) (hP22 ▸ (Lm.R4_at (hq22 ▸ (Lm.nnt hb) : Lm.at4b A.y A.odd = true)) : Lm.R4 P22 (Lm.ptA A.y A.odd)) (Go.Ev.Nt.ad_zero Lm.prm _)))) T_en19 (A1 rfl) (fun w hBw => neg4_n P30 okP30 _)) ?_
              refine .plain rfl (Pl_c (wE rfl (congrArg Value.bool (Lm.R4.same (Lm.R4_sum (hP22 ▸ (Lm.R4_at (hq22 ▸ (Lm.nnt hb) : Lm.at4b A.y A.odd = true)) : Lm.R4 P22 (Lm.ptA A.y A.odd)) Lm.R4_idn) (hP22 ▸ (Lm.R4_at (hq22 ▸ (Lm.nnt hb) : Lm.at4b A.y A.odd = true)) : Lm.R4 P22 (Lm.ptA A.y A.odd)) (Go.Ev.Nt.ad_zero Lm.prm _)))) T_en17 (A2 rfl rfl) (fun w hBw => addp_n (Lm.sum4 P22 P30 Lm.tw) (Lm.neg4 P30) (Lm.sum4_ok _ _ _) (Lm.neg4_ok okP30) _)) ?_
              refine .plain rfl (Pl_y (wE rfl (congrArg Value.bool (Lm.R4.same (Lm.R4_sum (hP22 ▸ (Lm.R4_at (hq22 ▸ (Lm.nnt hb) : Lm.at4b A.y A.odd = true)) : Lm.R4 P22 (Lm.ptA A.y A.odd)) Lm.R4_idn) (hP22 ▸ (Lm.R4_at (hq22 ▸ (Lm.nnt hb) : Lm.at4b A.y A.odd = true)) : Lm.R4 P22 (Lm.ptA A.y A.odd)) (Go.Ev.Nt.ad_zero Lm.prm _)))) (fun w hBw => Y_ldr T_row26 hBw (i := 6) rfl e_3_7 (by rw [ua_size]; exact (Lm.l4_wd P22).1))) ?_
              exact .nil _
            ·
              intro e_4 w_23 hAg H_23
              have e_4_89 : e_4 89 = Value.bool (Lm.same4 (Lm.sum4 P22 Lm.idn4 Lm.tw) P22) := (hAg 89 rfl).trans rfl
              have e_4_93 : e_4 93 = Value.agg (ua .u64 (Lm.l4 (Lm.sum4 (Lm.sum4 P22 P30 Lm.tw) (Lm.neg4 P30) Lm.tw))) := (hAg 93 rfl).trans rfl
              have e_4_94 : e_4 94 = Value.agg (ua .u64 (Lm.l4 P22)) := (hAg 94 rfl).trans rfl
              refine L_callv (wE rfl (e_4_89.trans (congrArg Value.bool (Lm.R4.same (Lm.R4_sum (hP22 ▸ (Lm.R4_at (hq22 ▸ (Lm.nnt hb) : Lm.at4b A.y A.odd = true)) : Lm.R4 P22 (Lm.ptA A.y A.odd)) Lm.R4_idn) (hP22 ▸ (Lm.R4_at (hq22 ▸ (Lm.nnt hb) : Lm.at4b A.y A.odd = true)) : Lm.R4 P22 (Lm.ptA A.y A.odd)) (Go.Ev.Nt.ad_zero Lm.prm _))))) rfl T_en22 (A2 e_4_93 e_4_94) (same4_n (Lm.sum4 (Lm.sum4 P22 P30 Lm.tw) (Lm.neg4 P30) Lm.tw) P22 (Lm.sum4_ok _ _ _) okP22 _) ?_
              rintro _ w_24 ⟨rfl, hkp_7⟩; refine ⟨_, rfl, ?_⟩; have H_24 := H_23.keep hkp_7
              refine L_y rfl (Y_pickT (e_4_89.trans (congrArg Value.bool (Lm.R4.same (Lm.R4_sum (hP22 ▸ (Lm.R4_at (hq22 ▸ (Lm.nnt hb) : Lm.at4b A.y A.odd = true)) : Lm.R4 P22 (Lm.ptA A.y A.odd)) Lm.R4_idn) (hP22 ▸ (Lm.R4_at (hq22 ▸ (Lm.nnt hb) : Lm.at4b A.y A.odd = true)) : Lm.R4 P22 (Lm.ptA A.y A.odd)) (Go.Ev.Nt.ad_zero Lm.prm _))))) ?_
              refine L_mv rfl ?_
              refine L_callv (wE rfl (congrArg Value.bool (Lm.R4.same (Lm.R4_sum (Lm.R4_sum (hP22 ▸ (Lm.R4_at (hq22 ▸ (Lm.nnt hb) : Lm.at4b A.y A.odd = true)) : Lm.R4 P22 (Lm.ptA A.y A.odd)) (hP30 ▸ (Lm.R4_at (hq30 ▸ (Lm.nnt hb_2) : Lm.at4b B.y B.odd = true)) : Lm.R4 P30 (Lm.ptA B.y B.odd))) (Lm.R4_neg (hP30 ▸ (Lm.R4_at (hq30 ▸ (Lm.nnt hb_2) : Lm.at4b B.y B.odd = true)) : Lm.R4 P30 (Lm.ptA B.y B.odd)))) (hP22 ▸ (Lm.R4_at (hq22 ▸ (Lm.nnt hb) : Lm.at4b A.y A.odd = true)) : Lm.R4 P22 (Lm.ptA A.y A.odd)) (Lm.add_back (Lm.pt_on (hq22 ▸ (Lm.nnt hb) : Lm.at4b A.y A.odd = true)) (Lm.pt_on (hq30 ▸ (Lm.nnt hb_2) : Lm.at4b B.y B.odd = true)))))) rfl T_en12 (A0) (known_n _) ?_
              rintro _ w_25 ⟨rfl, hkp_8⟩; refine ⟨_, rfl, ?_⟩; have H_25 := H_24.keep hkp_8
              refine L_y rfl (Y_pickT (congrArg Value.bool (Lm.R4.same (Lm.R4_sum (Lm.R4_sum (hP22 ▸ (Lm.R4_at (hq22 ▸ (Lm.nnt hb) : Lm.at4b A.y A.odd = true)) : Lm.R4 P22 (Lm.ptA A.y A.odd)) (hP30 ▸ (Lm.R4_at (hq30 ▸ (Lm.nnt hb_2) : Lm.at4b B.y B.odd = true)) : Lm.R4 P30 (Lm.ptA B.y B.odd))) (Lm.R4_neg (hP30 ▸ (Lm.R4_at (hq30 ▸ (Lm.nnt hb_2) : Lm.at4b B.y B.odd = true)) : Lm.R4 P30 (Lm.ptA B.y B.odd)))) (hP22 ▸ (Lm.R4_at (hq22 ▸ (Lm.nnt hb) : Lm.at4b A.y A.odd = true)) : Lm.R4 P22 (Lm.ptA A.y A.odd)) (Lm.add_back (Lm.pt_on (hq22 ▸ (Lm.nnt hb) : Lm.at4b A.y A.odd = true)) (Lm.pt_on (hq30 ▸ (Lm.nnt hb_2) : Lm.at4b B.y B.odd = true)))))) ?_
              refine L_as rfl ?_
              refine L_nil ?_
              refine Th_n ?_
              refine W_ret ?_
              refine P_ret (vs := [Value.bool true]) (v := Value.bool true) rfl (.tmp rfl (Res.nil)) rfl ?_
              refine ⟨?_, H_25.nil_⟩
              rfl
end Go.Proofs.Ytbjpaggkmlgnoaa
