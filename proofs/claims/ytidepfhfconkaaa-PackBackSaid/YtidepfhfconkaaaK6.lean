/- Walks of layer 17 (pack) and of its reference. Printed by pack.py. -/
import Derived.Test.YtidepfhfconkaaaK5
namespace Go.Proofs.Ytidepfhfconkaaa
open Go.Ev
set_option maxRecDepth 100000
set_option linter.unusedVariables false
set_option linter.unusedSimpArgs false
theorem T_en28 : enters Try.prog 28 = true := by kernel_rfl
theorem T_en10 : enters Try.prog 10 = true := by kernel_rfl
theorem T_en12 : enters Try.prog 12 = true := by kernel_rfl
theorem rNum {w0 w : World} {X : List Ent} {bw : Nat} {v : Value} {l : List Nat} {er : Nat} (n : Nat) (s : Int) (hn : n < 18446744073709551616) (hl : l.length ≤ 4000000000) (hlt : ∀ u ∈ l, u < 256) (H : Hp w0 [] w (.blk bw 31 #[v, .int .i64 ((er : Nat) : Int)] :: .own v 5 1 l.length (us .u8 l) :: X)) :
    Calls Try.prog 10 #[Value.pointer (some ⟨bw, 0, none⟩), Value.int .u64 ((n : Nat) : Int), Value.int .i64 (s)] w (fun r_ w' => ∃ v', r_ = .returned (Value.pointer (some ⟨bw, 0, none⟩)) ∧ Hp w0 [] w' (.blk bw 31 #[v', .int .i64 (((Pk.num l er n s).2 : Nat) : Int)] :: .own v' 5 1 (Pk.num l er n s).1.length (us .u8 (Pk.num l er n s).1) :: X)) := by
  refine F_in Try.func10 rfl Try.ntmps10 rfl ?_
  intro e he
  have p_0 : e 0 = Value.pointer (some ⟨bw, 0, none⟩) := he 0 _ rfl
  have p_1 : e 1 = Value.int .u64 ((n : Nat) : Int) := he 1 _ rfl
  have p_2 : e 2 = Value.int .i64 (s) := he 2 _ rfl
  refine W_seq ?_
  refine W_rg ?_
  refine L_as rfl ?_
  refine L_nil ?_
  refine Th_n ?_
  refine W_seq ?_
  refine W_block ?_
  refine W_seq ?_
  refine W_rg ?_
  refine L_mv rfl ?_
  refine L_y rfl (Y_nil p_0) ?_
  refine L_y rfl (Y_fld T_fld31_1 rfl rfl rfl) ?_
  refine L_y rfl (Y_ld T_scal26 H (i := 0) rfl rfl rfl) ?_
  refine L_y rfl (Y_neq (k := .i64) (a := ((er : Nat) : Int)) (b := ((0 : Nat) : Int)) rfl rfl) ?_
  refine L_as rfl ?_
  refine L_nil ?_
  refine Th_n ?_
  refine W_cond (b := (((er : Nat) : Int) != ((0 : Nat) : Int))) rfl (fun hc => ?_) (fun hc => ?_)
  ·
    have hc' := ne_of_bne hc
    refine W_skip ?_
    refine InB_n ?_
    refine Th_n ?_
    refine W_seq ?_
    refine W_rg ?_
    refine L_mv rfl ?_
    refine L_as rfl ?_
    refine L_nil ?_
    refine Th_n ?_
    refine W_ret ?_
    refine P_ret (vs := [Value.pointer (some ⟨bw, 0, none⟩)]) (v := Value.pointer (some ⟨bw, 0, none⟩)) rfl (.tmp p_0 (Res.nil)) rfl ?_
    have hm : Pk.num l er n s = (l, er) := by first | (simp only [Pk.num]; (repeat (first | rw [if_pos (by omega)] | rw [if_neg (by omega)])); done) | (simp only [Pk.num, hk, Int.toNat_natCast]; (repeat (first | rw [if_pos (by omega)] | rw [if_neg (by omega)])); done) | (obtain rfl : er = 0 := (by omega); simp only [Pk.num, hk, Int.toNat_natCast]; rw [if_neg (by omega), if_neg (by omega), if_neg (by intro hh; omega)])
    refine ⟨v, rfl, ?_⟩; rw [hm]; have h := H; simp only [List.length_append, List.length_cons, List.length_nil, List.length_map, List.length_range, Pk.digs_len, Nat.zero_add, Nat.add_assoc] at h ⊢; exact h
  ·
    have hc' := eq_of_bne_false hc
    refine W_seq ?_
    refine W_rg ?_
    refine L_mv rfl ?_
    refine L_y rfl (Y_lss (k := .i64) (a := s) (b := ((1 : Nat) : Int)) p_2 rfl) ?_
    refine L_mv rfl ?_
    rcases Bool.eq_false_or_eq_true (decide (s < ((1 : Nat) : Int))) with hb | hb
    ·
      have hb' := of_decide_eq_true hb
      refine G_no (wN (b := false) rfl (congrArg Value.bool hb)) rfl ?_
      refine G_no (wN (b := false) rfl (congrArg Value.bool hb)) rfl ?_
      refine L_y rfl (Y_pickT (congrArg Value.bool hb)) ?_
      refine L_as rfl ?_
      refine L_nil ?_
      refine Th_n ?_
      refine W_true rfl ?_
      refine W_rg ?_
      refine L_mv rfl ?_
      refine L_y rfl (Y_nil p_0) ?_
      refine L_y rfl (Y_fld T_fld31_1 rfl rfl rfl) ?_
      refine L_st (v := Value.int .i64 ((2 : Nat) : Int)) T_scal26 H (i := 0) rfl rfl rfl rfl (Nat.le_of_ble_eq_true rfl) (l' := (Ent.blk bw 31 #[v, Value.int .i64 ((2 : Nat) : Int)] :: Ent.own v 5 1 l.length (us .u8 l) :: X)) rfl ?_; intro w_2 H_2
      refine L_nil ?_
      refine InB_n ?_
      refine Th_n ?_
      refine W_seq ?_
      refine W_rg ?_
      refine L_mv rfl ?_
      refine L_as rfl ?_
      refine L_nil ?_
      refine Th_n ?_
      refine W_ret ?_
      refine P_ret (vs := [Value.pointer (some ⟨bw, 0, none⟩)]) (v := Value.pointer (some ⟨bw, 0, none⟩)) rfl (.tmp p_0 (Res.nil)) rfl ?_
      have hm : Pk.num l er n s = (l, 2) := by first | (simp only [Pk.num]; (repeat (first | rw [if_pos (by omega)] | rw [if_neg (by omega)])); done) | (simp only [Pk.num, hk, Int.toNat_natCast]; (repeat (first | rw [if_pos (by omega)] | rw [if_neg (by omega)])); done) | (obtain rfl : er = 0 := (by omega); simp only [Pk.num, hk, Int.toNat_natCast]; rw [if_neg (by omega), if_neg (by omega), if_neg (by intro hh; omega)])
      refine ⟨v, rfl, ?_⟩; rw [hm]; have h := H_2; simp only [List.length_append, List.length_cons, List.length_nil, List.length_map, List.length_range, Pk.digs_len, Nat.zero_add, Nat.add_assoc] at h ⊢; exact h
    ·
      have hb' := of_decide_eq_false hb
      refine G_mv (wE rfl (congrArg Value.bool hb)) rfl ?_
      refine G_y (wE rfl (congrArg Value.bool hb)) rfl (Y_gtr (k := .i64) (a := s) (b := ((8 : Nat) : Int)) p_2 rfl) ?_
      refine L_y rfl (Y_pickF (congrArg Value.bool hb)) ?_
      refine L_as rfl ?_
      refine L_nil ?_
      refine Th_n ?_
      refine W_cond (b := (decide (((8 : Nat) : Int) < s))) rfl (fun hc_2 => ?_) (fun hc_2 => ?_)
      ·
        have hc_2' := of_decide_eq_true hc_2
        refine W_rg ?_
        refine L_mv rfl ?_
        refine L_y rfl (Y_nil p_0) ?_
        refine L_y rfl (Y_fld T_fld31_1 rfl rfl rfl) ?_
        refine L_st (v := Value.int .i64 ((2 : Nat) : Int)) T_scal26 H (i := 0) rfl rfl rfl rfl (Nat.le_of_ble_eq_true rfl) (l' := (Ent.blk bw 31 #[v, Value.int .i64 ((2 : Nat) : Int)] :: Ent.own v 5 1 l.length (us .u8 l) :: X)) rfl ?_; intro w_3 H_3
        refine L_nil ?_
        refine InB_n ?_
        refine Th_n ?_
        refine W_seq ?_
        refine W_rg ?_
        refine L_mv rfl ?_
        refine L_as rfl ?_
        refine L_nil ?_
        refine Th_n ?_
        refine W_ret ?_
        refine P_ret (vs := [Value.pointer (some ⟨bw, 0, none⟩)]) (v := Value.pointer (some ⟨bw, 0, none⟩)) rfl (.tmp p_0 (Res.nil)) rfl ?_
        have hm : Pk.num l er n s = (l, 2) := by first | (simp only [Pk.num]; (repeat (first | rw [if_pos (by omega)] | rw [if_neg (by omega)])); done) | (simp only [Pk.num, hk, Int.toNat_natCast]; (repeat (first | rw [if_pos (by omega)] | rw [if_neg (by omega)])); done) | (obtain rfl : er = 0 := (by omega); simp only [Pk.num, hk, Int.toNat_natCast]; rw [if_neg (by omega), if_neg (by omega), if_neg (by intro hh; omega)])
        refine ⟨v, rfl, ?_⟩; rw [hm]; have h := H_3; simp only [List.length_append, List.length_cons, List.length_nil, List.length_map, List.length_range, Pk.digs_len, Nat.zero_add, Nat.add_assoc] at h ⊢; exact h
      ·
        have hc_2' := of_decide_eq_false hc_2
        obtain ⟨k, hk⟩ : ∃ k : Nat, s = (k : Int) := ⟨s.toNat, by omega⟩
        refine W_seq ?_
        refine W_rg ?_
        refine L_mv rfl ?_
        refine L_y rfl (Y_lss (k := .i64) (a := ((k : Nat) : Int)) (b := ((8 : Nat) : Int)) (p_2.trans (congrArg (Value.int .i64) hk)) rfl) ?_
        refine L_mv rfl ?_
        rcases Bool.eq_false_or_eq_true (decide (((k : Nat) : Int) < ((8 : Nat) : Int))) with hb_2 | hb_2
        ·
          have hb_2' := of_decide_eq_true hb_2
          refine G_mv (wE rfl (congrArg Value.bool hb_2)) rfl ?_
          refine G_mv (wE rfl (congrArg Value.bool hb_2)) rfl ?_
          refine G_y (wE rfl (congrArg Value.bool hb_2)) rfl (Y_mul (k := .i64) (a := ((8 : Nat) : Int)) (b := ((k : Nat) : Int)) (z := ((8 * k : Nat) : Int)) rfl (p_2.trans (congrArg (Value.int .i64) hk)) (wi (by omega))) ?_
          refine G_y (wE rfl (congrArg Value.bool hb_2)) rfl (Y_convI (k := .i64) (n := ((8 * k : Nat) : Int)) (z := ((8 * k : Nat) : Int)) T_some3 T_kind55 rfl (wrapS rfl (by first | decide | (show _ < 18446744073709551616; omega)))) ?_
          refine G_y (wE rfl (congrArg Value.bool hb_2)) rfl (Yu_shr (k := .u64) n (8 * k) hn p_1 rfl) ?_
          refine G_y (wE rfl (congrArg Value.bool hb_2)) rfl (Y_neq (k := .u64) (a := ((n / 2 ^ (8 * k) : Nat) : Int)) (b := ((0 : Nat) : Int)) rfl rfl) ?_
          refine L_y rfl (Y_pickT (congrArg Value.bool hb_2)) ?_
          refine L_as rfl ?_
          refine L_nil ?_
          refine Th_n ?_
          refine W_cond (b := (((n / 2 ^ (8 * k) : Nat) : Int) != ((0 : Nat) : Int))) rfl (fun hc_3 => ?_) (fun hc_3 => ?_)
          ·
            have hc_3' := ne_of_bne hc_3
            refine W_rg ?_
            refine L_mv rfl ?_
            refine L_y rfl (Y_nil p_0) ?_
            refine L_y rfl (Y_fld T_fld31_1 rfl rfl rfl) ?_
            refine L_st (v := Value.int .i64 ((6 : Nat) : Int)) T_scal26 H (i := 0) rfl rfl rfl rfl (Nat.le_of_ble_eq_true rfl) (l' := (Ent.blk bw 31 #[v, Value.int .i64 ((6 : Nat) : Int)] :: Ent.own v 5 1 l.length (us .u8 l) :: X)) rfl ?_; intro w_4 H_4
            refine L_nil ?_
            refine InB_n ?_
            refine Th_n ?_
            refine W_seq ?_
            refine W_rg ?_
            refine L_mv rfl ?_
            refine L_as rfl ?_
            refine L_nil ?_
            refine Th_n ?_
            refine W_ret ?_
            refine P_ret (vs := [Value.pointer (some ⟨bw, 0, none⟩)]) (v := Value.pointer (some ⟨bw, 0, none⟩)) rfl (.tmp p_0 (Res.nil)) rfl ?_
            have hm : Pk.num l er n s = (l, 6) := by first | (simp only [Pk.num]; (repeat (first | rw [if_pos (by omega)] | rw [if_neg (by omega)])); done) | (simp only [Pk.num, hk, Int.toNat_natCast]; (repeat (first | rw [if_pos (by omega)] | rw [if_neg (by omega)])); done) | (obtain rfl : er = 0 := (by omega); simp only [Pk.num, hk, Int.toNat_natCast]; rw [if_neg (by omega), if_neg (by omega), if_neg (by intro hh; omega)])
            refine ⟨v, rfl, ?_⟩; rw [hm]; have h := H_4; simp only [List.length_append, List.length_cons, List.length_nil, List.length_map, List.length_range, Pk.digs_len, Nat.zero_add, Nat.add_assoc] at h ⊢; exact h
          ·
            have hc_3' := eq_of_bne_false hc_3
            refine W_anyL 9 [7, 8] [14, 15] [Value.pointer (some ⟨bw, 0, none⟩), Value.pointer (some ⟨bw, 0, none⟩), Value.pointer (some ⟨bw, 0, none⟩), Value.pointer (some ⟨bw, 0, none⟩), v, Value.int .u64 ((n : Nat) : Int), Value.int .i64 ((k : Nat) : Int), undef, undef] (fun w => w.heap[bw]? = some (.cells #[v, Value.int .i64 ((er : Nat) : Int)] 31 (0, 0))) [fun vs w => Hp w0 [] w (Ent.blk bw 31 #[v, Value.int .i64 ((er : Nat) : Int)] :: Ent.own v 5 1 l.length (us .u8 l) :: X), fun vs w => ∃ v14_, vs[0]? = some (v14_) ∧ Hp w0 [] w (Ent.own v14_ 5 1 k (us .u8 (Pk.digs n k)) :: Ent.blk bw 31 #[v, Value.int .i64 ((er : Nat) : Int)] :: Ent.own v 5 1 l.length (us .u8 l) :: X), fun _ _ => False, fun vs w => ∃ v14_, ∃ v15_, vs[0]? = some (v14_) ∧ vs[1]? = some (v15_) ∧ Hp w0 [] w (Ent.own v14_ 5 1 k (us .u8 (Pk.digs n k)) :: Ent.blk bw 31 #[v, Value.int .i64 ((er : Nat) : Int)] :: Ent.own v15_ 5 1 (l.length + k) (us .u8 (l ++ (Pk.digs n k))) :: X)] T_mixed (by kernel_rfl) ⟨fun _ _ H => H.get 0 rfl, fun _ _ h => by obtain ⟨_, _, H⟩ := h; exact H.get 1 rfl, fun _ _ h => h.elim, fun _ _ h => by obtain ⟨_, _, _, _, H⟩ := h; exact H.get 1 rfl, trivial⟩ ⟨fun _ _ _ hkp H => H.keep hkp, fun _ _ _ hkp h => by obtain ⟨q0, q1, H⟩ := h; exact ⟨q0, q1, H.keep hkp⟩, fun _ _ _ _ h => h.elim, fun _ _ _ hkp h => by obtain ⟨q0, q1, q2, q3, H⟩ := h; exact ⟨q0, q1, q2, q3, H.keep hkp⟩, trivial⟩ H ?_ ?_
            ·
              refine .plain rfl (Pl_y rfl (fun w hBw => congrArg (fun v => Result.ok (Next.value v) w) p_0)) ?_
              refine .plain rfl (Pl_y rfl (fun w hBw => congrArg (fun v => Result.ok (Next.value v) w) p_0)) ?_
              refine .plain rfl (Pl_y rfl (fun w hBw => Y_nil rfl)) ?_
              refine .plain rfl (Pl_y rfl (fun w hBw => Y_fld T_fld31_0 rfl rfl rfl)) ?_
              refine .plain rfl (Pl_y rfl (fun w hBw => Y_ldb T_scal25 hBw rfl rfl)) ?_
              refine .plain rfl (Pl_y rfl (fun w hBw => congrArg (fun v => Result.ok (Next.value v) w) p_1)) ?_
              refine .plain rfl (Pl_y rfl (fun w hBw => congrArg (fun v => Result.ok (Next.value v) w) (p_2.trans (congrArg (Value.int .i64) hk)))) ?_
              refine .special 0 rfl (Special.of ⟨⟨⟨⟨trivial, fun _ _ _ e' w' hAg hYs => by
                  have H : Hp w0 [] w' (Ent.blk bw 31 #[v, Value.int .i64 ((er : Nat) : Int)] :: Ent.own v 5 1 l.length (us .u8 l) :: X) := hYs
                  exact ⟨rfl, Dn_callv T_en28 (A2 ((hAg 12 rfl).trans rfl) ((hAg 13 rfl).trans rfl)) ((digits n k _ hn (by omega) (by omega)).mono (fun r_ w2 h => by obtain ⟨v14_, rfl, h⟩ := h; have Hn := H.more h; exact ⟨_, rfl, ⟨v14_, rfl, Hn⟩⟩))⟩⟩, fun h => absurd h (by decide)⟩, fun _ _ h => absurd (by decide) (h 1 8 rfl (by decide))⟩, fun h => absurd h (by decide)⟩) ?_
              refine .special 1 rfl (Special.of ⟨⟨⟨⟨trivial, fun _ h => absurd (h 0 7 rfl (by decide)) (by decide)⟩, fun _ _ _ e' w' hAg hYs => by
                  obtain ⟨v14_, q0, H⟩ := hYs
                  exact ⟨rfl, Dn_appO H (i := 2) (j := 0) rfl rfl T_sl25 T_zero5 rfl T_szb5 ((hAg 11 rfl).trans rfl) (Option.some.inj q0) (by omega) (fun v2 w2 Hn => ⟨v14_, _, q0, rfl, Hn⟩)⟩⟩, fun h => absurd h (by decide)⟩, fun h => absurd h (by decide)⟩) ?_
              exact .nil _
            ·
              intro e_2 w_5 hAg hYs
              obtain ⟨v14_, v15_, q0, q1, H_5⟩ := hYs
              have e_2_14 : e_2 14 = v14_ := Option.some.inj q0
              have e_2_15 : e_2 15 = v15_ := Option.some.inj q1
              have e_2_0 : e_2 0 = Value.pointer (some ⟨bw, 0, none⟩) := (hAg 0 rfl).trans p_0
              have e_2_7 : e_2 7 = Value.pointer (some ⟨bw, 0, none⟩) := (hAg 7 rfl).trans rfl
              refine L_y rfl (Y_nil e_2_7) ?_
              refine L_y rfl (Y_fld T_fld31_0 rfl rfl rfl) ?_
              refine L_st (v := v15_) T_scal25 H_5 (i := 1) rfl rfl e_2_15 (own_one H_5 (i := 2) rfl) (Nat.le_of_ble_eq_true rfl) (l' := (Ent.own v14_ 5 1 k (us .u8 (Pk.digs n k)) :: Ent.blk bw 31 #[v15_, Value.int .i64 ((er : Nat) : Int)] :: Ent.own v15_ 5 1 (l.length + k) (us .u8 (l ++ (Pk.digs n k))) :: X)) rfl ?_; intro w_6 H_6
              refine L_nil ?_
              refine InB_n ?_
              refine Th_n ?_
              refine W_seq ?_
              refine W_rg ?_
              refine L_mv rfl ?_
              refine L_as rfl ?_
              refine L_nil ?_
              refine Th_n ?_
              refine W_ret ?_
              refine P_ret (vs := [Value.pointer (some ⟨bw, 0, none⟩)]) (v := Value.pointer (some ⟨bw, 0, none⟩)) rfl (.tmp e_2_0 (Res.nil)) rfl ?_
              have H_7 : Hp w0 [] w_6 (Ent.blk bw 31 #[v15_, Value.int .i64 ((er : Nat) : Int)] :: Ent.own v15_ 5 1 (l.length + k) (us .u8 (l ++ (Pk.digs n k))) :: X) := H_6.erase 0
              have hm : Pk.num l er n s = (l ++ (Pk.digs n k), er) := by first | (simp only [Pk.num]; (repeat (first | rw [if_pos (by omega)] | rw [if_neg (by omega)])); done) | (simp only [Pk.num, hk, Int.toNat_natCast]; (repeat (first | rw [if_pos (by omega)] | rw [if_neg (by omega)])); done) | (obtain rfl : er = 0 := (by omega); simp only [Pk.num, hk, Int.toNat_natCast]; rw [if_neg (by omega), if_neg (by omega), if_neg (by intro hh; omega)])
              refine ⟨v15_, rfl, ?_⟩; rw [hm]; have h := H_7; simp only [List.length_append, List.length_cons, List.length_nil, List.length_map, List.length_range, Pk.digs_len, Nat.zero_add, Nat.add_assoc] at h ⊢; exact h
        ·
          have hb_2' := of_decide_eq_false hb_2
          refine G_no (wN (b := true) rfl (congrArg Value.bool hb_2)) rfl ?_
          refine G_no (wN (b := true) rfl (congrArg Value.bool hb_2)) rfl ?_
          refine G_no (wN (b := true) rfl (congrArg Value.bool hb_2)) rfl ?_
          refine G_no (wN (b := true) rfl (congrArg Value.bool hb_2)) rfl ?_
          refine G_no (wN (b := true) rfl (congrArg Value.bool hb_2)) rfl ?_
          refine G_no (wN (b := true) rfl (congrArg Value.bool hb_2)) rfl ?_
          refine L_y rfl (Y_pickF (congrArg Value.bool hb_2)) ?_
          refine L_as rfl ?_
          refine L_nil ?_
          refine Th_n ?_
          refine W_false rfl ?_
          refine W_anyL 9 [7, 8] [14, 15] [Value.pointer (some ⟨bw, 0, none⟩), Value.pointer (some ⟨bw, 0, none⟩), Value.pointer (some ⟨bw, 0, none⟩), Value.pointer (some ⟨bw, 0, none⟩), v, Value.int .u64 ((n : Nat) : Int), Value.int .i64 ((k : Nat) : Int), undef, undef] (fun w => w.heap[bw]? = some (.cells #[v, Value.int .i64 ((er : Nat) : Int)] 31 (0, 0))) [fun vs w => Hp w0 [] w (Ent.blk bw 31 #[v, Value.int .i64 ((er : Nat) : Int)] :: Ent.own v 5 1 l.length (us .u8 l) :: X), fun vs w => ∃ v14_, vs[0]? = some (v14_) ∧ Hp w0 [] w (Ent.own v14_ 5 1 k (us .u8 (Pk.digs n k)) :: Ent.blk bw 31 #[v, Value.int .i64 ((er : Nat) : Int)] :: Ent.own v 5 1 l.length (us .u8 l) :: X), fun _ _ => False, fun vs w => ∃ v14_, ∃ v15_, vs[0]? = some (v14_) ∧ vs[1]? = some (v15_) ∧ Hp w0 [] w (Ent.own v14_ 5 1 k (us .u8 (Pk.digs n k)) :: Ent.blk bw 31 #[v, Value.int .i64 ((er : Nat) : Int)] :: Ent.own v15_ 5 1 (l.length + k) (us .u8 (l ++ (Pk.digs n k))) :: X)] T_mixed (by kernel_rfl) ⟨fun _ _ H => H.get 0 rfl, fun _ _ h => by obtain ⟨_, _, H⟩ := h; exact H.get 1 rfl, fun _ _ h => h.elim, fun _ _ h => by obtain ⟨_, _, _, _, H⟩ := h; exact H.get 1 rfl, trivial⟩ ⟨fun _ _ _ hkp H => H.keep hkp, fun _ _ _ hkp h => by obtain ⟨q0, q1, H⟩ := h; exact ⟨q0, q1, H.keep hkp⟩, fun _ _ _ _ h => h.elim, fun _ _ _ hkp h => by obtain ⟨q0, q1, q2, q3, H⟩ := h; exact ⟨q0, q1, q2, q3, H.keep hkp⟩, trivial⟩ H ?_ ?_
          ·
            refine .plain rfl (Pl_y rfl (fun w hBw => congrArg (fun v => Result.ok (Next.value v) w) p_0)) ?_
            refine .plain rfl (Pl_y rfl (fun w hBw => congrArg (fun v => Result.ok (Next.value v) w) p_0)) ?_
            refine .plain rfl (Pl_y rfl (fun w hBw => Y_nil rfl)) ?_
            refine .plain rfl (Pl_y rfl (fun w hBw => Y_fld T_fld31_0 rfl rfl rfl)) ?_
            refine .plain rfl (Pl_y rfl (fun w hBw => Y_ldb T_scal25 hBw rfl rfl)) ?_
            refine .plain rfl (Pl_y rfl (fun w hBw => congrArg (fun v => Result.ok (Next.value v) w) p_1)) ?_
            refine .plain rfl (Pl_y rfl (fun w hBw => congrArg (fun v => Result.ok (Next.value v) w) (p_2.trans (congrArg (Value.int .i64) hk)))) ?_
            refine .special 0 rfl (Special.of ⟨⟨⟨⟨trivial, fun _ _ _ e' w' hAg hYs => by
                have H : Hp w0 [] w' (Ent.blk bw 31 #[v, Value.int .i64 ((er : Nat) : Int)] :: Ent.own v 5 1 l.length (us .u8 l) :: X) := hYs
                exact ⟨rfl, Dn_callv T_en28 (A2 ((hAg 12 rfl).trans rfl) ((hAg 13 rfl).trans rfl)) ((digits n k _ hn (by omega) (by omega)).mono (fun r_ w2 h => by obtain ⟨v14_, rfl, h⟩ := h; have Hn := H.more h; exact ⟨_, rfl, ⟨v14_, rfl, Hn⟩⟩))⟩⟩, fun h => absurd h (by decide)⟩, fun _ _ h => absurd (by decide) (h 1 8 rfl (by decide))⟩, fun h => absurd h (by decide)⟩) ?_
            refine .special 1 rfl (Special.of ⟨⟨⟨⟨trivial, fun _ h => absurd (h 0 7 rfl (by decide)) (by decide)⟩, fun _ _ _ e' w' hAg hYs => by
                obtain ⟨v14_, q0, H⟩ := hYs
                exact ⟨rfl, Dn_appO H (i := 2) (j := 0) rfl rfl T_sl25 T_zero5 rfl T_szb5 ((hAg 11 rfl).trans rfl) (Option.some.inj q0) (by omega) (fun v2 w2 Hn => ⟨v14_, _, q0, rfl, Hn⟩)⟩⟩, fun h => absurd h (by decide)⟩, fun h => absurd h (by decide)⟩) ?_
            exact .nil _
          ·
            intro e_3 w_7 hAg hYs
            obtain ⟨v14__2, v15__2, q0, q1, H_8⟩ := hYs
            have e_3_14 : e_3 14 = v14__2 := Option.some.inj q0
            have e_3_15 : e_3 15 = v15__2 := Option.some.inj q1
            have e_3_0 : e_3 0 = Value.pointer (some ⟨bw, 0, none⟩) := (hAg 0 rfl).trans p_0
            have e_3_7 : e_3 7 = Value.pointer (some ⟨bw, 0, none⟩) := (hAg 7 rfl).trans rfl
            refine L_y rfl (Y_nil e_3_7) ?_
            refine L_y rfl (Y_fld T_fld31_0 rfl rfl rfl) ?_
            refine L_st (v := v15__2) T_scal25 H_8 (i := 1) rfl rfl e_3_15 (own_one H_8 (i := 2) rfl) (Nat.le_of_ble_eq_true rfl) (l' := (Ent.own v14__2 5 1 k (us .u8 (Pk.digs n k)) :: Ent.blk bw 31 #[v15__2, Value.int .i64 ((er : Nat) : Int)] :: Ent.own v15__2 5 1 (l.length + k) (us .u8 (l ++ (Pk.digs n k))) :: X)) rfl ?_; intro w_8 H_9
            refine L_nil ?_
            refine InB_n ?_
            refine Th_n ?_
            refine W_seq ?_
            refine W_rg ?_
            refine L_mv rfl ?_
            refine L_as rfl ?_
            refine L_nil ?_
            refine Th_n ?_
            refine W_ret ?_
            refine P_ret (vs := [Value.pointer (some ⟨bw, 0, none⟩)]) (v := Value.pointer (some ⟨bw, 0, none⟩)) rfl (.tmp e_3_0 (Res.nil)) rfl ?_
            have H_10 : Hp w0 [] w_8 (Ent.blk bw 31 #[v15__2, Value.int .i64 ((er : Nat) : Int)] :: Ent.own v15__2 5 1 (l.length + k) (us .u8 (l ++ (Pk.digs n k))) :: X) := H_9.erase 0
            have hm : Pk.num l er n s = (l ++ (Pk.digs n k), er) := by first | (simp only [Pk.num]; (repeat (first | rw [if_pos (by omega)] | rw [if_neg (by omega)])); done) | (simp only [Pk.num, hk, Int.toNat_natCast]; (repeat (first | rw [if_pos (by omega)] | rw [if_neg (by omega)])); done) | (obtain rfl : er = 0 := (by omega); simp only [Pk.num, hk, Int.toNat_natCast]; rw [if_neg (by omega), if_neg (by omega), if_neg (by intro hh; omega)])
            refine ⟨v15__2, rfl, ?_⟩; rw [hm]; have h := H_10; simp only [List.length_append, List.length_cons, List.length_nil, List.length_map, List.length_range, Pk.digs_len, Nat.zero_add, Nat.add_assoc] at h ⊢; exact h

theorem rText {w0 w : World} {X : List Ent} {bw : Nat} {v : Value} {l : List Nat} {er : Nat} {a : Option Addr} {m c : Nat} {b : List Nat} (hlt : ∀ u ∈ l, u < 256) (hm : l.length + m ≤ 4000000000) (hsb : Seen w0 X .u8 a m c b) (hst : ∀ u ∈ b, u < 256) (H : Hp w0 [] w (.blk bw 31 #[v, .int .i64 ((er : Nat) : Int)] :: .own v 5 1 l.length (us .u8 l) :: X)) :
    Calls Try.prog 14 #[Value.pointer (some ⟨bw, 0, none⟩), Value.slice a m c] w (fun r_ w' => ∃ v', r_ = .returned (Value.pointer (some ⟨bw, 0, none⟩)) ∧ Hp w0 [] w' (.blk bw 31 #[v', .int .i64 (((Pk.text l er b).2 : Nat) : Int)] :: .own v' 5 1 (Pk.text l er b).1.length (us .u8 (Pk.text l er b).1) :: X)) := by
  have hbl : b.length = m := hsb.len H (fun _ h_ => .tail _ (.tail _ (h_)))
  refine F_in Try.func14 rfl Try.ntmps14 rfl ?_
  intro e he
  have p_0 : e 0 = Value.pointer (some ⟨bw, 0, none⟩) := he 0 _ rfl
  have p_1 : e 1 = Value.slice a m c := he 1 _ rfl
  refine W_seq ?_
  refine W_rg ?_
  refine L_as rfl ?_
  refine L_nil ?_
  refine Th_n ?_
  refine W_seq ?_
  refine W_seq ?_
  refine W_rg ?_
  refine L_mv rfl ?_
  refine L_y rfl (Y_nil p_0) ?_
  refine L_y rfl (Y_fld T_fld31_1 rfl rfl rfl) ?_
  refine L_y rfl (Y_ld T_scal26 H (i := 0) rfl rfl rfl) ?_
  refine L_y rfl (Y_neq (k := .i64) (a := ((er : Nat) : Int)) (b := ((0 : Nat) : Int)) rfl rfl) ?_
  refine L_nil ?_
  refine Th_n ?_
  refine W_cond (b := (((er : Nat) : Int) != ((0 : Nat) : Int))) rfl (fun hc => ?_) (fun hc => ?_)
  ·
    have hc' := ne_of_bne hc
    refine W_seq ?_
    refine W_rg ?_
    refine L_mv rfl ?_
    refine L_as rfl ?_
    refine L_nil ?_
    refine Th_n ?_
    refine W_ret ?_
    refine Th_r ?_
    refine P_ret (vs := [Value.pointer (some ⟨bw, 0, none⟩)]) (v := Value.pointer (some ⟨bw, 0, none⟩)) rfl (.tmp p_0 (Res.nil)) rfl ?_
    have hm : Pk.text l er b = (l, er) := by first | (simp only [Pk.text, hbl]; (repeat (first | rw [if_pos (by omega)] | rw [if_neg (by omega)])); done) | (obtain rfl : er = 0 := (by omega); exact Pk.rtext hbl (by omega))
    refine ⟨v, rfl, ?_⟩; rw [hm]; have h := H; simp only [List.length_append, List.length_cons, List.length_nil, List.length_map, List.length_range, Pk.digs_len, Nat.zero_add, Nat.add_assoc, hbl] at h ⊢; exact h
  ·
    have hc' := eq_of_bne_false hc
    refine W_skip ?_
    refine Th_n ?_
    refine W_seq ?_
    refine W_seq ?_
    refine W_rg ?_
    refine L_mv rfl ?_
    refine L_y rfl (Y_lenS T_sl25 p_1) ?_
    refine L_y rfl (Y_gtr (k := .i64) (a := ((m : Nat) : Int)) (b := ((60000 : Nat) : Int)) rfl rfl) ?_
    refine L_nil ?_
    refine Th_n ?_
    refine W_cond (b := (decide (((60000 : Nat) : Int) < ((m : Nat) : Int)))) rfl (fun hc_2 => ?_) (fun hc_2 => ?_)
    ·
      have hc_2' := of_decide_eq_true hc_2
      refine W_seq ?_
      refine W_rg ?_
      refine L_mv rfl ?_
      refine L_y rfl (Y_nil p_0) ?_
      refine L_y rfl (Y_fld T_fld31_1 rfl rfl rfl) ?_
      refine L_st (v := Value.int .i64 ((3 : Nat) : Int)) T_scal26 H (i := 0) rfl rfl rfl rfl (Nat.le_of_ble_eq_true rfl) (l' := (Ent.blk bw 31 #[v, Value.int .i64 ((3 : Nat) : Int)] :: Ent.own v 5 1 l.length (us .u8 l) :: X)) rfl ?_; intro w_2 H_2
      refine L_nil ?_
      refine Th_n ?_
      refine W_seq ?_
      refine W_rg ?_
      refine L_mv rfl ?_
      refine L_as rfl ?_
      refine L_nil ?_
      refine Th_n ?_
      refine W_ret ?_
      refine Th_r ?_
      refine P_ret (vs := [Value.pointer (some ⟨bw, 0, none⟩)]) (v := Value.pointer (some ⟨bw, 0, none⟩)) rfl (.tmp p_0 (Res.nil)) rfl ?_
      have hm : Pk.text l er b = (l, 3) := by first | (simp only [Pk.text, hbl]; (repeat (first | rw [if_pos (by omega)] | rw [if_neg (by omega)])); done) | (obtain rfl : er = 0 := (by omega); exact Pk.rtext hbl (by omega))
      refine ⟨v, rfl, ?_⟩; rw [hm]; have h := H_2; simp only [List.length_append, List.length_cons, List.length_nil, List.length_map, List.length_range, Pk.digs_len, Nat.zero_add, Nat.add_assoc, hbl] at h ⊢; exact h
    ·
      have hc_2' := of_decide_eq_false hc_2
      refine W_skip ?_
      refine Th_n ?_
      refine W_seq ?_
      refine W_rg ?_
      refine L_mv rfl ?_
      refine L_mv rfl ?_
      refine L_y rfl (Y_lenS T_sl25 p_1) ?_
      refine L_y rfl (Y_convI (k := .i64) (n := ((m : Nat) : Int)) (z := ((m : Nat) : Int)) T_some3 T_kind32 rfl (wrapS rfl (by first | decide | (show _ < 18446744073709551616; omega)))) ?_
      refine L_callv rfl rfl T_en10 (A3 p_0 rfl rfl) (rNum (l := l) (er := er) m ((2 : Nat) : Int) (by show _ < 18446744073709551616; omega) (by omega) hlt H) ?_
      rintro _ w_3 ⟨v22, rfl, H_3⟩; refine ⟨_, rfl, ?_⟩
      have hq := Pk.num_len (l := l) (e := er) (n := m) (s := ((2 : Nat) : Int))
      refine L_mv rfl ?_
      refine L_callv rfl rfl T_en12 (A2 rfl p_1) (rRaw (l := (Pk.num l er m ((2 : Nat) : Int)).1) (er := (Pk.num l er m ((2 : Nat) : Int)).2)  (Pk.num_lt hlt) (by omega) (hsb.mono (fun _ h_ => h_)) hst H_3) ?_
      rintro _ w_4 ⟨v24, rfl, H_4⟩; refine ⟨_, rfl, ?_⟩
      have hq_2 := Pk.raw_len (l := ((Pk.num l er m ((2 : Nat) : Int)).1)) (e := ((Pk.num l er m ((2 : Nat) : Int)).2)) (b := b)
      refine L_as rfl ?_
      refine L_nil ?_
      refine Th_n ?_
      refine W_ret ?_
      refine P_ret (vs := [Value.pointer (some ⟨bw, 0, none⟩)]) (v := Value.pointer (some ⟨bw, 0, none⟩)) rfl (.tmp rfl (Res.nil)) rfl ?_
      have hm : Pk.text l er b = ((Pk.raw ((Pk.num l er m ((2 : Nat) : Int)).1) ((Pk.num l er m ((2 : Nat) : Int)).2) b).1, (Pk.raw ((Pk.num l er m ((2 : Nat) : Int)).1) ((Pk.num l er m ((2 : Nat) : Int)).2) b).2) := by first | (simp only [Pk.text, hbl]; (repeat (first | rw [if_pos (by omega)] | rw [if_neg (by omega)])); done) | (obtain rfl : er = 0 := (by omega); exact Pk.rtext hbl (by omega))
      refine ⟨v24, rfl, ?_⟩; rw [hm]; have h := H_4; simp only [List.length_append, List.length_cons, List.length_nil, List.length_map, List.length_range, Pk.digs_len, Nat.zero_add, Nat.add_assoc, hbl] at h ⊢; exact h
end Go.Proofs.Ytidepfhfconkaaa
