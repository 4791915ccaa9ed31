/- Walks of layer 17 (pack) and of its reference. Printed by pack.py. -/
import Derived.Test.YtidepfhfconkaaaK1
namespace Go.Proofs.Ytidepfhfconkaaa
open Go.Ev
set_option maxRecDepth 100000
set_option linter.unusedVariables false
set_option linter.unusedSimpArgs false
theorem T_fld28_1 : fldOf Try.prog 28 1 = some (1, 1) := by kernel_rfl
theorem T_scal26 : scal Try.prog 26 = true := by kernel_rfl
theorem T_fld28_0 : fldOf Try.prog 28 0 = some (0, 1) := by kernel_rfl
theorem T_scal25 : scal Try.prog 25 = true := by kernel_rfl
theorem T_some32 : (Try.prog.underlying 32).isSome = true := by kernel_rfl
theorem T_kind5 : kindOf Try.prog 5 = some .u8 := by kernel_rfl
theorem T_mixed : Try.prog.follows .mixedOrders = true := by kernel_rfl
theorem T_zero5 : zeroOf Try.prog 5 = some (ua .u8 [0]) := by kernel_rfl
theorem T_szb5 : szOf Try.prog 5 = some 1 := by kernel_rfl
theorem T_fld31_1 : fldOf Try.prog 31 1 = some (1, 1) := by kernel_rfl
theorem T_fld31_0 : fldOf Try.prog 31 0 = some (0, 1) := by kernel_rfl
theorem wNum {w0 w : World} {X : List Ent} {bw : Nat} {v : Value} {l : List Nat} {er : Nat} (n : Nat) (s : Int) (hn : n < 18446744073709551616) (hl : l.length ≤ 4000000000) (hlt : ∀ u ∈ l, u < 256) (H : Hp w0 [] w (.blk bw 28 #[v, .int .i64 ((er : Nat) : Int)] :: .own v 5 1 l.length (us .u8 l) :: X)) :
    Calls Try.prog 9 #[Value.pointer (some ⟨bw, 0, none⟩), Value.int .u64 ((n : Nat) : Int), Value.int .i64 (s)] w (fun r_ w' => ∃ v', r_ = .returned (Value.pointer (some ⟨bw, 0, none⟩)) ∧ Hp w0 [] w' (.blk bw 28 #[v', .int .i64 (((Pk.num l er n s).2 : Nat) : Int)] :: .own v' 5 1 (Pk.num l er n s).1.length (us .u8 (Pk.num l er n s).1) :: X)) := by
  refine F_in Try.func9 rfl Try.ntmps9 rfl ?_
  intro e he
  have p_0 : e 0 = Value.pointer (some ⟨bw, 0, none⟩) := he 0 _ rfl
  have p_1 : e 1 = Value.int .u64 ((n : Nat) : Int) := he 1 _ rfl
  have p_2 : e 2 = Value.int .i64 (s) := he 2 _ rfl
  refine W_seq ?_
  refine W_rg ?_
  refine L_as rfl ?_
  refine L_nil ?_
  refine Th_n ?_
  refine W_seq ?_
  refine W_block ?_
  refine W_seq ?_
  refine W_rg ?_
  refine L_mv rfl ?_
  refine L_y rfl (Y_eqP Try.underlying35 p_0 rfl) ?_
  refine L_mv rfl ?_
  refine G_mv (wE rfl rfl) rfl ?_
  refine G_y (wE rfl rfl) rfl (Y_nil p_0) ?_
  refine G_y (wE rfl rfl) rfl (Y_fld T_fld28_1 rfl rfl rfl) ?_
  refine G_y (wE rfl rfl) rfl (Y_ld T_scal26 H (i := 0) rfl rfl rfl) ?_
  refine G_y (wE rfl rfl) rfl (Y_neq (k := .i64) (a := ((er : Nat) : Int)) (b := ((0 : Nat) : Int)) rfl rfl) ?_
  refine L_y rfl (Y_pickF rfl) ?_
  refine L_as rfl ?_
  refine L_nil ?_
  refine Th_n ?_
  refine W_cond (b := (((er : Nat) : Int) != ((0 : Nat) : Int))) rfl (fun hc => ?_) (fun hc => ?_)
  ·
    have hc' := ne_of_bne hc
    refine W_seq ?_
    refine W_rg ?_
    refine L_mv rfl ?_
    refine L_as rfl ?_
    refine L_nil ?_
    refine Th_n ?_
    refine W_ret ?_
    refine InB_r ?_
    refine Th_r ?_
    refine P_ret (vs := [Value.pointer (some ⟨bw, 0, none⟩)]) (v := Value.pointer (some ⟨bw, 0, none⟩)) rfl (.tmp p_0 (Res.nil)) rfl ?_
    have hm : Pk.num l er n s = (l, er) := by first | (simp only [Pk.num]; (repeat (first | rw [if_pos (by omega)] | rw [if_neg (by omega)])); done) | (simp only [Pk.num, hk, Int.toNat_natCast]; (repeat (first | rw [if_pos (by omega)] | rw [if_neg (by omega)])); done) | (obtain rfl : er = 0 := (by omega); obtain rfl : i = k := (by omega); simp only [Pk.num, hk, Int.toNat_natCast, Pk.digs]; rw [if_neg (by omega), if_neg (by omega), if_neg (by intro hh; omega)])
    refine ⟨v, rfl, ?_⟩; rw [hm]; have h := H; simp only [List.length_append, List.length_cons, List.length_nil, List.length_map, List.length_range, Pk.digs_len, Nat.zero_add, Nat.add_assoc] at h ⊢; exact h
  ·
    have hc' := eq_of_bne_false hc
    refine W_seq ?_
    refine W_rg ?_
    refine L_mv rfl ?_
    refine L_y rfl (Y_lss (k := .i64) (a := s) (b := ((1 : Nat) : Int)) p_2 rfl) ?_
    refine L_mv rfl ?_
    rcases Bool.eq_false_or_eq_true (decide (s < ((1 : Nat) : Int))) with hb | hb
    ·
      have hb' := of_decide_eq_true hb
      refine G_no (wN (b := false) rfl (congrArg Value.bool hb)) rfl ?_
      refine G_no (wN (b := false) rfl (congrArg Value.bool hb)) rfl ?_
      refine L_y rfl (Y_pickT (congrArg Value.bool hb)) ?_
      refine L_as rfl ?_
      refine L_nil ?_
      refine Th_n ?_
      refine W_true rfl ?_
      refine W_seq ?_
      refine W_rg ?_
      refine L_mv rfl ?_
      refine L_y rfl (Y_nil p_0) ?_
      refine L_y rfl (Y_fld T_fld28_1 rfl rfl rfl) ?_
      refine L_st (v := Value.int .i64 ((2 : Nat) : Int)) T_scal26 H (i := 0) rfl rfl rfl rfl (Nat.le_of_ble_eq_true rfl) (l' := (Ent.blk bw 28 #[v, Value.int .i64 ((2 : Nat) : Int)] :: Ent.own v 5 1 l.length (us .u8 l) :: X)) rfl ?_; intro w_2 H_2
      refine L_nil ?_
      refine Th_n ?_
      refine W_seq ?_
      refine W_rg ?_
      refine L_mv rfl ?_
      refine L_as rfl ?_
      refine L_nil ?_
      refine Th_n ?_
      refine W_ret ?_
      refine InB_r ?_
      refine Th_r ?_
      refine P_ret (vs := [Value.pointer (some ⟨bw, 0, none⟩)]) (v := Value.pointer (some ⟨bw, 0, none⟩)) rfl (.tmp p_0 (Res.nil)) rfl ?_
      have hm : Pk.num l er n s = (l, 2) := by first | (simp only [Pk.num]; (repeat (first | rw [if_pos (by omega)] | rw [if_neg (by omega)])); done) | (simp only [Pk.num, hk, Int.toNat_natCast]; (repeat (first | rw [if_pos (by omega)] | rw [if_neg (by omega)])); done) | (obtain rfl : er = 0 := (by omega); obtain rfl : i = k := (by omega); simp only [Pk.num, hk, Int.toNat_natCast, Pk.digs]; rw [if_neg (by omega), if_neg (by omega), if_neg (by intro hh; omega)])
      refine ⟨v, rfl, ?_⟩; rw [hm]; have h := H_2; simp only [List.length_append, List.length_cons, List.length_nil, List.length_map, List.length_range, Pk.digs_len, Nat.zero_add, Nat.add_assoc] at h ⊢; exact h
    ·
      have hb' := of_decide_eq_false hb
      refine G_mv (wE rfl (congrArg Value.bool hb)) rfl ?_
      refine G_y (wE rfl (congrArg Value.bool hb)) rfl (Y_gtr (k := .i64) (a := s) (b := ((8 : Nat) : Int)) p_2 rfl) ?_
      refine L_y rfl (Y_pickF (congrArg Value.bool hb)) ?_
      refine L_as rfl ?_
      refine L_nil ?_
      refine Th_n ?_
      refine W_cond (b := (decide (((8 : Nat) : Int) < s))) rfl (fun hc_2 => ?_) (fun hc_2 => ?_)
      ·
        have hc_2' := of_decide_eq_true hc_2
        refine W_seq ?_
        refine W_rg ?_
        refine L_mv rfl ?_
        refine L_y rfl (Y_nil p_0) ?_
        refine L_y rfl (Y_fld T_fld28_1 rfl rfl rfl) ?_
        refine L_st (v := Value.int .i64 ((2 : Nat) : Int)) T_scal26 H (i := 0) rfl rfl rfl rfl (Nat.le_of_ble_eq_true rfl) (l' := (Ent.blk bw 28 #[v, Value.int .i64 ((2 : Nat) : Int)] :: Ent.own v 5 1 l.length (us .u8 l) :: X)) rfl ?_; intro w_3 H_3
        refine L_nil ?_
        refine Th_n ?_
        refine W_seq ?_
        refine W_rg ?_
        refine L_mv rfl ?_
        refine L_as rfl ?_
        refine L_nil ?_
        refine Th_n ?_
        refine W_ret ?_
        refine InB_r ?_
        refine Th_r ?_
        refine P_ret (vs := [Value.pointer (some ⟨bw, 0, none⟩)]) (v := Value.pointer (some ⟨bw, 0, none⟩)) rfl (.tmp p_0 (Res.nil)) rfl ?_
        have hm : Pk.num l er n s = (l, 2) := by first | (simp only [Pk.num]; (repeat (first | rw [if_pos (by omega)] | rw [if_neg (by omega)])); done) | (simp only [Pk.num, hk, Int.toNat_natCast]; (repeat (first | rw [if_pos (by omega)] | rw [if_neg (by omega)])); done) | (obtain rfl : er = 0 := (by omega); obtain rfl : i = k := (by omega); simp only [Pk.num, hk, Int.toNat_natCast, Pk.digs]; rw [if_neg (by omega), if_neg (by omega), if_neg (by intro hh; omega)])
        refine ⟨v, rfl, ?_⟩; rw [hm]; have h := H_3; simp only [List.length_append, List.length_cons, List.length_nil, List.length_map, List.length_range, Pk.digs_len, Nat.zero_add, Nat.add_assoc] at h ⊢; exact h
      ·
        have hc_2' := of_decide_eq_false hc_2
        obtain ⟨k, hk⟩ : ∃ k : Nat, s = (k : Int) := ⟨s.toNat, by omega⟩
        refine W_seq ?_
        refine W_rg ?_
        refine L_mv rfl ?_
        refine L_mv rfl ?_
        refine L_y rfl (Y_mul (k := .i64) (a := ((8 : Nat) : Int)) (b := ((k : Nat) : Int)) (z := ((8 * k : Nat) : Int)) rfl (p_2.trans (congrArg (Value.int .i64) hk)) (wi (by omega))) ?_
        refine L_yr (z := n / 2 ^ (8 * k)) (m := 18446744073709551616) rfl (Yu_shr (k := .u64) n (8 * k) hn p_1 rfl) (Nat.lt_of_le_of_lt (Nat.div_le_self _ _) hn) ?_; intro x34 hx34 rx34
        refine L_y rfl (Y_neq (k := .u64) (a := ((x34 : Nat) : Int)) (b := ((0 : Nat) : Int)) rfl rfl) ?_
        refine L_mv rfl ?_
        rcases Bool.eq_false_or_eq_true (((x34 : Nat) : Int) != ((0 : Nat) : Int)) with hb_2 | hb_2
        ·
          have hb_2' := ne_of_bne hb_2
          refine G_mv (wE rfl (congrArg Value.bool hb_2)) rfl ?_
          refine G_y (wE rfl (congrArg Value.bool hb_2)) rfl (Y_lss (k := .i64) (a := ((k : Nat) : Int)) (b := ((8 : Nat) : Int)) (p_2.trans (congrArg (Value.int .i64) hk)) rfl) ?_
          refine L_y rfl (Y_pickT (congrArg Value.bool hb_2)) ?_
          refine L_as rfl ?_
          refine L_nil ?_
          refine Th_n ?_
          refine W_cond (b := (decide (((k : Nat) : Int) < ((8 : Nat) : Int)))) rfl (fun hc_3 => ?_) (fun hc_3 => ?_)
          ·
            have hc_3' := of_decide_eq_true hc_3
            refine W_seq ?_
            refine W_rg ?_
            refine L_mv rfl ?_
            refine L_y rfl (Y_nil p_0) ?_
            refine L_y rfl (Y_fld T_fld28_1 rfl rfl rfl) ?_
            refine L_st (v := Value.int .i64 ((6 : Nat) : Int)) T_scal26 H (i := 0) rfl rfl rfl rfl (Nat.le_of_ble_eq_true rfl) (l' := (Ent.blk bw 28 #[v, Value.int .i64 ((6 : Nat) : Int)] :: Ent.own v 5 1 l.length (us .u8 l) :: X)) rfl ?_; intro w_4 H_4
            refine L_nil ?_
            refine Th_n ?_
            refine W_seq ?_
            refine W_rg ?_
            refine L_mv rfl ?_
            refine L_as rfl ?_
            refine L_nil ?_
            refine Th_n ?_
            refine W_ret ?_
            refine InB_r ?_
            refine Th_r ?_
            refine P_ret (vs := [Value.pointer (some ⟨bw, 0, none⟩)]) (v := Value.pointer (some ⟨bw, 0, none⟩)) rfl (.tmp p_0 (Res.nil)) rfl ?_
            have hm : Pk.num l er n s = (l, 6) := by first | (simp only [Pk.num]; (repeat (first | rw [if_pos (by omega)] | rw [if_neg (by omega)])); done) | (simp only [Pk.num, hk, Int.toNat_natCast]; (repeat (first | rw [if_pos (by omega)] | rw [if_neg (by omega)])); done) | (obtain rfl : er = 0 := (by omega); obtain rfl : i = k := (by omega); simp only [Pk.num, hk, Int.toNat_natCast, Pk.digs]; rw [if_neg (by omega), if_neg (by omega), if_neg (by intro hh; omega)])
            refine ⟨v, rfl, ?_⟩; rw [hm]; have h := H_4; simp only [List.length_append, List.length_cons, List.length_nil, List.length_map, List.length_range, Pk.digs_len, Nat.zero_add, Nat.add_assoc] at h ⊢; exact h
          ·
            have hc_3' := of_decide_eq_false hc_3
            refine W_skip ?_
            refine InB_n ?_
            refine Th_n ?_
            refine W_seq ?_
            refine W_seq ?_
            refine W_rg ?_
            refine L_mv rfl ?_
            refine L_mv rfl ?_
            refine L_nil ?_
            refine Th_n ?_
            refine W_block ?_
            have H_5 : Hp w0 [] w (Ent.blk bw 28 #[v, Value.int .i64 ((er : Nat) : Int)] :: Ent.own v 5 1 (l.length + 0) (us .u8 (l ++ (List.range 0).map fun j_ => n / 2 ^ (8 * (k - 1 - j_)) % 256)) :: X) := H.asL (i := 1) rfl (Nat.add_zero _).symm (by simp) rfl
            refine W_loop (fun mu_ e w => ∃ i : Nat, ∃ vi : Value, mu_ = k - i ∧ e 0 = Value.pointer (some ⟨bw, 0, none⟩) ∧ e 1 = Value.int .u64 ((n : Nat) : Int) ∧ e 2 = Value.int .i64 ((k : Nat) : Int) ∧ e 44 = Value.int .i64 ((k : Nat) : Int) ∧ e 45 = Value.int .i64 ((i : Nat) : Int) ∧ Hp w0 [] w (Ent.blk bw 28 #[vi, Value.int .i64 ((er : Nat) : Int)] :: Ent.own vi 5 1 (l.length + i) (us .u8 (l ++ (List.range i).map fun j_ => n / 2 ^ (8 * (k - 1 - j_)) % 256)) :: X) ∧ i ≤ k) _ ⟨0, v, rfl, p_0, p_1, (p_2.trans (congrArg (Value.int .i64) hk)), (p_2.trans (congrArg (Value.int .i64) hk)), rfl, H_5, (Nat.zero_le _)⟩ ?_
            rintro mu_ e_2 w_5 ⟨i, vi, rfl, e_2_0, e_2_1, e_2_2, e_2_44, e_2_45, H_6, hi⟩
            refine W_seq ?_
            refine W_rg ?_
            refine L_y rfl (Y_lss (k := .i64) (a := ((i : Nat) : Int)) (b := ((k : Nat) : Int)) e_2_45 e_2_44) ?_
            refine L_nil ?_
            refine Th_n ?_
            refine W_seq ?_
            refine W_cond (b := (decide (((i : Nat) : Int) < ((k : Nat) : Int)))) rfl (fun hc_4 => ?_) (fun hc_4 => ?_)
            ·
              have hc_4' := of_decide_eq_true hc_4
              refine W_skip ?_
              refine Th_n ?_
              refine W_seq ?_
              refine W_block ?_
              refine W_seq ?_
              refine W_rg ?_
              refine L_mv rfl ?_
              refine L_as rfl ?_
              refine L_nil ?_
              refine Th_n ?_
              refine W_anyL 15 [13, 14] [61, 62] [Value.pointer (some ⟨bw, 0, none⟩), Value.pointer (some ⟨bw, 0, none⟩), Value.pointer (some ⟨bw, 0, none⟩), Value.pointer (some ⟨bw, 0, none⟩), vi, Value.int .u64 ((n : Nat) : Int), Value.int .i64 ((k : Nat) : Int), Value.int .i64 ((k - 1 : Nat) : Int), Value.int .i64 ((i : Nat) : Int), Value.int .i64 (((k - 1) - i : Nat) : Int), Value.int .i64 ((8 * ((k - 1) - i) : Nat) : Int), Value.int .u64 ((n / 2 ^ (8 * ((k - 1) - i)) : Nat) : Int), Value.int .u8 (((n / 2 ^ (8 * ((k - 1) - i))) % 256 : Nat) : Int), undef, undef] (fun w => w.heap[bw]? = some (.cells #[vi, Value.int .i64 ((er : Nat) : Int)] 28 (0, 0))) [fun vs w => Hp w0 [] w (Ent.blk bw 28 #[vi, Value.int .i64 ((er : Nat) : Int)] :: Ent.own vi 5 1 (l.length + i) (us .u8 (l ++ (List.range i).map fun j_ => n / 2 ^ (8 * (k - 1 - j_)) % 256)) :: X), fun vs w => ∃ bk61_, vs[0]? = some (Value.slice (some ⟨bk61_, 0, none⟩) 1 1) ∧ Hp w0 [] w (Ent.blk bk61_ 5 (ua .u8 [(n / 2 ^ (8 * ((k - 1) - i))) % 256]) :: Ent.blk bw 28 #[vi, Value.int .i64 ((er : Nat) : Int)] :: Ent.own vi 5 1 (l.length + i) (us .u8 (l ++ (List.range i).map fun j_ => n / 2 ^ (8 * (k - 1 - j_)) % 256)) :: X), fun _ _ => False, fun vs w => ∃ bk61_, ∃ v62_, vs[0]? = some (Value.slice (some ⟨bk61_, 0, none⟩) 1 1) ∧ vs[1]? = some (v62_) ∧ Hp w0 [] w (Ent.blk bk61_ 5 (ua .u8 [(n / 2 ^ (8 * ((k - 1) - i))) % 256]) :: Ent.blk bw 28 #[vi, Value.int .i64 ((er : Nat) : Int)] :: Ent.own v62_ 5 1 ((l.length + i) + 1) (us .u8 ((l ++ (List.range i).map fun j_ => n / 2 ^ (8 * (k - 1 - j_)) % 256) ++ [(n / 2 ^ (8 * ((k - 1) - i))) % 256])) :: X)] T_mixed (by kernel_rfl) ⟨fun _ _ H => H.get 0 rfl, fun _ _ h => by obtain ⟨_, _, H⟩ := h; exact H.get 1 rfl, fun _ _ h => h.elim, fun _ _ h => by obtain ⟨_, _, _, _, H⟩ := h; exact H.get 1 rfl, trivial⟩ ⟨fun _ _ _ hkp H => H.keep hkp, fun _ _ _ hkp h => by obtain ⟨q0, q1, H⟩ := h; exact ⟨q0, q1, H.keep hkp⟩, fun _ _ _ _ h => h.elim, fun _ _ _ hkp h => by obtain ⟨q0, q1, q2, q3, H⟩ := h; exact ⟨q0, q1, q2, q3, H.keep hkp⟩, trivial⟩ H_6 ?_ ?_
              ·
                refine .plain rfl (Pl_y rfl (fun w hBw => congrArg (fun v => Result.ok (Next.value v) w) e_2_0)) ?_
                refine .plain rfl (Pl_y rfl (fun w hBw => congrArg (fun v => Result.ok (Next.value v) w) e_2_0)) ?_
                refine .plain rfl (Pl_y rfl (fun w hBw => Y_nil rfl)) ?_
                refine .plain rfl (Pl_y rfl (fun w hBw => Y_fld T_fld28_0 rfl rfl rfl)) ?_
                refine .plain rfl (Pl_y rfl (fun w hBw => Y_ldb T_scal25 hBw rfl rfl)) ?_
                refine .plain rfl (Pl_y rfl (fun w hBw => congrArg (fun v => Result.ok (Next.value v) w) e_2_1)) ?_
                refine .plain rfl (Pl_y rfl (fun w hBw => congrArg (fun v => Result.ok (Next.value v) w) e_2_2)) ?_
                refine .plain rfl (Pl_y rfl (fun w hBw => Y_sub (k := .i64) (a := ((k : Nat) : Int)) (b := ((1 : Nat) : Int)) (z := ((k - 1 : Nat) : Int)) rfl rfl (wi (by omega)))) ?_
                refine .plain rfl (Pl_y rfl (fun w hBw => congrArg (fun v => Result.ok (Next.value v) w) e_2_45)) ?_
                refine .plain rfl (Pl_y rfl (fun w hBw => Y_sub (k := .i64) (a := ((k - 1 : Nat) : Int)) (b := ((i : Nat) : Int)) (z := (((k - 1) - i : Nat) : Int)) rfl rfl (wi (by omega)))) ?_
                refine .plain rfl (Pl_y rfl (fun w hBw => Y_mul (k := .i64) (a := ((8 : Nat) : Int)) (b := (((k - 1) - i : Nat) : Int)) (z := ((8 * ((k - 1) - i) : Nat) : Int)) rfl rfl (wi (by omega)))) ?_
                refine .plain rfl (Pl_y rfl (fun w hBw => Yu_shr (k := .u64) n (8 * ((k - 1) - i)) hn rfl rfl)) ?_
                refine .plain rfl (Pl_y rfl (fun w hBw => Y_convI (k := .u64) (n := ((n / 2 ^ (8 * ((k - 1) - i)) : Nat) : Int)) (z := (((n / 2 ^ (8 * ((k - 1) - i))) % 256 : Nat) : Int)) T_some32 T_kind5 rfl (wrapM rfl rfl))) ?_
                refine .special 0 rfl (Special.of ⟨⟨⟨⟨trivial, fun _ _ _ e' w' hAg hYs => by
                    have H : Hp w0 [] w' (Ent.blk bw 28 #[vi, Value.int .i64 ((er : Nat) : Int)] :: Ent.own vi 5 1 (l.length + i) (us .u8 (l ++ (List.range i).map fun j_ => n / 2 ^ (8 * (k - 1 - j_)) % 256)) :: X) := hYs
                    exact ⟨rfl, Dn_bsl (cs := ua .u8 [(n / 2 ^ (8 * ((k - 1) - i))) % 256]) H (pv := [(0, Value.int .u8 (((n / 2 ^ (8 * ((k - 1) - i))) % 256 : Nat) : Int))]) T_sl25 T_zero5 rfl (Bpc ((hAg 60 rfl).trans rfl) Bp0) (by kernel_rfl) (fun b w2 Hn => ⟨_, rfl, Hn⟩)⟩⟩, fun h => absurd h (by decide)⟩, fun _ _ h => absurd (by decide) (h 1 14 rfl (by decide))⟩, fun h => absurd h (by decide)⟩) ?_
                refine .special 1 rfl (Special.of ⟨⟨⟨⟨trivial, fun _ h => absurd (h 0 13 rfl (by decide)) (by decide)⟩, fun _ _ _ e' w' hAg hYs => by
                    obtain ⟨bk61_, q0, H⟩ := hYs
                    exact ⟨rfl, Dn_appL H (i := 2) rfl T_sl25 T_zero5 rfl T_szb5 ((hAg 52 rfl).trans rfl) (Option.some.inj q0) (ua_sla H (i := 0) rfl rfl) (by omega) (fun v2 w2 Hn => ⟨bk61_, _, q0, rfl, Hn⟩)⟩⟩, fun h => absurd h (by decide)⟩, fun h => absurd h (by decide)⟩) ?_
                exact .nil _
              ·
                intro e_3 w_6 hAg hYs
                obtain ⟨bk61_, v62_, q0, q1, H_7⟩ := hYs
                have e_3_61 : e_3 61 = Value.slice (some ⟨bk61_, 0, none⟩) 1 1 := Option.some.inj q0
                have e_3_62 : e_3 62 = v62_ := Option.some.inj q1
                have e_3_0 : e_3 0 = Value.pointer (some ⟨bw, 0, none⟩) := (hAg 0 rfl).trans e_2_0
                have e_3_1 : e_3 1 = Value.int .u64 ((n : Nat) : Int) := (hAg 1 rfl).trans e_2_1
                have e_3_2 : e_3 2 = Value.int .i64 ((k : Nat) : Int) := (hAg 2 rfl).trans e_2_2
                have e_3_44 : e_3 44 = Value.int .i64 ((k : Nat) : Int) := (hAg 44 rfl).trans e_2_44
                have e_3_45 : e_3 45 = Value.int .i64 ((i : Nat) : Int) := (hAg 45 rfl).trans e_2_45
                have e_3_48 : e_3 48 = Value.pointer (some ⟨bw, 0, none⟩) := (hAg 48 rfl).trans rfl
                refine L_y rfl (Y_nil e_3_48) ?_
                refine L_y rfl (Y_fld T_fld28_0 rfl rfl rfl) ?_
                refine L_st (v := v62_) T_scal25 H_7 (i := 1) rfl rfl e_3_62 (own_one H_7 (i := 2) rfl) (Nat.le_of_ble_eq_true rfl) (l' := (Ent.blk bk61_ 5 (ua .u8 [(n / 2 ^ (8 * ((k - 1) - i))) % 256]) :: Ent.blk bw 28 #[v62_, Value.int .i64 ((er : Nat) : Int)] :: Ent.own v62_ 5 1 ((l.length + i) + 1) (us .u8 ((l ++ (List.range i).map fun j_ => n / 2 ^ (8 * (k - 1 - j_)) % 256) ++ [(n / 2 ^ (8 * ((k - 1) - i))) % 256])) :: X)) rfl ?_; intro w_7 H_8
                refine L_nil ?_
                refine InB_n ?_
                refine Th_n ?_
                refine W_rg ?_
                refine L_y rfl (Y_add (k := .i64) (a := ((i : Nat) : Int)) (b := ((1 : Nat) : Int)) (z := ((i + 1 : Nat) : Int)) e_3_45 rfl (wi (by omega))) ?_
                refine L_mv rfl ?_
                refine L_nil ?_
                have H_9 : Hp w0 [] w_7 (Ent.blk bk61_ 5 (ua .u8 [(n / 2 ^ (8 * ((k - 1) - i))) % 256]) :: Ent.blk bw 28 #[v62_, Value.int .i64 ((er : Nat) : Int)] :: Ent.own v62_ 5 1 (l.length + (i + 1)) (us .u8 (l ++ (List.range (i + 1)).map fun j_ => n / 2 ^ (8 * (k - 1 - j_)) % 256)) :: X) := H_8.asL (i := 2) rfl (by omega) (by rw [List.range_succ, List.map_append, ← List.append_assoc]; rfl) rfl
                refine Th_n ⟨_, ?_, _, _, rfl, e_3_0, e_3_1, e_3_2, e_3_44, rfl, H_9.drop_, (by omega)⟩
                omega
            ·
              have hc_4' := of_decide_eq_false hc_4
              refine W_exit ?_
              refine Th_x ?_
              refine Th_x ?_
              refine InB_hit ?_
              refine Th_n ?_
              refine W_seq ?_
              refine W_rg ?_
              refine L_mv rfl ?_
              refine L_as rfl ?_
              refine L_nil ?_
              refine Th_n ?_
              refine W_ret ?_
              refine P_ret (vs := [Value.pointer (some ⟨bw, 0, none⟩)]) (v := Value.pointer (some ⟨bw, 0, none⟩)) rfl (.tmp e_2_0 (Res.nil)) rfl ?_
              have hm : Pk.num l er n s = (l ++ (List.range i).map fun j_ => n / 2 ^ (8 * (k - 1 - j_)) % 256, er) := by first | (simp only [Pk.num]; (repeat (first | rw [if_pos (by omega)] | rw [if_neg (by omega)])); done) | (simp only [Pk.num, hk, Int.toNat_natCast]; (repeat (first | rw [if_pos (by omega)] | rw [if_neg (by omega)])); done) | (obtain rfl : er = 0 := (by omega); obtain rfl : i = k := (by omega); simp only [Pk.num, hk, Int.toNat_natCast, Pk.digs]; rw [if_neg (by omega), if_neg (by omega), if_neg (by intro hh; omega)])
              refine ⟨vi, rfl, ?_⟩; rw [hm]; have h := H_6; simp only [List.length_append, List.length_cons, List.length_nil, List.length_map, List.length_range, Pk.digs_len, Nat.zero_add, Nat.add_assoc] at h ⊢; exact h
        ·
          have hb_2' := eq_of_bne_false hb_2
          refine G_no (wN (b := true) rfl (congrArg Value.bool hb_2)) rfl ?_
          refine G_no (wN (b := true) rfl (congrArg Value.bool hb_2)) rfl ?_
          refine L_y rfl (Y_pickF (congrArg Value.bool hb_2)) ?_
          refine L_as rfl ?_
          refine L_nil ?_
          refine Th_n ?_
          refine W_false rfl ?_
          refine W_skip ?_
          refine InB_n ?_
          refine Th_n ?_
          refine W_seq ?_
          refine W_seq ?_
          refine W_rg ?_
          refine L_mv rfl ?_
          refine L_mv rfl ?_
          refine L_nil ?_
          refine Th_n ?_
          refine W_block ?_
          have H_10 : Hp w0 [] w (Ent.blk bw 28 #[v, Value.int .i64 ((er : Nat) : Int)] :: Ent.own v 5 1 (l.length + 0) (us .u8 (l ++ (List.range 0).map fun j_ => n / 2 ^ (8 * (k - 1 - j_)) % 256)) :: X) := H.asL (i := 1) rfl (Nat.add_zero _).symm (by simp) rfl
          refine W_loop (fun mu_ e w => ∃ i : Nat, ∃ vi : Value, mu_ = k - i ∧ e 0 = Value.pointer (some ⟨bw, 0, none⟩) ∧ e 1 = Value.int .u64 ((n : Nat) : Int) ∧ e 2 = Value.int .i64 ((k : Nat) : Int) ∧ e 44 = Value.int .i64 ((k : Nat) : Int) ∧ e 45 = Value.int .i64 ((i : Nat) : Int) ∧ Hp w0 [] w (Ent.blk bw 28 #[vi, Value.int .i64 ((er : Nat) : Int)] :: Ent.own vi 5 1 (l.length + i) (us .u8 (l ++ (List.range i).map fun j_ => n / 2 ^ (8 * (k - 1 - j_)) % 256)) :: X) ∧ i ≤ k) _ ⟨0, v, rfl, p_0, p_1, (p_2.trans (congrArg (Value.int .i64) hk)), (p_2.trans (congrArg (Value.int .i64) hk)), rfl, H_10, (Nat.zero_le _)⟩ ?_
          rintro mu_ e_4 w_8 ⟨i, vi, rfl, e_4_0, e_4_1, e_4_2, e_4_44, e_4_45, H_11, hi⟩
          refine W_seq ?_
          refine W_rg ?_
          refine L_y rfl (Y_lss (k := .i64) (a := ((i : Nat) : Int)) (b := ((k : Nat) : Int)) e_4_45 e_4_44) ?_
          refine L_nil ?_
          refine Th_n ?_
          refine W_seq ?_
          refine W_cond (b := (decide (((i : Nat) : Int) < ((k : Nat) : Int)))) rfl (fun hc_5 => ?_) (fun hc_5 => ?_)
          ·
            have hc_5' := of_decide_eq_true hc_5
            refine W_skip ?_
            refine Th_n ?_
            refine W_seq ?_
            refine W_block ?_
            refine W_seq ?_
            refine W_rg ?_
            refine L_mv rfl ?_
            refine L_as rfl ?_
            refine L_nil ?_
            refine Th_n ?_
            refine W_anyL 15 [13, 14] [61, 62] [Value.pointer (some ⟨bw, 0, none⟩), Value.pointer (some ⟨bw, 0, none⟩), Value.pointer (some ⟨bw, 0, none⟩), Value.pointer (some ⟨bw, 0, none⟩), vi, Value.int .u64 ((n : Nat) : Int), Value.int .i64 ((k : Nat) : Int), Value.int .i64 ((k - 1 : Nat) : Int), Value.int .i64 ((i : Nat) : Int), Value.int .i64 (((k - 1) - i : Nat) : Int), Value.int .i64 ((8 * ((k - 1) - i) : Nat) : Int), Value.int .u64 ((n / 2 ^ (8 * ((k - 1) - i)) : Nat) : Int), Value.int .u8 (((n / 2 ^ (8 * ((k - 1) - i))) % 256 : Nat) : Int), undef, undef] (fun w => w.heap[bw]? = some (.cells #[vi, Value.int .i64 ((er : Nat) : Int)] 28 (0, 0))) [fun vs w => Hp w0 [] w (Ent.blk bw 28 #[vi, Value.int .i64 ((er : Nat) : Int)] :: Ent.own vi 5 1 (l.length + i) (us .u8 (l ++ (List.range i).map fun j_ => n / 2 ^ (8 * (k - 1 - j_)) % 256)) :: X), fun vs w => ∃ bk61_, vs[0]? = some (Value.slice (some ⟨bk61_, 0, none⟩) 1 1) ∧ Hp w0 [] w (Ent.blk bk61_ 5 (ua .u8 [(n / 2 ^ (8 * ((k - 1) - i))) % 256]) :: Ent.blk bw 28 #[vi, Value.int .i64 ((er : Nat) : Int)] :: Ent.own vi 5 1 (l.length + i) (us .u8 (l ++ (List.range i).map fun j_ => n / 2 ^ (8 * (k - 1 - j_)) % 256)) :: X), fun _ _ => False, fun vs w => ∃ bk61_, ∃ v62_, vs[0]? = some (Value.slice (some ⟨bk61_, 0, none⟩) 1 1) ∧ vs[1]? = some (v62_) ∧ Hp w0 [] w (Ent.blk bk61_ 5 (ua .u8 [(n / 2 ^ (8 * ((k - 1) - i))) % 256]) :: Ent.blk bw 28 #[vi, Value.int .i64 ((er : Nat) : Int)] :: Ent.own v62_ 5 1 ((l.length + i) + 1) (us .u8 ((l ++ (List.range i).map fun j_ => n / 2 ^ (8 * (k - 1 - j_)) % 256) ++ [(n / 2 ^ (8 * ((k - 1) - i))) % 256])) :: X)] T_mixed (by kernel_rfl) ⟨fun _ _ H => H.get 0 rfl, fun _ _ h => by obtain ⟨_, _, H⟩ := h; exact H.get 1 rfl, fun _ _ h => h.elim, fun _ _ h => by obtain ⟨_, _, _, _, H⟩ := h; exact H.get 1 rfl, trivial⟩ ⟨fun _ _ _ hkp H => H.keep hkp, fun _ _ _ hkp h => by obtain ⟨q0, q1, H⟩ := h; exact ⟨q0, q1, H.keep hkp⟩, fun _ _ _ _ h => h.elim, fun _ _ _ hkp h => by obtain ⟨q0, q1, q2, q3, H⟩ := h; exact ⟨q0, q1, q2, q3, H.keep hkp⟩, trivial⟩ H_11 ?_ ?_
            ·
              refine .plain rfl (Pl_y rfl (fun w hBw => congrArg (fun v => Result.ok (Next.value v) w) e_4_0)) ?_
              refine .plain rfl (Pl_y rfl (fun w hBw => congrArg (fun v => Result.ok (Next.value v) w) e_4_0)) ?_
              refine .plain rfl (Pl_y rfl (fun w hBw => Y_nil rfl)) ?_
              refine .plain rfl (Pl_y rfl (fun w hBw => Y_fld T_fld28_0 rfl rfl rfl)) ?_
              refine .plain rfl (Pl_y rfl (fun w hBw => Y_ldb T_scal25 hBw rfl rfl)) ?_
              refine .plain rfl (Pl_y rfl (fun w hBw => congrArg (fun v => Result.ok (Next.value v) w) e_4_1)) ?_
              refine .plain rfl (Pl_y rfl (fun w hBw => congrArg (fun v => Result.ok (Next.value v) w) e_4_2)) ?_
              refine .plain rfl (Pl_y rfl (fun w hBw => Y_sub (k := .i64) (a := ((k : Nat) : Int)) (b := ((1 : Nat) : Int)) (z := ((k - 1 : Nat) : Int)) rfl rfl (wi (by omega)))) ?_
              refine .plain rfl (Pl_y rfl (fun w hBw => congrArg (fun v => Result.ok (Next.value v) w) e_4_45)) ?_
              refine .plain rfl (Pl_y rfl (fun w hBw => Y_sub (k := .i64) (a := ((k - 1 : Nat) : Int)) (b := ((i : Nat) : Int)) (z := (((k - 1) - i : Nat) : Int)) rfl rfl (wi (by omega)))) ?_
              refine .plain rfl (Pl_y rfl (fun w hBw => Y_mul (k := .i64) (a := ((8 : Nat) : Int)) (b := (((k - 1) - i : Nat) : Int)) (z := ((8 * ((k - 1) - i) : Nat) : Int)) rfl rfl (wi (by omega)))) ?_
              refine .plain rfl (Pl_y rfl (fun w hBw => Yu_shr (k := .u64) n (8 * ((k - 1) - i)) hn rfl rfl)) ?_
              refine .plain rfl (Pl_y rfl (fun w hBw => Y_convI (k := .u64) (n := ((n / 2 ^ (8 * ((k - 1) - i)) : Nat) : Int)) (z := (((n / 2 ^ (8 * ((k - 1) - i))) % 256 : Nat) : Int)) T_some32 T_kind5 rfl (wrapM rfl rfl))) ?_
              refine .special 0 rfl (Special.of ⟨⟨⟨⟨trivial, fun _ _ _ e' w' hAg hYs => by
                  have H : Hp w0 [] w' (Ent.blk bw 28 #[vi, Value.int .i64 ((er : Nat) : Int)] :: Ent.own vi 5 1 (l.length + i) (us .u8 (l ++ (List.range i).map fun j_ => n / 2 ^ (8 * (k - 1 - j_)) % 256)) :: X) := hYs
                  exact ⟨rfl, Dn_bsl (cs := ua .u8 [(n / 2 ^ (8 * ((k - 1) - i))) % 256]) H (pv := [(0, Value.int .u8 (((n / 2 ^ (8 * ((k - 1) - i))) % 256 : Nat) : Int))]) T_sl25 T_zero5 rfl (Bpc ((hAg 60 rfl).trans rfl) Bp0) (by kernel_rfl) (fun b w2 Hn => ⟨_, rfl, Hn⟩)⟩⟩, fun h => absurd h (by decide)⟩, fun _ _ h => absurd (by decide) (h 1 14 rfl (by decide))⟩, fun h => absurd h (by decide)⟩) ?_
              refine .special 1 rfl (Special.of ⟨⟨⟨⟨trivial, fun _ h => absurd (h 0 13 rfl (by decide)) (by decide)⟩, fun _ _ _ e' w' hAg hYs => by
                  obtain ⟨bk61_, q0, H⟩ := hYs
                  exact ⟨rfl, Dn_appL H (i := 2) rfl T_sl25 T_zero5 rfl T_szb5 ((hAg 52 rfl).trans rfl) (Option.some.inj q0) (ua_sla H (i := 0) rfl rfl) (by omega) (fun v2 w2 Hn => ⟨bk61_, _, q0, rfl, Hn⟩)⟩⟩, fun h => absurd h (by decide)⟩, fun h => absurd h (by decide)⟩) ?_
              exact .nil _
            ·
              intro e_5 w_9 hAg hYs
              obtain ⟨bk61__2, v62__2, q0, q1, H_12⟩ := hYs
              have e_5_61 : e_5 61 = Value.slice (some ⟨bk61__2, 0, none⟩) 1 1 := Option.some.inj q0
              have e_5_62 : e_5 62 = v62__2 := Option.some.inj q1
              have e_5_0 : e_5 0 = Value.pointer (some ⟨bw, 0, none⟩) := (hAg 0 rfl).trans e_4_0
              have e_5_1 : e_5 1 = Value.int .u64 ((n : Nat) : Int) := (hAg 1 rfl).trans e_4_1
              have e_5_2 : e_5 2 = Value.int .i64 ((k : Nat) : Int) := (hAg 2 rfl).trans e_4_2
              have e_5_44 : e_5 44 = Value.int .i64 ((k : Nat) : Int) := (hAg 44 rfl).trans e_4_44
              have e_5_45 : e_5 45 = Value.int .i64 ((i : Nat) : Int) := (hAg 45 rfl).trans e_4_45
              have e_5_48 : e_5 48 = Value.pointer (some ⟨bw, 0, none⟩) := (hAg 48 rfl).trans rfl
              refine L_y rfl (Y_nil e_5_48) ?_
              refine L_y rfl (Y_fld T_fld28_0 rfl rfl rfl) ?_
              refine L_st (v := v62__2) T_scal25 H_12 (i := 1) rfl rfl e_5_62 (own_one H_12 (i := 2) rfl) (Nat.le_of_ble_eq_true rfl) (l' := (Ent.blk bk61__2 5 (ua .u8 [(n / 2 ^ (8 * ((k - 1) - i))) % 256]) :: Ent.blk bw 28 #[v62__2, Value.int .i64 ((er : Nat) : Int)] :: Ent.own v62__2 5 1 ((l.length + i) + 1) (us .u8 ((l ++ (List.range i).map fun j_ => n / 2 ^ (8 * (k - 1 - j_)) % 256) ++ [(n / 2 ^ (8 * ((k - 1) - i))) % 256])) :: X)) rfl ?_; intro w_10 H_13
              refine L_nil ?_
              refine InB_n ?_
              refine Th_n ?_
              refine W_rg ?_
              refine L_y rfl (Y_add (k := .i64) (a := ((i : Nat) : Int)) (b := ((1 : Nat) : Int)) (z := ((i + 1 : Nat) : Int)) e_5_45 rfl (wi (by omega))) ?_
              refine L_mv rfl ?_
              refine L_nil ?_
              have H_14 : Hp w0 [] w_10 (Ent.blk bk61__2 5 (ua .u8 [(n / 2 ^ (8 * ((k - 1) - i))) % 256]) :: Ent.blk bw 28 #[v62__2, Value.int .i64 ((er : Nat) : Int)] :: Ent.own v62__2 5 1 (l.length + (i + 1)) (us .u8 (l ++ (List.range (i + 1)).map fun j_ => n / 2 ^ (8 * (k - 1 - j_)) % 256)) :: X) := H_13.asL (i := 2) rfl (by omega) (by rw [List.range_succ, List.map_append, ← List.append_assoc]; rfl) rfl
              refine Th_n ⟨_, ?_, _, _, rfl, e_5_0, e_5_1, e_5_2, e_5_44, rfl, H_14.drop_, (by omega)⟩
              omega
          ·
            have hc_5' := of_decide_eq_false hc_5
            refine W_exit ?_
            refine Th_x ?_
            refine Th_x ?_
            refine InB_hit ?_
            refine Th_n ?_
            refine W_seq ?_
            refine W_rg ?_
            refine L_mv rfl ?_
            refine L_as rfl ?_
            refine L_nil ?_
            refine Th_n ?_
            refine W_ret ?_
            refine P_ret (vs := [Value.pointer (some ⟨bw, 0, none⟩)]) (v := Value.pointer (some ⟨bw, 0, none⟩)) rfl (.tmp e_4_0 (Res.nil)) rfl ?_
            have hm : Pk.num l er n s = (l ++ (List.range i).map fun j_ => n / 2 ^ (8 * (k - 1 - j_)) % 256, er) := by first | (simp only [Pk.num]; (repeat (first | rw [if_pos (by omega)] | rw [if_neg (by omega)])); done) | (simp only [Pk.num, hk, Int.toNat_natCast]; (repeat (first | rw [if_pos (by omega)] | rw [if_neg (by omega)])); done) | (obtain rfl : er = 0 := (by omega); obtain rfl : i = k := (by omega); simp only [Pk.num, hk, Int.toNat_natCast, Pk.digs]; rw [if_neg (by omega), if_neg (by omega), if_neg (by intro hh; omega)])
            refine ⟨vi, rfl, ?_⟩; rw [hm]; have h := H_11; simp only [List.length_append, List.length_cons, List.length_nil, List.length_map, List.length_range, Pk.digs_len, Nat.zero_add, Nat.add_assoc] at h ⊢; exact h

theorem wRaw {w0 w : World} {X : List Ent} {bw : Nat} {v : Value} {l : List Nat} {er : Nat} {a : Option Addr} {m c : Nat} {b : List Nat} (hlt : ∀ u ∈ l, u < 256) (hm : l.length + m ≤ 4294967000) (hsb : Seen w0 X .u8 a m c b) (hst : ∀ u ∈ b, u < 256) (H : Hp w0 [] w (.blk bw 28 #[v, .int .i64 ((er : Nat) : Int)] :: .own v 5 1 l.length (us .u8 l) :: X)) :
    Calls Try.prog 11 #[Value.pointer (some ⟨bw, 0, none⟩), Value.slice a m c] w (fun r_ w' => ∃ v', r_ = .returned (Value.pointer (some ⟨bw, 0, none⟩)) ∧ Hp w0 [] w' (.blk bw 28 #[v', .int .i64 (((Pk.raw l er b).2 : Nat) : Int)] :: .own v' 5 1 (Pk.raw l er b).1.length (us .u8 (Pk.raw l er b).1) :: X)) := by
  have hbl : b.length = m := hsb.len H (fun _ h_ => .tail _ (.tail _ (h_)))
  refine F_in Try.func11 rfl Try.ntmps11 rfl ?_
  intro e he
  have p_0 : e 0 = Value.pointer (some ⟨bw, 0, none⟩) := he 0 _ rfl
  have p_1 : e 1 = Value.slice a m c := he 1 _ rfl
  refine W_seq ?_
  refine W_rg ?_
  refine L_as rfl ?_
  refine L_nil ?_
  refine Th_n ?_
  refine W_seq ?_
  refine W_seq ?_
  refine W_rg ?_
  refine L_mv rfl ?_
  refine L_y rfl (Y_neP Try.underlying35 p_0 rfl) ?_
  refine L_mv rfl ?_
  refine G_mv (wE rfl rfl) rfl ?_
  refine G_y (wE rfl rfl) rfl (Y_nil p_0) ?_
  refine G_y (wE rfl rfl) rfl (Y_fld T_fld28_1 rfl rfl rfl) ?_
  refine G_y (wE rfl rfl) rfl (Y_ld T_scal26 H (i := 0) rfl rfl rfl) ?_
  refine G_y (wE rfl rfl) rfl (Y_eql (k := .i64) (a := ((er : Nat) : Int)) (b := ((0 : Nat) : Int)) rfl rfl) ?_
  refine L_y rfl (Y_pickT rfl) ?_
  refine L_nil ?_
  refine Th_n ?_
  refine W_cond (b := (((er : Nat) : Int) == ((0 : Nat) : Int))) rfl (fun hc => ?_) (fun hc => ?_)
  ·
    have hc' := eq_of_beq hc
    refine W_rg ?_
    refine L_mv rfl ?_
    refine L_mv rfl ?_
    refine L_y rfl (Y_nil p_0) ?_
    refine L_y rfl (Y_fld T_fld28_0 rfl rfl rfl) ?_
    refine L_y rfl (Y_ld T_scal25 H (i := 0) rfl rfl rfl) ?_
    refine L_mv rfl ?_
    refine L_appL rfl H (i := 1) rfl T_sl25 T_zero5 rfl T_szb5 rfl p_1 (hsb.hp H (fun _ h_ => .tail _ (.tail _ (h_)))) (by omega) ?_; intro v20 w_2 Hx
    have H_2 : Hp w0 [] w_2 (Ent.blk bw 28 #[v, Value.int .i64 ((er : Nat) : Int)] :: Ent.own v20 5 1 (l.length + m) (us .u8 (l ++ b)) :: X) := Hx
    refine L_y rfl (Y_nil p_0) ?_
    refine L_y rfl (Y_fld T_fld28_0 rfl rfl rfl) ?_
    refine L_st (v := v20) T_scal25 H_2 (i := 0) rfl rfl rfl (own_one H_2 (i := 1) rfl) (Nat.le_of_ble_eq_true rfl) (l' := (Ent.blk bw 28 #[v20, Value.int .i64 ((er : Nat) : Int)] :: Ent.own v20 5 1 (l.length + m) (us .u8 (l ++ b)) :: X)) rfl ?_; intro w_3 H_3
    refine L_nil ?_
    refine Th_n ?_
    refine W_seq ?_
    refine W_rg ?_
    refine L_mv rfl ?_
    refine L_as rfl ?_
    refine L_nil ?_
    refine Th_n ?_
    refine W_ret ?_
    refine P_ret (vs := [Value.pointer (some ⟨bw, 0, none⟩)]) (v := Value.pointer (some ⟨bw, 0, none⟩)) rfl (.tmp p_0 (Res.nil)) rfl ?_
    have hm : Pk.raw l er b = (l ++ b, er) := by first | (simp only [Pk.raw]; (repeat (first | rw [if_pos (by omega)] | rw [if_neg (by omega)])); done) | (obtain rfl : er = 0 := (by omega); rfl)
    refine ⟨v20, rfl, ?_⟩; rw [hm]; have h := H_3; simp only [List.length_append, List.length_cons, List.length_nil, List.length_map, List.length_range, Pk.digs_len, Nat.zero_add, Nat.add_assoc, hbl] at h ⊢; exact h
  ·
    have hc' := ne_of_beq_false hc
    refine W_skip ?_
    refine Th_n ?_
    refine W_seq ?_
    refine W_rg ?_
    refine L_mv rfl ?_
    refine L_as rfl ?_
    refine L_nil ?_
    refine Th_n ?_
    refine W_ret ?_
    refine P_ret (vs := [Value.pointer (some ⟨bw, 0, none⟩)]) (v := Value.pointer (some ⟨bw, 0, none⟩)) rfl (.tmp p_0 (Res.nil)) rfl ?_
    have hm : Pk.raw l er b = (l, er) := by first | (simp only [Pk.raw]; (repeat (first | rw [if_pos (by omega)] | rw [if_neg (by omega)])); done) | (obtain rfl : er = 0 := (by omega); rfl)
    refine ⟨v, rfl, ?_⟩; rw [hm]; have h := H; simp only [List.length_append, List.length_cons, List.length_nil, List.length_map, List.length_range, Pk.digs_len, Nat.zero_add, Nat.add_assoc, hbl] at h ⊢; exact h

theorem rRaw {w0 w : World} {X : List Ent} {bw : Nat} {v : Value} {l : List Nat} {er : Nat} {a : Option Addr} {m c : Nat} {b : List Nat} (hlt : ∀ u ∈ l, u < 256) (hm : l.length + m ≤ 4294967000) (hsb : Seen w0 X .u8 a m c b) (hst : ∀ u ∈ b, u < 256) (H : Hp w0 [] w (.blk bw 31 #[v, .int .i64 ((er : Nat) : Int)] :: .own v 5 1 l.length (us .u8 l) :: X)) :
    Calls Try.prog 12 #[Value.pointer (some ⟨bw, 0, none⟩), Value.slice a m c] w (fun r_ w' => ∃ v', r_ = .returned (Value.pointer (some ⟨bw, 0, none⟩)) ∧ Hp w0 [] w' (.blk bw 31 #[v', .int .i64 (((Pk.raw l er b).2 : Nat) : Int)] :: .own v' 5 1 (Pk.raw l er b).1.length (us .u8 (Pk.raw l er b).1) :: X)) := by
  have hbl : b.length = m := hsb.len H (fun _ h_ => .tail _ (.tail _ (h_)))
  refine F_in Try.func12 rfl Try.ntmps12 rfl ?_
  intro e he
  have p_0 : e 0 = Value.pointer (some ⟨bw, 0, none⟩) := he 0 _ rfl
  have p_1 : e 1 = Value.slice a m c := he 1 _ rfl
  refine W_seq ?_
  refine W_rg ?_
  refine L_as rfl ?_
  refine L_nil ?_
  refine Th_n ?_
  refine W_seq ?_
  refine W_seq ?_
  refine W_rg ?_
  refine L_mv rfl ?_
  refine L_y rfl (Y_nil p_0) ?_
  refine L_y rfl (Y_fld T_fld31_1 rfl rfl rfl) ?_
  refine L_y rfl (Y_ld T_scal26 H (i := 0) rfl rfl rfl) ?_
  refine L_y rfl (Y_eql (k := .i64) (a := ((er : Nat) : Int)) (b := ((0 : Nat) : Int)) rfl rfl) ?_
  refine L_nil ?_
  refine Th_n ?_
  refine W_cond (b := (((er : Nat) : Int) == ((0 : Nat) : Int))) rfl (fun hc => ?_) (fun hc => ?_)
  ·
    have hc' := eq_of_beq hc
    refine W_rg ?_
    refine L_mv rfl ?_
    refine L_mv rfl ?_
    refine L_y rfl (Y_nil p_0) ?_
    refine L_y rfl (Y_fld T_fld31_0 rfl rfl rfl) ?_
    refine L_y rfl (Y_ld T_scal25 H (i := 0) rfl rfl rfl) ?_
    refine L_mv rfl ?_
    refine L_appL rfl H (i := 1) rfl T_sl25 T_zero5 rfl T_szb5 rfl p_1 (hsb.hp H (fun _ h_ => .tail _ (.tail _ (h_)))) (by omega) ?_; intro v16 w_2 Hx
    have H_2 : Hp w0 [] w_2 (Ent.blk bw 31 #[v, Value.int .i64 ((er : Nat) : Int)] :: Ent.own v16 5 1 (l.length + m) (us .u8 (l ++ b)) :: X) := Hx
    refine L_y rfl (Y_nil p_0) ?_
    refine L_y rfl (Y_fld T_fld31_0 rfl rfl rfl) ?_
    refine L_st (v := v16) T_scal25 H_2 (i := 0) rfl rfl rfl (own_one H_2 (i := 1) rfl) (Nat.le_of_ble_eq_true rfl) (l' := (Ent.blk bw 31 #[v16, Value.int .i64 ((er : Nat) : Int)] :: Ent.own v16 5 1 (l.length + m) (us .u8 (l ++ b)) :: X)) rfl ?_; intro w_3 H_3
    refine L_nil ?_
    refine Th_n ?_
    refine W_seq ?_
    refine W_rg ?_
    refine L_mv rfl ?_
    refine L_as rfl ?_
    refine L_nil ?_
    refine Th_n ?_
    refine W_ret ?_
    refine P_ret (vs := [Value.pointer (some ⟨bw, 0, none⟩)]) (v := Value.pointer (some ⟨bw, 0, none⟩)) rfl (.tmp p_0 (Res.nil)) rfl ?_
    have hm : Pk.raw l er b = (l ++ b, er) := by first | (simp only [Pk.raw]; (repeat (first | rw [if_pos (by omega)] | rw [if_neg (by omega)])); done) | (obtain rfl : er = 0 := (by omega); rfl)
    refine ⟨v16, rfl, ?_⟩; rw [hm]; have h := H_3; simp only [List.length_append, List.length_cons, List.length_nil, List.length_map, List.length_range, Pk.digs_len, Nat.zero_add, Nat.add_assoc, hbl] at h ⊢; exact h
  ·
    have hc' := ne_of_beq_false hc
    refine W_skip ?_
    refine Th_n ?_
    refine W_seq ?_
    refine W_rg ?_
    refine L_mv rfl ?_
    refine L_as rfl ?_
    refine L_nil ?_
    refine Th_n ?_
    refine W_ret ?_
    refine P_ret (vs := [Value.pointer (some ⟨bw, 0, none⟩)]) (v := Value.pointer (some ⟨bw, 0, none⟩)) rfl (.tmp p_0 (Res.nil)) rfl ?_
    have hm : Pk.raw l er b = (l, er) := by first | (simp only [Pk.raw]; (repeat (first | rw [if_pos (by omega)] | rw [if_neg (by omega)])); done) | (obtain rfl : er = 0 := (by omega); rfl)
    refine ⟨v, rfl, ?_⟩; rw [hm]; have h := H; simp only [List.length_append, List.length_cons, List.length_nil, List.length_map, List.length_range, Pk.digs_len, Nat.zero_add, Nat.add_assoc, hbl] at h ⊢; exact h

theorem wText {w0 w : World} {X : List Ent} {bw : Nat} {v : Value} {l : List Nat} {er : Nat} {a : Option Addr} {m c : Nat} {b : List Nat} (hlt : ∀ u ∈ l, u < 256) (hm : l.length + m ≤ 4000000000) (hsb : Seen w0 X .u8 a m c b) (hst : ∀ u ∈ b, u < 256) (H : Hp w0 [] w (.blk bw 28 #[v, .int .i64 ((er : Nat) : Int)] :: .own v 5 1 l.length (us .u8 l) :: X)) :
    Calls Try.prog 13 #[Value.pointer (some ⟨bw, 0, none⟩), Value.slice a m c] w (fun r_ w' => ∃ v', r_ = .returned (Value.pointer (some ⟨bw, 0, none⟩)) ∧ Hp w0 [] w' (.blk bw 28 #[v', .int .i64 (((Pk.text l er b).2 : Nat) : Int)] :: .own v' 5 1 (Pk.text l er b).1.length (us .u8 (Pk.text l er b).1) :: X)) := by
  have hbl : b.length = m := hsb.len H (fun _ h_ => .tail _ (.tail _ (h_)))
  refine F_in Try.func13 rfl Try.ntmps13 rfl ?_
  intro e he
  have p_0 : e 0 = Value.pointer (some ⟨bw, 0, none⟩) := he 0 _ rfl
  have p_1 : e 1 = Value.slice a m c := he 1 _ rfl
  refine W_seq ?_
  refine W_rg ?_
  refine L_as rfl ?_
  refine L_nil ?_
  refine Th_n ?_
  refine W_seq ?_
  refine W_seq ?_
  refine W_rg ?_
  refine L_mv rfl ?_
  refine L_y rfl (Y_neP Try.underlying35 p_0 rfl) ?_
  refine L_mv rfl ?_
  refine G_mv (wE rfl rfl) rfl ?_
  refine G_y (wE rfl rfl) rfl (Y_nil p_0) ?_
  refine G_y (wE rfl rfl) rfl (Y_fld T_fld28_1 rfl rfl rfl) ?_
  refine G_y (wE rfl rfl) rfl (Y_ld T_scal26 H (i := 0) rfl rfl rfl) ?_
  refine G_y (wE rfl rfl) rfl (Y_eql (k := .i64) (a := ((er : Nat) : Int)) (b := ((0 : Nat) : Int)) rfl rfl) ?_
  refine L_y rfl (Y_pickT rfl) ?_
  refine L_mv rfl ?_
  rcases Bool.eq_false_or_eq_true (((er : Nat) : Int) == ((0 : Nat) : Int)) with hb | hb
  ·
    have hb' := eq_of_beq hb
    refine G_mv (wE rfl (congrArg Value.bool hb)) rfl ?_
    refine G_y (wE rfl (congrArg Value.bool hb)) rfl (Y_lenS T_sl25 p_1) ?_
    refine G_y (wE rfl (congrArg Value.bool hb)) rfl (Y_gtr (k := .i64) (a := ((m : Nat) : Int)) (b := ((60000 : Nat) : Int)) rfl rfl) ?_
    refine L_y rfl (Y_pickT (congrArg Value.bool hb)) ?_
    refine L_nil ?_
    refine Th_n ?_
    refine W_cond (b := (decide (((60000 : Nat) : Int) < ((m : Nat) : Int)))) rfl (fun hc => ?_) (fun hc => ?_)
    ·
      have hc' := of_decide_eq_true hc
      refine W_rg ?_
      refine L_mv rfl ?_
      refine L_y rfl (Y_nil p_0) ?_
      refine L_y rfl (Y_fld T_fld28_1 rfl rfl rfl) ?_
      refine L_st (v := Value.int .i64 ((3 : Nat) : Int)) T_scal26 H (i := 0) rfl rfl rfl rfl (Nat.le_of_ble_eq_true rfl) (l' := (Ent.blk bw 28 #[v, Value.int .i64 ((3 : Nat) : Int)] :: Ent.own v 5 1 l.length (us .u8 l) :: X)) rfl ?_; intro w_2 H_2
      refine L_nil ?_
      refine Th_n ?_
      refine W_seq ?_
      refine W_rg ?_
      refine L_mv rfl ?_
      refine L_mv rfl ?_
      refine L_y rfl (Y_lenS T_sl25 p_1) ?_
      refine L_y rfl (Y_convI (k := .i64) (n := ((m : Nat) : Int)) (z := ((m : Nat) : Int)) T_some3 T_kind32 rfl (wrapS rfl (by first | decide | (show _ < 18446744073709551616; omega)))) ?_
      refine L_yr (z := m &&& 65535) (m := 18446744073709551616) rfl (Yu_and (k := .u64) rfl m 65535 (by show _ < 18446744073709551616; omega) (by decide) rfl rfl) (Nat.lt_of_le_of_lt (Nat.and_le_left) (by show _ < 18446744073709551616; omega)) ?_; intro x26 hx26 rx26
      refine L_callv rfl rfl T_en9 (A3 p_0 rfl rfl) (wNum (l := l) (er := 3) x26 ((2 : Nat) : Int) rx26 (by omega) hlt H_2) ?_
      rintro _ w_3 ⟨v27, rfl, H_3⟩; refine ⟨_, rfl, ?_⟩
      have hq := Pk.num_len (l := l) (e := 3) (n := x26) (s := ((2 : Nat) : Int))
      refine L_mv rfl ?_
      refine L_callv rfl rfl T_en11 (A2 rfl p_1) (wRaw (l := (Pk.num l 3 x26 ((2 : Nat) : Int)).1) (er := (Pk.num l 3 x26 ((2 : Nat) : Int)).2)  (Pk.num_lt hlt) (by omega) (hsb.mono (fun _ h_ => h_)) hst H_3) ?_
      rintro _ w_4 ⟨v29, rfl, H_4⟩; refine ⟨_, rfl, ?_⟩
      have hq_2 := Pk.raw_len (l := ((Pk.num l 3 x26 ((2 : Nat) : Int)).1)) (e := ((Pk.num l 3 x26 ((2 : Nat) : Int)).2)) (b := b)
      refine L_as rfl ?_
      refine L_nil ?_
      refine Th_n ?_
      refine W_ret ?_
      refine P_ret (vs := [Value.pointer (some ⟨bw, 0, none⟩)]) (v := Value.pointer (some ⟨bw, 0, none⟩)) rfl (.tmp rfl (Res.nil)) rfl ?_
      have hm : Pk.text l er b = ((Pk.raw ((Pk.num l 3 x26 ((2 : Nat) : Int)).1) ((Pk.num l 3 x26 ((2 : Nat) : Int)).2) b).1, (Pk.raw ((Pk.num l 3 x26 ((2 : Nat) : Int)).1) ((Pk.num l 3 x26 ((2 : Nat) : Int)).2) b).2) := by exact Pk.wtext hbl (by assumption) (by omega)
      refine ⟨v29, rfl, ?_⟩; rw [hm]; have h := H_4; simp only [List.length_append, List.length_cons, List.length_nil, List.length_map, List.length_range, Pk.digs_len, Nat.zero_add, Nat.add_assoc, hbl] at h ⊢; exact h
    ·
      have hc' := of_decide_eq_false hc
      refine W_skip ?_
      refine Th_n ?_
      refine W_seq ?_
      refine W_rg ?_
      refine L_mv rfl ?_
      refine L_mv rfl ?_
      refine L_y rfl (Y_lenS T_sl25 p_1) ?_
      refine L_y rfl (Y_convI (k := .i64) (n := ((m : Nat) : Int)) (z := ((m : Nat) : Int)) T_some3 T_kind32 rfl (wrapS rfl (by first | decide | (show _ < 18446744073709551616; omega)))) ?_
      refine L_yr (z := m &&& 65535) (m := 18446744073709551616) rfl (Yu_and (k := .u64) rfl m 65535 (by show _ < 18446744073709551616; omega) (by decide) rfl rfl) (Nat.lt_of_le_of_lt (Nat.and_le_left) (by show _ < 18446744073709551616; omega)) ?_; intro x26_2 hx26_2 rx26_2
      refine L_callv rfl rfl T_en9 (A3 p_0 rfl rfl) (wNum (l := l) (er := er) x26_2 ((2 : Nat) : Int) rx26_2 (by omega) hlt H) ?_
      rintro _ w_5 ⟨v27_2, rfl, H_5⟩; refine ⟨_, rfl, ?_⟩
      have hq_3 := Pk.num_len (l := l) (e := er) (n := x26_2) (s := ((2 : Nat) : Int))
      refine L_mv rfl ?_
      refine L_callv rfl rfl T_en11 (A2 rfl p_1) (wRaw (l := (Pk.num l er x26_2 ((2 : Nat) : Int)).1) (er := (Pk.num l er x26_2 ((2 : Nat) : Int)).2)  (Pk.num_lt hlt) (by omega) (hsb.mono (fun _ h_ => h_)) hst H_5) ?_
      rintro _ w_6 ⟨v29_2, rfl, H_6⟩; refine ⟨_, rfl, ?_⟩
      have hq_4 := Pk.raw_len (l := ((Pk.num l er x26_2 ((2 : Nat) : Int)).1)) (e := ((Pk.num l er x26_2 ((2 : Nat) : Int)).2)) (b := b)
      refine L_as rfl ?_
      refine L_nil ?_
      refine Th_n ?_
      refine W_ret ?_
      refine P_ret (vs := [Value.pointer (some ⟨bw, 0, none⟩)]) (v := Value.pointer (some ⟨bw, 0, none⟩)) rfl (.tmp rfl (Res.nil)) rfl ?_
      have hm : Pk.text l er b = ((Pk.raw ((Pk.num l er x26_2 ((2 : Nat) : Int)).1) ((Pk.num l er x26_2 ((2 : Nat) : Int)).2) b).1, (Pk.raw ((Pk.num l er x26_2 ((2 : Nat) : Int)).1) ((Pk.num l er x26_2 ((2 : Nat) : Int)).2) b).2) := by exact Pk.wtext hbl (by assumption) (by omega)
      refine ⟨v29_2, rfl, ?_⟩; rw [hm]; have h := H_6; simp only [List.length_append, List.length_cons, List.length_nil, List.length_map, List.length_range, Pk.digs_len, Nat.zero_add, Nat.add_assoc, hbl] at h ⊢; exact h
  ·
    have hb' := ne_of_beq_false hb
    refine G_no (wN (b := true) rfl (congrArg Value.bool hb)) rfl ?_
    refine G_no (wN (b := true) rfl (congrArg Value.bool hb)) rfl ?_
    refine G_no (wN (b := true) rfl (congrArg Value.bool hb)) rfl ?_
    refine L_y rfl (Y_pickF (congrArg Value.bool hb)) ?_
    refine L_nil ?_
    refine Th_n ?_
    refine W_false rfl ?_
    refine W_skip ?_
    refine Th_n ?_
    refine W_seq ?_
    refine W_rg ?_
    refine L_mv rfl ?_
    refine L_mv rfl ?_
    refine L_y rfl (Y_lenS T_sl25 p_1) ?_
    refine L_y rfl (Y_convI (k := .i64) (n := ((m : Nat) : Int)) (z := ((m : Nat) : Int)) T_some3 T_kind32 rfl (wrapS rfl (by first | decide | (show _ < 18446744073709551616; omega)))) ?_
    refine L_yr (z := m &&& 65535) (m := 18446744073709551616) rfl (Yu_and (k := .u64) rfl m 65535 (by show _ < 18446744073709551616; omega) (by decide) rfl rfl) (Nat.lt_of_le_of_lt (Nat.and_le_left) (by show _ < 18446744073709551616; omega)) ?_; intro x26_3 hx26_3 rx26_3
    refine L_callv rfl rfl T_en9 (A3 p_0 rfl rfl) (wNum (l := l) (er := er) x26_3 ((2 : Nat) : Int) rx26_3 (by omega) hlt H) ?_
    rintro _ w_7 ⟨v27_3, rfl, H_7⟩; refine ⟨_, rfl, ?_⟩
    have hq_5 := Pk.num_len (l := l) (e := er) (n := x26_3) (s := ((2 : Nat) : Int))
    refine L_mv rfl ?_
    refine L_callv rfl rfl T_en11 (A2 rfl p_1) (wRaw (l := (Pk.num l er x26_3 ((2 : Nat) : Int)).1) (er := (Pk.num l er x26_3 ((2 : Nat) : Int)).2)  (Pk.num_lt hlt) (by omega) (hsb.mono (fun _ h_ => h_)) hst H_7) ?_
    rintro _ w_8 ⟨v29_3, rfl, H_8⟩; refine ⟨_, rfl, ?_⟩
    have hq_6 := Pk.raw_len (l := ((Pk.num l er x26_3 ((2 : Nat) : Int)).1)) (e := ((Pk.num l er x26_3 ((2 : Nat) : Int)).2)) (b := b)
    refine L_as rfl ?_
    refine L_nil ?_
    refine Th_n ?_
    refine W_ret ?_
    refine P_ret (vs := [Value.pointer (some ⟨bw, 0, none⟩)]) (v := Value.pointer (some ⟨bw, 0, none⟩)) rfl (.tmp rfl (Res.nil)) rfl ?_
    have hm : Pk.text l er b = ((Pk.raw ((Pk.num l er x26_3 ((2 : Nat) : Int)).1) ((Pk.num l er x26_3 ((2 : Nat) : Int)).2) b).1, (Pk.raw ((Pk.num l er x26_3 ((2 : Nat) : Int)).1) ((Pk.num l er x26_3 ((2 : Nat) : Int)).2) b).2) := by exact Pk.wtext hbl (by assumption) (by omega)
    refine ⟨v29_3, rfl, ?_⟩; rw [hm]; have h := H_8; simp only [List.length_append, List.length_cons, List.length_nil, List.length_map, List.length_range, Pk.digs_len, Nat.zero_add, Nat.add_assoc, hbl] at h ⊢; exact h
end Go.Proofs.Ytidepfhfconkaaa
