/- Walks of layer 6 (the sums) and of its reference. Printed by sha.py. -/
import Derived.Test.YtdccphfaeockpaaH13
import Derived.Test.YtdccphfaeockpaaRootMath
namespace Go.Proofs.Ytdccphfaeockpaa
open Go.Ev
set_option maxRecDepth 100000
theorem prime_n (n : Nat) (hn : n < 80) (w0 : World) :
    Calls Try.prog 13 #[Value.int .i64 ((n : Nat) : Int)] w0 (fun r_ w' => r_ = .returned (.int .i64 ((Sm.prs.getD n 0 : Nat) : Int)) ∧ Keep w0 w') := by
  refine F_in Try.func13 rfl Try.ntmps13 rfl ?_
  intro e he
  have p_0 : e 0 = Value.int .i64 ((n : Nat) : Int) := he 0 _ rfl
  have H := Hp.start w0 []
  refine W_seq ?_
  refine W_rg ?_
  refine L_as rfl ?_
  refine L_nil ?_
  refine Th_n ?_
  refine W_seq ?_
  refine W_rg ?_
  refine L_as rfl ?_
  refine L_nil ?_
  refine Th_n ?_
  refine W_block ?_
  refine W_loop (fun mu_ e w => ∃ m : Nat, ∃ at_ : Nat, mu_ = 410 - at_ ∧ e 0 = Value.int .i64 ((m : Nat) : Int) ∧ e 3 = Value.int .i64 ((at_ : Nat) : Int) ∧ Hp w0 [] w [] ∧ at_ ≤ 409 ∧ 2 ≤ at_ ∧ m + Sm.cnt at_ = n) _ ⟨n, 2, rfl, p_0, rfl, H, (by decide), (by decide), (Nat.add_zero n)⟩ ?_
  rintro mu_ e_2 w_2 ⟨m, at_, rfl, e_2_0, e_2_3, H_2, hat, hat2, hm⟩
  refine W_block ?_
  refine W_seq ?_
  refine W_rg ?_
  refine L_as rfl ?_
  refine L_nil ?_
  refine Th_n ?_
  refine W_seq ?_
  refine W_seq ?_
  refine W_rg ?_
  refine L_as rfl ?_
  refine L_nil ?_
  refine Th_n ?_
  refine W_block ?_
  refine W_loop (fun mu_ e w => ∃ isb : Bool, ∃ d : Nat, mu_ = 22 - d ∧ e 0 = Value.int .i64 ((m : Nat) : Int) ∧ e 3 = Value.int .i64 ((at_ : Nat) : Int) ∧ e 4 = Value.bool isb ∧ e 5 = Value.int .i64 ((d : Nat) : Int) ∧ Hp w0 [] w [] ∧ d ≤ 21 ∧ 2 ≤ d ∧ (d = 2 ∨ (d - 1) * (d - 1) ≤ at_) ∧ d * d ≤ 441 ∧ isb = Sm.okU at_ d) _ ⟨true, 2, rfl, e_2_0, e_2_3, rfl, rfl, H_2, (by decide), (by decide), (.inl rfl), (by decide), (Sm.okU_two at_).symm⟩ ?_
  rintro mu_ e_3 w_3 ⟨isb, d, rfl, e_3_0, e_3_3, e_3_4, e_3_5, H_3, hd, hd2, hdd, hsq, his⟩
  refine W_seq ?_
  refine W_seq ?_
  refine W_rg ?_
  refine L_mv rfl ?_
  refine L_mv rfl ?_
  refine L_y rfl (Y_mul (k := .i64) (a := ((d : Nat) : Int)) (b := ((d : Nat) : Int)) (z := ((d * d : Nat) : Int)) e_3_5 e_3_5 (wi (by omega))) ?_
  refine L_mv rfl ?_
  refine L_y rfl (Y_leq (k := .i64) (a := ((d * d : Nat) : Int)) (b := ((at_ : Nat) : Int)) rfl e_3_3) ?_
  refine L_nil ?_
  refine Th_n ?_
  refine W_cond (b := (decide (((d * d : Nat) : Int) ≤ ((at_ : Nat) : Int)))) rfl (fun hc => ?_) (fun hc => ?_)
  ·
    have hle : d * d ≤ at_ := by have := of_decide_eq_true hc; omega
    refine W_skip ?_
    refine Th_n ?_
    refine W_seq ?_
    refine W_block ?_
    refine W_rg ?_
    refine L_mv rfl ?_
    refine L_mv rfl ?_
    rcases Bool.eq_false_or_eq_true isb with hb | hb
    ·
      refine G_mv (wE rfl (e_3_4.trans (congrArg Value.bool hb))) rfl ?_
      refine G_mv (wE rfl (e_3_4.trans (congrArg Value.bool hb))) rfl ?_
      refine G_y (wE rfl (e_3_4.trans (congrArg Value.bool hb))) rfl (Y_rem (k := .i64) (a := ((at_ : Nat) : Int)) (b := ((d : Nat) : Int)) (z := ((at_ % d : Nat) : Int)) e_3_3 e_3_5 (by omega) rfl) ?_
      refine G_y (wE rfl (e_3_4.trans (congrArg Value.bool hb))) rfl (Y_neq (k := .i64) (a := ((at_ % d : Nat) : Int)) (b := ((0 : Nat) : Int)) rfl rfl) ?_
      refine L_y rfl (Y_pickT (e_3_4.trans (congrArg Value.bool hb))) ?_
      refine L_as rfl ?_
      refine L_nil ?_
      refine InB_n ?_
      refine Th_n ?_
      refine W_rg ?_
      refine L_mv rfl ?_
      refine L_y rfl (Y_add (k := .i64) (a := ((d : Nat) : Int)) (b := ((1 : Nat) : Int)) (z := ((d + 1 : Nat) : Int)) e_3_5 rfl (wi (by omega))) ?_
      refine L_as rfl ?_
      refine L_nil ?_
      have hd20 : d ≤ 20 := by rcases Nat.lt_or_ge d 21 with h | h; omega; exact absurd (Nat.le_trans (Nat.mul_le_mul h h) hle) (by omega)
      refine Th_n ⟨_, ?_, ((at_ % d : Nat) : Int) != ((0 : Nat) : Int), d + 1, rfl, e_3_0, e_3_3, rfl, rfl, H_3, (by omega), (by omega), (.inr (by rw [Nat.add_sub_cancel]; exact hle)), (Nat.le_trans (Nat.mul_le_mul (by omega : d + 1 ≤ 21) (by omega : d + 1 ≤ 21)) (by decide)), (Sm.his_t hd2 his hb)⟩
      omega
    ·
      refine G_no (wN (b := true) rfl (e_3_4.trans (congrArg Value.bool hb))) rfl ?_
      refine G_no (wN (b := true) rfl (e_3_4.trans (congrArg Value.bool hb))) rfl ?_
      refine G_no (wN (b := true) rfl (e_3_4.trans (congrArg Value.bool hb))) rfl ?_
      refine G_no (wN (b := true) rfl (e_3_4.trans (congrArg Value.bool hb))) rfl ?_
      refine L_y rfl (Y_pickF (e_3_4.trans (congrArg Value.bool hb))) ?_
      refine L_as rfl ?_
      refine L_nil ?_
      refine InB_n ?_
      refine Th_n ?_
      refine W_rg ?_
      refine L_mv rfl ?_
      refine L_y rfl (Y_add (k := .i64) (a := ((d : Nat) : Int)) (b := ((1 : Nat) : Int)) (z := ((d + 1 : Nat) : Int)) e_3_5 rfl (wi (by omega))) ?_
      refine L_as rfl ?_
      refine L_nil ?_
      have hd20 : d ≤ 20 := by rcases Nat.lt_or_ge d 21 with h | h; omega; exact absurd (Nat.le_trans (Nat.mul_le_mul h h) hle) (by omega)
      refine Th_n ⟨_, ?_, false, d + 1, rfl, e_3_0, e_3_3, rfl, rfl, H_3, (by omega), (by omega), (.inr (by rw [Nat.add_sub_cancel]; exact hle)), (Nat.le_trans (Nat.mul_le_mul (by omega : d + 1 ≤ 21) (by omega : d + 1 ≤ 21)) (by decide)), (Sm.his_f hd2 his hb)⟩
      omega
  ·
    have hex : at_ < d * d := by have := of_decide_eq_false hc; omega
    refine W_exit ?_
    refine Th_x ?_
    refine Th_x ?_
    refine InB_hit ?_
    refine Th_n ?_
    refine W_seq ?_
    refine W_seq ?_
    refine W_rg ?_
    refine L_mv rfl ?_
    refine L_nil ?_
    refine Th_n ?_
    refine W_cond (b := isb) e_3_4 (fun hc_2 => ?_) (fun hc_2 => ?_)
    ·
      refine W_seq ?_
      refine W_seq ?_
      refine W_rg ?_
      refine L_mv rfl ?_
      refine L_y rfl (Y_eql (k := .i64) (a := ((m : Nat) : Int)) (b := ((0 : Nat) : Int)) e_3_0 rfl) ?_
      refine L_nil ?_
      refine Th_n ?_
      refine W_cond (b := (((m : Nat) : Int) == ((0 : Nat) : Int))) rfl (fun hc_3 => ?_) (fun hc_3 => ?_)
      ·
        have hc_3' := eq_of_beq hc_3
        refine W_seq ?_
        refine W_rg ?_
        refine L_mv rfl ?_
        refine L_as rfl ?_
        refine L_nil ?_
        refine Th_n ?_
        refine W_ret ?_
        refine Th_r ?_
        refine Th_r ?_
        refine InB_r ?_
        refine Th_r ?_
        refine InB_r ?_
        refine P_ret (vs := [Value.int .i64 ((at_ : Nat) : Int)]) (v := Value.int .i64 ((at_ : Nat) : Int)) rfl (.tmp e_3_3 (Res.nil)) rfl ?_
        have hcont : Sm.prs.contains at_ = isb := (his.trans (Sm.pr_dec at_ (by omega) d (by omega) ⟨hat2, hd2, hdd, hex⟩)).symm
        rw [hc_2] at hcont
        obtain ⟨hq1, hq2, hq3⟩ := Sm.pr_at at_ (by omega) hcont
        have hm0 : Sm.cnt at_ = n := by omega
        rw [hm0] at hq1
        refine ⟨?_, H_3.nil_⟩
        rw [hq1]
      ·
        have hc_3' := ne_of_beq_false hc_3
        refine W_skip ?_
        refine Th_n ?_
        refine W_rg ?_
        refine L_mv rfl ?_
        refine L_y rfl (Y_sub (k := .i64) (a := ((m : Nat) : Int)) (b := ((1 : Nat) : Int)) (z := ((m - 1 : Nat) : Int)) e_3_0 rfl (wi (by omega))) ?_
        refine L_as rfl ?_
        refine L_nil ?_
        refine Th_n ?_
        refine W_rg ?_
        refine L_mv rfl ?_
        refine L_y rfl (Y_add (k := .i64) (a := ((at_ : Nat) : Int)) (b := ((1 : Nat) : Int)) (z := ((at_ + 1 : Nat) : Int)) e_3_3 rfl (wi (by omega))) ?_
        refine L_as rfl ?_
        refine L_nil ?_
        refine InB_n ?_
        have hcont : Sm.prs.contains at_ = isb := (his.trans (Sm.pr_dec at_ (by omega) d (by omega) ⟨hat2, hd2, hdd, hex⟩)).symm
        rw [hc_2] at hcont
        obtain ⟨hq1, hq2, hq3⟩ := Sm.pr_at at_ (by omega) hcont
        have hq4 : at_ ≠ 409 := fun h => by have := hq3 h; omega
        refine Th_n ⟨_, ?_, m - 1, at_ + 1, rfl, rfl, rfl, H_3, (by omega), (by omega), (by omega)⟩
        omega
    ·
      refine W_skip ?_
      refine Th_n ?_
      refine W_rg ?_
      refine L_mv rfl ?_
      refine L_y rfl (Y_add (k := .i64) (a := ((at_ : Nat) : Int)) (b := ((1 : Nat) : Int)) (z := ((at_ + 1 : Nat) : Int)) e_3_3 rfl (wi (by omega))) ?_
      refine L_as rfl ?_
      refine L_nil ?_
      refine InB_n ?_
      have hcont : Sm.prs.contains at_ = isb := (his.trans (Sm.pr_dec at_ (by omega) d (by omega) ⟨hat2, hd2, hdd, hex⟩)).symm
      rw [hc_2] at hcont
      obtain ⟨hq2, hq4⟩ := Sm.pr_no at_ (by omega) hcont
      refine Th_n ⟨_, ?_, m, at_ + 1, rfl, e_3_0, rfl, H_3, (by omega), (by omega), (by omega)⟩
      omega
end Go.Proofs.Ytdccphfaeockpaa
