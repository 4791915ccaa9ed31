/- Walks of layer 6 (the sums) and of its reference. Printed by sha.py. -/
import Derived.Test.YtdccphfaeockpaaH14
namespace Go.Proofs.Ytdccphfaeockpaa
open Go.Ev
set_option maxRecDepth 100000
theorem T_zero35 : zeroOf Try.prog 35 = some (ua .u64 [0, 0, 0, 0, 0, 0, 0, 0, 0, 0, 0, 0, 0, 0, 0, 0]) := by kernel_rfl
theorem T_arr35 : arrOf Try.prog 35 = some (16, 1) := by kernel_rfl
theorem T_row35 : rowOf Try.prog 35 = some 16 := by kernel_rfl
theorem T_en25 : enters Try.prog 25 = true := by kernel_rfl
theorem T_en26 : enters Try.prog 26 = true := by kernel_rfl
theorem tou_end2 {a b m : List Nat} {i k c : Nat} (hk : k = 16 - i) (h : (m, c) = Sm.tin (a.getD i 0) b i k (Sm.tou a b i, 0)) : m = Sm.tou a b (i + 1) := by
  rw [Sm.tou, ← hk, ← h]

theorem tou_len (a b : List Nat) : ∀ i, (Sm.tou a b i).length = 16
  | 0 => rfl
  | i + 1 => by rw [Sm.tou, Sm.tin_len]; exact tou_len a b i

theorem times_n (la lb : List Nat) (ha : Wd 16 18446744073709551616 la) (hb : Wd 16 18446744073709551616 lb) (w0 : World) :
    Calls Try.prog 26 #[Value.agg (ua .u64 la), Value.agg (ua .u64 lb)] w0 (fun r_ w' => r_ = .returned (.agg (ua .u64 (Sm.tm la lb))) ∧ Keep w0 w') := by
  refine F_in Try.func26 rfl Try.ntmps26 rfl ?_
  intro e he
  have p_0 : e 0 = Value.agg (ua .u64 la) := he 0 _ rfl
  have p_1 : e 1 = Value.agg (ua .u64 lb) := he 1 _ rfl
  have H := Hp.start w0 []
  refine W_seq ?_
  refine W_rg ?_
  refine L_box rfl H p_0 (cs := ua .u64 la) rfl ?_; intro bk2 w_2 H_2
  refine L_box rfl H_2 p_1 (cs := ua .u64 lb) rfl ?_; intro bk3 w_3 H_3
  refine L_alloc rfl H_3 T_zero35 ?_; intro bk4 w_4 H_4
  refine L_nil ?_
  refine Th_n ?_
  refine W_seq ?_
  refine W_rg ?_
  refine L_alloc rfl H_4 T_zero35 ?_; intro bk5 w_5 H_5
  refine L_nil ?_
  refine Th_n ?_
  refine W_seq ?_
  refine W_seq ?_
  refine W_rg ?_
  refine L_as rfl ?_
  refine L_nil ?_
  refine Th_n ?_
  refine W_block ?_
  refine W_loop (fun mu_ e w => ∃ i : Nat, ∃ l : List Nat, mu_ = 16 - i ∧ e 2 = Value.pointer (some ⟨bk2, 0, none⟩) ∧ e 3 = Value.pointer (some ⟨bk3, 0, none⟩) ∧ e 4 = Value.pointer (some ⟨bk4, 0, none⟩) ∧ e 5 = Value.pointer (some ⟨bk5, 0, none⟩) ∧ e 6 = Value.int .i64 ((i : Nat) : Int) ∧ Hp w0 [] w [Ent.blk bk5 35 (ua .u64 l), Ent.blk bk4 35 (ua .u64 [0, 0, 0, 0, 0, 0, 0, 0, 0, 0, 0, 0, 0, 0, 0, 0]), Ent.blk bk3 35 (ua .u64 lb), Ent.blk bk2 35 (ua .u64 la)] ∧ i ≤ 16 ∧ Wd 16 18446744073709551616 l ∧ l = Sm.tou la lb i) _ ⟨0, [0, 0, 0, 0, 0, 0, 0, 0, 0, 0, 0, 0, 0, 0, 0, 0], rfl, rfl, rfl, rfl, rfl, rfl, H_5, (Nat.zero_le _), ⟨rfl, by decide⟩, rfl⟩ ?_
  rintro mu_ e_2 w_6 ⟨i, l, rfl, e_2_2, e_2_3, e_2_4, e_2_5, e_2_6, H_6, hi, hl, hV⟩
  refine W_seq ?_
  refine W_seq ?_
  refine W_rg ?_
  refine L_mv rfl ?_
  refine L_y rfl (Y_lss (k := .i64) (a := ((i : Nat) : Int)) (b := ((16 : Nat) : Int)) e_2_6 rfl) ?_
  refine L_nil ?_
  refine Th_n ?_
  refine W_cond (b := (decide (((i : Nat) : Int) < ((16 : Nat) : Int)))) rfl (fun hc => ?_) (fun hc => ?_)
  ·
    have hc' := of_decide_eq_true hc
    refine W_skip ?_
    refine Th_n ?_
    refine W_seq ?_
    refine W_block ?_
    refine W_seq ?_
    refine W_rg ?_
    refine L_as rfl ?_
    refine L_nil ?_
    refine Th_n ?_
    refine W_seq ?_
    refine W_rg ?_
    refine L_as rfl ?_
    refine L_nil ?_
    refine Th_n ?_
    refine W_block ?_
    obtain ⟨ai, hai⟩ : ∃ u, la[i]? = some u := ⟨_, List.getElem?_eq_getElem (by have := ha.1; omega)⟩
    refine W_loop (fun mu_ e w => ∃ k : Nat, ∃ m : List Nat, ∃ c : Nat, mu_ = 16 - k ∧ e 2 = Value.pointer (some ⟨bk2, 0, none⟩) ∧ e 3 = Value.pointer (some ⟨bk3, 0, none⟩) ∧ e 4 = Value.pointer (some ⟨bk4, 0, none⟩) ∧ e 5 = Value.pointer (some ⟨bk5, 0, none⟩) ∧ e 6 = Value.int .i64 ((i : Nat) : Int) ∧ e 7 = Value.int .u64 ((c : Nat) : Int) ∧ e 8 = Value.int .i64 ((k : Nat) : Int) ∧ Hp w0 [] w [Ent.blk bk5 35 (ua .u64 m), Ent.blk bk4 35 (ua .u64 [0, 0, 0, 0, 0, 0, 0, 0, 0, 0, 0, 0, 0, 0, 0, 0]), Ent.blk bk3 35 (ua .u64 lb), Ent.blk bk2 35 (ua .u64 la)] ∧ k ≤ 16 - i ∧ Wd 16 18446744073709551616 m ∧ c < 18446744073709551616 ∧ (m, c) = Sm.tin (la.getD i 0) lb i k (Sm.tou la lb i, 0)) _ ⟨0, l, 0, rfl, e_2_2, e_2_3, e_2_4, e_2_5, e_2_6, rfl, rfl, H_6, (Nat.zero_le _), hl, (by decide), (by rw [hV]; rfl)⟩ ?_
    rintro mu_ e_3 w_7 ⟨k, m, c, rfl, e_3_2, e_3_3, e_3_4, e_3_5, e_3_6, e_3_7, e_3_8, H_7, hk, hm, hc, hW⟩
    refine W_seq ?_
    refine W_seq ?_
    refine W_rg ?_
    refine L_mv rfl ?_
    refine L_mv rfl ?_
    refine L_y rfl (Y_add (k := .i64) (a := ((i : Nat) : Int)) (b := ((k : Nat) : Int)) (z := ((i + k : Nat) : Int)) e_3_6 e_3_8 (wi (by omega))) ?_
    refine L_y rfl (Y_lss (k := .i64) (a := ((i + k : Nat) : Int)) (b := ((16 : Nat) : Int)) rfl rfl) ?_
    refine L_nil ?_
    refine Th_n ?_
    refine W_cond (b := (decide (((i + k : Nat) : Int) < ((16 : Nat) : Int)))) rfl (fun hc_2 => ?_) (fun hc_2 => ?_)
    ·
      have hc_2' := of_decide_eq_true hc_2
      refine W_skip ?_
      refine Th_n ?_
      refine W_seq ?_
      refine W_block ?_
      refine W_seq ?_
      obtain ⟨x24, hx24⟩ : ∃ u, m[i + k]? = some u := ⟨_, List.getElem?_eq_getElem (by have := hm.1; omega)⟩
      have rx24 := hm.2 _ (List.mem_of_getElem? hx24)
      obtain ⟨x28, hx28⟩ : ∃ u, la[i]? = some u := ⟨_, List.getElem?_eq_getElem (by have := ha.1; omega)⟩
      have rx28 := ha.2 _ (List.mem_of_getElem? hx28)
      obtain ⟨x31, hx31⟩ : ∃ u, lb[k]? = some u := ⟨_, List.getElem?_eq_getElem (by have := hb.1; omega)⟩
      have rx31 := hb.2 _ (List.mem_of_getElem? hx31)
      refine W_quiet H_7 14 [Value.int .u64 ((c : Nat) : Int), Value.int .i64 ((i : Nat) : Int), Value.int .i64 ((k : Nat) : Int), Value.int .i64 ((i + k : Nat) : Int), Value.pointer (some ⟨bk5, i + k, none⟩), Value.int .u64 ((x24 : Nat) : Int), Value.int .u64 (((c + x24) % 18446744073709551616 : Nat) : Int), Value.int .i64 ((i : Nat) : Int), Value.pointer (some ⟨bk2, i, none⟩), Value.int .u64 ((x28 : Nat) : Int), Value.int .i64 ((k : Nat) : Int), Value.pointer (some ⟨bk3, k, none⟩), Value.int .u64 ((x31 : Nat) : Int), Value.int .u64 ((x28 * x31 % 18446744073709551616 : Nat) : Int)] T_mixed (by kernel_rfl) ?_ ?_
      ·
        refine .plain rfl (Pl_y rfl (fun w hBw => congrArg (fun v => Result.ok (Next.value v) w) e_3_7)) ?_
        refine .plain rfl (Pl_y rfl (fun w hBw => congrArg (fun v => Result.ok (Next.value v) w) e_3_6)) ?_
        refine .plain rfl (Pl_y rfl (fun w hBw => congrArg (fun v => Result.ok (Next.value v) w) e_3_8)) ?_
        refine .plain rfl (Pl_y rfl (fun w hBw => Y_add (k := .i64) (a := ((i : Nat) : Int)) (b := ((k : Nat) : Int)) (z := ((i + k : Nat) : Int)) rfl rfl (wi (by omega)))) ?_
        refine .plain rfl (Pl_y rfl (fun w hBw => Y_idxA (i + k) (i + k) T_arr35 e_3_5 rfl rfl (by omega) (zz1 _))) ?_
        refine .plain rfl (Pl_y rfl (fun w hBw => Y_ld T_scal31 hBw (i := 0) rfl rfl (ua_get hx24))) ?_
        refine .plain rfl (Pl_y rfl (fun w hBw => Yu_add (k := .u64) rfl c x24 rfl rfl)) ?_
        refine .plain rfl (Pl_y rfl (fun w hBw => congrArg (fun v => Result.ok (Next.value v) w) e_3_6)) ?_
        refine .plain rfl (Pl_y rfl (fun w hBw => Y_idxA i i T_arr35 e_3_2 rfl rfl (by omega) (zz1 _))) ?_
        refine .plain rfl (Pl_y rfl (fun w hBw => Y_ld T_scal31 hBw (i := 3) rfl rfl (ua_get hx28))) ?_
        refine .plain rfl (Pl_y rfl (fun w hBw => congrArg (fun v => Result.ok (Next.value v) w) e_3_8)) ?_
        refine .plain rfl (Pl_y rfl (fun w hBw => Y_idxA k k T_arr35 e_3_3 rfl rfl (by omega) (zz1 _))) ?_
        refine .plain rfl (Pl_y rfl (fun w hBw => Y_ld T_scal31 hBw (i := 2) rfl rfl (ua_get hx31))) ?_
        refine .plain rfl (Pl_y rfl (fun w hBw => Yu_mul (k := .u64) rfl x28 x31 rfl rfl)) ?_
        exact .nil _
      ·
        intro e_4 w_8 hAg H_8
        have e_4_2 : e_4 2 = Value.pointer (some ⟨bk2, 0, none⟩) := (hAg 2 rfl).trans e_3_2
        have e_4_3 : e_4 3 = Value.pointer (some ⟨bk3, 0, none⟩) := (hAg 3 rfl).trans e_3_3
        have e_4_4 : e_4 4 = Value.pointer (some ⟨bk4, 0, none⟩) := (hAg 4 rfl).trans e_3_4
        have e_4_5 : e_4 5 = Value.pointer (some ⟨bk5, 0, none⟩) := (hAg 5 rfl).trans e_3_5
        have e_4_6 : e_4 6 = Value.int .i64 ((i : Nat) : Int) := (hAg 6 rfl).trans e_3_6
        have e_4_8 : e_4 8 = Value.int .i64 ((k : Nat) : Int) := (hAg 8 rfl).trans e_3_8
        obtain ⟨x25, hx25⟩ : ∃ z_ : Nat, z_ = (c + x24) % 18446744073709551616 := ⟨_, rfl⟩
        have rx25 : x25 < 18446744073709551616 := by rw [hx25]; exact (Nat.mod_lt _ (by decide))
        have e_4_25 : e_4 25 = Value.int .u64 ((x25 : Nat) : Int) := (hAg 25 rfl).trans (by rw [hx25]; exact rfl)
        obtain ⟨x32, hx32⟩ : ∃ z_ : Nat, z_ = x28 * x31 % 18446744073709551616 := ⟨_, rfl⟩
        have rx32 : x32 < 18446744073709551616 := by rw [hx32]; exact (Nat.mod_lt _ (by decide))
        have e_4_32 : e_4 32 = Value.int .u64 ((x32 : Nat) : Int) := (hAg 32 rfl).trans (by rw [hx32]; exact rfl)
        refine L_yr (z := (x25 + x32) % 18446744073709551616) (m := 18446744073709551616) rfl (Yu_add (k := .u64) rfl x25 x32 e_4_25 e_4_32) (Nat.mod_lt _ (by decide)) ?_; intro x33 hx33 rx33
        refine L_as rfl ?_
        refine L_nil ?_
        refine Th_n ?_
        refine W_seq ?_
        refine W_rg ?_
        refine L_mv rfl ?_
        refine L_mv rfl ?_
        refine L_y rfl (Y_add (k := .i64) (a := ((i : Nat) : Int)) (b := ((k : Nat) : Int)) (z := ((i + k : Nat) : Int)) e_4_6 e_4_8 (wi (by omega))) ?_
        refine L_mv rfl ?_
        refine L_yr (z := x33 % 65536) (m := 18446744073709551616) rfl (Yu_rem (k := .u64) x33 65536 rfl rfl (by decide)) (Nat.lt_of_le_of_lt (Nat.mod_le _ _) rx33) ?_; intro x38 hx38 rx38
        refine L_y rfl (Y_idxA (i + k) (i + k) T_arr35 e_4_5 rfl rfl (by omega) (zz1 _)) ?_
        refine L_st (v := Value.int .u64 ((x38 : Nat) : Int)) T_scal31 H_8 (i := 0) rfl rfl rfl rfl (by rw [ua_size]; have := hm.1; omega) (l' := [Ent.blk bk5 35 (ua .u64 (m.set (i + k) x38)), Ent.blk bk4 35 (ua .u64 [0, 0, 0, 0, 0, 0, 0, 0, 0, 0, 0, 0, 0, 0, 0, 0]), Ent.blk bk3 35 (ua .u64 lb), Ent.blk bk2 35 (ua .u64 la)]) (by rw [ua_set]; rfl) ?_; intro w_9 H_9
        refine L_nil ?_
        refine Th_n ?_
        refine W_rg ?_
        refine L_mv rfl ?_
        refine L_yr (z := x33 / 65536) (m := 18446744073709551616) rfl (Yu_quo (k := .u64) rfl x33 65536 rx33 rfl rfl (by decide)) (Nat.lt_of_le_of_lt (Nat.div_le_self _ _) rx33) ?_; intro x41 hx41 rx41
        refine L_as rfl ?_
        refine L_nil ?_
        refine InB_n ?_
        refine Th_n ?_
        refine W_rg ?_
        refine L_mv rfl ?_
        refine L_y rfl (Y_add (k := .i64) (a := ((k : Nat) : Int)) (b := ((1 : Nat) : Int)) (z := ((k + 1 : Nat) : Int)) e_4_8 rfl (wi (by omega))) ?_
        refine L_as rfl ?_
        refine L_nil ?_
        refine Th_n ⟨_, ?_, k + 1, m.set (i + k) x38, x41, rfl, e_4_2, e_4_3, e_4_4, e_4_5, e_4_6, rfl, rfl, H_9, (by omega), (Wd.set hm rx38), rx41, (by rw [hx41]; exact Sm.tin_step hW hx24 hx31 (by rw [hx33, hx25, hx32, ← Sm.get_of hx28]) hx38)⟩
        omega
    ·
      have hc_2' := of_decide_eq_false hc_2
      refine W_exit ?_
      refine Th_x ?_
      refine Th_x ?_
      refine InB_hit ?_
      refine InB_n ?_
      refine Th_n ?_
      refine W_rg ?_
      refine L_mv rfl ?_
      refine L_y rfl (Y_add (k := .i64) (a := ((i : Nat) : Int)) (b := ((1 : Nat) : Int)) (z := ((i + 1 : Nat) : Int)) e_3_6 rfl (wi (by omega))) ?_
      refine L_as rfl ?_
      refine L_nil ?_
      refine Th_n ⟨_, ?_, i + 1, m, rfl, e_3_2, e_3_3, e_3_4, e_3_5, rfl, H_7, (by omega), hm, (tou_end2 (i := i) (k := k) (by omega) hW)⟩
      omega
  ·
    have hc' := of_decide_eq_false hc
    refine W_exit ?_
    refine Th_x ?_
    refine Th_x ?_
    refine InB_hit ?_
    refine Th_n ?_
    refine W_seq ?_
    refine W_rg ?_
    refine L_y rfl (Y_ldr T_row35 H_6 (i := 0) rfl e_2_5 (by rw [ua_size]; exact hl.1)) ?_
    refine L_str (ds := ua .u64 l) T_row35 H_6 (i := 1) rfl e_2_4 rfl rfl (by rw [ua_size]; exact hl.1) (ua_one _ _) (l' := [Ent.blk bk5 35 (ua .u64 l), Ent.blk bk4 35 (ua .u64 l), Ent.blk bk3 35 (ua .u64 lb), Ent.blk bk2 35 (ua .u64 la)]) rfl ?_; intro w_10 H_10
    refine L_nil ?_
    refine Th_n ?_
    refine W_ret ?_
    refine P_ret (vs := [Value.agg (ua .u64 l)]) (v := Value.agg (ua .u64 l)) rfl (.cell e_2_4 (loadVar_row T_row35 H_10 (i := 1) rfl (by rw [ua_size]; exact hl.1)) (Res.nil)) rfl ?_
    refine ⟨?_, H_10.nil_⟩
    obtain rfl : i = 16 := by omega
    rw [hV]; rfl

theorem tin_wd {x : Nat} {b : List Nat} {i : Nat} {s : List Nat × Nat} (h : ∀ u ∈ s.1, u < 18446744073709551616) : ∀ k, ∀ u ∈ (Sm.tin x b i k s).1, u < 18446744073709551616
  | 0 => h
  | k + 1 => fun u hu => by
    rw [Sm.tin] at hu
    rcases List.mem_or_eq_of_mem_set hu with h1 | h1
    · exact tin_wd h k u h1
    · rw [h1]; exact Nat.lt_of_lt_of_le (Nat.mod_lt _ (by decide)) (by decide)
theorem tou_wd (a b : List Nat) : ∀ i, ∀ u ∈ Sm.tou a b i, u < 18446744073709551616
  | 0 => fun u hu => by rw [(List.mem_replicate.1 hu).2]; decide
  | i + 1 => by rw [Sm.tou]; exact tin_wd (tou_wd a b i) _
theorem tm_wd (a b : List Nat) : Wd 16 18446744073709551616 (Sm.tm a b) := ⟨tou_len a b 16, tou_wd a b 16⟩

theorem ofd_wd {c w : Nat} (hc : c < 18446744073709551616) (hw : w < 1000) : Wd 16 18446744073709551616 (Sm.ofd c w) := ⟨rfl, by
  intro u hu
  simp only [Sm.ofd, List.mem_cons, List.not_mem_nil, or_false] at hu
  have h1 : c / 2 ^ 48 ≤ c := Nat.div_le_self _ _
  omega⟩
theorem ofd1_wd {c w : Nat} (hc : c < 18446744073709551616) (hw : w < 1000) : Wd 16 18446744073709551616 (Sm.ofd1 c w) := ⟨rfl, by
  intro u hu
  simp only [Sm.ofd1, List.mem_cons, List.not_mem_nil, or_false] at hu
  have h1 : c / 2 ^ 48 ≤ c := Nat.div_le_self _ _
  omega⟩

theorem of_n (c w : Nat) (hc : c < 18446744073709551616) (hw : w < 1000) (w0 : World) :
    Calls Try.prog 25 #[Value.int .u64 ((c : Nat) : Int), Value.int .i64 ((w : Nat) : Int)] w0 (fun r_ w' => r_ = .returned (.agg (ua .u64 (Sm.ofd c w))) ∧ Keep w0 w') := by
  refine F_in Try.func25 rfl Try.ntmps25 rfl ?_
  intro e he
  have p_0 : e 0 = Value.int .u64 ((c : Nat) : Int) := he 0 _ rfl
  have p_1 : e 1 = Value.int .i64 ((w : Nat) : Int) := he 1 _ rfl
  have H := Hp.start w0 []
  refine W_seq ?_
  refine W_rg ?_
  refine L_alloc rfl H T_zero35 ?_; intro bk4 w_2 H_2
  refine L_nil ?_
  refine Th_n ?_
  refine W_seq ?_
  refine W_rg ?_
  refine L_mv rfl ?_
  refine L_yr (z := c % 65536) (m := 18446744073709551616) rfl (Yu_rem (k := .u64) c 65536 p_0 rfl (by decide)) (Nat.lt_of_le_of_lt (Nat.mod_le _ _) hc) ?_; intro x6 hx6 rx6
  refine L_mv rfl ?_
  refine L_yr (z := c / 2 ^ 16) (m := 18446744073709551616) rfl (Yu_shr (k := .u64) c 16 hc p_0 rfl) (Nat.lt_of_le_of_lt (Nat.div_le_self _ _) hc) ?_; intro x8 hx8 rx8
  refine L_yr (z := x8 % 65536) (m := 18446744073709551616) rfl (Yu_rem (k := .u64) x8 65536 rfl rfl (by decide)) (Nat.lt_of_le_of_lt (Nat.mod_le _ _) rx8) ?_; intro x9 hx9 rx9
  refine L_mv rfl ?_
  refine L_yr (z := c / 2 ^ 32) (m := 18446744073709551616) rfl (Yu_shr (k := .u64) c 32 hc p_0 rfl) (Nat.lt_of_le_of_lt (Nat.div_le_self _ _) hc) ?_; intro x11 hx11 rx11
  refine L_yr (z := x11 % 65536) (m := 18446744073709551616) rfl (Yu_rem (k := .u64) x11 65536 rfl rfl (by decide)) (Nat.lt_of_le_of_lt (Nat.mod_le _ _) rx11) ?_; intro x12 hx12 rx12
  refine L_mv rfl ?_
  refine L_yr (z := c / 2 ^ 48) (m := 18446744073709551616) rfl (Yu_shr (k := .u64) c 48 hc p_0 rfl) (Nat.lt_of_le_of_lt (Nat.div_le_self _ _) hc) ?_; intro x14 hx14 rx14
  refine L_mv rfl ?_
  refine L_y rfl (Y_convI (k := .i64) (n := ((w : Nat) : Int)) (z := ((w : Nat) : Int)) T_some3 T_kind31 p_1 (wrapS rfl (by first | decide | (show _ < 18446744073709551616; omega)))) ?_
  refine L_y rfl (Y_build (pv := [(0, Value.int .u64 ((x6 : Nat) : Int)), (1, Value.int .u64 ((x9 : Nat) : Int)), (2, Value.int .u64 ((x12 : Nat) : Int)), (3, Value.int .u64 ((x14 : Nat) : Int)), (4, Value.int .u64 ((w : Nat) : Int))]) (cs := ua .u64 [x6, x9, x12, x14, w, 0, 0, 0, 0, 0, 0, 0, 0, 0, 0, 0]) (Bpc rfl (Bpc rfl (Bpc rfl (Bpc rfl (Bpc rfl Bp0))))) (by kernel_rfl)) ?_
  refine L_str (ds := ua .u64 [x6, x9, x12, x14, w, 0, 0, 0, 0, 0, 0, 0, 0, 0, 0, 0]) T_row35 H_2 (i := 0) rfl rfl rfl rfl rfl (ua_one _ _) (l' := [Ent.blk bk4 35 (ua .u64 [x6, x9, x12, x14, w, 0, 0, 0, 0, 0, 0, 0, 0, 0, 0, 0])]) rfl ?_; intro w_3 H_3
  refine L_nil ?_
  refine Th_n ?_
  refine W_ret ?_
  refine P_ret (vs := [Value.agg (ua .u64 [x6, x9, x12, x14, w, 0, 0, 0, 0, 0, 0, 0, 0, 0, 0, 0])]) (v := Value.agg (ua .u64 [x6, x9, x12, x14, w, 0, 0, 0, 0, 0, 0, 0, 0, 0, 0, 0])) rfl (.cell rfl (loadVar_row T_row35 H_3 (i := 0) rfl rfl) (Res.nil)) rfl ?_
  refine ⟨?_, H_3.nil_⟩
  rw [hx6, hx9, hx12, hx8, hx11, hx14]
  rfl

theorem power3_n (c w : Nat) (hc : c < 18446744073709551616) (hw : w < 1000) (w0 : World) :
    Calls Try.prog 16 #[Value.int .u64 ((c : Nat) : Int), Value.int .i64 ((w : Nat) : Int), Value.int .i64 ((3 : Nat) : Int)] w0 (fun r_ w' => r_ = .returned (.agg (ua .u64 (Sm.tm (Sm.tm (Sm.ofd c w) (Sm.ofd c w)) (Sm.ofd c w)))) ∧ Keep w0 w') := by
  refine F_in Try.func16 rfl Try.ntmps16 rfl ?_
  intro e he
  have p_0 : e 0 = Value.int .u64 ((c : Nat) : Int) := he 0 _ rfl
  have p_1 : e 1 = Value.int .i64 ((w : Nat) : Int) := he 1 _ rfl
  have p_2 : e 2 = Value.int .i64 ((3 : Nat) : Int) := he 2 _ rfl
  have H := Hp.start w0 []
  refine W_seq ?_
  refine W_rg ?_
  refine L_alloc rfl H T_zero35 ?_; intro bk6 w_2 H_2
  refine L_nil ?_
  refine Th_n ?_
  refine W_seq ?_
  refine W_rg ?_
  refine L_mv rfl ?_
  refine L_mv rfl ?_
  refine L_callv rfl rfl T_en25 (A2 p_0 p_1) (of_n c w hc (by omega) _) ?_
  rintro _ w_3 ⟨rfl, hkp⟩; refine ⟨_, rfl, ?_⟩; have H_3 := H_2.keep hkp
  refine L_alloc rfl H_3 T_zero35 ?_; intro bk7 w_4 H_4
  refine L_str (ds := ua .u64 (Sm.ofd c w)) T_row35 H_4 (i := 0) rfl rfl rfl rfl (by rw [ua_size]; exact (ofd_wd hc (by omega)).1) (ua_one _ _) (l' := [Ent.blk bk7 35 (ua .u64 (Sm.ofd c w)), Ent.blk bk6 35 (ua .u64 [0, 0, 0, 0, 0, 0, 0, 0, 0, 0, 0, 0, 0, 0, 0, 0])]) rfl ?_; intro w_5 H_5
  refine L_nil ?_
  refine Th_n ?_
  refine W_seq ?_
  refine W_rg ?_
  refine L_y rfl (Y_ldr T_row35 H_5 (i := 0) rfl rfl (by rw [ua_size]; exact (ofd_wd hc (by omega)).1)) ?_
  refine L_alloc rfl H_5 T_zero35 ?_; intro bk8 w_6 H_6
  refine L_str (ds := ua .u64 (Sm.ofd c w)) T_row35 H_6 (i := 0) rfl rfl rfl rfl (by rw [ua_size]; exact (ofd_wd hc (by omega)).1) (ua_one _ _) (l' := [Ent.blk bk8 35 (ua .u64 (Sm.ofd c w)), Ent.blk bk7 35 (ua .u64 (Sm.ofd c w)), Ent.blk bk6 35 (ua .u64 [0, 0, 0, 0, 0, 0, 0, 0, 0, 0, 0, 0, 0, 0, 0, 0])]) rfl ?_; intro w_7 H_7
  refine L_nil ?_
  refine Th_n ?_
  refine W_seq ?_
  refine W_seq ?_
  refine W_rg ?_
  refine L_as rfl ?_
  refine L_nil ?_
  refine Th_n ?_
  refine W_block ?_
  refine W_rounds 3 ?_
  refine Wr_s ?_
  refine W_seq ?_
  refine W_seq ?_
  refine W_rg ?_
  refine L_mv rfl ?_
  refine L_mv rfl ?_
  refine L_y rfl (Y_lss (k := .i64) (a := ((1 : Nat) : Int)) (b := ((3 : Nat) : Int)) rfl p_2) ?_
  refine L_nil ?_
  refine Th_n ?_
  refine W_true (congrArg Value.bool (by decide : (decide (((1 : Nat) : Int) < ((3 : Nat) : Int))) = true)) ?_
  refine W_skip ?_
  refine Th_n ?_
  refine W_seq ?_
  refine W_block ?_
  refine W_rg ?_
  refine L_y rfl (Y_ldr T_row35 H_7 (i := 0) rfl rfl (by rw [ua_size]; exact (ofd_wd hc (by omega)).1)) ?_
  refine L_y rfl (Y_ldr T_row35 H_7 (i := 1) rfl rfl (by rw [ua_size]; exact (ofd_wd hc (by omega)).1)) ?_
  refine L_callv rfl rfl T_en26 (A2 rfl rfl) (times_n (Sm.ofd c w) (Sm.ofd c w) (ofd_wd hc (by omega)) (ofd_wd hc (by omega)) _) ?_
  rintro _ w_8 ⟨rfl, hkp_2⟩; refine ⟨_, rfl, ?_⟩; have H_8 := H_7.keep hkp_2
  refine L_str (ds := ua .u64 (Sm.tm (Sm.ofd c w) (Sm.ofd c w))) T_row35 H_8 (i := 0) rfl rfl rfl (by rw [ua_size]; exact (ofd_wd hc (by omega)).1) (by rw [ua_size]; exact (tm_wd _ _).1) (ua_one _ _) (l' := [Ent.blk bk8 35 (ua .u64 (Sm.tm (Sm.ofd c w) (Sm.ofd c w))), Ent.blk bk7 35 (ua .u64 (Sm.ofd c w)), Ent.blk bk6 35 (ua .u64 [0, 0, 0, 0, 0, 0, 0, 0, 0, 0, 0, 0, 0, 0, 0, 0])]) rfl ?_; intro w_9 H_9
  refine L_nil ?_
  refine InB_n ?_
  refine Th_n ?_
  refine W_rg ?_
  refine L_mv rfl ?_
  refine L_y rfl (Y_add (k := .i64) (a := ((1 : Nat) : Int)) (b := ((1 : Nat) : Int)) (z := ((2 : Nat) : Int)) rfl rfl (by decide)) ?_
  refine L_as rfl ?_
  refine L_nil ?_
  refine Th_n ?_
  refine Wr_s ?_
  refine W_seq ?_
  refine W_seq ?_
  refine W_rg ?_
  refine L_mv rfl ?_
  refine L_mv rfl ?_
  refine L_y rfl (Y_lss (k := .i64) (a := ((2 : Nat) : Int)) (b := ((3 : Nat) : Int)) rfl p_2) ?_
  refine L_nil ?_
  refine Th_n ?_
  refine W_true (congrArg Value.bool (by decide : (decide (((2 : Nat) : Int) < ((3 : Nat) : Int))) = true)) ?_
  refine W_skip ?_
  refine Th_n ?_
  refine W_seq ?_
  refine W_block ?_
  refine W_rg ?_
  refine L_y rfl (Y_ldr T_row35 H_9 (i := 0) rfl rfl (by rw [ua_size]; exact (tm_wd _ _).1)) ?_
  refine L_y rfl (Y_ldr T_row35 H_9 (i := 1) rfl rfl (by rw [ua_size]; exact (ofd_wd hc (by omega)).1)) ?_
  refine L_callv rfl rfl T_en26 (A2 rfl rfl) (times_n (Sm.tm (Sm.ofd c w) (Sm.ofd c w)) (Sm.ofd c w) (tm_wd _ _) (ofd_wd hc (by omega)) _) ?_
  rintro _ w_10 ⟨rfl, hkp_3⟩; refine ⟨_, rfl, ?_⟩; have H_10 := H_9.keep hkp_3
  refine L_str (ds := ua .u64 (Sm.tm (Sm.tm (Sm.ofd c w) (Sm.ofd c w)) (Sm.ofd c w))) T_row35 H_10 (i := 0) rfl rfl rfl (by rw [ua_size]; exact (tm_wd _ _).1) (by rw [ua_size]; exact (tm_wd _ _).1) (ua_one _ _) (l' := [Ent.blk bk8 35 (ua .u64 (Sm.tm (Sm.tm (Sm.ofd c w) (Sm.ofd c w)) (Sm.ofd c w))), Ent.blk bk7 35 (ua .u64 (Sm.ofd c w)), Ent.blk bk6 35 (ua .u64 [0, 0, 0, 0, 0, 0, 0, 0, 0, 0, 0, 0, 0, 0, 0, 0])]) rfl ?_; intro w_11 H_11
  refine L_nil ?_
  refine InB_n ?_
  refine Th_n ?_
  refine W_rg ?_
  refine L_mv rfl ?_
  refine L_y rfl (Y_add (k := .i64) (a := ((2 : Nat) : Int)) (b := ((1 : Nat) : Int)) (z := ((3 : Nat) : Int)) rfl rfl (by decide)) ?_
  refine L_as rfl ?_
  refine L_nil ?_
  refine Th_n ?_
  refine Wr_s ?_
  refine W_seq ?_
  refine W_seq ?_
  refine W_rg ?_
  refine L_mv rfl ?_
  refine L_mv rfl ?_
  refine L_y rfl (Y_lss (k := .i64) (a := ((3 : Nat) : Int)) (b := ((3 : Nat) : Int)) rfl p_2) ?_
  refine L_nil ?_
  refine Th_n ?_
  refine W_false (congrArg Value.bool (by decide : (decide (((3 : Nat) : Int) < ((3 : Nat) : Int))) = false)) ?_
  refine W_exit ?_
  refine Th_x ?_
  refine Th_x ?_
  refine InB_hit ?_
  refine Th_n ?_
  refine W_seq ?_
  refine W_rg ?_
  refine L_y rfl (Y_ldr T_row35 H_11 (i := 0) rfl rfl (by rw [ua_size]; exact (tm_wd _ _).1)) ?_
  refine L_str (ds := ua .u64 (Sm.tm (Sm.tm (Sm.ofd c w) (Sm.ofd c w)) (Sm.ofd c w))) T_row35 H_11 (i := 2) rfl rfl rfl rfl (by rw [ua_size]; exact (tm_wd _ _).1) (ua_one _ _) (l' := [Ent.blk bk8 35 (ua .u64 (Sm.tm (Sm.tm (Sm.ofd c w) (Sm.ofd c w)) (Sm.ofd c w))), Ent.blk bk7 35 (ua .u64 (Sm.ofd c w)), Ent.blk bk6 35 (ua .u64 (Sm.tm (Sm.tm (Sm.ofd c w) (Sm.ofd c w)) (Sm.ofd c w)))]) rfl ?_; intro w_12 H_12
  refine L_nil ?_
  refine Th_n ?_
  refine W_ret ?_
  refine P_ret (vs := [Value.agg (ua .u64 (Sm.tm (Sm.tm (Sm.ofd c w) (Sm.ofd c w)) (Sm.ofd c w)))]) (v := Value.agg (ua .u64 (Sm.tm (Sm.tm (Sm.ofd c w) (Sm.ofd c w)) (Sm.ofd c w)))) rfl (.cell rfl (loadVar_row T_row35 H_12 (i := 2) rfl (by rw [ua_size]; exact (tm_wd _ _).1)) (Res.nil)) rfl ?_
  refine ⟨?_, H_12.nil_⟩
  rfl

theorem powerb3_n (c w : Nat) (hc : c < 18446744073709551616) (hw : w < 1000) (hlow : c % 65536 + 1 < 65536) (w0 : World) :
    Calls Try.prog 17 #[Value.int .u64 ((c : Nat) : Int), Value.int .i64 ((w : Nat) : Int), Value.int .i64 ((3 : Nat) : Int)] w0 (fun r_ w' => r_ = .returned (.agg (ua .u64 (Sm.tm (Sm.tm (Sm.ofd1 c w) (Sm.ofd1 c w)) (Sm.ofd1 c w)))) ∧ Keep w0 w') := by
  refine F_in Try.func17 rfl Try.ntmps17 rfl ?_
  intro e he
  have p_0 : e 0 = Value.int .u64 ((c : Nat) : Int) := he 0 _ rfl
  have p_1 : e 1 = Value.int .i64 ((w : Nat) : Int) := he 1 _ rfl
  have p_2 : e 2 = Value.int .i64 ((3 : Nat) : Int) := he 2 _ rfl
  have H := Hp.start w0 []
  refine W_seq ?_
  refine W_rg ?_
  refine L_alloc rfl H T_zero35 ?_; intro bk6 w_2 H_2
  refine L_nil ?_
  refine Th_n ?_
  refine W_seq ?_
  refine W_rg ?_
  refine L_mv rfl ?_
  refine L_mv rfl ?_
  refine L_callv rfl rfl T_en25 (A2 p_0 p_1) (of_n c w hc (by omega) _) ?_
  rintro _ w_3 ⟨rfl, hkp⟩; refine ⟨_, rfl, ?_⟩; have H_3 := H_2.keep hkp
  refine L_alloc rfl H_3 T_zero35 ?_; intro bk7 w_4 H_4
  refine L_str (ds := ua .u64 (Sm.ofd c w)) T_row35 H_4 (i := 0) rfl rfl rfl rfl (by rw [ua_size]; exact (ofd_wd hc (by omega)).1) (ua_one _ _) (l' := [Ent.blk bk7 35 (ua .u64 (Sm.ofd c w)), Ent.blk bk6 35 (ua .u64 [0, 0, 0, 0, 0, 0, 0, 0, 0, 0, 0, 0, 0, 0, 0, 0])]) rfl ?_; intro w_5 H_5
  refine L_nil ?_
  refine Th_n ?_
  refine W_seq ?_
  refine W_seq ?_
  refine W_rg ?_
  refine L_as rfl ?_
  refine L_nil ?_
  refine Th_n ?_
  refine W_block ?_
  refine W_rounds 2 ?_
  refine Wr_s ?_
  refine W_seq ?_
  refine W_seq ?_
  refine W_rg ?_
  refine L_mv rfl ?_
  refine L_y rfl (Y_lss (k := .i64) (a := ((0 : Nat) : Int)) (b := ((16 : Nat) : Int)) rfl rfl) ?_
  refine L_nil ?_
  refine Th_n ?_
  refine W_true (congrArg Value.bool (by decide : (decide (((0 : Nat) : Int) < ((16 : Nat) : Int))) = true)) ?_
  refine W_skip ?_
  refine Th_n ?_
  refine W_seq ?_
  refine W_block ?_
  refine W_seq ?_
  refine W_rg ?_
  refine L_mv rfl ?_
  refine L_y rfl (Y_idxA 0 0 T_arr35 rfl rfl rfl (by decide) (zz1 _)) ?_
  obtain ⟨x20, hx20⟩ : ∃ u, (Sm.ofd c w)[0]? = some u := ⟨_, List.getElem?_eq_getElem (by have := (ofd_wd hc (by omega)).1; omega)⟩
  have rx20 := (ofd_wd hc (by omega)).2 _ (List.mem_of_getElem? hx20)
  refine L_y rfl (Y_ld T_scal31 H_5 (i := 0) rfl rfl (ua_get hx20)) ?_
  refine L_yr (z := (x20 + 1) % 18446744073709551616) (m := 18446744073709551616) rfl (Yu_add (k := .u64) rfl x20 1 rfl rfl) (Nat.mod_lt _ (by decide)) ?_; intro x21 hx21 rx21
  refine L_y rfl (Y_idxA 0 0 T_arr35 rfl rfl rfl (by decide) (zz1 _)) ?_
  refine L_st (v := Value.int .u64 ((x21 : Nat) : Int)) T_scal31 H_5 (i := 0) rfl rfl rfl rfl (by rw [ua_size]; have := (ofd_wd hc (by omega)).1; omega) (l' := [Ent.blk bk7 35 (ua .u64 ((Sm.ofd c w).set 0 x21)), Ent.blk bk6 35 (ua .u64 [0, 0, 0, 0, 0, 0, 0, 0, 0, 0, 0, 0, 0, 0, 0, 0])]) (by rw [ua_set]; rfl) ?_; intro w_6 H_6
  refine L_nil ?_
  refine Th_n ?_
  refine W_seq ?_
  refine W_seq ?_
  refine W_rg ?_
  refine L_mv rfl ?_
  refine L_y rfl (Y_idxA 0 0 T_arr35 rfl rfl rfl (by decide) (zz1 _)) ?_
  obtain ⟨x25, hx25⟩ : ∃ u, ((Sm.ofd c w).set 0 x21)[0]? = some u := ⟨_, List.getElem?_eq_getElem (by have := (Wd.set (i := 0) (ofd_wd hc (by omega)) rx21).1; omega)⟩
  have rx25 := (Wd.set (i := 0) (ofd_wd hc (by omega)) rx21).2 _ (List.mem_of_getElem? hx25)
  refine L_y rfl (Y_ld T_scal31 H_6 (i := 0) rfl rfl (ua_get hx25)) ?_
  refine L_y rfl (Y_lss (k := .u64) (a := ((x25 : Nat) : Int)) (b := ((65536 : Nat) : Int)) rfl rfl) ?_
  refine L_nil ?_
  refine Th_n ?_
  refine W_true (congrArg Value.bool (decide_eq_true (Sm.low_t hlow hx20 hx21 hx25))) ?_
  refine W_exit ?_
  refine Th_x ?_
  refine InB_miss rfl ?_
  refine Th_x ?_
  refine Th_x ?_
  refine InB_hit ?_
  refine Th_n ?_
  refine W_seq ?_
  refine W_rg ?_
  refine L_y rfl (Y_ldr T_row35 H_6 (i := 0) rfl rfl (by rw [ua_size]; exact (Wd.set (i := 0) (ofd_wd hc (by omega)) rx21).1)) ?_
  refine L_alloc rfl H_6 T_zero35 ?_; intro bk9 w_7 H_7
  refine L_str (ds := ua .u64 ((Sm.ofd c w).set 0 x21)) T_row35 H_7 (i := 0) rfl rfl rfl rfl (by rw [ua_size]; exact (Wd.set (i := 0) (ofd_wd hc (by omega)) rx21).1) (ua_one _ _) (l' := [Ent.blk bk9 35 (ua .u64 ((Sm.ofd c w).set 0 x21)), Ent.blk bk7 35 (ua .u64 ((Sm.ofd c w).set 0 x21)), Ent.blk bk6 35 (ua .u64 [0, 0, 0, 0, 0, 0, 0, 0, 0, 0, 0, 0, 0, 0, 0, 0])]) rfl ?_; intro w_8 H_8
  refine L_nil ?_
  refine Th_n ?_
  refine W_seq ?_
  refine W_seq ?_
  refine W_rg ?_
  refine L_as rfl ?_
  refine L_nil ?_
  refine Th_n ?_
  refine W_block ?_
  refine W_rounds 3 ?_
  refine Wr_s ?_
  refine W_seq ?_
  refine W_seq ?_
  refine W_rg ?_
  refine L_mv rfl ?_
  refine L_mv rfl ?_
  refine L_y rfl (Y_lss (k := .i64) (a := ((1 : Nat) : Int)) (b := ((3 : Nat) : Int)) rfl p_2) ?_
  refine L_nil ?_
  refine Th_n ?_
  refine W_true (congrArg Value.bool (by decide : (decide (((1 : Nat) : Int) < ((3 : Nat) : Int))) = true)) ?_
  refine W_skip ?_
  refine Th_n ?_
  refine W_seq ?_
  refine W_block ?_
  refine W_rg ?_
  refine L_y rfl (Y_ldr T_row35 H_8 (i := 0) rfl rfl (by rw [ua_size]; exact (Wd.set (i := 0) (ofd_wd hc (by omega)) rx21).1)) ?_
  refine L_y rfl (Y_ldr T_row35 H_8 (i := 1) rfl rfl (by rw [ua_size]; exact (Wd.set (i := 0) (ofd_wd hc (by omega)) rx21).1)) ?_
  refine L_callv rfl rfl T_en26 (A2 rfl rfl) (times_n ((Sm.ofd c w).set 0 x21) ((Sm.ofd c w).set 0 x21) (Wd.set (i := 0) (ofd_wd hc (by omega)) rx21) (Wd.set (i := 0) (ofd_wd hc (by omega)) rx21) _) ?_
  rintro _ w_9 ⟨rfl, hkp_2⟩; refine ⟨_, rfl, ?_⟩; have H_9 := H_8.keep hkp_2
  refine L_str (ds := ua .u64 (Sm.tm ((Sm.ofd c w).set 0 x21) ((Sm.ofd c w).set 0 x21))) T_row35 H_9 (i := 0) rfl rfl rfl (by rw [ua_size]; exact (Wd.set (i := 0) (ofd_wd hc (by omega)) rx21).1) (by rw [ua_size]; exact (tm_wd _ _).1) (ua_one _ _) (l' := [Ent.blk bk9 35 (ua .u64 (Sm.tm ((Sm.ofd c w).set 0 x21) ((Sm.ofd c w).set 0 x21))), Ent.blk bk7 35 (ua .u64 ((Sm.ofd c w).set 0 x21)), Ent.blk bk6 35 (ua .u64 [0, 0, 0, 0, 0, 0, 0, 0, 0, 0, 0, 0, 0, 0, 0, 0])]) rfl ?_; intro w_10 H_10
  refine L_nil ?_
  refine InB_n ?_
  refine Th_n ?_
  refine W_rg ?_
  refine L_mv rfl ?_
  refine L_y rfl (Y_add (k := .i64) (a := ((1 : Nat) : Int)) (b := ((1 : Nat) : Int)) (z := ((2 : Nat) : Int)) rfl rfl (by decide)) ?_
  refine L_as rfl ?_
  refine L_nil ?_
  refine Th_n ?_
  refine Wr_s ?_
  refine W_seq ?_
  refine W_seq ?_
  refine W_rg ?_
  refine L_mv rfl ?_
  refine L_mv rfl ?_
  refine L_y rfl (Y_lss (k := .i64) (a := ((2 : Nat) : Int)) (b := ((3 : Nat) : Int)) rfl p_2) ?_
  refine L_nil ?_
  refine Th_n ?_
  refine W_true (congrArg Value.bool (by decide : (decide (((2 : Nat) : Int) < ((3 : Nat) : Int))) = true)) ?_
  refine W_skip ?_
  refine Th_n ?_
  refine W_seq ?_
  refine W_block ?_
  refine W_rg ?_
  refine L_y rfl (Y_ldr T_row35 H_10 (i := 0) rfl rfl (by rw [ua_size]; exact (tm_wd _ _).1)) ?_
  refine L_y rfl (Y_ldr T_row35 H_10 (i := 1) rfl rfl (by rw [ua_size]; exact (Wd.set (i := 0) (ofd_wd hc (by omega)) rx21).1)) ?_
  refine L_callv rfl rfl T_en26 (A2 rfl rfl) (times_n (Sm.tm ((Sm.ofd c w).set 0 x21) ((Sm.ofd c w).set 0 x21)) ((Sm.ofd c w).set 0 x21) (tm_wd _ _) (Wd.set (i := 0) (ofd_wd hc (by omega)) rx21) _) ?_
  rintro _ w_11 ⟨rfl, hkp_3⟩; refine ⟨_, rfl, ?_⟩; have H_11 := H_10.keep hkp_3
  refine L_str (ds := ua .u64 (Sm.tm (Sm.tm ((Sm.ofd c w).set 0 x21) ((Sm.ofd c w).set 0 x21)) ((Sm.ofd c w).set 0 x21))) T_row35 H_11 (i := 0) rfl rfl rfl (by rw [ua_size]; exact (tm_wd _ _).1) (by rw [ua_size]; exact (tm_wd _ _).1) (ua_one _ _) (l' := [Ent.blk bk9 35 (ua .u64 (Sm.tm (Sm.tm ((Sm.ofd c w).set 0 x21) ((Sm.ofd c w).set 0 x21)) ((Sm.ofd c w).set 0 x21))), Ent.blk bk7 35 (ua .u64 ((Sm.ofd c w).set 0 x21)), Ent.blk bk6 35 (ua .u64 [0, 0, 0, 0, 0, 0, 0, 0, 0, 0, 0, 0, 0, 0, 0, 0])]) rfl ?_; intro w_12 H_12
  refine L_nil ?_
  refine InB_n ?_
  refine Th_n ?_
  refine W_rg ?_
  refine L_mv rfl ?_
  refine L_y rfl (Y_add (k := .i64) (a := ((2 : Nat) : Int)) (b := ((1 : Nat) : Int)) (z := ((3 : Nat) : Int)) rfl rfl (by decide)) ?_
  refine L_as rfl ?_
  refine L_nil ?_
  refine Th_n ?_
  refine Wr_s ?_
  refine W_seq ?_
  refine W_seq ?_
  refine W_rg ?_
  refine L_mv rfl ?_
  refine L_mv rfl ?_
  refine L_y rfl (Y_lss (k := .i64) (a := ((3 : Nat) : Int)) (b := ((3 : Nat) : Int)) rfl p_2) ?_
  refine L_nil ?_
  refine Th_n ?_
  refine W_false (congrArg Value.bool (by decide : (decide (((3 : Nat) : Int) < ((3 : Nat) : Int))) = false)) ?_
  refine W_exit ?_
  refine Th_x ?_
  refine Th_x ?_
  refine InB_hit ?_
  refine Th_n ?_
  refine W_seq ?_
  refine W_rg ?_
  refine L_y rfl (Y_ldr T_row35 H_12 (i := 0) rfl rfl (by rw [ua_size]; exact (tm_wd _ _).1)) ?_
  refine L_str (ds := ua .u64 (Sm.tm (Sm.tm ((Sm.ofd c w).set 0 x21) ((Sm.ofd c w).set 0 x21)) ((Sm.ofd c w).set 0 x21))) T_row35 H_12 (i := 2) rfl rfl rfl rfl (by rw [ua_size]; exact (tm_wd _ _).1) (ua_one _ _) (l' := [Ent.blk bk9 35 (ua .u64 (Sm.tm (Sm.tm ((Sm.ofd c w).set 0 x21) ((Sm.ofd c w).set 0 x21)) ((Sm.ofd c w).set 0 x21))), Ent.blk bk7 35 (ua .u64 ((Sm.ofd c w).set 0 x21)), Ent.blk bk6 35 (ua .u64 (Sm.tm (Sm.tm ((Sm.ofd c w).set 0 x21) ((Sm.ofd c w).set 0 x21)) ((Sm.ofd c w).set 0 x21)))]) rfl ?_; intro w_13 H_13
  refine L_nil ?_
  refine Th_n ?_
  refine W_ret ?_
  refine P_ret (vs := [Value.agg (ua .u64 (Sm.tm (Sm.tm ((Sm.ofd c w).set 0 x21) ((Sm.ofd c w).set 0 x21)) ((Sm.ofd c w).set 0 x21)))]) (v := Value.agg (ua .u64 (Sm.tm (Sm.tm ((Sm.ofd c w).set 0 x21) ((Sm.ofd c w).set 0 x21)) ((Sm.ofd c w).set 0 x21)))) rfl (.cell rfl (loadVar_row T_row35 H_13 (i := 2) rfl (by rw [ua_size]; exact (tm_wd _ _).1)) (Res.nil)) rfl ?_
  refine ⟨?_, H_13.nil_⟩
  rw [Sm.set_ofd hx20 hx21]

theorem power2_n (c w : Nat) (hc : c < 18446744073709551616) (hw : w < 1000) (w0 : World) :
    Calls Try.prog 16 #[Value.int .u64 ((c : Nat) : Int), Value.int .i64 ((w : Nat) : Int), Value.int .i64 ((2 : Nat) : Int)] w0 (fun r_ w' => r_ = .returned (.agg (ua .u64 (Sm.tm (Sm.ofd c w) (Sm.ofd c w)))) ∧ Keep w0 w') := by
  refine F_in Try.func16 rfl Try.ntmps16 rfl ?_
  intro e he
  have p_0 : e 0 = Value.int .u64 ((c : Nat) : Int) := he 0 _ rfl
  have p_1 : e 1 = Value.int .i64 ((w : Nat) : Int) := he 1 _ rfl
  have p_2 : e 2 = Value.int .i64 ((2 : Nat) : Int) := he 2 _ rfl
  have H := Hp.start w0 []
  refine W_seq ?_
  refine W_rg ?_
  refine L_alloc rfl H T_zero35 ?_; intro bk6 w_2 H_2
  refine L_nil ?_
  refine Th_n ?_
  refine W_seq ?_
  refine W_rg ?_
  refine L_mv rfl ?_
  refine L_mv rfl ?_
  refine L_callv rfl rfl T_en25 (A2 p_0 p_1) (of_n c w hc (by omega) _) ?_
  rintro _ w_3 ⟨rfl, hkp⟩; refine ⟨_, rfl, ?_⟩; have H_3 := H_2.keep hkp
  refine L_alloc rfl H_3 T_zero35 ?_; intro bk7 w_4 H_4
  refine L_str (ds := ua .u64 (Sm.ofd c w)) T_row35 H_4 (i := 0) rfl rfl rfl rfl (by rw [ua_size]; exact (ofd_wd hc (by omega)).1) (ua_one _ _) (l' := [Ent.blk bk7 35 (ua .u64 (Sm.ofd c w)), Ent.blk bk6 35 (ua .u64 [0, 0, 0, 0, 0, 0, 0, 0, 0, 0, 0, 0, 0, 0, 0, 0])]) rfl ?_; intro w_5 H_5
  refine L_nil ?_
  refine Th_n ?_
  refine W_seq ?_
  refine W_rg ?_
  refine L_y rfl (Y_ldr T_row35 H_5 (i := 0) rfl rfl (by rw [ua_size]; exact (ofd_wd hc (by omega)).1)) ?_
  refine L_alloc rfl H_5 T_zero35 ?_; intro bk8 w_6 H_6
  refine L_str (ds := ua .u64 (Sm.ofd c w)) T_row35 H_6 (i := 0) rfl rfl rfl rfl (by rw [ua_size]; exact (ofd_wd hc (by omega)).1) (ua_one _ _) (l' := [Ent.blk bk8 35 (ua .u64 (Sm.ofd c w)), Ent.blk bk7 35 (ua .u64 (Sm.ofd c w)), Ent.blk bk6 35 (ua .u64 [0, 0, 0, 0, 0, 0, 0, 0, 0, 0, 0, 0, 0, 0, 0, 0])]) rfl ?_; intro w_7 H_7
  refine L_nil ?_
  refine Th_n ?_
  refine W_seq ?_
  refine W_seq ?_
  refine W_rg ?_
  refine L_as rfl ?_
  refine L_nil ?_
  refine Th_n ?_
  refine W_block ?_
  refine W_rounds 2 ?_
  refine Wr_s ?_
  refine W_seq ?_
  refine W_seq ?_
  refine W_rg ?_
  refine L_mv rfl ?_
  refine L_mv rfl ?_
  refine L_y rfl (Y_lss (k := .i64) (a := ((1 : Nat) : Int)) (b := ((2 : Nat) : Int)) rfl p_2) ?_
  refine L_nil ?_
  refine Th_n ?_
  refine W_true (congrArg Value.bool (by decide : (decide (((1 : Nat) : Int) < ((2 : Nat) : Int))) = true)) ?_
  refine W_skip ?_
  refine Th_n ?_
  refine W_seq ?_
  refine W_block ?_
  refine W_rg ?_
  refine L_y rfl (Y_ldr T_row35 H_7 (i := 0) rfl rfl (by rw [ua_size]; exact (ofd_wd hc (by omega)).1)) ?_
  refine L_y rfl (Y_ldr T_row35 H_7 (i := 1) rfl rfl (by rw [ua_size]; exact (ofd_wd hc (by omega)).1)) ?_
  refine L_callv rfl rfl T_en26 (A2 rfl rfl) (times_n (Sm.ofd c w) (Sm.ofd c w) (ofd_wd hc (by omega)) (ofd_wd hc (by omega)) _) ?_
  rintro _ w_8 ⟨rfl, hkp_2⟩; refine ⟨_, rfl, ?_⟩; have H_8 := H_7.keep hkp_2
  refine L_str (ds := ua .u64 (Sm.tm (Sm.ofd c w) (Sm.ofd c w))) T_row35 H_8 (i := 0) rfl rfl rfl (by rw [ua_size]; exact (ofd_wd hc (by omega)).1) (by rw [ua_size]; exact (tm_wd _ _).1) (ua_one _ _) (l' := [Ent.blk bk8 35 (ua .u64 (Sm.tm (Sm.ofd c w) (Sm.ofd c w))), Ent.blk bk7 35 (ua .u64 (Sm.ofd c w)), Ent.blk bk6 35 (ua .u64 [0, 0, 0, 0, 0, 0, 0, 0, 0, 0, 0, 0, 0, 0, 0, 0])]) rfl ?_; intro w_9 H_9
  refine L_nil ?_
  refine InB_n ?_
  refine Th_n ?_
  refine W_rg ?_
  refine L_mv rfl ?_
  refine L_y rfl (Y_add (k := .i64) (a := ((1 : Nat) : Int)) (b := ((1 : Nat) : Int)) (z := ((2 : Nat) : Int)) rfl rfl (by decide)) ?_
  refine L_as rfl ?_
  refine L_nil ?_
  refine Th_n ?_
  refine Wr_s ?_
  refine W_seq ?_
  refine W_seq ?_
  refine W_rg ?_
  refine L_mv rfl ?_
  refine L_mv rfl ?_
  refine L_y rfl (Y_lss (k := .i64) (a := ((2 : Nat) : Int)) (b := ((2 : Nat) : Int)) rfl p_2) ?_
  refine L_nil ?_
  refine Th_n ?_
  refine W_false (congrArg Value.bool (by decide : (decide (((2 : Nat) : Int) < ((2 : Nat) : Int))) = false)) ?_
  refine W_exit ?_
  refine Th_x ?_
  refine Th_x ?_
  refine InB_hit ?_
  refine Th_n ?_
  refine W_seq ?_
  refine W_rg ?_
  refine L_y rfl (Y_ldr T_row35 H_9 (i := 0) rfl rfl (by rw [ua_size]; exact (tm_wd _ _).1)) ?_
  refine L_str (ds := ua .u64 (Sm.tm (Sm.ofd c w) (Sm.ofd c w))) T_row35 H_9 (i := 2) rfl rfl rfl rfl (by rw [ua_size]; exact (tm_wd _ _).1) (ua_one _ _) (l' := [Ent.blk bk8 35 (ua .u64 (Sm.tm (Sm.ofd c w) (Sm.ofd c w))), Ent.blk bk7 35 (ua .u64 (Sm.ofd c w)), Ent.blk bk6 35 (ua .u64 (Sm.tm (Sm.ofd c w) (Sm.ofd c w)))]) rfl ?_; intro w_10 H_10
  refine L_nil ?_
  refine Th_n ?_
  refine W_ret ?_
  refine P_ret (vs := [Value.agg (ua .u64 (Sm.tm (Sm.ofd c w) (Sm.ofd c w)))]) (v := Value.agg (ua .u64 (Sm.tm (Sm.ofd c w) (Sm.ofd c w)))) rfl (.cell rfl (loadVar_row T_row35 H_10 (i := 2) rfl (by rw [ua_size]; exact (tm_wd _ _).1)) (Res.nil)) rfl ?_
  refine ⟨?_, H_10.nil_⟩
  rfl

theorem powerb2_n (c w : Nat) (hc : c < 18446744073709551616) (hw : w < 1000) (hlow : c % 65536 + 1 < 65536) (w0 : World) :
    Calls Try.prog 17 #[Value.int .u64 ((c : Nat) : Int), Value.int .i64 ((w : Nat) : Int), Value.int .i64 ((2 : Nat) : Int)] w0 (fun r_ w' => r_ = .returned (.agg (ua .u64 (Sm.tm (Sm.ofd1 c w) (Sm.ofd1 c w)))) ∧ Keep w0 w') := by
  refine F_in Try.func17 rfl Try.ntmps17 rfl ?_
  intro e he
  have p_0 : e 0 = Value.int .u64 ((c : Nat) : Int) := he 0 _ rfl
  have p_1 : e 1 = Value.int .i64 ((w : Nat) : Int) := he 1 _ rfl
  have p_2 : e 2 = Value.int .i64 ((2 : Nat) : Int) := he 2 _ rfl
  have H := Hp.start w0 []
  refine W_seq ?_
  refine W_rg ?_
  refine L_alloc rfl H T_zero35 ?_; intro bk6 w_2 H_2
  refine L_nil ?_
  refine Th_n ?_
  refine W_seq ?_
  refine W_rg ?_
  refine L_mv rfl ?_
  refine L_mv rfl ?_
  refine L_callv rfl rfl T_en25 (A2 p_0 p_1) (of_n c w hc (by omega) _) ?_
  rintro _ w_3 ⟨rfl, hkp⟩; refine ⟨_, rfl, ?_⟩; have H_3 := H_2.keep hkp
  refine L_alloc rfl H_3 T_zero35 ?_; intro bk7 w_4 H_4
  refine L_str (ds := ua .u64 (Sm.ofd c w)) T_row35 H_4 (i := 0) rfl rfl rfl rfl (by rw [ua_size]; exact (ofd_wd hc (by omega)).1) (ua_one _ _) (l' := [Ent.blk bk7 35 (ua .u64 (Sm.ofd c w)), Ent.blk bk6 35 (ua .u64 [0, 0, 0, 0, 0, 0, 0, 0, 0, 0, 0, 0, 0, 0, 0, 0])]) rfl ?_; intro w_5 H_5
  refine L_nil ?_
  refine Th_n ?_
  refine W_seq ?_
  refine W_seq ?_
  refine W_rg ?_
  refine L_as rfl ?_
  refine L_nil ?_
  refine Th_n ?_
  refine W_block ?_
  refine W_rounds 2 ?_
  refine Wr_s ?_
  refine W_seq ?_
  refine W_seq ?_
  refine W_rg ?_
  refine L_mv rfl ?_
  refine L_y rfl (Y_lss (k := .i64) (a := ((0 : Nat) : Int)) (b := ((16 : Nat) : Int)) rfl rfl) ?_
  refine L_nil ?_
  refine Th_n ?_
  refine W_true (congrArg Value.bool (by decide : (decide (((0 : Nat) : Int) < ((16 : Nat) : Int))) = true)) ?_
  refine W_skip ?_
  refine Th_n ?_
  refine W_seq ?_
  refine W_block ?_
  refine W_seq ?_
  refine W_rg ?_
  refine L_mv rfl ?_
  refine L_y rfl (Y_idxA 0 0 T_arr35 rfl rfl rfl (by decide) (zz1 _)) ?_
  obtain ⟨x20, hx20⟩ : ∃ u, (Sm.ofd c w)[0]? = some u := ⟨_, List.getElem?_eq_getElem (by have := (ofd_wd hc (by omega)).1; omega)⟩
  have rx20 := (ofd_wd hc (by omega)).2 _ (List.mem_of_getElem? hx20)
  refine L_y rfl (Y_ld T_scal31 H_5 (i := 0) rfl rfl (ua_get hx20)) ?_
  refine L_yr (z := (x20 + 1) % 18446744073709551616) (m := 18446744073709551616) rfl (Yu_add (k := .u64) rfl x20 1 rfl rfl) (Nat.mod_lt _ (by decide)) ?_; intro x21 hx21 rx21
  refine L_y rfl (Y_idxA 0 0 T_arr35 rfl rfl rfl (by decide) (zz1 _)) ?_
  refine L_st (v := Value.int .u64 ((x21 : Nat) : Int)) T_scal31 H_5 (i := 0) rfl rfl rfl rfl (by rw [ua_size]; have := (ofd_wd hc (by omega)).1; omega) (l' := [Ent.blk bk7 35 (ua .u64 ((Sm.ofd c w).set 0 x21)), Ent.blk bk6 35 (ua .u64 [0, 0, 0, 0, 0, 0, 0, 0, 0, 0, 0, 0, 0, 0, 0, 0])]) (by rw [ua_set]; rfl) ?_; intro w_6 H_6
  refine L_nil ?_
  refine Th_n ?_
  refine W_seq ?_
  refine W_seq ?_
  refine W_rg ?_
  refine L_mv rfl ?_
  refine L_y rfl (Y_idxA 0 0 T_arr35 rfl rfl rfl (by decide) (zz1 _)) ?_
  obtain ⟨x25, hx25⟩ : ∃ u, ((Sm.ofd c w).set 0 x21)[0]? = some u := ⟨_, List.getElem?_eq_getElem (by have := (Wd.set (i := 0) (ofd_wd hc (by omega)) rx21).1; omega)⟩
  have rx25 := (Wd.set (i := 0) (ofd_wd hc (by omega)) rx21).2 _ (List.mem_of_getElem? hx25)
  refine L_y rfl (Y_ld T_scal31 H_6 (i := 0) rfl rfl (ua_get hx25)) ?_
  refine L_y rfl (Y_lss (k := .u64) (a := ((x25 : Nat) : Int)) (b := ((65536 : Nat) : Int)) rfl rfl) ?_
  refine L_nil ?_
  refine Th_n ?_
  refine W_true (congrArg Value.bool (decide_eq_true (Sm.low_t hlow hx20 hx21 hx25))) ?_
  refine W_exit ?_
  refine Th_x ?_
  refine InB_miss rfl ?_
  refine Th_x ?_
  refine Th_x ?_
  refine InB_hit ?_
  refine Th_n ?_
  refine W_seq ?_
  refine W_rg ?_
  refine L_y rfl (Y_ldr T_row35 H_6 (i := 0) rfl rfl (by rw [ua_size]; exact (Wd.set (i := 0) (ofd_wd hc (by omega)) rx21).1)) ?_
  refine L_alloc rfl H_6 T_zero35 ?_; intro bk9 w_7 H_7
  refine L_str (ds := ua .u64 ((Sm.ofd c w).set 0 x21)) T_row35 H_7 (i := 0) rfl rfl rfl rfl (by rw [ua_size]; exact (Wd.set (i := 0) (ofd_wd hc (by omega)) rx21).1) (ua_one _ _) (l' := [Ent.blk bk9 35 (ua .u64 ((Sm.ofd c w).set 0 x21)), Ent.blk bk7 35 (ua .u64 ((Sm.ofd c w).set 0 x21)), Ent.blk bk6 35 (ua .u64 [0, 0, 0, 0, 0, 0, 0, 0, 0, 0, 0, 0, 0, 0, 0, 0])]) rfl ?_; intro w_8 H_8
  refine L_nil ?_
  refine Th_n ?_
  refine W_seq ?_
  refine W_seq ?_
  refine W_rg ?_
  refine L_as rfl ?_
  refine L_nil ?_
  refine Th_n ?_
  refine W_block ?_
  refine W_rounds 2 ?_
  refine Wr_s ?_
  refine W_seq ?_
  refine W_seq ?_
  refine W_rg ?_
  refine L_mv rfl ?_
  refine L_mv rfl ?_
  refine L_y rfl (Y_lss (k := .i64) (a := ((1 : Nat) : Int)) (b := ((2 : Nat) : Int)) rfl p_2) ?_
  refine L_nil ?_
  refine Th_n ?_
  refine W_true (congrArg Value.bool (by decide : (decide (((1 : Nat) : Int) < ((2 : Nat) : Int))) = true)) ?_
  refine W_skip ?_
  refine Th_n ?_
  refine W_seq ?_
  refine W_block ?_
  refine W_rg ?_
  refine L_y rfl (Y_ldr T_row35 H_8 (i := 0) rfl rfl (by rw [ua_size]; exact (Wd.set (i := 0) (ofd_wd hc (by omega)) rx21).1)) ?_
  refine L_y rfl (Y_ldr T_row35 H_8 (i := 1) rfl rfl (by rw [ua_size]; exact (Wd.set (i := 0) (ofd_wd hc (by omega)) rx21).1)) ?_
  refine L_callv rfl rfl T_en26 (A2 rfl rfl) (times_n ((Sm.ofd c w).set 0 x21) ((Sm.ofd c w).set 0 x21) (Wd.set (i := 0) (ofd_wd hc (by omega)) rx21) (Wd.set (i := 0) (ofd_wd hc (by omega)) rx21) _) ?_
  rintro _ w_9 ⟨rfl, hkp_2⟩; refine ⟨_, rfl, ?_⟩; have H_9 := H_8.keep hkp_2
  refine L_str (ds := ua .u64 (Sm.tm ((Sm.ofd c w).set 0 x21) ((Sm.ofd c w).set 0 x21))) T_row35 H_9 (i := 0) rfl rfl rfl (by rw [ua_size]; exact (Wd.set (i := 0) (ofd_wd hc (by omega)) rx21).1) (by rw [ua_size]; exact (tm_wd _ _).1) (ua_one _ _) (l' := [Ent.blk bk9 35 (ua .u64 (Sm.tm ((Sm.ofd c w).set 0 x21) ((Sm.ofd c w).set 0 x21))), Ent.blk bk7 35 (ua .u64 ((Sm.ofd c w).set 0 x21)), Ent.blk bk6 35 (ua .u64 [0, 0, 0, 0, 0, 0, 0, 0, 0, 0, 0, 0, 0, 0, 0, 0])]) rfl ?_; intro w_10 H_10
  refine L_nil ?_
  refine InB_n ?_
  refine Th_n ?_
  refine W_rg ?_
  refine L_mv rfl ?_
  refine L_y rfl (Y_add (k := .i64) (a := ((1 : Nat) : Int)) (b := ((1 : Nat) : Int)) (z := ((2 : Nat) : Int)) rfl rfl (by decide)) ?_
  refine L_as rfl ?_
  refine L_nil ?_
  refine Th_n ?_
  refine Wr_s ?_
  refine W_seq ?_
  refine W_seq ?_
  refine W_rg ?_
  refine L_mv rfl ?_
  refine L_mv rfl ?_
  refine L_y rfl (Y_lss (k := .i64) (a := ((2 : Nat) : Int)) (b := ((2 : Nat) : Int)) rfl p_2) ?_
  refine L_nil ?_
  refine Th_n ?_
  refine W_false (congrArg Value.bool (by decide : (decide (((2 : Nat) : Int) < ((2 : Nat) : Int))) = false)) ?_
  refine W_exit ?_
  refine Th_x ?_
  refine Th_x ?_
  refine InB_hit ?_
  refine Th_n ?_
  refine W_seq ?_
  refine W_rg ?_
  refine L_y rfl (Y_ldr T_row35 H_10 (i := 0) rfl rfl (by rw [ua_size]; exact (tm_wd _ _).1)) ?_
  refine L_str (ds := ua .u64 (Sm.tm ((Sm.ofd c w).set 0 x21) ((Sm.ofd c w).set 0 x21))) T_row35 H_10 (i := 2) rfl rfl rfl rfl (by rw [ua_size]; exact (tm_wd _ _).1) (ua_one _ _) (l' := [Ent.blk bk9 35 (ua .u64 (Sm.tm ((Sm.ofd c w).set 0 x21) ((Sm.ofd c w).set 0 x21))), Ent.blk bk7 35 (ua .u64 ((Sm.ofd c w).set 0 x21)), Ent.blk bk6 35 (ua .u64 (Sm.tm ((Sm.ofd c w).set 0 x21) ((Sm.ofd c w).set 0 x21)))]) rfl ?_; intro w_11 H_11
  refine L_nil ?_
  refine Th_n ?_
  refine W_ret ?_
  refine P_ret (vs := [Value.agg (ua .u64 (Sm.tm ((Sm.ofd c w).set 0 x21) ((Sm.ofd c w).set 0 x21)))]) (v := Value.agg (ua .u64 (Sm.tm ((Sm.ofd c w).set 0 x21) ((Sm.ofd c w).set 0 x21)))) rfl (.cell rfl (loadVar_row T_row35 H_11 (i := 2) rfl (by rw [ua_size]; exact (tm_wd _ _).1)) (Res.nil)) rfl ?_
  refine ⟨?_, H_11.nil_⟩
  rw [Sm.set_ofd hx20 hx21]
end Go.Proofs.Ytdccphfaeockpaa
