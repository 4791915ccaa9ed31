/- Walks of layer 6 (the sums) and of its reference. Printed by sha.py. -/
import Derived.Test.YtdccphfaeockpaaH12
namespace Go.Proofs.Ytdccphfaeockpaa
open Go.Ev
set_option maxRecDepth 100000
theorem T_en7 : enters Try.prog 7 = true := by kernel_rfl
theorem T_en8 : enters Try.prog 8 = true := by kernel_rfl
theorem T_en10 : enters Try.prog 10 = true := by kernel_rfl
theorem T_eqg25 : Try.prog.eqGuardType Try.prog.depth 25 = false := by kernel_rfl
theorem T_en12 : enters Try.prog 12 = true := by kernel_rfl
theorem T_eqg28 : Try.prog.eqGuardType Try.prog.depth 28 = false := by kernel_rfl
theorem sha256_law (a : Option Addr) (n c : Nat) (l : List Nat) (hl : ∀ u ∈ l, u < 256) (w0 : World) (hb : Sl w0 .u8 a n c l) :
    Calls Try.prog 3 #[Value.slice a n c] w0 (fun r_ w' => r_ = .returned (.bool true) ∧ Keep w0 w') := by
  refine F_in Try.func3 rfl Try.ntmps3 rfl ?_
  intro e he
  have p_0 : e 0 = Value.slice a n c := he 0 _ rfl
  have H := Hp.start w0 []
  refine W_seq ?_
  refine W_rg ?_
  refine L_as rfl ?_
  refine L_nil ?_
  refine Th_n ?_
  refine W_seq ?_
  refine W_seq ?_
  refine W_rg ?_
  refine L_mv rfl ?_
  refine L_y rfl (Y_lenS T_sl22 p_0) ?_
  refine L_y rfl (Y_gtr (k := .i64) (a := ((n : Nat) : Int)) (b := ((4096 : Nat) : Int)) rfl rfl) ?_
  refine L_nil ?_
  refine Th_n ?_
  refine W_cond (b := (decide (((4096 : Nat) : Int) < ((n : Nat) : Int)))) rfl (fun hc => ?_) (fun hc => ?_)
  ·
    have hc' := of_decide_eq_true hc
    refine W_seq ?_
    refine W_rg ?_
    refine L_callv rfl rfl T_en7 (A0) (known_n _) ?_
    rintro _ w_2 ⟨rfl, hkp⟩; refine ⟨_, rfl, ?_⟩; have H_2 := H.keep hkp
    refine L_as rfl ?_
    refine L_nil ?_
    refine Th_n ?_
    refine W_ret ?_
    refine Th_r ?_
    refine P_ret (vs := [Value.bool true]) (v := Value.bool true) rfl (.tmp rfl (Res.nil)) rfl ?_
    refine ⟨?_, H_2.nil_⟩
    rfl
  ·
    have hc' := of_decide_eq_false hc
    refine W_skip ?_
    refine Th_n ?_
    refine W_seq ?_
    refine W_rg ?_
    refine L_mv rfl ?_
    refine L_callv rfl rfl T_en8 (A1 p_0) (lent_n _ _ _ l hl (by omega) _ (hb.hp H)) ?_
    rintro _ w_3 ⟨la10, lc10, rfl, f10_0, hkp_2⟩; refine ⟨_, rfl, ?_⟩; have H_3 := H.more hkp_2
    refine L_as rfl ?_
    refine L_nil ?_
    refine Th_n ?_
    refine W_seq ?_
    refine W_rg ?_
    refine L_mv rfl ?_
    refine L_callv rfl rfl T_en9 (A1 rfl) (sum256_n _ _ _ l hl (by omega) _ ((Sl.own H_3 (i := 0) rfl).pre hb.len (Nat.le_succ _))) ?_
    rintro _ w_4 ⟨rfl, hkp_3⟩; refine ⟨_, rfl, ?_⟩; have H_4 := H_3.keep hkp_3
    refine L_alloc rfl H_4 T_zero25 ?_; intro bk4 w_5 H_5
    refine L_str (ds := ua .u8 (Sm.sum Sm.k256 l)) T_row25 H_5 (i := 0) rfl rfl rfl rfl (by rw [ua_size]; exact (sum256_wd l).1) (ua_one _ _) (l' := [Ent.blk bk4 25 (ua .u8 (Sm.sum Sm.k256 l)), Ent.own (Value.slice la10 (n + 1) lc10) 5 1 (n + 1) (us .u8 (l ++ [77]))]) rfl ?_; intro w_6 H_6
    refine L_nil ?_
    refine Th_n ?_
    refine W_seq ?_
    refine W_quiet H_6 19 [Value.agg (ua .u8 (Sm.sum Sm.k256 l)), Value.slice a n c, Value.agg (ua .u8 (Sm.sum Sm.k256 l)), Value.bool (decide (Sm.sum Sm.k256 l = Sm.sum Sm.k256 l)), Value.bool (decide (Sm.sum Sm.k256 l = Sm.sum Sm.k256 l)), Value.slice la10 n lc10, Value.string (bs l), Value.slice a n c, Value.string (bs l), Value.bool (decide (l = l)), Value.bool (decide (l = l)), Value.bool (decide (l = l)), Value.slice la10 n lc10, Value.slice a n c, Value.int .i64 ((n : Nat) : Int), Value.int .i64 ((n + 1 : Nat) : Int), Value.slice la10 (n + 1) lc10, Value.slice a n c, Value.int .i64 ((n : Nat) : Int)] T_mixed (by kernel_rfl) ?_ ?_
    ·
      refine .plain rfl (Pl_y rfl (fun w hBw => Y_ldr T_row25 hBw (i := 0) rfl rfl (by rw [ua_size]; exact (sum256_wd l).1))) ?_
      refine .plain rfl (Pl_y rfl (fun w hBw => congrArg (fun v => Result.ok (Next.value v) w) p_0)) ?_
      refine .plain rfl (Pl_c rfl T_en10 (A1 rfl) (fun w hBw => rs256_n _ _ _ l hl (by omega) _ (hb.hp hBw))) ?_
      refine .plain rfl (Pl_y rfl (fun w hBw => Y_eqA (la := Sm.sum Sm.k256 l) (lb := Sm.sum Sm.k256 l) Try.underlying25 T_scal5 Try.underlying5 T_eqg25 rfl rfl (sum256_wd l).1 (sum256_wd l).1)) ?_
      refine .plain rfl (Pl_y rfl (fun w hBw => rfl)) ?_
      refine .plain rfl (Pl_y (wE rfl (congrArg Value.bool (decide_eq_true rfl))) (fun w hBw => rfl)) ?_
      refine .plain rfl (Pl_y (wE rfl (congrArg Value.bool (decide_eq_true rfl))) (fun w hBw => Y_strL Try.underlying22 Try.underlying5 Try.underlying9 rfl ((Sl.own hBw (i := 1) rfl).pre hb.len (Nat.le_succ _)))) ?_
      refine .plain rfl (Pl_y (wE rfl (congrArg Value.bool (decide_eq_true rfl))) (fun w hBw => congrArg (fun v => Result.ok (Next.value v) w) p_0)) ?_
      refine .plain rfl (Pl_y (wE rfl (congrArg Value.bool (decide_eq_true rfl))) (fun w hBw => Y_strL Try.underlying22 Try.underlying5 Try.underlying9 rfl (hb.hp hBw))) ?_
      refine .plain rfl (Pl_y (wE rfl (congrArg Value.bool (decide_eq_true rfl))) (fun w hBw => Y_eqT (l1 := l) (l2 := l) Try.underlying9 hl hl rfl rfl)) ?_
      refine .plain rfl (Pl_y rfl (fun w hBw => Y_pickT (congrArg Value.bool (decide_eq_true rfl)))) ?_
      refine .plain rfl (Pl_y rfl (fun w hBw => rfl)) ?_
      refine .plain rfl (Pl_y (wE rfl (congrArg Value.bool (decide_eq_true rfl))) (fun w hBw => rfl)) ?_
      refine .plain rfl (Pl_y (wE rfl (congrArg Value.bool (decide_eq_true rfl))) (fun w hBw => congrArg (fun v => Result.ok (Next.value v) w) p_0)) ?_
      refine .plain rfl (Pl_y (wE rfl (congrArg Value.bool (decide_eq_true rfl))) (fun w hBw => Y_lenS T_sl22 rfl)) ?_
      refine .plain rfl (Pl_y (wE rfl (congrArg Value.bool (decide_eq_true rfl))) (fun w hBw => Y_add (k := .i64) (a := ((n : Nat) : Int)) (b := ((1 : Nat) : Int)) (z := ((n + 1 : Nat) : Int)) rfl rfl (wi (by omega)))) ?_
      refine .plain rfl (Pl_y (wE rfl (congrArg Value.bool (decide_eq_true rfl))) (fun w hBw => Y_cutHr (hi := n + 1) T_sl22 ((Sl.own hBw (i := 1) rfl).pre hb.len (Nat.le_succ _)) rfl rfl (Sl.own hBw (i := 1) rfl).cap)) ?_
      refine .plain rfl (Pl_y (wE rfl (congrArg Value.bool (decide_eq_true rfl))) (fun w hBw => congrArg (fun v => Result.ok (Next.value v) w) p_0)) ?_
      refine .plain rfl (Pl_y (wE rfl (congrArg Value.bool (decide_eq_true rfl))) (fun w hBw => Y_lenS T_sl22 rfl)) ?_
      exact .nil _
    ·
      intro e_2 w_7 hAg H_7
      have e_2_24 : e_2 24 = Value.bool (decide (l = l)) := (hAg 24 rfl).trans rfl
      have e_2_29 : e_2 29 = Value.slice la10 (n + 1) lc10 := (hAg 29 rfl).trans rfl
      have e_2_31 : e_2 31 = Value.int .i64 ((n : Nat) : Int) := (hAg 31 rfl).trans rfl
      refine G_y (wE rfl (e_2_24.trans (congrArg Value.bool (decide_eq_true rfl)))) rfl (Y_idxL (j := n) T_sl22 (Sl.own H_7 (i := 1) rfl) e_2_29 e_2_31 rfl (by omega)) ?_
      obtain ⟨x33, hx33⟩ : ∃ u, (l ++ [77])[n]? = some u := ⟨_, List.getElem?_eq_getElem (by have := (⟨(Sl.own H_7 (i := 1) rfl).len, (app_lt hl (by decide))⟩ : Wd (n + 1) 256 (l ++ [77])).1; omega)⟩
      have rx33 := (⟨(Sl.own H_7 (i := 1) rfl).len, (app_lt hl (by decide))⟩ : Wd (n + 1) 256 (l ++ [77])).2 _ (List.mem_of_getElem? hx33)
      refine G_y (wE rfl (e_2_24.trans (congrArg Value.bool (decide_eq_true rfl)))) rfl (Y_ldR T_scal5 (Sl.own H_7 (i := 1) rfl).rd rfl (hx33)) ?_
      refine G_y (wE rfl (e_2_24.trans (congrArg Value.bool (decide_eq_true rfl)))) rfl (Y_eql (k := .u8) (a := ((x33 : Nat) : Int)) (b := ((77 : Nat) : Int)) rfl rfl) ?_
      refine L_y rfl (Y_pickT (e_2_24.trans (congrArg Value.bool (decide_eq_true rfl)))) ?_
      refine L_mv rfl ?_
      refine L_callv (wE rfl (congrArg Value.bool (Sm.last77 hb.len hx33))) rfl T_en7 (A0) (known_n _) ?_
      rintro _ w_8 ⟨rfl, hkp_4⟩; refine ⟨_, rfl, ?_⟩; have H_8 := H_7.keep hkp_4
      refine L_y rfl (Y_pickT (congrArg Value.bool (Sm.last77 hb.len hx33))) ?_
      refine L_as rfl ?_
      refine L_nil ?_
      refine Th_n ?_
      refine W_ret ?_
      refine P_ret (vs := [Value.bool true]) (v := Value.bool true) rfl (.tmp rfl (Res.nil)) rfl ?_
      refine ⟨?_, H_8.nil_⟩
      rfl

theorem sha512_law (a : Option Addr) (n c : Nat) (l : List Nat) (hl : ∀ u ∈ l, u < 256) (w0 : World) (hb : Sl w0 .u8 a n c l) :
    Calls Try.prog 4 #[Value.slice a n c] w0 (fun r_ w' => r_ = .returned (.bool true) ∧ Keep w0 w') := by
  refine F_in Try.func4 rfl Try.ntmps4 rfl ?_
  intro e he
  have p_0 : e 0 = Value.slice a n c := he 0 _ rfl
  have H := Hp.start w0 []
  refine W_seq ?_
  refine W_rg ?_
  refine L_as rfl ?_
  refine L_nil ?_
  refine Th_n ?_
  refine W_seq ?_
  refine W_seq ?_
  refine W_rg ?_
  refine L_mv rfl ?_
  refine L_y rfl (Y_lenS T_sl22 p_0) ?_
  refine L_y rfl (Y_gtr (k := .i64) (a := ((n : Nat) : Int)) (b := ((4096 : Nat) : Int)) rfl rfl) ?_
  refine L_nil ?_
  refine Th_n ?_
  refine W_cond (b := (decide (((4096 : Nat) : Int) < ((n : Nat) : Int)))) rfl (fun hc => ?_) (fun hc => ?_)
  ·
    have hc' := of_decide_eq_true hc
    refine W_seq ?_
    refine W_rg ?_
    refine L_callv rfl rfl T_en7 (A0) (known_n _) ?_
    rintro _ w_2 ⟨rfl, hkp⟩; refine ⟨_, rfl, ?_⟩; have H_2 := H.keep hkp
    refine L_as rfl ?_
    refine L_nil ?_
    refine Th_n ?_
    refine W_ret ?_
    refine Th_r ?_
    refine P_ret (vs := [Value.bool true]) (v := Value.bool true) rfl (.tmp rfl (Res.nil)) rfl ?_
    refine ⟨?_, H_2.nil_⟩
    rfl
  ·
    have hc' := of_decide_eq_false hc
    refine W_skip ?_
    refine Th_n ?_
    refine W_seq ?_
    refine W_rg ?_
    refine L_mv rfl ?_
    refine L_callv rfl rfl T_en8 (A1 p_0) (lent_n _ _ _ l hl (by omega) _ (hb.hp H)) ?_
    rintro _ w_3 ⟨la10, lc10, rfl, f10_0, hkp_2⟩; refine ⟨_, rfl, ?_⟩; have H_3 := H.more hkp_2
    refine L_as rfl ?_
    refine L_nil ?_
    refine Th_n ?_
    refine W_seq ?_
    refine W_rg ?_
    refine L_mv rfl ?_
    refine L_callv rfl rfl T_en11 (A1 rfl) (sum512_n _ _ _ l hl (by omega) _ ((Sl.own H_3 (i := 0) rfl).pre hb.len (Nat.le_succ _))) ?_
    rintro _ w_4 ⟨rfl, hkp_3⟩; refine ⟨_, rfl, ?_⟩; have H_4 := H_3.keep hkp_3
    refine L_alloc rfl H_4 T_zero28 ?_; intro bk4 w_5 H_5
    refine L_str (ds := ua .u8 (Sm.sum Sm.k512 l)) T_row28 H_5 (i := 0) rfl rfl rfl rfl (by rw [ua_size]; exact (sum512_wd l).1) (ua_one _ _) (l' := [Ent.blk bk4 28 (ua .u8 (Sm.sum Sm.k512 l)), Ent.own (Value.slice la10 (n + 1) lc10) 5 1 (n + 1) (us .u8 (l ++ [77]))]) rfl ?_; intro w_6 H_6
    refine L_nil ?_
    refine Th_n ?_
    refine W_seq ?_
    refine W_quiet H_6 19 [Value.agg (ua .u8 (Sm.sum Sm.k512 l)), Value.slice a n c, Value.agg (ua .u8 (Sm.sum Sm.k512 l)), Value.bool (decide (Sm.sum Sm.k512 l = Sm.sum Sm.k512 l)), Value.bool (decide (Sm.sum Sm.k512 l = Sm.sum Sm.k512 l)), Value.slice la10 n lc10, Value.string (bs l), Value.slice a n c, Value.string (bs l), Value.bool (decide (l = l)), Value.bool (decide (l = l)), Value.bool (decide (l = l)), Value.slice la10 n lc10, Value.slice a n c, Value.int .i64 ((n : Nat) : Int), Value.int .i64 ((n + 1 : Nat) : Int), Value.slice la10 (n + 1) lc10, Value.slice a n c, Value.int .i64 ((n : Nat) : Int)] T_mixed (by kernel_rfl) ?_ ?_
    ·
      refine .plain rfl (Pl_y rfl (fun w hBw => Y_ldr T_row28 hBw (i := 0) rfl rfl (by rw [ua_size]; exact (sum512_wd l).1))) ?_
      refine .plain rfl (Pl_y rfl (fun w hBw => congrArg (fun v => Result.ok (Next.value v) w) p_0)) ?_
      refine .plain rfl (Pl_c rfl T_en12 (A1 rfl) (fun w hBw => rs512_n _ _ _ l hl (by omega) _ (hb.hp hBw))) ?_
      refine .plain rfl (Pl_y rfl (fun w hBw => Y_eqA (la := Sm.sum Sm.k512 l) (lb := Sm.sum Sm.k512 l) Try.underlying28 T_scal5 Try.underlying5 T_eqg28 rfl rfl (sum512_wd l).1 (sum512_wd l).1)) ?_
      refine .plain rfl (Pl_y rfl (fun w hBw => rfl)) ?_
      refine .plain rfl (Pl_y (wE rfl (congrArg Value.bool (decide_eq_true rfl))) (fun w hBw => rfl)) ?_
      refine .plain rfl (Pl_y (wE rfl (congrArg Value.bool (decide_eq_true rfl))) (fun w hBw => Y_strL Try.underlying22 Try.underlying5 Try.underlying9 rfl ((Sl.own hBw (i := 1) rfl).pre hb.len (Nat.le_succ _)))) ?_
      refine .plain rfl (Pl_y (wE rfl (congrArg Value.bool (decide_eq_true rfl))) (fun w hBw => congrArg (fun v => Result.ok (Next.value v) w) p_0)) ?_
      refine .plain rfl (Pl_y (wE rfl (congrArg Value.bool (decide_eq_true rfl))) (fun w hBw => Y_strL Try.underlying22 Try.underlying5 Try.underlying9 rfl (hb.hp hBw))) ?_
      refine .plain rfl (Pl_y (wE rfl (congrArg Value.bool (decide_eq_true rfl))) (fun w hBw => Y_eqT (l1 := l) (l2 := l) Try.underlying9 hl hl rfl rfl)) ?_
      refine .plain rfl (Pl_y rfl (fun w hBw => Y_pickT (congrArg Value.bool (decide_eq_true rfl)))) ?_
      refine .plain rfl (Pl_y rfl (fun w hBw => rfl)) ?_
      refine .plain rfl (Pl_y (wE rfl (congrArg Value.bool (decide_eq_true rfl))) (fun w hBw => rfl)) ?_
      refine .plain rfl (Pl_y (wE rfl (congrArg Value.bool (decide_eq_true rfl))) (fun w hBw => congrArg (fun v => Result.ok (Next.value v) w) p_0)) ?_
      refine .plain rfl (Pl_y (wE rfl (congrArg Value.bool (decide_eq_true rfl))) (fun w hBw => Y_lenS T_sl22 rfl)) ?_
      refine .plain rfl (Pl_y (wE rfl (congrArg Value.bool (decide_eq_true rfl))) (fun w hBw => Y_add (k := .i64) (a := ((n : Nat) : Int)) (b := ((1 : Nat) : Int)) (z := ((n + 1 : Nat) : Int)) rfl rfl (wi (by omega)))) ?_
      refine .plain rfl (Pl_y (wE rfl (congrArg Value.bool (decide_eq_true rfl))) (fun w hBw => Y_cutHr (hi := n + 1) T_sl22 ((Sl.own hBw (i := 1) rfl).pre hb.len (Nat.le_succ _)) rfl rfl (Sl.own hBw (i := 1) rfl).cap)) ?_
      refine .plain rfl (Pl_y (wE rfl (congrArg Value.bool (decide_eq_true rfl))) (fun w hBw => congrArg (fun v => Result.ok (Next.value v) w) p_0)) ?_
      refine .plain rfl (Pl_y (wE rfl (congrArg Value.bool (decide_eq_true rfl))) (fun w hBw => Y_lenS T_sl22 rfl)) ?_
      exact .nil _
    ·
      intro e_2 w_7 hAg H_7
      have e_2_24 : e_2 24 = Value.bool (decide (l = l)) := (hAg 24 rfl).trans rfl
      have e_2_29 : e_2 29 = Value.slice la10 (n + 1) lc10 := (hAg 29 rfl).trans rfl
      have e_2_31 : e_2 31 = Value.int .i64 ((n : Nat) : Int) := (hAg 31 rfl).trans rfl
      refine G_y (wE rfl (e_2_24.trans (congrArg Value.bool (decide_eq_true rfl)))) rfl (Y_idxL (j := n) T_sl22 (Sl.own H_7 (i := 1) rfl) e_2_29 e_2_31 rfl (by omega)) ?_
      obtain ⟨x33, hx33⟩ : ∃ u, (l ++ [77])[n]? = some u := ⟨_, List.getElem?_eq_getElem (by have := (⟨(Sl.own H_7 (i := 1) rfl).len, (app_lt hl (by decide))⟩ : Wd (n + 1) 256 (l ++ [77])).1; omega)⟩
      have rx33 := (⟨(Sl.own H_7 (i := 1) rfl).len, (app_lt hl (by decide))⟩ : Wd (n + 1) 256 (l ++ [77])).2 _ (List.mem_of_getElem? hx33)
      refine G_y (wE rfl (e_2_24.trans (congrArg Value.bool (decide_eq_true rfl)))) rfl (Y_ldR T_scal5 (Sl.own H_7 (i := 1) rfl).rd rfl (hx33)) ?_
      refine G_y (wE rfl (e_2_24.trans (congrArg Value.bool (decide_eq_true rfl)))) rfl (Y_eql (k := .u8) (a := ((x33 : Nat) : Int)) (b := ((77 : Nat) : Int)) rfl rfl) ?_
      refine L_y rfl (Y_pickT (e_2_24.trans (congrArg Value.bool (decide_eq_true rfl)))) ?_
      refine L_mv rfl ?_
      refine L_callv (wE rfl (congrArg Value.bool (Sm.last77 hb.len hx33))) rfl T_en7 (A0) (known_n _) ?_
      rintro _ w_8 ⟨rfl, hkp_4⟩; refine ⟨_, rfl, ?_⟩; have H_8 := H_7.keep hkp_4
      refine L_y rfl (Y_pickT (congrArg Value.bool (Sm.last77 hb.len hx33))) ?_
      refine L_as rfl ?_
      refine L_nil ?_
      refine Th_n ?_
      refine W_ret ?_
      refine P_ret (vs := [Value.bool true]) (v := Value.bool true) rfl (.tmp rfl (Res.nil)) rfl ?_
      refine ⟨?_, H_8.nil_⟩
      rfl

theorem standard_law (w0 : World) :
    Calls Try.prog 5 #[] w0 (fun r_ w' => r_ = .returned (.bool true) ∧ Keep w0 w') := by
  refine F_in Try.func5 rfl Try.ntmps5 rfl ?_
  intro e he
  have H := Hp.start w0 []
  refine W_seq ?_
  refine W_rg ?_
  refine L_as rfl ?_
  refine L_nil ?_
  refine Th_n ?_
  refine W_seq ?_
  refine W_rg ?_
  refine L_callv rfl rfl T_en9 (A1 rfl) (sum256_n _ _ _ [] (by simp) (by decide) _ (Sl.nil _ _)) ?_
  rintro _ w_2 ⟨rfl, hkp⟩; refine ⟨_, rfl, ?_⟩; have H_2 := H.keep hkp
  refine L_alloc rfl H_2 T_zero25 ?_; intro bk1 w_3 H_3
  refine L_str (ds := ua .u8 (Sm.sum Sm.k256 [])) T_row25 H_3 (i := 0) rfl rfl rfl rfl (by rw [ua_size]; exact (sum256_wd []).1) (ua_one _ _) (l' := [Ent.blk bk1 25 (ua .u8 (Sm.sum Sm.k256 []))]) rfl ?_; intro w_4 H_4
  refine L_nil ?_
  refine Th_n ?_
  refine W_seq ?_
  refine W_rg ?_
  refine L_bsl (cs := ua .u8 [97, 98, 99, 100, 98, 99, 100, 101, 99, 100, 101, 102, 100, 101, 102, 103, 101, 102, 103, 104, 102, 103, 104, 105, 103, 104, 105, 106, 104, 105, 106, 107, 105, 106, 107, 108, 106, 107, 108, 109, 107, 108, 109, 110, 108, 109, 110, 111, 109, 110, 111, 112, 110, 111, 112, 113]) rfl H_4 (pv := [(0, Value.int .u8 ((97 : Nat) : Int)), (1, Value.int .u8 ((98 : Nat) : Int)), (2, Value.int .u8 ((99 : Nat) : Int)), (3, Value.int .u8 ((100 : Nat) : Int)), (4, Value.int .u8 ((98 : Nat) : Int)), (5, Value.int .u8 ((99 : Nat) : Int)), (6, Value.int .u8 ((100 : Nat) : Int)), (7, Value.int .u8 ((101 : Nat) : Int)), (8, Value.int .u8 ((99 : Nat) : Int)), (9, Value.int .u8 ((100 : Nat) : Int)), (10, Value.int .u8 ((101 : Nat) : Int)), (11, Value.int .u8 ((102 : Nat) : Int)), (12, Value.int .u8 ((100 : Nat) : Int)), (13, Value.int .u8 ((101 : Nat) : Int)), (14, Value.int .u8 ((102 : Nat) : Int)), (15, Value.int .u8 ((103 : Nat) : Int)), (16, Value.int .u8 ((101 : Nat) : Int)), (17, Value.int .u8 ((102 : Nat) : Int)), (18, Value.int .u8 ((103 : Nat) : Int)), (19, Value.int .u8 ((104 : Nat) : Int)), (20, Value.int .u8 ((102 : Nat) : Int)), (21, Value.int .u8 ((103 : Nat) : Int)), (22, Value.int .u8 ((104 : Nat) : Int)), (23, Value.int .u8 ((105 : Nat) : Int)), (24, Value.int .u8 ((103 : Nat) : Int)), (25, Value.int .u8 ((104 : Nat) : Int)), (26, Value.int .u8 ((105 : Nat) : Int)), (27, Value.int .u8 ((106 : Nat) : Int)), (28, Value.int .u8 ((104 : Nat) : Int)), (29, Value.int .u8 ((105 : Nat) : Int)), (30, Value.int .u8 ((106 : Nat) : Int)), (31, Value.int .u8 ((107 : Nat) : Int)), (32, Value.int .u8 ((105 : Nat) : Int)), (33, Value.int .u8 ((106 : Nat) : Int)), (34, Value.int .u8 ((107 : Nat) : Int)), (35, Value.int .u8 ((108 : Nat) : Int)), (36, Value.int .u8 ((106 : Nat) : Int)), (37, Value.int .u8 ((107 : Nat) : Int)), (38, Value.int .u8 ((108 : Nat) : Int)), (39, Value.int .u8 ((109 : Nat) : Int)), (40, Value.int .u8 ((107 : Nat) : Int)), (41, Value.int .u8 ((108 : Nat) : Int)), (42, Value.int .u8 ((109 : Nat) : Int)), (43, Value.int .u8 ((110 : Nat) : Int)), (44, Value.int .u8 ((108 : Nat) : Int)), (45, Value.int .u8 ((109 : Nat) : Int)), (46, Value.int .u8 ((110 : Nat) : Int)), (47, Value.int .u8 ((111 : Nat) : Int)), (48, Value.int .u8 ((109 : Nat) : Int)), (49, Value.int .u8 ((110 : Nat) : Int)), (50, Value.int .u8 ((111 : Nat) : Int)), (51, Value.int .u8 ((112 : Nat) : Int)), (52, Value.int .u8 ((110 : Nat) : Int)), (53, Value.int .u8 ((111 : Nat) : Int)), (54, Value.int .u8 ((112 : Nat) : Int)), (55, Value.int .u8 ((113 : Nat) : Int))]) T_sl22 T_zero5 rfl (Bpc rfl (Bpc rfl (Bpc rfl (Bpc rfl (Bpc rfl (Bpc rfl (Bpc rfl (Bpc rfl (Bpc rfl (Bpc rfl (Bpc rfl (Bpc rfl (Bpc rfl (Bpc rfl (Bpc rfl (Bpc rfl (Bpc rfl (Bpc rfl (Bpc rfl (Bpc rfl (Bpc rfl (Bpc rfl (Bpc rfl (Bpc rfl (Bpc rfl (Bpc rfl (Bpc rfl (Bpc rfl (Bpc rfl (Bpc rfl (Bpc rfl (Bpc rfl (Bpc rfl (Bpc rfl (Bpc rfl (Bpc rfl (Bpc rfl (Bpc rfl (Bpc rfl (Bpc rfl (Bpc rfl (Bpc rfl (Bpc rfl (Bpc rfl (Bpc rfl (Bpc rfl (Bpc rfl (Bpc rfl (Bpc rfl (Bpc rfl (Bpc rfl (Bpc rfl (Bpc rfl (Bpc rfl (Bpc rfl (Bpc rfl Bp0)))))))))))))))))))))))))))))))))))))))))))))))))))))))) (by kernel_rfl) ?_; intro bk4 w_5 H_5
  refine L_cvB rfl H_5 (i := 0) rfl Try.underlying22 Try.underlying5 rfl ?_; intro w_6 Hx
  have H_6 : Hp w0 [] w_6 [Ent.ro bk4 5 (ua .u8 [97, 98, 99, 100, 98, 99, 100, 101, 99, 100, 101, 102, 100, 101, 102, 103, 101, 102, 103, 104, 102, 103, 104, 105, 103, 104, 105, 106, 104, 105, 106, 107, 105, 106, 107, 108, 106, 107, 108, 109, 107, 108, 109, 110, 108, 109, 110, 111, 109, 110, 111, 112, 110, 111, 112, 113]) ((ua .u8 [97, 98, 99, 100, 98, 99, 100, 101, 99, 100, 101, 102, 100, 101, 102, 103, 101, 102, 103, 104, 102, 103, 104, 105, 103, 104, 105, 106, 104, 105, 106, 107, 105, 106, 107, 108, 106, 107, 108, 109, 107, 108, 109, 110, 108, 109, 110, 111, 109, 110, 111, 112, 110, 111, 112, 113]).size, (ua .u8 [97, 98, 99, 100, 98, 99, 100, 101, 99, 100, 101, 102, 100, 101, 102, 103, 101, 102, 103, 104, 102, 103, 104, 105, 103, 104, 105, 106, 104, 105, 106, 107, 105, 106, 107, 108, 106, 107, 108, 109, 107, 108, 109, 110, 108, 109, 110, 111, 109, 110, 111, 112, 110, 111, 112, 113]).size + 1), Ent.blk bk1 25 (ua .u8 (Sm.sum Sm.k256 []))] := Hx
  refine L_callv rfl rfl T_en9 (A1 rfl) (sum256_n _ _ _ [97, 98, 99, 100, 98, 99, 100, 101, 99, 100, 101, 102, 100, 101, 102, 103, 101, 102, 103, 104, 102, 103, 104, 105, 103, 104, 105, 106, 104, 105, 106, 107, 105, 106, 107, 108, 106, 107, 108, 109, 107, 108, 109, 110, 108, 109, 110, 111, 109, 110, 111, 112, 110, 111, 112, 113] (by decide) (by decide) _ (ro_sla H_6 (i := 0) rfl rfl)) ?_
  rintro _ w_7 ⟨rfl, hkp_2⟩; refine ⟨_, rfl, ?_⟩; have H_7 := H_6.keep hkp_2
  refine L_alloc rfl H_7 T_zero25 ?_; intro bk2 w_8 H_8
  refine L_str (ds := ua .u8 (Sm.sum Sm.k256 [97, 98, 99, 100, 98, 99, 100, 101, 99, 100, 101, 102, 100, 101, 102, 103, 101, 102, 103, 104, 102, 103, 104, 105, 103, 104, 105, 106, 104, 105, 106, 107, 105, 106, 107, 108, 106, 107, 108, 109, 107, 108, 109, 110, 108, 109, 110, 111, 109, 110, 111, 112, 110, 111, 112, 113])) T_row25 H_8 (i := 0) rfl rfl rfl rfl (by rw [ua_size]; exact (sum256_wd [97, 98, 99, 100, 98, 99, 100, 101, 99, 100, 101, 102, 100, 101, 102, 103, 101, 102, 103, 104, 102, 103, 104, 105, 103, 104, 105, 106, 104, 105, 106, 107, 105, 106, 107, 108, 106, 107, 108, 109, 107, 108, 109, 110, 108, 109, 110, 111, 109, 110, 111, 112, 110, 111, 112, 113]).1) (ua_one _ _) (l' := [Ent.blk bk2 25 (ua .u8 (Sm.sum Sm.k256 [97, 98, 99, 100, 98, 99, 100, 101, 99, 100, 101, 102, 100, 101, 102, 103, 101, 102, 103, 104, 102, 103, 104, 105, 103, 104, 105, 106, 104, 105, 106, 107, 105, 106, 107, 108, 106, 107, 108, 109, 107, 108, 109, 110, 108, 109, 110, 111, 109, 110, 111, 112, 110, 111, 112, 113])), Ent.ro bk4 5 (ua .u8 [97, 98, 99, 100, 98, 99, 100, 101, 99, 100, 101, 102, 100, 101, 102, 103, 101, 102, 103, 104, 102, 103, 104, 105, 103, 104, 105, 106, 104, 105, 106, 107, 105, 106, 107, 108, 106, 107, 108, 109, 107, 108, 109, 110, 108, 109, 110, 111, 109, 110, 111, 112, 110, 111, 112, 113]) ((ua .u8 [97, 98, 99, 100, 98, 99, 100, 101, 99, 100, 101, 102, 100, 101, 102, 103, 101, 102, 103, 104, 102, 103, 104, 105, 103, 104, 105, 106, 104, 105, 106, 107, 105, 106, 107, 108, 106, 107, 108, 109, 107, 108, 109, 110, 108, 109, 110, 111, 109, 110, 111, 112, 110, 111, 112, 113]).size, (ua .u8 [97, 98, 99, 100, 98, 99, 100, 101, 99, 100, 101, 102, 100, 101, 102, 103, 101, 102, 103, 104, 102, 103, 104, 105, 103, 104, 105, 106, 104, 105, 106, 107, 105, 106, 107, 108, 106, 107, 108, 109, 107, 108, 109, 110, 108, 109, 110, 111, 109, 110, 111, 112, 110, 111, 112, 113]).size + 1), Ent.blk bk1 25 (ua .u8 (Sm.sum Sm.k256 []))]) rfl ?_; intro w_9 H_9
  refine L_nil ?_
  refine Th_n ?_
  refine W_seq ?_
  refine W_rg ?_
  refine L_y rfl (Y_slAH (h := 8) T_arr25 rfl rfl (by decide)) ?_
  refine L_y rfl (Y_strL Try.underlying22 Try.underlying5 Try.underlying9 rfl (ua_sl H_9 (i := 2) rfl (sum256_wd []).1 (by decide))) ?_
  refine L_y rfl (Y_eqT (l1 := (Sm.sum Sm.k256 []).take 8) (l2 := [227, 176, 196, 66, 152, 252, 28, 20]) Try.underlying9 (fun u hu => Sm.sum_lt _ _ u (List.mem_of_mem_take hu)) (by decide) rfl (by kernel_rfl)) ?_
  refine L_mv rfl ?_
  refine G_y (wE rfl (congrArg Value.bool (decide_eq_true (by decide +kernel)))) rfl (Y_slAH (h := 8) T_arr25 rfl rfl (by decide)) ?_
  refine G_y (wE rfl (congrArg Value.bool (decide_eq_true (by decide +kernel)))) rfl (Y_strL Try.underlying22 Try.underlying5 Try.underlying9 rfl (ua_sl H_9 (i := 0) rfl (sum256_wd [97, 98, 99, 100, 98, 99, 100, 101, 99, 100, 101, 102, 100, 101, 102, 103, 101, 102, 103, 104, 102, 103, 104, 105, 103, 104, 105, 106, 104, 105, 106, 107, 105, 106, 107, 108, 106, 107, 108, 109, 107, 108, 109, 110, 108, 109, 110, 111, 109, 110, 111, 112, 110, 111, 112, 113]).1 (by decide))) ?_
  refine G_y (wE rfl (congrArg Value.bool (decide_eq_true (by decide +kernel)))) rfl (Y_eqT (l1 := (Sm.sum Sm.k256 [97, 98, 99, 100, 98, 99, 100, 101, 99, 100, 101, 102, 100, 101, 102, 103, 101, 102, 103, 104, 102, 103, 104, 105, 103, 104, 105, 106, 104, 105, 106, 107, 105, 106, 107, 108, 106, 107, 108, 109, 107, 108, 109, 110, 108, 109, 110, 111, 109, 110, 111, 112, 110, 111, 112, 113]).take 8) (l2 := [36, 141, 106, 97, 210, 6, 56, 184]) Try.underlying9 (fun u hu => Sm.sum_lt _ _ u (List.mem_of_mem_take hu)) (by decide) rfl (by kernel_rfl)) ?_
  refine L_y rfl (Y_pickT (congrArg Value.bool (decide_eq_true (by decide +kernel)))) ?_
  refine L_mv rfl ?_
  refine L_callv (wE rfl (congrArg Value.bool (decide_eq_true (by decide +kernel)))) rfl T_en7 (A0) (known_n _) ?_
  rintro _ w_10 ⟨rfl, hkp_3⟩; refine ⟨_, rfl, ?_⟩; have H_10 := H_9.keep hkp_3
  refine L_y rfl (Y_pickT (congrArg Value.bool (decide_eq_true (by decide +kernel)))) ?_
  refine L_as rfl ?_
  refine L_nil ?_
  refine Th_n ?_
  refine W_ret ?_
  refine P_ret (vs := [Value.bool true]) (v := Value.bool true) rfl (.tmp rfl (Res.nil)) rfl ?_
  refine ⟨?_, H_10.nil_⟩
  rfl
end Go.Proofs.Ytdccphfaeockpaa
