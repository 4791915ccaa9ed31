/- Walks of layer 27 (net) and of its reference. Printed by net.py. -/
import Derived.Test.YtbfmodjaahfbjaaN11
import Derived.Test.YtbfmodjaahfbjaaSentMath
namespace Go.Proofs.Ytbfmodjaahfbjaa
open Go.Ev
set_option maxRecDepth 100000
set_option linter.unusedVariables false
set_option linter.unusedSimpArgs false
theorem T_sl22 : slOf Try.prog 22 = some (3, 1) := by kernel_rfl
theorem T_zero26 : zeroOf Try.prog 26 = some (ub (List.replicate 150 false)) := by kernel_rfl
theorem T_kind5 : kindOf Try.prog 5 = some .u8 := by kernel_rfl
theorem T_arr26 : arrOf Try.prog 26 = some (150, 1) := by kernel_rfl
theorem T_scal4 : scal Try.prog 4 = true := by kernel_rfl
theorem T_scal5 : scal Try.prog 5 = true := by kernel_rfl
theorem T_fld31_1 : fldOf Try.prog 31 1 = some (1, 1) := by kernel_rfl
theorem netSent_n (a : Option Addr) (m c : Nat) (L : List Int) (w0 : World) (hT : Tab w0 (fun x : Int => [Value.int .i64 x]) 1 a m c L) (hg : ∀ x ∈ L, -9223372036854775808 ≤ x ∧ x ≤ 9223372036854775807) :
    Calls Try.prog 3 #[Value.slice a m c] w0 (fun r_ w' => r_ = .returned (.bool true) ∧ Keep w0 w') := by
  refine F_in Try.func3 rfl Try.ntmps3 rfl ?_
  intro e he
  have p_0 : e 0 = Value.slice a m c := he 0 _ rfl
  have H := Hp.start w0 []
  refine W_seq ?_
  refine W_rg ?_
  refine L_as rfl ?_
  refine L_nil ?_
  refine Th_n ?_
  refine W_seq ?_
  refine W_seq ?_
  refine W_rg ?_
  refine L_mv rfl ?_
  refine L_y rfl (Y_lenS T_sl22 p_0) ?_
  refine L_y rfl (Y_gtr (k := .i64) (a := ((m : Nat) : Int)) (b := ((150 : Nat) : Int)) rfl rfl) ?_
  refine L_nil ?_
  refine Th_n ?_
  refine W_cond (b := (decide (((150 : Nat) : Int) < ((m : Nat) : Int)))) rfl (fun hc => ?_) (fun hc => ?_)
  ·
    have hc' := of_decide_eq_true hc
    refine W_seq ?_
    refine W_rg ?_
    refine L_callv rfl rfl T_en7 (A0) (known_n _) ?_
    rintro _ w_2 ⟨rfl, hkp⟩; refine ⟨_, rfl, ?_⟩; have H_2 := H.keep hkp
    refine L_as rfl ?_
    refine L_nil ?_
    refine Th_n ?_
    refine W_ret ?_
    refine Th_r ?_
    refine P_ret (vs := [Value.bool true]) (v := Value.bool true) rfl (.tmp rfl (Res.nil)) rfl ?_
    refine ⟨?_, H_2.nil_⟩
    rfl
  ·
    have hc' := of_decide_eq_false hc
    refine W_skip ?_
    refine Th_n ?_
    refine W_seq ?_
    refine W_rg ?_
    refine L_callv rfl rfl T_en8 (A0) (new_n H) ?_
    rintro _ w_3 ⟨b12, v12, K12, rfl, f12_0, H_3⟩; refine ⟨_, rfl, ?_⟩
    have H_4 : Hp w0 [] w_3 (Ent.blk b12 51 #[v12] :: Ent.own v12 31 3 K12.length (rows K12) :: (nest 5 K12 ++ ([] : List Ent))) := Hp.chunk [Ent.blk b12 51 #[v12], Ent.own v12 31 3 K12.length (rows K12)] (nest 5 K12) [] ([] : List Ent) H_3
    have kK12 := f12_0
    have okK12 : Nt.ok (keys K12) := by rw [kK12]; exact Nt.ok_nil
    refine L_as rfl ?_
    refine L_nil ?_
    refine Th_n ?_
    refine W_seq ?_
    refine W_rg ?_
    refine L_alloc rfl H_4 T_zero26 ?_; intro bk4 w_4 H_5
    refine L_nil ?_
    refine Th_n ?_
    refine W_seq ?_
    refine W_seq ?_
    refine W_rg ?_
    refine L_as rfl ?_
    refine L_nil ?_
    refine Th_n ?_
    refine W_block ?_
    refine W_loop (fun mu_ e w => ∃ i : Nat, ∃ K : List Lt, ∃ v : Value, ∃ sb : List Bool, mu_ = m - i ∧ e 0 = Value.slice a m c ∧ e 3 = Value.pointer (some ⟨b12, 0, none⟩) ∧ e 4 = Value.pointer (some ⟨bk4, 0, none⟩) ∧ e 5 = Value.int .i64 ((i : Nat) : Int) ∧ Hp w0 [] w (Ent.blk b12 51 #[v] :: Ent.own v 31 3 K.length (rows K) :: Ent.blk bk4 26 (ub sb) :: (nest 5 K ++ ([] : List Ent))) ∧ Nt.ok (keys K) ∧ Nt.Sent (keys K) sb i ∧ i ≤ m) _ ⟨0, _, _, _, rfl, p_0, rfl, rfl, rfl, (((H_5.pull 0 rfl).pull 2 rfl).pull 2 rfl), okK12, (by rw [kK12]; exact Nt.Sent.new), (Nat.zero_le _)⟩ ?_
    rintro mu_ e_2 w_5 ⟨i, K, v, sb, rfl, e_2_0, e_2_3, e_2_4, e_2_5, H_6, okK, hS, hi⟩
    refine W_seq ?_
    refine W_seq ?_
    refine W_rg ?_
    refine L_mv rfl ?_
    refine L_mv rfl ?_
    refine L_y rfl (Y_lenS T_sl22 e_2_0) ?_
    refine L_y rfl (Y_lss (k := .i64) (a := ((i : Nat) : Int)) (b := ((m : Nat) : Int)) e_2_5 rfl) ?_
    refine L_nil ?_
    refine Th_n ?_
    refine W_cond (b := (decide (((i : Nat) : Int) < ((m : Nat) : Int)))) rfl (fun hc_2 => ?_) (fun hc_2 => ?_)
    ·
      have hc_2' := of_decide_eq_true hc_2
      refine W_skip ?_
      refine Th_n ?_
      refine W_seq ?_
      refine W_block ?_
      refine W_seq ?_
      refine W_seq ?_
      refine W_rg ?_
      refine L_mv rfl ?_
      refine L_mv rfl ?_
      refine L_mv rfl ?_
      refine L_yr (z := i % 256) (m := 256) rfl (Y_convI (k := .i64) (n := ((i : Nat) : Int)) (z := ((i % 256 : Nat) : Int)) T_some3 T_kind5 e_2_5 (wrapM rfl rfl)) (Nat.mod_lt _ (by decide)) ?_; intro x22 hx22 rx22
      refine L_bsl (cs := ua .u8 [x22]) rfl H_6 (pv := [(0, Value.int .u8 ((x22 : Nat) : Int))]) T_sl29 T_zero5 rfl (Bpc rfl Bp0) (by kernel_rfl) ?_; intro bk23 w_6 H_7
      refine L_y rfl (Y_build (pv := [(0, Value.int .i64 ((i : Nat) : Int)), (1, Value.int .i64 (-1)), (2, Value.slice (some ⟨bk23, 0, none⟩) 1 1)]) (cs := #[Value.int .i64 ((i : Nat) : Int), Value.int .i64 (-1), Value.slice (some ⟨bk23, 0, none⟩) 1 1]) (Bpc e_2_5 (Bpc rfl (Bpc rfl Bp0))) (by kernel_rfl)) ?_
      have H_8 : Hp w0 [] w_6 (Ent.blk b12 51 #[v] :: Ent.own v 31 3 K.length (rows K) :: Ent.blk bk23 5 (ua .u8 [x22]) :: Ent.blk bk4 26 (ub sb) :: (nest 5 K ++ ([] : List Ent))) := ((H_7.pull 2 rfl).pull 2 rfl)
      have Hc : Hp w0 [] w_6 (Ent.blk b12 51 #[v] :: Ent.own v 31 3 K.length (rows K) :: (nest 5 K ++ (Ent.blk bk23 5 (ua .u8 [x22]) :: Ent.blk bk4 26 (ub sb) :: ([] : List Ent)))) := Hp.chunk [Ent.blk b12 51 #[v], Ent.own v 31 3 K.length (rows K)] [Ent.blk bk23 5 (ua .u8 [x22]), Ent.blk bk4 26 (ub sb)] (nest 5 K) ([] : List Ent) H_8
      refine L_callv rfl rfl T_en9 (A2 e_2_3 rfl) (send_n (f := ((i : Nat) : Int)) (t := (-1)) (l := [x22]) okK (cons_lt rx22 (by simp)) (Seen.mono (Seen.blk (X := [Ent.blk bk23 5 (ua .u8 [x22])]) (i := 0) rfl rfl) (fun y hy => by simp only [List.mem_singleton] at hy; subst hy; simp)) Hc) ?_
      rintro _ w_7 ⟨v25, K25, rfl, f25_0, H_9⟩; refine ⟨_, rfl, ?_⟩
      have H_10 : Hp w0 [] w_7 (Ent.blk b12 51 #[v25] :: Ent.own v25 31 3 K25.length (rows K25) :: Ent.blk bk23 5 (ua .u8 [x22]) :: Ent.blk bk4 26 (ub sb) :: (nest 5 K25 ++ ([] : List Ent))) := Hp.chunk [Ent.blk b12 51 #[v25], Ent.own v25 31 3 K25.length (rows K25)] (nest 5 K25) [Ent.blk bk23 5 (ua .u8 [x22]), Ent.blk bk4 26 (ub sb)] ([] : List Ent) H_9
      have kK25 := f25_0
      have okK25 : Nt.ok (keys K25) := by rw [kK25]; exact (okK).send (cons_lt rx22 (by simp))
      have hin : Nt.send (keys K) (((i : Nat) : Int), (-1), [x22]) = keys K ++ [(((i : Nat) : Int), (-1), [x22])] := Nt.send_in (by show ¬ 60000 < 1; omega) (by have := hS.len; omega)
      rw [hin] at kK25
      have hS2 : Nt.Sent (keys K25) sb (i + 1) := by rw [kK25, hx22]; exact hS.send (by omega)
      refine L_y rfl (Y_neq (k := .i64) (a := ((Nt.scode (keys K) 1 : Nat) : Int)) (b := ((0 : Nat) : Int)) rfl rfl) ?_
      refine L_nil ?_
      refine Th_n ?_
      refine W_false (congrArg Value.bool ((by rw [show Nt.scode (keys K) 1 = 0 from (if_neg (by show ¬ 60000 < 1; omega)).trans (if_neg (by have := hS.len; omega))]; rfl) : (((Nt.scode (keys K) 1 : Nat) : Int) != ((0 : Nat) : Int)) = false)) ?_
      refine W_skip ?_
      refine Th_n ?_
      refine W_seq ?_
      refine W_seq ?_
      refine W_rg ?_
      refine L_mv rfl ?_
      refine L_mv rfl ?_
      obtain ⟨el29, hel29⟩ := hT.at (j := i) (by omega)
      have gel29 := hg el29 (List.mem_of_getElem? hel29)
      refine L_y rfl (Y_idxT (j := i) T_sl22 (hT.hp H_10) hel29 e_2_0 e_2_5 rfl) ?_
      refine L_y rfl (Y_ldT (j := i) (off := 0) T_scal3 (hT.hp H_10) hel29 rfl rfl rfl) ?_
      refine L_y rfl (Y_rem (k := .i64) (a := el29) (b := ((2 : Nat) : Int)) (z := (el29).tmod 2) rfl rfl (by decide) rfl) ?_
      refine L_y rfl (Y_eql (k := .i64) (a := ((el29).tmod 2)) (b := ((0 : Nat) : Int)) rfl rfl) ?_
      refine L_nil ?_
      refine Th_n ?_
      refine W_cond (b := (((el29).tmod 2) == ((0 : Nat) : Int))) rfl (fun hc_3 => ?_) (fun hc_3 => ?_)
      ·
        have hc_3' := eq_of_beq hc_3
        refine W_exit ?_
        refine Th_x ?_
        refine InB_hit ?_
        refine Th_n ?_
        refine W_rg ?_
        refine L_mv rfl ?_
        refine L_y rfl (Y_add (k := .i64) (a := ((i : Nat) : Int)) (b := ((1 : Nat) : Int)) (z := ((i + 1 : Nat) : Int)) e_2_5 rfl (wi (by omega))) ?_
        refine L_as rfl ?_
        refine L_nil ?_
        refine Th_n ⟨_, ?_, (i + 1), _, _, _, rfl, e_2_0, e_2_3, e_2_4, rfl, ((((H_10.erase 2).pull 2 rfl).pull 2 rfl).pull 2 rfl), (by assumption), (by assumption), (by omega)⟩
        omega
      ·
        have hc_3' := ne_of_beq_false hc_3
        refine W_skip ?_
        refine Th_n ?_
        refine W_seq ?_
        refine W_rg ?_
        refine L_mv rfl ?_
        refine L_mv rfl ?_
        refine L_mv rfl ?_
        refine L_y rfl (Y_idxT (j := i) T_sl22 (hT.hp H_10) hel29 e_2_0 e_2_5 rfl) ?_
        refine L_y rfl (Y_ldT (j := i) (off := 0) T_scal3 (hT.hp H_10) hel29 rfl rfl rfl) ?_
        have Hc_2 : Hp w0 [] w_7 (Ent.blk b12 51 #[v25] :: Ent.own v25 31 3 K25.length (rows K25) :: (nest 5 K25 ++ (Ent.blk bk23 5 (ua .u8 [x22]) :: Ent.blk bk4 26 (ub sb) :: ([] : List Ent)))) := Hp.chunk [Ent.blk b12 51 #[v25], Ent.own v25 31 3 K25.length (rows K25)] [Ent.blk bk23 5 (ua .u8 [x22]), Ent.blk bk4 26 (ub sb)] (nest 5 K25) ([] : List Ent) H_10
        refine L_callv rfl rfl T_en10 (A2 e_2_3 rfl) (take_n el29 okK25 Hc_2) ?_
        rintro _ w_8 ⟨y39, v39, K39, rfl, f39_0, H_11⟩; refine ⟨_, rfl, ?_⟩
        have H_12 : Hp w0 [] w_8 (Ent.own (Value.slice y39.a y39.l.length y39.c) 5 1 y39.l.length (us .u8 y39.l) :: Ent.blk b12 51 #[v39] :: Ent.own v39 31 3 K39.length (rows K39) :: Ent.blk bk23 5 (ua .u8 [x22]) :: Ent.blk bk4 26 (ub sb) :: (nest 5 K39 ++ ([] : List Ent))) := Hp.chunk [Ent.own (Value.slice y39.a y39.l.length y39.c) 5 1 y39.l.length (us .u8 y39.l), Ent.blk b12 51 #[v39], Ent.own v39 31 3 K39.length (rows K39)] (nest 5 K39) [Ent.blk bk23 5 (ua .u8 [x22]), Ent.blk bk4 26 (ub sb)] ([] : List Ent) H_11
        obtain ⟨ky39, hkK39⟩ := f39_0
        have hy39 : ∀ u ∈ y39.l, u < 256 := by have h := (okK25.letter el29).1; rw [← ky39] at h; exact h
        have okK39 : Nt.ok (keys K39) := by rw [hkK39]; exact (okK25).left _
        have by39 : y39.l.length ≤ 60000 := by have h := (okK25.letter el29).2; rw [← ky39] at h; exact h
        have kK39 := hkK39
        obtain ⟨j, hkey, hji, hsj, hS3⟩ := hS2.take (by rw [kK25]; simp) el29
        rw [hkey] at ky39; rw [← hkK39] at hS3
        have hj150 := hS2.sl
        obtain ⟨ya, yc, rfl⟩ := Nt.of_key ky39
        have H_13 : Hp w0 [] w_8 (Ent.own (Value.slice ya 1 yc) 5 1 1 (us .u8 [j % 256]) :: Ent.blk b12 51 #[v39] :: Ent.own v39 31 3 K39.length (rows K39) :: Ent.blk bk23 5 (ua .u8 [x22]) :: Ent.blk bk4 26 (ub sb) :: (nest 5 K39 ++ ([] : List Ent))) := H_12
        refine L_mv rfl ?_
        refine L_y rfl (Y_ext rfl rfl) ?_
        refine L_y rfl (Y_ext rfl rfl) ?_
        refine L_alloc rfl H_13 T_zero31 ?_; intro bk6 w_9 H_14
        refine L_str (ds := #[Value.int .i64 ((j : Nat) : Int), Value.int .i64 (-1), Value.slice ya 1 yc]) T_row31 H_14 (i := 0) rfl rfl rfl rfl rfl (allOne3 _ _ _ _ _) (l' := (Ent.blk bk6 31 #[Value.int .i64 ((j : Nat) : Int), Value.int .i64 (-1), Value.slice ya 1 yc] :: Ent.own (Value.slice ya 1 yc) 5 1 1 (us .u8 [j % 256]) :: Ent.blk b12 51 #[v39] :: Ent.own v39 31 3 K39.length (rows K39) :: Ent.blk bk23 5 (ua .u8 [x22]) :: Ent.blk bk4 26 (ub sb) :: (nest 5 K39 ++ ([] : List Ent)))) rfl ?_; intro w_10 H_15
        refine L_as rfl ?_
        refine L_nil ?_
        refine Th_n ?_
        refine W_seq ?_
        refine W_seq ?_
        refine W_quiet H_15 33 [Value.int .i64 ((Nt.tcode (keys K25) : Nat) : Int), Value.bool (((Nt.tcode (keys K25) : Nat) : Int) != ((0 : Nat) : Int)), Value.bool (((Nt.tcode (keys K25) : Nat) : Int) != ((0 : Nat) : Int)), Value.pointer (some ⟨bk6, 0, none⟩), Value.int .i64 ((j : Nat) : Int), Value.bool (decide (((j : Nat) : Int) < ((0 : Nat) : Int))), Value.bool (decide (((j : Nat) : Int) < ((0 : Nat) : Int))), Value.bool (decide (((j : Nat) : Int) < ((0 : Nat) : Int))), Value.pointer (some ⟨bk6, 0, none⟩), Value.int .i64 ((j : Nat) : Int), Value.int .i64 ((i : Nat) : Int), Value.bool (decide (((i : Nat) : Int) < ((j : Nat) : Int))), Value.bool (decide (((i : Nat) : Int) < ((j : Nat) : Int))), Value.bool (decide (((i : Nat) : Int) < ((j : Nat) : Int))), Value.pointer (some ⟨bk6, 0, none⟩), Value.int .i64 ((j : Nat) : Int), Value.pointer (some ⟨bk4, j, none⟩), Value.bool false, Value.bool false, Value.bool false, Value.pointer (some ⟨bk6, 2, none⟩), Value.slice ya 1 yc, Value.int .i64 ((1 : Nat) : Int), Value.bool (((1 : Nat) : Int) != ((1 : Nat) : Int)), Value.bool (((1 : Nat) : Int) != ((1 : Nat) : Int)), Value.bool (((1 : Nat) : Int) != ((1 : Nat) : Int)), Value.pointer (some ⟨bk6, 2, none⟩), Value.slice ya 1 yc, pl ya 0, Value.int .u8 ((j % 256 : Nat) : Int), Value.pointer (some ⟨bk6, 0, none⟩), Value.int .i64 ((j : Nat) : Int), Value.int .u8 ((j % 256 : Nat) : Int)] T_mixed (by kernel_rfl) ?_ ?_
        ·
          refine .plain rfl (Pl_y rfl (fun w hBw => rfl)) ?_
          refine .plain rfl (Pl_y rfl (fun w hBw => Y_neq (k := .i64) (a := ((Nt.tcode (keys K25) : Nat) : Int)) (b := ((0 : Nat) : Int)) rfl rfl)) ?_
          refine .plain rfl (Pl_y rfl (fun w hBw => rfl)) ?_
          refine .plain rfl (Pl_y (wE rfl (congrArg Value.bool ((by rw [show Nt.tcode (keys K25) = 0 from if_neg (by rw [kK25]; simp)]; rfl) : (((Nt.tcode (keys K25) : Nat) : Int) != ((0 : Nat) : Int)) = false))) (fun w hBw => Y_fld T_fld31_0 rfl rfl rfl)) ?_
          refine .plain rfl (Pl_y (wE rfl (congrArg Value.bool ((by rw [show Nt.tcode (keys K25) = 0 from if_neg (by rw [kK25]; simp)]; rfl) : (((Nt.tcode (keys K25) : Nat) : Int) != ((0 : Nat) : Int)) = false))) (fun w hBw => Y_ld T_scal3 hBw (i := 0) rfl rfl rfl)) ?_
          refine .plain rfl (Pl_y (wE rfl (congrArg Value.bool ((by rw [show Nt.tcode (keys K25) = 0 from if_neg (by rw [kK25]; simp)]; rfl) : (((Nt.tcode (keys K25) : Nat) : Int) != ((0 : Nat) : Int)) = false))) (fun w hBw => Y_lss (k := .i64) (a := ((j : Nat) : Int)) (b := ((0 : Nat) : Int)) rfl rfl)) ?_
          refine .plain rfl (Pl_y rfl (fun w hBw => Y_pickF (congrArg Value.bool ((by rw [show Nt.tcode (keys K25) = 0 from if_neg (by rw [kK25]; simp)]; rfl) : (((Nt.tcode (keys K25) : Nat) : Int) != ((0 : Nat) : Int)) = false)))) ?_
          refine .plain rfl (Pl_y rfl (fun w hBw => rfl)) ?_
          refine .plain rfl (Pl_y (wE rfl (congrArg Value.bool ((decide_eq_false (by omega)) : (decide (((j : Nat) : Int) < ((0 : Nat) : Int))) = false))) (fun w hBw => Y_fld T_fld31_0 rfl rfl rfl)) ?_
          refine .plain rfl (Pl_y (wE rfl (congrArg Value.bool ((decide_eq_false (by omega)) : (decide (((j : Nat) : Int) < ((0 : Nat) : Int))) = false))) (fun w hBw => Y_ld T_scal3 hBw (i := 0) rfl rfl rfl)) ?_
          refine .plain rfl (Pl_y (wE rfl (congrArg Value.bool ((decide_eq_false (by omega)) : (decide (((j : Nat) : Int) < ((0 : Nat) : Int))) = false))) (fun w hBw => congrArg (fun v => Result.ok (Next.value v) w) e_2_5)) ?_
          refine .plain rfl (Pl_y (wE rfl (congrArg Value.bool ((decide_eq_false (by omega)) : (decide (((j : Nat) : Int) < ((0 : Nat) : Int))) = false))) (fun w hBw => Y_gtr (k := .i64) (a := ((j : Nat) : Int)) (b := ((i : Nat) : Int)) rfl rfl)) ?_
          refine .plain rfl (Pl_y rfl (fun w hBw => Y_pickF (congrArg Value.bool ((decide_eq_false (by omega)) : (decide (((j : Nat) : Int) < ((0 : Nat) : Int))) = false)))) ?_
          refine .plain rfl (Pl_y rfl (fun w hBw => rfl)) ?_
          refine .plain rfl (Pl_y (wE rfl (congrArg Value.bool ((decide_eq_false (by omega)) : (decide (((i : Nat) : Int) < ((j : Nat) : Int))) = false))) (fun w hBw => Y_fld T_fld31_0 rfl rfl rfl)) ?_
          refine .plain rfl (Pl_y (wE rfl (congrArg Value.bool ((decide_eq_false (by omega)) : (decide (((i : Nat) : Int) < ((j : Nat) : Int))) = false))) (fun w hBw => Y_ld T_scal3 hBw (i := 0) rfl rfl rfl)) ?_
          refine .plain rfl (Pl_y (wE rfl (congrArg Value.bool ((decide_eq_false (by omega)) : (decide (((i : Nat) : Int) < ((j : Nat) : Int))) = false))) (fun w hBw => Y_idxA j j T_arr26 e_2_4 rfl rfl (by omega) (zz1 _))) ?_
          refine .plain rfl (Pl_y (wE rfl (congrArg Value.bool ((decide_eq_false (by omega)) : (decide (((i : Nat) : Int) < ((j : Nat) : Int))) = false))) (fun w hBw => Y_ld T_scal4 hBw (i := 5) rfl rfl (ub_get hsj))) ?_
          refine .plain rfl (Pl_y rfl (fun w hBw => Y_pickF (congrArg Value.bool ((decide_eq_false (by omega)) : (decide (((i : Nat) : Int) < ((j : Nat) : Int))) = false)))) ?_
          refine .plain rfl (Pl_y rfl (fun w hBw => rfl)) ?_
          refine .plain rfl (Pl_y (wE rfl rfl) (fun w hBw => Y_fld T_fld31_2 rfl rfl rfl)) ?_
          refine .plain rfl (Pl_y (wE rfl rfl) (fun w hBw => Y_ld T_scal29 hBw (i := 0) rfl rfl rfl)) ?_
          refine .plain rfl (Pl_y (wE rfl rfl) (fun w hBw => Y_lenS T_sl29 rfl)) ?_
          refine .plain rfl (Pl_y (wE rfl rfl) (fun w hBw => Y_neq (k := .i64) (a := ((1 : Nat) : Int)) (b := ((1 : Nat) : Int)) rfl rfl)) ?_
          refine .plain rfl (Pl_y rfl (fun w hBw => Y_pickF rfl)) ?_
          refine .plain rfl (Pl_y rfl (fun w hBw => rfl)) ?_
          refine .plain rfl (Pl_y (wE rfl (congrArg Value.bool (by decide : (((1 : Nat) : Int) != ((1 : Nat) : Int)) = false))) (fun w hBw => Y_fld T_fld31_2 rfl rfl rfl)) ?_
          refine .plain rfl (Pl_y (wE rfl (congrArg Value.bool (by decide : (((1 : Nat) : Int) != ((1 : Nat) : Int)) = false))) (fun w hBw => Y_ld T_scal29 hBw (i := 0) rfl rfl rfl)) ?_
          refine .plain rfl (Pl_y (wE rfl (congrArg Value.bool (by decide : (((1 : Nat) : Int) != ((1 : Nat) : Int)) = false))) (fun w hBw => Y_idxL (j := 0) T_sl29 (Sl.own hBw (i := 1) rfl) rfl rfl rfl (by decide))) ?_
          refine .plain rfl (Pl_y (wE rfl (congrArg Value.bool (by decide : (((1 : Nat) : Int) != ((1 : Nat) : Int)) = false))) (fun w hBw => Y_ldR T_scal5 (Sl.own hBw (i := 1) rfl).rd rfl rfl)) ?_
          refine .plain rfl (Pl_y (wE rfl (congrArg Value.bool (by decide : (((1 : Nat) : Int) != ((1 : Nat) : Int)) = false))) (fun w hBw => Y_fld T_fld31_0 rfl rfl rfl)) ?_
          refine .plain rfl (Pl_y (wE rfl (congrArg Value.bool (by decide : (((1 : Nat) : Int) != ((1 : Nat) : Int)) = false))) (fun w hBw => Y_ld T_scal3 hBw (i := 0) rfl rfl rfl)) ?_
          refine .plain rfl (Pl_y (wE rfl (congrArg Value.bool (by decide : (((1 : Nat) : Int) != ((1 : Nat) : Int)) = false))) (fun w hBw => Y_convI (k := .i64) (n := ((j : Nat) : Int)) (z := ((j % 256 : Nat) : Int)) T_some3 T_kind5 rfl (wrapM rfl rfl))) ?_
          exact .nil _
        ·
          intro e_3 w_11 hAg H_16
          have e_3_0 : e_3 0 = Value.slice a m c := (hAg 0 rfl).trans e_2_0
          have e_3_3 : e_3 3 = Value.pointer (some ⟨b12, 0, none⟩) := (hAg 3 rfl).trans e_2_3
          have e_3_4 : e_3 4 = Value.pointer (some ⟨bk4, 0, none⟩) := (hAg 4 rfl).trans e_2_4
          have e_3_5 : e_3 5 = Value.int .i64 ((i : Nat) : Int) := (hAg 5 rfl).trans e_2_5
          have e_3_6 : e_3 6 = Value.pointer (some ⟨bk6, 0, none⟩) := (hAg 6 rfl).trans rfl
          have e_3_67 : e_3 67 = Value.bool (((1 : Nat) : Int) != ((1 : Nat) : Int)) := (hAg 67 rfl).trans rfl
          obtain ⟨x71, hx71⟩ : ∃ z_ : Nat, z_ = j % 256 := ⟨_, rfl⟩
          have rx71 : x71 < 256 := by rw [hx71]; exact (Nat.mod_lt _ (by decide))
          have e_3_71 : e_3 71 = Value.int .u8 ((x71 : Nat) : Int) := (hAg 71 rfl).trans (by rw [hx71]; exact rfl)
          obtain ⟨x74, hx74⟩ : ∃ z_ : Nat, z_ = j % 256 := ⟨_, rfl⟩
          have rx74 : x74 < 256 := by rw [hx74]; exact (Nat.mod_lt _ (by decide))
          have e_3_74 : e_3 74 = Value.int .u8 ((x74 : Nat) : Int) := (hAg 74 rfl).trans (by rw [hx74]; exact rfl)
          refine G_y (wE rfl (e_3_67.trans (congrArg Value.bool (by decide : (((1 : Nat) : Int) != ((1 : Nat) : Int)) = false)))) rfl (Y_neq (k := .u8) (a := ((x71 : Nat) : Int)) (b := ((x74 : Nat) : Int)) e_3_71 e_3_74) ?_
          refine L_y rfl (Y_pickF (e_3_67.trans (congrArg Value.bool (by decide : (((1 : Nat) : Int) != ((1 : Nat) : Int)) = false)))) ?_
          refine L_mv rfl ?_
          refine G_y (wE rfl (congrArg Value.bool ((by simp [hx71, hx74]) : (((x71 : Nat) : Int) != ((x74 : Nat) : Int)) = false))) rfl (Y_fld T_fld31_1 rfl e_3_6 rfl) ?_
          refine G_y (wE rfl (congrArg Value.bool ((by simp [hx71, hx74]) : (((x71 : Nat) : Int) != ((x74 : Nat) : Int)) = false))) rfl (Y_ld T_scal3 H_16 (i := 0) rfl rfl rfl) ?_
          refine G_y (wE rfl (congrArg Value.bool ((by simp [hx71, hx74]) : (((x71 : Nat) : Int) != ((x74 : Nat) : Int)) = false))) rfl (Y_neq (k := .i64) (a := (-1)) (b := (-1)) rfl rfl) ?_
          refine L_y rfl (Y_pickF (congrArg Value.bool ((by simp [hx71, hx74]) : (((x71 : Nat) : Int) != ((x74 : Nat) : Int)) = false))) ?_
          refine L_nil ?_
          refine Th_n ?_
          refine W_false (congrArg Value.bool (by decide : ((-1) != (-1)) = false)) ?_
          refine W_skip ?_
          refine Th_n ?_
          refine W_rg ?_
          refine L_y rfl (Y_fld T_fld31_0 rfl e_3_6 rfl) ?_
          refine L_y rfl (Y_ld T_scal3 H_16 (i := 0) rfl rfl rfl) ?_
          refine L_y rfl (Y_idxA j j T_arr26 e_3_4 rfl rfl (by omega) (zz1 _)) ?_
          refine L_st (v := Value.bool true) T_scal4 H_16 (i := 5) rfl rfl rfl rfl (by rw [ub_size]; omega) (l' := (Ent.blk bk6 31 #[Value.int .i64 ((j : Nat) : Int), Value.int .i64 (-1), Value.slice ya 1 yc] :: Ent.own (Value.slice ya 1 yc) 5 1 1 (us .u8 [j % 256]) :: Ent.blk b12 51 #[v39] :: Ent.own v39 31 3 K39.length (rows K39) :: Ent.blk bk23 5 (ua .u8 [x22]) :: Ent.blk bk4 26 (ub (sb.set j true)) :: (nest 5 K39 ++ ([] : List Ent)))) (by rw [ub_set]; rfl) ?_; intro w_12 H_17
          refine L_nil ?_
          refine InB_n ?_
          refine Th_n ?_
          refine W_rg ?_
          refine L_mv rfl ?_
          refine L_y rfl (Y_add (k := .i64) (a := ((i : Nat) : Int)) (b := ((1 : Nat) : Int)) (z := ((i + 1 : Nat) : Int)) e_3_5 rfl (wi (by omega))) ?_
          refine L_as rfl ?_
          refine L_nil ?_
          refine Th_n ⟨_, ?_, (i + 1), _, _, _, rfl, e_3_0, e_3_3, e_3_4, rfl, ((((((H_17.erase 0).erase 0).erase 2).pull 2 rfl).pull 2 rfl).pull 2 rfl), (by assumption), (by assumption), (by omega)⟩
          omega
    ·
      have hc_2' := of_decide_eq_false hc_2
      refine W_exit ?_
      refine Th_x ?_
      refine Th_x ?_
      refine InB_hit ?_
      refine Th_n ?_
      refine W_seq ?_
      refine W_rg ?_
      refine L_callv rfl rfl T_en7 (A0) (known_n _) ?_
      rintro _ w_13 ⟨rfl, hkp_2⟩; refine ⟨_, rfl, ?_⟩; have H_18 := H_6.keep hkp_2
      refine L_as rfl ?_
      refine L_nil ?_
      refine Th_n ?_
      refine W_ret ?_
      refine P_ret (vs := [Value.bool true]) (v := Value.bool true) rfl (.tmp rfl (Res.nil)) rfl ?_
      refine ⟨?_, H_18.nil_⟩
      rfl
end Go.Proofs.Ytbfmodjaahfbjaa
