/- Walks of layers 6, 17, 21, 22: law plays. Printed by journal.py. -/
import Derived.Test.YtgmmifpflllkfaaJ5
import Derived.Test.YtgmmifpflllkfaaJournMath5
namespace Go.Proofs.Ytgmmifpflllkfaa
open Go.Ev
set_option maxRecDepth 100000
theorem T_en9 : enters Try.prog 9 = true := by kernel_rfl
theorem T_fld56_1 : fldOf Try.prog 56 1 = some (1, 1) := by kernel_rfl
theorem T_scal33 : scal Try.prog 33 = true := by kernel_rfl
theorem T_fld56_2 : fldOf Try.prog 56 2 = some (2, 1) := by kernel_rfl
theorem T_fld56_3 : fldOf Try.prog 56 3 = some (3, 1) := by kernel_rfl
theorem T_fld56_0 : fldOf Try.prog 56 0 = some (0, 1) := by kernel_rfl
theorem T_fld56_4 : fldOf Try.prog 56 4 = some (4, 1) := by kernel_rfl
theorem T_en24 : enters Try.prog 24 = true := by kernel_rfl
theorem T_sl51 : slOf Try.prog 51 = some (53, 3) := by kernel_rfl
theorem T_fld53_2 : fldOf Try.prog 53 2 = some (2, 1) := by kernel_rfl
theorem T_en23 : enters Try.prog 23 = true := by kernel_rfl
theorem T_fld53_0 : fldOf Try.prog 53 0 = some (0, 1) := by kernel_rfl
theorem T_en25 : enters Try.prog 25 = true := by kernel_rfl
theorem T_fld53_1 : fldOf Try.prog 53 1 = some (1, 1) := by kernel_rfl
theorem jholds {w0 w : World} {X : List Ent} {bx bd bj : Nat} {sa : Option Addr} {sc : Nat} {v vm : Value} {dn : Bool} {S K : List Lt} (okS : Jn.ok (keys S)) (hsn : ∀ x ∈ S, Seen w0 X .u8 x.a x.l.length x.c x.l) (hKS : keys K = keys S) (H : Hp w0 [] w (Ent.blk bx 56 #[Value.pointer (some ⟨bd, 0, none⟩), Value.pointer (some ⟨bj, 0, none⟩), Value.slice sa S.length sc, vm, Value.bool dn] :: Ent.own (Value.slice sa S.length sc) 22 1 S.length (rows S) :: Ent.blk bj 47 #[Value.pointer (some ⟨bd, 0, none⟩), v] :: Ent.own v 22 1 K.length (rows K) :: (nest 5 K ++ X))) :
    Calls Try.prog 24 #[Value.pointer (some ⟨bx, 0, none⟩)] w (fun r_ w' => ∃ v', r_ = .returned (.bool true) ∧ Hp w0 [] w' (Ent.blk bx 56 #[Value.pointer (some ⟨bd, 0, none⟩), Value.pointer (some ⟨bj, 0, none⟩), Value.slice sa S.length sc, Value.slice none 0 0, Value.bool dn] :: Ent.own (Value.slice sa S.length sc) 22 1 S.length (rows S) :: Ent.blk bj 47 #[Value.pointer (some ⟨bd, 0, none⟩), v'] :: Ent.own v' 22 1 K.length (rows K) :: (nest 5 K ++ X))) := by
  have okK : Jn.ok (keys K) := by rw [hKS]; exact okS
  have hKSl : K.length = S.length := by rw [← keys_len, hKS, keys_len]
  have hSl := okS.len
  rw [keys_len] at hSl
  refine F_in Try.func24 rfl Try.ntmps24 rfl ?_
  intro e he
  have p_0 : e 0 = Value.pointer (some ⟨bx, 0, none⟩) := he 0 _ rfl
  refine W_seq ?_
  refine W_rg ?_
  refine L_as rfl ?_
  refine L_nil ?_
  refine Th_n ?_
  refine W_seq ?_
  refine W_rg ?_
  refine L_mv rfl ?_
  refine L_y rfl (Y_nil p_0) ?_
  refine L_y rfl (Y_fld T_fld56_1 rfl rfl rfl) ?_
  refine L_y rfl (Y_ld T_scal33 H (i := 0) rfl rfl rfl) ?_
  have H_2 : Hp w0 [] w (Ent.blk bj 47 #[Value.pointer (some ⟨bd, 0, none⟩), v] :: Ent.own v 22 1 K.length (rows K) :: Ent.blk bx 56 #[Value.pointer (some ⟨bd, 0, none⟩), Value.pointer (some ⟨bj, 0, none⟩), Value.slice sa S.length sc, vm, Value.bool dn] :: Ent.own (Value.slice sa S.length sc) 22 1 S.length (rows S) :: (nest 5 K ++ X)) := ((H.pull 3 rfl).pull 3 rfl)
  refine L_callv rfl rfl T_en17 (A1 rfl) (jLen H_2) ?_
  rintro _ w_2 ⟨rfl, hkp⟩; refine ⟨_, rfl, ?_⟩; have H_3 := H.keep hkp
  refine L_as rfl ?_
  refine L_nil ?_
  refine Th_n ?_
  refine W_seq ?_
  refine W_rg ?_
  refine L_mv rfl ?_
  refine L_y rfl (Y_nil p_0) ?_
  refine L_y rfl (Y_fld T_fld56_2 rfl rfl rfl) ?_
  refine L_y rfl (Y_ld T_scal24 H_3 (i := 0) rfl rfl rfl) ?_
  refine L_as rfl ?_
  refine L_nil ?_
  refine Th_n ?_
  refine W_seq ?_
  refine W_seq ?_
  refine W_rg ?_
  refine L_mv rfl ?_
  refine L_mv rfl ?_
  refine L_y rfl (Y_nil p_0) ?_
  refine L_y rfl (Y_fld T_fld56_2 rfl rfl rfl) ?_
  refine L_y rfl (Y_ld T_scal24 H_3 (i := 0) rfl rfl rfl) ?_
  refine L_y rfl (Y_lenS T_sl24 rfl) ?_
  refine L_y rfl (Y_add (k := .i64) (a := ((S.length : Nat) : Int)) (b := ((1 : Nat) : Int)) (z := ((S.length + 1 : Nat) : Int)) rfl rfl (wi (by omega))) ?_
  refine L_y rfl (Y_eql (k := .i64) (a := ((K.length : Nat) : Int)) (b := ((S.length + 1 : Nat) : Int)) rfl rfl) ?_
  refine L_mv rfl ?_
  refine G_no (wN (b := true) rfl (congrArg Value.bool ((beq_eq_false_iff_ne.2 (by omega)) : (((K.length : Nat) : Int) == ((S.length + 1 : Nat) : Int)) = false))) rfl ?_
  refine G_no (wN (b := true) rfl (congrArg Value.bool ((beq_eq_false_iff_ne.2 (by omega)) : (((K.length : Nat) : Int) == ((S.length + 1 : Nat) : Int)) = false))) rfl ?_
  refine G_no (wN (b := true) rfl (congrArg Value.bool ((beq_eq_false_iff_ne.2 (by omega)) : (((K.length : Nat) : Int) == ((S.length + 1 : Nat) : Int)) = false))) rfl ?_
  refine G_no (wN (b := true) rfl (congrArg Value.bool ((beq_eq_false_iff_ne.2 (by omega)) : (((K.length : Nat) : Int) == ((S.length + 1 : Nat) : Int)) = false))) rfl ?_
  refine G_no (wN (b := true) rfl (congrArg Value.bool ((beq_eq_false_iff_ne.2 (by omega)) : (((K.length : Nat) : Int) == ((S.length + 1 : Nat) : Int)) = false))) rfl ?_
  refine G_no (wN (b := true) rfl (congrArg Value.bool ((beq_eq_false_iff_ne.2 (by omega)) : (((K.length : Nat) : Int) == ((S.length + 1 : Nat) : Int)) = false))) rfl ?_
  refine L_y rfl (Y_pickF (congrArg Value.bool ((beq_eq_false_iff_ne.2 (by omega)) : (((K.length : Nat) : Int) == ((S.length + 1 : Nat) : Int)) = false))) ?_
  refine L_nil ?_
  refine Th_n ?_
  refine W_false rfl ?_
  refine W_skip ?_
  refine Th_n ?_
  refine W_seq ?_
  refine W_seq ?_
  refine W_rg ?_
  refine L_mv rfl ?_
  refine L_mv rfl ?_
  refine L_y rfl (Y_lenS T_sl24 rfl) ?_
  refine L_y rfl (Y_neq (k := .i64) (a := ((K.length : Nat) : Int)) (b := ((S.length : Nat) : Int)) rfl rfl) ?_
  refine L_nil ?_
  refine Th_n ?_
  refine W_false (congrArg Value.bool ((by rw [hKSl]; simp) : (((K.length : Nat) : Int) != ((S.length : Nat) : Int)) = false)) ?_
  refine W_skip ?_
  refine Th_n ?_
  refine W_seq ?_
  refine W_seq ?_
  refine W_rg ?_
  refine L_as rfl ?_
  refine L_nil ?_
  refine Th_n ?_
  refine W_block ?_
  refine W_loop (fun mu_ e w => ∃ i : Nat, ∃ v1 : Value, mu_ = K.length - i ∧ e 0 = Value.pointer (some ⟨bx, 0, none⟩) ∧ e 3 = Value.int .i64 ((K.length : Nat) : Int) ∧ e 4 = Value.slice sa S.length sc ∧ e 5 = Value.int .i64 ((i : Nat) : Int) ∧ Hp w0 [] w (Ent.blk bx 56 #[Value.pointer (some ⟨bd, 0, none⟩), Value.pointer (some ⟨bj, 0, none⟩), Value.slice sa S.length sc, vm, Value.bool dn] :: Ent.own (Value.slice sa S.length sc) 22 1 S.length (rows S) :: Ent.blk bj 47 #[Value.pointer (some ⟨bd, 0, none⟩), v1] :: Ent.own v1 22 1 K.length (rows K) :: (nest 5 K ++ X)) ∧ i ≤ K.length) _ ⟨0, _, rfl, p_0, rfl, rfl, rfl, H_3, (Nat.zero_le _)⟩ ?_
  rintro mu_ e_2 w_3 ⟨i, v1, rfl, e_2_0, e_2_3, e_2_4, e_2_5, H_4, hi⟩
  refine W_seq ?_
  refine W_seq ?_
  refine W_rg ?_
  refine L_mv rfl ?_
  refine L_mv rfl ?_
  refine L_y rfl (Y_lss (k := .i64) (a := ((i : Nat) : Int)) (b := ((K.length : Nat) : Int)) e_2_5 e_2_3) ?_
  refine L_nil ?_
  refine Th_n ?_
  refine W_cond (b := (decide (((i : Nat) : Int) < ((K.length : Nat) : Int)))) rfl (fun hc => ?_) (fun hc => ?_)
  ·
    have hc' := of_decide_eq_true hc
    refine W_skip ?_
    refine Th_n ?_
    refine W_seq ?_
    refine W_block ?_
    refine W_seq ?_
    refine W_rg ?_
    refine L_mv rfl ?_
    refine L_y rfl (Y_nil e_2_0) ?_
    refine L_y rfl (Y_fld T_fld56_1 rfl rfl rfl) ?_
    refine L_y rfl (Y_ld T_scal33 H_4 (i := 0) rfl rfl rfl) ?_
    refine L_mv rfl ?_
    have H_5 : Hp w0 [] w_3 (Ent.blk bj 47 #[Value.pointer (some ⟨bd, 0, none⟩), v1] :: Ent.own v1 22 1 K.length (rows K) :: Ent.blk bx 56 #[Value.pointer (some ⟨bd, 0, none⟩), Value.pointer (some ⟨bj, 0, none⟩), Value.slice sa S.length sc, vm, Value.bool dn] :: Ent.own (Value.slice sa S.length sc) 22 1 S.length (rows S) :: (nest 5 K ++ X)) := ((H_4.pull 3 rfl).pull 3 rfl)
    have Hc : Hp w0 [] w_3 (Ent.blk bj 47 #[Value.pointer (some ⟨bd, 0, none⟩), v1] :: Ent.own v1 22 1 K.length (rows K) :: (nest 5 K ++ (Ent.blk bx 56 #[Value.pointer (some ⟨bd, 0, none⟩), Value.pointer (some ⟨bj, 0, none⟩), Value.slice sa S.length sc, vm, Value.bool dn] :: Ent.own (Value.slice sa S.length sc) 22 1 S.length (rows S) :: X))) := Hp.chunk [Ent.blk bj 47 #[Value.pointer (some ⟨bd, 0, none⟩), v1], Ent.own v1 22 1 K.length (rows K)] [Ent.blk bx 56 #[Value.pointer (some ⟨bd, 0, none⟩), Value.pointer (some ⟨bj, 0, none⟩), Value.slice sa S.length sc, vm, Value.bool dn], Ent.own (Value.slice sa S.length sc) 22 1 S.length (rows S)] (nest 5 K) X H_5
    refine L_callv rfl rfl T_en18 (A2 rfl e_2_5) (jRecord (K := K) ((i : Nat) : Int) okK Hc) ?_
    rintro _ w_4 ⟨a61, c61, v61, rfl, H_6⟩; refine ⟨_, rfl, ?_⟩
    have H_7 : Hp w0 [] w_4 (Ent.own (Value.slice a61 ((Jn.at_ (keys K) ((i : Nat) : Int)).length) c61) 5 1 ((Jn.at_ (keys K) ((i : Nat) : Int)).length) (us .u8 (Jn.at_ (keys K) ((i : Nat) : Int))) :: Ent.blk bj 47 #[Value.pointer (some ⟨bd, 0, none⟩), v61] :: Ent.own v61 22 1 K.length (rows K) :: Ent.blk bx 56 #[Value.pointer (some ⟨bd, 0, none⟩), Value.pointer (some ⟨bj, 0, none⟩), Value.slice sa S.length sc, vm, Value.bool dn] :: Ent.own (Value.slice sa S.length sc) 22 1 S.length (rows S) :: (nest 5 K ++ X)) := Hp.chunk [Ent.own (Value.slice a61 ((Jn.at_ (keys K) ((i : Nat) : Int)).length) c61) 5 1 ((Jn.at_ (keys K) ((i : Nat) : Int)).length) (us .u8 (Jn.at_ (keys K) ((i : Nat) : Int))), Ent.blk bj 47 #[Value.pointer (some ⟨bd, 0, none⟩), v61], Ent.own v61 22 1 K.length (rows K)] (nest 5 K) [Ent.blk bx 56 #[Value.pointer (some ⟨bd, 0, none⟩), Value.pointer (some ⟨bj, 0, none⟩), Value.slice sa S.length sc, vm, Value.bool dn], Ent.own (Value.slice sa S.length sc) 22 1 S.length (rows S)] X H_6
    refine L_mv rfl ?_
    refine L_y rfl (Y_ext rfl rfl) ?_
    refine L_y rfl (Y_ext rfl rfl) ?_
    refine L_as rfl ?_
    refine L_as rfl ?_
    refine L_nil ?_
    refine Th_n ?_
    refine W_seq ?_
    refine W_seq ?_
    obtain ⟨el71, hel71⟩ := (Ts.own H_7 (i := 4) rfl).tab.at (j := i) (by omega)
    have mel71 := List.mem_of_getElem? hel71
    have oel71 := (okS).lt _ (keys_mem mel71)
    have nel71 : el71.l.length ≤ 60000 := oel71.2
    refine W_quiet H_7 10 [Value.int .i64 ((Jn.rcode (keys K) ((i : Nat) : Int) : Nat) : Int), Value.bool (((Jn.rcode (keys K) ((i : Nat) : Int) : Nat) : Int) != ((0 : Nat) : Int)), Value.bool (((Jn.rcode (keys K) ((i : Nat) : Int) : Nat) : Int) != ((0 : Nat) : Int)), Value.slice a61 ((Jn.at_ (keys K) ((i : Nat) : Int)).length) c61, Value.string (bs (Jn.at_ (keys K) ((i : Nat) : Int))), Value.slice sa S.length sc, Value.int .i64 ((i : Nat) : Int), pl sa (i * 1 + 0), Value.slice el71.a el71.l.length el71.c, Value.string (bs el71.l)] T_mixed (by kernel_rfl) ?_ ?_
    ·
      refine .plain rfl (Pl_y rfl (fun w hBw => rfl)) ?_
      refine .plain rfl (Pl_y rfl (fun w hBw => Y_neq (k := .i64) (a := ((Jn.rcode (keys K) ((i : Nat) : Int) : Nat) : Int)) (b := ((0 : Nat) : Int)) rfl rfl)) ?_
      refine .plain rfl (Pl_y rfl (fun w hBw => rfl)) ?_
      refine .plain rfl (Pl_y (wE rfl (congrArg Value.bool ((by rw [Jn.rcode_lt (by rw [keys_len]; omega)]; rfl) : (((Jn.rcode (keys K) ((i : Nat) : Int) : Nat) : Int) != ((0 : Nat) : Int)) = false))) (fun w hBw => rfl)) ?_
      refine .plain rfl (Pl_y (wE rfl (congrArg Value.bool ((by rw [Jn.rcode_lt (by rw [keys_len]; omega)]; rfl) : (((Jn.rcode (keys K) ((i : Nat) : Int) : Nat) : Int) != ((0 : Nat) : Int)) = false))) (fun w hBw => Y_strL Try.underlying22 Try.underlying5 Try.underlying9 rfl (Sl.own hBw (i := 0) rfl))) ?_
      refine .plain rfl (Pl_y (wE rfl (congrArg Value.bool ((by rw [Jn.rcode_lt (by rw [keys_len]; omega)]; rfl) : (((Jn.rcode (keys K) ((i : Nat) : Int) : Nat) : Int) != ((0 : Nat) : Int)) = false))) (fun w hBw => congrArg (fun v => Result.ok (Next.value v) w) e_2_4)) ?_
      refine .plain rfl (Pl_y (wE rfl (congrArg Value.bool ((by rw [Jn.rcode_lt (by rw [keys_len]; omega)]; rfl) : (((Jn.rcode (keys K) ((i : Nat) : Int) : Nat) : Int) != ((0 : Nat) : Int)) = false))) (fun w hBw => congrArg (fun v => Result.ok (Next.value v) w) e_2_5)) ?_
      refine .plain rfl (Pl_y (wE rfl (congrArg Value.bool ((by rw [Jn.rcode_lt (by rw [keys_len]; omega)]; rfl) : (((Jn.rcode (keys K) ((i : Nat) : Int) : Nat) : Int) != ((0 : Nat) : Int)) = false))) (fun w hBw => Y_idxT (j := i) T_sl24 (Ts.own hBw (i := 4) rfl).tab hel71 rfl rfl rfl)) ?_
      refine .plain rfl (Pl_y (wE rfl (congrArg Value.bool ((by rw [Jn.rcode_lt (by rw [keys_len]; omega)]; rfl) : (((Jn.rcode (keys K) ((i : Nat) : Int) : Nat) : Int) != ((0 : Nat) : Int)) = false))) (fun w hBw => Y_ldT (j := i) (off := 0) T_scal22 (Ts.own hBw (i := 4) rfl).tab hel71 rfl rfl rfl)) ?_
      refine .plain rfl (Pl_y (wE rfl (congrArg Value.bool ((by rw [Jn.rcode_lt (by rw [keys_len]; omega)]; rfl) : (((Jn.rcode (keys K) ((i : Nat) : Int) : Nat) : Int) != ((0 : Nat) : Int)) = false))) (fun w hBw => Y_strL Try.underlying22 Try.underlying5 Try.underlying9 rfl ((hsn _ mel71).hp hBw (fun _ h_ => .tail _ (.tail _ (.tail _ (.tail _ (.tail _ (List.mem_append_right _ (h_)))))))))) ?_
      exact .nil _
    ·
      intro e_3 w_5 hAg H_8
      have e_3_0 : e_3 0 = Value.pointer (some ⟨bx, 0, none⟩) := (hAg 0 rfl).trans e_2_0
      have e_3_3 : e_3 3 = Value.int .i64 ((K.length : Nat) : Int) := (hAg 3 rfl).trans e_2_3
      have e_3_4 : e_3 4 = Value.slice sa S.length sc := (hAg 4 rfl).trans e_2_4
      have e_3_5 : e_3 5 = Value.int .i64 ((i : Nat) : Int) := (hAg 5 rfl).trans e_2_5
      have e_3_6 : e_3 6 = Value.slice a61 ((Jn.at_ (keys K) ((i : Nat) : Int)).length) c61 := (hAg 6 rfl).trans rfl
      have e_3_66 : e_3 66 = Value.bool (((Jn.rcode (keys K) ((i : Nat) : Int) : Nat) : Int) != ((0 : Nat) : Int)) := (hAg 66 rfl).trans rfl
      have e_3_68 : e_3 68 = Value.string (bs (Jn.at_ (keys K) ((i : Nat) : Int))) := (hAg 68 rfl).trans rfl
      have e_3_73 : e_3 73 = Value.string (bs el71.l) := (hAg 73 rfl).trans rfl
      refine G_y (wE rfl (e_3_66.trans (congrArg Value.bool ((by rw [Jn.rcode_lt (by rw [keys_len]; omega)]; rfl) : (((Jn.rcode (keys K) ((i : Nat) : Int) : Nat) : Int) != ((0 : Nat) : Int)) = false)))) rfl (Y_neT (l1 := Jn.at_ (keys K) ((i : Nat) : Int)) (l2 := el71.l) Try.underlying9 (Jn.at_lt okK _).1 oel71.1 e_3_68 e_3_73) ?_
      refine L_y rfl (Y_pickF (e_3_66.trans (congrArg Value.bool ((by rw [Jn.rcode_lt (by rw [keys_len]; omega)]; rfl) : (((Jn.rcode (keys K) ((i : Nat) : Int) : Nat) : Int) != ((0 : Nat) : Int)) = false)))) ?_
      refine L_nil ?_
      refine Th_n ?_
      refine W_false (congrArg Value.bool ((by rw [(Jn.at_in (x := el71.l) (by rw [hKS]; exact keys_get hel71)).1]; simp) : (!decide (Jn.at_ (keys K) ((i : Nat) : Int) = el71.l)) = false)) ?_
      refine W_skip ?_
      refine Th_n ?_
      refine W_seq ?_
      refine W_rg ?_
      refine L_as rfl ?_
      refine L_nil ?_
      refine Th_n ?_
      refine W_block ?_
      have hat6 := (Jn.at_lt okK ((i : Nat) : Int)).2
      refine W_loop (fun mu_ e w => ∃ k : Nat, ∃ y8 : List Nat, mu_ = (Jn.at_ (keys K) ((i : Nat) : Int)).length - k ∧ e 0 = Value.pointer (some ⟨bx, 0, none⟩) ∧ e 3 = Value.int .i64 ((K.length : Nat) : Int) ∧ e 4 = Value.slice sa S.length sc ∧ e 5 = Value.int .i64 ((i : Nat) : Int) ∧ e 6 = Value.slice a61 ((Jn.at_ (keys K) ((i : Nat) : Int)).length) c61 ∧ e 8 = Value.int .i64 ((k : Nat) : Int) ∧ Hp w0 [] w (Ent.own (Value.slice a61 ((Jn.at_ (keys K) ((i : Nat) : Int)).length) c61) 5 1 ((Jn.at_ (keys K) ((i : Nat) : Int)).length) (us .u8 y8) :: Ent.blk bj 47 #[Value.pointer (some ⟨bd, 0, none⟩), v61] :: Ent.own v61 22 1 K.length (rows K) :: Ent.blk bx 56 #[Value.pointer (some ⟨bd, 0, none⟩), Value.pointer (some ⟨bj, 0, none⟩), Value.slice sa S.length sc, vm, Value.bool dn] :: Ent.own (Value.slice sa S.length sc) 22 1 S.length (rows S) :: (nest 5 K ++ X)) ∧ (∀ u ∈ y8, u < 256) ∧ k ≤ (Jn.at_ (keys K) ((i : Nat) : Int)).length) _ ⟨0, Jn.at_ (keys K) ((i : Nat) : Int), rfl, e_3_0, e_3_3, e_3_4, e_3_5, e_3_6, rfl, H_8, (Jn.at_lt okK ((i : Nat) : Int)).1, (Nat.zero_le _)⟩ ?_
      rintro mu_ e_4 w_6 ⟨k, y8, rfl, e_4_0, e_4_3, e_4_4, e_4_5, e_4_6, e_4_8, H_9, hy8, hk⟩
      refine W_seq ?_
      refine W_seq ?_
      refine W_rg ?_
      refine L_mv rfl ?_
      refine L_mv rfl ?_
      refine L_y rfl (Y_lenS T_sl22 e_4_6) ?_
      refine L_y rfl (Y_lss (k := .i64) (a := ((k : Nat) : Int)) (b := (((Jn.at_ (keys K) ((i : Nat) : Int)).length : Nat) : Int)) e_4_8 rfl) ?_
      refine L_nil ?_
      refine Th_n ?_
      refine W_cond (b := (decide (((k : Nat) : Int) < (((Jn.at_ (keys K) ((i : Nat) : Int)).length : Nat) : Int)))) rfl (fun hc_2 => ?_) (fun hc_2 => ?_)
      ·
        have hc_2' := of_decide_eq_true hc_2
        refine W_skip ?_
        refine Th_n ?_
        refine W_seq ?_
        refine W_block ?_
        refine W_rg ?_
        refine L_mv rfl ?_
        refine L_mv rfl ?_
        refine L_y rfl (Y_idxL (j := k) T_sl22 (Sl.own H_9 (i := 0) rfl) e_4_6 e_4_8 rfl (by omega)) ?_
        obtain ⟨x85, hx85⟩ : ∃ u, y8[k]? = some u := ⟨_, List.getElem?_eq_getElem (by have := (⟨(Sl.own H_9 (i := 0) rfl).len, hy8⟩ : Wd ((Jn.at_ (keys K) ((i : Nat) : Int)).length) 256 y8).1; omega)⟩
        have rx85 := (⟨(Sl.own H_9 (i := 0) rfl).len, hy8⟩ : Wd ((Jn.at_ (keys K) ((i : Nat) : Int)).length) 256 y8).2 _ (List.mem_of_getElem? hx85)
        refine L_y rfl (Y_ldR T_scal5 (Sl.own H_9 (i := 0) rfl).rd rfl (hx85)) ?_
        refine L_yr (z := (x85 + 1) % 256) (m := 256) rfl (Yu_add (k := .u8) rfl x85 1 rfl rfl) (Nat.mod_lt _ (by decide)) ?_; intro x86 hx86 rx86
        refine L_y rfl (Y_idxL (j := k) T_sl22 (Sl.own H_9 (i := 0) rfl) e_4_6 e_4_8 rfl (by omega)) ?_
        refine L_stR T_scal5 H_9 (i := 0) rfl rfl (by omega) rfl ?_; intro w_7 Hx
        have H_10 : Hp w0 [] w_7 (Ent.own (Value.slice a61 ((Jn.at_ (keys K) ((i : Nat) : Int)).length) c61) 5 1 ((Jn.at_ (keys K) ((i : Nat) : Int)).length) (us .u8 (y8.set k x86)) :: Ent.blk bj 47 #[Value.pointer (some ⟨bd, 0, none⟩), v61] :: Ent.own v61 22 1 K.length (rows K) :: Ent.blk bx 56 #[Value.pointer (some ⟨bd, 0, none⟩), Value.pointer (some ⟨bj, 0, none⟩), Value.slice sa S.length sc, vm, Value.bool dn] :: Ent.own (Value.slice sa S.length sc) 22 1 S.length (rows S) :: (nest 5 K ++ X)) := Hx
        refine L_nil ?_
        refine InB_n ?_
        refine Th_n ?_
        refine W_rg ?_
        refine L_mv rfl ?_
        refine L_y rfl (Y_add (k := .i64) (a := ((k : Nat) : Int)) (b := ((1 : Nat) : Int)) (z := ((k + 1 : Nat) : Int)) e_4_8 rfl (wi (by omega))) ?_
        refine L_as rfl ?_
        refine L_nil ?_
        refine Th_n ⟨_, ?_, (k + 1), _, rfl, e_4_0, e_4_3, e_4_4, e_4_5, e_4_6, rfl, H_10, (set_lt hy8 rx86), (by omega)⟩
        omega
      ·
        have hc_2' := of_decide_eq_false hc_2
        refine W_exit ?_
        refine Th_x ?_
        refine Th_x ?_
        refine InB_hit ?_
        refine InB_n ?_
        refine Th_n ?_
        refine W_rg ?_
        refine L_mv rfl ?_
        refine L_y rfl (Y_add (k := .i64) (a := ((i : Nat) : Int)) (b := ((1 : Nat) : Int)) (z := ((i + 1 : Nat) : Int)) e_4_5 rfl (wi (by omega))) ?_
        refine L_as rfl ?_
        refine L_nil ?_
        refine Th_n ⟨_, ?_, (i + 1), _, rfl, e_4_0, e_4_3, e_4_4, rfl, (((((H_9.erase 0).pull 1 rfl).pull 1 rfl).pull 3 rfl).pull 3 rfl), (by omega)⟩
        omega
  ·
    have hc' := of_decide_eq_false hc
    refine W_exit ?_
    refine Th_x ?_
    refine Th_x ?_
    refine InB_hit ?_
    refine Th_n ?_
    refine W_seq ?_
    refine W_rg ?_
    refine L_mv rfl ?_
    refine L_mv rfl ?_
    refine L_y rfl (Y_nil e_2_0) ?_
    refine L_y rfl (Y_fld T_fld56_2 rfl rfl rfl) ?_
    refine L_st (v := Value.slice sa S.length sc) T_scal24 H_4 (i := 0) rfl rfl e_2_4 rfl (Nat.le_of_ble_eq_true rfl) (l' := (Ent.blk bx 56 #[Value.pointer (some ⟨bd, 0, none⟩), Value.pointer (some ⟨bj, 0, none⟩), Value.slice sa S.length sc, vm, Value.bool dn] :: Ent.own (Value.slice sa S.length sc) 22 1 S.length (rows S) :: Ent.blk bj 47 #[Value.pointer (some ⟨bd, 0, none⟩), v1] :: Ent.own v1 22 1 K.length (rows K) :: (nest 5 K ++ X))) rfl ?_; intro w_8 H_11
    refine L_nil ?_
    refine Th_n ?_
    refine W_seq ?_
    refine W_rg ?_
    refine L_mv rfl ?_
    refine L_y rfl (Y_nil e_2_0) ?_
    refine L_y rfl (Y_fld T_fld56_3 rfl rfl rfl) ?_
    refine L_st (v := Value.slice none 0 0) T_scal22 H_11 (i := 0) rfl rfl rfl rfl (Nat.le_of_ble_eq_true rfl) (l' := (Ent.blk bx 56 #[Value.pointer (some ⟨bd, 0, none⟩), Value.pointer (some ⟨bj, 0, none⟩), Value.slice sa S.length sc, Value.slice none 0 0, Value.bool dn] :: Ent.own (Value.slice sa S.length sc) 22 1 S.length (rows S) :: Ent.blk bj 47 #[Value.pointer (some ⟨bd, 0, none⟩), v1] :: Ent.own v1 22 1 K.length (rows K) :: (nest 5 K ++ X))) rfl ?_; intro w_9 H_12
    refine L_nil ?_
    refine Th_n ?_
    refine W_seq ?_
    refine W_rg ?_
    refine L_as rfl ?_
    refine L_nil ?_
    refine Th_n ?_
    refine W_ret ?_
    refine P_ret (vs := [Value.bool true]) (v := Value.bool true) rfl (.tmp rfl (Res.nil)) rfl ?_
    exact ⟨v1, rfl, H_12⟩

attribute [local irreducible] Jn.add Jn.opens Jn.form Jn.sum4 Sm.sum Jn.read Jn.at_ Jn.rcode Dk.arm Dk.restart Dk.add Dk.cut in
theorem jopenR {w0 w : World} {X : List Ent} {bx bd : Nat} {sa : Option Addr} {sc : Nat} {vj vm vd : Value} {dn : Bool} {S : List Lt} (d : Dk.D) (hd : Dk.ok d) (okS : Jn.ok (keys S)) (hsn : ∀ x ∈ S, Seen w0 X .u8 x.a x.l.length x.c x.l) (hO : (Jn.opens (Dk.restart d).2).1 = 0) (hR : (Jn.read (Dk.restart d).2.l).1 = keys S) (H : Hp w0 [] w (Ent.blk bx 56 #[Value.pointer (some ⟨bd, 0, none⟩), vj, Value.slice sa S.length sc, vm, Value.bool dn] :: Ent.own (Value.slice sa S.length sc) 22 1 S.length (rows S) :: Ent.blk bd 65 #[vd, Value.int .i64 (d.left), Value.bool d.armed, Value.bool d.off] :: Ent.own vd 5 1 d.l.length (us .u8 d.l) :: X)) :
    Calls Try.prog 23 #[Value.pointer (some ⟨bx, 0, none⟩)] w (fun r_ w' => ∃ bj v vd' K, r_ = .returned (.bool true) ∧ keys K = keys S ∧ Hp w0 [] w' (Ent.blk bx 56 #[Value.pointer (some ⟨bd, 0, none⟩), Value.pointer (some ⟨bj, 0, none⟩), Value.slice sa S.length sc, Value.slice none 0 0, Value.bool false] :: Ent.own (Value.slice sa S.length sc) 22 1 S.length (rows S) :: Ent.blk bj 47 #[Value.pointer (some ⟨bd, 0, none⟩), v] :: Ent.own v 22 1 K.length (rows K) :: Ent.blk bd 65 #[vd', Value.int .i64 (((Jn.opens (Dk.restart d).2).2).left), Value.bool (((Jn.opens (Dk.restart d).2).2).armed), Value.bool (((Jn.opens (Dk.restart d).2).2).off)] :: Ent.own vd' 5 1 (((Jn.opens (Dk.restart d).2).2).l.length) (us .u8 (((Jn.opens (Dk.restart d).2).2).l)) :: (nest 5 K ++ X))) := by
  refine F_in Try.func23 rfl Try.ntmps23 rfl ?_
  intro e he
  have p_0 : e 0 = Value.pointer (some ⟨bx, 0, none⟩) := he 0 _ rfl
  refine W_seq ?_
  refine W_rg ?_
  refine L_as rfl ?_
  refine L_nil ?_
  refine Th_n ?_
  refine W_seq ?_
  refine W_seq ?_
  refine W_rg ?_
  refine L_mv rfl ?_
  refine L_y rfl (Y_nil p_0) ?_
  refine L_y rfl (Y_fld T_fld56_0 rfl rfl rfl) ?_
  refine L_y rfl (Y_ld T_scal29 H (i := 0) rfl rfl rfl) ?_
  have H_2 : Hp w0 [] w (Ent.blk bd 65 #[vd, Value.int .i64 (d.left), Value.bool d.armed, Value.bool d.off] :: Ent.own vd 5 1 d.l.length (us .u8 d.l) :: Ent.blk bx 56 #[Value.pointer (some ⟨bd, 0, none⟩), vj, Value.slice sa S.length sc, vm, Value.bool dn] :: Ent.own (Value.slice sa S.length sc) 22 1 S.length (rows S) :: X) := ((H.pull 3 rfl).pull 3 rfl)
  refine L_callv rfl rfl T_en21 (A1 rfl) (dRestart d  hd H_2) ?_
  rintro _ w_2 ⟨v9, rfl, H_3⟩; refine ⟨_, rfl, ?_⟩
  refine L_y rfl (Y_neq (k := .i64) (a := (((Dk.restart d).1 : Nat) : Int)) (b := ((0 : Nat) : Int)) rfl rfl) ?_
  refine L_nil ?_
  refine Th_n ?_
  refine W_false (congrArg Value.bool ((by rw [Jn.restart_code]; rfl) : ((((Dk.restart d).1 : Nat) : Int) != ((0 : Nat) : Int)) = false)) ?_
  refine W_skip ?_
  refine Th_n ?_
  refine W_seq ?_
  refine W_rg ?_
  refine L_mv rfl ?_
  refine L_y rfl (Y_nil p_0) ?_
  refine L_y rfl (Y_fld T_fld56_0 rfl rfl rfl) ?_
  refine L_y rfl (Y_ld T_scal29 H_3 (i := 2) rfl rfl rfl) ?_
  have H_4 : Hp w0 [] w_2 (Ent.blk bd 65 #[v9, Value.int .i64 (((Dk.restart d).2).left), Value.bool (((Dk.restart d).2).armed), Value.bool (((Dk.restart d).2).off)] :: Ent.own v9 5 1 ((((Dk.restart d).2).l).length) (us .u8 (((Dk.restart d).2).l)) :: Ent.blk bx 56 #[Value.pointer (some ⟨bd, 0, none⟩), vj, Value.slice sa S.length sc, vm, Value.bool dn] :: Ent.own (Value.slice sa S.length sc) 22 1 S.length (rows S) :: X) := H_3.asL (i := 1) rfl (by rfl) rfl rfl
  refine L_callv rfl rfl T_en15 (A1 rfl) (jOpenOk ((Dk.restart d).2) (Dk.restart_ok hd) hO H_4) ?_
  rintro _ w_3 ⟨b16, v16, v16_2, K16, rfl, f16_0, H_5⟩; refine ⟨_, rfl, ?_⟩
  have H_6 : Hp w0 [] w_3 (Ent.blk b16 47 #[Value.pointer (some ⟨bd, 0, none⟩), v16] :: Ent.own v16 22 1 K16.length (rows K16) :: Ent.blk bd 65 #[v16_2, Value.int .i64 (((Jn.opens ((Dk.restart d).2)).2).left), Value.bool (((Jn.opens ((Dk.restart d).2)).2).armed), Value.bool (((Jn.opens ((Dk.restart d).2)).2).off)] :: Ent.own v16_2 5 1 (((Jn.opens ((Dk.restart d).2)).2).l.length) (us .u8 (((Jn.opens ((Dk.restart d).2)).2).l)) :: Ent.blk bx 56 #[Value.pointer (some ⟨bd, 0, none⟩), vj, Value.slice sa S.length sc, vm, Value.bool dn] :: Ent.own (Value.slice sa S.length sc) 22 1 S.length (rows S) :: (nest 5 K16 ++ X)) := Hp.chunk [Ent.blk b16 47 #[Value.pointer (some ⟨bd, 0, none⟩), v16], Ent.own v16 22 1 K16.length (rows K16), Ent.blk bd 65 #[v16_2, Value.int .i64 (((Jn.opens ((Dk.restart d).2)).2).left), Value.bool (((Jn.opens ((Dk.restart d).2)).2).armed), Value.bool (((Jn.opens ((Dk.restart d).2)).2).off)], Ent.own v16_2 5 1 (((Jn.opens ((Dk.restart d).2)).2).l.length) (us .u8 (((Jn.opens ((Dk.restart d).2)).2).l))] (nest 5 K16) [Ent.blk bx 56 #[Value.pointer (some ⟨bd, 0, none⟩), vj, Value.slice sa S.length sc, vm, Value.bool dn], Ent.own (Value.slice sa S.length sc) 22 1 S.length (rows S)] X H_5
  have okK16 : Jn.ok (keys K16) := by rw [f16_0]; exact Jn.read_ok (Dk.restart_ok hd).len (Dk.restart_ok hd).lt
  have kSK16 : keys K16 = keys S := f16_0.trans hR
  refine L_mv rfl ?_
  refine L_y rfl (Y_ext rfl rfl) ?_
  refine L_y rfl (Y_ext rfl rfl) ?_
  refine L_as rfl ?_
  refine L_as rfl ?_
  refine L_nil ?_
  refine Th_n ?_
  refine W_seq ?_
  refine W_rg ?_
  refine L_mv rfl ?_
  refine L_mv rfl ?_
  refine L_y rfl (Y_nil p_0) ?_
  refine L_y rfl (Y_fld T_fld56_1 rfl rfl rfl) ?_
  refine L_st (v := Value.pointer (some ⟨b16, 0, none⟩)) T_scal33 H_6 (i := 4) rfl rfl rfl rfl (Nat.le_of_ble_eq_true rfl) (l' := (Ent.blk b16 47 #[Value.pointer (some ⟨bd, 0, none⟩), v16] :: Ent.own v16 22 1 K16.length (rows K16) :: Ent.blk bd 65 #[v16_2, Value.int .i64 (((Jn.opens ((Dk.restart d).2)).2).left), Value.bool (((Jn.opens ((Dk.restart d).2)).2).armed), Value.bool (((Jn.opens ((Dk.restart d).2)).2).off)] :: Ent.own v16_2 5 1 (((Jn.opens ((Dk.restart d).2)).2).l.length) (us .u8 (((Jn.opens ((Dk.restart d).2)).2).l)) :: Ent.blk bx 56 #[Value.pointer (some ⟨bd, 0, none⟩), Value.pointer (some ⟨b16, 0, none⟩), Value.slice sa S.length sc, vm, Value.bool dn] :: Ent.own (Value.slice sa S.length sc) 22 1 S.length (rows S) :: (nest 5 K16 ++ X))) rfl ?_; intro w_4 H_7
  refine L_nil ?_
  refine Th_n ?_
  refine W_seq ?_
  refine W_rg ?_
  refine L_mv rfl ?_
  refine L_y rfl (Y_nil p_0) ?_
  refine L_y rfl (Y_fld T_fld56_4 rfl rfl rfl) ?_
  refine L_st (v := Value.bool false) T_scal4 H_7 (i := 4) rfl rfl rfl rfl (Nat.le_of_ble_eq_true rfl) (l' := (Ent.blk b16 47 #[Value.pointer (some ⟨bd, 0, none⟩), v16] :: Ent.own v16 22 1 K16.length (rows K16) :: Ent.blk bd 65 #[v16_2, Value.int .i64 (((Jn.opens ((Dk.restart d).2)).2).left), Value.bool (((Jn.opens ((Dk.restart d).2)).2).armed), Value.bool (((Jn.opens ((Dk.restart d).2)).2).off)] :: Ent.own v16_2 5 1 (((Jn.opens ((Dk.restart d).2)).2).l.length) (us .u8 (((Jn.opens ((Dk.restart d).2)).2).l)) :: Ent.blk bx 56 #[Value.pointer (some ⟨bd, 0, none⟩), Value.pointer (some ⟨b16, 0, none⟩), Value.slice sa S.length sc, vm, Value.bool false] :: Ent.own (Value.slice sa S.length sc) 22 1 S.length (rows S) :: (nest 5 K16 ++ X))) rfl ?_; intro w_5 H_8
  refine L_nil ?_
  refine Th_n ?_
  refine W_seq ?_
  refine W_rg ?_
  refine L_mv rfl ?_
  refine L_y rfl (Y_eql (k := .i64) (a := ((0 : Nat) : Int)) (b := ((0 : Nat) : Int)) rfl rfl) ?_
  refine L_mv rfl ?_
  refine G_mv (wE rfl (congrArg Value.bool (by decide : (((0 : Nat) : Int) == ((0 : Nat) : Int)) = true))) rfl ?_
  have H_9 : Hp w0 [] w_5 (Ent.blk bx 56 #[Value.pointer (some ⟨bd, 0, none⟩), Value.pointer (some ⟨b16, 0, none⟩), Value.slice sa S.length sc, vm, Value.bool false] :: Ent.own (Value.slice sa S.length sc) 22 1 S.length (rows S) :: Ent.blk b16 47 #[Value.pointer (some ⟨bd, 0, none⟩), v16] :: Ent.own v16 22 1 K16.length (rows K16) :: Ent.blk bd 65 #[v16_2, Value.int .i64 (((Jn.opens ((Dk.restart d).2)).2).left), Value.bool (((Jn.opens ((Dk.restart d).2)).2).armed), Value.bool (((Jn.opens ((Dk.restart d).2)).2).off)] :: Ent.own v16_2 5 1 (((Jn.opens ((Dk.restart d).2)).2).l.length) (us .u8 (((Jn.opens ((Dk.restart d).2)).2).l)) :: (nest 5 K16 ++ X)) := ((((H_8.pull 1 rfl).pull 1 rfl).pull 5 rfl).pull 5 rfl)
  have Hc : Hp w0 [] w_5 (Ent.blk bx 56 #[Value.pointer (some ⟨bd, 0, none⟩), Value.pointer (some ⟨b16, 0, none⟩), Value.slice sa S.length sc, vm, Value.bool false] :: Ent.own (Value.slice sa S.length sc) 22 1 S.length (rows S) :: Ent.blk b16 47 #[Value.pointer (some ⟨bd, 0, none⟩), v16] :: Ent.own v16 22 1 K16.length (rows K16) :: (nest 5 K16 ++ (Ent.blk bd 65 #[v16_2, Value.int .i64 (((Jn.opens ((Dk.restart d).2)).2).left), Value.bool (((Jn.opens ((Dk.restart d).2)).2).armed), Value.bool (((Jn.opens ((Dk.restart d).2)).2).off)] :: Ent.own v16_2 5 1 (((Jn.opens ((Dk.restart d).2)).2).l.length) (us .u8 (((Jn.opens ((Dk.restart d).2)).2).l)) :: X))) := Hp.chunk [Ent.blk bx 56 #[Value.pointer (some ⟨bd, 0, none⟩), Value.pointer (some ⟨b16, 0, none⟩), Value.slice sa S.length sc, vm, Value.bool false], Ent.own (Value.slice sa S.length sc) 22 1 S.length (rows S), Ent.blk b16 47 #[Value.pointer (some ⟨bd, 0, none⟩), v16], Ent.own v16 22 1 K16.length (rows K16)] [Ent.blk bd 65 #[v16_2, Value.int .i64 (((Jn.opens ((Dk.restart d).2)).2).left), Value.bool (((Jn.opens ((Dk.restart d).2)).2).armed), Value.bool (((Jn.opens ((Dk.restart d).2)).2).off)], Ent.own v16_2 5 1 (((Jn.opens ((Dk.restart d).2)).2).l.length) (us .u8 (((Jn.opens ((Dk.restart d).2)).2).l))] (nest 5 K16) X H_9
  refine L_callv (wE rfl (congrArg Value.bool (by decide : (((0 : Nat) : Int) == ((0 : Nat) : Int)) = true))) rfl T_en24 (A1 p_0) (jholds (S := S) (K := K16) okS (fun x hx => (hsn x hx).mono (fun y hy => by simp [hy])) kSK16 Hc) ?_
  rintro _ w_6 ⟨v30, rfl, H_10⟩; refine ⟨_, rfl, ?_⟩
  have H_11 : Hp w0 [] w_6 (Ent.blk bx 56 #[Value.pointer (some ⟨bd, 0, none⟩), Value.pointer (some ⟨b16, 0, none⟩), Value.slice sa S.length sc, Value.slice none 0 0, Value.bool false] :: Ent.own (Value.slice sa S.length sc) 22 1 S.length (rows S) :: Ent.blk b16 47 #[Value.pointer (some ⟨bd, 0, none⟩), v30] :: Ent.own v30 22 1 K16.length (rows K16) :: Ent.blk bd 65 #[v16_2, Value.int .i64 (((Jn.opens ((Dk.restart d).2)).2).left), Value.bool (((Jn.opens ((Dk.restart d).2)).2).armed), Value.bool (((Jn.opens ((Dk.restart d).2)).2).off)] :: Ent.own v16_2 5 1 (((Jn.opens ((Dk.restart d).2)).2).l.length) (us .u8 (((Jn.opens ((Dk.restart d).2)).2).l)) :: (nest 5 K16 ++ X)) := Hp.chunk [Ent.blk bx 56 #[Value.pointer (some ⟨bd, 0, none⟩), Value.pointer (some ⟨b16, 0, none⟩), Value.slice sa S.length sc, Value.slice none 0 0, Value.bool false], Ent.own (Value.slice sa S.length sc) 22 1 S.length (rows S), Ent.blk b16 47 #[Value.pointer (some ⟨bd, 0, none⟩), v30], Ent.own v30 22 1 K16.length (rows K16)] (nest 5 K16) [Ent.blk bd 65 #[v16_2, Value.int .i64 (((Jn.opens ((Dk.restart d).2)).2).left), Value.bool (((Jn.opens ((Dk.restart d).2)).2).armed), Value.bool (((Jn.opens ((Dk.restart d).2)).2).off)], Ent.own v16_2 5 1 (((Jn.opens ((Dk.restart d).2)).2).l.length) (us .u8 (((Jn.opens ((Dk.restart d).2)).2).l))] X H_10
  refine L_y rfl (Y_pickT (congrArg Value.bool (by decide : (((0 : Nat) : Int) == ((0 : Nat) : Int)) = true))) ?_
  refine L_as rfl ?_
  refine L_nil ?_
  refine Th_n ?_
  refine W_ret ?_
  refine P_ret (vs := [Value.bool true]) (v := Value.bool true) rfl (.tmp rfl (Res.nil)) rfl ?_
  exact ⟨b16, v30, v16_2, K16, rfl, kSK16, H_11⟩

attribute [local irreducible] Jn.add Jn.opens Jn.form Jn.sum4 Sm.sum Jn.read Jn.at_ Jn.rcode Dk.arm Dk.restart Dk.add Dk.cut Jn.lines Jn.dof in
set_option maxHeartbeats 4000000 in
theorem journalPlays_n (a : Option Addr) (m c : Nat) (Lo : List Jn.Op) (w0 : World) (hT : Tab w0 Jn.Op.cells 3 a m c Lo) (hg : ∀ x ∈ Lo, Jn.Op.good w0 x) (hmm : m ≤ 140737488351232) :
    Calls Try.prog 8 #[Value.slice a m c] w0 (fun r_ w' => r_ = .returned (.bool true) ∧ Keep w0 w') := by
  refine F_in Try.func8 rfl Try.ntmps8 rfl ?_
  intro e he
  have p_0 : e 0 = Value.slice a m c := he 0 _ rfl
  have H := Hp.start w0 []
  refine W_seq ?_
  refine W_rg ?_
  refine L_as rfl ?_
  refine L_nil ?_
  refine Th_n ?_
  refine W_seq ?_
  refine W_rg ?_
  refine L_as rfl ?_
  refine L_nil ?_
  refine Th_n ?_
  refine W_seq ?_
  refine W_seq ?_
  refine W_rg ?_
  refine L_as rfl ?_
  refine L_nil ?_
  refine Th_n ?_
  refine W_block ?_
  refine W_loop (fun mu_ e w => ∃ i : Nat, ∃ s0 : Nat, mu_ = m - i ∧ e 0 = Value.slice a m c ∧ e 3 = Value.int .i64 ((s0 : Nat) : Int) ∧ e 4 = Value.int .i64 ((i : Nat) : Int) ∧ Hp w0 [] w (([] : List Ent)) ∧ s0 = Jn.sum (Lo.take i) ∧ s0 ≤ 140737489399808 ∧ i ≤ m) _ ⟨0, 0, rfl, p_0, rfl, rfl, H, rfl, (by decide), (Nat.zero_le _)⟩ ?_
  rintro mu_ e_2 w_2 ⟨i, s0, rfl, e_2_0, e_2_3, e_2_4, H_2, hs, hB, hi⟩
  refine W_seq ?_
  refine W_seq ?_
  refine W_rg ?_
  refine L_mv rfl ?_
  refine L_mv rfl ?_
  refine L_y rfl (Y_lenS T_sl51 e_2_0) ?_
  refine L_y rfl (Y_lss (k := .i64) (a := ((i : Nat) : Int)) (b := ((m : Nat) : Int)) e_2_4 rfl) ?_
  refine L_mv rfl ?_
  rcases Bool.eq_false_or_eq_true (decide (((i : Nat) : Int) < ((m : Nat) : Int))) with hb | hb
  ·
    have hb' := of_decide_eq_true hb
    refine G_mv (wE rfl (congrArg Value.bool hb)) rfl ?_
    refine G_y (wE rfl (congrArg Value.bool hb)) rfl (Y_leq (k := .i64) (a := ((s0 : Nat) : Int)) (b := ((1048576 : Nat) : Int)) e_2_3 rfl) ?_
    refine L_y rfl (Y_pickT (congrArg Value.bool hb)) ?_
    refine L_nil ?_
    refine Th_n ?_
    refine W_cond (b := (decide (((s0 : Nat) : Int) ≤ ((1048576 : Nat) : Int)))) rfl (fun hc => ?_) (fun hc => ?_)
    ·
      have hc' := of_decide_eq_true hc
      refine W_skip ?_
      refine Th_n ?_
      refine W_seq ?_
      refine W_block ?_
      refine W_rg ?_
      refine L_mv rfl ?_
      refine L_mv rfl ?_
      refine L_mv rfl ?_
      obtain ⟨el23, hel23⟩ := hT.at (j := i) (by omega)
      have gel23 := hg el23 (List.mem_of_getElem? hel23)
      have bel23 := gel23.big
      refine L_y rfl (Y_idxT (j := i) T_sl51 (hT.hp H_2) hel23 e_2_0 e_2_4 rfl) ?_
      refine L_y rfl (Y_fldT T_fld53_2 rfl (hT.hp H_2) hel23 rfl) ?_
      refine L_y rfl (Y_ldT (j := i) (off := 2) T_scal22 (hT.hp H_2) hel23 rfl rfl rfl) ?_
      refine L_y rfl (Y_lenS T_sl22 rfl) ?_
      refine L_y rfl (Y_add (k := .i64) (a := ((s0 : Nat) : Int)) (b := ((el23.y.l.length : Nat) : Int)) (z := ((s0 + el23.y.l.length : Nat) : Int)) e_2_3 rfl (wi (by omega))) ?_
      refine L_as rfl ?_
      refine L_nil ?_
      refine InB_n ?_
      refine Th_n ?_
      refine W_rg ?_
      refine L_mv rfl ?_
      refine L_y rfl (Y_add (k := .i64) (a := ((i : Nat) : Int)) (b := ((1 : Nat) : Int)) (z := ((i + 1 : Nat) : Int)) e_2_4 rfl (wi (by omega))) ?_
      refine L_as rfl ?_
      refine L_nil ?_
      refine Th_n ⟨_, ?_, (i + 1), _, rfl, e_2_0, rfl, rfl, H_2, (by rw [hs, Jn.sum_snoc hel23]), (by omega), (by omega)⟩
      omega
    ·
      have hc' := of_decide_eq_false hc
      refine W_exit ?_
      refine Th_x ?_
      refine Th_x ?_
      refine InB_hit ?_
      refine Th_n ?_
      refine W_seq ?_
      refine W_seq ?_
      refine W_rg ?_
      refine L_mv rfl ?_
      refine L_y rfl (Y_lenS T_sl51 e_2_0) ?_
      refine L_y rfl (Y_gtr (k := .i64) (a := ((m : Nat) : Int)) (b := ((100 : Nat) : Int)) rfl rfl) ?_
      refine L_mv rfl ?_
      rcases Bool.eq_false_or_eq_true (decide (((100 : Nat) : Int) < ((m : Nat) : Int))) with hb_2 | hb_2
      ·
        have hb_2' := of_decide_eq_true hb_2
        refine G_no (wN (b := false) rfl (congrArg Value.bool hb_2)) rfl ?_
        refine G_no (wN (b := false) rfl (congrArg Value.bool hb_2)) rfl ?_
        refine L_y rfl (Y_pickT (congrArg Value.bool hb_2)) ?_
        refine L_nil ?_
        refine Th_n ?_
        refine W_true rfl ?_
        refine W_seq ?_
        refine W_rg ?_
        refine L_callv rfl rfl T_en9 (A0) (known_n _) ?_
        rintro _ w_3 ⟨rfl, hkp⟩; refine ⟨_, rfl, ?_⟩; have H_3 := H_2.keep hkp
        refine L_as rfl ?_
        refine L_nil ?_
        refine Th_n ?_
        refine W_ret ?_
        refine Th_r ?_
        refine P_ret (vs := [Value.bool true]) (v := Value.bool true) rfl (.tmp rfl (Res.nil)) rfl ?_
        refine ⟨?_, H_3.nil_⟩
        rfl
      ·
        have hb_2' := of_decide_eq_false hb_2
        refine G_mv (wE rfl (congrArg Value.bool hb_2)) rfl ?_
        refine G_y (wE rfl (congrArg Value.bool hb_2)) rfl (Y_gtr (k := .i64) (a := ((s0 : Nat) : Int)) (b := ((1048576 : Nat) : Int)) e_2_3 rfl) ?_
        refine L_y rfl (Y_pickF (congrArg Value.bool hb_2)) ?_
        refine L_nil ?_
        refine Th_n ?_
        refine W_true (congrArg Value.bool ((decide_eq_true (by have := of_decide_eq_false hc; omega)) : (decide (((1048576 : Nat) : Int) < ((s0 : Nat) : Int))) = true)) ?_
        refine W_seq ?_
        refine W_rg ?_
        refine L_callv rfl rfl T_en9 (A0) (known_n _) ?_
        rintro _ w_4 ⟨rfl, hkp_2⟩; refine ⟨_, rfl, ?_⟩; have H_4 := H_2.keep hkp_2
        refine L_as rfl ?_
        refine L_nil ?_
        refine Th_n ?_
        refine W_ret ?_
        refine Th_r ?_
        refine P_ret (vs := [Value.bool true]) (v := Value.bool true) rfl (.tmp rfl (Res.nil)) rfl ?_
        refine ⟨?_, H_4.nil_⟩
        rfl
  ·
    have hb' := of_decide_eq_false hb
    refine G_no (wN (b := true) rfl (congrArg Value.bool hb)) rfl ?_
    refine G_no (wN (b := true) rfl (congrArg Value.bool hb)) rfl ?_
    refine L_y rfl (Y_pickF (congrArg Value.bool hb)) ?_
    refine L_nil ?_
    refine Th_n ?_
    refine W_false rfl ?_
    refine W_exit ?_
    refine Th_x ?_
    refine Th_x ?_
    refine InB_hit ?_
    refine Th_n ?_
    refine W_seq ?_
    refine W_seq ?_
    refine W_rg ?_
    refine L_mv rfl ?_
    refine L_y rfl (Y_lenS T_sl51 e_2_0) ?_
    refine L_y rfl (Y_gtr (k := .i64) (a := ((m : Nat) : Int)) (b := ((100 : Nat) : Int)) rfl rfl) ?_
    refine L_mv rfl ?_
    rcases Bool.eq_false_or_eq_true (decide (((100 : Nat) : Int) < ((m : Nat) : Int))) with hb_3 | hb_3
    ·
      have hb_3' := of_decide_eq_true hb_3
      refine G_no (wN (b := false) rfl (congrArg Value.bool hb_3)) rfl ?_
      refine G_no (wN (b := false) rfl (congrArg Value.bool hb_3)) rfl ?_
      refine L_y rfl (Y_pickT (congrArg Value.bool hb_3)) ?_
      refine L_nil ?_
      refine Th_n ?_
      refine W_true rfl ?_
      refine W_seq ?_
      refine W_rg ?_
      refine L_callv rfl rfl T_en9 (A0) (known_n _) ?_
      rintro _ w_5 ⟨rfl, hkp_3⟩; refine ⟨_, rfl, ?_⟩; have H_5 := H_2.keep hkp_3
      refine L_as rfl ?_
      refine L_nil ?_
      refine Th_n ?_
      refine W_ret ?_
      refine Th_r ?_
      refine P_ret (vs := [Value.bool true]) (v := Value.bool true) rfl (.tmp rfl (Res.nil)) rfl ?_
      refine ⟨?_, H_5.nil_⟩
      rfl
    ·
      have hb_3' := of_decide_eq_false hb_3
      refine G_mv (wE rfl (congrArg Value.bool hb_3)) rfl ?_
      refine G_y (wE rfl (congrArg Value.bool hb_3)) rfl (Y_gtr (k := .i64) (a := ((s0 : Nat) : Int)) (b := ((1048576 : Nat) : Int)) e_2_3 rfl) ?_
      refine L_y rfl (Y_pickF (congrArg Value.bool hb_3)) ?_
      refine L_nil ?_
      refine Th_n ?_
      refine W_cond (b := (decide (((1048576 : Nat) : Int) < ((s0 : Nat) : Int)))) rfl (fun hc_2 => ?_) (fun hc_2 => ?_)
      ·
        have hc_2' := of_decide_eq_true hc_2
        refine W_seq ?_
        refine W_rg ?_
        refine L_callv rfl rfl T_en9 (A0) (known_n _) ?_
        rintro _ w_6 ⟨rfl, hkp_4⟩; refine ⟨_, rfl, ?_⟩; have H_6 := H_2.keep hkp_4
        refine L_as rfl ?_
        refine L_nil ?_
        refine Th_n ?_
        refine W_ret ?_
        refine Th_r ?_
        refine P_ret (vs := [Value.bool true]) (v := Value.bool true) rfl (.tmp rfl (Res.nil)) rfl ?_
        refine ⟨?_, H_6.nil_⟩
        rfl
      ·
        have hsum : Jn.sum Lo ≤ 1048576 := by have e1 : Lo.take i = Lo := List.take_of_length_le (by have := hT.len; have := of_decide_eq_false hc_2; omega); rw [e1] at hs; have := of_decide_eq_false hc_2; omega
        refine W_skip ?_
        refine Th_n ?_
        refine W_seq ?_
        refine W_rg ?_
        refine L_callv rfl rfl T_en13 (A0) (dNew H_2) ?_
        rintro _ w_7 ⟨b36, v36, rfl, H_7⟩; refine ⟨_, rfl, ?_⟩
        refine L_y rfl (Y_build (pv := [(0, Value.pointer (some ⟨b36, 0, none⟩))]) (cs := #[Value.pointer (some ⟨b36, 0, none⟩), Value.pointer none, Value.slice none 0 0, Value.slice none 0 0, Value.bool false]) (Bpc rfl Bp0) (by kernel_rfl)) ?_
        refine L_box rfl H_7 rfl (cs := #[Value.pointer (some ⟨b36, 0, none⟩), Value.pointer none, Value.slice none 0 0, Value.slice none 0 0, Value.bool false]) rfl ?_; intro bk38 w_8 H_8
        have H_9 : Hp w0 [] w_8 (Ent.blk bk38 56 #[Value.pointer (some ⟨b36, 0, none⟩), Value.pointer none, Value.slice none 0 0, Value.slice none 0 0, Value.bool false] :: Ent.own (Value.slice none 0 0) 22 1 0 (rows []) :: Ent.blk b36 65 #[v36, Value.int .i64 (Dk.new.left), Value.bool Dk.new.armed, Value.bool Dk.new.off] :: Ent.own v36 5 1 Dk.new.l.length (us .u8 Dk.new.l) :: ([] : List Ent)) := (H_8.nilOwn 22 1).perm (List.Perm.swap _ _ _)
        have H_10 : Hp w0 [] w_8 (Ent.blk bk38 56 #[Value.pointer (some ⟨b36, 0, none⟩), Value.pointer none, Value.slice none 0 0, Value.slice none 0 0, Value.bool false] :: Ent.own (Value.slice none 0 0) 5 1 0 (us .u8 []) :: Ent.own (Value.slice none 0 0) 22 1 0 (rows []) :: Ent.blk b36 65 #[v36, Value.int .i64 (Dk.new.left), Value.bool Dk.new.armed, Value.bool Dk.new.off] :: Ent.own v36 5 1 Dk.new.l.length (us .u8 Dk.new.l) :: ([] : List Ent)) := (H_9.nilOwn 5 1).perm (List.Perm.swap _ _ _)
        refine L_as rfl ?_
        refine L_nil ?_
        refine Th_n ?_
        refine W_seq ?_
        refine W_seq ?_
        refine W_rg ?_
        refine L_mv rfl ?_
        have H_11 : Hp w0 [] w_8 (Ent.blk bk38 56 #[Value.pointer (some ⟨b36, 0, none⟩), Value.pointer none, Value.slice none 0 0, Value.slice none 0 0, Value.bool false] :: Ent.own (Value.slice none 0 0) 5 1 0 (us .u8 []) :: Ent.own (Value.slice none 0 0) 22 1 (([] : List Lt).length) (rows ([] : List Lt)) :: Ent.blk b36 65 #[v36, Value.int .i64 (Dk.new.left), Value.bool Dk.new.armed, Value.bool Dk.new.off] :: Ent.own v36 5 1 Dk.new.l.length (us .u8 Dk.new.l) :: ([] : List Ent)) := H_10.asN (i := 2) rfl (by first | rfl | simp) rfl rfl
        have hn : 0 = ([] : List Lt).length := by first | rfl | simp
        have H_12 : Hp w0 [] w_8 (Ent.blk bk38 56 #[Value.pointer (some ⟨b36, 0, none⟩), Value.pointer none, Value.slice none (([] : List Lt).length) 0, Value.slice none 0 0, Value.bool false] :: Ent.own (Value.slice none 0 0) 5 1 0 (us .u8 []) :: Ent.own (Value.slice none (([] : List Lt).length) 0) 22 1 (([] : List Lt).length) (rows ([] : List Lt)) :: Ent.blk b36 65 #[v36, Value.int .i64 (Dk.new.left), Value.bool Dk.new.armed, Value.bool Dk.new.off] :: Ent.own v36 5 1 Dk.new.l.length (us .u8 Dk.new.l) :: ([] : List Ent)) := by have h := H_11; first | exact h | (rw [hn] at h; exact h) | simpa [hn] using h
        have H_13 : Hp w0 [] w_8 (Ent.blk bk38 56 #[Value.pointer (some ⟨b36, 0, none⟩), Value.pointer none, Value.slice none (([] : List Lt).length) 0, Value.slice none 0 0, Value.bool false] :: Ent.own (Value.slice none (([] : List Lt).length) 0) 22 1 (([] : List Lt).length) (rows ([] : List Lt)) :: Ent.blk b36 65 #[v36, Value.int .i64 (Dk.new.left), Value.bool Dk.new.armed, Value.bool Dk.new.off] :: Ent.own v36 5 1 Dk.new.l.length (us .u8 Dk.new.l) :: Ent.own (Value.slice none 0 0) 5 1 0 (us .u8 []) :: ([] : List Ent)) := ((((H_12.pull 4 rfl).pull 4 rfl).pull 4 rfl).pull 3 rfl)
        refine L_callv rfl rfl T_en23 (A1 rfl) (jopenR (S := ([] : List Lt)) Dk.new Dk.new_ok Jn.ok_nil (by simp) Jn.Run.new0.opens.1 Jn.Run.new0.opened H_13) ?_
        rintro _ w_9 ⟨b40, v40, v40_2, K40, rfl, f40_0, H_14⟩; refine ⟨_, rfl, ?_⟩
        have H_15 : Hp w0 [] w_9 (Ent.blk bk38 56 #[Value.pointer (some ⟨b36, 0, none⟩), Value.pointer (some ⟨b40, 0, none⟩), Value.slice none (([] : List Lt).length) 0, Value.slice none 0 0, Value.bool false] :: Ent.own (Value.slice none (([] : List Lt).length) 0) 22 1 (([] : List Lt).length) (rows ([] : List Lt)) :: Ent.blk b40 47 #[Value.pointer (some ⟨b36, 0, none⟩), v40] :: Ent.own v40 22 1 K40.length (rows K40) :: Ent.blk b36 65 #[v40_2, Value.int .i64 (((Jn.opens (Dk.restart Dk.new).2).2).left), Value.bool (((Jn.opens (Dk.restart Dk.new).2).2).armed), Value.bool (((Jn.opens (Dk.restart Dk.new).2).2).off)] :: Ent.own v40_2 5 1 (((Jn.opens (Dk.restart Dk.new).2).2).l.length) (us .u8 (((Jn.opens (Dk.restart Dk.new).2).2).l)) :: Ent.own (Value.slice none 0 0) 5 1 0 (us .u8 []) :: (nest 5 K40 ++ ([] : List Ent))) := Hp.chunk [Ent.blk bk38 56 #[Value.pointer (some ⟨b36, 0, none⟩), Value.pointer (some ⟨b40, 0, none⟩), Value.slice none (([] : List Lt).length) 0, Value.slice none 0 0, Value.bool false], Ent.own (Value.slice none (([] : List Lt).length) 0) 22 1 (([] : List Lt).length) (rows ([] : List Lt)), Ent.blk b40 47 #[Value.pointer (some ⟨b36, 0, none⟩), v40], Ent.own v40 22 1 K40.length (rows K40), Ent.blk b36 65 #[v40_2, Value.int .i64 (((Jn.opens (Dk.restart Dk.new).2).2).left), Value.bool (((Jn.opens (Dk.restart Dk.new).2).2).armed), Value.bool (((Jn.opens (Dk.restart Dk.new).2).2).off)], Ent.own v40_2 5 1 (((Jn.opens (Dk.restart Dk.new).2).2).l.length) (us .u8 (((Jn.opens (Dk.restart Dk.new).2).2).l))] (nest 5 K40) [Ent.own (Value.slice none 0 0) 5 1 0 (us .u8 [])] ([] : List Ent) H_14
        have kSK40 := f40_0
        have okK40 : Jn.ok (keys K40) := by rw [kSK40]; exact Jn.ok_nil
        refine L_y rfl (Y_not (b := true) rfl) ?_
        refine L_nil ?_
        refine Th_n ?_
        refine W_false rfl ?_
        refine W_skip ?_
        refine Th_n ?_
        refine W_seq ?_
        refine W_seq ?_
        refine W_rg ?_
        refine L_as rfl ?_
        refine L_nil ?_
        refine Th_n ?_
        refine W_block ?_
        refine W_loop (fun mu_ e w => ∃ i : Nat, ∃ d : Dk.D, ∃ bj : Nat, ∃ v : Value, ∃ vd : Value, ∃ vm : Value, ∃ dn : Bool, ∃ K : List Lt, ∃ S : List Lt, ∃ sa : Option Addr, ∃ sc : Nat, mu_ = m - i ∧ e 0 = Value.slice a m c ∧ e 5 = Value.pointer (some ⟨bk38, 0, none⟩) ∧ e 6 = Value.int .i64 ((i : Nat) : Int) ∧ Hp w0 [] w (Ent.blk bk38 56 #[Value.pointer (some ⟨b36, 0, none⟩), Value.pointer (some ⟨bj, 0, none⟩), Value.slice sa S.length sc, vm, Value.bool dn] :: Ent.own (Value.slice sa S.length sc) 22 1 S.length (rows S) :: Ent.blk bj 47 #[Value.pointer (some ⟨b36, 0, none⟩), v] :: Ent.own v 22 1 K.length (rows K) :: Ent.blk b36 65 #[vd, Value.int .i64 (d.left), Value.bool d.armed, Value.bool d.off] :: Ent.own vd 5 1 d.l.length (us .u8 d.l) :: (nest 5 K ++ ([] : List Ent))) ∧ Jn.Run d (keys S) dn (Jn.sum (Lo.take i) + 8 * i) ∧ Jn.ok (keys K) ∧ keys K = keys S ∧ S.length ≤ i ∧ (∀ x ∈ S, Seen w0 [] .u8 x.a x.l.length x.c x.l) ∧ i ≤ m) _ ⟨0, _, b40, _, _, _, _, K40, ([] : List Lt), _, _, rfl, e_2_0, rfl, rfl, (((((((H_15.erase 6).pull 5 rfl).pull 5 rfl).pull 5 rfl).pull 5 rfl).pull 5 rfl).pull 5 rfl), (Jn.Run.new0.opens.2.mono (Nat.zero_le _)), okK40, kSK40, (Nat.zero_le _), (by simp), (Nat.zero_le _)⟩ ?_
        rintro mu_ e_3 w_10 ⟨i, d, bj, v, vd, vm, dn, K, S, sa, sc, rfl, e_3_0, e_3_5, e_3_6, H_16, hRun, okK, hKS, hSi, hsn, hi⟩
        refine W_seq ?_
        refine W_seq ?_
        refine W_rg ?_
        refine L_mv rfl ?_
        refine L_mv rfl ?_
        refine L_y rfl (Y_lenS T_sl51 e_3_0) ?_
        refine L_y rfl (Y_lss (k := .i64) (a := ((i : Nat) : Int)) (b := ((m : Nat) : Int)) e_3_6 rfl) ?_
        refine L_nil ?_
        refine Th_n ?_
        refine W_cond (b := (decide (((i : Nat) : Int) < ((m : Nat) : Int)))) rfl (fun hc_3 => ?_) (fun hc_3 => ?_)
        ·
          have hc_3' := of_decide_eq_true hc_3
          refine W_skip ?_
          refine Th_n ?_
          refine W_seq ?_
          refine W_block ?_
          refine W_seq ?_
          refine W_rg ?_
          refine L_mv rfl ?_
          refine L_mv rfl ?_
          obtain ⟨el50, hel50⟩ := hT.at (j := i) (by omega)
          have gel50 := hg el50 (List.mem_of_getElem? hel50)
          have bel50 := gel50.big
          have qel50 := Jn.sum_snoc hel50; have rel50 := Jn.sum_take Lo (i + 1); have hmel50 := Jn.sum_mem (List.mem_of_getElem? hel50)
          refine L_y rfl (Y_idxT (j := i) T_sl51 (hT.hp H_16) hel50 e_3_0 e_3_6 rfl) ?_
          refine L_y rfl (Y_fldT T_fld53_0 rfl (hT.hp H_16) hel50 rfl) ?_
          refine L_y rfl (Y_ldT (j := i) (off := 0) T_scal3 (hT.hp H_16) hel50 rfl rfl rfl) ?_
          refine L_nil ?_
          refine Th_n ?_
          refine W_block ?_
          refine W_seq ?_
          refine W_rg ?_
          refine L_y rfl (Y_eql (k := .i64) (a := el50.kind) (b := ((0 : Nat) : Int)) rfl rfl) ?_
          refine L_as rfl ?_
          refine L_nil ?_
          refine Th_n ?_
          refine W_cond (b := (el50.kind == ((0 : Nat) : Int))) rfl (fun hc_4 => ?_) (fun hc_4 => ?_)
          ·
            have hc_4' := eq_of_beq hc_4
            refine W_seq ?_
            refine W_seq ?_
            refine W_rg ?_
            refine L_mv rfl ?_
            refine L_y rfl (Y_nil e_3_5) ?_
            refine L_y rfl (Y_fld T_fld56_4 rfl rfl rfl) ?_
            refine L_y rfl (Y_ld T_scal4 H_16 (i := 0) rfl rfl rfl) ?_
            refine L_nil ?_
            refine Th_n ?_
            refine W_cond (b := dn) rfl (fun hc_5 => ?_) (fun hc_5 => ?_)
            ·
              refine W_exit ?_
              refine Th_x ?_
              refine InB_miss rfl ?_
              refine InB_hit ?_
              refine Th_n ?_
              refine W_rg ?_
              refine L_mv rfl ?_
              refine L_y rfl (Y_add (k := .i64) (a := ((i : Nat) : Int)) (b := ((1 : Nat) : Int)) (z := ((i + 1 : Nat) : Int)) e_3_6 rfl (wi (by omega))) ?_
              refine L_as rfl ?_
              refine L_nil ?_
              refine Th_n ⟨_, ?_, (i + 1), _, bj, _, _, _, _, K, S, _, _, rfl, e_3_0, e_3_5, rfl, H_16, (hRun.mono (by omega)), okK, hKS, (by omega), hsn, (by omega)⟩
              omega
            ·
              have hRf := hRun; rw [hc_5] at hRf
              refine W_skip ?_
              refine Th_n ?_
              refine W_seq ?_
              refine W_rg ?_
              refine L_bsl (cs := ua .u8 []) rfl H_16 (pv := []) T_sl22 T_zero5 rfl Bp0 (by kernel_rfl) ?_; intro bk59 w_11 H_17
              have H_18 : Hp w0 [] w_11 (Ent.own (Value.slice (some ⟨bk59, 0, none⟩) 0 0) 5 1 0 (us .u8 []) :: Ent.blk bk38 56 #[Value.pointer (some ⟨b36, 0, none⟩), Value.pointer (some ⟨bj, 0, none⟩), Value.slice sa S.length sc, vm, Value.bool dn] :: Ent.own (Value.slice sa S.length sc) 22 1 S.length (rows S) :: Ent.blk bj 47 #[Value.pointer (some ⟨b36, 0, none⟩), v] :: Ent.own v 22 1 K.length (rows K) :: Ent.blk b36 65 #[vd, Value.int .i64 (d.left), Value.bool d.armed, Value.bool d.off] :: Ent.own vd 5 1 d.l.length (us .u8 d.l) :: (nest 5 K ++ ([] : List Ent))) := H_17.say (i := 0) (x' := .own (Value.slice (some ⟨bk59, 0, none⟩) 0 0) 5 1 0 (us .u8 [])) rfl (own_of_blk (Nat.le_refl _) (by decide) rfl rfl) (fun _ h => h) rfl
              refine L_mv rfl ?_
              refine L_mv rfl ?_
              refine L_y rfl (Y_idxT (j := i) T_sl51 (hT.hp H_18) hel50 e_3_0 e_3_6 rfl) ?_
              refine L_y rfl (Y_fldT T_fld53_2 rfl (hT.hp H_18) hel50 rfl) ?_
              refine L_y rfl (Y_ldT (j := i) (off := 2) T_scal22 (hT.hp H_18) hel50 rfl rfl rfl) ?_
              refine L_appL rfl H_18 (i := 0) rfl T_sl22 T_zero5 rfl T_szb5 rfl rfl (gel50.sl.hp H_18) (by omega) ?_; intro v65 w_12 Hx
              have H_19 : Hp w0 [] w_12 (Ent.own v65 5 1 el50.y.l.length (us .u8 el50.y.l) :: Ent.blk bk38 56 #[Value.pointer (some ⟨b36, 0, none⟩), Value.pointer (some ⟨bj, 0, none⟩), Value.slice sa S.length sc, vm, Value.bool dn] :: Ent.own (Value.slice sa S.length sc) 22 1 S.length (rows S) :: Ent.blk bj 47 #[Value.pointer (some ⟨b36, 0, none⟩), v] :: Ent.own v 22 1 K.length (rows K) :: Ent.blk b36 65 #[vd, Value.int .i64 (d.left), Value.bool d.armed, Value.bool d.off] :: Ent.own vd 5 1 d.l.length (us .u8 d.l) :: (nest 5 K ++ ([] : List Ent))) := by have h := Hx; simp only [Nat.zero_add] at h; exact h
              refine L_as rfl ?_
              refine L_nil ?_
              refine Th_n ?_
              refine W_seq ?_
              refine W_rg ?_
              refine L_mv rfl ?_
              refine L_y rfl (Y_nil e_3_5) ?_
              refine L_y rfl (Y_fld T_fld56_1 rfl rfl rfl) ?_
              refine L_y rfl (Y_ld T_scal33 H_19 (i := 1) rfl rfl rfl) ?_
              refine L_mv rfl ?_
              refine Exists.elim (Sl.opn H_19 (i := 0) rfl) fun a_ hx_ => Exists.elim hx_ fun c_ hv => ?_
              have H_20 : Hp w0 [] w_12 (Ent.own (Value.slice a_ el50.y.l.length c_) 5 1 el50.y.l.length (us .u8 el50.y.l) :: Ent.blk bk38 56 #[Value.pointer (some ⟨b36, 0, none⟩), Value.pointer (some ⟨bj, 0, none⟩), Value.slice sa S.length sc, vm, Value.bool dn] :: Ent.own (Value.slice sa S.length sc) 22 1 S.length (rows S) :: Ent.blk bj 47 #[Value.pointer (some ⟨b36, 0, none⟩), v] :: Ent.own v 22 1 K.length (rows K) :: Ent.blk b36 65 #[vd, Value.int .i64 (d.left), Value.bool d.armed, Value.bool d.off] :: Ent.own vd 5 1 d.l.length (us .u8 d.l) :: (nest 5 K ++ ([] : List Ent))) := by have h := H_19; rw [hv] at h; exact h
              have H_21 : Hp w0 [] w_12 (Ent.blk bj 47 #[Value.pointer (some ⟨b36, 0, none⟩), v] :: Ent.own v 22 1 K.length (rows K) :: Ent.blk b36 65 #[vd, Value.int .i64 (d.left), Value.bool d.armed, Value.bool d.off] :: Ent.own vd 5 1 d.l.length (us .u8 d.l) :: Ent.own (Value.slice a_ el50.y.l.length c_) 5 1 el50.y.l.length (us .u8 el50.y.l) :: Ent.blk bk38 56 #[Value.pointer (some ⟨b36, 0, none⟩), Value.pointer (some ⟨bj, 0, none⟩), Value.slice sa S.length sc, vm, Value.bool dn] :: Ent.own (Value.slice sa S.length sc) 22 1 S.length (rows S) :: (nest 5 K ++ ([] : List Ent))) := ((((H_20.pull 6 rfl).pull 6 rfl).pull 6 rfl).pull 6 rfl)
              have Hc : Hp w0 [] w_12 (Ent.blk bj 47 #[Value.pointer (some ⟨b36, 0, none⟩), v] :: Ent.own v 22 1 K.length (rows K) :: Ent.blk b36 65 #[vd, Value.int .i64 (d.left), Value.bool d.armed, Value.bool d.off] :: Ent.own vd 5 1 d.l.length (us .u8 d.l) :: (nest 5 K ++ (Ent.own (Value.slice a_ el50.y.l.length c_) 5 1 el50.y.l.length (us .u8 el50.y.l) :: Ent.blk bk38 56 #[Value.pointer (some ⟨b36, 0, none⟩), Value.pointer (some ⟨bj, 0, none⟩), Value.slice sa S.length sc, vm, Value.bool dn] :: Ent.own (Value.slice sa S.length sc) 22 1 S.length (rows S) :: ([] : List Ent)))) := Hp.chunk [Ent.blk bj 47 #[Value.pointer (some ⟨b36, 0, none⟩), v], Ent.own v 22 1 K.length (rows K), Ent.blk b36 65 #[vd, Value.int .i64 (d.left), Value.bool d.armed, Value.bool d.off], Ent.own vd 5 1 d.l.length (us .u8 d.l)] [Ent.own (Value.slice a_ el50.y.l.length c_) 5 1 el50.y.l.length (us .u8 el50.y.l), Ent.blk bk38 56 #[Value.pointer (some ⟨b36, 0, none⟩), Value.pointer (some ⟨bj, 0, none⟩), Value.slice sa S.length sc, vm, Value.bool dn], Ent.own (Value.slice sa S.length sc) 22 1 S.length (rows S)] (nest 5 K) ([] : List Ent) H_21
              refine L_callv rfl rfl T_en22 (A2 rfl (Eq.trans rfl hv)) (jAdd (K := K) d hRun.ok okK (by have h7 : K.length = S.length := (by rw [← keys_len, hKS, keys_len]); omega) (by omega) (Seen.mono (Seen.own (X := [Ent.own (Value.slice a_ el50.y.l.length c_) 5 1 el50.y.l.length (us .u8 el50.y.l)]) (i := 0) rfl) (fun y hy => by simp only [List.mem_singleton] at hy; subst hy; simp)) gel50.lt Hc) ?_
              rintro _ w_13 ⟨v71, v71_2, K71, rfl, f71_0, H_22⟩; refine ⟨_, rfl, ?_⟩
              have H_23 : Hp w0 [] w_13 (Ent.blk bj 47 #[Value.pointer (some ⟨b36, 0, none⟩), v71] :: Ent.own v71 22 1 K71.length (rows K71) :: Ent.blk b36 65 #[v71_2, Value.int .i64 (((Jn.add d el50.y.l).2).left), Value.bool (((Jn.add d el50.y.l).2).armed), Value.bool (((Jn.add d el50.y.l).2).off)] :: Ent.own v71_2 5 1 (((Jn.add d el50.y.l).2).l.length) (us .u8 (((Jn.add d el50.y.l).2).l)) :: Ent.own (Value.slice a_ el50.y.l.length c_) 5 1 el50.y.l.length (us .u8 el50.y.l) :: Ent.blk bk38 56 #[Value.pointer (some ⟨b36, 0, none⟩), Value.pointer (some ⟨bj, 0, none⟩), Value.slice sa S.length sc, vm, Value.bool dn] :: Ent.own (Value.slice sa S.length sc) 22 1 S.length (rows S) :: (nest 5 K71 ++ ([] : List Ent))) := Hp.chunk [Ent.blk bj 47 #[Value.pointer (some ⟨b36, 0, none⟩), v71], Ent.own v71 22 1 K71.length (rows K71), Ent.blk b36 65 #[v71_2, Value.int .i64 (((Jn.add d el50.y.l).2).left), Value.bool (((Jn.add d el50.y.l).2).armed), Value.bool (((Jn.add d el50.y.l).2).off)], Ent.own v71_2 5 1 (((Jn.add d el50.y.l).2).l.length) (us .u8 (((Jn.add d el50.y.l).2).l))] (nest 5 K71) [Ent.own (Value.slice a_ el50.y.l.length c_) 5 1 el50.y.l.length (us .u8 el50.y.l), Ent.blk bk38 56 #[Value.pointer (some ⟨b36, 0, none⟩), Value.pointer (some ⟨bj, 0, none⟩), Value.slice sa S.length sc, vm, Value.bool dn], Ent.own (Value.slice sa S.length sc) 22 1 S.length (rows S)] ([] : List Ent) H_22
              have okK71 : Jn.ok (keys K71) := by rw [f71_0]; exact Jn.addL_ok okK gel50.lt (by rw [keys_len]; have h7 : K.length = S.length := (by rw [← keys_len, hKS, keys_len]); omega)
              refine L_as rfl ?_
              refine L_nil ?_
              refine Th_n ?_
              refine W_seq ?_
              refine W_seq ?_
              refine W_rg ?_
              refine L_as rfl ?_
              refine L_nil ?_
              refine Th_n ?_
              refine W_block ?_
              refine W_loop (fun mu_ e w => ∃ k : Nat, ∃ y9 : List Nat, mu_ = el50.y.l.length - k ∧ e 0 = Value.slice a m c ∧ e 5 = Value.pointer (some ⟨bk38, 0, none⟩) ∧ e 6 = Value.int .i64 ((i : Nat) : Int) ∧ e 7 = Value.slice a_ el50.y.l.length c_ ∧ e 8 = Value.int .i64 (((Jn.add d el50.y.l).1 : Nat) : Int) ∧ e 9 = Value.int .i64 ((k : Nat) : Int) ∧ Hp w0 [] w (Ent.blk bj 47 #[Value.pointer (some ⟨b36, 0, none⟩), v71] :: Ent.own v71 22 1 K71.length (rows K71) :: Ent.blk b36 65 #[v71_2, Value.int .i64 (((Jn.add d el50.y.l).2).left), Value.bool (((Jn.add d el50.y.l).2).armed), Value.bool (((Jn.add d el50.y.l).2).off)] :: Ent.own v71_2 5 1 (((Jn.add d el50.y.l).2).l.length) (us .u8 (((Jn.add d el50.y.l).2).l)) :: Ent.own (Value.slice a_ el50.y.l.length c_) 5 1 el50.y.l.length (us .u8 y9) :: Ent.blk bk38 56 #[Value.pointer (some ⟨b36, 0, none⟩), Value.pointer (some ⟨bj, 0, none⟩), Value.slice sa S.length sc, vm, Value.bool dn] :: Ent.own (Value.slice sa S.length sc) 22 1 S.length (rows S) :: (nest 5 K71 ++ ([] : List Ent))) ∧ (∀ u ∈ y9, u < 256) ∧ k ≤ el50.y.l.length) _ ⟨0, el50.y.l, rfl, e_3_0, e_3_5, e_3_6, (Eq.trans rfl hv), rfl, rfl, H_23, gel50.lt, (Nat.zero_le _)⟩ ?_
              rintro mu_ e_4 w_14 ⟨k, y9, rfl, e_4_0, e_4_5, e_4_6, e_4_7, e_4_8, e_4_9, H_24, hy9, hk⟩
              refine W_seq ?_
              refine W_seq ?_
              refine W_rg ?_
              refine L_mv rfl ?_
              refine L_mv rfl ?_
              refine L_y rfl (Y_lenS T_sl22 e_4_7) ?_
              refine L_y rfl (Y_lss (k := .i64) (a := ((k : Nat) : Int)) (b := ((el50.y.l.length : Nat) : Int)) e_4_9 rfl) ?_
              refine L_nil ?_
              refine Th_n ?_
              refine W_cond (b := (decide (((k : Nat) : Int) < ((el50.y.l.length : Nat) : Int)))) rfl (fun hc_6 => ?_) (fun hc_6 => ?_)
              ·
                have hc_6' := of_decide_eq_true hc_6
                refine W_skip ?_
                refine Th_n ?_
                refine W_seq ?_
                refine W_block ?_
                refine W_rg ?_
                refine L_mv rfl ?_
                refine L_mv rfl ?_
                refine L_y rfl (Y_idxL (j := k) T_sl22 (Sl.own H_24 (i := 4) rfl) e_4_7 e_4_9 rfl (by omega)) ?_
                refine Exists.elim (⟨_, List.getElem?_eq_getElem (by have := (⟨(Sl.own H_24 (i := 4) rfl).len, hy9⟩ : Wd el50.y.l.length 256 y9).1; omega)⟩ : ∃ u, y9[k]? = some u) fun x81 hx81 => ?_
                have rx81 := (⟨(Sl.own H_24 (i := 4) rfl).len, hy9⟩ : Wd el50.y.l.length 256 y9).2 _ (List.mem_of_getElem? hx81)
                refine L_y rfl (Y_ldR T_scal5 (Sl.own H_24 (i := 4) rfl).rd rfl (hx81)) ?_
                refine L_yr (z := (x81 + 1) % 256) (m := 256) rfl (Yu_add (k := .u8) rfl x81 1 rfl rfl) (Nat.mod_lt _ (by decide)) ?_; intro x82 hx82 rx82
                refine L_y rfl (Y_idxL (j := k) T_sl22 (Sl.own H_24 (i := 4) rfl) e_4_7 e_4_9 rfl (by omega)) ?_
                refine L_stR T_scal5 H_24 (i := 4) rfl rfl (by omega) rfl ?_; intro w_15 Hx_2
                have H_25 : Hp w0 [] w_15 (Ent.blk bj 47 #[Value.pointer (some ⟨b36, 0, none⟩), v71] :: Ent.own v71 22 1 K71.length (rows K71) :: Ent.blk b36 65 #[v71_2, Value.int .i64 (((Jn.add d el50.y.l).2).left), Value.bool (((Jn.add d el50.y.l).2).armed), Value.bool (((Jn.add d el50.y.l).2).off)] :: Ent.own v71_2 5 1 (((Jn.add d el50.y.l).2).l.length) (us .u8 (((Jn.add d el50.y.l).2).l)) :: Ent.own (Value.slice a_ el50.y.l.length c_) 5 1 el50.y.l.length (us .u8 (y9.set k x82)) :: Ent.blk bk38 56 #[Value.pointer (some ⟨b36, 0, none⟩), Value.pointer (some ⟨bj, 0, none⟩), Value.slice sa S.length sc, vm, Value.bool dn] :: Ent.own (Value.slice sa S.length sc) 22 1 S.length (rows S) :: (nest 5 K71 ++ ([] : List Ent))) := Hx_2
                refine L_nil ?_
                refine InB_n ?_
                refine Th_n ?_
                refine W_rg ?_
                refine L_mv rfl ?_
                refine L_y rfl (Y_add (k := .i64) (a := ((k : Nat) : Int)) (b := ((1 : Nat) : Int)) (z := ((k + 1 : Nat) : Int)) e_4_9 rfl (wi (by omega))) ?_
                refine L_as rfl ?_
                refine L_nil ?_
                refine Th_n ⟨_, ?_, (k + 1), _, rfl, e_4_0, e_4_5, e_4_6, e_4_7, e_4_8, rfl, H_25, (set_lt hy9 rx82), (by omega)⟩
                omega
              ·
                have hc_6' := of_decide_eq_false hc_6
                refine W_exit ?_
                refine Th_x ?_
                refine Th_x ?_
                refine InB_hit ?_
                refine Th_n ?_
                refine W_block ?_
                refine W_seq ?_
                refine W_rg ?_
                refine L_mv rfl ?_
                refine L_mv rfl ?_
                refine L_y rfl (Y_idxT (j := i) T_sl51 (hT.hp H_24) hel50 e_4_0 e_4_6 rfl) ?_
                refine L_y rfl (Y_fldT T_fld53_2 rfl (hT.hp H_24) hel50 rfl) ?_
                refine L_y rfl (Y_ldT (j := i) (off := 2) T_scal22 (hT.hp H_24) hel50 rfl rfl rfl) ?_
                refine L_y rfl (Y_lenS T_sl22 rfl) ?_
                refine L_y rfl (Y_eql (k := .i64) (a := ((el50.y.l.length : Nat) : Int)) (b := ((0 : Nat) : Int)) rfl rfl) ?_
                refine L_as rfl ?_
                refine L_nil ?_
                refine Th_n ?_
                refine W_cond (b := (((el50.y.l.length : Nat) : Int) == ((0 : Nat) : Int))) rfl (fun hc_7 => ?_) (fun hc_7 => ?_)
                ·
                  have hc_7' := eq_of_beq hc_7
                  refine W_seq ?_
                  refine W_rg ?_
                  refine L_mv rfl ?_
                  refine L_y rfl (Y_neq (k := .i64) (a := (((Jn.add d el50.y.l).1 : Nat) : Int)) (b := ((2 : Nat) : Int)) e_4_8 rfl) ?_
                  refine L_nil ?_
                  refine Th_n ?_
                  refine W_false (congrArg Value.bool ((by rw [Jn.add_zero (by omega)]; rfl) : ((((Jn.add d el50.y.l).1 : Nat) : Int) != ((2 : Nat) : Int)) = false)) ?_
                  refine W_skip ?_
                  refine InB_n ?_
                  refine InB_n ?_
                  refine InB_n ?_
                  refine Th_n ?_
                  refine W_rg ?_
                  refine L_mv rfl ?_
                  refine L_y rfl (Y_add (k := .i64) (a := ((i : Nat) : Int)) (b := ((1 : Nat) : Int)) (z := ((i + 1 : Nat) : Int)) e_4_6 rfl (wi (by omega))) ?_
                  refine L_as rfl ?_
                  refine L_nil ?_
                  refine Th_n ⟨_, ?_, (i + 1), _, bj, _, _, _, _, K71, S, _, _, rfl, e_4_0, e_4_5, rfl, (((((((H_24.erase 4).pull 3 rfl).pull 3 rfl).pull 3 rfl).pull 3 rfl).pull 5 rfl).pull 5 rfl), (by first | (rw [Jn.add_zero (d := d) (x := el50.y.l) (by omega)]; exact hRun.mono (by omega)) | (rw [Jn.add_long (d := d) (x := el50.y.l) (by omega)]; exact hRun.mono (by omega))), okK71, (by rw [f71_0, Jn.addLn (by first | (have := Jn.add_zero (d := d) (x := el50.y.l) (by omega); rw [this]; exact Nat.succ_ne_zero _) | (have := Jn.add_long (d := d) (x := el50.y.l) (by omega); rw [this]; exact Nat.succ_ne_zero _)), hKS]), (by omega), hsn, (by omega)⟩
                  omega
                ·
                  have hc_7' := ne_of_beq_false hc_7
                  refine W_seq ?_
                  refine W_rg ?_
                  refine L_mv rfl ?_
                  refine L_mv rfl ?_
                  refine L_y rfl (Y_idxT (j := i) T_sl51 (hT.hp H_24) hel50 e_4_0 e_4_6 rfl) ?_
                  refine L_y rfl (Y_fldT T_fld53_2 rfl (hT.hp H_24) hel50 rfl) ?_
                  refine L_y rfl (Y_ldT (j := i) (off := 2) T_scal22 (hT.hp H_24) hel50 rfl rfl rfl) ?_
                  refine L_y rfl (Y_lenS T_sl22 rfl) ?_
                  refine L_y rfl (Y_gtr (k := .i64) (a := ((el50.y.l.length : Nat) : Int)) (b := ((60000 : Nat) : Int)) rfl rfl) ?_
                  refine L_as rfl ?_
                  refine L_nil ?_
                  refine Th_n ?_
                  refine W_cond (b := (decide (((60000 : Nat) : Int) < ((el50.y.l.length : Nat) : Int)))) rfl (fun hc_8 => ?_) (fun hc_8 => ?_)
                  ·
                    have hc_8' := of_decide_eq_true hc_8
                    refine W_seq ?_
                    refine W_rg ?_
                    refine L_mv rfl ?_
                    refine L_y rfl (Y_neq (k := .i64) (a := (((Jn.add d el50.y.l).1 : Nat) : Int)) (b := ((3 : Nat) : Int)) e_4_8 rfl) ?_
                    refine L_nil ?_
                    refine Th_n ?_
                    refine W_false (congrArg Value.bool ((by rw [Jn.add_long (by omega)]; rfl) : ((((Jn.add d el50.y.l).1 : Nat) : Int) != ((3 : Nat) : Int)) = false)) ?_
                    refine W_skip ?_
                    refine InB_n ?_
                    refine InB_n ?_
                    refine InB_n ?_
                    refine Th_n ?_
                    refine W_rg ?_
                    refine L_mv rfl ?_
                    refine L_y rfl (Y_add (k := .i64) (a := ((i : Nat) : Int)) (b := ((1 : Nat) : Int)) (z := ((i + 1 : Nat) : Int)) e_4_6 rfl (wi (by omega))) ?_
                    refine L_as rfl ?_
                    refine L_nil ?_
                    refine Th_n ⟨_, ?_, (i + 1), _, bj, _, _, _, _, K71, S, _, _, rfl, e_4_0, e_4_5, rfl, (((((((H_24.erase 4).pull 3 rfl).pull 3 rfl).pull 3 rfl).pull 3 rfl).pull 5 rfl).pull 5 rfl), (by first | (rw [Jn.add_zero (d := d) (x := el50.y.l) (by omega)]; exact hRun.mono (by omega)) | (rw [Jn.add_long (d := d) (x := el50.y.l) (by omega)]; exact hRun.mono (by omega))), okK71, (by rw [f71_0, Jn.addLn (by first | (have := Jn.add_zero (d := d) (x := el50.y.l) (by omega); rw [this]; exact Nat.succ_ne_zero _) | (have := Jn.add_long (d := d) (x := el50.y.l) (by omega); rw [this]; exact Nat.succ_ne_zero _)), hKS]), (by omega), hsn, (by omega)⟩
                    omega
                  ·
                    have hc_8' := of_decide_eq_false hc_8
                    refine W_seq ?_
                    refine W_rg ?_
                    refine L_mv rfl ?_
                    refine L_y rfl (Y_eql (k := .i64) (a := (((Jn.add d el50.y.l).1 : Nat) : Int)) (b := ((0 : Nat) : Int)) e_4_8 rfl) ?_
                    refine L_as rfl ?_
                    refine L_nil ?_
                    refine Th_n ?_
                    refine W_cond (b := ((((Jn.add d el50.y.l).1 : Nat) : Int) == ((0 : Nat) : Int))) rfl (fun hc_9 => ?_) (fun hc_9 => ?_)
                    ·
                      have hAd := hRf.add (x := el50.y.l) ⟨by omega, by omega⟩ (by omega) gel50.lt
                      have hA0 : (Jn.add d el50.y.l).1 = 0 := by have := eq_of_beq hc_9; omega
                      have hR1 := (hAd.resolve_right (fun h9 => absurd (hA0.symm.trans h9.1) (by decide))).2
                      refine W_seq ?_
                      refine W_anyL 14 [1, 6, 12, 13] [108, 113, 119, 120] [Value.pointer (some ⟨bk38, 0, none⟩), undef, Value.pointer (some ⟨bk38, 0, none⟩), Value.pointer (some ⟨bk38, 0, none⟩), Value.pointer (some ⟨bk38, 2, none⟩), Value.slice sa S.length sc, undef, Value.slice a m c, Value.int .i64 ((i : Nat) : Int), pl a (i * 3 + 0), pl a (i * 3 + 0 + 2), Value.slice el50.y.a el50.y.l.length el50.y.c, undef, undef] (fun w => w.heap[bj]? = some (.cells #[Value.pointer (some ⟨b36, 0, none⟩), v71] 47 (0, 0)) ∧ w.heap[b36]? = some (.cells #[v71_2, Value.int .i64 (((Jn.add d el50.y.l).2).left), Value.bool (((Jn.add d el50.y.l).2).armed), Value.bool (((Jn.add d el50.y.l).2).off)] 65 (0, 0)) ∧ w.heap[bk38]? = some (.cells #[Value.pointer (some ⟨b36, 0, none⟩), Value.pointer (some ⟨bj, 0, none⟩), Value.slice sa S.length sc, vm, Value.bool dn] 56 (0, 0)) ∧ Stay w0 w) [fun vs w => Hp w0 [] w (Ent.blk bj 47 #[Value.pointer (some ⟨b36, 0, none⟩), v71] :: Ent.own v71 22 1 K71.length (rows K71) :: Ent.blk b36 65 #[v71_2, Value.int .i64 (((Jn.add d el50.y.l).2).left), Value.bool (((Jn.add d el50.y.l).2).armed), Value.bool (((Jn.add d el50.y.l).2).off)] :: Ent.own v71_2 5 1 (((Jn.add d el50.y.l).2).l.length) (us .u8 (((Jn.add d el50.y.l).2).l)) :: Ent.own (Value.slice a_ el50.y.l.length c_) 5 1 el50.y.l.length (us .u8 y9) :: Ent.blk bk38 56 #[Value.pointer (some ⟨b36, 0, none⟩), Value.pointer (some ⟨bj, 0, none⟩), Value.slice sa S.length sc, vm, Value.bool dn] :: Ent.own (Value.slice sa S.length sc) 22 1 S.length (rows S) :: (nest 5 K71 ++ ([] : List Ent))), fun vs w => ∃ bk108_, vs[0]? = some (Value.slice (some ⟨bk108_, 0, none⟩) 0 0) ∧ Hp w0 [] w (Ent.own (Value.slice (some ⟨bk108_, 0, none⟩) 0 0) 22 1 0 (rows []) :: Ent.blk bj 47 #[Value.pointer (some ⟨b36, 0, none⟩), v71] :: Ent.own v71 22 1 K71.length (rows K71) :: Ent.blk b36 65 #[v71_2, Value.int .i64 (((Jn.add d el50.y.l).2).left), Value.bool (((Jn.add d el50.y.l).2).armed), Value.bool (((Jn.add d el50.y.l).2).off)] :: Ent.own v71_2 5 1 (((Jn.add d el50.y.l).2).l.length) (us .u8 (((Jn.add d el50.y.l).2).l)) :: Ent.own (Value.slice a_ el50.y.l.length c_) 5 1 el50.y.l.length (us .u8 y9) :: Ent.blk bk38 56 #[Value.pointer (some ⟨b36, 0, none⟩), Value.pointer (some ⟨bj, 0, none⟩), Value.slice sa S.length sc, vm, Value.bool dn] :: Ent.own (Value.slice sa S.length sc) 22 1 S.length (rows S) :: (nest 5 K71 ++ ([] : List Ent))), fun _ _ => False, fun vs w => ∃ bk108_, ∃ v113_, vs[0]? = some (Value.slice (some ⟨bk108_, 0, none⟩) 0 0) ∧ vs[1]? = some (v113_) ∧ Hp w0 [] w (Ent.own v113_ 22 1 (0 + S.length) (rows S) :: Ent.blk bj 47 #[Value.pointer (some ⟨b36, 0, none⟩), v71] :: Ent.own v71 22 1 K71.length (rows K71) :: Ent.blk b36 65 #[v71_2, Value.int .i64 (((Jn.add d el50.y.l).2).left), Value.bool (((Jn.add d el50.y.l).2).armed), Value.bool (((Jn.add d el50.y.l).2).off)] :: Ent.own v71_2 5 1 (((Jn.add d el50.y.l).2).l.length) (us .u8 (((Jn.add d el50.y.l).2).l)) :: Ent.own (Value.slice a_ el50.y.l.length c_) 5 1 el50.y.l.length (us .u8 y9) :: Ent.blk bk38 56 #[Value.pointer (some ⟨b36, 0, none⟩), Value.pointer (some ⟨bj, 0, none⟩), Value.slice sa S.length sc, vm, Value.bool dn] :: Ent.own (Value.slice sa S.length sc) 22 1 S.length (rows S) :: (nest 5 K71 ++ ([] : List Ent))), fun vs w => ∃ bk119_, vs[2]? = some (Value.slice (some ⟨bk119_, 0, none⟩) 1 1) ∧ Hp w0 [] w (Ent.blk bk119_ 22 #[Value.slice el50.y.a el50.y.l.length el50.y.c] :: Ent.blk bj 47 #[Value.pointer (some ⟨b36, 0, none⟩), v71] :: Ent.own v71 22 1 K71.length (rows K71) :: Ent.blk b36 65 #[v71_2, Value.int .i64 (((Jn.add d el50.y.l).2).left), Value.bool (((Jn.add d el50.y.l).2).armed), Value.bool (((Jn.add d el50.y.l).2).off)] :: Ent.own v71_2 5 1 (((Jn.add d el50.y.l).2).l.length) (us .u8 (((Jn.add d el50.y.l).2).l)) :: Ent.own (Value.slice a_ el50.y.l.length c_) 5 1 el50.y.l.length (us .u8 y9) :: Ent.blk bk38 56 #[Value.pointer (some ⟨b36, 0, none⟩), Value.pointer (some ⟨bj, 0, none⟩), Value.slice sa S.length sc, vm, Value.bool dn] :: Ent.own (Value.slice sa S.length sc) 22 1 S.length (rows S) :: (nest 5 K71 ++ ([] : List Ent))), fun vs w => ∃ bk108_, ∃ bk119_, vs[0]? = some (Value.slice (some ⟨bk108_, 0, none⟩) 0 0) ∧ vs[2]? = some (Value.slice (some ⟨bk119_, 0, none⟩) 1 1) ∧ Hp w0 [] w (Ent.own (Value.slice (some ⟨bk108_, 0, none⟩) 0 0) 22 1 0 (rows []) :: Ent.blk bk119_ 22 #[Value.slice el50.y.a el50.y.l.length el50.y.c] :: Ent.blk bj 47 #[Value.pointer (some ⟨b36, 0, none⟩), v71] :: Ent.own v71 22 1 K71.length (rows K71) :: Ent.blk b36 65 #[v71_2, Value.int .i64 (((Jn.add d el50.y.l).2).left), Value.bool (((Jn.add d el50.y.l).2).armed), Value.bool (((Jn.add d el50.y.l).2).off)] :: Ent.own v71_2 5 1 (((Jn.add d el50.y.l).2).l.length) (us .u8 (((Jn.add d el50.y.l).2).l)) :: Ent.own (Value.slice a_ el50.y.l.length c_) 5 1 el50.y.l.length (us .u8 y9) :: Ent.blk bk38 56 #[Value.pointer (some ⟨b36, 0, none⟩), Value.pointer (some ⟨bj, 0, none⟩), Value.slice sa S.length sc, vm, Value.bool dn] :: Ent.own (Value.slice sa S.length sc) 22 1 S.length (rows S) :: (nest 5 K71 ++ ([] : List Ent))), fun _ _ => False, fun vs w => ∃ bk108_, ∃ v113_, ∃ bk119_, vs[0]? = some (Value.slice (some ⟨bk108_, 0, none⟩) 0 0) ∧ vs[1]? = some (v113_) ∧ vs[2]? = some (Value.slice (some ⟨bk119_, 0, none⟩) 1 1) ∧ Hp w0 [] w (Ent.own v113_ 22 1 (0 + S.length) (rows S) :: Ent.blk bk119_ 22 #[Value.slice el50.y.a el50.y.l.length el50.y.c] :: Ent.blk bj 47 #[Value.pointer (some ⟨b36, 0, none⟩), v71] :: Ent.own v71 22 1 K71.length (rows K71) :: Ent.blk b36 65 #[v71_2, Value.int .i64 (((Jn.add d el50.y.l).2).left), Value.bool (((Jn.add d el50.y.l).2).armed), Value.bool (((Jn.add d el50.y.l).2).off)] :: Ent.own v71_2 5 1 (((Jn.add d el50.y.l).2).l.length) (us .u8 (((Jn.add d el50.y.l).2).l)) :: Ent.own (Value.slice a_ el50.y.l.length c_) 5 1 el50.y.l.length (us .u8 y9) :: Ent.blk bk38 56 #[Value.pointer (some ⟨b36, 0, none⟩), Value.pointer (some ⟨bj, 0, none⟩), Value.slice sa S.length sc, vm, Value.bool dn] :: Ent.own (Value.slice sa S.length sc) 22 1 S.length (rows S) :: (nest 5 K71 ++ ([] : List Ent))), fun _ _ => False, fun _ _ => False, fun _ _ => False, fun _ _ => False, fun _ _ => False, fun _ _ => False, fun _ _ => False, fun vs w => ∃ bk108_, ∃ v113_, ∃ bk119_, ∃ v120_, vs[0]? = some (Value.slice (some ⟨bk108_, 0, none⟩) 0 0) ∧ vs[1]? = some (v113_) ∧ vs[2]? = some (Value.slice (some ⟨bk119_, 0, none⟩) 1 1) ∧ vs[3]? = some (v120_) ∧ Hp w0 [] w (Ent.own v120_ 22 1 ((0 + S.length) + 1) (rows (S ++ [(⟨el50.y.a, el50.y.c, el50.y.l⟩ : Lt)])) :: Ent.blk bk119_ 22 #[Value.slice el50.y.a el50.y.l.length el50.y.c] :: Ent.blk bj 47 #[Value.pointer (some ⟨b36, 0, none⟩), v71] :: Ent.own v71 22 1 K71.length (rows K71) :: Ent.blk b36 65 #[v71_2, Value.int .i64 (((Jn.add d el50.y.l).2).left), Value.bool (((Jn.add d el50.y.l).2).armed), Value.bool (((Jn.add d el50.y.l).2).off)] :: Ent.own v71_2 5 1 (((Jn.add d el50.y.l).2).l.length) (us .u8 (((Jn.add d el50.y.l).2).l)) :: Ent.own (Value.slice a_ el50.y.l.length c_) 5 1 el50.y.l.length (us .u8 y9) :: Ent.blk bk38 56 #[Value.pointer (some ⟨b36, 0, none⟩), Value.pointer (some ⟨bj, 0, none⟩), Value.slice sa S.length sc, vm, Value.bool dn] :: Ent.own (Value.slice sa S.length sc) 22 1 S.length (rows S) :: (nest 5 K71 ++ ([] : List Ent)))] T_mixed (by kernel_rfl) ⟨fun _ _ H => ⟨H.get 0 rfl, H.get 2 rfl, H.get 5 rfl, H.stay⟩, fun _ _ h => by obtain ⟨_, _, H⟩ := h; exact ⟨H.get 1 rfl, H.get 3 rfl, H.get 6 rfl, H.stay⟩, fun _ _ h => h.elim, fun _ _ h => by obtain ⟨_, _, _, _, H⟩ := h; exact ⟨H.get 1 rfl, H.get 3 rfl, H.get 6 rfl, H.stay⟩, fun _ _ h => by obtain ⟨_, _, H⟩ := h; exact ⟨H.get 1 rfl, H.get 3 rfl, H.get 6 rfl, H.stay⟩, fun _ _ h => by obtain ⟨_, _, _, _, H⟩ := h; exact ⟨H.get 2 rfl, H.get 4 rfl, H.get 7 rfl, H.stay⟩, fun _ _ h => h.elim, fun _ _ h => by obtain ⟨_, _, _, _, _, _, H⟩ := h; exact ⟨H.get 2 rfl, H.get 4 rfl, H.get 7 rfl, H.stay⟩, fun _ _ h => h.elim, fun _ _ h => h.elim, fun _ _ h => h.elim, fun _ _ h => h.elim, fun _ _ h => h.elim, fun _ _ h => h.elim, fun _ _ h => h.elim, fun _ _ h => by obtain ⟨_, _, _, _, _, _, _, _, H⟩ := h; exact ⟨H.get 2 rfl, H.get 4 rfl, H.get 7 rfl, H.stay⟩, trivial⟩ ⟨fun _ _ _ hkp H => H.keep hkp, fun _ _ _ hkp h => by obtain ⟨q0, q1, H⟩ := h; exact ⟨q0, q1, H.keep hkp⟩, fun _ _ _ _ h => h.elim, fun _ _ _ hkp h => by obtain ⟨q0, q1, q2, q3, H⟩ := h; exact ⟨q0, q1, q2, q3, H.keep hkp⟩, fun _ _ _ hkp h => by obtain ⟨q0, q1, H⟩ := h; exact ⟨q0, q1, H.keep hkp⟩, fun _ _ _ hkp h => by obtain ⟨q0, q1, q2, q3, H⟩ := h; exact ⟨q0, q1, q2, q3, H.keep hkp⟩, fun _ _ _ _ h => h.elim, fun _ _ _ hkp h => by obtain ⟨q0, q1, q2, q3, q4, q5, H⟩ := h; exact ⟨q0, q1, q2, q3, q4, q5, H.keep hkp⟩, fun _ _ _ _ h => h.elim, fun _ _ _ _ h => h.elim, fun _ _ _ _ h => h.elim, fun _ _ _ _ h => h.elim, fun _ _ _ _ h => h.elim, fun _ _ _ _ h => h.elim, fun _ _ _ _ h => h.elim, fun _ _ _ hkp h => by obtain ⟨q0, q1, q2, q3, q4, q5, q6, q7, H⟩ := h; exact ⟨q0, q1, q2, q3, q4, q5, q6, q7, H.keep hkp⟩, trivial⟩ H_24 ?_ ?_
                      ·
                        refine .plain rfl (Pl_y rfl (fun w hBw => congrArg (fun v => Result.ok (Next.value v) w) e_4_5)) ?_
                        refine .special 0 rfl (Special.of ⟨⟨⟨⟨⟨⟨⟨⟨⟨⟨⟨⟨⟨⟨⟨⟨trivial, fun _ _ _ e' w' hAg hYs => by
                            have H : Hp w0 [] w' (Ent.blk bj 47 #[Value.pointer (some ⟨b36, 0, none⟩), v71] :: Ent.own v71 22 1 K71.length (rows K71) :: Ent.blk b36 65 #[v71_2, Value.int .i64 (((Jn.add d el50.y.l).2).left), Value.bool (((Jn.add d el50.y.l).2).armed), Value.bool (((Jn.add d el50.y.l).2).off)] :: Ent.own v71_2 5 1 (((Jn.add d el50.y.l).2).l.length) (us .u8 (((Jn.add d el50.y.l).2).l)) :: Ent.own (Value.slice a_ el50.y.l.length c_) 5 1 el50.y.l.length (us .u8 y9) :: Ent.blk bk38 56 #[Value.pointer (some ⟨b36, 0, none⟩), Value.pointer (some ⟨bj, 0, none⟩), Value.slice sa S.length sc, vm, Value.bool dn] :: Ent.own (Value.slice sa S.length sc) 22 1 S.length (rows S) :: (nest 5 K71 ++ ([] : List Ent))) := hYs
                            exact ⟨rfl, Dn_bsl (cs := #[]) H (pv := []) T_sl24 T_zero22 rfl Bp0 (by kernel_rfl) (fun b w2 Hn => ⟨_, rfl, (Hn.say (i := 0) (x' := Ent.own (Value.slice (some ⟨b, 0, none⟩) 0 0) 22 1 0 (rows [])) rfl (own_of_blk (Nat.le_refl _) (by decide) rfl rfl) (fun _ h => h) rfl)⟩)⟩⟩, fun h => absurd h (by decide)⟩, fun _ _ h => absurd (by decide) (h 1 6 rfl (by decide))⟩, fun h => absurd h (by decide)⟩, fun _ _ _ e' w' hAg hYs => by
                            obtain ⟨bk119_, q2, H⟩ := hYs
                            exact ⟨rfl, Dn_bsl (cs := #[]) H (pv := []) T_sl24 T_zero22 rfl Bp0 (by kernel_rfl) (fun b w2 Hn => ⟨_, bk119_, rfl, q2, (Hn.say (i := 0) (x' := Ent.own (Value.slice (some ⟨b, 0, none⟩) 0 0) 22 1 0 (rows [])) rfl (own_of_blk (Nat.le_refl _) (by decide) rfl rfl) (fun _ h => h) rfl)⟩)⟩⟩, fun h => absurd h (by decide)⟩, fun _ _ h => absurd (by decide) (h 1 6 rfl (by decide))⟩, fun h => absurd h (by decide)⟩, fun _ _ _ _ _ _ h => h.elim⟩, fun h => absurd h (by decide)⟩, fun _ _ h => absurd (by decide) (h 1 6 rfl (by decide))⟩, fun h => absurd h (by decide)⟩, fun _ _ _ _ _ _ h => h.elim⟩, fun h => absurd h (by decide)⟩, fun _ _ h => absurd (by decide) (h 1 6 rfl (by decide))⟩, fun h => absurd h (by decide)⟩) ?_
                        refine .plain rfl (Pl_y rfl (fun w hBw => congrArg (fun v => Result.ok (Next.value v) w) e_4_5)) ?_
                        refine .plain rfl (Pl_y rfl (fun w hBw => Y_nil rfl)) ?_
                        refine .plain rfl (Pl_y rfl (fun w hBw => Y_fld T_fld56_2 rfl rfl rfl)) ?_
                        refine .plain rfl (Pl_y rfl (fun w hBw => Y_ldb T_scal24 hBw.2.2.1 rfl rfl)) ?_
                        refine .special 1 rfl (Special.of ⟨⟨⟨⟨⟨⟨⟨⟨⟨⟨⟨⟨⟨⟨⟨⟨trivial, fun _ h => absurd (h 0 1 rfl (by decide)) (by decide)⟩, fun _ _ _ e' w' hAg hYs => by
                            obtain ⟨bk108_, q0, H⟩ := hYs
                            exact ⟨rfl, Dn_appT H (i := 0) rfl T_sl24 T_zero22 rfl T_szb22 (Option.some.inj q0) ((hAg 112 rfl).trans rfl) (Ts.own H (i := 7) rfl) (by omega) (fun v2 w2 Hn => ⟨bk108_, _, q0, rfl, Hn⟩)⟩⟩, fun h => absurd h (by decide)⟩, fun h => absurd h (by decide)⟩, fun _ h => absurd (h 0 1 rfl (by decide)) (by decide)⟩, fun _ _ _ e' w' hAg hYs => by
                            obtain ⟨bk108_, bk119_, q0, q2, H⟩ := hYs
                            exact ⟨rfl, Dn_appT H (i := 0) rfl T_sl24 T_zero22 rfl T_szb22 (Option.some.inj q0) ((hAg 112 rfl).trans rfl) (Ts.own H (i := 8) rfl) (by omega) (fun v2 w2 Hn => ⟨bk108_, _, bk119_, q0, rfl, q2, Hn⟩)⟩⟩, fun h => absurd h (by decide)⟩, fun h => absurd h (by decide)⟩, fun _ h => absurd (h 0 1 rfl (by decide)) (by decide)⟩, fun _ _ h => absurd (by decide) (h 3 13 rfl (by decide))⟩, fun h => absurd h (by decide)⟩, fun h => absurd h (by decide)⟩, fun _ h => absurd (h 0 1 rfl (by decide)) (by decide)⟩, fun _ _ h => absurd (by decide) (h 3 13 rfl (by decide))⟩, fun h => absurd h (by decide)⟩, fun h => absurd h (by decide)⟩) ?_
                        refine .plain rfl (Pl_y rfl (fun w hBw => congrArg (fun v => Result.ok (Next.value v) w) e_4_0)) ?_
                        refine .plain rfl (Pl_y rfl (fun w hBw => congrArg (fun v => Result.ok (Next.value v) w) e_4_6)) ?_
                        refine .plain rfl (Pl_y rfl (fun w hBw => Y_idxT (j := i) T_sl51 (hT.stay hBw.2.2.2) hel50 rfl rfl rfl)) ?_
                        refine .plain rfl (Pl_y rfl (fun w hBw => Y_fldT T_fld53_2 rfl (hT.stay hBw.2.2.2) hel50 rfl)) ?_
                        refine .plain rfl (Pl_y rfl (fun w hBw => Y_ldT (j := i) (off := 2) T_scal22 (hT.stay hBw.2.2.2) hel50 rfl rfl rfl)) ?_
                        refine .special 2 rfl (Special.of ⟨⟨⟨⟨⟨⟨⟨⟨⟨⟨⟨⟨⟨⟨⟨⟨trivial, fun _ _ _ e' w' hAg hYs => by
                            have H : Hp w0 [] w' (Ent.blk bj 47 #[Value.pointer (some ⟨b36, 0, none⟩), v71] :: Ent.own v71 22 1 K71.length (rows K71) :: Ent.blk b36 65 #[v71_2, Value.int .i64 (((Jn.add d el50.y.l).2).left), Value.bool (((Jn.add d el50.y.l).2).armed), Value.bool (((Jn.add d el50.y.l).2).off)] :: Ent.own v71_2 5 1 (((Jn.add d el50.y.l).2).l.length) (us .u8 (((Jn.add d el50.y.l).2).l)) :: Ent.own (Value.slice a_ el50.y.l.length c_) 5 1 el50.y.l.length (us .u8 y9) :: Ent.blk bk38 56 #[Value.pointer (some ⟨b36, 0, none⟩), Value.pointer (some ⟨bj, 0, none⟩), Value.slice sa S.length sc, vm, Value.bool dn] :: Ent.own (Value.slice sa S.length sc) 22 1 S.length (rows S) :: (nest 5 K71 ++ ([] : List Ent))) := hYs
                            exact ⟨rfl, Dn_bsl (cs := #[Value.slice el50.y.a el50.y.l.length el50.y.c]) H (pv := [(0, Value.slice el50.y.a el50.y.l.length el50.y.c)]) T_sl24 T_zero22 rfl (Bpc ((hAg 118 rfl).trans rfl) Bp0) (by kernel_rfl) (fun b w2 Hn => ⟨_, rfl, Hn⟩)⟩⟩, fun _ _ _ e' w' hAg hYs => by
                            obtain ⟨bk108_, q0, H⟩ := hYs
                            exact ⟨rfl, Dn_bsl (cs := #[Value.slice el50.y.a el50.y.l.length el50.y.c]) H (pv := [(0, Value.slice el50.y.a el50.y.l.length el50.y.c)]) T_sl24 T_zero22 rfl (Bpc ((hAg 118 rfl).trans rfl) Bp0) (by kernel_rfl) (fun b w2 Hn => ⟨bk108_, _, q0, rfl, Hn.swap⟩)⟩⟩, fun _ _ _ _ _ _ h => h.elim⟩, fun _ _ _ e' w' hAg hYs => by
                            obtain ⟨bk108_, v113_, q0, q1, H⟩ := hYs
                            exact ⟨rfl, Dn_bsl (cs := #[Value.slice el50.y.a el50.y.l.length el50.y.c]) H (pv := [(0, Value.slice el50.y.a el50.y.l.length el50.y.c)]) T_sl24 T_zero22 rfl (Bpc ((hAg 118 rfl).trans rfl) Bp0) (by kernel_rfl) (fun b w2 Hn => ⟨bk108_, v113_, _, q0, q1, rfl, Hn.swap⟩)⟩⟩, fun h => absurd h (by decide)⟩, fun h => absurd h (by decide)⟩, fun h => absurd h (by decide)⟩, fun h => absurd h (by decide)⟩, fun _ _ h => absurd (by decide) (h 3 13 rfl (by decide))⟩, fun _ _ h => absurd (by decide) (h 3 13 rfl (by decide))⟩, fun _ _ h => absurd (by decide) (h 3 13 rfl (by decide))⟩, fun _ _ h => absurd (by decide) (h 3 13 rfl (by decide))⟩, fun h => absurd h (by decide)⟩, fun h => absurd h (by decide)⟩, fun h => absurd h (by decide)⟩, fun h => absurd h (by decide)⟩) ?_
                        refine .special 3 rfl (Special.of ⟨⟨⟨⟨⟨⟨⟨⟨⟨⟨⟨⟨⟨⟨⟨⟨trivial, fun _ h => absurd (h 2 12 rfl (by decide)) (by decide)⟩, fun _ h => absurd (h 2 12 rfl (by decide)) (by decide)⟩, fun _ h => absurd (h 2 12 rfl (by decide)) (by decide)⟩, fun _ h => absurd (h 2 12 rfl (by decide)) (by decide)⟩, fun _ h => absurd (h 1 6 rfl (by decide)) (by decide)⟩, fun _ h => absurd (h 1 6 rfl (by decide)) (by decide)⟩, fun _ _ _ _ _ _ h => h.elim⟩, fun _ _ _ e' w' hAg hYs => by
                            obtain ⟨bk108_, v113_, bk119_, q0, q1, q2, H⟩ := hYs
                            exact ⟨rfl, Dn_appT H (i := 0) rfl T_sl24 T_zero22 rfl T_szb22 (Option.some.inj q1) (Option.some.inj q2) (Ts.blk (x0 := (⟨el50.y.a, el50.y.c, el50.y.l⟩ : Lt)) H (i := 1) rfl) (by omega) (fun v2 w2 Hn => ⟨bk108_, v113_, bk119_, _, q0, q1, q2, rfl, Hn⟩)⟩⟩, fun h => absurd h (by decide)⟩, fun h => absurd h (by decide)⟩, fun h => absurd h (by decide)⟩, fun h => absurd h (by decide)⟩, fun h => absurd h (by decide)⟩, fun h => absurd h (by decide)⟩, fun h => absurd h (by decide)⟩, fun h => absurd h (by decide)⟩) ?_
                        exact .nil _
                      ·
                        intro e_5 w_16 hAg hYs
                        obtain ⟨bk108_, v113_, bk119_, v120_, q0, q1, q2, q3, H_26⟩ := hYs
                        have e_5_108 : e_5 108 = Value.slice (some ⟨bk108_, 0, none⟩) 0 0 := Option.some.inj q0
                        have e_5_113 : e_5 113 = v113_ := Option.some.inj q1
                        have e_5_119 : e_5 119 = Value.slice (some ⟨bk119_, 0, none⟩) 1 1 := Option.some.inj q2
                        have e_5_120 : e_5 120 = v120_ := Option.some.inj q3
                        have e_5_0 : e_5 0 = Value.slice a m c := (hAg 0 rfl).trans e_4_0
                        have e_5_5 : e_5 5 = Value.pointer (some ⟨bk38, 0, none⟩) := (hAg 5 rfl).trans e_4_5
                        have e_5_6 : e_5 6 = Value.int .i64 ((i : Nat) : Int) := (hAg 6 rfl).trans e_4_6
                        have e_5_107 : e_5 107 = Value.pointer (some ⟨bk38, 0, none⟩) := (hAg 107 rfl).trans rfl
                        refine L_y rfl (Y_nil e_5_107) ?_
                        refine L_y rfl (Y_fld T_fld56_2 rfl rfl rfl) ?_
                        refine L_st (v := v120_) T_scal24 H_26 (i := 7) rfl rfl e_5_120 (own_one H_26 (i := 0) rfl) (Nat.le_of_ble_eq_true rfl) (l' := (Ent.own v120_ 22 1 ((0 + S.length) + 1) (rows (S ++ [(⟨el50.y.a, el50.y.c, el50.y.l⟩ : Lt)])) :: Ent.blk bk119_ 22 #[Value.slice el50.y.a el50.y.l.length el50.y.c] :: Ent.blk bj 47 #[Value.pointer (some ⟨b36, 0, none⟩), v71] :: Ent.own v71 22 1 K71.length (rows K71) :: Ent.blk b36 65 #[v71_2, Value.int .i64 (((Jn.add d el50.y.l).2).left), Value.bool (((Jn.add d el50.y.l).2).armed), Value.bool (((Jn.add d el50.y.l).2).off)] :: Ent.own v71_2 5 1 (((Jn.add d el50.y.l).2).l.length) (us .u8 (((Jn.add d el50.y.l).2).l)) :: Ent.own (Value.slice a_ el50.y.l.length c_) 5 1 el50.y.l.length (us .u8 y9) :: Ent.blk bk38 56 #[Value.pointer (some ⟨b36, 0, none⟩), Value.pointer (some ⟨bj, 0, none⟩), v120_, vm, Value.bool dn] :: Ent.own (Value.slice sa S.length sc) 22 1 S.length (rows S) :: (nest 5 K71 ++ ([] : List Ent)))) rfl ?_; intro w_17 H_27
                        refine L_nil ?_
                        refine Th_n ?_
                        refine W_seq ?_
                        refine W_rg ?_
                        refine L_mv rfl ?_
                        refine Exists.elim (Ts.opn H_27 (i := 0) rfl) fun a__2 hx_ => Exists.elim hx_ fun c__2 hv_2 => ?_
                        have H_28 : Hp w0 [] w_17 (Ent.own (Value.slice a__2 ((0 + S.length) + 1) c__2) 22 1 ((0 + S.length) + 1) (rows (S ++ [(⟨el50.y.a, el50.y.c, el50.y.l⟩ : Lt)])) :: Ent.blk bk119_ 22 #[Value.slice el50.y.a el50.y.l.length el50.y.c] :: Ent.blk bj 47 #[Value.pointer (some ⟨b36, 0, none⟩), v71] :: Ent.own v71 22 1 K71.length (rows K71) :: Ent.blk b36 65 #[v71_2, Value.int .i64 (((Jn.add d el50.y.l).2).left), Value.bool (((Jn.add d el50.y.l).2).armed), Value.bool (((Jn.add d el50.y.l).2).off)] :: Ent.own v71_2 5 1 (((Jn.add d el50.y.l).2).l.length) (us .u8 (((Jn.add d el50.y.l).2).l)) :: Ent.own (Value.slice a_ el50.y.l.length c_) 5 1 el50.y.l.length (us .u8 y9) :: Ent.blk bk38 56 #[Value.pointer (some ⟨b36, 0, none⟩), Value.pointer (some ⟨bj, 0, none⟩), Value.slice a__2 ((0 + S.length) + 1) c__2, vm, Value.bool dn] :: Ent.own (Value.slice sa S.length sc) 22 1 S.length (rows S) :: (nest 5 K71 ++ ([] : List Ent))) := by have h := H_27; rw [hv_2] at h; exact h
                        have H_29 : Hp w0 [] w_17 (Ent.own (Value.slice a__2 ((0 + S.length) + 1) c__2) 22 1 ((S ++ [(⟨el50.y.a, el50.y.c, el50.y.l⟩ : Lt)]).length) (rows (S ++ [(⟨el50.y.a, el50.y.c, el50.y.l⟩ : Lt)])) :: Ent.blk bk119_ 22 #[Value.slice el50.y.a el50.y.l.length el50.y.c] :: Ent.blk bj 47 #[Value.pointer (some ⟨b36, 0, none⟩), v71] :: Ent.own v71 22 1 K71.length (rows K71) :: Ent.blk b36 65 #[v71_2, Value.int .i64 (((Jn.add d el50.y.l).2).left), Value.bool (((Jn.add d el50.y.l).2).armed), Value.bool (((Jn.add d el50.y.l).2).off)] :: Ent.own v71_2 5 1 (((Jn.add d el50.y.l).2).l.length) (us .u8 (((Jn.add d el50.y.l).2).l)) :: Ent.own (Value.slice a_ el50.y.l.length c_) 5 1 el50.y.l.length (us .u8 y9) :: Ent.blk bk38 56 #[Value.pointer (some ⟨b36, 0, none⟩), Value.pointer (some ⟨bj, 0, none⟩), Value.slice a__2 ((0 + S.length) + 1) c__2, vm, Value.bool dn] :: Ent.own (Value.slice sa S.length sc) 22 1 S.length (rows S) :: (nest 5 K71 ++ ([] : List Ent))) := H_28.asN (i := 0) rfl (by first | rfl | simp) rfl rfl
                        have hn_2 : (0 + S.length) + 1 = (S ++ [(⟨el50.y.a, el50.y.c, el50.y.l⟩ : Lt)]).length := by first | rfl | simp
                        have H_30 : Hp w0 [] w_17 (Ent.own (Value.slice a__2 ((S ++ [(⟨el50.y.a, el50.y.c, el50.y.l⟩ : Lt)]).length) c__2) 22 1 ((S ++ [(⟨el50.y.a, el50.y.c, el50.y.l⟩ : Lt)]).length) (rows (S ++ [(⟨el50.y.a, el50.y.c, el50.y.l⟩ : Lt)])) :: Ent.blk bk119_ 22 #[Value.slice el50.y.a el50.y.l.length el50.y.c] :: Ent.blk bj 47 #[Value.pointer (some ⟨b36, 0, none⟩), v71] :: Ent.own v71 22 1 K71.length (rows K71) :: Ent.blk b36 65 #[v71_2, Value.int .i64 (((Jn.add d el50.y.l).2).left), Value.bool (((Jn.add d el50.y.l).2).armed), Value.bool (((Jn.add d el50.y.l).2).off)] :: Ent.own v71_2 5 1 (((Jn.add d el50.y.l).2).l.length) (us .u8 (((Jn.add d el50.y.l).2).l)) :: Ent.own (Value.slice a_ el50.y.l.length c_) 5 1 el50.y.l.length (us .u8 y9) :: Ent.blk bk38 56 #[Value.pointer (some ⟨b36, 0, none⟩), Value.pointer (some ⟨bj, 0, none⟩), Value.slice a__2 ((S ++ [(⟨el50.y.a, el50.y.c, el50.y.l⟩ : Lt)]).length) c__2, vm, Value.bool dn] :: Ent.own (Value.slice sa S.length sc) 22 1 S.length (rows S) :: (nest 5 K71 ++ ([] : List Ent))) := by have h := H_29; first | exact h | (rw [hn_2] at h; exact h) | simpa [hn_2] using h
                        have H_31 : Hp w0 [] w_17 (Ent.blk bk38 56 #[Value.pointer (some ⟨b36, 0, none⟩), Value.pointer (some ⟨bj, 0, none⟩), Value.slice a__2 ((S ++ [(⟨el50.y.a, el50.y.c, el50.y.l⟩ : Lt)]).length) c__2, vm, Value.bool dn] :: Ent.own (Value.slice a__2 ((S ++ [(⟨el50.y.a, el50.y.c, el50.y.l⟩ : Lt)]).length) c__2) 22 1 ((S ++ [(⟨el50.y.a, el50.y.c, el50.y.l⟩ : Lt)]).length) (rows (S ++ [(⟨el50.y.a, el50.y.c, el50.y.l⟩ : Lt)])) :: Ent.blk bj 47 #[Value.pointer (some ⟨b36, 0, none⟩), v71] :: Ent.own v71 22 1 K71.length (rows K71) :: Ent.blk bk119_ 22 #[Value.slice el50.y.a el50.y.l.length el50.y.c] :: Ent.blk b36 65 #[v71_2, Value.int .i64 (((Jn.add d el50.y.l).2).left), Value.bool (((Jn.add d el50.y.l).2).armed), Value.bool (((Jn.add d el50.y.l).2).off)] :: Ent.own v71_2 5 1 (((Jn.add d el50.y.l).2).l.length) (us .u8 (((Jn.add d el50.y.l).2).l)) :: Ent.own (Value.slice a_ el50.y.l.length c_) 5 1 el50.y.l.length (us .u8 y9) :: Ent.own (Value.slice sa S.length sc) 22 1 S.length (rows S) :: (nest 5 K71 ++ ([] : List Ent))) := ((((H_30.pull 3 rfl).pull 3 rfl).pull 2 rfl).pull 7 rfl)
                        have Hc_2 : Hp w0 [] w_17 (Ent.blk bk38 56 #[Value.pointer (some ⟨b36, 0, none⟩), Value.pointer (some ⟨bj, 0, none⟩), Value.slice a__2 ((S ++ [(⟨el50.y.a, el50.y.c, el50.y.l⟩ : Lt)]).length) c__2, vm, Value.bool dn] :: Ent.own (Value.slice a__2 ((S ++ [(⟨el50.y.a, el50.y.c, el50.y.l⟩ : Lt)]).length) c__2) 22 1 ((S ++ [(⟨el50.y.a, el50.y.c, el50.y.l⟩ : Lt)]).length) (rows (S ++ [(⟨el50.y.a, el50.y.c, el50.y.l⟩ : Lt)])) :: Ent.blk bj 47 #[Value.pointer (some ⟨b36, 0, none⟩), v71] :: Ent.own v71 22 1 K71.length (rows K71) :: (nest 5 K71 ++ (Ent.blk bk119_ 22 #[Value.slice el50.y.a el50.y.l.length el50.y.c] :: Ent.blk b36 65 #[v71_2, Value.int .i64 (((Jn.add d el50.y.l).2).left), Value.bool (((Jn.add d el50.y.l).2).armed), Value.bool (((Jn.add d el50.y.l).2).off)] :: Ent.own v71_2 5 1 (((Jn.add d el50.y.l).2).l.length) (us .u8 (((Jn.add d el50.y.l).2).l)) :: Ent.own (Value.slice a_ el50.y.l.length c_) 5 1 el50.y.l.length (us .u8 y9) :: Ent.own (Value.slice sa S.length sc) 22 1 S.length (rows S) :: ([] : List Ent)))) := Hp.chunk [Ent.blk bk38 56 #[Value.pointer (some ⟨b36, 0, none⟩), Value.pointer (some ⟨bj, 0, none⟩), Value.slice a__2 ((S ++ [(⟨el50.y.a, el50.y.c, el50.y.l⟩ : Lt)]).length) c__2, vm, Value.bool dn], Ent.own (Value.slice a__2 ((S ++ [(⟨el50.y.a, el50.y.c, el50.y.l⟩ : Lt)]).length) c__2) 22 1 ((S ++ [(⟨el50.y.a, el50.y.c, el50.y.l⟩ : Lt)]).length) (rows (S ++ [(⟨el50.y.a, el50.y.c, el50.y.l⟩ : Lt)])), Ent.blk bj 47 #[Value.pointer (some ⟨b36, 0, none⟩), v71], Ent.own v71 22 1 K71.length (rows K71)] [Ent.blk bk119_ 22 #[Value.slice el50.y.a el50.y.l.length el50.y.c], Ent.blk b36 65 #[v71_2, Value.int .i64 (((Jn.add d el50.y.l).2).left), Value.bool (((Jn.add d el50.y.l).2).armed), Value.bool (((Jn.add d el50.y.l).2).off)], Ent.own v71_2 5 1 (((Jn.add d el50.y.l).2).l.length) (us .u8 (((Jn.add d el50.y.l).2).l)), Ent.own (Value.slice a_ el50.y.l.length c_) 5 1 el50.y.l.length (us .u8 y9), Ent.own (Value.slice sa S.length sc) 22 1 S.length (rows S)] (nest 5 K71) ([] : List Ent) H_31
                        refine L_callv rfl rfl T_en24 (A1 e_5_5) (jholds (S := S ++ [(⟨el50.y.a, el50.y.c, el50.y.l⟩ : Lt)]) (K := K71) (by rw [keys_snoc, ← hKS]; show Jn.ok (keys K ++ [el50.y.l]); rw [← Jn.addL0 (d := d) hA0, ← f71_0]; exact okK71) (fun x hx => Seen.mono (X := []) ((fun z hz => (List.mem_append.1 hz).elim (hsn z) (fun h1 => by rw [List.mem_singleton.1 h1]; exact Seen.old gel50.sl)) x hx) (fun y hy => absurd hy (by simp))) (by rw [f71_0, Jn.addL0 hA0, hKS, keys_snoc]; rfl) Hc_2) ?_
                        rintro _ w_18 ⟨v124, rfl, H_32⟩; refine ⟨_, rfl, ?_⟩
                        have H_33 : Hp w0 [] w_18 (Ent.blk bk38 56 #[Value.pointer (some ⟨b36, 0, none⟩), Value.pointer (some ⟨bj, 0, none⟩), Value.slice a__2 ((S ++ [(⟨el50.y.a, el50.y.c, el50.y.l⟩ : Lt)]).length) c__2, Value.slice none 0 0, Value.bool dn] :: Ent.own (Value.slice a__2 ((S ++ [(⟨el50.y.a, el50.y.c, el50.y.l⟩ : Lt)]).length) c__2) 22 1 ((S ++ [(⟨el50.y.a, el50.y.c, el50.y.l⟩ : Lt)]).length) (rows (S ++ [(⟨el50.y.a, el50.y.c, el50.y.l⟩ : Lt)])) :: Ent.blk bj 47 #[Value.pointer (some ⟨b36, 0, none⟩), v124] :: Ent.own v124 22 1 K71.length (rows K71) :: Ent.blk bk119_ 22 #[Value.slice el50.y.a el50.y.l.length el50.y.c] :: Ent.blk b36 65 #[v71_2, Value.int .i64 (((Jn.add d el50.y.l).2).left), Value.bool (((Jn.add d el50.y.l).2).armed), Value.bool (((Jn.add d el50.y.l).2).off)] :: Ent.own v71_2 5 1 (((Jn.add d el50.y.l).2).l.length) (us .u8 (((Jn.add d el50.y.l).2).l)) :: Ent.own (Value.slice a_ el50.y.l.length c_) 5 1 el50.y.l.length (us .u8 y9) :: Ent.own (Value.slice sa S.length sc) 22 1 S.length (rows S) :: (nest 5 K71 ++ ([] : List Ent))) := Hp.chunk [Ent.blk bk38 56 #[Value.pointer (some ⟨b36, 0, none⟩), Value.pointer (some ⟨bj, 0, none⟩), Value.slice a__2 ((S ++ [(⟨el50.y.a, el50.y.c, el50.y.l⟩ : Lt)]).length) c__2, Value.slice none 0 0, Value.bool dn], Ent.own (Value.slice a__2 ((S ++ [(⟨el50.y.a, el50.y.c, el50.y.l⟩ : Lt)]).length) c__2) 22 1 ((S ++ [(⟨el50.y.a, el50.y.c, el50.y.l⟩ : Lt)]).length) (rows (S ++ [(⟨el50.y.a, el50.y.c, el50.y.l⟩ : Lt)])), Ent.blk bj 47 #[Value.pointer (some ⟨b36, 0, none⟩), v124], Ent.own v124 22 1 K71.length (rows K71)] (nest 5 K71) [Ent.blk bk119_ 22 #[Value.slice el50.y.a el50.y.l.length el50.y.c], Ent.blk b36 65 #[v71_2, Value.int .i64 (((Jn.add d el50.y.l).2).left), Value.bool (((Jn.add d el50.y.l).2).armed), Value.bool (((Jn.add d el50.y.l).2).off)], Ent.own v71_2 5 1 (((Jn.add d el50.y.l).2).l.length) (us .u8 (((Jn.add d el50.y.l).2).l)), Ent.own (Value.slice a_ el50.y.l.length c_) 5 1 el50.y.l.length (us .u8 y9), Ent.own (Value.slice sa S.length sc) 22 1 S.length (rows S)] ([] : List Ent) H_32
                        refine L_y rfl (Y_not (b := true) rfl) ?_
                        refine L_nil ?_
                        refine Th_n ?_
                        refine W_false rfl ?_
                        refine W_skip ?_
                        refine InB_n ?_
                        refine InB_n ?_
                        refine InB_n ?_
                        refine Th_n ?_
                        refine W_rg ?_
                        refine L_mv rfl ?_
                        refine L_y rfl (Y_add (k := .i64) (a := ((i : Nat) : Int)) (b := ((1 : Nat) : Int)) (z := ((i + 1 : Nat) : Int)) e_5_6 rfl (wi (by omega))) ?_
                        refine L_as rfl ?_
                        refine L_nil ?_
                        refine Th_n ⟨_, ?_, (i + 1), _, bj, _, _, _, _, K71, S ++ [(⟨el50.y.a, el50.y.c, el50.y.l⟩ : Lt)], _, _, rfl, e_5_0, e_5_5, rfl, (((((((((H_33.erase 4).erase 6).erase 6).pull 5 rfl).pull 5 rfl).pull 5 rfl).pull 5 rfl).pull 5 rfl).pull 5 rfl), (by rw [hc_5, keys_snoc]; exact hR1.mono (by omega)), okK71, (by rw [f71_0, Jn.addL0 hA0, hKS, keys_snoc]; rfl), (by rw [List.length_append, List.length_singleton]; omega), (by intro z hz; rcases List.mem_append.1 hz with h1 | h1; exact hsn z h1; rw [List.mem_singleton.1 h1]; exact Seen.old gel50.sl), (by omega)⟩
                        omega
                    ·
                      have hAd := hRf.add (x := el50.y.l) ⟨by omega, by omega⟩ (by omega) gel50.lt
                      have hR2 := hAd.resolve_left (fun h9 => absurd (by rw [h9.1] : ((((Jn.add d el50.y.l).1 : Nat) : Int)) = ((0 : Nat) : Int)) (ne_of_beq_false hc_9))
                      refine W_seq ?_
                      refine W_rg ?_
                      refine L_mv rfl ?_
                      refine L_y rfl (Y_eql (k := .i64) (a := (((Jn.add d el50.y.l).1 : Nat) : Int)) (b := ((210 : Nat) : Int)) e_4_8 rfl) ?_
                      refine L_mv rfl ?_
                      refine G_mv (wE rfl (congrArg Value.bool ((by rw [hR2.1]; rfl) : ((((Jn.add d el50.y.l).1 : Nat) : Int) == ((210 : Nat) : Int)) = true))) rfl ?_
                      refine G_y (wE rfl (congrArg Value.bool ((by rw [hR2.1]; rfl) : ((((Jn.add d el50.y.l).1 : Nat) : Int) == ((210 : Nat) : Int)) = true))) rfl (Y_nil e_4_5) ?_
                      refine G_y (wE rfl (congrArg Value.bool ((by rw [hR2.1]; rfl) : ((((Jn.add d el50.y.l).1 : Nat) : Int) == ((210 : Nat) : Int)) = true))) rfl (Y_fld T_fld56_0 rfl rfl rfl) ?_
                      refine G_y (wE rfl (congrArg Value.bool ((by rw [hR2.1]; rfl) : ((((Jn.add d el50.y.l).1 : Nat) : Int) == ((210 : Nat) : Int)) = true))) rfl (Y_ld T_scal29 H_24 (i := 5) rfl rfl rfl) ?_
                      have H_34 : Hp w0 [] w_14 (Ent.blk bj 47 #[Value.pointer (some ⟨b36, 0, none⟩), v71] :: Ent.own v71 22 1 K71.length (rows K71) :: Ent.blk b36 65 #[v71_2, Value.int .i64 (((Jn.add d el50.y.l).2).left), Value.bool (((Jn.add d el50.y.l).2).armed), Value.bool (((Jn.add d el50.y.l).2).off)] :: Ent.own v71_2 5 1 ((((Jn.add d el50.y.l).2).l).length) (us .u8 (((Jn.add d el50.y.l).2).l)) :: Ent.own (Value.slice a_ el50.y.l.length c_) 5 1 el50.y.l.length (us .u8 y9) :: Ent.blk bk38 56 #[Value.pointer (some ⟨b36, 0, none⟩), Value.pointer (some ⟨bj, 0, none⟩), Value.slice sa S.length sc, vm, Value.bool dn] :: Ent.own (Value.slice sa S.length sc) 22 1 S.length (rows S) :: (nest 5 K71 ++ ([] : List Ent))) := H_24.asL (i := 3) rfl (by rfl) rfl rfl
                      have H_35 : Hp w0 [] w_14 (Ent.blk b36 65 #[v71_2, Value.int .i64 (((Jn.add d el50.y.l).2).left), Value.bool (((Jn.add d el50.y.l).2).armed), Value.bool (((Jn.add d el50.y.l).2).off)] :: Ent.own v71_2 5 1 ((((Jn.add d el50.y.l).2).l).length) (us .u8 (((Jn.add d el50.y.l).2).l)) :: Ent.blk bj 47 #[Value.pointer (some ⟨b36, 0, none⟩), v71] :: Ent.own v71 22 1 K71.length (rows K71) :: Ent.own (Value.slice a_ el50.y.l.length c_) 5 1 el50.y.l.length (us .u8 y9) :: Ent.blk bk38 56 #[Value.pointer (some ⟨b36, 0, none⟩), Value.pointer (some ⟨bj, 0, none⟩), Value.slice sa S.length sc, vm, Value.bool dn] :: Ent.own (Value.slice sa S.length sc) 22 1 S.length (rows S) :: (nest 5 K71 ++ ([] : List Ent))) := ((H_34.pull 3 rfl).pull 3 rfl)
                      refine L_callv (wE rfl (congrArg Value.bool ((by rw [hR2.1]; rfl) : ((((Jn.add d el50.y.l).1 : Nat) : Int) == ((210 : Nat) : Int)) = true))) rfl T_en25 (A1 rfl) (dDown ((Jn.add d el50.y.l).2) H_35) ?_
                      rintro _ w_19 ⟨rfl, hkp_5⟩; refine ⟨_, rfl, ?_⟩; have H_36 := H_34.keep hkp_5
                      refine L_y rfl (Y_pickT (congrArg Value.bool ((by rw [hR2.1]; rfl) : ((((Jn.add d el50.y.l).1 : Nat) : Int) == ((210 : Nat) : Int)) = true))) ?_
                      refine L_as rfl ?_
                      refine L_nil ?_
                      refine Th_n ?_
                      refine W_true (congrArg Value.bool (hR2.2.off : (((Jn.add d el50.y.l).2).off) = true)) ?_
                      refine W_seq ?_
                      refine W_rg ?_
                      refine L_mv rfl ?_
                      refine L_y rfl (Y_nil e_4_5) ?_
                      refine L_y rfl (Y_fld T_fld56_4 rfl rfl rfl) ?_
                      refine L_st (v := Value.bool true) T_scal4 H_36 (i := 5) rfl rfl rfl rfl (Nat.le_of_ble_eq_true rfl) (l' := (Ent.blk bj 47 #[Value.pointer (some ⟨b36, 0, none⟩), v71] :: Ent.own v71 22 1 K71.length (rows K71) :: Ent.blk b36 65 #[v71_2, Value.int .i64 (((Jn.add d el50.y.l).2).left), Value.bool (((Jn.add d el50.y.l).2).armed), Value.bool (((Jn.add d el50.y.l).2).off)] :: Ent.own v71_2 5 1 ((((Jn.add d el50.y.l).2).l).length) (us .u8 (((Jn.add d el50.y.l).2).l)) :: Ent.own (Value.slice a_ el50.y.l.length c_) 5 1 el50.y.l.length (us .u8 y9) :: Ent.blk bk38 56 #[Value.pointer (some ⟨b36, 0, none⟩), Value.pointer (some ⟨bj, 0, none⟩), Value.slice sa S.length sc, vm, Value.bool true] :: Ent.own (Value.slice sa S.length sc) 22 1 S.length (rows S) :: (nest 5 K71 ++ ([] : List Ent)))) rfl ?_; intro w_20 H_37
                      refine L_nil ?_
                      refine Th_n ?_
                      refine W_rg ?_
                      refine L_mv rfl ?_
                      refine L_mv rfl ?_
                      refine L_mv rfl ?_
                      refine L_y rfl (Y_idxT (j := i) T_sl51 (hT.hp H_37) hel50 e_4_0 e_4_6 rfl) ?_
                      refine L_y rfl (Y_fldT T_fld53_2 rfl (hT.hp H_37) hel50 rfl) ?_
                      refine L_y rfl (Y_ldT (j := i) (off := 2) T_scal22 (hT.hp H_37) hel50 rfl rfl rfl) ?_
                      refine L_y rfl (Y_nil e_4_5) ?_
                      refine L_y rfl (Y_fld T_fld56_3 rfl rfl rfl) ?_
                      refine L_st (v := Value.slice el50.y.a el50.y.l.length el50.y.c) T_scal22 H_37 (i := 5) rfl rfl rfl rfl (Nat.le_of_ble_eq_true rfl) (l' := (Ent.blk bj 47 #[Value.pointer (some ⟨b36, 0, none⟩), v71] :: Ent.own v71 22 1 K71.length (rows K71) :: Ent.blk b36 65 #[v71_2, Value.int .i64 (((Jn.add d el50.y.l).2).left), Value.bool (((Jn.add d el50.y.l).2).armed), Value.bool (((Jn.add d el50.y.l).2).off)] :: Ent.own v71_2 5 1 ((((Jn.add d el50.y.l).2).l).length) (us .u8 (((Jn.add d el50.y.l).2).l)) :: Ent.own (Value.slice a_ el50.y.l.length c_) 5 1 el50.y.l.length (us .u8 y9) :: Ent.blk bk38 56 #[Value.pointer (some ⟨b36, 0, none⟩), Value.pointer (some ⟨bj, 0, none⟩), Value.slice sa S.length sc, Value.slice el50.y.a el50.y.l.length el50.y.c, Value.bool true] :: Ent.own (Value.slice sa S.length sc) 22 1 S.length (rows S) :: (nest 5 K71 ++ ([] : List Ent)))) rfl ?_; intro w_21 H_38
                      refine L_nil ?_
                      refine InB_n ?_
                      refine InB_n ?_
                      refine InB_n ?_
                      refine Th_n ?_
                      refine W_rg ?_
                      refine L_mv rfl ?_
                      refine L_y rfl (Y_add (k := .i64) (a := ((i : Nat) : Int)) (b := ((1 : Nat) : Int)) (z := ((i + 1 : Nat) : Int)) e_4_6 rfl (wi (by omega))) ?_
                      refine L_as rfl ?_
                      refine L_nil ?_
                      refine Th_n ⟨_, ?_, (i + 1), _, bj, _, _, _, _, K71, S, _, _, rfl, e_4_0, e_4_5, rfl, (((((((H_38.erase 4).pull 3 rfl).pull 3 rfl).pull 3 rfl).pull 3 rfl).pull 5 rfl).pull 5 rfl), (hR2.2.mono (by omega)), okK71, (by rw [f71_0, Jn.addLn (by rw [hR2.1]; decide), hKS]), (by omega), hsn, (by omega)⟩
                      omega
          ·
            have hc_4' := ne_of_beq_false hc_4
            refine W_seq ?_
            refine W_rg ?_
            refine L_y rfl (Y_eql (k := .i64) (a := el50.kind) (b := ((1 : Nat) : Int)) rfl rfl) ?_
            refine L_as rfl ?_
            refine L_nil ?_
            refine Th_n ?_
            refine W_cond (b := (el50.kind == ((1 : Nat) : Int))) rfl (fun hc_10 => ?_) (fun hc_10 => ?_)
            ·
              have hc_10' := eq_of_beq hc_10
              refine W_seq ?_
              rcases Bool.eq_false_or_eq_true dn with hb_4 | hb_4
              ·
                refine W_quiet H_16 18 [Value.pointer (some ⟨bk38, 0, none⟩), Value.pointer (some ⟨bk38, 0, none⟩), Value.pointer (some ⟨bk38, 4, none⟩), Value.bool dn, Value.bool (!dn), Value.bool (!dn), undef, undef, undef, undef, undef, undef, undef, undef, undef, undef, undef, undef] T_mixed (by kernel_rfl) ?_ ?_
                ·
                  refine .plain rfl (Pl_y rfl (fun w hBw => congrArg (fun v => Result.ok (Next.value v) w) e_3_5)) ?_
                  refine .plain rfl (Pl_y rfl (fun w hBw => Y_nil rfl)) ?_
                  refine .plain rfl (Pl_y rfl (fun w hBw => Y_fld T_fld56_4 rfl rfl rfl)) ?_
                  refine .plain rfl (Pl_y rfl (fun w hBw => Y_ld T_scal4 hBw (i := 0) rfl rfl rfl)) ?_
                  refine .plain rfl (Pl_y rfl (fun w hBw => Y_not (b := dn) rfl)) ?_
                  refine .plain rfl (Pl_y rfl (fun w hBw => rfl)) ?_
                  refine .plain rfl (Pl_n (wN (b := true) rfl (congrArg Value.bool (congrArg Bool.not hb_4)))) ?_
                  refine .plain rfl (Pl_n (wN (b := true) rfl (congrArg Value.bool (congrArg Bool.not hb_4)))) ?_
                  refine .plain rfl (Pl_n (wN (b := true) rfl (congrArg Value.bool (congrArg Bool.not hb_4)))) ?_
                  refine .plain rfl (Pl_n (wN (b := true) rfl (congrArg Value.bool (congrArg Bool.not hb_4)))) ?_
                  refine .plain rfl (Pl_n (wN (b := true) rfl (congrArg Value.bool (congrArg Bool.not hb_4)))) ?_
                  refine .plain rfl (Pl_n (wN (b := true) rfl (congrArg Value.bool (congrArg Bool.not hb_4)))) ?_
                  refine .plain rfl (Pl_n (wN (b := true) rfl (congrArg Value.bool (congrArg Bool.not hb_4)))) ?_
                  refine .plain rfl (Pl_n (wN (b := true) rfl (congrArg Value.bool (congrArg Bool.not hb_4)))) ?_
                  refine .plain rfl (Pl_n (wN (b := true) rfl (congrArg Value.bool (congrArg Bool.not hb_4)))) ?_
                  refine .plain rfl (Pl_n (wN (b := true) rfl (congrArg Value.bool (congrArg Bool.not hb_4)))) ?_
                  refine .plain rfl (Pl_n (wN (b := true) rfl (congrArg Value.bool (congrArg Bool.not hb_4)))) ?_
                  refine .plain rfl (Pl_n (wN (b := true) rfl (congrArg Value.bool (congrArg Bool.not hb_4)))) ?_
                  exact .nil _
                ·
                  intro e_6 w_22 hAg H_39
                  have e_6_0 : e_6 0 = Value.slice a m c := (hAg 0 rfl).trans e_3_0
                  have e_6_5 : e_6 5 = Value.pointer (some ⟨bk38, 0, none⟩) := (hAg 5 rfl).trans e_3_5
                  have e_6_6 : e_6 6 = Value.int .i64 ((i : Nat) : Int) := (hAg 6 rfl).trans e_3_6
                  have e_6_154 : e_6 154 = Value.bool (!dn) := (hAg 154 rfl).trans rfl
                  have e_6_158 : e_6 158 = undef := (hAg 158 rfl).trans rfl
                  have e_6_166 : e_6 166 = undef := (hAg 166 rfl).trans rfl
                  refine G_no (wN (b := true) rfl (e_6_154.trans (congrArg Value.bool (congrArg Bool.not hb_4)))) rfl ?_
                  refine G_no (wN (b := true) rfl (e_6_154.trans (congrArg Value.bool (congrArg Bool.not hb_4)))) rfl ?_
                  refine L_y rfl (Y_pickF (e_6_154.trans (congrArg Value.bool (congrArg Bool.not hb_4)))) ?_
                  refine L_nil ?_
                  refine Th_n ?_
                  refine W_false rfl ?_
                  refine W_skip ?_
                  refine InB_n ?_
                  refine InB_n ?_
                  refine Th_n ?_
                  refine W_rg ?_
                  refine L_mv rfl ?_
                  refine L_y rfl (Y_add (k := .i64) (a := ((i : Nat) : Int)) (b := ((1 : Nat) : Int)) (z := ((i + 1 : Nat) : Int)) e_6_6 rfl (wi (by omega))) ?_
                  refine L_as rfl ?_
                  refine L_nil ?_
                  refine Th_n ⟨_, ?_, (i + 1), _, bj, _, _, _, _, K, S, _, _, rfl, e_6_0, e_6_5, rfl, H_39, (hRun.mono (by omega)), okK, hKS, (by omega), hsn, (by omega)⟩
                  omega
              ·
                have hRf := hRun; rw [hb_4] at hRf
                refine W_quiet H_16 18 [Value.pointer (some ⟨bk38, 0, none⟩), Value.pointer (some ⟨bk38, 0, none⟩), Value.pointer (some ⟨bk38, 4, none⟩), Value.bool dn, Value.bool (!dn), Value.bool (!dn), Value.pointer (some ⟨bk38, 0, none⟩), Value.pointer (some ⟨bk38, 0, none⟩), Value.pointer (some ⟨bk38, 0, none⟩), Value.pointer (some ⟨b36, 0, none⟩), Value.slice a m c, Value.int .i64 ((i : Nat) : Int), pl a (i * 3 + 0), pl a (i * 3 + 0 + 1), Value.int .i64 (el50.n), Value.int .u64 ((un el50.n : Nat) : Int), Value.int .u64 (((un el50.n) % 100000 : Nat) : Int), Value.int .i64 (((un el50.n) % 100000 : Nat) : Int)] T_mixed (by kernel_rfl) ?_ ?_
                ·
                  refine .plain rfl (Pl_y rfl (fun w hBw => congrArg (fun v => Result.ok (Next.value v) w) e_3_5)) ?_
                  refine .plain rfl (Pl_y rfl (fun w hBw => Y_nil rfl)) ?_
                  refine .plain rfl (Pl_y rfl (fun w hBw => Y_fld T_fld56_4 rfl rfl rfl)) ?_
                  refine .plain rfl (Pl_y rfl (fun w hBw => Y_ld T_scal4 hBw (i := 0) rfl rfl rfl)) ?_
                  refine .plain rfl (Pl_y rfl (fun w hBw => Y_not (b := dn) rfl)) ?_
                  refine .plain rfl (Pl_y rfl (fun w hBw => rfl)) ?_
                  refine .plain rfl (Pl_y (wE rfl (congrArg Value.bool (congrArg Bool.not hb_4))) (fun w hBw => congrArg (fun v => Result.ok (Next.value v) w) e_3_5)) ?_
                  refine .plain rfl (Pl_y (wE rfl (congrArg Value.bool (congrArg Bool.not hb_4))) (fun w hBw => Y_nil rfl)) ?_
                  refine .plain rfl (Pl_y (wE rfl (congrArg Value.bool (congrArg Bool.not hb_4))) (fun w hBw => Y_fld T_fld56_0 rfl rfl rfl)) ?_
                  refine .plain rfl (Pl_y (wE rfl (congrArg Value.bool (congrArg Bool.not hb_4))) (fun w hBw => Y_ld T_scal29 hBw (i := 0) rfl rfl rfl)) ?_
                  refine .plain rfl (Pl_y (wE rfl (congrArg Value.bool (congrArg Bool.not hb_4))) (fun w hBw => congrArg (fun v => Result.ok (Next.value v) w) e_3_0)) ?_
                  refine .plain rfl (Pl_y (wE rfl (congrArg Value.bool (congrArg Bool.not hb_4))) (fun w hBw => congrArg (fun v => Result.ok (Next.value v) w) e_3_6)) ?_
                  refine .plain rfl (Pl_y (wE rfl (congrArg Value.bool (congrArg Bool.not hb_4))) (fun w hBw => Y_idxT (j := i) T_sl51 (hT.hp hBw) hel50 rfl rfl rfl)) ?_
                  refine .plain rfl (Pl_y (wE rfl (congrArg Value.bool (congrArg Bool.not hb_4))) (fun w hBw => Y_fldT T_fld53_1 rfl (hT.hp hBw) hel50 rfl)) ?_
                  refine .plain rfl (Pl_y (wE rfl (congrArg Value.bool (congrArg Bool.not hb_4))) (fun w hBw => Y_ldT (j := i) (off := 1) T_scal3 (hT.hp hBw) hel50 rfl rfl rfl)) ?_
                  refine .plain rfl (Pl_y (wE rfl (congrArg Value.bool (congrArg Bool.not hb_4))) (fun w hBw => Y_convI (k := .i64) (n := el50.n) (z := ((un el50.n : Nat) : Int)) T_some3 T_kind42 rfl (un_wrap _))) ?_
                  refine .plain rfl (Pl_y (wE rfl (congrArg Value.bool (congrArg Bool.not hb_4))) (fun w hBw => Yu_rem (k := .u64) (un el50.n) 100000 rfl rfl (by decide))) ?_
                  refine .plain rfl (Pl_y (wE rfl (congrArg Value.bool (congrArg Bool.not hb_4))) (fun w hBw => Y_convI (k := .u64) (n := (((un el50.n) % 100000 : Nat) : Int)) (z := (((un el50.n) % 100000 : Nat) : Int)) T_some42 T_kind3 rfl (wi (by exact ⟨rfl, by omega, by have : ((un el50.n) % 100000) < 18446744073709551616 := (Nat.lt_of_le_of_lt (Nat.mod_le _ _) (un_lt _)); omega⟩)))) ?_
                  exact .nil _
                ·
                  intro e_7 w_23 hAg H_40
                  have e_7_0 : e_7 0 = Value.slice a m c := (hAg 0 rfl).trans e_3_0
                  have e_7_5 : e_7 5 = Value.pointer (some ⟨bk38, 0, none⟩) := (hAg 5 rfl).trans e_3_5
                  have e_7_6 : e_7 6 = Value.int .i64 ((i : Nat) : Int) := (hAg 6 rfl).trans e_3_6
                  have e_7_154 : e_7 154 = Value.bool (!dn) := (hAg 154 rfl).trans rfl
                  have e_7_158 : e_7 158 = Value.pointer (some ⟨b36, 0, none⟩) := (hAg 158 rfl).trans rfl
                  obtain ⟨x166, hx166⟩ : ∃ z_ : Nat, z_ = (un el50.n) % 100000 := ⟨_, rfl⟩
                  have rx166 : x166 < 18446744073709551616 := by rw [hx166]; exact (Nat.lt_of_le_of_lt (Nat.mod_le _ _) (un_lt _))
                  have e_7_166 : e_7 166 = Value.int .i64 ((x166 : Nat) : Int) := (hAg 166 rfl).trans (by rw [hx166]; exact rfl)
                  have H_41 : Hp w0 [] w_23 (Ent.blk b36 65 #[vd, Value.int .i64 (d.left), Value.bool d.armed, Value.bool d.off] :: Ent.own vd 5 1 d.l.length (us .u8 d.l) :: Ent.blk bk38 56 #[Value.pointer (some ⟨b36, 0, none⟩), Value.pointer (some ⟨bj, 0, none⟩), Value.slice sa S.length sc, vm, Value.bool dn] :: Ent.own (Value.slice sa S.length sc) 22 1 S.length (rows S) :: Ent.blk bj 47 #[Value.pointer (some ⟨b36, 0, none⟩), v] :: Ent.own v 22 1 K.length (rows K) :: (nest 5 K ++ ([] : List Ent))) := ((H_40.pull 5 rfl).pull 5 rfl)
                  refine L_callv (wE rfl (e_7_154.trans (congrArg Value.bool (congrArg Bool.not hb_4)))) rfl T_en20 (A2 e_7_158 e_7_166) (dArm d ((x166 : Nat) : Int) hRun.ok H_41) ?_
                  rintro _ w_24 ⟨v167, rfl, H_42⟩; refine ⟨_, rfl, ?_⟩
                  refine G_y (wE rfl (e_7_154.trans (congrArg Value.bool (congrArg Bool.not hb_4)))) rfl (Y_neq (k := .i64) (a := (((Dk.arm d ((x166 : Nat) : Int)).1 : Nat) : Int)) (b := ((0 : Nat) : Int)) rfl rfl) ?_
                  refine L_y rfl (Y_pickT (e_7_154.trans (congrArg Value.bool (congrArg Bool.not hb_4)))) ?_
                  refine L_nil ?_
                  refine Th_n ?_
                  refine W_false (congrArg Value.bool ((by rw [(hRf.arm (by rw [hx166]; exact Nat.mod_lt _ (by decide))).1]; rfl) : ((((Dk.arm d ((x166 : Nat) : Int)).1 : Nat) : Int) != ((0 : Nat) : Int)) = false)) ?_
                  refine W_skip ?_
                  refine InB_n ?_
                  refine InB_n ?_
                  refine Th_n ?_
                  refine W_rg ?_
                  refine L_mv rfl ?_
                  refine L_y rfl (Y_add (k := .i64) (a := ((i : Nat) : Int)) (b := ((1 : Nat) : Int)) (z := ((i + 1 : Nat) : Int)) e_7_6 rfl (wi (by omega))) ?_
                  refine L_as rfl ?_
                  refine L_nil ?_
                  refine Th_n ⟨_, ?_, (i + 1), _, bj, _, _, _, _, K, S, _, _, rfl, e_7_0, e_7_5, rfl, ((((((H_42.pull 1 rfl).pull 1 rfl).pull 5 rfl).pull 5 rfl).pull 5 rfl).pull 5 rfl), (by rw [hb_4]; exact (hRf.arm (by rw [hx166]; exact Nat.mod_lt _ (by decide))).2.mono (by omega)), okK, hKS, (by omega), hsn, (by omega)⟩
                  omega
            ·
              have hc_10' := ne_of_beq_false hc_10
              refine W_seq ?_
              refine W_rg ?_
              refine L_y rfl (Y_eql (k := .i64) (a := el50.kind) (b := ((2 : Nat) : Int)) rfl rfl) ?_
              refine L_as rfl ?_
              refine L_nil ?_
              refine Th_n ?_
              refine W_cond (b := (el50.kind == ((2 : Nat) : Int))) rfl (fun hc_11 => ?_) (fun hc_11 => ?_)
              ·
                have hc_11' := eq_of_beq hc_11
                refine W_seq ?_
                refine W_rg ?_
                refine L_mv rfl ?_
                have H_43 : Hp w0 [] w_10 (Ent.blk bk38 56 #[Value.pointer (some ⟨b36, 0, none⟩), Value.pointer (some ⟨bj, 0, none⟩), Value.slice sa S.length sc, vm, Value.bool dn] :: Ent.own (Value.slice sa S.length sc) 22 1 S.length (rows S) :: Ent.blk b36 65 #[vd, Value.int .i64 (d.left), Value.bool d.armed, Value.bool d.off] :: Ent.own vd 5 1 d.l.length (us .u8 d.l) :: Ent.blk bj 47 #[Value.pointer (some ⟨b36, 0, none⟩), v] :: Ent.own v 22 1 K.length (rows K) :: (nest 5 K ++ ([] : List Ent))) := ((((H_16.pull 5 rfl).pull 5 rfl).pull 3 rfl).pull 3 rfl)
                refine L_callv rfl rfl T_en23 (A1 e_3_5) (jopenR (S := S) d hRun.ok (hKS ▸ okK) (fun x hx => (hsn x hx).mono (fun y hy => absurd hy (by simp))) hRun.opens.1 hRun.opened H_43) ?_
                rintro _ w_25 ⟨b173, v173, v173_2, K173, rfl, f173_0, H_44⟩; refine ⟨_, rfl, ?_⟩
                have H_45 : Hp w0 [] w_25 (Ent.blk bk38 56 #[Value.pointer (some ⟨b36, 0, none⟩), Value.pointer (some ⟨b173, 0, none⟩), Value.slice sa S.length sc, Value.slice none 0 0, Value.bool false] :: Ent.own (Value.slice sa S.length sc) 22 1 S.length (rows S) :: Ent.blk b173 47 #[Value.pointer (some ⟨b36, 0, none⟩), v173] :: Ent.own v173 22 1 K173.length (rows K173) :: Ent.blk b36 65 #[v173_2, Value.int .i64 (((Jn.opens (Dk.restart d).2).2).left), Value.bool (((Jn.opens (Dk.restart d).2).2).armed), Value.bool (((Jn.opens (Dk.restart d).2).2).off)] :: Ent.own v173_2 5 1 (((Jn.opens (Dk.restart d).2).2).l.length) (us .u8 (((Jn.opens (Dk.restart d).2).2).l)) :: Ent.blk bj 47 #[Value.pointer (some ⟨b36, 0, none⟩), v] :: Ent.own v 22 1 K.length (rows K) :: (nest 5 K173 ++ (nest 5 K ++ ([] : List Ent)))) := Hp.chunk [Ent.blk bk38 56 #[Value.pointer (some ⟨b36, 0, none⟩), Value.pointer (some ⟨b173, 0, none⟩), Value.slice sa S.length sc, Value.slice none 0 0, Value.bool false], Ent.own (Value.slice sa S.length sc) 22 1 S.length (rows S), Ent.blk b173 47 #[Value.pointer (some ⟨b36, 0, none⟩), v173], Ent.own v173 22 1 K173.length (rows K173), Ent.blk b36 65 #[v173_2, Value.int .i64 (((Jn.opens (Dk.restart d).2).2).left), Value.bool (((Jn.opens (Dk.restart d).2).2).armed), Value.bool (((Jn.opens (Dk.restart d).2).2).off)], Ent.own v173_2 5 1 (((Jn.opens (Dk.restart d).2).2).l.length) (us .u8 (((Jn.opens (Dk.restart d).2).2).l))] (nest 5 K173) [Ent.blk bj 47 #[Value.pointer (some ⟨b36, 0, none⟩), v], Ent.own v 22 1 K.length (rows K)] (nest 5 K ++ ([] : List Ent)) H_44
                have kSK173 := f173_0
                have okK173 : Jn.ok (keys K173) := by rw [kSK173]; exact (hKS ▸ okK)
                refine L_y rfl (Y_not (b := true) rfl) ?_
                refine L_nil ?_
                refine Th_n ?_
                refine W_false rfl ?_
                refine W_skip ?_
                refine InB_n ?_
                refine InB_n ?_
                refine Th_n ?_
                refine W_rg ?_
                refine L_mv rfl ?_
                refine L_y rfl (Y_add (k := .i64) (a := ((i : Nat) : Int)) (b := ((1 : Nat) : Int)) (z := ((i + 1 : Nat) : Int)) e_3_6 rfl (wi (by omega))) ?_
                refine L_as rfl ?_
                refine L_nil ?_
                have H_46 : Hp w0 [] w_25 (Ent.blk bk38 56 #[Value.pointer (some ⟨b36, 0, none⟩), Value.pointer (some ⟨b173, 0, none⟩), Value.slice sa S.length sc, Value.slice none 0 0, Value.bool false] :: Ent.own (Value.slice sa S.length sc) 22 1 S.length (rows S) :: Ent.blk b173 47 #[Value.pointer (some ⟨b36, 0, none⟩), v173] :: Ent.own v173 22 1 K173.length (rows K173) :: Ent.blk b36 65 #[v173_2, Value.int .i64 (((Jn.opens (Dk.restart d).2).2).left), Value.bool (((Jn.opens (Dk.restart d).2).2).armed), Value.bool (((Jn.opens (Dk.restart d).2).2).off)] :: Ent.own v173_2 5 1 (((Jn.opens (Dk.restart d).2).2).l.length) (us .u8 (((Jn.opens (Dk.restart d).2).2).l)) :: Ent.blk bj 47 #[Value.pointer (some ⟨b36, 0, none⟩), v] :: Ent.own v 22 1 K.length (rows K) :: (nest 5 K ++ (nest 5 K173 ++ ([] : List Ent)))) := Hp.chunk [Ent.blk bk38 56 #[Value.pointer (some ⟨b36, 0, none⟩), Value.pointer (some ⟨b173, 0, none⟩), Value.slice sa S.length sc, Value.slice none 0 0, Value.bool false], Ent.own (Value.slice sa S.length sc) 22 1 S.length (rows S), Ent.blk b173 47 #[Value.pointer (some ⟨b36, 0, none⟩), v173], Ent.own v173 22 1 K173.length (rows K173), Ent.blk b36 65 #[v173_2, Value.int .i64 (((Jn.opens (Dk.restart d).2).2).left), Value.bool (((Jn.opens (Dk.restart d).2).2).armed), Value.bool (((Jn.opens (Dk.restart d).2).2).off)], Ent.own v173_2 5 1 (((Jn.opens (Dk.restart d).2).2).l.length) (us .u8 (((Jn.opens (Dk.restart d).2).2).l)), Ent.blk bj 47 #[Value.pointer (some ⟨b36, 0, none⟩), v], Ent.own v 22 1 K.length (rows K)] (nest 5 K173) (nest 5 K) ([] : List Ent) H_45
                have H_47 : Hp w0 [] w_25 (Ent.blk bk38 56 #[Value.pointer (some ⟨b36, 0, none⟩), Value.pointer (some ⟨b173, 0, none⟩), Value.slice sa S.length sc, Value.slice none 0 0, Value.bool false] :: Ent.own (Value.slice sa S.length sc) 22 1 S.length (rows S) :: Ent.blk b173 47 #[Value.pointer (some ⟨b36, 0, none⟩), v173] :: Ent.own v173 22 1 K173.length (rows K173) :: Ent.blk b36 65 #[v173_2, Value.int .i64 (((Jn.opens (Dk.restart d).2).2).left), Value.bool (((Jn.opens (Dk.restart d).2).2).armed), Value.bool (((Jn.opens (Dk.restart d).2).2).off)] :: Ent.own v173_2 5 1 (((Jn.opens (Dk.restart d).2).2).l.length) (us .u8 (((Jn.opens (Dk.restart d).2).2).l)) :: Ent.blk bj 47 #[Value.pointer (some ⟨b36, 0, none⟩), v] :: Ent.own v 22 1 K.length (rows K) :: (nest 5 K173 ++ ([] : List Ent))) := Hp.cast [Ent.blk bk38 56 #[Value.pointer (some ⟨b36, 0, none⟩), Value.pointer (some ⟨b173, 0, none⟩), Value.slice sa S.length sc, Value.slice none 0 0, Value.bool false], Ent.own (Value.slice sa S.length sc) 22 1 S.length (rows S), Ent.blk b173 47 #[Value.pointer (some ⟨b36, 0, none⟩), v173], Ent.own v173 22 1 K173.length (rows K173), Ent.blk b36 65 #[v173_2, Value.int .i64 (((Jn.opens (Dk.restart d).2).2).left), Value.bool (((Jn.opens (Dk.restart d).2).2).armed), Value.bool (((Jn.opens (Dk.restart d).2).2).off)], Ent.own v173_2 5 1 (((Jn.opens (Dk.restart d).2).2).l.length) (us .u8 (((Jn.opens (Dk.restart d).2).2).l)), Ent.blk bj 47 #[Value.pointer (some ⟨b36, 0, none⟩), v], Ent.own v 22 1 K.length (rows K)] (B := nest 5 K) H_46
                refine Th_n ⟨_, ?_, (i + 1), _, b173, _, _, _, _, K173, S, _, _, rfl, e_3_0, e_3_5, rfl, ((((((((H_47.erase 6).erase 6).pull 5 rfl).pull 5 rfl).pull 5 rfl).pull 5 rfl).pull 5 rfl).pull 5 rfl), (hRun.opens.2.mono (by omega)), okK173, kSK173, (by omega), hsn, (by omega)⟩
                omega
              ·
                have hc_11' := ne_of_beq_false hc_11
                refine W_skip ?_
                refine InB_n ?_
                refine InB_n ?_
                refine Th_n ?_
                refine W_rg ?_
                refine L_mv rfl ?_
                refine L_y rfl (Y_add (k := .i64) (a := ((i : Nat) : Int)) (b := ((1 : Nat) : Int)) (z := ((i + 1 : Nat) : Int)) e_3_6 rfl (wi (by omega))) ?_
                refine L_as rfl ?_
                refine L_nil ?_
                refine Th_n ⟨_, ?_, (i + 1), _, bj, _, _, _, _, K, S, _, _, rfl, e_3_0, e_3_5, rfl, H_16, (hRun.mono (by omega)), okK, hKS, (by omega), hsn, (by omega)⟩
                omega
        ·
          have hc_3' := of_decide_eq_false hc_3
          refine W_exit ?_
          refine Th_x ?_
          refine Th_x ?_
          refine InB_hit ?_
          refine Th_n ?_
          refine W_seq ?_
          refine W_rg ?_
          refine L_callv rfl rfl T_en9 (A0) (known_n _) ?_
          rintro _ w_26 ⟨rfl, hkp_6⟩; refine ⟨_, rfl, ?_⟩; have H_48 := H_16.keep hkp_6
          refine L_as rfl ?_
          refine L_nil ?_
          refine Th_n ?_
          refine W_ret ?_
          refine P_ret (vs := [Value.bool true]) (v := Value.bool true) rfl (.tmp rfl (Res.nil)) rfl ?_
          refine ⟨?_, H_48.nil_⟩
          rfl
end Go.Proofs.Ytgmmifpflllkfaa
