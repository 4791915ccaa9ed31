/- Walks of layers 6, 17, 21, 22: law opens. Printed by journal.py. -/
import Derived.Test.YtgmmifpflllkfaaJ5
namespace Go.Proofs.Ytgmmifpflllkfaa
open Go.Ev
set_option maxRecDepth 100000
theorem T_en9 : enters Try.prog 9 = true := by kernel_rfl
theorem T_en11 : enters Try.prog 11 = true := by kernel_rfl
attribute [local irreducible] Jn.add Jn.opens Jn.form Jn.sum4 Sm.sum Jn.read Jn.at_ Jn.rcode Dk.arm Dk.restart Dk.add Dk.cut in
theorem journalOpens_n (a : Option Addr) (m c : Nat) (l : List Nat) (hlt : ∀ u ∈ l, u < 256) (w0 : World) (hs0 : Sl w0 .u8 a m c l) :
    Calls Try.prog 4 #[Value.slice a m c] w0 (fun r_ w' => r_ = .returned (.bool true) ∧ Keep w0 w') := by
  have hll := hs0.len
  refine F_in Try.func4 rfl Try.ntmps4 rfl ?_
  intro e he
  have p_0 : e 0 = Value.slice a m c := he 0 _ rfl
  have H := Hp.start w0 []
  refine W_seq ?_
  refine W_rg ?_
  refine L_as rfl ?_
  refine L_nil ?_
  refine Th_n ?_
  refine W_seq ?_
  refine W_seq ?_
  refine W_rg ?_
  refine L_mv rfl ?_
  refine L_y rfl (Y_lenS T_sl22 p_0) ?_
  refine L_y rfl (Y_gtr (k := .i64) (a := ((m : Nat) : Int)) (b := ((100000 : Nat) : Int)) rfl rfl) ?_
  refine L_nil ?_
  refine Th_n ?_
  refine W_cond (b := (decide (((100000 : Nat) : Int) < ((m : Nat) : Int)))) rfl (fun hc => ?_) (fun hc => ?_)
  ·
    have hc' := of_decide_eq_true hc
    refine W_seq ?_
    refine W_rg ?_
    refine L_callv rfl rfl T_en9 (A0) (known_n _) ?_
    rintro _ w_2 ⟨rfl, hkp⟩; refine ⟨_, rfl, ?_⟩; have H_2 := H.keep hkp
    refine L_as rfl ?_
    refine L_nil ?_
    refine Th_n ?_
    refine W_ret ?_
    refine Th_r ?_
    refine P_ret (vs := [Value.bool true]) (v := Value.bool true) rfl (.tmp rfl (Res.nil)) rfl ?_
    refine ⟨?_, H_2.nil_⟩
    rfl
  ·
    have hc' := of_decide_eq_false hc; have hl16 : l.length ≤ 16777216 := by omega
    refine W_skip ?_
    refine Th_n ?_
    refine W_seq ?_
    refine W_rg ?_
    refine L_callv rfl rfl T_en13 (A0) (dNew H) ?_
    rintro _ w_3 ⟨b21, v21, rfl, H_3⟩; refine ⟨_, rfl, ?_⟩
    refine L_as rfl ?_
    refine L_nil ?_
    refine Th_n ?_
    refine W_seq ?_
    refine W_seq ?_
    refine W_rg ?_
    refine L_mv rfl ?_
    refine L_mv rfl ?_
    refine L_callv rfl rfl T_en14 (A2 rfl p_0) (dAdd Dk.new Dk.new_ok ((Seen.old (X := []) hs0).mono (fun _ h_ => h_)) hlt H_3) ?_
    rintro _ w_4 ⟨v24, rfl, H_4⟩; refine ⟨_, rfl, ?_⟩
    refine L_y rfl (Y_neq (k := .i64) (a := (((Dk.add Dk.new l).1 : Nat) : Int)) (b := ((0 : Nat) : Int)) rfl rfl) ?_
    refine L_nil ?_
    refine Th_n ?_
    refine W_false (congrArg Value.bool ((by rw [Jn.f0_add hl16]; rfl) : ((((Dk.add Dk.new l).1 : Nat) : Int) != ((0 : Nat) : Int)) = false)) ?_
    refine W_skip ?_
    refine Th_n ?_
    refine W_seq ?_
    refine W_rg ?_
    refine L_mv rfl ?_
    have H_5 : Hp w0 [] w_4 (Ent.blk b21 65 #[v24, Value.int .i64 (((Dk.add Dk.new l).2).left), Value.bool (((Dk.add Dk.new l).2).armed), Value.bool (((Dk.add Dk.new l).2).off)] :: Ent.own v24 5 1 ((((Dk.add Dk.new l).2).l).length) (us .u8 (((Dk.add Dk.new l).2).l)) :: ([] : List Ent)) := H_4.asL (i := 1) rfl (by rfl) rfl rfl
    refine L_callv rfl rfl T_en15 (A1 rfl) (jOpenOk (Jn.f0 l) (Jn.f0_ok hl16 hlt) (Jn.f0_opens hl16) H_5) ?_
    rintro _ w_5 ⟨b28, v28, v28_2, K28, rfl, f28_0, H_6⟩; refine ⟨_, rfl, ?_⟩
    have H_7 : Hp w0 [] w_5 (Ent.blk b28 47 #[Value.pointer (some ⟨b21, 0, none⟩), v28] :: Ent.own v28 22 1 K28.length (rows K28) :: Ent.blk b21 65 #[v28_2, Value.int .i64 (((Jn.opens (Jn.f0 l)).2).left), Value.bool (((Jn.opens (Jn.f0 l)).2).armed), Value.bool (((Jn.opens (Jn.f0 l)).2).off)] :: Ent.own v28_2 5 1 (((Jn.opens (Jn.f0 l)).2).l.length) (us .u8 (((Jn.opens (Jn.f0 l)).2).l)) :: (nest 5 K28 ++ ([] : List Ent))) := Hp.chunk [Ent.blk b28 47 #[Value.pointer (some ⟨b21, 0, none⟩), v28], Ent.own v28 22 1 K28.length (rows K28), Ent.blk b21 65 #[v28_2, Value.int .i64 (((Jn.opens (Jn.f0 l)).2).left), Value.bool (((Jn.opens (Jn.f0 l)).2).armed), Value.bool (((Jn.opens (Jn.f0 l)).2).off)], Ent.own v28_2 5 1 (((Jn.opens (Jn.f0 l)).2).l.length) (us .u8 (((Jn.opens (Jn.f0 l)).2).l))] (nest 5 K28) [] ([] : List Ent) H_6
    have okK28 : Jn.ok (keys K28) := by rw [f28_0]; exact Jn.read_ok (Jn.f0_ok hl16 hlt).len (Jn.f0_ok hl16 hlt).lt
    have kK : keys K28 = (Jn.read l).1 := f28_0.trans (by rw [Jn.f0_l hl16])
    refine L_mv rfl ?_
    refine L_y rfl (Y_ext rfl rfl) ?_
    refine L_y rfl (Y_ext rfl rfl) ?_
    refine L_as rfl ?_
    refine L_as rfl ?_
    refine L_nil ?_
    refine Th_n ?_
    refine W_seq ?_
    refine W_rg ?_
    refine L_mv rfl ?_
    refine L_callv rfl rfl T_en11 (A1 p_0) (rread (by omega) ((Seen.old (X := []) hs0).mono (fun _ h_ => .tail _ (.tail _ (.tail _ (.tail _ (List.mem_append_right _ (h_))))))) hlt H_7) ?_
    rintro _ w_6 ⟨a33, c33, K33, p33, rfl, f33_0, H_8⟩; refine ⟨_, rfl, ?_⟩
    have EK33 := f33_0.1; have SK33 := f33_0.2 [] (Seen.old hs0)
    have okK33 : Jn.ok (keys K33) := Jn.End.ok EK33 (by omega) hlt
    have lenK33 := okK33.len; rw [keys_len] at lenK33
    have hKK : keys K28 = keys K33 := kK.trans (congrArg Prod.fst EK33.read)
    have hKL : K28.length = K33.length := by rw [← keys_len, hKK, keys_len]
    have hp2 : p33 ≤ m := by have := EK33.1.le; omega
    refine L_mv rfl ?_
    refine L_y rfl (Y_ext rfl rfl) ?_
    refine L_y rfl (Y_ext rfl rfl) ?_
    refine L_as rfl ?_
    refine L_as rfl ?_
    refine L_nil ?_
    refine Th_n ?_
    refine W_seq ?_
    refine W_rg ?_
    refine L_mv rfl ?_
    have H_9 : Hp w0 [] w_6 (Ent.own (Value.slice a33 K33.length c33) 22 1 K33.length (rows K33) :: Ent.blk b28 47 #[Value.pointer (some ⟨b21, 0, none⟩), v28] :: Ent.own v28 22 1 K28.length (rows K28) :: Ent.blk b21 65 #[v28_2, Value.int .i64 (((Jn.opens (Jn.f0 l)).2).left), Value.bool (((Jn.opens (Jn.f0 l)).2).armed), Value.bool (((Jn.opens (Jn.f0 l)).2).off)] :: Ent.own v28_2 5 1 ((((Jn.opens (Jn.f0 l)).2).l).length) (us .u8 (((Jn.opens (Jn.f0 l)).2).l)) :: (nest 5 K28 ++ ([] : List Ent))) := H_8.asL (i := 4) rfl (by rfl) rfl rfl
    have H_10 : Hp w0 [] w_6 (Ent.blk b21 65 #[v28_2, Value.int .i64 (((Jn.opens (Jn.f0 l)).2).left), Value.bool (((Jn.opens (Jn.f0 l)).2).armed), Value.bool (((Jn.opens (Jn.f0 l)).2).off)] :: Ent.own v28_2 5 1 ((((Jn.opens (Jn.f0 l)).2).l).length) (us .u8 (((Jn.opens (Jn.f0 l)).2).l)) :: Ent.own (Value.slice a33 K33.length c33) 22 1 K33.length (rows K33) :: Ent.blk b28 47 #[Value.pointer (some ⟨b21, 0, none⟩), v28] :: Ent.own v28 22 1 K28.length (rows K28) :: (nest 5 K28 ++ ([] : List Ent))) := ((H_9.pull 4 rfl).pull 4 rfl)
    refine L_callv rfl rfl T_en16 (A1 rfl) (dBytes (Jn.f1 l) (Jn.f1_ok hl16 hlt) H_10) ?_
    rintro _ w_7 ⟨v38, rfl, H_11⟩; refine ⟨_, rfl, ?_⟩
    have hq := Dk.told_len (d := Jn.f1 l) (Jn.f1_ok hl16 hlt)
    refine L_mv rfl ?_
    refine L_y rfl (Y_ext rfl rfl) ?_
    refine L_y rfl (Y_ext rfl rfl) ?_
    refine L_as rfl ?_
    refine L_as rfl ?_
    refine L_nil ?_
    refine Th_n ?_
    refine W_seq ?_
    refine W_seq ?_
    refine W_quiet H_11 20 [Value.int .i64 ((0 : Nat) : Int), Value.bool (((0 : Nat) : Int) != ((0 : Nat) : Int)), Value.bool (((0 : Nat) : Int) != ((0 : Nat) : Int)), Value.int .i64 ((Dk.ready (Jn.f1 l) : Nat) : Int), Value.bool (((Dk.ready (Jn.f1 l) : Nat) : Int) != ((0 : Nat) : Int)), Value.bool (((Dk.ready (Jn.f1 l) : Nat) : Int) != ((0 : Nat) : Int)), Value.bool (((Dk.ready (Jn.f1 l) : Nat) : Int) != ((0 : Nat) : Int)), v38, Value.string (bs (Dk.told (Jn.f1 l))), Value.slice a m c, Value.int .i64 ((p33 : Nat) : Int), Value.slice a p33 c, Value.string (bs (l.take p33)), Value.bool (!decide (Dk.told (Jn.f1 l) = l.take p33)), Value.bool (!decide (Dk.told (Jn.f1 l) = l.take p33)), Value.bool (!decide (Dk.told (Jn.f1 l) = l.take p33)), Value.pointer (some ⟨b28, 0, none⟩), Value.int .i64 ((K28.length : Nat) : Int), Value.slice a33 K33.length c33, Value.int .i64 ((K33.length : Nat) : Int)] T_mixed (by kernel_rfl) ?_ ?_
    ·
      refine .plain rfl (Pl_y rfl (fun w hBw => rfl)) ?_
      refine .plain rfl (Pl_y rfl (fun w hBw => Y_neq (k := .i64) (a := ((0 : Nat) : Int)) (b := ((0 : Nat) : Int)) rfl rfl)) ?_
      refine .plain rfl (Pl_y rfl (fun w hBw => rfl)) ?_
      refine .plain rfl (Pl_y (wE rfl (congrArg Value.bool (by decide : (((0 : Nat) : Int) != ((0 : Nat) : Int)) = false))) (fun w hBw => rfl)) ?_
      refine .plain rfl (Pl_y (wE rfl (congrArg Value.bool (by decide : (((0 : Nat) : Int) != ((0 : Nat) : Int)) = false))) (fun w hBw => Y_neq (k := .i64) (a := ((Dk.ready (Jn.f1 l) : Nat) : Int)) (b := ((0 : Nat) : Int)) rfl rfl)) ?_
      refine .plain rfl (Pl_y rfl (fun w hBw => Y_pickF (congrArg Value.bool (by decide : (((0 : Nat) : Int) != ((0 : Nat) : Int)) = false)))) ?_
      refine .plain rfl (Pl_y rfl (fun w hBw => rfl)) ?_
      refine .plain rfl (Pl_y (wE rfl (congrArg Value.bool ((by rw [Jn.f1_ready hl16]; rfl) : (((Dk.ready (Jn.f1 l) : Nat) : Int) != ((0 : Nat) : Int)) = false))) (fun w hBw => rfl)) ?_
      refine .plain rfl (Pl_y (wE rfl (congrArg Value.bool ((by rw [Jn.f1_ready hl16]; rfl) : (((Dk.ready (Jn.f1 l) : Nat) : Int) != ((0 : Nat) : Int)) = false))) (fun w hBw => Y_strO Try.underlying22 Try.underlying5 Try.underlying9 hBw (i := 0) rfl rfl)) ?_
      refine .plain rfl (Pl_y (wE rfl (congrArg Value.bool ((by rw [Jn.f1_ready hl16]; rfl) : (((Dk.ready (Jn.f1 l) : Nat) : Int) != ((0 : Nat) : Int)) = false))) (fun w hBw => congrArg (fun v => Result.ok (Next.value v) w) p_0)) ?_
      refine .plain rfl (Pl_y (wE rfl (congrArg Value.bool ((by rw [Jn.f1_ready hl16]; rfl) : (((Dk.ready (Jn.f1 l) : Nat) : Int) != ((0 : Nat) : Int)) = false))) (fun w hBw => rfl)) ?_
      refine .plain rfl (Pl_y (wE rfl (congrArg Value.bool ((by rw [Jn.f1_ready hl16]; rfl) : (((Dk.ready (Jn.f1 l) : Nat) : Int) != ((0 : Nat) : Int)) = false))) (fun w hBw => Y_cutHr (hi := p33) T_sl22 (hs0.hp hBw) rfl rfl (Nat.le_trans (by omega) (hs0.hp hBw).cap))) ?_
      refine .plain rfl (Pl_y (wE rfl (congrArg Value.bool ((by rw [Jn.f1_ready hl16]; rfl) : (((Dk.ready (Jn.f1 l) : Nat) : Int) != ((0 : Nat) : Int)) = false))) (fun w hBw => Y_strL Try.underlying22 Try.underlying5 Try.underlying9 rfl ((hs0.hp hBw).tk (by omega)))) ?_
      refine .plain rfl (Pl_y (wE rfl (congrArg Value.bool ((by rw [Jn.f1_ready hl16]; rfl) : (((Dk.ready (Jn.f1 l) : Nat) : Int) != ((0 : Nat) : Int)) = false))) (fun w hBw => Y_neT (l1 := Dk.told (Jn.f1 l)) (l2 := l.take p33) Try.underlying9 (Dk.told_lt (Jn.f1_ok hl16 hlt)) (fun u hu => hlt u (List.mem_of_mem_take hu)) rfl rfl)) ?_
      refine .plain rfl (Pl_y rfl (fun w hBw => Y_pickF (congrArg Value.bool ((by rw [Jn.f1_ready hl16]; rfl) : (((Dk.ready (Jn.f1 l) : Nat) : Int) != ((0 : Nat) : Int)) = false)))) ?_
      refine .plain rfl (Pl_y rfl (fun w hBw => rfl)) ?_
      refine .plain rfl (Pl_y (wE rfl (congrArg Value.bool ((by rw [Jn.f1_told hl16 EK33]; simp) : (!decide (Dk.told (Jn.f1 l) = l.take p33)) = false))) (fun w hBw => rfl)) ?_
      refine .plain rfl (Pl_c (wE rfl (congrArg Value.bool ((by rw [Jn.f1_told hl16 EK33]; simp) : (!decide (Dk.told (Jn.f1 l) = l.take p33)) = false))) T_en17 (A1 rfl) (fun w hBw => jLen ((hBw.pull 5 rfl).pull 5 rfl))) ?_
      refine .plain rfl (Pl_y (wE rfl (congrArg Value.bool ((by rw [Jn.f1_told hl16 EK33]; simp) : (!decide (Dk.told (Jn.f1 l) = l.take p33)) = false))) (fun w hBw => rfl)) ?_
      refine .plain rfl (Pl_y (wE rfl (congrArg Value.bool ((by rw [Jn.f1_told hl16 EK33]; simp) : (!decide (Dk.told (Jn.f1 l) = l.take p33)) = false))) (fun w hBw => Y_lenS T_sl24 rfl)) ?_
      exact .nil _
    ·
      intro e_2 w_8 hAg H_12
      have e_2_4 : e_2 4 = Value.pointer (some ⟨b28, 0, none⟩) := (hAg 4 rfl).trans rfl
      have e_2_6 : e_2 6 = Value.slice a33 K33.length c33 := (hAg 6 rfl).trans rfl
      have e_2_56 : e_2 56 = Value.bool (!decide (Dk.told (Jn.f1 l) = l.take p33)) := (hAg 56 rfl).trans rfl
      have e_2_58 : e_2 58 = Value.int .i64 ((K28.length : Nat) : Int) := (hAg 58 rfl).trans rfl
      have e_2_60 : e_2 60 = Value.int .i64 ((K33.length : Nat) : Int) := (hAg 60 rfl).trans rfl
      refine G_y (wE rfl (e_2_56.trans (congrArg Value.bool ((by rw [Jn.f1_told hl16 EK33]; simp) : (!decide (Dk.told (Jn.f1 l) = l.take p33)) = false)))) rfl (Y_neq (k := .i64) (a := ((K28.length : Nat) : Int)) (b := ((K33.length : Nat) : Int)) e_2_58 e_2_60) ?_
      refine L_y rfl (Y_pickF (e_2_56.trans (congrArg Value.bool ((by rw [Jn.f1_told hl16 EK33]; simp) : (!decide (Dk.told (Jn.f1 l) = l.take p33)) = false)))) ?_
      refine L_nil ?_
      refine Th_n ?_
      refine W_false (congrArg Value.bool ((by rw [hKL]; simp) : (((K28.length : Nat) : Int) != ((K33.length : Nat) : Int)) = false)) ?_
      refine W_skip ?_
      refine Th_n ?_
      refine W_seq ?_
      refine W_seq ?_
      refine W_rg ?_
      refine L_as rfl ?_
      refine L_nil ?_
      refine Th_n ?_
      refine W_block ?_
      refine W_loop (fun mu_ e w => ∃ i : Nat, ∃ v : Value, mu_ = K33.length - i ∧ e 4 = Value.pointer (some ⟨b28, 0, none⟩) ∧ e 6 = Value.slice a33 K33.length c33 ∧ e 10 = Value.int .i64 ((i : Nat) : Int) ∧ Hp w0 [] w (Ent.blk b28 47 #[Value.pointer (some ⟨b21, 0, none⟩), v] :: Ent.own v 22 1 K28.length (rows K28) :: Ent.own (Value.slice a33 K33.length c33) 22 1 K33.length (rows K33) :: (nest 5 K28 ++ ([] : List Ent))) ∧ i ≤ K33.length) _ ⟨0, _, rfl, e_2_4, e_2_6, rfl, ((((((H_12.erase 0).erase 0).erase 0).pull 0 rfl).pull 2 rfl).pull 2 rfl), (Nat.zero_le _)⟩ ?_
      rintro mu_ e_3 w_9 ⟨i, v, rfl, e_3_4, e_3_6, e_3_10, H_13, hi⟩
      refine W_seq ?_
      refine W_seq ?_
      refine W_rg ?_
      refine L_mv rfl ?_
      refine L_mv rfl ?_
      refine L_y rfl (Y_lenS T_sl24 e_3_6) ?_
      refine L_y rfl (Y_lss (k := .i64) (a := ((i : Nat) : Int)) (b := ((K33.length : Nat) : Int)) e_3_10 rfl) ?_
      refine L_nil ?_
      refine Th_n ?_
      refine W_cond (b := (decide (((i : Nat) : Int) < ((K33.length : Nat) : Int)))) rfl (fun hc_2 => ?_) (fun hc_2 => ?_)
      ·
        have hc_2' := of_decide_eq_true hc_2
        refine W_skip ?_
        refine Th_n ?_
        refine W_seq ?_
        refine W_block ?_
        refine W_seq ?_
        refine W_rg ?_
        refine L_mv rfl ?_
        refine L_mv rfl ?_
        have Hc : Hp w0 [] w_9 (Ent.blk b28 47 #[Value.pointer (some ⟨b21, 0, none⟩), v] :: Ent.own v 22 1 K28.length (rows K28) :: (nest 5 K28 ++ (Ent.own (Value.slice a33 K33.length c33) 22 1 K33.length (rows K33) :: ([] : List Ent)))) := Hp.chunk [Ent.blk b28 47 #[Value.pointer (some ⟨b21, 0, none⟩), v], Ent.own v 22 1 K28.length (rows K28)] [Ent.own (Value.slice a33 K33.length c33) 22 1 K33.length (rows K33)] (nest 5 K28) ([] : List Ent) H_13
        refine L_callv rfl rfl T_en18 (A2 e_3_4 e_3_10) (jRecord (K := K28) ((i : Nat) : Int) okK28 Hc) ?_
        rintro _ w_10 ⟨a72, c72, v72, rfl, H_14⟩; refine ⟨_, rfl, ?_⟩
        have H_15 : Hp w0 [] w_10 (Ent.own (Value.slice a72 ((Jn.at_ (keys K28) ((i : Nat) : Int)).length) c72) 5 1 ((Jn.at_ (keys K28) ((i : Nat) : Int)).length) (us .u8 (Jn.at_ (keys K28) ((i : Nat) : Int))) :: Ent.blk b28 47 #[Value.pointer (some ⟨b21, 0, none⟩), v72] :: Ent.own v72 22 1 K28.length (rows K28) :: Ent.own (Value.slice a33 K33.length c33) 22 1 K33.length (rows K33) :: (nest 5 K28 ++ ([] : List Ent))) := Hp.chunk [Ent.own (Value.slice a72 ((Jn.at_ (keys K28) ((i : Nat) : Int)).length) c72) 5 1 ((Jn.at_ (keys K28) ((i : Nat) : Int)).length) (us .u8 (Jn.at_ (keys K28) ((i : Nat) : Int))), Ent.blk b28 47 #[Value.pointer (some ⟨b21, 0, none⟩), v72], Ent.own v72 22 1 K28.length (rows K28)] (nest 5 K28) [Ent.own (Value.slice a33 K33.length c33) 22 1 K33.length (rows K33)] ([] : List Ent) H_14
        refine L_mv rfl ?_
        refine L_y rfl (Y_ext rfl rfl) ?_
        refine L_y rfl (Y_ext rfl rfl) ?_
        refine L_as rfl ?_
        refine L_as rfl ?_
        refine L_nil ?_
        refine Th_n ?_
        refine W_seq ?_
        obtain ⟨el82, hel82⟩ := (Ts.own H_15 (i := 3) rfl).tab.at (j := i) (by omega)
        have mel82 := List.mem_of_getElem? hel82
        have oel82 := (okK33).lt _ (keys_mem mel82)
        have nel82 : el82.l.length ≤ 60000 := oel82.2
        refine W_quiet H_15 10 [Value.int .i64 ((Jn.rcode (keys K28) ((i : Nat) : Int) : Nat) : Int), Value.bool (((Jn.rcode (keys K28) ((i : Nat) : Int) : Nat) : Int) != ((0 : Nat) : Int)), Value.bool (((Jn.rcode (keys K28) ((i : Nat) : Int) : Nat) : Int) != ((0 : Nat) : Int)), Value.slice a72 ((Jn.at_ (keys K28) ((i : Nat) : Int)).length) c72, Value.string (bs (Jn.at_ (keys K28) ((i : Nat) : Int))), Value.slice a33 K33.length c33, Value.int .i64 ((i : Nat) : Int), pl a33 (i * 1 + 0), Value.slice el82.a el82.l.length el82.c, Value.string (bs el82.l)] T_mixed (by kernel_rfl) ?_ ?_
        ·
          refine .plain rfl (Pl_y rfl (fun w hBw => rfl)) ?_
          refine .plain rfl (Pl_y rfl (fun w hBw => Y_neq (k := .i64) (a := ((Jn.rcode (keys K28) ((i : Nat) : Int) : Nat) : Int)) (b := ((0 : Nat) : Int)) rfl rfl)) ?_
          refine .plain rfl (Pl_y rfl (fun w hBw => rfl)) ?_
          refine .plain rfl (Pl_y (wE rfl (congrArg Value.bool ((by rw [Jn.rcode_lt (by rw [keys_len]; omega)]; rfl) : (((Jn.rcode (keys K28) ((i : Nat) : Int) : Nat) : Int) != ((0 : Nat) : Int)) = false))) (fun w hBw => rfl)) ?_
          refine .plain rfl (Pl_y (wE rfl (congrArg Value.bool ((by rw [Jn.rcode_lt (by rw [keys_len]; omega)]; rfl) : (((Jn.rcode (keys K28) ((i : Nat) : Int) : Nat) : Int) != ((0 : Nat) : Int)) = false))) (fun w hBw => Y_strL Try.underlying22 Try.underlying5 Try.underlying9 rfl (Sl.own hBw (i := 0) rfl))) ?_
          refine .plain rfl (Pl_y (wE rfl (congrArg Value.bool ((by rw [Jn.rcode_lt (by rw [keys_len]; omega)]; rfl) : (((Jn.rcode (keys K28) ((i : Nat) : Int) : Nat) : Int) != ((0 : Nat) : Int)) = false))) (fun w hBw => congrArg (fun v => Result.ok (Next.value v) w) e_3_6)) ?_
          refine .plain rfl (Pl_y (wE rfl (congrArg Value.bool ((by rw [Jn.rcode_lt (by rw [keys_len]; omega)]; rfl) : (((Jn.rcode (keys K28) ((i : Nat) : Int) : Nat) : Int) != ((0 : Nat) : Int)) = false))) (fun w hBw => congrArg (fun v => Result.ok (Next.value v) w) e_3_10)) ?_
          refine .plain rfl (Pl_y (wE rfl (congrArg Value.bool ((by rw [Jn.rcode_lt (by rw [keys_len]; omega)]; rfl) : (((Jn.rcode (keys K28) ((i : Nat) : Int) : Nat) : Int) != ((0 : Nat) : Int)) = false))) (fun w hBw => Y_idxT (j := i) T_sl24 (Ts.own hBw (i := 3) rfl).tab hel82 rfl rfl rfl)) ?_
          refine .plain rfl (Pl_y (wE rfl (congrArg Value.bool ((by rw [Jn.rcode_lt (by rw [keys_len]; omega)]; rfl) : (((Jn.rcode (keys K28) ((i : Nat) : Int) : Nat) : Int) != ((0 : Nat) : Int)) = false))) (fun w hBw => Y_ldT (j := i) (off := 0) T_scal22 (Ts.own hBw (i := 3) rfl).tab hel82 rfl rfl rfl)) ?_
          refine .plain rfl (Pl_y (wE rfl (congrArg Value.bool ((by rw [Jn.rcode_lt (by rw [keys_len]; omega)]; rfl) : (((Jn.rcode (keys K28) ((i : Nat) : Int) : Nat) : Int) != ((0 : Nat) : Int)) = false))) (fun w hBw => Y_strL Try.underlying22 Try.underlying5 Try.underlying9 rfl ((SK33 _ mel82).hp hBw (fun _ h_ => .tail _ (.tail _ (.tail _ (.tail _ (List.mem_append_right _ (h_))))))))) ?_
          exact .nil _
        ·
          intro e_4 w_11 hAg H_16
          have e_4_4 : e_4 4 = Value.pointer (some ⟨b28, 0, none⟩) := (hAg 4 rfl).trans e_3_4
          have e_4_6 : e_4 6 = Value.slice a33 K33.length c33 := (hAg 6 rfl).trans e_3_6
          have e_4_10 : e_4 10 = Value.int .i64 ((i : Nat) : Int) := (hAg 10 rfl).trans e_3_10
          have e_4_77 : e_4 77 = Value.bool (((Jn.rcode (keys K28) ((i : Nat) : Int) : Nat) : Int) != ((0 : Nat) : Int)) := (hAg 77 rfl).trans rfl
          have e_4_79 : e_4 79 = Value.string (bs (Jn.at_ (keys K28) ((i : Nat) : Int))) := (hAg 79 rfl).trans rfl
          have e_4_84 : e_4 84 = Value.string (bs el82.l) := (hAg 84 rfl).trans rfl
          refine G_y (wE rfl (e_4_77.trans (congrArg Value.bool ((by rw [Jn.rcode_lt (by rw [keys_len]; omega)]; rfl) : (((Jn.rcode (keys K28) ((i : Nat) : Int) : Nat) : Int) != ((0 : Nat) : Int)) = false)))) rfl (Y_neT (l1 := Jn.at_ (keys K28) ((i : Nat) : Int)) (l2 := el82.l) Try.underlying9 (Jn.at_lt okK28 _).1 oel82.1 e_4_79 e_4_84) ?_
          refine L_y rfl (Y_pickF (e_4_77.trans (congrArg Value.bool ((by rw [Jn.rcode_lt (by rw [keys_len]; omega)]; rfl) : (((Jn.rcode (keys K28) ((i : Nat) : Int) : Nat) : Int) != ((0 : Nat) : Int)) = false)))) ?_
          refine L_nil ?_
          refine Th_n ?_
          refine W_false (congrArg Value.bool ((by rw [(Jn.at_in (x := el82.l) (by rw [hKK]; exact keys_get hel82)).1]; simp) : (!decide (Jn.at_ (keys K28) ((i : Nat) : Int) = el82.l)) = false)) ?_
          refine W_skip ?_
          refine InB_n ?_
          refine Th_n ?_
          refine W_rg ?_
          refine L_mv rfl ?_
          refine L_y rfl (Y_add (k := .i64) (a := ((i : Nat) : Int)) (b := ((1 : Nat) : Int)) (z := ((i + 1 : Nat) : Int)) e_4_10 rfl (wi (by omega))) ?_
          refine L_as rfl ?_
          refine L_nil ?_
          refine Th_n ⟨_, ?_, (i + 1), _, rfl, e_4_4, e_4_6, rfl, H_16.drop_, (by omega)⟩
          omega
      ·
        have hc_2' := of_decide_eq_false hc_2
        refine W_exit ?_
        refine Th_x ?_
        refine Th_x ?_
        refine InB_hit ?_
        refine Th_n ?_
        refine W_seq ?_
        refine W_rg ?_
        refine L_mv rfl ?_
        refine L_mv rfl ?_
        refine L_y rfl (Y_lenS T_sl24 e_3_6) ?_
        have Hc_2 : Hp w0 [] w_9 (Ent.blk b28 47 #[Value.pointer (some ⟨b21, 0, none⟩), v] :: Ent.own v 22 1 K28.length (rows K28) :: (nest 5 K28 ++ (Ent.own (Value.slice a33 K33.length c33) 22 1 K33.length (rows K33) :: ([] : List Ent)))) := Hp.chunk [Ent.blk b28 47 #[Value.pointer (some ⟨b21, 0, none⟩), v], Ent.own v 22 1 K28.length (rows K28)] [Ent.own (Value.slice a33 K33.length c33) 22 1 K33.length (rows K33)] (nest 5 K28) ([] : List Ent) H_13
        refine L_callv rfl rfl T_en18 (A2 e_3_4 rfl) (jRecord (K := K28) ((K33.length : Nat) : Int) okK28 Hc_2) ?_
        rintro _ w_12 ⟨a91, c91, v91, rfl, H_17⟩; refine ⟨_, rfl, ?_⟩
        have H_18 : Hp w0 [] w_12 (Ent.own (Value.slice a91 ((Jn.at_ (keys K28) ((K33.length : Nat) : Int)).length) c91) 5 1 ((Jn.at_ (keys K28) ((K33.length : Nat) : Int)).length) (us .u8 (Jn.at_ (keys K28) ((K33.length : Nat) : Int))) :: Ent.blk b28 47 #[Value.pointer (some ⟨b21, 0, none⟩), v91] :: Ent.own v91 22 1 K28.length (rows K28) :: Ent.own (Value.slice a33 K33.length c33) 22 1 K33.length (rows K33) :: (nest 5 K28 ++ ([] : List Ent))) := Hp.chunk [Ent.own (Value.slice a91 ((Jn.at_ (keys K28) ((K33.length : Nat) : Int)).length) c91) 5 1 ((Jn.at_ (keys K28) ((K33.length : Nat) : Int)).length) (us .u8 (Jn.at_ (keys K28) ((K33.length : Nat) : Int))), Ent.blk b28 47 #[Value.pointer (some ⟨b21, 0, none⟩), v91], Ent.own v91 22 1 K28.length (rows K28)] (nest 5 K28) [Ent.own (Value.slice a33 K33.length c33) 22 1 K33.length (rows K33)] ([] : List Ent) H_17
        refine L_mv rfl ?_
        refine L_y rfl (Y_ext rfl rfl) ?_
        refine L_y rfl (Y_ext rfl rfl) ?_
        refine L_as rfl ?_
        refine L_as rfl ?_
        refine L_nil ?_
        refine Th_n ?_
        refine W_seq ?_
        refine W_rg ?_
        refine L_mv rfl ?_
        have H_19 : Hp w0 [] w_12 (Ent.blk b28 47 #[Value.pointer (some ⟨b21, 0, none⟩), v91] :: Ent.own v91 22 1 K28.length (rows K28) :: Ent.own (Value.slice a91 ((Jn.at_ (keys K28) ((K33.length : Nat) : Int)).length) c91) 5 1 ((Jn.at_ (keys K28) ((K33.length : Nat) : Int)).length) (us .u8 (Jn.at_ (keys K28) ((K33.length : Nat) : Int))) :: Ent.own (Value.slice a33 K33.length c33) 22 1 K33.length (rows K33) :: (nest 5 K28 ++ ([] : List Ent))) := ((H_18.pull 2 rfl).pull 2 rfl)
        have Hc_3 : Hp w0 [] w_12 (Ent.blk b28 47 #[Value.pointer (some ⟨b21, 0, none⟩), v91] :: Ent.own v91 22 1 K28.length (rows K28) :: (nest 5 K28 ++ (Ent.own (Value.slice a91 ((Jn.at_ (keys K28) ((K33.length : Nat) : Int)).length) c91) 5 1 ((Jn.at_ (keys K28) ((K33.length : Nat) : Int)).length) (us .u8 (Jn.at_ (keys K28) ((K33.length : Nat) : Int))) :: Ent.own (Value.slice a33 K33.length c33) 22 1 K33.length (rows K33) :: ([] : List Ent)))) := Hp.chunk [Ent.blk b28 47 #[Value.pointer (some ⟨b21, 0, none⟩), v91], Ent.own v91 22 1 K28.length (rows K28)] [Ent.own (Value.slice a91 ((Jn.at_ (keys K28) ((K33.length : Nat) : Int)).length) c91) 5 1 ((Jn.at_ (keys K28) ((K33.length : Nat) : Int)).length) (us .u8 (Jn.at_ (keys K28) ((K33.length : Nat) : Int))), Ent.own (Value.slice a33 K33.length c33) 22 1 K33.length (rows K33)] (nest 5 K28) ([] : List Ent) H_19
        refine L_callv rfl rfl T_en18 (A2 e_3_4 rfl) (jRecord (K := K28) (-1) okK28 Hc_3) ?_
        rintro _ w_13 ⟨a96, c96, v96, rfl, H_20⟩; refine ⟨_, rfl, ?_⟩
        have H_21 : Hp w0 [] w_13 (Ent.own (Value.slice a96 ((Jn.at_ (keys K28) (-1)).length) c96) 5 1 ((Jn.at_ (keys K28) (-1)).length) (us .u8 (Jn.at_ (keys K28) (-1))) :: Ent.blk b28 47 #[Value.pointer (some ⟨b21, 0, none⟩), v96] :: Ent.own v96 22 1 K28.length (rows K28) :: Ent.own (Value.slice a91 ((Jn.at_ (keys K28) ((K33.length : Nat) : Int)).length) c91) 5 1 ((Jn.at_ (keys K28) ((K33.length : Nat) : Int)).length) (us .u8 (Jn.at_ (keys K28) ((K33.length : Nat) : Int))) :: Ent.own (Value.slice a33 K33.length c33) 22 1 K33.length (rows K33) :: (nest 5 K28 ++ ([] : List Ent))) := Hp.chunk [Ent.own (Value.slice a96 ((Jn.at_ (keys K28) (-1)).length) c96) 5 1 ((Jn.at_ (keys K28) (-1)).length) (us .u8 (Jn.at_ (keys K28) (-1))), Ent.blk b28 47 #[Value.pointer (some ⟨b21, 0, none⟩), v96], Ent.own v96 22 1 K28.length (rows K28)] (nest 5 K28) [Ent.own (Value.slice a91 ((Jn.at_ (keys K28) ((K33.length : Nat) : Int)).length) c91) 5 1 ((Jn.at_ (keys K28) ((K33.length : Nat) : Int)).length) (us .u8 (Jn.at_ (keys K28) ((K33.length : Nat) : Int))), Ent.own (Value.slice a33 K33.length c33) 22 1 K33.length (rows K33)] ([] : List Ent) H_20
        refine L_mv rfl ?_
        refine L_y rfl (Y_ext rfl rfl) ?_
        refine L_y rfl (Y_ext rfl rfl) ?_
        refine L_as rfl ?_
        refine L_as rfl ?_
        refine L_nil ?_
        refine Th_n ?_
        refine W_seq ?_
        refine W_rg ?_
        refine L_mv rfl ?_
        refine L_y rfl (Y_eql (k := .i64) (a := ((Jn.rcode (keys K28) ((K33.length : Nat) : Int) : Nat) : Int)) (b := ((7 : Nat) : Int)) rfl rfl) ?_
        refine L_mv rfl ?_
        refine G_mv (wE rfl (congrArg Value.bool ((by rw [Jn.rcode_ge (by rw [keys_len]; omega)]; rfl) : (((Jn.rcode (keys K28) ((K33.length : Nat) : Int) : Nat) : Int) == ((7 : Nat) : Int)) = true))) rfl ?_
        refine G_y (wE rfl (congrArg Value.bool ((by rw [Jn.rcode_ge (by rw [keys_len]; omega)]; rfl) : (((Jn.rcode (keys K28) ((K33.length : Nat) : Int) : Nat) : Int) == ((7 : Nat) : Int)) = true))) rfl (Y_eql (k := .i64) (a := ((Jn.rcode (keys K28) (-1) : Nat) : Int)) (b := ((7 : Nat) : Int)) rfl rfl) ?_
        refine L_y rfl (Y_pickT (congrArg Value.bool ((by rw [Jn.rcode_ge (by rw [keys_len]; omega)]; rfl) : (((Jn.rcode (keys K28) ((K33.length : Nat) : Int) : Nat) : Int) == ((7 : Nat) : Int)) = true))) ?_
        refine L_mv rfl ?_
        refine L_callv (wE rfl (congrArg Value.bool ((by rw [Jn.rcode_neg]; rfl) : (((Jn.rcode (keys K28) (-1) : Nat) : Int) == ((7 : Nat) : Int)) = true))) rfl T_en9 (A0) (known_n _) ?_
        rintro _ w_14 ⟨rfl, hkp_2⟩; refine ⟨_, rfl, ?_⟩; have H_22 := H_21.keep hkp_2
        refine L_y rfl (Y_pickT (congrArg Value.bool ((by rw [Jn.rcode_neg]; rfl) : (((Jn.rcode (keys K28) (-1) : Nat) : Int) == ((7 : Nat) : Int)) = true))) ?_
        refine L_as rfl ?_
        refine L_nil ?_
        refine Th_n ?_
        refine W_ret ?_
        refine P_ret (vs := [Value.bool true]) (v := Value.bool true) rfl (.tmp rfl (Res.nil)) rfl ?_
        refine ⟨?_, H_22.nil_⟩
        rfl
end Go.Proofs.Ytgmmifpflllkfaa
