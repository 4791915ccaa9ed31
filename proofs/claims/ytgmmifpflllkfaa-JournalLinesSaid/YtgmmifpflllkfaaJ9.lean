/- Walks of layers 6, 17, 21, 22: law lines. Printed by journal.py. -/
import Derived.Test.YtgmmifpflllkfaaJ5
import Derived.Test.YtgmmifpflllkfaaJournMath4
namespace Go.Proofs.Ytgmmifpflllkfaa
open Go.Ev
set_option maxRecDepth 100000
theorem T_en9 : enters Try.prog 9 = true := by kernel_rfl
theorem T_sl49 : slOf Try.prog 49 = some (4, 1) := by kernel_rfl
attribute [local irreducible] Jn.add Jn.opens Jn.form Jn.sum4 Sm.sum Jn.read Jn.at_ Jn.rcode Dk.arm Dk.restart Dk.add Dk.cut in
theorem journalLines_n (a : Option Addr) (m c : Nat) (Ls : List Lt) (a2 : Option Addr) (m2 c2 : Nat) (Bb : List Bool) (w0 : World) (hT : Ts w0 a m c Ls) (hs : ∀ x ∈ Ls, Sl w0 .u8 x.a x.l.length x.c x.l) (hlt : ∀ x ∈ Ls, ∀ u ∈ x.l, u < 256) (hT2 : Tab w0 (fun x : Bool => [Value.bool x]) 1 a2 m2 c2 Bb) :
    Calls Try.prog 7 #[Value.slice a m c, Value.slice a2 m2 c2] w0 (fun r_ w' => r_ = .returned (.bool true) ∧ Keep w0 w') := by
  have hLm : Ls.length = m := hT.tab.len
  refine F_in Try.func7 rfl Try.ntmps7 rfl ?_
  intro e he
  have p_0 : e 0 = Value.slice a m c := he 0 _ rfl
  have p_1 : e 1 = Value.slice a2 m2 c2 := he 1 _ rfl
  have H := Hp.start w0 []
  refine W_seq ?_
  refine W_rg ?_
  refine L_as rfl ?_
  refine L_nil ?_
  refine Th_n ?_
  refine W_seq ?_
  refine W_seq ?_
  refine W_rg ?_
  refine L_mv rfl ?_
  refine L_y rfl (Y_lenS T_sl24 p_0) ?_
  refine L_y rfl (Y_gtr (k := .i64) (a := ((m : Nat) : Int)) (b := ((60 : Nat) : Int)) rfl rfl) ?_
  refine L_nil ?_
  refine Th_n ?_
  refine W_cond (b := (decide (((60 : Nat) : Int) < ((m : Nat) : Int)))) rfl (fun hc => ?_) (fun hc => ?_)
  ·
    have hc' := of_decide_eq_true hc
    refine W_seq ?_
    refine W_rg ?_
    refine L_callv rfl rfl T_en9 (A0) (known_n _) ?_
    rintro _ w_2 ⟨rfl, hkp⟩; refine ⟨_, rfl, ?_⟩; have H_2 := H.keep hkp
    refine L_as rfl ?_
    refine L_nil ?_
    refine Th_n ?_
    refine W_ret ?_
    refine Th_r ?_
    refine P_ret (vs := [Value.bool true]) (v := Value.bool true) rfl (.tmp rfl (Res.nil)) rfl ?_
    refine ⟨?_, H_2.nil_⟩
    rfl
  ·
    have hc' := of_decide_eq_false hc
    refine W_skip ?_
    refine Th_n ?_
    refine W_seq ?_
    refine W_rg ?_
    refine L_callv rfl rfl T_en13 (A0) (dNew H) ?_
    rintro _ w_3 ⟨b18, v18, rfl, H_3⟩; refine ⟨_, rfl, ?_⟩
    refine L_as rfl ?_
    refine L_nil ?_
    refine Th_n ?_
    refine W_seq ?_
    refine W_rg ?_
    refine L_mv rfl ?_
    refine L_callv rfl rfl T_en15 (A1 rfl) (jOpenOk Dk.new Dk.new_ok Jn.kop0 H_3) ?_
    rintro _ w_4 ⟨b21, v21, v21_2, K21, rfl, f21_0, H_4⟩; refine ⟨_, rfl, ?_⟩
    have H_5 : Hp w0 [] w_4 (Ent.blk b21 47 #[Value.pointer (some ⟨b18, 0, none⟩), v21] :: Ent.own v21 22 1 K21.length (rows K21) :: Ent.blk b18 65 #[v21_2, Value.int .i64 (((Jn.opens Dk.new).2).left), Value.bool (((Jn.opens Dk.new).2).armed), Value.bool (((Jn.opens Dk.new).2).off)] :: Ent.own v21_2 5 1 (((Jn.opens Dk.new).2).l.length) (us .u8 (((Jn.opens Dk.new).2).l)) :: (nest 5 K21 ++ ([] : List Ent))) := Hp.chunk [Ent.blk b21 47 #[Value.pointer (some ⟨b18, 0, none⟩), v21], Ent.own v21 22 1 K21.length (rows K21), Ent.blk b18 65 #[v21_2, Value.int .i64 (((Jn.opens Dk.new).2).left), Value.bool (((Jn.opens Dk.new).2).armed), Value.bool (((Jn.opens Dk.new).2).off)], Ent.own v21_2 5 1 (((Jn.opens Dk.new).2).l.length) (us .u8 (((Jn.opens Dk.new).2).l))] (nest 5 K21) [] ([] : List Ent) H_4
    have okK21 : Jn.ok (keys K21) := by rw [f21_0]; exact Jn.read_ok Dk.new_ok.len Dk.new_ok.lt
    have hk0 : keys K21 = [] := f21_0.trans Jn.kread0
    refine L_mv rfl ?_
    refine L_y rfl (Y_ext rfl rfl) ?_
    refine L_y rfl (Y_ext rfl rfl) ?_
    refine L_as rfl ?_
    refine L_as rfl ?_
    refine L_nil ?_
    refine Th_n ?_
    refine W_seq ?_
    refine W_seq ?_
    refine W_rg ?_
    refine L_mv rfl ?_
    refine L_y rfl (Y_neq (k := .i64) (a := ((0 : Nat) : Int)) (b := ((0 : Nat) : Int)) rfl rfl) ?_
    refine L_nil ?_
    refine Th_n ?_
    refine W_false (congrArg Value.bool (by decide : (((0 : Nat) : Int) != ((0 : Nat) : Int)) = false)) ?_
    refine W_skip ?_
    refine Th_n ?_
    refine W_seq ?_
    refine W_seq ?_
    refine W_rg ?_
    refine L_as rfl ?_
    refine L_nil ?_
    refine Th_n ?_
    refine W_block ?_
    refine W_loop (fun mu_ e w => ∃ i : Nat, ∃ d : Dk.D, ∃ bj : Nat, ∃ v : Value, ∃ vd : Value, ∃ K : List Lt, mu_ = m - i ∧ e 0 = Value.slice a m c ∧ e 1 = Value.slice a2 m2 c2 ∧ e 5 = Value.pointer (some ⟨b18, 0, none⟩) ∧ e 6 = Value.pointer (some ⟨bj, 0, none⟩) ∧ e 8 = Value.int .i64 ((i : Nat) : Int) ∧ Hp w0 [] w (Ent.blk bj 47 #[Value.pointer (some ⟨b18, 0, none⟩), v] :: Ent.own v 22 1 K.length (rows K) :: Ent.blk b18 65 #[vd, Value.int .i64 (d.left), Value.bool d.armed, Value.bool d.off] :: Ent.own vd 5 1 d.l.length (us .u8 d.l) :: (nest 5 K ++ ([] : List Ent))) ∧ Dk.ok d ∧ d = Jn.dof (Jn.lines (keys (Ls.take i))) ∧ Jn.ok (keys K) ∧ keys K = keys (Ls.take i) ∧ K.length = i ∧ (∀ x ∈ keys (Ls.take i), x.length ≠ 0 ∧ x.length ≤ 2000) ∧ i ≤ m) _ ⟨0, Jn.e0, b21, _, _, K21, rfl, p_0, p_1, rfl, rfl, rfl, H_5, Jn.e0_ok, (by rw [Jn.e0_is]; rfl), okK21, hk0, (by rw [← keys_len, hk0]; rfl), (by simp [keys]), (Nat.zero_le _)⟩ ?_
    rintro mu_ e_2 w_5 ⟨i, d, bj, v, vd, K, rfl, e_2_0, e_2_1, e_2_5, e_2_6, e_2_8, H_6, hd, hdd, okK, hKL, hKi, hmay, hi⟩
    refine W_seq ?_
    refine W_seq ?_
    refine W_rg ?_
    refine L_mv rfl ?_
    refine L_mv rfl ?_
    refine L_y rfl (Y_lenS T_sl24 e_2_0) ?_
    refine L_y rfl (Y_lss (k := .i64) (a := ((i : Nat) : Int)) (b := ((m : Nat) : Int)) e_2_8 rfl) ?_
    refine L_nil ?_
    refine Th_n ?_
    refine W_cond (b := (decide (((i : Nat) : Int) < ((m : Nat) : Int)))) rfl (fun hc_2 => ?_) (fun hc_2 => ?_)
    ·
      have hc_2' := of_decide_eq_true hc_2
      refine W_skip ?_
      refine Th_n ?_
      refine W_seq ?_
      refine W_block ?_
      refine W_seq ?_
      refine W_seq ?_
      refine W_rg ?_
      refine L_mv rfl ?_
      refine L_mv rfl ?_
      obtain ⟨el34, hel34⟩ := (hT.hp H_6).tab.at (j := i) (by omega)
      have mel34 := List.mem_of_getElem? hel34
      refine L_y rfl (Y_idxT (j := i) T_sl24 (hT.hp H_6).tab hel34 e_2_0 e_2_8 rfl) ?_
      refine L_y rfl (Y_ldT (j := i) (off := 0) T_scal22 (hT.hp H_6).tab hel34 rfl rfl rfl) ?_
      refine L_y rfl (Y_lenS T_sl22 rfl) ?_
      refine L_y rfl (Y_eql (k := .i64) (a := ((el34.l.length : Nat) : Int)) (b := ((0 : Nat) : Int)) rfl rfl) ?_
      refine L_mv rfl ?_
      rcases Bool.eq_false_or_eq_true (((el34.l.length : Nat) : Int) == ((0 : Nat) : Int)) with hb | hb
      ·
        have hb' := eq_of_beq hb
        refine G_no (wN (b := false) rfl (congrArg Value.bool hb)) rfl ?_
        refine G_no (wN (b := false) rfl (congrArg Value.bool hb)) rfl ?_
        refine G_no (wN (b := false) rfl (congrArg Value.bool hb)) rfl ?_
        refine G_no (wN (b := false) rfl (congrArg Value.bool hb)) rfl ?_
        refine G_no (wN (b := false) rfl (congrArg Value.bool hb)) rfl ?_
        refine G_no (wN (b := false) rfl (congrArg Value.bool hb)) rfl ?_
        refine L_y rfl (Y_pickT (congrArg Value.bool hb)) ?_
        refine L_nil ?_
        refine Th_n ?_
        refine W_true rfl ?_
        refine W_seq ?_
        refine W_rg ?_
        refine L_callv rfl rfl T_en9 (A0) (known_n _) ?_
        rintro _ w_6 ⟨rfl, hkp_2⟩; refine ⟨_, rfl, ?_⟩; have H_7 := H_6.keep hkp_2
        refine L_as rfl ?_
        refine L_nil ?_
        refine Th_n ?_
        refine W_ret ?_
        refine Th_r ?_
        refine InB_r ?_
        refine Th_r ?_
        refine Th_r ?_
        refine InB_r ?_
        refine Th_r ?_
        refine P_ret (vs := [Value.bool true]) (v := Value.bool true) rfl (.tmp rfl (Res.nil)) rfl ?_
        refine ⟨?_, H_7.nil_⟩
        rfl
      ·
        have hb' := ne_of_beq_false hb
        refine G_mv (wE rfl (congrArg Value.bool hb)) rfl ?_
        refine G_mv (wE rfl (congrArg Value.bool hb)) rfl ?_
        refine G_y (wE rfl (congrArg Value.bool hb)) rfl (Y_idxT (j := i) T_sl24 (hT.hp H_6).tab hel34 e_2_0 e_2_8 rfl) ?_
        refine G_y (wE rfl (congrArg Value.bool hb)) rfl (Y_ldT (j := i) (off := 0) T_scal22 (hT.hp H_6).tab hel34 rfl rfl rfl) ?_
        refine G_y (wE rfl (congrArg Value.bool hb)) rfl (Y_lenS T_sl22 rfl) ?_
        refine G_y (wE rfl (congrArg Value.bool hb)) rfl (Y_gtr (k := .i64) (a := ((el34.l.length : Nat) : Int)) (b := ((2000 : Nat) : Int)) rfl rfl) ?_
        refine L_y rfl (Y_pickF (congrArg Value.bool hb)) ?_
        refine L_nil ?_
        refine Th_n ?_
        refine W_cond (b := (decide (((2000 : Nat) : Int) < ((el34.l.length : Nat) : Int)))) rfl (fun hc_3 => ?_) (fun hc_3 => ?_)
        ·
          have hc_3' := of_decide_eq_true hc_3
          refine W_seq ?_
          refine W_rg ?_
          refine L_callv rfl rfl T_en9 (A0) (known_n _) ?_
          rintro _ w_7 ⟨rfl, hkp_3⟩; refine ⟨_, rfl, ?_⟩; have H_8 := H_6.keep hkp_3
          refine L_as rfl ?_
          refine L_nil ?_
          refine Th_n ?_
          refine W_ret ?_
          refine Th_r ?_
          refine InB_r ?_
          refine Th_r ?_
          refine Th_r ?_
          refine InB_r ?_
          refine Th_r ?_
          refine P_ret (vs := [Value.bool true]) (v := Value.bool true) rfl (.tmp rfl (Res.nil)) rfl ?_
          refine ⟨?_, H_8.nil_⟩
          rfl
        ·
          have hc_3' := of_decide_eq_false hc_3
          refine W_skip ?_
          refine Th_n ?_
          refine W_seq ?_
          refine W_seq ?_
          refine W_rg ?_
          refine L_mv rfl ?_
          refine L_mv rfl ?_
          refine L_mv rfl ?_
          refine L_y rfl (Y_idxT (j := i) T_sl24 (hT.hp H_6).tab hel34 e_2_0 e_2_8 rfl) ?_
          refine L_y rfl (Y_ldT (j := i) (off := 0) T_scal22 (hT.hp H_6).tab hel34 rfl rfl rfl) ?_
          have Hc : Hp w0 [] w_5 (Ent.blk bj 47 #[Value.pointer (some ⟨b18, 0, none⟩), v] :: Ent.own v 22 1 K.length (rows K) :: Ent.blk b18 65 #[vd, Value.int .i64 (d.left), Value.bool d.armed, Value.bool d.off] :: Ent.own vd 5 1 d.l.length (us .u8 d.l) :: (nest 5 K ++ (([] : List Ent)))) := Hp.chunk [Ent.blk bj 47 #[Value.pointer (some ⟨b18, 0, none⟩), v], Ent.own v 22 1 K.length (rows K), Ent.blk b18 65 #[vd, Value.int .i64 (d.left), Value.bool d.armed, Value.bool d.off], Ent.own vd 5 1 d.l.length (us .u8 d.l)] [] (nest 5 K) ([] : List Ent) H_6
          refine L_callv rfl rfl T_en22 (A2 e_2_6 rfl) (jAdd (K := K) d hd okK (by omega) (by omega) (Seen.old (hs _ mel34)) (hlt _ mel34) Hc) ?_
          rintro _ w_8 ⟨v52, v52_2, K52, rfl, f52_0, H_9⟩; refine ⟨_, rfl, ?_⟩
          have H_10 : Hp w0 [] w_8 (Ent.blk bj 47 #[Value.pointer (some ⟨b18, 0, none⟩), v52] :: Ent.own v52 22 1 K52.length (rows K52) :: Ent.blk b18 65 #[v52_2, Value.int .i64 (((Jn.add d el34.l).2).left), Value.bool (((Jn.add d el34.l).2).armed), Value.bool (((Jn.add d el34.l).2).off)] :: Ent.own v52_2 5 1 (((Jn.add d el34.l).2).l.length) (us .u8 (((Jn.add d el34.l).2).l)) :: (nest 5 K52 ++ ([] : List Ent))) := Hp.chunk [Ent.blk bj 47 #[Value.pointer (some ⟨b18, 0, none⟩), v52], Ent.own v52 22 1 K52.length (rows K52), Ent.blk b18 65 #[v52_2, Value.int .i64 (((Jn.add d el34.l).2).left), Value.bool (((Jn.add d el34.l).2).armed), Value.bool (((Jn.add d el34.l).2).off)], Ent.own v52_2 5 1 (((Jn.add d el34.l).2).l.length) (us .u8 (((Jn.add d el34.l).2).l))] (nest 5 K52) [] ([] : List Ent) H_9
          have okK52 : Jn.ok (keys K52) := by rw [f52_0]; exact Jn.addL_ok okK (hlt _ mel34) (by rw [keys_len]; omega)
          have hle : el34.l.length ≠ 0 ∧ el34.l.length ≤ 2000 := by omega
          have ht1 : keys (Ls.take (i + 1)) = keys (Ls.take i) ++ [el34.l] := by rw [List.take_add_one, hel34]; simp only [Option.toList_some, keys_snoc]; rfl
          have hmay1 : ∀ x ∈ keys (Ls.take (i + 1)), x.length ≠ 0 ∧ x.length ≤ 2000 := by rw [ht1]; intro x hx; rcases List.mem_append.1 hx with h1 | h1; exact hmay x h1; rw [List.mem_singleton.1 h1]; exact hle
          have hll0 := Jn.lines_le (B := 2000) (L := keys (Ls.take i)) (fun x hx => (hmay x hx).2)
          have hkl0 : (keys (Ls.take i)).length = i := by rw [keys_len, List.length_take]; omega
          rw [hkl0] at hll0
          have hA : Jn.add d el34.l = (0, Jn.dof (Jn.lines (keys (Ls.take (i + 1))))) := by rw [hdd, Jn.add_dof ⟨hle.1, by omega⟩ (by omega), ht1, Jn.lines_snoc]
          have hK1 : keys K52 = keys (Ls.take (i + 1)) := by rw [f52_0, Jn.addL_yes hA rfl, hKL, ht1]
          have hK1l : K52.length = i + 1 := by rw [← keys_len, hK1, keys_len, List.length_take]; omega
          have hO1 : Jn.opens (Jn.add d el34.l).2 = (0, Jn.dof (Jn.lines (keys (Ls.take (i + 1))))) := by rw [hA]; exact Jn.opens_lines (fun x hx => ⟨(hmay1 x hx).1, by have := (hmay1 x hx).2; omega⟩)
          refine L_y rfl (Y_neq (k := .i64) (a := (((Jn.add d el34.l).1 : Nat) : Int)) (b := ((0 : Nat) : Int)) rfl rfl) ?_
          refine L_nil ?_
          refine Th_n ?_
          refine W_false (congrArg Value.bool ((by rw [hA]; rfl) : ((((Jn.add d el34.l).1 : Nat) : Int) != ((0 : Nat) : Int)) = false)) ?_
          refine W_skip ?_
          refine Th_n ?_
          refine W_seq ?_
          refine W_rg ?_
          refine L_mv rfl ?_
          refine L_mv rfl ?_
          refine L_y rfl (Y_lenS T_sl49 e_2_1) ?_
          refine L_y rfl (Y_lss (k := .i64) (a := ((i : Nat) : Int)) (b := ((m2 : Nat) : Int)) e_2_8 rfl) ?_
          refine L_mv rfl ?_
          rcases Bool.eq_false_or_eq_true (decide (((i : Nat) : Int) < ((m2 : Nat) : Int))) with hb_2 | hb_2
          ·
            have hb_2' := of_decide_eq_true hb_2
            refine G_mv (wE rfl (congrArg Value.bool hb_2)) rfl ?_
            refine G_mv (wE rfl (congrArg Value.bool hb_2)) rfl ?_
            obtain ⟨el61, hel61⟩ := hT2.at (j := i) (by omega)
            refine G_y (wE rfl (congrArg Value.bool hb_2)) rfl (Y_idxT (j := i) T_sl49 (hT2.hp H_10) hel61 e_2_1 e_2_8 rfl) ?_
            refine G_y (wE rfl (congrArg Value.bool hb_2)) rfl (Y_ldT (j := i) (off := 0) T_scal4 (hT2.hp H_10) hel61 rfl rfl rfl) ?_
            refine L_y rfl (Y_pickT (congrArg Value.bool hb_2)) ?_
            refine L_nil ?_
            refine Th_n ?_
            refine W_cond (b := el61) rfl (fun hc_4 => ?_) (fun hc_4 => ?_)
            ·
              refine W_seq ?_
              refine W_rg ?_
              refine L_mv rfl ?_
              have H_11 : Hp w0 [] w_8 (Ent.blk bj 47 #[Value.pointer (some ⟨b18, 0, none⟩), v52] :: Ent.own v52 22 1 K52.length (rows K52) :: Ent.blk b18 65 #[v52_2, Value.int .i64 (((Jn.add d el34.l).2).left), Value.bool (((Jn.add d el34.l).2).armed), Value.bool (((Jn.add d el34.l).2).off)] :: Ent.own v52_2 5 1 ((((Jn.add d el34.l).2).l).length) (us .u8 (((Jn.add d el34.l).2).l)) :: (nest 5 K52 ++ ([] : List Ent))) := H_10.asL (i := 3) rfl (by rfl) rfl rfl
              have H_12 : Hp w0 [] w_8 (Ent.blk b18 65 #[v52_2, Value.int .i64 (((Jn.add d el34.l).2).left), Value.bool (((Jn.add d el34.l).2).armed), Value.bool (((Jn.add d el34.l).2).off)] :: Ent.own v52_2 5 1 ((((Jn.add d el34.l).2).l).length) (us .u8 (((Jn.add d el34.l).2).l)) :: Ent.blk bj 47 #[Value.pointer (some ⟨b18, 0, none⟩), v52] :: Ent.own v52 22 1 K52.length (rows K52) :: (nest 5 K52 ++ ([] : List Ent))) := ((H_11.pull 3 rfl).pull 3 rfl)
              refine L_callv rfl rfl T_en15 (A1 e_2_5) (jOpenOk ((Jn.add d el34.l).2) (Jn.add_ok hd (hlt _ mel34)) (by rw [hO1]) H_12) ?_
              rintro _ w_9 ⟨b66, v66, v66_2, K66, rfl, f66_0, H_13⟩; refine ⟨_, rfl, ?_⟩
              have H_14 : Hp w0 [] w_9 (Ent.blk b66 47 #[Value.pointer (some ⟨b18, 0, none⟩), v66] :: Ent.own v66 22 1 K66.length (rows K66) :: Ent.blk b18 65 #[v66_2, Value.int .i64 (((Jn.opens ((Jn.add d el34.l).2)).2).left), Value.bool (((Jn.opens ((Jn.add d el34.l).2)).2).armed), Value.bool (((Jn.opens ((Jn.add d el34.l).2)).2).off)] :: Ent.own v66_2 5 1 (((Jn.opens ((Jn.add d el34.l).2)).2).l.length) (us .u8 (((Jn.opens ((Jn.add d el34.l).2)).2).l)) :: Ent.blk bj 47 #[Value.pointer (some ⟨b18, 0, none⟩), v52] :: Ent.own v52 22 1 K52.length (rows K52) :: (nest 5 K66 ++ (nest 5 K52 ++ ([] : List Ent)))) := Hp.chunk [Ent.blk b66 47 #[Value.pointer (some ⟨b18, 0, none⟩), v66], Ent.own v66 22 1 K66.length (rows K66), Ent.blk b18 65 #[v66_2, Value.int .i64 (((Jn.opens ((Jn.add d el34.l).2)).2).left), Value.bool (((Jn.opens ((Jn.add d el34.l).2)).2).armed), Value.bool (((Jn.opens ((Jn.add d el34.l).2)).2).off)], Ent.own v66_2 5 1 (((Jn.opens ((Jn.add d el34.l).2)).2).l.length) (us .u8 (((Jn.opens ((Jn.add d el34.l).2)).2).l))] (nest 5 K66) [Ent.blk bj 47 #[Value.pointer (some ⟨b18, 0, none⟩), v52], Ent.own v52 22 1 K52.length (rows K52)] (nest 5 K52 ++ ([] : List Ent)) H_13
              have okK66 : Jn.ok (keys K66) := by rw [f66_0]; exact Jn.read_ok (Jn.add_ok hd (hlt _ mel34)).len (Jn.add_ok hd (hlt _ mel34)).lt
              have hK3 : keys K66 = keys (Ls.take (i + 1)) := by rw [f66_0, hA, Jn.dof_l, Jn.read_whole (fun x hx => ⟨(hmay1 x hx).1, by have := (hmay1 x hx).2; omega⟩)]
              have hK3l : K66.length = i + 1 := by rw [← keys_len, hK3, keys_len, List.length_take]; omega
              refine L_mv rfl ?_
              refine L_y rfl (Y_ext rfl rfl) ?_
              refine L_y rfl (Y_ext rfl rfl) ?_
              refine L_as rfl ?_
              refine L_as rfl ?_
              refine L_nil ?_
              refine Th_n ?_
              refine W_seq ?_
              refine W_seq ?_
              refine W_rg ?_
              refine L_mv rfl ?_
              refine L_y rfl (Y_neq (k := .i64) (a := ((0 : Nat) : Int)) (b := ((0 : Nat) : Int)) rfl rfl) ?_
              refine L_mv rfl ?_
              refine G_mv (wE rfl (congrArg Value.bool (by decide : (((0 : Nat) : Int) != ((0 : Nat) : Int)) = false))) rfl ?_
              refine L_callv (wE rfl (congrArg Value.bool (by decide : (((0 : Nat) : Int) != ((0 : Nat) : Int)) = false))) rfl T_en17 (A1 rfl) (jLen H_14) ?_
              rintro _ w_10 ⟨rfl, hkp_4⟩; refine ⟨_, rfl, ?_⟩; have H_15 := H_14.keep hkp_4
              refine G_mv (wE rfl (congrArg Value.bool (by decide : (((0 : Nat) : Int) != ((0 : Nat) : Int)) = false))) rfl ?_
              refine G_y (wE rfl (congrArg Value.bool (by decide : (((0 : Nat) : Int) != ((0 : Nat) : Int)) = false))) rfl (Y_add (k := .i64) (a := ((i : Nat) : Int)) (b := ((1 : Nat) : Int)) (z := ((i + 1 : Nat) : Int)) e_2_8 rfl (wi (by omega))) ?_
              refine G_y (wE rfl (congrArg Value.bool (by decide : (((0 : Nat) : Int) != ((0 : Nat) : Int)) = false))) rfl (Y_neq (k := .i64) (a := ((K66.length : Nat) : Int)) (b := ((i + 1 : Nat) : Int)) rfl rfl) ?_
              refine L_y rfl (Y_pickF (congrArg Value.bool (by decide : (((0 : Nat) : Int) != ((0 : Nat) : Int)) = false))) ?_
              refine L_nil ?_
              refine Th_n ?_
              refine W_false (congrArg Value.bool ((by rw [hK3l]; simp) : (((K66.length : Nat) : Int) != ((i + 1 : Nat) : Int)) = false)) ?_
              refine W_skip ?_
              refine Th_n ?_
              refine W_rg ?_
              refine L_mv rfl ?_
              refine L_as rfl ?_
              refine L_nil ?_
              refine InB_n ?_
              refine Th_n ?_
              refine W_rg ?_
              refine L_mv rfl ?_
              refine L_y rfl (Y_add (k := .i64) (a := ((i : Nat) : Int)) (b := ((1 : Nat) : Int)) (z := ((i + 1 : Nat) : Int)) e_2_8 rfl (wi (by omega))) ?_
              refine L_as rfl ?_
              refine L_nil ?_
              have H_16 : Hp w0 [] w_10 (Ent.blk b66 47 #[Value.pointer (some ⟨b18, 0, none⟩), v66] :: Ent.own v66 22 1 K66.length (rows K66) :: Ent.blk b18 65 #[v66_2, Value.int .i64 (((Jn.opens ((Jn.add d el34.l).2)).2).left), Value.bool (((Jn.opens ((Jn.add d el34.l).2)).2).armed), Value.bool (((Jn.opens ((Jn.add d el34.l).2)).2).off)] :: Ent.own v66_2 5 1 (((Jn.opens ((Jn.add d el34.l).2)).2).l.length) (us .u8 (((Jn.opens ((Jn.add d el34.l).2)).2).l)) :: Ent.blk bj 47 #[Value.pointer (some ⟨b18, 0, none⟩), v52] :: Ent.own v52 22 1 K52.length (rows K52) :: (nest 5 K52 ++ (nest 5 K66 ++ ([] : List Ent)))) := Hp.chunk [Ent.blk b66 47 #[Value.pointer (some ⟨b18, 0, none⟩), v66], Ent.own v66 22 1 K66.length (rows K66), Ent.blk b18 65 #[v66_2, Value.int .i64 (((Jn.opens ((Jn.add d el34.l).2)).2).left), Value.bool (((Jn.opens ((Jn.add d el34.l).2)).2).armed), Value.bool (((Jn.opens ((Jn.add d el34.l).2)).2).off)], Ent.own v66_2 5 1 (((Jn.opens ((Jn.add d el34.l).2)).2).l.length) (us .u8 (((Jn.opens ((Jn.add d el34.l).2)).2).l)), Ent.blk bj 47 #[Value.pointer (some ⟨b18, 0, none⟩), v52], Ent.own v52 22 1 K52.length (rows K52)] (nest 5 K66) (nest 5 K52) ([] : List Ent) H_15
              have H_17 : Hp w0 [] w_10 (Ent.blk b66 47 #[Value.pointer (some ⟨b18, 0, none⟩), v66] :: Ent.own v66 22 1 K66.length (rows K66) :: Ent.blk b18 65 #[v66_2, Value.int .i64 (((Jn.opens ((Jn.add d el34.l).2)).2).left), Value.bool (((Jn.opens ((Jn.add d el34.l).2)).2).armed), Value.bool (((Jn.opens ((Jn.add d el34.l).2)).2).off)] :: Ent.own v66_2 5 1 (((Jn.opens ((Jn.add d el34.l).2)).2).l.length) (us .u8 (((Jn.opens ((Jn.add d el34.l).2)).2).l)) :: Ent.blk bj 47 #[Value.pointer (some ⟨b18, 0, none⟩), v52] :: Ent.own v52 22 1 K52.length (rows K52) :: (nest 5 K66 ++ ([] : List Ent))) := Hp.cast [Ent.blk b66 47 #[Value.pointer (some ⟨b18, 0, none⟩), v66], Ent.own v66 22 1 K66.length (rows K66), Ent.blk b18 65 #[v66_2, Value.int .i64 (((Jn.opens ((Jn.add d el34.l).2)).2).left), Value.bool (((Jn.opens ((Jn.add d el34.l).2)).2).armed), Value.bool (((Jn.opens ((Jn.add d el34.l).2)).2).off)], Ent.own v66_2 5 1 (((Jn.opens ((Jn.add d el34.l).2)).2).l.length) (us .u8 (((Jn.opens ((Jn.add d el34.l).2)).2).l)), Ent.blk bj 47 #[Value.pointer (some ⟨b18, 0, none⟩), v52], Ent.own v52 22 1 K52.length (rows K52)] (B := nest 5 K52) H_16
              refine Th_n ⟨_, ?_, (i + 1), _, b66, _, _, _, rfl, e_2_0, e_2_1, e_2_5, rfl, rfl, ((((((H_17.erase 4).erase 4).pull 3 rfl).pull 3 rfl).pull 3 rfl).pull 3 rfl), (Jn.opens_ok (Jn.add_ok hd (hlt _ mel34))), (by rw [hO1]), okK66, hK3, hK3l, hmay1, (by omega)⟩
              omega
            ·
              refine W_skip ?_
              refine InB_n ?_
              refine Th_n ?_
              refine W_rg ?_
              refine L_mv rfl ?_
              refine L_y rfl (Y_add (k := .i64) (a := ((i : Nat) : Int)) (b := ((1 : Nat) : Int)) (z := ((i + 1 : Nat) : Int)) e_2_8 rfl (wi (by omega))) ?_
              refine L_as rfl ?_
              refine L_nil ?_
              refine Th_n ⟨_, ?_, (i + 1), _, bj, _, _, _, rfl, e_2_0, e_2_1, e_2_5, e_2_6, rfl, H_10, (Jn.add_ok hd (hlt _ mel34)), (by rw [hA]), okK52, hK1, hK1l, hmay1, (by omega)⟩
              omega
          ·
            have hb_2' := of_decide_eq_false hb_2
            refine G_no (wN (b := true) rfl (congrArg Value.bool hb_2)) rfl ?_
            refine G_no (wN (b := true) rfl (congrArg Value.bool hb_2)) rfl ?_
            refine G_no (wN (b := true) rfl (congrArg Value.bool hb_2)) rfl ?_
            refine G_no (wN (b := true) rfl (congrArg Value.bool hb_2)) rfl ?_
            refine L_y rfl (Y_pickF (congrArg Value.bool hb_2)) ?_
            refine L_nil ?_
            refine Th_n ?_
            refine W_false rfl ?_
            refine W_skip ?_
            refine InB_n ?_
            refine Th_n ?_
            refine W_rg ?_
            refine L_mv rfl ?_
            refine L_y rfl (Y_add (k := .i64) (a := ((i : Nat) : Int)) (b := ((1 : Nat) : Int)) (z := ((i + 1 : Nat) : Int)) e_2_8 rfl (wi (by omega))) ?_
            refine L_as rfl ?_
            refine L_nil ?_
            refine Th_n ⟨_, ?_, (i + 1), _, bj, _, _, _, rfl, e_2_0, e_2_1, e_2_5, e_2_6, rfl, H_10, (Jn.add_ok hd (hlt _ mel34)), (by rw [hA]), okK52, hK1, hK1l, hmay1, (by omega)⟩
            omega
    ·
      have hc_2' := of_decide_eq_false hc_2
      refine W_exit ?_
      refine Th_x ?_
      refine Th_x ?_
      refine InB_hit ?_
      refine Th_n ?_
      refine W_seq ?_
      refine W_seq ?_
      refine W_rg ?_
      refine L_as rfl ?_
      refine L_nil ?_
      refine Th_n ?_
      refine W_block ?_
      have hKm : K.length = m := by omega
      have hKall : keys K = keys Ls := by rw [hKL, List.take_of_length_le (by have := hT.tab.len; omega)]
      refine W_loop (fun mu_ e w => ∃ i2 : Nat, ∃ v2 : Value, mu_ = m - i2 ∧ e 0 = Value.slice a m c ∧ e 6 = Value.pointer (some ⟨bj, 0, none⟩) ∧ e 11 = Value.int .i64 ((i2 : Nat) : Int) ∧ Hp w0 [] w (Ent.blk bj 47 #[Value.pointer (some ⟨b18, 0, none⟩), v2] :: Ent.own v2 22 1 K.length (rows K) :: (nest 5 K ++ ([] : List Ent))) ∧ i2 ≤ m) _ ⟨0, _, rfl, e_2_0, e_2_6, rfl, ((((H_6.erase 2).erase 2).pull 1 rfl).pull 1 rfl), (Nat.zero_le _)⟩ ?_
      rintro mu_ e_3 w_11 ⟨i2, v2, rfl, e_3_0, e_3_6, e_3_11, H_18, hi2⟩
      refine W_seq ?_
      refine W_seq ?_
      refine W_rg ?_
      refine L_mv rfl ?_
      refine L_mv rfl ?_
      refine L_y rfl (Y_lenS T_sl24 e_3_0) ?_
      refine L_y rfl (Y_lss (k := .i64) (a := ((i2 : Nat) : Int)) (b := ((m : Nat) : Int)) e_3_11 rfl) ?_
      refine L_nil ?_
      refine Th_n ?_
      refine W_cond (b := (decide (((i2 : Nat) : Int) < ((m : Nat) : Int)))) rfl (fun hc_5 => ?_) (fun hc_5 => ?_)
      ·
        have hc_5' := of_decide_eq_true hc_5
        refine W_skip ?_
        refine Th_n ?_
        refine W_seq ?_
        refine W_block ?_
        refine W_seq ?_
        refine W_rg ?_
        refine L_mv rfl ?_
        refine L_mv rfl ?_
        have Hc_2 : Hp w0 [] w_11 (Ent.blk bj 47 #[Value.pointer (some ⟨b18, 0, none⟩), v2] :: Ent.own v2 22 1 K.length (rows K) :: (nest 5 K ++ (([] : List Ent)))) := Hp.chunk [Ent.blk bj 47 #[Value.pointer (some ⟨b18, 0, none⟩), v2], Ent.own v2 22 1 K.length (rows K)] [] (nest 5 K) ([] : List Ent) H_18
        refine L_callv rfl rfl T_en18 (A2 e_3_6 e_3_11) (jRecord (K := K) ((i2 : Nat) : Int) okK Hc_2) ?_
        rintro _ w_12 ⟨a88, c88, v88, rfl, H_19⟩; refine ⟨_, rfl, ?_⟩
        have H_20 : Hp w0 [] w_12 (Ent.own (Value.slice a88 ((Jn.at_ (keys K) ((i2 : Nat) : Int)).length) c88) 5 1 ((Jn.at_ (keys K) ((i2 : Nat) : Int)).length) (us .u8 (Jn.at_ (keys K) ((i2 : Nat) : Int))) :: Ent.blk bj 47 #[Value.pointer (some ⟨b18, 0, none⟩), v88] :: Ent.own v88 22 1 K.length (rows K) :: (nest 5 K ++ ([] : List Ent))) := Hp.chunk [Ent.own (Value.slice a88 ((Jn.at_ (keys K) ((i2 : Nat) : Int)).length) c88) 5 1 ((Jn.at_ (keys K) ((i2 : Nat) : Int)).length) (us .u8 (Jn.at_ (keys K) ((i2 : Nat) : Int))), Ent.blk bj 47 #[Value.pointer (some ⟨b18, 0, none⟩), v88], Ent.own v88 22 1 K.length (rows K)] (nest 5 K) [] ([] : List Ent) H_19
        refine L_mv rfl ?_
        refine L_y rfl (Y_ext rfl rfl) ?_
        refine L_y rfl (Y_ext rfl rfl) ?_
        refine L_as rfl ?_
        refine L_as rfl ?_
        refine L_nil ?_
        refine Th_n ?_
        refine W_seq ?_
        obtain ⟨el98, hel98⟩ := (hT.hp H_20).tab.at (j := i2) (by omega)
        have mel98 := List.mem_of_getElem? hel98
        refine W_quiet H_20 10 [Value.int .i64 ((Jn.rcode (keys K) ((i2 : Nat) : Int) : Nat) : Int), Value.bool (((Jn.rcode (keys K) ((i2 : Nat) : Int) : Nat) : Int) != ((0 : Nat) : Int)), Value.bool (((Jn.rcode (keys K) ((i2 : Nat) : Int) : Nat) : Int) != ((0 : Nat) : Int)), Value.slice a88 ((Jn.at_ (keys K) ((i2 : Nat) : Int)).length) c88, Value.string (bs (Jn.at_ (keys K) ((i2 : Nat) : Int))), Value.slice a m c, Value.int .i64 ((i2 : Nat) : Int), pl a (i2 * 1 + 0), Value.slice el98.a el98.l.length el98.c, Value.string (bs el98.l)] T_mixed (by kernel_rfl) ?_ ?_
        ·
          refine .plain rfl (Pl_y rfl (fun w hBw => rfl)) ?_
          refine .plain rfl (Pl_y rfl (fun w hBw => Y_neq (k := .i64) (a := ((Jn.rcode (keys K) ((i2 : Nat) : Int) : Nat) : Int)) (b := ((0 : Nat) : Int)) rfl rfl)) ?_
          refine .plain rfl (Pl_y rfl (fun w hBw => rfl)) ?_
          refine .plain rfl (Pl_y (wE rfl (congrArg Value.bool ((by rw [Jn.rcode_lt (by rw [keys_len]; omega)]; rfl) : (((Jn.rcode (keys K) ((i2 : Nat) : Int) : Nat) : Int) != ((0 : Nat) : Int)) = false))) (fun w hBw => rfl)) ?_
          refine .plain rfl (Pl_y (wE rfl (congrArg Value.bool ((by rw [Jn.rcode_lt (by rw [keys_len]; omega)]; rfl) : (((Jn.rcode (keys K) ((i2 : Nat) : Int) : Nat) : Int) != ((0 : Nat) : Int)) = false))) (fun w hBw => Y_strL Try.underlying22 Try.underlying5 Try.underlying9 rfl (Sl.own hBw (i := 0) rfl))) ?_
          refine .plain rfl (Pl_y (wE rfl (congrArg Value.bool ((by rw [Jn.rcode_lt (by rw [keys_len]; omega)]; rfl) : (((Jn.rcode (keys K) ((i2 : Nat) : Int) : Nat) : Int) != ((0 : Nat) : Int)) = false))) (fun w hBw => congrArg (fun v => Result.ok (Next.value v) w) e_3_0)) ?_
          refine .plain rfl (Pl_y (wE rfl (congrArg Value.bool ((by rw [Jn.rcode_lt (by rw [keys_len]; omega)]; rfl) : (((Jn.rcode (keys K) ((i2 : Nat) : Int) : Nat) : Int) != ((0 : Nat) : Int)) = false))) (fun w hBw => congrArg (fun v => Result.ok (Next.value v) w) e_3_11)) ?_
          refine .plain rfl (Pl_y (wE rfl (congrArg Value.bool ((by rw [Jn.rcode_lt (by rw [keys_len]; omega)]; rfl) : (((Jn.rcode (keys K) ((i2 : Nat) : Int) : Nat) : Int) != ((0 : Nat) : Int)) = false))) (fun w hBw => Y_idxT (j := i2) T_sl24 (hT.hp hBw).tab hel98 rfl rfl rfl)) ?_
          refine .plain rfl (Pl_y (wE rfl (congrArg Value.bool ((by rw [Jn.rcode_lt (by rw [keys_len]; omega)]; rfl) : (((Jn.rcode (keys K) ((i2 : Nat) : Int) : Nat) : Int) != ((0 : Nat) : Int)) = false))) (fun w hBw => Y_ldT (j := i2) (off := 0) T_scal22 (hT.hp hBw).tab hel98 rfl rfl rfl)) ?_
          refine .plain rfl (Pl_y (wE rfl (congrArg Value.bool ((by rw [Jn.rcode_lt (by rw [keys_len]; omega)]; rfl) : (((Jn.rcode (keys K) ((i2 : Nat) : Int) : Nat) : Int) != ((0 : Nat) : Int)) = false))) (fun w hBw => Y_strL Try.underlying22 Try.underlying5 Try.underlying9 rfl ((hs _ mel98).hp hBw))) ?_
          exact .nil _
        ·
          intro e_4 w_13 hAg H_21
          have e_4_0 : e_4 0 = Value.slice a m c := (hAg 0 rfl).trans e_3_0
          have e_4_6 : e_4 6 = Value.pointer (some ⟨bj, 0, none⟩) := (hAg 6 rfl).trans e_3_6
          have e_4_11 : e_4 11 = Value.int .i64 ((i2 : Nat) : Int) := (hAg 11 rfl).trans e_3_11
          have e_4_93 : e_4 93 = Value.bool (((Jn.rcode (keys K) ((i2 : Nat) : Int) : Nat) : Int) != ((0 : Nat) : Int)) := (hAg 93 rfl).trans rfl
          have e_4_95 : e_4 95 = Value.string (bs (Jn.at_ (keys K) ((i2 : Nat) : Int))) := (hAg 95 rfl).trans rfl
          have e_4_100 : e_4 100 = Value.string (bs el98.l) := (hAg 100 rfl).trans rfl
          refine G_y (wE rfl (e_4_93.trans (congrArg Value.bool ((by rw [Jn.rcode_lt (by rw [keys_len]; omega)]; rfl) : (((Jn.rcode (keys K) ((i2 : Nat) : Int) : Nat) : Int) != ((0 : Nat) : Int)) = false)))) rfl (Y_neT (l1 := Jn.at_ (keys K) ((i2 : Nat) : Int)) (l2 := el98.l) Try.underlying9 (Jn.at_lt okK _).1 (hlt _ mel98) e_4_95 e_4_100) ?_
          refine L_y rfl (Y_pickF (e_4_93.trans (congrArg Value.bool ((by rw [Jn.rcode_lt (by rw [keys_len]; omega)]; rfl) : (((Jn.rcode (keys K) ((i2 : Nat) : Int) : Nat) : Int) != ((0 : Nat) : Int)) = false)))) ?_
          refine L_nil ?_
          refine Th_n ?_
          refine W_false (congrArg Value.bool ((by rw [(Jn.at_in (x := el98.l) (by rw [hKall]; exact keys_get hel98)).1]; simp) : (!decide (Jn.at_ (keys K) ((i2 : Nat) : Int) = el98.l)) = false)) ?_
          refine W_skip ?_
          refine InB_n ?_
          refine Th_n ?_
          refine W_rg ?_
          refine L_mv rfl ?_
          refine L_y rfl (Y_add (k := .i64) (a := ((i2 : Nat) : Int)) (b := ((1 : Nat) : Int)) (z := ((i2 + 1 : Nat) : Int)) e_4_11 rfl (wi (by omega))) ?_
          refine L_as rfl ?_
          refine L_nil ?_
          refine Th_n ⟨_, ?_, (i2 + 1), _, rfl, e_4_0, e_4_6, rfl, H_21.drop_, (by omega)⟩
          omega
      ·
        have hc_5' := of_decide_eq_false hc_5
        refine W_exit ?_
        refine Th_x ?_
        refine Th_x ?_
        refine InB_hit ?_
        refine Th_n ?_
        refine W_seq ?_
        refine W_rg ?_
        refine L_mv rfl ?_
        refine L_callv rfl rfl T_en17 (A1 e_3_6) (jLen H_18) ?_
        rintro _ w_14 ⟨rfl, hkp_5⟩; refine ⟨_, rfl, ?_⟩; have H_22 := H_18.keep hkp_5
        refine L_mv rfl ?_
        refine L_y rfl (Y_lenS T_sl24 e_3_0) ?_
        refine L_y rfl (Y_eql (k := .i64) (a := ((K.length : Nat) : Int)) (b := ((m : Nat) : Int)) rfl rfl) ?_
        refine L_mv rfl ?_
        refine L_callv (wE rfl (congrArg Value.bool ((by rw [hKm]; simp) : (((K.length : Nat) : Int) == ((m : Nat) : Int)) = true))) rfl T_en9 (A0) (known_n _) ?_
        rintro _ w_15 ⟨rfl, hkp_6⟩; refine ⟨_, rfl, ?_⟩; have H_23 := H_22.keep hkp_6
        refine L_y rfl (Y_pickT (congrArg Value.bool ((by rw [hKm]; simp) : (((K.length : Nat) : Int) == ((m : Nat) : Int)) = true))) ?_
        refine L_as rfl ?_
        refine L_nil ?_
        refine Th_n ?_
        refine W_ret ?_
        refine P_ret (vs := [Value.bool true]) (v := Value.bool true) rfl (.tmp rfl (Res.nil)) rfl ?_
        refine ⟨?_, H_23.nil_⟩
        rfl

theorem journalLines_w (a : Option Addr) (m c : Nat) (Ls : List Lt) (a2 : Option Addr) (m2 c2 : Nat) (Bb : List Bool) (w0 : World) (hT : Ts w0 a m c Ls) (hg : ∀ x ∈ Ls, Sl w0 .u8 x.a x.l.length x.c x.l ∧ ∀ u ∈ x.l, u < 256) (hT2 : Tab w0 (fun x : Bool => [Value.bool x]) 1 a2 m2 c2 Bb) (_hg2 : ∀ x ∈ Bb, x = x) :
    Calls Try.prog 7 #[.slice a m c, .slice a2 m2 c2] w0 (fun r_ w' => r_ = .returned (.bool true) ∧ Keep w0 w') := journalLines_n a m c Ls a2 m2 c2 Bb w0 hT (fun x hx => (hg x hx).1) (fun x hx => (hg x hx).2) hT2
end Go.Proofs.Ytgmmifpflllkfaa
