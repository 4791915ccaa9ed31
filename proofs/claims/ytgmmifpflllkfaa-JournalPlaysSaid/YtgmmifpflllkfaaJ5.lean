/- Walks of layers 6, 17, 21, 22: jopen, known, rform, rread, sameall. Printed by journal.py. -/
import Derived.Test.YtgmmifpflllkfaaJ4
import Derived.Test.YtgmmifpflllkfaaJournMath2
import Derived.Test.YtgmmifpflllkfaaJournMath3
namespace Go.Proofs.Ytgmmifpflllkfaa
open Go.Ev
set_option maxRecDepth 100000
theorem T_en16 : enters Try.prog 16 = true := by kernel_rfl
theorem T_en10 : enters Try.prog 10 = true := by kernel_rfl
theorem T_en32 : enters Try.prog 32 = true := by kernel_rfl
theorem jreadX {w0 w : World} {X : List Ent} {a : Option Addr} {m c : Nat} {l : List Nat} (hm : m ≤ 16777216) (hsb : Seen w0 X .u8 a m c l) (hlt : ∀ u ∈ l, u < 256) (H : Hp w0 [] w X) :
    Calls Try.prog 10 #[Value.slice a m c] w (fun r_ w' => ∃ a1 c1 K p, r_ = .returned (.tuple #[.slice a1 K.length c1, .int .i64 ((p : Nat) : Int)]) ∧ Jn.End l (keys K) p ∧ Hp w0 [] w' (.own (.slice a1 K.length c1) 22 1 K.length (rows K) :: (nest 5 K ++ X))) := by
  refine (jread hm hlt (hsb.hp H (fun _ h => h))).mono ?_
  rintro _ w' ⟨a1, c1, K, p, rfl, hE, h⟩
  exact ⟨a1, c1, K, p, rfl, hE, H.more h⟩

theorem jOpen0 (w0 : World) :
    Calls Try.prog 15 #[Value.pointer none] w0 (fun r_ w' => r_ = .returned (Value.tuple #[.pointer none, .int .i64 ((1 : Nat) : Int)]) ∧ Keep w0 w') := by
  refine F_in Try.func15 rfl Try.ntmps15 rfl ?_
  intro e he
  have p_0 : e 0 = Value.pointer none := he 0 _ rfl
  have H := Hp.start w0 []
  refine W_seq ?_
  refine W_rg ?_
  refine L_as rfl ?_
  refine L_as rfl ?_
  refine L_nil ?_
  refine Th_n ?_
  refine W_seq ?_
  refine W_rg ?_
  refine L_mv rfl ?_
  refine L_callv rfl rfl T_en16 (A1 p_0) (dBytes0 _) ?_
  rintro _ w_2 ⟨rfl, hkp⟩; refine ⟨_, rfl, ?_⟩; have H_2 := H.keep hkp
  refine L_mv rfl ?_
  refine L_y rfl (Y_ext rfl rfl) ?_
  refine L_y rfl (Y_ext rfl rfl) ?_
  refine L_as rfl ?_
  refine L_as rfl ?_
  refine L_nil ?_
  refine Th_n ?_
  refine W_seq ?_
  refine W_seq ?_
  refine W_rg ?_
  refine L_mv rfl ?_
  refine L_y rfl (Y_neq (k := .i64) (a := ((1 : Nat) : Int)) (b := ((0 : Nat) : Int)) rfl rfl) ?_
  refine L_nil ?_
  refine Th_n ?_
  refine W_true (congrArg Value.bool (by decide : (((1 : Nat) : Int) != ((0 : Nat) : Int)) = true)) ?_
  refine W_seq ?_
  refine W_rg ?_
  refine L_mv rfl ?_
  refine L_as rfl ?_
  refine L_as rfl ?_
  refine L_nil ?_
  refine Th_n ?_
  refine W_ret ?_
  refine Th_r ?_
  refine P_ret (vs := [Value.pointer none, Value.int .i64 ((1 : Nat) : Int)]) (v := Value.tuple #[Value.pointer none, Value.int .i64 ((1 : Nat) : Int)]) rfl (.tmp rfl (.tmp rfl (Res.nil))) rfl ?_
  refine ⟨?_, H_2.nil_⟩
  rfl

theorem jOpenNo {w0 w : World} {X : List Ent} {bd : Nat} {vd : Value} (d : Dk.D) (hd : Dk.ok d) (hop : (Jn.opens d).1 ≠ 0) (H : Hp w0 [] w (Ent.blk bd 65 #[vd, Value.int .i64 (d.left), Value.bool d.armed, Value.bool d.off] :: Ent.own vd 5 1 d.l.length (us .u8 d.l) :: X)) :
    Calls Try.prog 15 #[Value.pointer (some ⟨bd, 0, none⟩)] w (fun r_ w' => ∃ vd', r_ = .returned (.tuple #[.pointer none, .int .i64 (((Jn.opens d).1 : Nat) : Int)]) ∧ Hp w0 [] w' (Ent.blk bd 65 #[vd', Value.int .i64 (((Jn.opens d).2).left), Value.bool (((Jn.opens d).2).armed), Value.bool (((Jn.opens d).2).off)] :: Ent.own vd' 5 1 (((Jn.opens d).2).l.length) (us .u8 (((Jn.opens d).2).l)) :: X)) := by
  have htl := Dk.told_len hd
  have hdl := hd.len
  refine F_in Try.func15 rfl Try.ntmps15 rfl ?_
  intro e he
  have p_0 : e 0 = Value.pointer (some ⟨bd, 0, none⟩) := he 0 _ rfl
  refine W_seq ?_
  refine W_rg ?_
  refine L_as rfl ?_
  refine L_as rfl ?_
  refine L_nil ?_
  refine Th_n ?_
  refine W_seq ?_
  refine W_rg ?_
  refine L_mv rfl ?_
  refine L_callv rfl rfl T_en16 (A1 p_0) (dBytes d hd H) ?_
  rintro _ w_2 ⟨v11, rfl, H_2⟩; refine ⟨_, rfl, ?_⟩
  have hq := Dk.told_len (d := d) hd
  refine L_mv rfl ?_
  refine L_y rfl (Y_ext rfl rfl) ?_
  refine L_y rfl (Y_ext rfl rfl) ?_
  refine L_as rfl ?_
  refine L_as rfl ?_
  refine L_nil ?_
  refine Th_n ?_
  refine W_seq ?_
  refine W_seq ?_
  refine W_rg ?_
  refine L_mv rfl ?_
  refine L_y rfl (Y_neq (k := .i64) (a := ((Dk.ready d : Nat) : Int)) (b := ((0 : Nat) : Int)) rfl rfl) ?_
  refine L_nil ?_
  refine Th_n ?_
  refine W_cond (b := (((Dk.ready d : Nat) : Int) != ((0 : Nat) : Int))) rfl (fun hc => ?_) (fun hc => ?_)
  ·
    have hc' := ne_of_bne hc
    refine W_seq ?_
    refine W_rg ?_
    refine L_mv rfl ?_
    refine L_as rfl ?_
    refine L_as rfl ?_
    refine L_nil ?_
    refine Th_n ?_
    refine W_ret ?_
    refine Th_r ?_
    refine P_ret (vs := [Value.pointer none, Value.int .i64 ((Dk.ready d : Nat) : Int)]) (v := Value.tuple #[Value.pointer none, Value.int .i64 ((Dk.ready d : Nat) : Int)]) rfl (.tmp rfl (.tmp rfl (Res.nil))) rfl ?_
    have hO := (Jn.opens_off (d := d) (by first | omega | simp_all))
    have H_3 : Hp w0 [] w_2 (Ent.blk bd 65 #[vd, Value.int .i64 (d.left), Value.bool d.armed, Value.bool d.off] :: Ent.own vd 5 1 d.l.length (us .u8 d.l) :: X) := H_2.erase 0
    refine ⟨vd, by rw [hO], ?_⟩; rw [hO]; exact H_3
  ·
    have hc' := eq_of_bne_false hc
    refine W_skip ?_
    refine Th_n ?_
    refine W_seq ?_
    refine W_rg ?_
    refine L_mv rfl ?_
    obtain ⟨a_, c_, rfl⟩ := Sl.opn H_2 (i := 0) rfl
    refine L_callv rfl rfl T_en10 (A1 rfl) (jreadX (by omega) (Seen.own (i := 0) rfl) (Dk.told_lt hd) H_2) ?_
    rintro _ w_3 ⟨a19, c19, K19, p19, rfl, f19_0, H_4⟩; refine ⟨_, rfl, ?_⟩
    have H_5 : Hp w0 [] w_3 (Ent.own (Value.slice a19 K19.length c19) 22 1 K19.length (rows K19) :: Ent.own (Value.slice a_ ((Dk.told d).length) c_) 5 1 ((Dk.told d).length) (us .u8 (Dk.told d)) :: Ent.blk bd 65 #[vd, Value.int .i64 (d.left), Value.bool d.armed, Value.bool d.off] :: Ent.own vd 5 1 d.l.length (us .u8 d.l) :: (nest 5 K19 ++ X)) := Hp.chunk [Ent.own (Value.slice a19 K19.length c19) 22 1 K19.length (rows K19)] (nest 5 K19) [Ent.own (Value.slice a_ ((Dk.told d).length) c_) 5 1 ((Dk.told d).length) (us .u8 (Dk.told d)), Ent.blk bd 65 #[vd, Value.int .i64 (d.left), Value.bool d.armed, Value.bool d.off], Ent.own vd 5 1 d.l.length (us .u8 d.l)] X H_4
    refine L_mv rfl ?_
    refine L_y rfl (Y_ext rfl rfl) ?_
    refine L_y rfl (Y_ext rfl rfl) ?_
    refine L_as rfl ?_
    refine L_as rfl ?_
    refine L_nil ?_
    refine Th_n ?_
    refine W_seq ?_
    refine W_seq ?_
    refine W_rg ?_
    refine L_mv rfl ?_
    refine L_mv rfl ?_
    refine L_y rfl (Y_lenS T_sl22 rfl) ?_
    refine L_y rfl (Y_lss (k := .i64) (a := ((p19 : Nat) : Int)) (b := (((Dk.told d).length : Nat) : Int)) rfl rfl) ?_
    refine L_nil ?_
    refine Th_n ?_
    refine W_cond (b := (decide (((p19 : Nat) : Int) < (((Dk.told d).length : Nat) : Int)))) rfl (fun hc_2 => ?_) (fun hc_2 => ?_)
    ·
      have hc_2' := of_decide_eq_true hc_2
      refine W_seq ?_
      refine W_rg ?_
      refine L_mv rfl ?_
      refine L_mv rfl ?_
      have H_6 : Hp w0 [] w_3 (Ent.blk bd 65 #[vd, Value.int .i64 (d.left), Value.bool d.armed, Value.bool d.off] :: Ent.own vd 5 1 d.l.length (us .u8 d.l) :: Ent.own (Value.slice a19 K19.length c19) 22 1 K19.length (rows K19) :: Ent.own (Value.slice a_ ((Dk.told d).length) c_) 5 1 ((Dk.told d).length) (us .u8 (Dk.told d)) :: (nest 5 K19 ++ X)) := ((H_5.pull 3 rfl).pull 3 rfl)
      refine L_callv rfl rfl T_en32 (A2 p_0 rfl) (dCut d ((p19 : Nat) : Int) hd H_6) ?_
      rintro _ w_4 ⟨v28, rfl, H_7⟩; refine ⟨_, rfl, ?_⟩
      refine L_as rfl ?_
      refine L_nil ?_
      refine Th_n ?_
      refine W_seq ?_
      refine W_rg ?_
      refine L_mv rfl ?_
      refine L_y rfl (Y_neq (k := .i64) (a := (((Dk.cut d ((p19 : Nat) : Int)).1 : Nat) : Int)) (b := ((0 : Nat) : Int)) rfl rfl) ?_
      refine L_nil ?_
      refine Th_n ?_
      refine W_cond (b := ((((Dk.cut d ((p19 : Nat) : Int)).1 : Nat) : Int) != ((0 : Nat) : Int))) rfl (fun hc_3 => ?_) (fun hc_3 => ?_)
      ·
        have hc_3' := ne_of_bne hc_3
        refine W_seq ?_
        refine W_rg ?_
        refine L_mv rfl ?_
        refine L_as rfl ?_
        refine L_as rfl ?_
        refine L_nil ?_
        refine Th_n ?_
        refine W_ret ?_
        refine Th_r ?_
        refine P_ret (vs := [Value.pointer none, Value.int .i64 (((Dk.cut d ((p19 : Nat) : Int)).1 : Nat) : Int)]) (v := Value.tuple #[Value.pointer none, Value.int .i64 (((Dk.cut d ((p19 : Nat) : Int)).1 : Nat) : Int)]) rfl (.tmp rfl (.tmp rfl (Res.nil))) rfl ?_
        have hO := (Jn.opens_cut (by first | omega | simp_all) f19_0 (by first | assumption | omega)).1
        have H_8 : Hp w0 [] w_4 (Ent.blk bd 65 #[v28, Value.int .i64 (((Dk.cut d ((p19 : Nat) : Int)).2).left), Value.bool (((Dk.cut d ((p19 : Nat) : Int)).2).armed), Value.bool (((Dk.cut d ((p19 : Nat) : Int)).2).off)] :: Ent.own v28 5 1 (((Dk.cut d ((p19 : Nat) : Int)).2).l.length) (us .u8 (((Dk.cut d ((p19 : Nat) : Int)).2).l)) :: Ent.own (Value.slice a19 K19.length c19) 22 1 K19.length (rows K19) :: (nest 5 K19 ++ X)) := H_7.erase 3
        have H_9 : Hp w0 [] w_4 (Ent.blk bd 65 #[v28, Value.int .i64 (((Dk.cut d ((p19 : Nat) : Int)).2).left), Value.bool (((Dk.cut d ((p19 : Nat) : Int)).2).armed), Value.bool (((Dk.cut d ((p19 : Nat) : Int)).2).off)] :: Ent.own v28 5 1 (((Dk.cut d ((p19 : Nat) : Int)).2).l.length) (us .u8 (((Dk.cut d ((p19 : Nat) : Int)).2).l)) :: (nest 5 K19 ++ X)) := H_8.erase 2
        refine ⟨v28, by rw [hO], ?_⟩; rw [hO]; exact (Hp.cast [Ent.blk bd 65 #[v28, Value.int .i64 (((Dk.cut d ((p19 : Nat) : Int)).2).left), Value.bool (((Dk.cut d ((p19 : Nat) : Int)).2).armed), Value.bool (((Dk.cut d ((p19 : Nat) : Int)).2).off)], Ent.own v28 5 1 (((Dk.cut d ((p19 : Nat) : Int)).2).l.length) (us .u8 (((Dk.cut d ((p19 : Nat) : Int)).2).l))] (B := nest 5 K19) H_9)
      ·
        have hc_3' := eq_of_bne_false hc_3
        refine W_skip ?_
        refine Th_n ?_
        refine W_seq ?_
        refine W_rg ?_
        refine L_mv rfl ?_
        refine L_mv rfl ?_
        refine L_y rfl (Y_build (pv := [(0, Value.pointer (some ⟨bd, 0, none⟩)), (1, Value.slice a19 K19.length c19)]) (cs := #[Value.pointer (some ⟨bd, 0, none⟩), Value.slice a19 K19.length c19]) (Bpc p_0 (Bpc rfl Bp0)) (by kernel_rfl)) ?_
        refine L_box rfl H_7 rfl (cs := #[Value.pointer (some ⟨bd, 0, none⟩), Value.slice a19 K19.length c19]) rfl ?_; intro bk35 w_5 H_10
        refine L_as rfl ?_
        refine L_as rfl ?_
        refine L_nil ?_
        refine Th_n ?_
        refine W_ret ?_
        refine P_ret (vs := [Value.pointer (some ⟨bk35, 0, none⟩), Value.int .i64 ((0 : Nat) : Int)]) (v := Value.tuple #[Value.pointer (some ⟨bk35, 0, none⟩), Value.int .i64 ((0 : Nat) : Int)]) rfl (.tmp rfl (.tmp rfl (Res.nil))) rfl ?_
        have hO := (Jn.opens_cut (by first | omega | simp_all) f19_0 (by first | assumption | omega)).1
        exact absurd (congrArg Prod.fst hO) (by first | exact hop | (intro hh; rw [hh] at hop; omega) | simp_all)
    ·
      have hc_2' := of_decide_eq_false hc_2
      refine W_skip ?_
      refine Th_n ?_
      refine W_seq ?_
      refine W_rg ?_
      refine L_mv rfl ?_
      refine L_mv rfl ?_
      refine L_y rfl (Y_build (pv := [(0, Value.pointer (some ⟨bd, 0, none⟩)), (1, Value.slice a19 K19.length c19)]) (cs := #[Value.pointer (some ⟨bd, 0, none⟩), Value.slice a19 K19.length c19]) (Bpc p_0 (Bpc rfl Bp0)) (by kernel_rfl)) ?_
      refine L_box rfl H_5 rfl (cs := #[Value.pointer (some ⟨bd, 0, none⟩), Value.slice a19 K19.length c19]) rfl ?_; intro bk35_2 w_6 H_11
      refine L_as rfl ?_
      refine L_as rfl ?_
      refine L_nil ?_
      refine Th_n ?_
      refine W_ret ?_
      refine P_ret (vs := [Value.pointer (some ⟨bk35_2, 0, none⟩), Value.int .i64 ((0 : Nat) : Int)]) (v := Value.tuple #[Value.pointer (some ⟨bk35_2, 0, none⟩), Value.int .i64 ((0 : Nat) : Int)]) rfl (.tmp rfl (.tmp rfl (Res.nil))) rfl ?_
      have hO := (Jn.opens_all (by first | omega | simp_all) f19_0 (by first | assumption | omega)).1
      exact absurd (congrArg Prod.fst hO) (by first | exact hop | (intro hh; rw [hh] at hop; omega) | simp_all)

theorem jOpenOk {w0 w : World} {X : List Ent} {bd : Nat} {vd : Value} (d : Dk.D) (hd : Dk.ok d) (hop : (Jn.opens d).1 = 0) (H : Hp w0 [] w (Ent.blk bd 65 #[vd, Value.int .i64 (d.left), Value.bool d.armed, Value.bool d.off] :: Ent.own vd 5 1 d.l.length (us .u8 d.l) :: X)) :
    Calls Try.prog 15 #[Value.pointer (some ⟨bd, 0, none⟩)] w (fun r_ w' => ∃ bj v vd' K, r_ = .returned (.tuple #[.pointer (some ⟨bj, 0, none⟩), .int .i64 ((0 : Nat) : Int)]) ∧ keys K = (Jn.read d.l).1 ∧ Hp w0 [] w' (Ent.blk bj 47 #[Value.pointer (some ⟨bd, 0, none⟩), v] :: Ent.own v 22 1 K.length (rows K) :: Ent.blk bd 65 #[vd', Value.int .i64 (((Jn.opens d).2).left), Value.bool (((Jn.opens d).2).armed), Value.bool (((Jn.opens d).2).off)] :: Ent.own vd' 5 1 (((Jn.opens d).2).l.length) (us .u8 (((Jn.opens d).2).l)) :: (nest 5 K ++ X))) := by
  have htl := Dk.told_len hd
  have hdl := hd.len
  refine F_in Try.func15 rfl Try.ntmps15 rfl ?_
  intro e he
  have p_0 : e 0 = Value.pointer (some ⟨bd, 0, none⟩) := he 0 _ rfl
  refine W_seq ?_
  refine W_rg ?_
  refine L_as rfl ?_
  refine L_as rfl ?_
  refine L_nil ?_
  refine Th_n ?_
  refine W_seq ?_
  refine W_rg ?_
  refine L_mv rfl ?_
  refine L_callv rfl rfl T_en16 (A1 p_0) (dBytes d hd H) ?_
  rintro _ w_2 ⟨v11, rfl, H_2⟩; refine ⟨_, rfl, ?_⟩
  have hq := Dk.told_len (d := d) hd
  refine L_mv rfl ?_
  refine L_y rfl (Y_ext rfl rfl) ?_
  refine L_y rfl (Y_ext rfl rfl) ?_
  refine L_as rfl ?_
  refine L_as rfl ?_
  refine L_nil ?_
  refine Th_n ?_
  refine W_seq ?_
  refine W_seq ?_
  refine W_rg ?_
  refine L_mv rfl ?_
  refine L_y rfl (Y_neq (k := .i64) (a := ((Dk.ready d : Nat) : Int)) (b := ((0 : Nat) : Int)) rfl rfl) ?_
  refine L_nil ?_
  refine Th_n ?_
  refine W_cond (b := (((Dk.ready d : Nat) : Int) != ((0 : Nat) : Int))) rfl (fun hc => ?_) (fun hc => ?_)
  ·
    have hc' := ne_of_bne hc
    refine W_seq ?_
    refine W_rg ?_
    refine L_mv rfl ?_
    refine L_as rfl ?_
    refine L_as rfl ?_
    refine L_nil ?_
    refine Th_n ?_
    refine W_ret ?_
    refine Th_r ?_
    refine P_ret (vs := [Value.pointer none, Value.int .i64 ((Dk.ready d : Nat) : Int)]) (v := Value.tuple #[Value.pointer none, Value.int .i64 ((Dk.ready d : Nat) : Int)]) rfl (.tmp rfl (.tmp rfl (Res.nil))) rfl ?_
    have hO := (Jn.opens_off (d := d) (by first | omega | simp_all))
    exact absurd ((congrArg Prod.fst hO).symm.trans hop) (by first | omega | (simp only; omega) | simp_all)
  ·
    have hc' := eq_of_bne_false hc
    refine W_skip ?_
    refine Th_n ?_
    refine W_seq ?_
    refine W_rg ?_
    refine L_mv rfl ?_
    obtain ⟨a_, c_, rfl⟩ := Sl.opn H_2 (i := 0) rfl
    refine L_callv rfl rfl T_en10 (A1 rfl) (jreadX (by omega) (Seen.own (i := 0) rfl) (Dk.told_lt hd) H_2) ?_
    rintro _ w_3 ⟨a19, c19, K19, p19, rfl, f19_0, H_3⟩; refine ⟨_, rfl, ?_⟩
    have H_4 : Hp w0 [] w_3 (Ent.own (Value.slice a19 K19.length c19) 22 1 K19.length (rows K19) :: Ent.own (Value.slice a_ ((Dk.told d).length) c_) 5 1 ((Dk.told d).length) (us .u8 (Dk.told d)) :: Ent.blk bd 65 #[vd, Value.int .i64 (d.left), Value.bool d.armed, Value.bool d.off] :: Ent.own vd 5 1 d.l.length (us .u8 d.l) :: (nest 5 K19 ++ X)) := Hp.chunk [Ent.own (Value.slice a19 K19.length c19) 22 1 K19.length (rows K19)] (nest 5 K19) [Ent.own (Value.slice a_ ((Dk.told d).length) c_) 5 1 ((Dk.told d).length) (us .u8 (Dk.told d)), Ent.blk bd 65 #[vd, Value.int .i64 (d.left), Value.bool d.armed, Value.bool d.off], Ent.own vd 5 1 d.l.length (us .u8 d.l)] X H_3
    refine L_mv rfl ?_
    refine L_y rfl (Y_ext rfl rfl) ?_
    refine L_y rfl (Y_ext rfl rfl) ?_
    refine L_as rfl ?_
    refine L_as rfl ?_
    refine L_nil ?_
    refine Th_n ?_
    refine W_seq ?_
    refine W_seq ?_
    refine W_rg ?_
    refine L_mv rfl ?_
    refine L_mv rfl ?_
    refine L_y rfl (Y_lenS T_sl22 rfl) ?_
    refine L_y rfl (Y_lss (k := .i64) (a := ((p19 : Nat) : Int)) (b := (((Dk.told d).length : Nat) : Int)) rfl rfl) ?_
    refine L_nil ?_
    refine Th_n ?_
    refine W_cond (b := (decide (((p19 : Nat) : Int) < (((Dk.told d).length : Nat) : Int)))) rfl (fun hc_2 => ?_) (fun hc_2 => ?_)
    ·
      have hc_2' := of_decide_eq_true hc_2
      refine W_seq ?_
      refine W_rg ?_
      refine L_mv rfl ?_
      refine L_mv rfl ?_
      have H_5 : Hp w0 [] w_3 (Ent.blk bd 65 #[vd, Value.int .i64 (d.left), Value.bool d.armed, Value.bool d.off] :: Ent.own vd 5 1 d.l.length (us .u8 d.l) :: Ent.own (Value.slice a19 K19.length c19) 22 1 K19.length (rows K19) :: Ent.own (Value.slice a_ ((Dk.told d).length) c_) 5 1 ((Dk.told d).length) (us .u8 (Dk.told d)) :: (nest 5 K19 ++ X)) := ((H_4.pull 3 rfl).pull 3 rfl)
      refine L_callv rfl rfl T_en32 (A2 p_0 rfl) (dCut d ((p19 : Nat) : Int) hd H_5) ?_
      rintro _ w_4 ⟨v28, rfl, H_6⟩; refine ⟨_, rfl, ?_⟩
      refine L_as rfl ?_
      refine L_nil ?_
      refine Th_n ?_
      refine W_seq ?_
      refine W_rg ?_
      refine L_mv rfl ?_
      refine L_y rfl (Y_neq (k := .i64) (a := (((Dk.cut d ((p19 : Nat) : Int)).1 : Nat) : Int)) (b := ((0 : Nat) : Int)) rfl rfl) ?_
      refine L_nil ?_
      refine Th_n ?_
      refine W_cond (b := ((((Dk.cut d ((p19 : Nat) : Int)).1 : Nat) : Int) != ((0 : Nat) : Int))) rfl (fun hc_3 => ?_) (fun hc_3 => ?_)
      ·
        have hc_3' := ne_of_bne hc_3
        refine W_seq ?_
        refine W_rg ?_
        refine L_mv rfl ?_
        refine L_as rfl ?_
        refine L_as rfl ?_
        refine L_nil ?_
        refine Th_n ?_
        refine W_ret ?_
        refine Th_r ?_
        refine P_ret (vs := [Value.pointer none, Value.int .i64 (((Dk.cut d ((p19 : Nat) : Int)).1 : Nat) : Int)]) (v := Value.tuple #[Value.pointer none, Value.int .i64 (((Dk.cut d ((p19 : Nat) : Int)).1 : Nat) : Int)]) rfl (.tmp rfl (.tmp rfl (Res.nil))) rfl ?_
        have hO := (Jn.opens_cut (by first | omega | simp_all) f19_0 (by first | assumption | omega)).1
        exact absurd ((congrArg Prod.fst hO).symm.trans hop) (by first | omega | (simp only; omega) | simp_all)
      ·
        have hc_3' := eq_of_bne_false hc_3
        refine W_skip ?_
        refine Th_n ?_
        refine W_seq ?_
        refine W_rg ?_
        refine L_mv rfl ?_
        refine L_mv rfl ?_
        refine L_y rfl (Y_build (pv := [(0, Value.pointer (some ⟨bd, 0, none⟩)), (1, Value.slice a19 K19.length c19)]) (cs := #[Value.pointer (some ⟨bd, 0, none⟩), Value.slice a19 K19.length c19]) (Bpc p_0 (Bpc rfl Bp0)) (by kernel_rfl)) ?_
        refine L_box rfl H_6 rfl (cs := #[Value.pointer (some ⟨bd, 0, none⟩), Value.slice a19 K19.length c19]) rfl ?_; intro bk35 w_5 H_7
        refine L_as rfl ?_
        refine L_as rfl ?_
        refine L_nil ?_
        refine Th_n ?_
        refine W_ret ?_
        refine P_ret (vs := [Value.pointer (some ⟨bk35, 0, none⟩), Value.int .i64 ((0 : Nat) : Int)]) (v := Value.tuple #[Value.pointer (some ⟨bk35, 0, none⟩), Value.int .i64 ((0 : Nat) : Int)]) rfl (.tmp rfl (.tmp rfl (Res.nil))) rfl ?_
        have hO := (Jn.opens_cut (by first | omega | simp_all) f19_0 (by first | assumption | omega)).1
        have H_8 : Hp w0 [] w_5 (Ent.blk bk35 47 #[Value.pointer (some ⟨bd, 0, none⟩), Value.slice a19 K19.length c19] :: Ent.blk bd 65 #[v28, Value.int .i64 (((Dk.cut d ((p19 : Nat) : Int)).2).left), Value.bool (((Dk.cut d ((p19 : Nat) : Int)).2).armed), Value.bool (((Dk.cut d ((p19 : Nat) : Int)).2).off)] :: Ent.own v28 5 1 (((Dk.cut d ((p19 : Nat) : Int)).2).l.length) (us .u8 (((Dk.cut d ((p19 : Nat) : Int)).2).l)) :: Ent.own (Value.slice a19 K19.length c19) 22 1 K19.length (rows K19) :: (nest 5 K19 ++ X)) := H_7.erase 4
        have H_9 : Hp w0 [] w_5 (Ent.blk bk35 47 #[Value.pointer (some ⟨bd, 0, none⟩), Value.slice a19 K19.length c19] :: Ent.own (Value.slice a19 K19.length c19) 22 1 K19.length (rows K19) :: Ent.blk bd 65 #[v28, Value.int .i64 (((Dk.cut d ((p19 : Nat) : Int)).2).left), Value.bool (((Dk.cut d ((p19 : Nat) : Int)).2).armed), Value.bool (((Dk.cut d ((p19 : Nat) : Int)).2).off)] :: Ent.own v28 5 1 (((Dk.cut d ((p19 : Nat) : Int)).2).l.length) (us .u8 (((Dk.cut d ((p19 : Nat) : Int)).2).l)) :: (nest 5 K19 ++ X)) := ((((H_8.pull 2 rfl).pull 2 rfl).pull 3 rfl).pull 3 rfl)
        refine ⟨_, (Value.slice a19 K19.length c19), v28, K19, rfl, (Jn.opens_cut (by first | omega | simp_all) f19_0 (by first | assumption | omega)).2.symm, ?_⟩; rw [hO]; exact H_9
    ·
      have hc_2' := of_decide_eq_false hc_2
      refine W_skip ?_
      refine Th_n ?_
      refine W_seq ?_
      refine W_rg ?_
      refine L_mv rfl ?_
      refine L_mv rfl ?_
      refine L_y rfl (Y_build (pv := [(0, Value.pointer (some ⟨bd, 0, none⟩)), (1, Value.slice a19 K19.length c19)]) (cs := #[Value.pointer (some ⟨bd, 0, none⟩), Value.slice a19 K19.length c19]) (Bpc p_0 (Bpc rfl Bp0)) (by kernel_rfl)) ?_
      refine L_box rfl H_4 rfl (cs := #[Value.pointer (some ⟨bd, 0, none⟩), Value.slice a19 K19.length c19]) rfl ?_; intro bk35_2 w_6 H_10
      refine L_as rfl ?_
      refine L_as rfl ?_
      refine L_nil ?_
      refine Th_n ?_
      refine W_ret ?_
      refine P_ret (vs := [Value.pointer (some ⟨bk35_2, 0, none⟩), Value.int .i64 ((0 : Nat) : Int)]) (v := Value.tuple #[Value.pointer (some ⟨bk35_2, 0, none⟩), Value.int .i64 ((0 : Nat) : Int)]) rfl (.tmp rfl (.tmp rfl (Res.nil))) rfl ?_
      have hO := (Jn.opens_all (by first | omega | simp_all) f19_0 (by first | assumption | omega)).1
      have H_11 : Hp w0 [] w_6 (Ent.blk bk35_2 47 #[Value.pointer (some ⟨bd, 0, none⟩), Value.slice a19 K19.length c19] :: Ent.own (Value.slice a19 K19.length c19) 22 1 K19.length (rows K19) :: Ent.blk bd 65 #[vd, Value.int .i64 (d.left), Value.bool d.armed, Value.bool d.off] :: Ent.own vd 5 1 d.l.length (us .u8 d.l) :: (nest 5 K19 ++ X)) := H_10.erase 2
      refine ⟨_, (Value.slice a19 K19.length c19), vd, K19, rfl, (Jn.opens_all (by first | omega | simp_all) f19_0 (by first | assumption | omega)).2.symm, ?_⟩; rw [hO]; exact H_11

theorem T_en13 : enters Try.prog 13 = true := by kernel_rfl
theorem T_en15 : enters Try.prog 15 = true := by kernel_rfl
theorem T_en22 : enters Try.prog 22 = true := by kernel_rfl
theorem T_en20 : enters Try.prog 20 = true := by kernel_rfl
theorem T_en21 : enters Try.prog 21 = true := by kernel_rfl
theorem T_en18 : enters Try.prog 18 = true := by kernel_rfl
theorem T_en17 : enters Try.prog 17 = true := by kernel_rfl
theorem T_en26 : enters Try.prog 26 = true := by kernel_rfl
attribute [local irreducible] Jn.add Jn.opens Jn.form Jn.sum4 Sm.sum Jn.read Jn.at_ Jn.rcode Dk.arm Dk.restart Dk.add Dk.cut in
theorem known_n (w0 : World) :
    Calls Try.prog 9 #[] w0 (fun r_ w' => r_ = .returned (.bool true) ∧ Keep w0 w') := by
  refine F_in Try.func9 rfl Try.ntmps9 rfl ?_
  intro e he
  have H := Hp.start w0 []
  refine W_seq ?_
  refine W_rg ?_
  refine L_as rfl ?_
  refine L_nil ?_
  refine Th_n ?_
  refine W_seq ?_
  refine W_rg ?_
  refine L_callv rfl rfl T_en13 (A0) (dNew H) ?_
  rintro _ w_2 ⟨b8, v8, rfl, H_2⟩; refine ⟨_, rfl, ?_⟩
  refine L_as rfl ?_
  refine L_nil ?_
  refine Th_n ?_
  refine W_seq ?_
  refine W_rg ?_
  refine L_mv rfl ?_
  refine L_callv rfl rfl T_en15 (A1 rfl) (jOpenOk Dk.new Dk.new_ok Jn.kop0 H_2) ?_
  rintro _ w_3 ⟨b11, v11, v11_2, K11, rfl, f11_0, H_3⟩; refine ⟨_, rfl, ?_⟩
  have H_4 : Hp w0 [] w_3 (Ent.blk b11 47 #[Value.pointer (some ⟨b8, 0, none⟩), v11] :: Ent.own v11 22 1 K11.length (rows K11) :: Ent.blk b8 65 #[v11_2, Value.int .i64 (((Jn.opens Dk.new).2).left), Value.bool (((Jn.opens Dk.new).2).armed), Value.bool (((Jn.opens Dk.new).2).off)] :: Ent.own v11_2 5 1 (((Jn.opens Dk.new).2).l.length) (us .u8 (((Jn.opens Dk.new).2).l)) :: (nest 5 K11 ++ [])) := Hp.chunk [Ent.blk b11 47 #[Value.pointer (some ⟨b8, 0, none⟩), v11], Ent.own v11 22 1 K11.length (rows K11), Ent.blk b8 65 #[v11_2, Value.int .i64 (((Jn.opens Dk.new).2).left), Value.bool (((Jn.opens Dk.new).2).armed), Value.bool (((Jn.opens Dk.new).2).off)], Ent.own v11_2 5 1 (((Jn.opens Dk.new).2).l.length) (us .u8 (((Jn.opens Dk.new).2).l))] (nest 5 K11) [] [] H_3
  have okK11 : Jn.ok (keys K11) := by rw [f11_0]; exact Jn.read_ok Dk.new_ok.len Dk.new_ok.lt
  have hk0 : keys K11 = [] := f11_0.trans Jn.kread0; have hk0l : K11.length = 0 := by rw [← keys_len, hk0]; rfl
  refine L_mv rfl ?_
  refine L_y rfl (Y_ext rfl rfl) ?_
  refine L_y rfl (Y_ext rfl rfl) ?_
  refine L_as rfl ?_
  refine L_as rfl ?_
  refine L_nil ?_
  refine Th_n ?_
  refine W_seq ?_
  refine W_seq ?_
  refine W_rg ?_
  refine L_mv rfl ?_
  refine L_y rfl (Y_neq (k := .i64) (a := ((0 : Nat) : Int)) (b := ((0 : Nat) : Int)) rfl rfl) ?_
  refine L_mv rfl ?_
  refine G_mv (wE rfl (congrArg Value.bool (by decide : (((0 : Nat) : Int) != ((0 : Nat) : Int)) = false))) rfl ?_
  refine L_g (wE rfl (congrArg Value.bool (by decide : (((0 : Nat) : Int) != ((0 : Nat) : Int)) = false))) ?_
  refine L_bsl (cs := ua .u8 [97]) rfl H_4 (pv := [(0, Value.int .u8 ((97 : Nat) : Int))]) T_sl22 T_zero5 rfl (Bpc rfl Bp0) (by kernel_rfl) ?_; intro bk18 w_4 H_5
  refine L_g (wE rfl (congrArg Value.bool (by decide : (((0 : Nat) : Int) != ((0 : Nat) : Int)) = false))) ?_
  refine L_cvB rfl H_5 (i := 0) rfl Try.underlying22 Try.underlying5 rfl ?_; intro w_5 Hx
  have H_6 : Hp w0 [] w_5 (Ent.ro bk18 5 (ua .u8 [97]) ((ua .u8 [97]).size, (ua .u8 [97]).size + 1) :: Ent.blk b11 47 #[Value.pointer (some ⟨b8, 0, none⟩), v11] :: Ent.own v11 22 1 K11.length (rows K11) :: Ent.blk b8 65 #[v11_2, Value.int .i64 (((Jn.opens Dk.new).2).left), Value.bool (((Jn.opens Dk.new).2).armed), Value.bool (((Jn.opens Dk.new).2).off)] :: Ent.own v11_2 5 1 (((Jn.opens Dk.new).2).l.length) (us .u8 (((Jn.opens Dk.new).2).l)) :: (nest 5 K11 ++ [])) := Hx
  have H_7 : Hp w0 [] w_5 (Ent.ro bk18 5 (ua .u8 [97]) ((ua .u8 [97]).size, (ua .u8 [97]).size + 1) :: Ent.blk b11 47 #[Value.pointer (some ⟨b8, 0, none⟩), v11] :: Ent.own v11 22 1 K11.length (rows K11) :: Ent.blk b8 65 #[v11_2, Value.int .i64 (((Jn.opens Dk.new).2).left), Value.bool (((Jn.opens Dk.new).2).armed), Value.bool (((Jn.opens Dk.new).2).off)] :: Ent.own v11_2 5 1 ((((Jn.opens Dk.new).2).l).length) (us .u8 (((Jn.opens Dk.new).2).l)) :: (nest 5 K11 ++ [])) := H_6.asL (i := 4) rfl (by rfl) rfl rfl
  have H_8 : Hp w0 [] w_5 (Ent.blk b11 47 #[Value.pointer (some ⟨b8, 0, none⟩), v11] :: Ent.own v11 22 1 K11.length (rows K11) :: Ent.blk b8 65 #[v11_2, Value.int .i64 (((Jn.opens Dk.new).2).left), Value.bool (((Jn.opens Dk.new).2).armed), Value.bool (((Jn.opens Dk.new).2).off)] :: Ent.own v11_2 5 1 ((((Jn.opens Dk.new).2).l).length) (us .u8 (((Jn.opens Dk.new).2).l)) :: Ent.ro bk18 5 (ua .u8 [97]) ((ua .u8 [97]).size, (ua .u8 [97]).size + 1) :: (nest 5 K11 ++ [])) := ((((H_7.pull 4 rfl).pull 4 rfl).pull 4 rfl).pull 4 rfl)
  have Hc : Hp w0 [] w_5 (Ent.blk b11 47 #[Value.pointer (some ⟨b8, 0, none⟩), v11] :: Ent.own v11 22 1 K11.length (rows K11) :: Ent.blk b8 65 #[v11_2, Value.int .i64 (((Jn.opens Dk.new).2).left), Value.bool (((Jn.opens Dk.new).2).armed), Value.bool (((Jn.opens Dk.new).2).off)] :: Ent.own v11_2 5 1 ((((Jn.opens Dk.new).2).l).length) (us .u8 (((Jn.opens Dk.new).2).l)) :: (nest 5 K11 ++ (Ent.ro bk18 5 (ua .u8 [97]) ((ua .u8 [97]).size, (ua .u8 [97]).size + 1) :: []))) := Hp.chunk [Ent.blk b11 47 #[Value.pointer (some ⟨b8, 0, none⟩), v11], Ent.own v11 22 1 K11.length (rows K11), Ent.blk b8 65 #[v11_2, Value.int .i64 (((Jn.opens Dk.new).2).left), Value.bool (((Jn.opens Dk.new).2).armed), Value.bool (((Jn.opens Dk.new).2).off)], Ent.own v11_2 5 1 ((((Jn.opens Dk.new).2).l).length) (us .u8 (((Jn.opens Dk.new).2).l))] [Ent.ro bk18 5 (ua .u8 [97]) ((ua .u8 [97]).size, (ua .u8 [97]).size + 1)] (nest 5 K11) [] H_8
  refine L_callv (wE rfl (congrArg Value.bool (by decide : (((0 : Nat) : Int) != ((0 : Nat) : Int)) = false))) rfl T_en22 (A2 rfl rfl) (jAdd (K := K11) Jn.e0 Jn.e0_ok okK11 (by omega) (by omega) (Seen.mono (Seen.ro (X := [Ent.ro bk18 5 (ua .u8 [97]) ((ua .u8 [97]).size, (ua .u8 [97]).size + 1)]) (i := 0) rfl rfl) (fun y hy => by simp only [List.mem_singleton] at hy; subst hy; simp)) (by decide) Hc) ?_
  rintro _ w_6 ⟨v20, v20_2, K20, rfl, f20_0, H_9⟩; refine ⟨_, rfl, ?_⟩
  have H_10 : Hp w0 [] w_6 (Ent.blk b11 47 #[Value.pointer (some ⟨b8, 0, none⟩), v20] :: Ent.own v20 22 1 K20.length (rows K20) :: Ent.blk b8 65 #[v20_2, Value.int .i64 (((Jn.add Jn.e0 [97]).2).left), Value.bool (((Jn.add Jn.e0 [97]).2).armed), Value.bool (((Jn.add Jn.e0 [97]).2).off)] :: Ent.own v20_2 5 1 (((Jn.add Jn.e0 [97]).2).l.length) (us .u8 (((Jn.add Jn.e0 [97]).2).l)) :: Ent.ro bk18 5 (ua .u8 [97]) ((ua .u8 [97]).size, (ua .u8 [97]).size + 1) :: (nest 5 K20 ++ [])) := Hp.chunk [Ent.blk b11 47 #[Value.pointer (some ⟨b8, 0, none⟩), v20], Ent.own v20 22 1 K20.length (rows K20), Ent.blk b8 65 #[v20_2, Value.int .i64 (((Jn.add Jn.e0 [97]).2).left), Value.bool (((Jn.add Jn.e0 [97]).2).armed), Value.bool (((Jn.add Jn.e0 [97]).2).off)], Ent.own v20_2 5 1 (((Jn.add Jn.e0 [97]).2).l.length) (us .u8 (((Jn.add Jn.e0 [97]).2).l))] (nest 5 K20) [Ent.ro bk18 5 (ua .u8 [97]) ((ua .u8 [97]).size, (ua .u8 [97]).size + 1)] [] H_9
  have okK20 : Jn.ok (keys K20) := by rw [f20_0]; exact Jn.addL_ok okK11 (by decide) (by rw [keys_len]; omega)
  have hk9 : K20.length = 1 := by rw [← keys_len, f20_0, hk0, Jn.addL_yes Jn.add_97 rfl]; rfl
  refine G_y (wE rfl (congrArg Value.bool (by decide : (((0 : Nat) : Int) != ((0 : Nat) : Int)) = false))) rfl (Y_neq (k := .i64) (a := (((Jn.add Jn.e0 [97]).1 : Nat) : Int)) (b := ((0 : Nat) : Int)) rfl rfl) ?_
  refine L_y rfl (Y_pickF (congrArg Value.bool (by decide : (((0 : Nat) : Int) != ((0 : Nat) : Int)) = false))) ?_
  refine L_mv rfl ?_
  refine G_mv (wE rfl (congrArg Value.bool ((by rw [Jn.kadd1]; decide) : ((((Jn.add Jn.e0 [97]).1 : Nat) : Int) != ((0 : Nat) : Int)) = false))) rfl ?_
  have H_11 : Hp w0 [] w_6 (Ent.blk b11 47 #[Value.pointer (some ⟨b8, 0, none⟩), v20] :: Ent.own v20 22 1 K20.length (rows K20) :: Ent.blk b8 65 #[v20_2, Value.int .i64 (((Jn.add Jn.e0 [97]).2).left), Value.bool (((Jn.add Jn.e0 [97]).2).armed), Value.bool (((Jn.add Jn.e0 [97]).2).off)] :: Ent.own v20_2 5 1 ((((Jn.add Jn.e0 [97]).2).l).length) (us .u8 (((Jn.add Jn.e0 [97]).2).l)) :: Ent.ro bk18 5 (ua .u8 [97]) ((ua .u8 [97]).size, (ua .u8 [97]).size + 1) :: (nest 5 K20 ++ [])) := H_10.asL (i := 3) rfl (by rfl) rfl rfl
  have H_12 : Hp w0 [] w_6 (Ent.blk b8 65 #[v20_2, Value.int .i64 (((Jn.add Jn.e0 [97]).2).left), Value.bool (((Jn.add Jn.e0 [97]).2).armed), Value.bool (((Jn.add Jn.e0 [97]).2).off)] :: Ent.own v20_2 5 1 ((((Jn.add Jn.e0 [97]).2).l).length) (us .u8 (((Jn.add Jn.e0 [97]).2).l)) :: Ent.blk b11 47 #[Value.pointer (some ⟨b8, 0, none⟩), v20] :: Ent.own v20 22 1 K20.length (rows K20) :: Ent.ro bk18 5 (ua .u8 [97]) ((ua .u8 [97]).size, (ua .u8 [97]).size + 1) :: (nest 5 K20 ++ [])) := ((H_11.pull 3 rfl).pull 3 rfl)
  refine L_callv (wE rfl (congrArg Value.bool ((by rw [Jn.kadd1]; decide) : ((((Jn.add Jn.e0 [97]).1 : Nat) : Int) != ((0 : Nat) : Int)) = false))) rfl T_en20 (A2 rfl rfl) (dArm Jn.e1 ((7 : Nat) : Int) Jn.e1_ok H_12) ?_
  rintro _ w_7 ⟨v25, rfl, H_13⟩; refine ⟨_, rfl, ?_⟩
  refine G_y (wE rfl (congrArg Value.bool ((by rw [Jn.kadd1]; decide) : ((((Jn.add Jn.e0 [97]).1 : Nat) : Int) != ((0 : Nat) : Int)) = false))) rfl (Y_neq (k := .i64) (a := (((Dk.arm Jn.e1 ((7 : Nat) : Int)).1 : Nat) : Int)) (b := ((0 : Nat) : Int)) rfl rfl) ?_
  refine L_y rfl (Y_pickF (congrArg Value.bool ((by rw [Jn.kadd1]; decide) : ((((Jn.add Jn.e0 [97]).1 : Nat) : Int) != ((0 : Nat) : Int)) = false))) ?_
  refine L_mv rfl ?_
  refine G_mv (wE rfl (congrArg Value.bool ((by rw [Jn.karm]; decide) : ((((Dk.arm Jn.e1 ((7 : Nat) : Int)).1 : Nat) : Int) != ((0 : Nat) : Int)) = false))) rfl ?_
  refine L_g (wE rfl (congrArg Value.bool ((by rw [Jn.karm]; decide) : ((((Dk.arm Jn.e1 ((7 : Nat) : Int)).1 : Nat) : Int) != ((0 : Nat) : Int)) = false))) ?_
  refine L_bsl (cs := ua .u8 [98]) rfl H_13 (pv := [(0, Value.int .u8 ((98 : Nat) : Int))]) T_sl22 T_zero5 rfl (Bpc rfl Bp0) (by kernel_rfl) ?_; intro bk30 w_8 H_14
  refine L_g (wE rfl (congrArg Value.bool ((by rw [Jn.karm]; decide) : ((((Dk.arm Jn.e1 ((7 : Nat) : Int)).1 : Nat) : Int) != ((0 : Nat) : Int)) = false))) ?_
  refine L_cvB rfl H_14 (i := 0) rfl Try.underlying22 Try.underlying5 rfl ?_; intro w_9 Hx_2
  have H_15 : Hp w0 [] w_9 (Ent.ro bk30 5 (ua .u8 [98]) ((ua .u8 [98]).size, (ua .u8 [98]).size + 1) :: Ent.blk b8 65 #[v25, Value.int .i64 (((Dk.arm Jn.e1 ((7 : Nat) : Int)).2).left), Value.bool (((Dk.arm Jn.e1 ((7 : Nat) : Int)).2).armed), Value.bool (((Dk.arm Jn.e1 ((7 : Nat) : Int)).2).off)] :: Ent.own v25 5 1 (((Dk.arm Jn.e1 ((7 : Nat) : Int)).2).l.length) (us .u8 (((Dk.arm Jn.e1 ((7 : Nat) : Int)).2).l)) :: Ent.blk b11 47 #[Value.pointer (some ⟨b8, 0, none⟩), v20] :: Ent.own v20 22 1 K20.length (rows K20) :: Ent.ro bk18 5 (ua .u8 [97]) ((ua .u8 [97]).size, (ua .u8 [97]).size + 1) :: (nest 5 K20 ++ [])) := Hx_2
  have H_16 : Hp w0 [] w_9 (Ent.ro bk30 5 (ua .u8 [98]) ((ua .u8 [98]).size, (ua .u8 [98]).size + 1) :: Ent.blk b8 65 #[v25, Value.int .i64 (((Dk.arm Jn.e1 ((7 : Nat) : Int)).2).left), Value.bool (((Dk.arm Jn.e1 ((7 : Nat) : Int)).2).armed), Value.bool (((Dk.arm Jn.e1 ((7 : Nat) : Int)).2).off)] :: Ent.own v25 5 1 ((((Dk.arm Jn.e1 ((7 : Nat) : Int)).2).l).length) (us .u8 (((Dk.arm Jn.e1 ((7 : Nat) : Int)).2).l)) :: Ent.blk b11 47 #[Value.pointer (some ⟨b8, 0, none⟩), v20] :: Ent.own v20 22 1 K20.length (rows K20) :: Ent.ro bk18 5 (ua .u8 [97]) ((ua .u8 [97]).size, (ua .u8 [97]).size + 1) :: (nest 5 K20 ++ [])) := H_15.asL (i := 2) rfl (by rfl) rfl rfl
  have H_17 : Hp w0 [] w_9 (Ent.blk b11 47 #[Value.pointer (some ⟨b8, 0, none⟩), v20] :: Ent.own v20 22 1 K20.length (rows K20) :: Ent.blk b8 65 #[v25, Value.int .i64 (((Dk.arm Jn.e1 ((7 : Nat) : Int)).2).left), Value.bool (((Dk.arm Jn.e1 ((7 : Nat) : Int)).2).armed), Value.bool (((Dk.arm Jn.e1 ((7 : Nat) : Int)).2).off)] :: Ent.own v25 5 1 ((((Dk.arm Jn.e1 ((7 : Nat) : Int)).2).l).length) (us .u8 (((Dk.arm Jn.e1 ((7 : Nat) : Int)).2).l)) :: Ent.ro bk30 5 (ua .u8 [98]) ((ua .u8 [98]).size, (ua .u8 [98]).size + 1) :: Ent.ro bk18 5 (ua .u8 [97]) ((ua .u8 [97]).size, (ua .u8 [97]).size + 1) :: (nest 5 K20 ++ [])) := ((((H_16.pull 2 rfl).pull 2 rfl).pull 4 rfl).pull 4 rfl)
  have Hc_2 : Hp w0 [] w_9 (Ent.blk b11 47 #[Value.pointer (some ⟨b8, 0, none⟩), v20] :: Ent.own v20 22 1 K20.length (rows K20) :: Ent.blk b8 65 #[v25, Value.int .i64 (((Dk.arm Jn.e1 ((7 : Nat) : Int)).2).left), Value.bool (((Dk.arm Jn.e1 ((7 : Nat) : Int)).2).armed), Value.bool (((Dk.arm Jn.e1 ((7 : Nat) : Int)).2).off)] :: Ent.own v25 5 1 ((((Dk.arm Jn.e1 ((7 : Nat) : Int)).2).l).length) (us .u8 (((Dk.arm Jn.e1 ((7 : Nat) : Int)).2).l)) :: (nest 5 K20 ++ (Ent.ro bk30 5 (ua .u8 [98]) ((ua .u8 [98]).size, (ua .u8 [98]).size + 1) :: Ent.ro bk18 5 (ua .u8 [97]) ((ua .u8 [97]).size, (ua .u8 [97]).size + 1) :: []))) := Hp.chunk [Ent.blk b11 47 #[Value.pointer (some ⟨b8, 0, none⟩), v20], Ent.own v20 22 1 K20.length (rows K20), Ent.blk b8 65 #[v25, Value.int .i64 (((Dk.arm Jn.e1 ((7 : Nat) : Int)).2).left), Value.bool (((Dk.arm Jn.e1 ((7 : Nat) : Int)).2).armed), Value.bool (((Dk.arm Jn.e1 ((7 : Nat) : Int)).2).off)], Ent.own v25 5 1 ((((Dk.arm Jn.e1 ((7 : Nat) : Int)).2).l).length) (us .u8 (((Dk.arm Jn.e1 ((7 : Nat) : Int)).2).l))] [Ent.ro bk30 5 (ua .u8 [98]) ((ua .u8 [98]).size, (ua .u8 [98]).size + 1), Ent.ro bk18 5 (ua .u8 [97]) ((ua .u8 [97]).size, (ua .u8 [97]).size + 1)] (nest 5 K20) [] H_17
  refine L_callv (wE rfl (congrArg Value.bool ((by rw [Jn.karm]; decide) : ((((Dk.arm Jn.e1 ((7 : Nat) : Int)).1 : Nat) : Int) != ((0 : Nat) : Int)) = false))) rfl T_en22 (A2 rfl rfl) (jAdd (K := K20) Jn.e2 Jn.e2_ok okK20 (by omega) (by omega) (Seen.mono (Seen.ro (X := [Ent.ro bk30 5 (ua .u8 [98]) ((ua .u8 [98]).size, (ua .u8 [98]).size + 1)]) (i := 0) rfl rfl) (fun y hy => by simp only [List.mem_singleton] at hy; subst hy; simp)) (by decide) Hc_2) ?_
  rintro _ w_10 ⟨v32, v32_2, K32, rfl, f32_0, H_18⟩; refine ⟨_, rfl, ?_⟩
  have H_19 : Hp w0 [] w_10 (Ent.blk b11 47 #[Value.pointer (some ⟨b8, 0, none⟩), v32] :: Ent.own v32 22 1 K32.length (rows K32) :: Ent.blk b8 65 #[v32_2, Value.int .i64 (((Jn.add Jn.e2 [98]).2).left), Value.bool (((Jn.add Jn.e2 [98]).2).armed), Value.bool (((Jn.add Jn.e2 [98]).2).off)] :: Ent.own v32_2 5 1 (((Jn.add Jn.e2 [98]).2).l.length) (us .u8 (((Jn.add Jn.e2 [98]).2).l)) :: Ent.ro bk30 5 (ua .u8 [98]) ((ua .u8 [98]).size, (ua .u8 [98]).size + 1) :: Ent.ro bk18 5 (ua .u8 [97]) ((ua .u8 [97]).size, (ua .u8 [97]).size + 1) :: (nest 5 K32 ++ [])) := Hp.chunk [Ent.blk b11 47 #[Value.pointer (some ⟨b8, 0, none⟩), v32], Ent.own v32 22 1 K32.length (rows K32), Ent.blk b8 65 #[v32_2, Value.int .i64 (((Jn.add Jn.e2 [98]).2).left), Value.bool (((Jn.add Jn.e2 [98]).2).armed), Value.bool (((Jn.add Jn.e2 [98]).2).off)], Ent.own v32_2 5 1 (((Jn.add Jn.e2 [98]).2).l.length) (us .u8 (((Jn.add Jn.e2 [98]).2).l))] (nest 5 K32) [Ent.ro bk30 5 (ua .u8 [98]) ((ua .u8 [98]).size, (ua .u8 [98]).size + 1), Ent.ro bk18 5 (ua .u8 [97]) ((ua .u8 [97]).size, (ua .u8 [97]).size + 1)] [] H_18
  have okK32 : Jn.ok (keys K32) := by rw [f32_0]; exact Jn.addL_ok okK20 (by decide) (by rw [keys_len]; omega)
  refine G_y (wE rfl (congrArg Value.bool ((by rw [Jn.karm]; decide) : ((((Dk.arm Jn.e1 ((7 : Nat) : Int)).1 : Nat) : Int) != ((0 : Nat) : Int)) = false))) rfl (Y_neq (k := .i64) (a := (((Jn.add Jn.e2 [98]).1 : Nat) : Int)) (b := ((210 : Nat) : Int)) rfl rfl) ?_
  refine L_y rfl (Y_pickF (congrArg Value.bool ((by rw [Jn.karm]; decide) : ((((Dk.arm Jn.e1 ((7 : Nat) : Int)).1 : Nat) : Int) != ((0 : Nat) : Int)) = false))) ?_
  refine L_mv rfl ?_
  refine G_mv (wE rfl (congrArg Value.bool ((by rw [Jn.kadd2]; decide) : ((((Jn.add Jn.e2 [98]).1 : Nat) : Int) != ((210 : Nat) : Int)) = false))) rfl ?_
  have H_20 : Hp w0 [] w_10 (Ent.blk b11 47 #[Value.pointer (some ⟨b8, 0, none⟩), v32] :: Ent.own v32 22 1 K32.length (rows K32) :: Ent.blk b8 65 #[v32_2, Value.int .i64 (((Jn.add Jn.e2 [98]).2).left), Value.bool (((Jn.add Jn.e2 [98]).2).armed), Value.bool (((Jn.add Jn.e2 [98]).2).off)] :: Ent.own v32_2 5 1 ((((Jn.add Jn.e2 [98]).2).l).length) (us .u8 (((Jn.add Jn.e2 [98]).2).l)) :: Ent.ro bk30 5 (ua .u8 [98]) ((ua .u8 [98]).size, (ua .u8 [98]).size + 1) :: Ent.ro bk18 5 (ua .u8 [97]) ((ua .u8 [97]).size, (ua .u8 [97]).size + 1) :: (nest 5 K32 ++ [])) := H_19.asL (i := 3) rfl (by rfl) rfl rfl
  have H_21 : Hp w0 [] w_10 (Ent.blk b8 65 #[v32_2, Value.int .i64 (((Jn.add Jn.e2 [98]).2).left), Value.bool (((Jn.add Jn.e2 [98]).2).armed), Value.bool (((Jn.add Jn.e2 [98]).2).off)] :: Ent.own v32_2 5 1 ((((Jn.add Jn.e2 [98]).2).l).length) (us .u8 (((Jn.add Jn.e2 [98]).2).l)) :: Ent.blk b11 47 #[Value.pointer (some ⟨b8, 0, none⟩), v32] :: Ent.own v32 22 1 K32.length (rows K32) :: Ent.ro bk30 5 (ua .u8 [98]) ((ua .u8 [98]).size, (ua .u8 [98]).size + 1) :: Ent.ro bk18 5 (ua .u8 [97]) ((ua .u8 [97]).size, (ua .u8 [97]).size + 1) :: (nest 5 K32 ++ [])) := ((H_20.pull 3 rfl).pull 3 rfl)
  refine L_callv (wE rfl (congrArg Value.bool ((by rw [Jn.kadd2]; decide) : ((((Jn.add Jn.e2 [98]).1 : Nat) : Int) != ((210 : Nat) : Int)) = false))) rfl T_en21 (A1 rfl) (dRestart Jn.e3  Jn.e3_ok H_21) ?_
  rintro _ w_11 ⟨v37, rfl, H_22⟩; refine ⟨_, rfl, ?_⟩
  refine G_y (wE rfl (congrArg Value.bool ((by rw [Jn.kadd2]; decide) : ((((Jn.add Jn.e2 [98]).1 : Nat) : Int) != ((210 : Nat) : Int)) = false))) rfl (Y_neq (k := .i64) (a := (((Dk.restart Jn.e3).1 : Nat) : Int)) (b := ((0 : Nat) : Int)) rfl rfl) ?_
  refine L_y rfl (Y_pickF (congrArg Value.bool ((by rw [Jn.kadd2]; decide) : ((((Jn.add Jn.e2 [98]).1 : Nat) : Int) != ((210 : Nat) : Int)) = false))) ?_
  refine L_nil ?_
  refine Th_n ?_
  refine W_false (congrArg Value.bool ((by rw [Jn.kre]; decide) : ((((Dk.restart Jn.e3).1 : Nat) : Int) != ((0 : Nat) : Int)) = false)) ?_
  refine W_skip ?_
  refine Th_n ?_
  refine W_seq ?_
  refine W_rg ?_
  refine L_mv rfl ?_
  have H_23 : Hp w0 [] w_11 (Ent.blk b8 65 #[v37, Value.int .i64 (((Dk.restart Jn.e3).2).left), Value.bool (((Dk.restart Jn.e3).2).armed), Value.bool (((Dk.restart Jn.e3).2).off)] :: Ent.own v37 5 1 ((((Dk.restart Jn.e3).2).l).length) (us .u8 (((Dk.restart Jn.e3).2).l)) :: Ent.blk b11 47 #[Value.pointer (some ⟨b8, 0, none⟩), v32] :: Ent.own v32 22 1 K32.length (rows K32) :: Ent.ro bk30 5 (ua .u8 [98]) ((ua .u8 [98]).size, (ua .u8 [98]).size + 1) :: Ent.ro bk18 5 (ua .u8 [97]) ((ua .u8 [97]).size, (ua .u8 [97]).size + 1) :: (nest 5 K32 ++ [])) := H_22.asL (i := 1) rfl (by rfl) rfl rfl
  refine L_callv rfl rfl T_en15 (A1 rfl) (jOpenOk Jn.e4 Jn.e4_ok Jn.kop1 H_23) ?_
  rintro _ w_12 ⟨b42, v42, v42_2, K42, rfl, f42_0, H_24⟩; refine ⟨_, rfl, ?_⟩
  have H_25 : Hp w0 [] w_12 (Ent.blk b42 47 #[Value.pointer (some ⟨b8, 0, none⟩), v42] :: Ent.own v42 22 1 K42.length (rows K42) :: Ent.blk b8 65 #[v42_2, Value.int .i64 (((Jn.opens Jn.e4).2).left), Value.bool (((Jn.opens Jn.e4).2).armed), Value.bool (((Jn.opens Jn.e4).2).off)] :: Ent.own v42_2 5 1 (((Jn.opens Jn.e4).2).l.length) (us .u8 (((Jn.opens Jn.e4).2).l)) :: Ent.blk b11 47 #[Value.pointer (some ⟨b8, 0, none⟩), v32] :: Ent.own v32 22 1 K32.length (rows K32) :: Ent.ro bk30 5 (ua .u8 [98]) ((ua .u8 [98]).size, (ua .u8 [98]).size + 1) :: Ent.ro bk18 5 (ua .u8 [97]) ((ua .u8 [97]).size, (ua .u8 [97]).size + 1) :: (nest 5 K42 ++ (nest 5 K32 ++ []))) := Hp.chunk [Ent.blk b42 47 #[Value.pointer (some ⟨b8, 0, none⟩), v42], Ent.own v42 22 1 K42.length (rows K42), Ent.blk b8 65 #[v42_2, Value.int .i64 (((Jn.opens Jn.e4).2).left), Value.bool (((Jn.opens Jn.e4).2).armed), Value.bool (((Jn.opens Jn.e4).2).off)], Ent.own v42_2 5 1 (((Jn.opens Jn.e4).2).l.length) (us .u8 (((Jn.opens Jn.e4).2).l))] (nest 5 K42) [Ent.blk b11 47 #[Value.pointer (some ⟨b8, 0, none⟩), v32], Ent.own v32 22 1 K32.length (rows K32), Ent.ro bk30 5 (ua .u8 [98]) ((ua .u8 [98]).size, (ua .u8 [98]).size + 1), Ent.ro bk18 5 (ua .u8 [97]) ((ua .u8 [97]).size, (ua .u8 [97]).size + 1)] (nest 5 K32 ++ []) H_24
  have okK42 : Jn.ok (keys K42) := by rw [f42_0]; exact Jn.read_ok Jn.e4_ok.len Jn.e4_ok.lt
  have hk1 : keys K42 = [[97]] := f42_0.trans Jn.kread1; have hk1l : K42.length = 1 := by rw [← keys_len, hk1]; rfl
  have hka : Jn.at_ (keys K42) ((0 : Nat) : Int) = [97] := by rw [hk1]; exact Jn.at_one
  have hkr : Jn.rcode (keys K42) ((0 : Nat) : Int) = 0 := by rw [hk1]; exact Jn.rcode_one
  have hke := Jn.e5_len
  refine L_mv rfl ?_
  refine L_y rfl (Y_ext rfl rfl) ?_
  refine L_y rfl (Y_ext rfl rfl) ?_
  refine L_as rfl ?_
  refine L_as rfl ?_
  refine L_nil ?_
  refine Th_n ?_
  refine W_seq ?_
  refine W_rg ?_
  refine L_mv rfl ?_
  have Hc_3 : Hp w0 [] w_12 (Ent.blk b42 47 #[Value.pointer (some ⟨b8, 0, none⟩), v42] :: Ent.own v42 22 1 K42.length (rows K42) :: (nest 5 K42 ++ (Ent.blk b8 65 #[v42_2, Value.int .i64 (((Jn.opens Jn.e4).2).left), Value.bool (((Jn.opens Jn.e4).2).armed), Value.bool (((Jn.opens Jn.e4).2).off)] :: Ent.own v42_2 5 1 (((Jn.opens Jn.e4).2).l.length) (us .u8 (((Jn.opens Jn.e4).2).l)) :: Ent.blk b11 47 #[Value.pointer (some ⟨b8, 0, none⟩), v32] :: Ent.own v32 22 1 K32.length (rows K32) :: Ent.ro bk30 5 (ua .u8 [98]) ((ua .u8 [98]).size, (ua .u8 [98]).size + 1) :: Ent.ro bk18 5 (ua .u8 [97]) ((ua .u8 [97]).size, (ua .u8 [97]).size + 1) :: (nest 5 K32 ++ [])))) := Hp.chunk [Ent.blk b42 47 #[Value.pointer (some ⟨b8, 0, none⟩), v42], Ent.own v42 22 1 K42.length (rows K42)] [Ent.blk b8 65 #[v42_2, Value.int .i64 (((Jn.opens Jn.e4).2).left), Value.bool (((Jn.opens Jn.e4).2).armed), Value.bool (((Jn.opens Jn.e4).2).off)], Ent.own v42_2 5 1 (((Jn.opens Jn.e4).2).l.length) (us .u8 (((Jn.opens Jn.e4).2).l)), Ent.blk b11 47 #[Value.pointer (some ⟨b8, 0, none⟩), v32], Ent.own v32 22 1 K32.length (rows K32), Ent.ro bk30 5 (ua .u8 [98]) ((ua .u8 [98]).size, (ua .u8 [98]).size + 1), Ent.ro bk18 5 (ua .u8 [97]) ((ua .u8 [97]).size, (ua .u8 [97]).size + 1)] (nest 5 K42) (nest 5 K32 ++ []) H_25
  refine L_callv rfl rfl T_en18 (A2 rfl rfl) (jRecord (K := K42) ((0 : Nat) : Int) okK42 Hc_3) ?_
  rintro _ w_13 ⟨a47, c47, v47, rfl, H_26⟩; refine ⟨_, rfl, ?_⟩
  have H_27 : Hp w0 [] w_13 (Ent.own (Value.slice a47 ((Jn.at_ (keys K42) ((0 : Nat) : Int)).length) c47) 5 1 ((Jn.at_ (keys K42) ((0 : Nat) : Int)).length) (us .u8 (Jn.at_ (keys K42) ((0 : Nat) : Int))) :: Ent.blk b42 47 #[Value.pointer (some ⟨b8, 0, none⟩), v47] :: Ent.own v47 22 1 K42.length (rows K42) :: Ent.blk b8 65 #[v42_2, Value.int .i64 (((Jn.opens Jn.e4).2).left), Value.bool (((Jn.opens Jn.e4).2).armed), Value.bool (((Jn.opens Jn.e4).2).off)] :: Ent.own v42_2 5 1 (((Jn.opens Jn.e4).2).l.length) (us .u8 (((Jn.opens Jn.e4).2).l)) :: Ent.blk b11 47 #[Value.pointer (some ⟨b8, 0, none⟩), v32] :: Ent.own v32 22 1 K32.length (rows K32) :: Ent.ro bk30 5 (ua .u8 [98]) ((ua .u8 [98]).size, (ua .u8 [98]).size + 1) :: Ent.ro bk18 5 (ua .u8 [97]) ((ua .u8 [97]).size, (ua .u8 [97]).size + 1) :: (nest 5 K42 ++ (nest 5 K32 ++ []))) := Hp.chunk [Ent.own (Value.slice a47 ((Jn.at_ (keys K42) ((0 : Nat) : Int)).length) c47) 5 1 ((Jn.at_ (keys K42) ((0 : Nat) : Int)).length) (us .u8 (Jn.at_ (keys K42) ((0 : Nat) : Int))), Ent.blk b42 47 #[Value.pointer (some ⟨b8, 0, none⟩), v47], Ent.own v47 22 1 K42.length (rows K42)] (nest 5 K42) [Ent.blk b8 65 #[v42_2, Value.int .i64 (((Jn.opens Jn.e4).2).left), Value.bool (((Jn.opens Jn.e4).2).armed), Value.bool (((Jn.opens Jn.e4).2).off)], Ent.own v42_2 5 1 (((Jn.opens Jn.e4).2).l.length) (us .u8 (((Jn.opens Jn.e4).2).l)), Ent.blk b11 47 #[Value.pointer (some ⟨b8, 0, none⟩), v32], Ent.own v32 22 1 K32.length (rows K32), Ent.ro bk30 5 (ua .u8 [98]) ((ua .u8 [98]).size, (ua .u8 [98]).size + 1), Ent.ro bk18 5 (ua .u8 [97]) ((ua .u8 [97]).size, (ua .u8 [97]).size + 1)] (nest 5 K32 ++ []) H_26
  refine L_mv rfl ?_
  refine L_y rfl (Y_ext rfl rfl) ?_
  refine L_y rfl (Y_ext rfl rfl) ?_
  refine L_as rfl ?_
  refine L_as rfl ?_
  refine L_nil ?_
  refine Th_n ?_
  refine W_seq ?_
  refine W_rg ?_
  refine L_mv rfl ?_
  refine L_y rfl (Y_eql (k := .i64) (a := ((0 : Nat) : Int)) (b := ((0 : Nat) : Int)) rfl rfl) ?_
  refine L_mv rfl ?_
  refine G_mv (wE rfl (congrArg Value.bool (by decide : (((0 : Nat) : Int) == ((0 : Nat) : Int)) = true))) rfl ?_
  have H_28 : Hp w0 [] w_13 (Ent.blk b42 47 #[Value.pointer (some ⟨b8, 0, none⟩), v47] :: Ent.own v47 22 1 K42.length (rows K42) :: Ent.own (Value.slice a47 ((Jn.at_ (keys K42) ((0 : Nat) : Int)).length) c47) 5 1 ((Jn.at_ (keys K42) ((0 : Nat) : Int)).length) (us .u8 (Jn.at_ (keys K42) ((0 : Nat) : Int))) :: Ent.blk b8 65 #[v42_2, Value.int .i64 (((Jn.opens Jn.e4).2).left), Value.bool (((Jn.opens Jn.e4).2).armed), Value.bool (((Jn.opens Jn.e4).2).off)] :: Ent.own v42_2 5 1 (((Jn.opens Jn.e4).2).l.length) (us .u8 (((Jn.opens Jn.e4).2).l)) :: Ent.blk b11 47 #[Value.pointer (some ⟨b8, 0, none⟩), v32] :: Ent.own v32 22 1 K32.length (rows K32) :: Ent.ro bk30 5 (ua .u8 [98]) ((ua .u8 [98]).size, (ua .u8 [98]).size + 1) :: Ent.ro bk18 5 (ua .u8 [97]) ((ua .u8 [97]).size, (ua .u8 [97]).size + 1) :: (nest 5 K42 ++ (nest 5 K32 ++ []))) := ((H_27.pull 2 rfl).pull 2 rfl)
  refine L_callv (wE rfl (congrArg Value.bool (by decide : (((0 : Nat) : Int) == ((0 : Nat) : Int)) = true))) rfl T_en17 (A1 rfl) (jLen H_28) ?_
  rintro _ w_14 ⟨rfl, hkp⟩; refine ⟨_, rfl, ?_⟩; have H_29 := H_27.keep hkp
  refine G_y (wE rfl (congrArg Value.bool (by decide : (((0 : Nat) : Int) == ((0 : Nat) : Int)) = true))) rfl (Y_eql (k := .i64) (a := ((K42.length : Nat) : Int)) (b := ((1 : Nat) : Int)) rfl rfl) ?_
  refine L_y rfl (Y_pickT (congrArg Value.bool (by decide : (((0 : Nat) : Int) == ((0 : Nat) : Int)) = true))) ?_
  refine L_mv rfl ?_
  refine G_mv (wE rfl (congrArg Value.bool ((by rw [hk1l]; decide) : (((K42.length : Nat) : Int) == ((1 : Nat) : Int)) = true))) rfl ?_
  refine G_y (wE rfl (congrArg Value.bool ((by rw [hk1l]; decide) : (((K42.length : Nat) : Int) == ((1 : Nat) : Int)) = true))) rfl (Y_eql (k := .i64) (a := ((Jn.rcode (keys K42) ((0 : Nat) : Int) : Nat) : Int)) (b := ((0 : Nat) : Int)) rfl rfl) ?_
  refine L_y rfl (Y_pickT (congrArg Value.bool ((by rw [hk1l]; decide) : (((K42.length : Nat) : Int) == ((1 : Nat) : Int)) = true))) ?_
  refine L_mv rfl ?_
  refine G_mv (wE rfl (congrArg Value.bool ((by rw [hkr]; decide) : (((Jn.rcode (keys K42) ((0 : Nat) : Int) : Nat) : Int) == ((0 : Nat) : Int)) = true))) rfl ?_
  refine G_y (wE rfl (congrArg Value.bool ((by rw [hkr]; decide) : (((Jn.rcode (keys K42) ((0 : Nat) : Int) : Nat) : Int) == ((0 : Nat) : Int)) = true))) rfl (Y_strL Try.underlying22 Try.underlying5 Try.underlying9 rfl (Sl.own H_29 (i := 0) rfl)) ?_
  refine G_y (wE rfl (congrArg Value.bool ((by rw [hkr]; decide) : (((Jn.rcode (keys K42) ((0 : Nat) : Int) : Nat) : Int) == ((0 : Nat) : Int)) = true))) rfl (Y_eqT (l1 := Jn.at_ (keys K42) ((0 : Nat) : Int)) (l2 := [97]) Try.underlying9 (Jn.at_lt okK42 _).1 (by decide) rfl (by kernel_rfl)) ?_
  refine L_y rfl (Y_pickT (congrArg Value.bool ((by rw [hkr]; decide) : (((Jn.rcode (keys K42) ((0 : Nat) : Int) : Nat) : Int) == ((0 : Nat) : Int)) = true))) ?_
  refine L_mv rfl ?_
  refine G_mv (wE rfl (congrArg Value.bool ((by rw [hka]; decide) : (decide (Jn.at_ (keys K42) ((0 : Nat) : Int) = [97])) = true))) rfl ?_
  have H_30 : Hp w0 [] w_14 (Ent.own (Value.slice a47 ((Jn.at_ (keys K42) ((0 : Nat) : Int)).length) c47) 5 1 ((Jn.at_ (keys K42) ((0 : Nat) : Int)).length) (us .u8 (Jn.at_ (keys K42) ((0 : Nat) : Int))) :: Ent.blk b42 47 #[Value.pointer (some ⟨b8, 0, none⟩), v47] :: Ent.own v47 22 1 K42.length (rows K42) :: Ent.blk b8 65 #[v42_2, Value.int .i64 (((Jn.opens Jn.e4).2).left), Value.bool (((Jn.opens Jn.e4).2).armed), Value.bool (((Jn.opens Jn.e4).2).off)] :: Ent.own v42_2 5 1 ((((Jn.opens Jn.e4).2).l).length) (us .u8 (((Jn.opens Jn.e4).2).l)) :: Ent.blk b11 47 #[Value.pointer (some ⟨b8, 0, none⟩), v32] :: Ent.own v32 22 1 K32.length (rows K32) :: Ent.ro bk30 5 (ua .u8 [98]) ((ua .u8 [98]).size, (ua .u8 [98]).size + 1) :: Ent.ro bk18 5 (ua .u8 [97]) ((ua .u8 [97]).size, (ua .u8 [97]).size + 1) :: (nest 5 K42 ++ (nest 5 K32 ++ []))) := H_29.asL (i := 4) rfl (by rfl) rfl rfl
  have H_31 : Hp w0 [] w_14 (Ent.blk b8 65 #[v42_2, Value.int .i64 (((Jn.opens Jn.e4).2).left), Value.bool (((Jn.opens Jn.e4).2).armed), Value.bool (((Jn.opens Jn.e4).2).off)] :: Ent.own v42_2 5 1 ((((Jn.opens Jn.e4).2).l).length) (us .u8 (((Jn.opens Jn.e4).2).l)) :: Ent.own (Value.slice a47 ((Jn.at_ (keys K42) ((0 : Nat) : Int)).length) c47) 5 1 ((Jn.at_ (keys K42) ((0 : Nat) : Int)).length) (us .u8 (Jn.at_ (keys K42) ((0 : Nat) : Int))) :: Ent.blk b42 47 #[Value.pointer (some ⟨b8, 0, none⟩), v47] :: Ent.own v47 22 1 K42.length (rows K42) :: Ent.blk b11 47 #[Value.pointer (some ⟨b8, 0, none⟩), v32] :: Ent.own v32 22 1 K32.length (rows K32) :: Ent.ro bk30 5 (ua .u8 [98]) ((ua .u8 [98]).size, (ua .u8 [98]).size + 1) :: Ent.ro bk18 5 (ua .u8 [97]) ((ua .u8 [97]).size, (ua .u8 [97]).size + 1) :: (nest 5 K42 ++ (nest 5 K32 ++ []))) := ((H_30.pull 4 rfl).pull 4 rfl)
  refine L_callv (wE rfl (congrArg Value.bool ((by rw [hka]; decide) : (decide (Jn.at_ (keys K42) ((0 : Nat) : Int) = [97])) = true))) rfl T_en26 (A1 rfl) (dLen Jn.e5 H_31) ?_
  rintro _ w_15 ⟨rfl, hkp_2⟩; refine ⟨_, rfl, ?_⟩; have H_32 := H_30.keep hkp_2
  refine G_y (wE rfl (congrArg Value.bool ((by rw [hka]; decide) : (decide (Jn.at_ (keys K42) ((0 : Nat) : Int) = [97])) = true))) rfl (Y_eql (k := .i64) (a := ((Jn.e5.l.length : Nat) : Int)) (b := ((9 : Nat) : Int)) rfl rfl) ?_
  refine L_y rfl (Y_pickT (congrArg Value.bool ((by rw [hka]; decide) : (decide (Jn.at_ (keys K42) ((0 : Nat) : Int) = [97])) = true))) ?_
  refine L_as rfl ?_
  refine L_nil ?_
  refine Th_n ?_
  refine W_ret ?_
  refine P_ret (vs := [Value.bool (((Jn.e5.l.length : Nat) : Int) == ((9 : Nat) : Int))]) (v := Value.bool (((Jn.e5.l.length : Nat) : Int) == ((9 : Nat) : Int))) rfl (.tmp rfl (Res.nil)) rfl ?_
  refine ⟨?_, H_32.nil_⟩
  rw [hke]; rfl

theorem T_en29 : enters Try.prog 29 = true := by kernel_rfl
theorem rnumJ {a : Option Addr} {m c : Nat} {l : List Nat} {p q : Nat} (w0 : World) (hlt : ∀ u ∈ (l.drop p).take q, u < 256) (h4 : m = 4) (hq : q = 4) (hs0 : Sl w0 .u8 a m c ((l.drop p).take q)) :
    Calls Try.prog 28 #[Value.slice a m c] w0 (fun r_ w' => r_ = .returned (.int .u32 ((Jn.num l p : Nat) : Int)) ∧ Keep w0 w') := by
  subst hq
  exact rnumber a m c _ w0 hlt h4 hs0

theorem rform (a : Option Addr) (m c : Nat) (l : List Nat) (w0 : World) (hlt : ∀ u ∈ l, u < 256) (hm : m ≤ 1000000) (hs0 : Sl w0 .u8 a m c l) :
    Calls Try.prog 19 #[Value.slice a m c] w0 (fun r_ w' => ∃ a1 c1, r_ = .returned (.slice a1 (Jn.form l).length c1) ∧ Hp w0 [] w' [.own (.slice a1 (Jn.form l).length c1) 5 1 (Jn.form l).length (us .u8 (Jn.form l))]) := by
  have hsl := Jn.sum4_len l
  have hll := hs0.len
  refine F_in Try.func19 rfl Try.ntmps19 rfl ?_
  intro e he
  have p_0 : e 0 = Value.slice a m c := he 0 _ rfl
  have H := Hp.start w0 []
  refine W_seq ?_
  refine W_rg ?_
  refine L_as rfl ?_
  refine L_nil ?_
  refine Th_n ?_
  refine W_seq ?_
  refine W_rg ?_
  refine L_mv rfl ?_
  refine L_y rfl (Y_lenS T_sl22 p_0) ?_
  refine L_y rfl (Y_convI (k := .i64) (n := ((m : Nat) : Int)) (z := ((m : Nat) : Int)) T_some3 T_kind61 rfl (wrapS rfl (by first | decide | (show _ < 4294967296; omega)))) ?_
  refine L_as rfl ?_
  refine L_nil ?_
  refine Th_n ?_
  refine W_seq ?_
  refine W_rg ?_
  refine L_mv rfl ?_
  refine L_yr (z := m / 2 ^ 24) (m := 4294967296) rfl (Yu_shr (k := .u32) m 24 (by show _ < 4294967296; omega) rfl rfl) (Nat.lt_of_le_of_lt (Nat.div_le_self _ _) (by show _ < 4294967296; omega)) ?_; intro x9 hx9 rx9
  refine L_yr (z := x9 % 256) (m := 256) rfl (Y_convI (k := .u32) (n := ((x9 : Nat) : Int)) (z := ((x9 % 256 : Nat) : Int)) T_some61 T_kind5 rfl (wrapM rfl rfl)) (Nat.mod_lt _ (by decide)) ?_; intro x10 hx10 rx10
  refine L_mv rfl ?_
  refine L_yr (z := m / 2 ^ 16) (m := 4294967296) rfl (Yu_shr (k := .u32) m 16 (by show _ < 4294967296; omega) rfl rfl) (Nat.lt_of_le_of_lt (Nat.div_le_self _ _) (by show _ < 4294967296; omega)) ?_; intro x12 hx12 rx12
  refine L_yr (z := x12 % 256) (m := 256) rfl (Y_convI (k := .u32) (n := ((x12 : Nat) : Int)) (z := ((x12 % 256 : Nat) : Int)) T_some61 T_kind5 rfl (wrapM rfl rfl)) (Nat.mod_lt _ (by decide)) ?_; intro x13 hx13 rx13
  refine L_mv rfl ?_
  refine L_yr (z := m / 2 ^ 8) (m := 4294967296) rfl (Yu_shr (k := .u32) m 8 (by show _ < 4294967296; omega) rfl rfl) (Nat.lt_of_le_of_lt (Nat.div_le_self _ _) (by show _ < 4294967296; omega)) ?_; intro x15 hx15 rx15
  refine L_yr (z := x15 % 256) (m := 256) rfl (Y_convI (k := .u32) (n := ((x15 : Nat) : Int)) (z := ((x15 % 256 : Nat) : Int)) T_some61 T_kind5 rfl (wrapM rfl rfl)) (Nat.mod_lt _ (by decide)) ?_; intro x16 hx16 rx16
  refine L_mv rfl ?_
  refine L_yr (z := m % 256) (m := 256) rfl (Y_convI (k := .u32) (n := ((m : Nat) : Int)) (z := ((m % 256 : Nat) : Int)) T_some61 T_kind5 rfl (wrapM rfl rfl)) (Nat.mod_lt _ (by decide)) ?_; intro x18 hx18 rx18
  refine L_bsl (cs := ua .u8 [x10, x13, x16, x18]) rfl H (pv := [(0, Value.int .u8 ((x10 : Nat) : Int)), (1, Value.int .u8 ((x13 : Nat) : Int)), (2, Value.int .u8 ((x16 : Nat) : Int)), (3, Value.int .u8 ((x18 : Nat) : Int))]) T_sl22 T_zero5 rfl (Bpc rfl (Bpc rfl (Bpc rfl (Bpc rfl Bp0)))) (by kernel_rfl) ?_; intro bk19 w_2 H_2
  have H_3 : Hp w0 [] w_2 [Ent.own (Value.slice (some ⟨bk19, 0, none⟩) 4 4) 5 1 4 (us .u8 [x10, x13, x16, x18])] := H_2.say (i := 0) (x' := .own (Value.slice (some ⟨bk19, 0, none⟩) 4 4) 5 1 4 (us .u8 [x10, x13, x16, x18])) rfl (own_of_blk (Nat.le_refl _) (by decide) rfl rfl) (fun _ h => h) rfl
  refine L_as rfl ?_
  refine L_nil ?_
  refine Th_n ?_
  refine W_seq ?_
  refine W_rg ?_
  refine L_mv rfl ?_
  refine L_mv rfl ?_
  refine L_callv rfl rfl T_en29 (A1 p_0) (rsum _ _ _ _ _ hlt (by omega) ((Seen.old (X := []) hs0).hp H_3 (fun _ h_ => .tail _ (h_)))) ?_
  rintro _ w_3 ⟨rfl, hkp⟩; refine ⟨_, rfl, ?_⟩; have H_4 := H_3.keep hkp
  refine L_strB rfl H_4 Try.underlying9 Try.underlying22 Try.underlying5 rfl (Jn.sum4_lt _) ?_; intro sa sc w_4 H_5 hsb
  refine L_appL rfl H_5 (i := 0) rfl T_sl22 T_zero5 rfl T_szb5 rfl rfl hsb (by omega) ?_; intro v24 w_5 Hx
  have H_6 : Hp w0 [] w_5 [Ent.own v24 5 1 (4 + ((Jn.sum4 l).length)) (us .u8 ([x10, x13, x16, x18] ++ (Jn.sum4 l)))] := Hx
  refine L_as rfl ?_
  refine L_nil ?_
  refine Th_n ?_
  refine W_seq ?_
  refine W_rg ?_
  refine L_mv rfl ?_
  refine L_mv rfl ?_
  refine L_appL rfl H_6 (i := 0) rfl T_sl22 T_zero5 rfl T_szb5 rfl p_0 ((Seen.old (X := []) hs0).hp H_6 (fun _ h_ => .tail _ (h_))) (by omega) ?_; intro v27 w_6 Hx_2
  have H_7 : Hp w0 [] w_6 [Ent.own v27 5 1 ((4 + ((Jn.sum4 l).length)) + m) (us .u8 (([x10, x13, x16, x18] ++ (Jn.sum4 l)) ++ l))] := Hx_2
  refine L_as rfl ?_
  refine L_nil ?_
  refine Th_n ?_
  refine W_ret ?_
  refine P_ret (vs := [v27]) (v := v27) rfl (.tmp rfl (Res.nil)) rfl ?_
  have H_8 : Hp w0 [] w_6 [Ent.own v27 5 1 ((Jn.form l).length) (us .u8 (Jn.form l))] := H_7.asL (i := 0) rfl (by rw [Jn.form_len]; simp only [Jn.sum4_len]; omega) (by rw [Jn.form, Jn.digs4, hll]; simp only [hx9, hx10, hx12, hx13, hx15, hx16, hx18]) rfl
  obtain ⟨a1, c1, hv1⟩ := Sl.opn H_8 (i := 0) rfl
  refine ⟨a1, c1, by rw [hv1], ?_⟩; have h := H_8; rw [hv1] at h; exact h

theorem T_en28 : enters Try.prog 28 = true := by kernel_rfl
theorem rread {w0 w : World} {X : List Ent} {a : Option Addr} {m c : Nat} {l : List Nat} (hm : m ≤ 16777216) (hsb : Seen w0 X .u8 a m c l) (hst : ∀ u ∈ l, u < 256) (H : Hp w0 [] w X) :
    Calls Try.prog 11 #[Value.slice a m c] w (fun r_ w' => ∃ a1 c1 K p, r_ = .returned (.tuple #[.slice a1 K.length c1, .int .i64 ((p : Nat) : Int)]) ∧ (Jn.End l (keys K) p ∧ Jn.Cuts w0 a m c l K) ∧ Hp w0 [] w' (.own (.slice a1 K.length c1) 22 1 K.length (rows K) :: X)) := by
  have hll : l.length = m := hsb.len H (fun _ h_ => h_)
  refine F_in Try.func11 rfl Try.ntmps11 rfl ?_
  intro e he
  have p_0 : e 0 = Value.slice a m c := he 0 _ rfl
  refine W_seq ?_
  refine W_rg ?_
  refine L_as rfl ?_
  refine L_as rfl ?_
  refine L_nil ?_
  refine Th_n ?_
  refine W_seq ?_
  refine W_rg ?_
  refine L_as rfl ?_
  have H_2 : Hp w0 [] w (Ent.own (Value.slice none 0 0) 22 1 0 (rows []) :: X) := H.nilOwn 22 1
  refine L_nil ?_
  refine Th_n ?_
  refine W_seq ?_
  refine W_rg ?_
  refine L_as rfl ?_
  refine L_nil ?_
  refine Th_n ?_
  refine W_seq ?_
  refine W_block ?_
  refine W_loop (fun mu_ e w => ∃ p : Nat, ∃ K : List Lt, ∃ vl : Value, mu_ = m - p ∧ e 0 = Value.slice a m c ∧ e 4 = vl ∧ e 5 = Value.int .i64 ((p : Nat) : Int) ∧ Hp w0 [] w (Ent.own vl 22 1 K.length (rows K) :: X) ∧ Jn.Rd l (keys K) p ∧ Jn.Cuts w0 a m c l K ∧ K.length * 9 ≤ p ∧ p ≤ m) _ ⟨0, [], _, rfl, p_0, rfl, rfl, H_2, .nil, .nil, (Nat.zero_le _), (Nat.zero_le _)⟩ ?_
  rintro mu_ e_2 w_2 ⟨p, K, vl, rfl, e_2_0, e_2_4, e_2_5, H_3, hR, hS, hKp, hpm⟩
  refine W_seq ?_
  refine W_seq ?_
  refine W_rg ?_
  refine L_mv rfl ?_
  refine L_y rfl (Y_add (k := .i64) (a := ((p : Nat) : Int)) (b := ((8 : Nat) : Int)) (z := ((p + 8 : Nat) : Int)) e_2_5 rfl (wi (by omega))) ?_
  refine L_mv rfl ?_
  refine L_y rfl (Y_lenS T_sl22 e_2_0) ?_
  refine L_y rfl (Y_leq (k := .i64) (a := ((p + 8 : Nat) : Int)) (b := ((m : Nat) : Int)) rfl rfl) ?_
  refine L_nil ?_
  refine Th_n ?_
  refine W_cond (b := (decide (((p + 8 : Nat) : Int) ≤ ((m : Nat) : Int)))) rfl (fun hc => ?_) (fun hc => ?_)
  ·
    have hc' := of_decide_eq_true hc
    have hp8 : p + 8 ≤ l.length := by omega
    refine W_skip ?_
    refine Th_n ?_
    refine W_block ?_
    refine W_seq ?_
    refine W_rg ?_
    refine L_mv rfl ?_
    refine L_mv rfl ?_
    refine L_mv rfl ?_
    refine L_y rfl (Y_add (k := .i64) (a := ((p : Nat) : Int)) (b := ((4 : Nat) : Int)) (z := ((p + 4 : Nat) : Int)) e_2_5 rfl (wi (by omega))) ?_
    refine L_y rfl (Y_cutLH (lo := p) (hi := p + 4) T_sl22 e_2_0 e_2_5 rfl (by omega) (Nat.le_trans (by omega) (hsb.hp H_3 (fun _ h_ => .tail _ (h_))).cap)) ?_
    refine L_callv rfl rfl T_en28 (A1 rfl) (rnumJ _ (fun u hu => hst u (List.mem_of_mem_drop (List.mem_of_mem_take hu))) (by omega) (by omega) ((hsb.hp H_3 (fun _ h_ => .tail _ (h_))).mid (by omega) (by omega))) ?_
    rintro _ w_3 ⟨rfl, hkp⟩; refine ⟨_, rfl, ?_⟩; have H_4 := H_3.keep hkp
    refine L_as rfl ?_
    refine L_nil ?_
    refine Th_n ?_
    refine W_seq ?_
    refine W_seq ?_
    refine W_rg ?_
    refine L_mv rfl ?_
    refine L_y rfl (Y_eql (k := .u32) (a := ((Jn.num l p : Nat) : Int)) (b := ((0 : Nat) : Int)) rfl rfl) ?_
    refine L_mv rfl ?_
    rcases Bool.eq_false_or_eq_true (((Jn.num l p : Nat) : Int) == ((0 : Nat) : Int)) with hb | hb
    ·
      have hb' := eq_of_beq hb
      refine G_no (wN (b := false) rfl (congrArg Value.bool hb)) rfl ?_
      refine G_no (wN (b := false) rfl (congrArg Value.bool hb)) rfl ?_
      refine L_y rfl (Y_pickT (congrArg Value.bool hb)) ?_
      refine L_mv rfl ?_
      refine G_no (wN (b := false) rfl rfl) rfl ?_
      refine G_no (wN (b := false) rfl rfl) rfl ?_
      refine G_no (wN (b := false) rfl rfl) rfl ?_
      refine G_no (wN (b := false) rfl rfl) rfl ?_
      refine G_no (wN (b := false) rfl rfl) rfl ?_
      refine G_no (wN (b := false) rfl rfl) rfl ?_
      refine G_no (wN (b := false) rfl rfl) rfl ?_
      refine G_no (wN (b := false) rfl rfl) rfl ?_
      refine G_no (wN (b := false) rfl rfl) rfl ?_
      refine G_no (wN (b := false) rfl rfl) rfl ?_
      refine L_y rfl (Y_pickT rfl) ?_
      refine L_nil ?_
      refine Th_n ?_
      refine W_true rfl ?_
      refine W_seq ?_
      refine W_rg ?_
      refine L_mv rfl ?_
      refine L_mv rfl ?_
      refine L_as rfl ?_
      refine L_as rfl ?_
      refine L_nil ?_
      refine Th_n ?_
      refine W_ret ?_
      refine Th_r ?_
      refine InB_r ?_
      refine Th_r ?_
      refine InB_r ?_
      refine Th_r ?_
      refine P_ret (vs := [vl, Value.int .i64 ((p : Nat) : Int)]) (v := Value.tuple #[vl, Value.int .i64 ((p : Nat) : Int)]) rfl (.tmp e_2_4 (.tmp e_2_5 (Res.nil))) rfl ?_
      obtain ⟨a1, c1, hv1⟩ := Ts.opn H_4 (i := 0) rfl
      refine ⟨a1, c1, K, p, by rw [hv1], ⟨⟨hR, ?_⟩, hS⟩, ?_⟩
      · intro hr; obtain ⟨h1, h2, h3, h4, h5⟩ := hr; first | omega | exact hsum h5
      · have h := H_4; rw [hv1] at h; exact h
    ·
      have hb' := ne_of_beq_false hb
      refine G_mv (wE rfl (congrArg Value.bool hb)) rfl ?_
      refine G_y (wE rfl (congrArg Value.bool hb)) rfl (Y_gtr (k := .u32) (a := ((Jn.num l p : Nat) : Int)) (b := ((60000 : Nat) : Int)) rfl rfl) ?_
      refine L_y rfl (Y_pickF (congrArg Value.bool hb)) ?_
      refine L_mv rfl ?_
      rcases Bool.eq_false_or_eq_true (decide (((60000 : Nat) : Int) < ((Jn.num l p : Nat) : Int))) with hb_2 | hb_2
      ·
        have hb_2' := of_decide_eq_true hb_2
        refine G_no (wN (b := false) rfl (congrArg Value.bool hb_2)) rfl ?_
        refine G_no (wN (b := false) rfl (congrArg Value.bool hb_2)) rfl ?_
        refine G_no (wN (b := false) rfl (congrArg Value.bool hb_2)) rfl ?_
        refine G_no (wN (b := false) rfl (congrArg Value.bool hb_2)) rfl ?_
        refine G_no (wN (b := false) rfl (congrArg Value.bool hb_2)) rfl ?_
        refine G_no (wN (b := false) rfl (congrArg Value.bool hb_2)) rfl ?_
        refine G_no (wN (b := false) rfl (congrArg Value.bool hb_2)) rfl ?_
        refine G_no (wN (b := false) rfl (congrArg Value.bool hb_2)) rfl ?_
        refine G_no (wN (b := false) rfl (congrArg Value.bool hb_2)) rfl ?_
        refine G_no (wN (b := false) rfl (congrArg Value.bool hb_2)) rfl ?_
        refine L_y rfl (Y_pickT (congrArg Value.bool hb_2)) ?_
        refine L_nil ?_
        refine Th_n ?_
        refine W_true rfl ?_
        refine W_seq ?_
        refine W_rg ?_
        refine L_mv rfl ?_
        refine L_mv rfl ?_
        refine L_as rfl ?_
        refine L_as rfl ?_
        refine L_nil ?_
        refine Th_n ?_
        refine W_ret ?_
        refine Th_r ?_
        refine InB_r ?_
        refine Th_r ?_
        refine InB_r ?_
        refine Th_r ?_
        refine P_ret (vs := [vl, Value.int .i64 ((p : Nat) : Int)]) (v := Value.tuple #[vl, Value.int .i64 ((p : Nat) : Int)]) rfl (.tmp e_2_4 (.tmp e_2_5 (Res.nil))) rfl ?_
        obtain ⟨a1, c1, hv1⟩ := Ts.opn H_4 (i := 0) rfl
        refine ⟨a1, c1, K, p, by rw [hv1], ⟨⟨hR, ?_⟩, hS⟩, ?_⟩
        · intro hr; obtain ⟨h1, h2, h3, h4, h5⟩ := hr; first | omega | exact hsum h5
        · have h := H_4; rw [hv1] at h; exact h
      ·
        have hb_2' := of_decide_eq_false hb_2
        refine G_mv (wE rfl (congrArg Value.bool hb_2)) rfl ?_
        refine G_y (wE rfl (congrArg Value.bool hb_2)) rfl (Y_convI (k := .i64) (n := ((p : Nat) : Int)) (z := ((p : Nat) : Int)) T_some3 T_kind42 e_2_5 (wrapS rfl (by first | decide | (show _ < 18446744073709551616; omega)))) ?_
        refine G_y (wE rfl (congrArg Value.bool hb_2)) rfl (Yu_add (k := .u64) rfl p 8 rfl rfl) ?_
        refine G_mv (wE rfl (congrArg Value.bool hb_2)) rfl ?_
        refine G_y (wE rfl (congrArg Value.bool hb_2)) rfl (Y_convI (k := .u32) (n := ((Jn.num l p : Nat) : Int)) (z := ((Jn.num l p : Nat) : Int)) T_some61 T_kind42 rfl (wrapS rfl (by exact Nat.lt_of_lt_of_le (Jn.num_lt hst p) (by decide)))) ?_
        refine G_y (wE rfl (congrArg Value.bool hb_2)) rfl (Yu_add (k := .u64) rfl ((p + 8) % 18446744073709551616) (Jn.num l p) rfl rfl) ?_
        refine G_mv (wE rfl (congrArg Value.bool hb_2)) rfl ?_
        refine G_y (wE rfl (congrArg Value.bool hb_2)) rfl (Y_lenS T_sl22 e_2_0) ?_
        refine G_y (wE rfl (congrArg Value.bool hb_2)) rfl (Y_convI (k := .i64) (n := ((m : Nat) : Int)) (z := ((m : Nat) : Int)) T_some3 T_kind42 rfl (wrapS rfl (by first | decide | (show _ < 18446744073709551616; omega)))) ?_
        refine G_y (wE rfl (congrArg Value.bool hb_2)) rfl (Y_gtr (k := .u64) (a := (((((p + 8) % 18446744073709551616) + (Jn.num l p)) % 18446744073709551616 : Nat) : Int)) (b := ((m : Nat) : Int)) rfl rfl) ?_
        refine L_y rfl (Y_pickF (congrArg Value.bool hb_2)) ?_
        refine L_nil ?_
        refine Th_n ?_
        refine W_cond (b := (decide (((m : Nat) : Int) < (((((p + 8) % 18446744073709551616) + (Jn.num l p)) % 18446744073709551616 : Nat) : Int)))) rfl (fun hc_2 => ?_) (fun hc_2 => ?_)
        ·
          have hc_2' := of_decide_eq_true hc_2
          refine W_seq ?_
          refine W_rg ?_
          refine L_mv rfl ?_
          refine L_mv rfl ?_
          refine L_as rfl ?_
          refine L_as rfl ?_
          refine L_nil ?_
          refine Th_n ?_
          refine W_ret ?_
          refine Th_r ?_
          refine InB_r ?_
          refine Th_r ?_
          refine InB_r ?_
          refine Th_r ?_
          refine P_ret (vs := [vl, Value.int .i64 ((p : Nat) : Int)]) (v := Value.tuple #[vl, Value.int .i64 ((p : Nat) : Int)]) rfl (.tmp e_2_4 (.tmp e_2_5 (Res.nil))) rfl ?_
          obtain ⟨a1, c1, hv1⟩ := Ts.opn H_4 (i := 0) rfl
          refine ⟨a1, c1, K, p, by rw [hv1], ⟨⟨hR, ?_⟩, hS⟩, ?_⟩
          · intro hr; obtain ⟨h1, h2, h3, h4, h5⟩ := hr; first | omega | exact hsum h5
          · have h := H_4; rw [hv1] at h; exact h
        ·
          have hc_2' := of_decide_eq_false hc_2
          refine W_skip ?_
          refine Th_n ?_
          refine W_seq ?_
          refine W_rg ?_
          refine L_mv rfl ?_
          refine L_mv rfl ?_
          refine L_y rfl (Y_add (k := .i64) (a := ((p : Nat) : Int)) (b := ((8 : Nat) : Int)) (z := ((p + 8 : Nat) : Int)) e_2_5 rfl (wi (by omega))) ?_
          refine L_mv rfl ?_
          refine L_y rfl (Y_add (k := .i64) (a := ((p : Nat) : Int)) (b := ((8 : Nat) : Int)) (z := ((p + 8 : Nat) : Int)) e_2_5 rfl (wi (by omega))) ?_
          refine L_mv rfl ?_
          refine L_y rfl (Y_convI (k := .u32) (n := ((Jn.num l p : Nat) : Int)) (z := ((Jn.num l p : Nat) : Int)) T_some61 T_kind3 rfl (wi (by exact ⟨rfl, by omega, by have : (Jn.num l p) < 4294967296 := (Jn.num_lt hst p); omega⟩))) ?_
          refine L_y rfl (Y_add (k := .i64) (a := ((p + 8 : Nat) : Int)) (b := ((Jn.num l p : Nat) : Int)) (z := (((p + 8) + (Jn.num l p) : Nat) : Int)) rfl rfl (wi (by omega))) ?_
          refine L_y rfl (Y_cutLH (lo := p + 8) (hi := (p + 8) + (Jn.num l p)) T_sl22 e_2_0 rfl rfl (by omega) (Nat.le_trans (by omega) (hsb.hp H_4 (fun _ h_ => .tail _ (h_))).cap)) ?_
          have hn8 : p + 8 + Jn.num l p ≤ m := by omega
          have hrl : (Jn.rec_ l p).length = Jn.num l p := Jn.rec_len (by omega)
          have e47 : p + 8 + Jn.num l p - (p + 8) = (Jn.rec_ l p).length := by omega
          have hrs := Jn.rec_seen (w0 := w0) (a := a) (c := c) hll hn8
          refine L_as rfl ?_
          refine L_nil ?_
          refine Th_n ?_
          refine W_seq ?_
          refine W_seq ?_
          refine W_quiet H_4 9 [Value.slice (cutA a c (p + 8)) ((Jn.rec_ l p).length) (c - (p + 8)), Value.string (bs (Jn.sum4 (Jn.rec_ l p))), Value.slice a m c, Value.int .i64 ((p : Nat) : Int), Value.int .i64 ((p + 4 : Nat) : Int), Value.int .i64 ((p : Nat) : Int), Value.int .i64 ((p + 8 : Nat) : Int), Value.slice (cutA a c (p + 4)) ((p + 8) - (p + 4)) (c - (p + 4)), Value.string (bs ((l.drop (p + 4)).take ((p + 8) - (p + 4))))] T_mixed (by kernel_rfl) ?_ ?_
          ·
            refine .plain rfl (Pl_y rfl (fun w hBw => congrArg (fun v => Result.ok (Next.value v) w) (congrArg (fun z => Value.slice (cutA a c (p + 8)) z (c - (p + 8))) e47))) ?_
            refine .plain rfl (Pl_c rfl T_en29 (A1 rfl) (fun w hBw => rsum _ _ _ _ _ (fun u hu => hst u (List.mem_of_mem_drop (List.mem_of_mem_take hu))) (by omega) ((hrs _ hsb).hp hBw (fun _ h_ => .tail _ (h_))))) ?_
            refine .plain rfl (Pl_y rfl (fun w hBw => congrArg (fun v => Result.ok (Next.value v) w) e_2_0)) ?_
            refine .plain rfl (Pl_y rfl (fun w hBw => congrArg (fun v => Result.ok (Next.value v) w) e_2_5)) ?_
            refine .plain rfl (Pl_y rfl (fun w hBw => Y_add (k := .i64) (a := ((p : Nat) : Int)) (b := ((4 : Nat) : Int)) (z := ((p + 4 : Nat) : Int)) rfl rfl (wi (by omega)))) ?_
            refine .plain rfl (Pl_y rfl (fun w hBw => congrArg (fun v => Result.ok (Next.value v) w) e_2_5)) ?_
            refine .plain rfl (Pl_y rfl (fun w hBw => Y_add (k := .i64) (a := ((p : Nat) : Int)) (b := ((8 : Nat) : Int)) (z := ((p + 8 : Nat) : Int)) rfl rfl (wi (by omega)))) ?_
            refine .plain rfl (Pl_y rfl (fun w hBw => Y_cutLH (lo := p + 4) (hi := p + 8) T_sl22 rfl rfl rfl (by omega) (Nat.le_trans (by omega) (hsb.hp hBw (fun _ h_ => .tail _ (h_))).cap))) ?_
            refine .plain rfl (Pl_y rfl (fun w hBw => Y_strL Try.underlying22 Try.underlying5 Try.underlying9 rfl ((hsb.hp hBw (fun _ h_ => .tail _ (h_))).mid (by omega) (by omega)))) ?_
            exact .nil _
          ·
            intro e_3 w_4 hAg H_5
            have e_3_0 : e_3 0 = Value.slice a m c := (hAg 0 rfl).trans e_2_0
            have e_3_4 : e_3 4 = vl := (hAg 4 rfl).trans e_2_4
            have e_3_5 : e_3 5 = Value.int .i64 ((p : Nat) : Int) := (hAg 5 rfl).trans e_2_5
            have e_3_6 : e_3 6 = Value.int .u32 ((Jn.num l p : Nat) : Int) := (hAg 6 rfl).trans rfl
            have e_3_7 : e_3 7 = Value.slice (cutA a c (p + 8)) ((Jn.rec_ l p).length) (c - (p + 8)) := (hAg 7 rfl).trans (congrArg (fun z => Value.slice (cutA a c (p + 8)) z (c - (p + 8))) e47)
            have e_3_49 : e_3 49 = Value.string (bs (Jn.sum4 (Jn.rec_ l p))) := (hAg 49 rfl).trans rfl
            have e_3_56 : e_3 56 = Value.string (bs ((l.drop (p + 4)).take ((p + 8) - (p + 4)))) := (hAg 56 rfl).trans rfl
            refine L_y rfl (Y_neT (l1 := Jn.sum4 (Jn.rec_ l p)) (l2 := (l.drop (p + 4)).take ((p + 8) - (p + 4))) Try.underlying9 (Jn.sum4_lt _) (fun u hu => hst u (List.mem_of_mem_drop (List.mem_of_mem_take hu))) e_3_49 e_3_56) ?_
            refine L_nil ?_
            refine Th_n ?_
            refine W_cond (b := (!decide (Jn.sum4 (Jn.rec_ l p) = (l.drop (p + 4)).take ((p + 8) - (p + 4))))) rfl (fun hc_3 => ?_) (fun hc_3 => ?_)
            ·
              have ht8 : (l.drop (p + 4)).take (p + 8 - (p + 4)) = Jn.told l p := by unfold Jn.told; congr 1; omega
              rw [ht8] at hc_3
              have hsum : Jn.sum4 (Jn.rec_ l p) ≠ Jn.told l p := by simpa using hc_3
              refine W_seq ?_
              refine W_rg ?_
              refine L_mv rfl ?_
              refine L_mv rfl ?_
              refine L_as rfl ?_
              refine L_as rfl ?_
              refine L_nil ?_
              refine Th_n ?_
              refine W_ret ?_
              refine Th_r ?_
              refine InB_r ?_
              refine Th_r ?_
              refine InB_r ?_
              refine Th_r ?_
              refine P_ret (vs := [vl, Value.int .i64 ((p : Nat) : Int)]) (v := Value.tuple #[vl, Value.int .i64 ((p : Nat) : Int)]) rfl (.tmp e_3_4 (.tmp e_3_5 (Res.nil))) rfl ?_
              obtain ⟨a1, c1, hv1⟩ := Ts.opn H_5 (i := 0) rfl
              refine ⟨a1, c1, K, p, by rw [hv1], ⟨⟨hR, ?_⟩, hS⟩, ?_⟩
              · intro hr; obtain ⟨h1, h2, h3, h4, h5⟩ := hr; first | omega | exact hsum h5
              · have h := H_5; rw [hv1] at h; exact h
            ·
              have ht8 : (l.drop (p + 4)).take (p + 8 - (p + 4)) = Jn.told l p := by unfold Jn.told; congr 1; omega
              rw [ht8] at hc_3
              have hsum : Jn.sum4 (Jn.rec_ l p) = Jn.told l p := by simpa using hc_3
              refine W_skip ?_
              refine Th_n ?_
              refine W_seq ?_
              refine W_rg ?_
              refine L_mv rfl ?_
              refine L_mv rfl ?_
              refine L_bsl (cs := #[Value.slice (cutA a c (p + 8)) ((Jn.rec_ l p).length) (c - (p + 8))]) rfl H_5 (pv := [(0, Value.slice (cutA a c (p + 8)) ((Jn.rec_ l p).length) (c - (p + 8)))]) T_sl24 T_zero22 rfl (Bpc e_3_7 Bp0) (by kernel_rfl) ?_; intro bk62 w_5 H_6
              refine L_appT rfl H_6 (i := 1) rfl T_sl24 T_zero22 rfl T_szb22 e_3_4 rfl (Ts.blk (x0 := (⟨cutA a c (p + 8), c - (p + 8), Jn.rec_ l p⟩ : Lt)) H_6 (i := 0) rfl) (by omega) ?_; intro v63 w_6 Hx
              have H_7 : Hp w0 [] w_6 (Ent.blk bk62 22 #[Value.slice (cutA a c (p + 8)) ((Jn.rec_ l p).length) (c - (p + 8))] :: Ent.own v63 22 1 (K.length + 1) (rows (K ++ [(⟨cutA a c (p + 8), c - (p + 8), Jn.rec_ l p⟩ : Lt)])) :: X) := Hx
              refine L_as rfl ?_
              refine L_nil ?_
              refine Th_n ?_
              refine W_rg ?_
              refine L_mv rfl ?_
              refine L_y rfl (Y_add (k := .i64) (a := ((p : Nat) : Int)) (b := ((8 : Nat) : Int)) (z := ((p + 8 : Nat) : Int)) e_3_5 rfl (wi (by omega))) ?_
              refine L_mv rfl ?_
              refine L_y rfl (Y_convI (k := .u32) (n := ((Jn.num l p : Nat) : Int)) (z := ((Jn.num l p : Nat) : Int)) T_some61 T_kind3 e_3_6 (wi (by exact ⟨rfl, by omega, by have : (Jn.num l p) < 4294967296 := (Jn.num_lt hst p); omega⟩))) ?_
              refine L_y rfl (Y_add (k := .i64) (a := ((p + 8 : Nat) : Int)) (b := ((Jn.num l p : Nat) : Int)) (z := (((p + 8) + (Jn.num l p) : Nat) : Int)) rfl rfl (wi (by omega))) ?_
              refine L_as rfl ?_
              refine L_nil ?_
              refine InB_n ?_
              have H_8 : Hp w0 [] w_6 (Ent.blk bk62 22 #[Value.slice (cutA a c (p + 8)) ((Jn.rec_ l p).length) (c - (p + 8))] :: Ent.own v63 22 1 ((K ++ [(⟨cutA a c (p + 8), c - (p + 8), Jn.rec_ l p⟩ : Lt)]).length) (rows (K ++ [(⟨cutA a c (p + 8), c - (p + 8), Jn.rec_ l p⟩ : Lt)])) :: X) := H_7.asN (i := 1) rfl (by simp) rfl rfl
              have H_9 : Hp w0 [] w_6 (Ent.own v63 22 1 ((K ++ [(⟨cutA a c (p + 8), c - (p + 8), Jn.rec_ l p⟩ : Lt)]).length) (rows (K ++ [(⟨cutA a c (p + 8), c - (p + 8), Jn.rec_ l p⟩ : Lt)])) :: X) := H_8.erase 0
              refine Th_n ⟨_, ?_, _, _, _, rfl, e_3_0, rfl, rfl, H_9, (by rw [keys_snoc]; exact .snoc hR (by refine ⟨hp8, by omega, by omega, by omega, ?_⟩; exact hsum)), (hS.snoc (Jn.rec_seen hll (by omega))), (by rw [List.length_append, List.length_singleton]; omega), (by omega)⟩
              omega
  ·
    have hc' := of_decide_eq_false hc
    refine W_exit ?_
    refine Th_x ?_
    refine Th_x ?_
    refine InB_hit ?_
    refine Th_n ?_
    refine W_seq ?_
    refine W_rg ?_
    refine L_mv rfl ?_
    refine L_mv rfl ?_
    refine L_as rfl ?_
    refine L_as rfl ?_
    refine L_nil ?_
    refine Th_n ?_
    refine W_ret ?_
    refine P_ret (vs := [vl, Value.int .i64 ((p : Nat) : Int)]) (v := Value.tuple #[vl, Value.int .i64 ((p : Nat) : Int)]) rfl (.tmp e_2_4 (.tmp e_2_5 (Res.nil))) rfl ?_
    obtain ⟨a1, c1, hv1⟩ := Ts.opn H_3 (i := 0) rfl
    refine ⟨a1, c1, K, p, by rw [hv1], ⟨⟨hR, ?_⟩, hS⟩, ?_⟩
    · intro hr; obtain ⟨h1, h2, h3, h4, h5⟩ := hr; first | omega | exact hsum h5
    · have h := H_3; rw [hv1] at h; exact h

theorem sameAll_n {a1 a2 : Option Addr} {m1 c1 m2 c2 : Nat} {A B : List Lt} (w0 : World) (hA : Ts w0 a1 m1 c1 A) (hB : Ts w0 a2 m2 c2 B) (hm : m1 ≤ 4294967) (hsA : ∀ x ∈ A, Sl w0 .u8 x.a x.l.length x.c x.l) (hsB : ∀ x ∈ B, Sl w0 .u8 x.a x.l.length x.c x.l) (hkA : ∀ x ∈ A, ∀ u ∈ x.l, u < 256) (hkB : ∀ x ∈ B, ∀ u ∈ x.l, u < 256) :
    Calls Try.prog 12 #[Value.slice a1 m1 c1, Value.slice a2 m2 c2] w0 (fun r_ w' => r_ = .returned (.bool (decide (keys A = keys B))) ∧ Keep w0 w') := by
  have hAl := hA.tab.len
  have hBl := hB.tab.len
  refine F_in Try.func12 rfl Try.ntmps12 rfl ?_
  intro e he
  have p_0 : e 0 = Value.slice a1 m1 c1 := he 0 _ rfl
  have p_1 : e 1 = Value.slice a2 m2 c2 := he 1 _ rfl
  have H := Hp.start w0 []
  refine W_seq ?_
  refine W_rg ?_
  refine L_as rfl ?_
  refine L_nil ?_
  refine Th_n ?_
  refine W_seq ?_
  refine W_seq ?_
  refine W_rg ?_
  refine L_mv rfl ?_
  refine L_y rfl (Y_lenS T_sl24 p_0) ?_
  refine L_mv rfl ?_
  refine L_y rfl (Y_lenS T_sl24 p_1) ?_
  refine L_y rfl (Y_neq (k := .i64) (a := ((m1 : Nat) : Int)) (b := ((m2 : Nat) : Int)) rfl rfl) ?_
  refine L_nil ?_
  refine Th_n ?_
  refine W_cond (b := (((m1 : Nat) : Int) != ((m2 : Nat) : Int))) rfl (fun hc => ?_) (fun hc => ?_)
  ·
    have hc' := ne_of_bne hc
    refine W_seq ?_
    refine W_rg ?_
    refine L_as rfl ?_
    refine L_nil ?_
    refine Th_n ?_
    refine W_ret ?_
    refine Th_r ?_
    refine P_ret (vs := [Value.bool false]) (v := Value.bool false) rfl (.tmp rfl (Res.nil)) rfl ?_
    refine ⟨?_, H.nil_⟩; congr 2; symm
    refine decide_eq_false fun h => ?_; have := congrArg List.length h; rw [keys_len, keys_len] at this; omega
  ·
    have hc' := eq_of_bne_false hc
    refine W_skip ?_
    refine Th_n ?_
    refine W_seq ?_
    refine W_seq ?_
    refine W_rg ?_
    refine L_as rfl ?_
    refine L_nil ?_
    refine Th_n ?_
    refine W_block ?_
    refine W_loop (fun mu_ e w => ∃ i : Nat, mu_ = m1 - i ∧ e 0 = Value.slice a1 m1 c1 ∧ e 1 = Value.slice a2 m2 c2 ∧ e 5 = Value.int .i64 ((i : Nat) : Int) ∧ Hp w0 [] w [] ∧ keys (A.take i) = keys (B.take i) ∧ i ≤ m1) _ ⟨0, rfl, p_0, p_1, rfl, H, rfl, (Nat.zero_le _)⟩ ?_
    rintro mu_ e_2 w_2 ⟨i, rfl, e_2_0, e_2_1, e_2_5, H_2, hkk, hi⟩
    refine W_seq ?_
    refine W_seq ?_
    refine W_rg ?_
    refine L_mv rfl ?_
    refine L_mv rfl ?_
    refine L_y rfl (Y_lenS T_sl24 e_2_0) ?_
    refine L_y rfl (Y_lss (k := .i64) (a := ((i : Nat) : Int)) (b := ((m1 : Nat) : Int)) e_2_5 rfl) ?_
    refine L_nil ?_
    refine Th_n ?_
    refine W_cond (b := (decide (((i : Nat) : Int) < ((m1 : Nat) : Int)))) rfl (fun hc_2 => ?_) (fun hc_2 => ?_)
    ·
      have hc_2' := of_decide_eq_true hc_2
      refine W_skip ?_
      refine Th_n ?_
      refine W_seq ?_
      refine W_block ?_
      refine W_seq ?_
      obtain ⟨el19, hel19⟩ := (hA.hp H_2).tab.at (j := i) (by omega)
      have mel19 := List.mem_of_getElem? hel19
      obtain ⟨el24, hel24⟩ := (hB.hp H_2).tab.at (j := i) (by omega)
      have mel24 := List.mem_of_getElem? hel24
      refine W_quiet H_2 10 [Value.slice a1 m1 c1, Value.int .i64 ((i : Nat) : Int), pl a1 (i * 1 + 0), Value.slice el19.a el19.l.length el19.c, Value.string (bs el19.l), Value.slice a2 m2 c2, Value.int .i64 ((i : Nat) : Int), pl a2 (i * 1 + 0), Value.slice el24.a el24.l.length el24.c, Value.string (bs el24.l)] T_mixed (by kernel_rfl) ?_ ?_
      ·
        refine .plain rfl (Pl_y rfl (fun w hBw => congrArg (fun v => Result.ok (Next.value v) w) e_2_0)) ?_
        refine .plain rfl (Pl_y rfl (fun w hBw => congrArg (fun v => Result.ok (Next.value v) w) e_2_5)) ?_
        refine .plain rfl (Pl_y rfl (fun w hBw => Y_idxT (j := i) T_sl24 (hA.hp hBw).tab hel19 rfl rfl rfl)) ?_
        refine .plain rfl (Pl_y rfl (fun w hBw => Y_ldT (j := i) (off := 0) T_scal22 (hA.hp hBw).tab hel19 rfl rfl rfl)) ?_
        refine .plain rfl (Pl_y rfl (fun w hBw => Y_strL Try.underlying22 Try.underlying5 Try.underlying9 rfl ((hsA _ mel19).hp hBw))) ?_
        refine .plain rfl (Pl_y rfl (fun w hBw => congrArg (fun v => Result.ok (Next.value v) w) e_2_1)) ?_
        refine .plain rfl (Pl_y rfl (fun w hBw => congrArg (fun v => Result.ok (Next.value v) w) e_2_5)) ?_
        refine .plain rfl (Pl_y rfl (fun w hBw => Y_idxT (j := i) T_sl24 (hB.hp hBw).tab hel24 rfl rfl rfl)) ?_
        refine .plain rfl (Pl_y rfl (fun w hBw => Y_ldT (j := i) (off := 0) T_scal22 (hB.hp hBw).tab hel24 rfl rfl rfl)) ?_
        refine .plain rfl (Pl_y rfl (fun w hBw => Y_strL Try.underlying22 Try.underlying5 Try.underlying9 rfl ((hsB _ mel24).hp hBw))) ?_
        exact .nil _
      ·
        intro e_3 w_3 hAg H_3
        have e_3_0 : e_3 0 = Value.slice a1 m1 c1 := (hAg 0 rfl).trans e_2_0
        have e_3_1 : e_3 1 = Value.slice a2 m2 c2 := (hAg 1 rfl).trans e_2_1
        have e_3_5 : e_3 5 = Value.int .i64 ((i : Nat) : Int) := (hAg 5 rfl).trans e_2_5
        have e_3_21 : e_3 21 = Value.string (bs el19.l) := (hAg 21 rfl).trans rfl
        have e_3_26 : e_3 26 = Value.string (bs el24.l) := (hAg 26 rfl).trans rfl
        refine L_y rfl (Y_neT (l1 := el19.l) (l2 := el24.l) Try.underlying9 (hkA _ mel19) (hkB _ mel24) e_3_21 e_3_26) ?_
        refine L_nil ?_
        refine Th_n ?_
        refine W_cond (b := (!decide (el19.l = el24.l))) rfl (fun hc_3 => ?_) (fun hc_3 => ?_)
        ·
          refine W_seq ?_
          refine W_rg ?_
          refine L_as rfl ?_
          refine L_nil ?_
          refine Th_n ?_
          refine W_ret ?_
          refine InB_r ?_
          refine Th_r ?_
          refine Th_r ?_
          refine InB_r ?_
          refine Th_r ?_
          refine P_ret (vs := [Value.bool false]) (v := Value.bool false) rfl (.tmp rfl (Res.nil)) rfl ?_
          refine ⟨?_, H_3.nil_⟩; congr 2; symm
          refine decide_eq_false fun h => ?_; have h1 := keys_get hel19; have h2 := keys_get hel24; rw [h, h2] at h1; have h3 : Lt.key el19 = Lt.key el24 := (Option.some.inj h1).symm; simp [Lt.key] at h3; simp_all
        ·
          refine W_skip ?_
          refine InB_n ?_
          refine Th_n ?_
          refine W_rg ?_
          refine L_mv rfl ?_
          refine L_y rfl (Y_add (k := .i64) (a := ((i : Nat) : Int)) (b := ((1 : Nat) : Int)) (z := ((i + 1 : Nat) : Int)) e_3_5 rfl (wi (by omega))) ?_
          refine L_as rfl ?_
          refine L_nil ?_
          refine Th_n ⟨_, ?_, (i + 1), rfl, e_3_0, e_3_1, rfl, H_3, (by rw [List.take_add_one, List.take_add_one, hel19, hel24]; simp only [Option.toList_some, keys_snoc, hkk]; congr 2; simp_all [Lt.key]), (by omega)⟩
          omega
    ·
      have hc_2' := of_decide_eq_false hc_2
      refine W_exit ?_
      refine Th_x ?_
      refine Th_x ?_
      refine InB_hit ?_
      refine Th_n ?_
      refine W_seq ?_
      refine W_rg ?_
      refine L_as rfl ?_
      refine L_nil ?_
      refine Th_n ?_
      refine W_ret ?_
      refine P_ret (vs := [Value.bool true]) (v := Value.bool true) rfl (.tmp rfl (Res.nil)) rfl ?_
      refine ⟨?_, H_2.nil_⟩; congr 2; symm
      refine decide_eq_true ?_; obtain rfl : i = m1 := (by omega); rw [List.take_of_length_le (by omega), List.take_of_length_le (by omega)] at hkk; exact hkk
end Go.Proofs.Ytgmmifpflllkfaa
