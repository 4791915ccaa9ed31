/- Walks of layer 21 (disk) and of its reference. Printed by disk.py. -/
import Derived.Test.YtlialefffhoagaaT4
namespace Go.Proofs.Ytlialefffhoagaa
open Go.Ev
set_option maxRecDepth 100000
set_option linter.unusedVariables false
set_option linter.unusedSimpArgs false
theorem T_en26 : enters Try.prog 26 = true := by kernel_rfl
theorem clone (a : Option Addr) (m c : Nat) (l : List Nat) (w0 : World) (hm : m ≤ 4294967000) (hs0 : Sl w0 .u8 a m c l) :
    Calls Try.prog 26 #[Value.slice a m c] w0 (fun r_ w' => ∃ v, r_ = .returned v ∧ Hp w0 [] w' [.own v 5 1 m (us .u8 l)]) := by
  refine F_in Try.func26 rfl Try.ntmps26 rfl ?_
  intro e he
  have p_0 : e 0 = Value.slice a m c := he 0 _ rfl
  have H := Hp.start w0 []
  refine W_seq ?_
  refine W_rg ?_
  refine L_as rfl ?_
  refine L_nil ?_
  refine Th_n ?_
  refine W_seq ?_
  refine W_seq ?_
  refine W_rg ?_
  refine L_mv rfl ?_
  refine L_y rfl (Y_eqSn (a := a) Try.underlying23 p_0 rfl) ?_
  refine L_nil ?_
  refine Th_n ?_
  refine W_cond (b := a.isNone) rfl (fun hc => ?_) (fun hc => ?_)
  ·
    refine W_seq ?_
    refine W_rg ?_
    refine L_as rfl ?_
    refine L_nil ?_
    refine Th_n ?_
    refine W_ret ?_
    refine Th_r ?_
    refine P_ret (vs := [Value.slice none 0 0]) (v := Value.slice none 0 0) rfl (.tmp rfl (Res.nil)) rfl ?_
    obtain ⟨rfl, rfl, rfl, rfl⟩ := hs0.isNone (by first | assumption | simp_all)
    exact ⟨_, rfl, H.nilOwn 5 1⟩
  ·
    refine W_skip ?_
    refine Th_n ?_
    refine W_seq ?_
    refine W_rg ?_
    refine L_bsl (cs := ua .u8 []) rfl H (pv := []) T_sl23 T_zero5 rfl Bp0 (by kernel_rfl) ?_; intro bk5 w_2 H_2
    have H_3 : Hp w0 [] w_2 [Ent.own (Value.slice (some ⟨bk5, 0, none⟩) 0 0) 5 1 0 (us .u8 [])] := H_2.say (i := 0) (x' := .own (Value.slice (some ⟨bk5, 0, none⟩) 0 0) 5 1 0 (us .u8 [])) rfl (own_of_blk (Nat.le_refl _) (by decide) rfl rfl) (fun _ h => h) rfl
    refine L_mv rfl ?_
    refine L_appL rfl H_3 (i := 0) rfl T_sl23 T_zero5 rfl T_szb5 rfl p_0 (hs0.hp H_3) (by omega) ?_; intro v7 w_3 Hx
    have H_4 : Hp w0 [] w_3 [Ent.own v7 5 1 m (us .u8 l)] := by have h := Hx; simp only [Nat.zero_add] at h; exact h
    refine L_as rfl ?_
    refine L_nil ?_
    refine Th_n ?_
    refine W_ret ?_
    refine P_ret (vs := [v7]) (v := v7) rfl (.tmp rfl (Res.nil)) rfl ?_
    refine ⟨v7, rfl, ?_⟩; have h := H_4; simpa using h

theorem dBytes {w0 w : World} {X : List Ent} {bw : Nat} {v : Value} (d : Dk.D) (hd : Dk.ok d) (H : Hp w0 [] w (Ent.blk bw 45 #[v, Value.int .i64 (d.left), Value.bool d.armed, Value.bool d.off] :: Ent.own v 5 1 d.l.length (us .u8 d.l) :: X)) :
    Calls Try.prog 13 #[Value.pointer (some ⟨bw, 0, none⟩)] w (fun r_ w' => ∃ v', r_ = .returned (.tuple #[v', .int .i64 ((Dk.ready d : Nat) : Int)]) ∧ Hp w0 [] w' (.own v' 5 1 (Dk.told d).length (us .u8 (Dk.told d)) :: Ent.blk bw 45 #[v, Value.int .i64 (d.left), Value.bool d.armed, Value.bool d.off] :: Ent.own v 5 1 d.l.length (us .u8 d.l) :: X)) := by
  have hlen := hd.len
  refine F_in Try.func13 rfl Try.ntmps13 rfl ?_
  intro e he
  have p_0 : e 0 = Value.pointer (some ⟨bw, 0, none⟩) := he 0 _ rfl
  refine W_seq ?_
  refine W_rg ?_
  refine L_as rfl ?_
  refine L_as rfl ?_
  refine L_nil ?_
  refine Th_n ?_
  refine W_seq ?_
  refine W_seq ?_
  refine W_rg ?_
  refine L_mv rfl ?_
  refine L_callv rfl rfl T_en24 (A1 p_0) (dReady d H) ?_
  rintro _ w_2 ⟨rfl, hkp⟩; refine ⟨_, rfl, ?_⟩; have H_2 := H.keep hkp
  refine L_as rfl ?_
  refine L_nil ?_
  refine Th_n ?_
  refine W_seq ?_
  refine W_rg ?_
  refine L_mv rfl ?_
  refine L_y rfl (Y_neq (k := .i64) (a := ((Dk.ready d : Nat) : Int)) (b := ((0 : Nat) : Int)) rfl rfl) ?_
  refine L_nil ?_
  refine Th_n ?_
  refine W_cond (b := (((Dk.ready d : Nat) : Int) != ((0 : Nat) : Int))) rfl (fun hc => ?_) (fun hc => ?_)
  ·
    have hc' := ne_of_bne hc
    refine W_seq ?_
    refine W_rg ?_
    refine L_mv rfl ?_
    refine L_as rfl ?_
    refine L_as rfl ?_
    refine L_nil ?_
    refine Th_n ?_
    refine W_ret ?_
    refine Th_r ?_
    refine P_ret (vs := [Value.slice none 0 0, Value.int .i64 ((Dk.ready d : Nat) : Int)]) (v := Value.tuple #[Value.slice none 0 0, Value.int .i64 ((Dk.ready d : Nat) : Int)]) rfl (.tmp rfl (.tmp rfl (Res.nil))) rfl ?_
    have ho := Dk.off_of (d := d) (by omega)
    refine ⟨Value.slice none 0 0, rfl, ?_⟩; rw [show Dk.told d = [] from if_pos ho]; exact H_2.nilOwn 5 1
  ·
    have hc' := eq_of_bne_false hc
    refine W_skip ?_
    refine Th_n ?_
    refine W_seq ?_
    refine W_rg ?_
    refine L_mv rfl ?_
    refine L_y rfl (Y_nil p_0) ?_
    refine L_y rfl (Y_fld T_fld45_0 rfl rfl rfl) ?_
    refine L_y rfl (Y_ld T_scal23 H_2 (i := 0) rfl rfl rfl) ?_
    obtain ⟨a_, c_, rfl⟩ := Sl.opn H_2 (i := 1) rfl
    refine L_callv rfl rfl T_en26 (A1 rfl) (clone _ _ _ _ _ (by omega) (Sl.own H_2 (i := 1) rfl)) ?_
    rintro _ w_3 ⟨v14, rfl, hkp_2⟩; refine ⟨_, rfl, ?_⟩; have H_3 := H_2.more hkp_2
    refine L_as rfl ?_
    refine L_as rfl ?_
    refine L_nil ?_
    refine Th_n ?_
    refine W_ret ?_
    refine P_ret (vs := [v14, Value.int .i64 ((0 : Nat) : Int)]) (v := Value.tuple #[v14, Value.int .i64 ((0 : Nat) : Int)]) rfl (.tmp rfl (.tmp rfl (Res.nil))) rfl ?_
    have hr : Dk.ready d = 0 := (by omega)
    have ho := Dk.on_of hr
    refine ⟨v14, by rw [hr], ?_⟩; rw [show Dk.told d = d.l from if_neg ho]; exact H_3

theorem dNew {w0 w : World} {X : List Ent} (H : Hp w0 [] w X) :
    Calls Try.prog 8 #[] w (fun r_ w' => ∃ b v, r_ = .returned (.pointer (some ⟨b, 0, none⟩)) ∧ Hp w0 [] w' (.blk b 45 #[v, .int .i64 Dk.new.left, .bool Dk.new.armed, .bool Dk.new.off] :: .own v 5 1 Dk.new.l.length (us .u8 Dk.new.l) :: X)) := by
  refine F_in Try.func8 rfl Try.ntmps8 rfl ?_
  intro e he
  refine W_seq ?_
  refine W_rg ?_
  refine L_as rfl ?_
  refine L_nil ?_
  refine Th_n ?_
  refine W_seq ?_
  refine W_rg ?_
  refine L_y rfl (Y_build (pv := []) (cs := #[Value.slice none 0 0, Value.int .i64 ((0 : Nat) : Int), Value.bool false, Value.bool false]) Bp0 (by kernel_rfl)) ?_
  refine L_box rfl H rfl (cs := #[Value.slice none 0 0, Value.int .i64 ((0 : Nat) : Int), Value.bool false, Value.bool false]) rfl ?_; intro bk2 w_2 H_2
  have H_3 : Hp w0 [] w_2 (Ent.blk bk2 45 #[Value.slice none 0 0, Value.int .i64 ((0 : Nat) : Int), Value.bool false, Value.bool false] :: Ent.own (Value.slice none 0 0) 5 1 0 (us .u8 []) :: X) := (H_2.nilOwn 5 1).perm (List.Perm.swap _ _ _)
  refine L_as rfl ?_
  refine L_nil ?_
  refine Th_n ?_
  refine W_ret ?_
  refine P_ret (vs := [Value.pointer (some ⟨bk2, 0, none⟩)]) (v := Value.pointer (some ⟨bk2, 0, none⟩)) rfl (.tmp rfl (Res.nil)) rfl ?_
  exact ⟨_, _, rfl, H_3⟩
end Go.Proofs.Ytlialefffhoagaa
