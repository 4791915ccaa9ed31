/- Walks of layer 17 (pack) and of its reference. Printed by pack.py. -/
import Derived.Test.YtidepfhfconkaaaK11
namespace Go.Proofs.Ytidepfhfconkaaa
open Go.Ev
set_option maxRecDepth 100000
set_option linter.unusedVariables false
set_option linter.unusedSimpArgs false
theorem dFail {w0 w : World} {X : List Ent} {bw : Nat} {v : Value} {l : List Nat} {p er : Nat} (f : Nat) (hl : l.length ≤ 4294967000) (hlt : ∀ u ∈ l, u < 256) (hp : p ≤ l.length) (H : Hp w0 [] w (Ent.blk bw 59 #[v, Value.int .i64 ((p : Nat) : Int), Value.int .i64 ((er : Nat) : Int)] :: Ent.own v 5 1 l.length (us .u8 l) :: X)) :
    Calls Try.prog 16 #[Value.pointer (some ⟨bw, 0, none⟩), Value.int .i64 ((f : Nat) : Int)] w (fun r_ w' => ∃ v', r_ = .returned (.tuple #[]) ∧ Hp w0 [] w' (Ent.blk bw 59 #[v', Value.int .i64 ((p : Nat) : Int), Value.int .i64 (((Pk.fail er f) : Nat) : Int)] :: Ent.own v' 5 1 l.length (us .u8 l) :: X)) := by
  refine F_in Try.func16 rfl Try.ntmps16 rfl ?_
  intro e he
  have p_0 : e 0 = Value.pointer (some ⟨bw, 0, none⟩) := he 0 _ rfl
  have p_1 : e 1 = Value.int .i64 ((f : Nat) : Int) := he 1 _ rfl
  refine W_seq ?_
  refine W_rg ?_
  refine L_mv rfl ?_
  refine L_y rfl (Y_neP Try.underlying42 p_0 rfl) ?_
  refine L_mv rfl ?_
  refine G_mv (wE rfl rfl) rfl ?_
  refine G_y (wE rfl rfl) rfl (Y_nil p_0) ?_
  refine G_y (wE rfl rfl) rfl (Y_fld T_fld59_2 rfl rfl rfl) ?_
  refine G_y (wE rfl rfl) rfl (Y_ld T_scal26 H (i := 0) rfl rfl rfl) ?_
  refine G_y (wE rfl rfl) rfl (Y_eql (k := .i64) (a := ((er : Nat) : Int)) (b := ((0 : Nat) : Int)) rfl rfl) ?_
  refine L_y rfl (Y_pickT rfl) ?_
  refine L_nil ?_
  refine Th_n ?_
  refine W_cond (b := (((er : Nat) : Int) == ((0 : Nat) : Int))) rfl (fun hc => ?_) (fun hc => ?_)
  ·
    have hc' := eq_of_beq hc
    refine W_rg ?_
    refine L_mv rfl ?_
    refine L_mv rfl ?_
    refine L_y rfl (Y_nil p_0) ?_
    refine L_y rfl (Y_fld T_fld59_2 rfl rfl rfl) ?_
    refine L_st (v := Value.int .i64 ((f : Nat) : Int)) T_scal26 H (i := 0) rfl rfl p_1 rfl (Nat.le_of_ble_eq_true rfl) (l' := (Ent.blk bw 59 #[v, Value.int .i64 ((p : Nat) : Int), Value.int .i64 ((f : Nat) : Int)] :: Ent.own v 5 1 l.length (us .u8 l) :: X)) rfl ?_; intro w_2 H_2
    refine L_nil ?_
    refine P_end (vs := []) (v := Value.tuple #[]) rfl (Res.nil) rfl ?_
    have hm : Pk.fail er f = f := by first | exact if_pos (by omega) | exact if_neg (by omega)
    refine ⟨v, rfl, ?_⟩; rw [hm]; exact H_2
  ·
    have hc' := ne_of_beq_false hc
    refine W_skip ?_
    refine P_end (vs := []) (v := Value.tuple #[]) rfl (Res.nil) rfl ?_
    have hm : Pk.fail er f = er := by first | exact if_pos (by omega) | exact if_neg (by omega)
    refine ⟨v, rfl, ?_⟩; rw [hm]; exact H
end Go.Proofs.Ytidepfhfconkaaa
