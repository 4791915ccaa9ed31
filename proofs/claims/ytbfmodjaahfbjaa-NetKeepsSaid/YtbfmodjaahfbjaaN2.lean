/- Walks of layer 27 (net) and of its reference. Printed by net.py. -/
import Derived.Test.YtbfmodjaahfbjaaN1
namespace Go.Proofs.Ytbfmodjaahfbjaa
open Go.Ev
set_option maxRecDepth 100000
set_option linter.unusedVariables false
set_option linter.unusedSimpArgs false
theorem T_zero31 : zeroOf Try.prog 31 = some (#[Value.int .i64 ((0 : Nat) : Int), Value.int .i64 ((0 : Nat) : Int), Value.slice none 0 0]) := by kernel_rfl
theorem T_fld31_2 : fldOf Try.prog 31 2 = some (2, 1) := by kernel_rfl
theorem T_scal29 : scal Try.prog 29 = true := by kernel_rfl
theorem T_en26 : enters Try.prog 26 = true := by kernel_rfl
theorem T_row31 : rowOf Try.prog 31 = some 3 := by kernel_rfl
theorem own_n {w0 w : World} {X : List Ent} {f t : Int} {a : Option Addr} {m c : Nat} {l : List Nat} (hm : m ≤ 4294967000) (hs : Seen w0 X .u8 a m c l) (hlt : ∀ u ∈ l, u < 256) (H : Hp w0 [] w X) :
    Calls Try.prog 21 #[Value.agg #[Value.int .i64 (f), Value.int .i64 (t), Value.slice a m c]] w (fun r_ w' => ∃ a1 c1, r_ = .returned (.agg #[.int .i64 f, .int .i64 t, .slice a1 m c1]) ∧ Hp w0 [] w' (.own (.slice a1 m c1) 5 1 m (us .u8 l) :: X)) := by
  refine F_in Try.func21 rfl Try.ntmps21 rfl ?_
  intro e he
  have p_0 : e 0 = Value.agg #[Value.int .i64 (f), Value.int .i64 (t), Value.slice a m c] := he 0 _ rfl
  refine W_seq ?_
  refine W_rg ?_
  refine L_box rfl H p_0 (cs := #[Value.int .i64 (f), Value.int .i64 (t), Value.slice a m c]) rfl ?_; intro bk1 w_2 H_2
  refine L_alloc rfl H_2 T_zero31 ?_; intro bk2 w_3 H_3
  refine L_nil ?_
  refine Th_n ?_
  refine W_seq ?_
  refine W_rg ?_
  refine L_y rfl (Y_fld T_fld31_2 rfl rfl rfl) ?_
  refine L_y rfl (Y_ld T_scal29 H_3 (i := 1) rfl rfl rfl) ?_
  refine L_callv rfl rfl T_en26 (A1 rfl) (clone _ _ _ _ _ (by omega) (hs.hp H_3 (fun _ h_ => .tail _ (.tail _ (h_))))) ?_
  rintro _ w_4 ⟨a5, c5, rfl, hkp⟩; refine ⟨_, rfl, ?_⟩; have H_4 := H_3.more hkp
  refine L_y rfl (Y_fld T_fld31_2 rfl rfl rfl) ?_
  refine L_st (v := Value.slice a5 m c5) T_scal29 H_4 (i := 2) rfl rfl rfl rfl (Nat.le_of_ble_eq_true rfl) (l' := (Ent.own (Value.slice a5 m c5) 5 1 m (us .u8 l) :: Ent.blk bk2 31 #[Value.int .i64 ((0 : Nat) : Int), Value.int .i64 ((0 : Nat) : Int), Value.slice none 0 0] :: Ent.blk bk1 31 #[Value.int .i64 (f), Value.int .i64 (t), Value.slice a5 m c5] :: X)) rfl ?_; intro w_5 H_5
  refine L_nil ?_
  refine Th_n ?_
  refine W_seq ?_
  refine W_rg ?_
  refine L_y rfl (Y_ldr T_row31 H_5 (i := 2) rfl rfl rfl) ?_
  refine L_str (ds := #[Value.int .i64 (f), Value.int .i64 (t), Value.slice a5 m c5]) T_row31 H_5 (i := 1) rfl rfl rfl rfl rfl (allOne3 _ _ _ _ _) (l' := (Ent.own (Value.slice a5 m c5) 5 1 m (us .u8 l) :: Ent.blk bk2 31 #[Value.int .i64 (f), Value.int .i64 (t), Value.slice a5 m c5] :: Ent.blk bk1 31 #[Value.int .i64 (f), Value.int .i64 (t), Value.slice a5 m c5] :: X)) rfl ?_; intro w_6 H_6
  refine L_nil ?_
  refine Th_n ?_
  refine W_ret ?_
  refine P_ret (vs := [Value.agg #[Value.int .i64 (f), Value.int .i64 (t), Value.slice a5 m c5]]) (v := Value.agg #[Value.int .i64 (f), Value.int .i64 (t), Value.slice a5 m c5]) rfl (.cell rfl (loadVar_row T_row31 H_6 (i := 1) rfl rfl) (Res.nil)) rfl ?_
  have H_7 : Hp w0 [] w_6 (Ent.own (Value.slice a5 m c5) 5 1 m (us .u8 l) :: Ent.blk bk2 31 #[Value.int .i64 (f), Value.int .i64 (t), Value.slice a5 m c5] :: X) := H_6.erase 2
  have H_8 : Hp w0 [] w_6 (Ent.own (Value.slice a5 m c5) 5 1 m (us .u8 l) :: X) := H_7.erase 1
  exact ⟨_, _, rfl, H_8⟩
end Go.Proofs.Ytbfmodjaahfbjaa
