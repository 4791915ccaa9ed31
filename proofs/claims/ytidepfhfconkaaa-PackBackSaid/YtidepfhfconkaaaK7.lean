/- Walks of layer 17 (pack) and of its reference. Printed by pack.py. -/
import Derived.Test.YtidepfhfconkaaaK6
namespace Go.Proofs.Ytidepfhfconkaaa
open Go.Ev
set_option maxRecDepth 100000
set_option linter.unusedVariables false
set_option linter.unusedSimpArgs false
theorem T_zero28 : zeroOf Try.prog 28 = some (#[Value.slice none 0 0, Value.int .i64 ((0 : Nat) : Int)]) := by kernel_rfl
theorem T_en13 : enters Try.prog 13 = true := by kernel_rfl
theorem T_en15 : enters Try.prog 15 = true := by kernel_rfl
theorem known_n (w0 : World) :
    Calls Try.prog 8 #[] w0 (fun r_ w' => r_ = .returned (.bool true) ∧ Keep w0 w') := by
  refine F_in Try.func8 rfl Try.ntmps8 rfl ?_
  intro e he
  have H := Hp.start w0 []
  refine W_seq ?_
  refine W_rg ?_
  refine L_as rfl ?_
  refine L_nil ?_
  refine Th_n ?_
  refine W_seq ?_
  refine W_rg ?_
  refine L_alloc rfl H T_zero28 ?_; intro bk1 w_2 H_2
  have H_3 : Hp w0 [] w_2 [Ent.blk bk1 28 #[Value.slice none 0 0, Value.int .i64 ((0 : Nat) : Int)], Ent.own (Value.slice none 0 0) 5 1 0 (us .u8 [])] := (H_2.nilOwn 5 1).perm (List.Perm.swap _ _ _)
  refine L_nil ?_
  refine Th_n ?_
  refine W_seq ?_
  refine W_rg ?_
  refine L_callv rfl rfl T_en9 (A3 rfl rfl rfl) (wNum (l := []) (er := 0) 258 ((2 : Nat) : Int) (by decide) (by decide) (by simp) H_3) ?_
  rintro _ w_3 ⟨v4, rfl, H_4⟩; refine ⟨_, rfl, ?_⟩
  have hq := Pk.num_len (l := []) (e := 0) (n := 258) (s := ((2 : Nat) : Int))
  refine L_nil ?_
  refine Th_n ?_
  refine W_seq ?_
  refine W_rg ?_
  refine L_bsl (cs := ua .u8 [97]) rfl H_4 (pv := [(0, Value.int .u8 ((97 : Nat) : Int))]) T_sl25 T_zero5 rfl (Bpc rfl Bp0) (by kernel_rfl) ?_; intro bk5 w_4 H_5
  refine L_cvB rfl H_5 (i := 0) rfl Try.underlying25 Try.underlying5 rfl ?_; intro w_5 Hx
  have H_6 : Hp w0 [] w_5 [Ent.ro bk5 5 (ua .u8 [97]) ((ua .u8 [97]).size, (ua .u8 [97]).size + 1), Ent.blk bk1 28 #[v4, Value.int .i64 (((Pk.num [] 0 258 ((2 : Nat) : Int)).2 : Nat) : Int)], Ent.own v4 5 1 ((Pk.num [] 0 258 ((2 : Nat) : Int)).1.length) (us .u8 ((Pk.num [] 0 258 ((2 : Nat) : Int)).1))] := Hx
  have H_7 : Hp w0 [] w_5 [Ent.blk bk1 28 #[v4, Value.int .i64 (((Pk.num [] 0 258 ((2 : Nat) : Int)).2 : Nat) : Int)], Ent.own v4 5 1 ((Pk.num [] 0 258 ((2 : Nat) : Int)).1.length) (us .u8 ((Pk.num [] 0 258 ((2 : Nat) : Int)).1)), Ent.ro bk5 5 (ua .u8 [97]) ((ua .u8 [97]).size, (ua .u8 [97]).size + 1)] := ((H_6.pull 2 rfl).pull 2 rfl)
  refine L_callv rfl rfl T_en13 (A2 rfl rfl) (wText (l := (Pk.num [] 0 258 ((2 : Nat) : Int)).1) (er := (Pk.num [] 0 258 ((2 : Nat) : Int)).2)  (Pk.num_lt (by simp)) (by decide) (Seen.ro (i := 0) rfl rfl) (by decide) H_7) ?_
  rintro _ w_6 ⟨v7, rfl, H_8⟩; refine ⟨_, rfl, ?_⟩
  have hq_2 := Pk.text_len (l := ((Pk.num [] 0 258 ((2 : Nat) : Int)).1)) (e := ((Pk.num [] 0 258 ((2 : Nat) : Int)).2)) (b := [97])
  refine L_nil ?_
  refine Th_n ?_
  refine W_seq ?_
  refine W_rg ?_
  refine L_callv rfl rfl T_en15 (A1 rfl) (wDone (l := (Pk.text ((Pk.num [] 0 258 ((2 : Nat) : Int)).1) ((Pk.num [] 0 258 ((2 : Nat) : Int)).2) [97]).1) (by decide) (Pk.text_lt (Pk.num_lt (by simp)) (by decide)) H_8) ?_
  rintro _ w_7 ⟨v9, rfl, H_9⟩; refine ⟨_, rfl, ?_⟩
  have hq_3 := Pk.told_len (l := ((Pk.text ((Pk.num [] 0 258 ((2 : Nat) : Int)).1) ((Pk.num [] 0 258 ((2 : Nat) : Int)).2) [97]).1)) (e := ((Pk.text ((Pk.num [] 0 258 ((2 : Nat) : Int)).1) ((Pk.num [] 0 258 ((2 : Nat) : Int)).2) [97]).2))
  refine L_mv rfl ?_
  refine L_y rfl (Y_ext rfl rfl) ?_
  refine L_y rfl (Y_ext rfl rfl) ?_
  refine L_as rfl ?_
  refine L_as rfl ?_
  refine L_nil ?_
  refine Th_n ?_
  refine W_seq ?_
  refine W_rg ?_
  refine L_mv rfl ?_
  refine L_y rfl (Y_eql (k := .i64) (a := (((Pk.text ((Pk.num [] 0 258 ((2 : Nat) : Int)).1) ((Pk.num [] 0 258 ((2 : Nat) : Int)).2) [97]).2 : Nat) : Int)) (b := ((0 : Nat) : Int)) rfl rfl) ?_
  refine L_mv rfl ?_
  refine G_mv (wE rfl (congrArg Value.bool (by decide))) rfl ?_
  refine G_y (wE rfl (congrArg Value.bool (by decide))) rfl (Y_strO Try.underlying25 Try.underlying5 Try.underlying9 H_9 (i := 0) rfl rfl) ?_
  refine G_y (wE rfl (congrArg Value.bool (by decide))) rfl (Y_eqT (l1 := Pk.told ((Pk.text ((Pk.num [] 0 258 ((2 : Nat) : Int)).1) ((Pk.num [] 0 258 ((2 : Nat) : Int)).2) [97]).1) ((Pk.text ((Pk.num [] 0 258 ((2 : Nat) : Int)).1) ((Pk.num [] 0 258 ((2 : Nat) : Int)).2) [97]).2)) (l2 := [1, 2, 0, 1, 97]) Try.underlying9 (by decide) (by decide) rfl (by kernel_rfl)) ?_
  refine L_y rfl (Y_pickT (congrArg Value.bool (by decide))) ?_
  refine L_as rfl ?_
  refine L_nil ?_
  refine Th_n ?_
  refine W_ret ?_
  refine P_ret (vs := [Value.bool (decide (Pk.told ((Pk.text ((Pk.num [] 0 258 ((2 : Nat) : Int)).1) ((Pk.num [] 0 258 ((2 : Nat) : Int)).2) [97]).1) ((Pk.text ((Pk.num [] 0 258 ((2 : Nat) : Int)).1) ((Pk.num [] 0 258 ((2 : Nat) : Int)).2) [97]).2) = [1, 2, 0, 1, 97]))]) (v := Value.bool (decide (Pk.told ((Pk.text ((Pk.num [] 0 258 ((2 : Nat) : Int)).1) ((Pk.num [] 0 258 ((2 : Nat) : Int)).2) [97]).1) ((Pk.text ((Pk.num [] 0 258 ((2 : Nat) : Int)).1) ((Pk.num [] 0 258 ((2 : Nat) : Int)).2) [97]).2) = [1, 2, 0, 1, 97]))) rfl (.tmp rfl (Res.nil)) rfl ?_
  refine ⟨?_, H_9.nil_⟩
  rfl
end Go.Proofs.Ytidepfhfconkaaa
