/- Walks of layer 17 (pack) and of its reference. Printed by pack.py. -/
import Derived.Test.YtidepfhfconkaaaK15
namespace Go.Proofs.Ytidepfhfconkaaa
open Go.Ev
set_option maxRecDepth 100000
set_option linter.unusedVariables false
set_option linter.unusedSimpArgs false
theorem dNewReader {w0 w : World} {X : List Ent} {a : Option Addr} {m c : Nat} {b : List Nat} (hm : m ≤ 4294967000) (hsb : Seen w0 X .u8 a m c b) (hst : ∀ u ∈ b, u < 256) (H : Hp w0 [] w X) :
    Calls Try.prog 22 #[Value.slice a m c] w (fun r_ w' => ∃ bw v, r_ = .returned (.pointer (some ⟨bw, 0, none⟩)) ∧ Hp w0 [] w' (.blk bw 59 #[v, .int .i64 ((0 : Nat) : Int), .int .i64 ((0 : Nat) : Int)] :: .own v 5 1 b.length (us .u8 b) :: X)) := by
  have hbl : b.length = m := hsb.len H (fun _ h_ => h_)
  refine F_in Try.func22 rfl Try.ntmps22 rfl ?_
  intro e he
  have p_0 : e 0 = Value.slice a m c := he 0 _ rfl
  refine W_seq ?_
  refine W_rg ?_
  refine L_as rfl ?_
  refine L_nil ?_
  refine Th_n ?_
  refine W_seq ?_
  refine W_rg ?_
  refine L_mv rfl ?_
  refine L_callv rfl rfl T_en29 (A1 p_0) (clone _ _ _ _ _ (by omega) (hsb.hp H (fun _ h_ => h_))) ?_
  rintro _ w_2 ⟨v4, rfl, hkp⟩; refine ⟨_, rfl, ?_⟩; have H_2 := H.more hkp
  obtain ⟨a_, c_, rfl⟩ := Sl.opn H_2 (i := 0) rfl
  refine L_y rfl (Y_build (pv := [(0, Value.slice a_ m c_)]) (cs := #[Value.slice a_ m c_, Value.int .i64 ((0 : Nat) : Int), Value.int .i64 ((0 : Nat) : Int)]) (Bpc rfl Bp0) (by kernel_rfl)) ?_
  refine L_box rfl H_2 rfl (cs := #[Value.slice a_ m c_, Value.int .i64 ((0 : Nat) : Int), Value.int .i64 ((0 : Nat) : Int)]) rfl ?_; intro bk6 w_3 H_3
  refine L_as rfl ?_
  refine L_nil ?_
  refine Th_n ?_
  refine W_ret ?_
  refine P_ret (vs := [Value.pointer (some ⟨bk6, 0, none⟩)]) (v := Value.pointer (some ⟨bk6, 0, none⟩)) rfl (.tmp rfl (Res.nil)) rfl ?_
  subst hbl; exact ⟨_, _, rfl, H_3⟩
end Go.Proofs.Ytidepfhfconkaaa
