/- Walks of layer 17 (pack) and of its reference. Printed by pack.py. -/
import Derived.Test.YtidepfhfconkaaaK13
namespace Go.Proofs.Ytidepfhfconkaaa
open Go.Ev
set_option maxRecDepth 100000
set_option linter.unusedVariables false
set_option linter.unusedSimpArgs false
theorem dRaw {w0 w : World} {X : List Ent} {bw : Nat} {v : Value} {l : List Nat} {p er : Nat} (s : Int) (hl : l.length ≤ 4294967000) (hlt : ∀ u ∈ l, u < 256) (hp : p ≤ l.length) (H : Hp w0 [] w (Ent.blk bw 59 #[v, Value.int .i64 ((p : Nat) : Int), Value.int .i64 ((er : Nat) : Int)] :: Ent.own v 5 1 l.length (us .u8 l) :: X)) :
    Calls Try.prog 19 #[Value.pointer (some ⟨bw, 0, none⟩), Value.int .i64 (s)] w (fun r_ w' => ∃ v1 v2, r_ = .returned v1 ∧ Hp w0 [] w' (.own v1 5 1 (Pk.take l p er s).1.length (us .u8 (Pk.take l p er s).1) :: Ent.blk bw 59 #[v2, Value.int .i64 (((Pk.take l p er s).2.1 : Nat) : Int), Value.int .i64 (((Pk.take l p er s).2.2 : Nat) : Int)] :: Ent.own v2 5 1 l.length (us .u8 l) :: X)) := by
  refine F_in Try.func19 rfl Try.ntmps19 rfl ?_
  intro e he
  have p_0 : e 0 = Value.pointer (some ⟨bw, 0, none⟩) := he 0 _ rfl
  have p_1 : e 1 = Value.int .i64 (s) := he 1 _ rfl
  refine W_seq ?_
  refine W_rg ?_
  refine L_as rfl ?_
  refine L_nil ?_
  refine Th_n ?_
  refine W_seq ?_
  refine W_rg ?_
  refine L_mv rfl ?_
  refine L_mv rfl ?_
  refine L_callv rfl rfl T_en30 (A2 p_0 p_1) (dTake s (by omega) hlt hp H) ?_
  rintro _ w_2 ⟨ta7, tm7, tc7, v7, rfl, f7_0, H_2⟩; refine ⟨_, rfl, ?_⟩
  have htl := (f7_0.hp H_2 (mem_one (i := 1) rfl)).len
  have htm := Pk.take_len l p er s
  refine L_callv rfl rfl T_en29 (A1 rfl) (clone _ _ _ _ _ (by omega) (f7_0.hp H_2 (mem_one (i := 1) rfl))) ?_
  rintro _ w_3 ⟨v8, rfl, hkp⟩; refine ⟨_, rfl, ?_⟩; have H_3 := H_2.more hkp
  refine L_as rfl ?_
  refine L_nil ?_
  refine Th_n ?_
  refine W_ret ?_
  refine P_ret (vs := [v8]) (v := v8) rfl (.tmp rfl (Res.nil)) rfl ?_
  refine ⟨v8, v7, rfl, ?_⟩; have h := H_3; rw [show tm7 = (Pk.take l p er s).1.length from htl.symm] at h; exact h
end Go.Proofs.Ytidepfhfconkaaa
