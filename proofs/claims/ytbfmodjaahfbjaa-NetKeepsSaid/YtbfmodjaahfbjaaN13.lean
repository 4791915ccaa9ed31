/- Walks of layer 27 (net) and of its reference. Printed by net.py. -/
import Derived.Test.YtbfmodjaahfbjaaN12
namespace Go.Proofs.Ytbfmodjaahfbjaa
open Go.Ev
set_option maxRecDepth 100000
set_option linter.unusedVariables false
set_option linter.unusedSimpArgs false
theorem T_fld47_0 : fldOf Try.prog 47 0 = some (0, 1) := by kernel_rfl
theorem rplace1 {w0 : World} {bw : Nat} {ra : Option Addr} {n rc : Nat} (z : Int) (h0 : 0 < n) (hn : n ≤ 200) (hg : w0.heap[bw]? = some (.cells #[Value.slice ra n rc] 47 (0, 0))) :
    Calls Try.prog 25 #[Value.pointer (some ⟨bw, 0, none⟩), Value.int .i64 (z)] w0 (fun r_ w' => r_ = .returned (.int .i64 ((un z % n : Nat) : Int)) ∧ Keep w0 w') := by
  refine F_in Try.func25 rfl Try.ntmps25 rfl ?_
  intro e he
  have p_0 : e 0 = Value.pointer (some ⟨bw, 0, none⟩) := he 0 _ rfl
  have p_1 : e 1 = Value.int .i64 (z) := he 1 _ rfl
  have H := Hp.start w0 []
  refine W_seq ?_
  refine W_rg ?_
  refine L_as rfl ?_
  refine L_nil ?_
  refine Th_n ?_
  refine W_seq ?_
  refine W_rg ?_
  refine L_mv rfl ?_
  refine L_y rfl (Y_convI (k := .i64) (n := z) (z := ((un z : Nat) : Int)) T_some3 T_kind38 p_1 (un_wrap _)) ?_
  refine L_mv rfl ?_
  refine L_y rfl (Y_nil p_0) ?_
  refine L_y rfl (Y_fld T_fld47_0 rfl rfl rfl) ?_
  refine L_y rfl (Y_ldb T_scal35 (H.oldB hg (by simp)) rfl rfl) ?_
  refine L_y rfl (Y_lenS T_sl35 rfl) ?_
  refine L_y rfl (Y_convI (k := .i64) (n := ((n : Nat) : Int)) (z := ((n : Nat) : Int)) T_some3 T_kind38 rfl (wrapS rfl (by first | decide | (show _ < 18446744073709551616; omega)))) ?_
  refine L_yr (z := (un z) % n) (m := 18446744073709551616) rfl (Yu_rem (k := .u64) (un z) n rfl rfl (by omega)) (Nat.lt_of_le_of_lt (Nat.mod_le _ _) (un_lt _)) ?_; intro x13 hx13 rx13
  have sx13 : x13 < n := by rw [hx13]; exact Nat.mod_lt _ h0
  refine L_y rfl (Y_convI (k := .u64) (n := ((x13 : Nat) : Int)) (z := ((x13 : Nat) : Int)) T_some38 T_kind3 rfl (wi (by exact ⟨rfl, by omega, by have := rx13; omega⟩))) ?_
  refine L_as rfl ?_
  refine L_nil ?_
  refine Th_n ?_
  refine W_ret ?_
  refine P_ret (vs := [Value.int .i64 ((x13 : Nat) : Int)]) (v := Value.int .i64 ((x13 : Nat) : Int)) rfl (.tmp rfl (Res.nil)) rfl ?_
  refine ⟨by first | rfl | (simp only [*]; done) | simp [*], H.nil_⟩

theorem rplace_n {w0 w : World} {X : List Ent} {bw : Nat} {v : Value} {K : List Lt} (z : Int) (h0 : 0 < K.length) (hn : K.length ≤ 200) (H : Hp w0 [] w (Ent.blk bw 47 #[v] :: Ent.own v 31 3 K.length (rows K) :: X)) :
    Calls Try.prog 25 #[.pointer (some ⟨bw, 0, none⟩), .int .i64 z] w (fun r_ w' => r_ = .returned (.int .i64 ((un z % K.length : Nat) : Int)) ∧ Keep w w') := by
  obtain ⟨a, c, rfl⟩ := H.own_len (i := 1) rfl
  exact rplace1 z h0 hn (H.get 0 rfl)
end Go.Proofs.Ytbfmodjaahfbjaa
