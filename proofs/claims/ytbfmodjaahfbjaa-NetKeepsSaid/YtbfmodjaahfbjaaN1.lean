/- Walks of layer 27 (net) and of its reference. Printed by net.py. -/
import Derived.Test.YtbfmodjaahfbjaaV21
import Derived.Test.YtbfmodjaahfbjaaProg
namespace Go.Proofs.Ytbfmodjaahfbjaa
open Go.Ev
set_option maxRecDepth 100000
set_option linter.unusedVariables false
set_option linter.unusedSimpArgs false
theorem T_sl29 : slOf Try.prog 29 = some (5, 1) := by kernel_rfl
theorem T_zero5 : zeroOf Try.prog 5 = some (ua .u8 [0]) := by kernel_rfl
theorem T_szb5 : szOf Try.prog 5 = some 1 := by kernel_rfl
theorem clone (a : Option Addr) (m c : Nat) (l : List Nat) (w0 : World) (hm : m ≤ 4294967000) (hs0 : Sl w0 .u8 a m c l) :
    Calls Try.prog 26 #[Value.slice a m c] w0 (fun r_ w' => ∃ a1 c1, r_ = .returned (.slice a1 m c1) ∧ Hp w0 [] w' [.own (.slice a1 m c1) 5 1 m (us .u8 l)]) := by
  refine F_in Try.func26 rfl Try.ntmps26 rfl ?_
  intro e he
  have p_0 : e 0 = Value.slice a m c := he 0 _ rfl
  have H := Hp.start w0 []
  refine W_seq ?_
  refine W_rg ?_
  refine L_as rfl ?_
  refine L_nil ?_
  refine Th_n ?_
  refine W_seq ?_
  refine W_seq ?_
  refine W_rg ?_
  refine L_mv rfl ?_
  refine L_y rfl (Y_eqSn (a := a) Try.underlying29 p_0 rfl) ?_
  refine L_nil ?_
  refine Th_n ?_
  refine W_cond (b := a.isNone) rfl (fun hc => ?_) (fun hc => ?_)
  ·
    refine W_seq ?_
    refine W_rg ?_
    refine L_as rfl ?_
    refine L_nil ?_
    refine Th_n ?_
    refine W_ret ?_
    refine Th_r ?_
    refine P_ret (vs := [Value.slice none 0 0]) (v := Value.slice none 0 0) rfl (.tmp rfl (Res.nil)) rfl ?_
    obtain ⟨rfl, rfl, rfl, rfl⟩ := hs0.isNone (by first | assumption | simp_all)
    exact ⟨_, _, rfl, H.nilOwn 5 1⟩
  ·
    refine W_skip ?_
    refine Th_n ?_
    refine W_seq ?_
    refine W_rg ?_
    refine L_bsl (cs := ua .u8 []) rfl H (pv := []) T_sl29 T_zero5 rfl Bp0 (by kernel_rfl) ?_; intro bk5 w_2 H_2
    have H_3 : Hp w0 [] w_2 [Ent.own (Value.slice (some ⟨bk5, 0, none⟩) 0 0) 5 1 0 (us .u8 [])] := H_2.say (i := 0) (x' := .own (Value.slice (some ⟨bk5, 0, none⟩) 0 0) 5 1 0 (us .u8 [])) rfl (own_of_blk (Nat.le_refl _) (by decide) rfl rfl) (fun _ h => h) rfl
    refine L_mv rfl ?_
    refine L_appL rfl H_3 (i := 0) rfl T_sl29 T_zero5 rfl T_szb5 rfl p_0 (hs0.hp H_3) (by omega) ?_; intro v7 w_3 Hx
    have H_4 : Hp w0 [] w_3 [Ent.own v7 5 1 m (us .u8 l)] := by have h := Hx; simp only [Nat.zero_add] at h; exact h
    refine L_as rfl ?_
    refine L_nil ?_
    refine Th_n ?_
    refine W_ret ?_
    refine P_ret (vs := [v7]) (v := v7) rfl (.tmp rfl (Res.nil)) rfl ?_
    obtain ⟨a1, c1, hv1⟩ := Sl.opn H_4 (i := 0) rfl
    refine ⟨a1, c1, by rw [hv1], ?_⟩; have h := H_4; rw [hv1] at h; simpa using h
end Go.Proofs.Ytbfmodjaahfbjaa
