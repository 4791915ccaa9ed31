/- Walks of layers 6 and 7 (sums, macs) and of their references. Printed by mac.py. -/
import Derived.Test.YtdifogdaiimmoaaM4
namespace Go.Proofs.Ytdifogdaiimmoaa
open Go.Ev
set_option maxRecDepth 100000
theorem T_en9 : enters Try.prog 9 = true := by kernel_rfl
theorem T_en14 : enters Try.prog 14 = true := by kernel_rfl
theorem hmac256_wd (k t : List Nat) : Wd 32 256 (Sm.hmac Sm.k256 k t) := ⟨Sm.hmac_len _ _ _, Sm.hmac_lt _ _ _⟩

theorem hmac512_wd (k t : List Nat) : Wd 64 256 (Sm.hmac Sm.k512 k t) := ⟨Sm.hmac_len _ _ _, Sm.hmac_lt _ _ _⟩

theorem extract_n (a0 : Option Addr) (n0 c0 : Nat) (l0 : List Nat) (a1 : Option Addr) (n1 c1 : Nat) (l1 : List Nat) (hl0 : ∀ u ∈ l0, u < 256) (hl1 : ∀ u ∈ l1, u < 256) (hn0 : n0 ≤ 16000000) (hn1 : n1 ≤ 16000000) (w0 : World) (hb0 : Sl w0 .u8 a0 n0 c0 l0) (hb1 : Sl w0 .u8 a1 n1 c1 l1) :
    Calls Try.prog 12 #[Value.slice a0 n0 c0, Value.slice a1 n1 c1] w0 (fun r_ w' => r_ = .returned (.agg (ua .u8 (Sm.hmac Sm.k256 l0 l1))) ∧ Keep w0 w') := by
  refine F_in Try.func12 rfl Try.ntmps12 rfl ?_
  intro e he
  have p_0 : e 0 = Value.slice a0 n0 c0 := he 0 _ rfl
  have p_1 : e 1 = Value.slice a1 n1 c1 := he 1 _ rfl
  have H := Hp.start w0 []
  refine W_seq ?_
  refine W_rg ?_
  refine L_alloc rfl H T_zero24 ?_; intro bk4 w_2 H_2
  refine L_nil ?_
  refine Th_n ?_
  refine W_seq ?_
  refine W_rg ?_
  refine L_mv rfl ?_
  refine L_mv rfl ?_
  refine L_callv rfl rfl T_en9 (A2 p_0 p_1) (hmac256_n _ _ _ l0 _ _ _ l1 hl0 hl1 (by omega) (by omega) _ (hb0.hp H_2) (hb1.hp H_2)) ?_
  rintro _ w_3 ⟨rfl, hkp⟩; refine ⟨_, rfl, ?_⟩; have H_3 := H_2.keep hkp
  refine L_str (ds := ua .u8 (Sm.hmac Sm.k256 l0 l1)) T_row24 H_3 (i := 0) rfl rfl rfl rfl (by rw [ua_size]; exact (hmac256_wd l0 l1).1) (ua_one _ _) (l' := [Ent.blk bk4 24 (ua .u8 (Sm.hmac Sm.k256 l0 l1))]) rfl ?_; intro w_4 H_4
  refine L_nil ?_
  refine Th_n ?_
  refine W_ret ?_
  refine P_ret (vs := [Value.agg (ua .u8 (Sm.hmac Sm.k256 l0 l1))]) (v := Value.agg (ua .u8 (Sm.hmac Sm.k256 l0 l1))) rfl (.cell rfl (loadVar_row T_row24 H_4 (i := 0) rfl (by rw [ua_size]; exact (hmac256_wd l0 l1).1)) (Res.nil)) rfl ?_
  refine ⟨?_, H_4.nil_⟩
  rfl

theorem rextract_n (a0 : Option Addr) (n0 c0 : Nat) (l0 : List Nat) (a1 : Option Addr) (n1 c1 : Nat) (l1 : List Nat) (hl0 : ∀ u ∈ l0, u < 256) (hl1 : ∀ u ∈ l1, u < 256) (hn0 : n0 ≤ 16000000) (hn1 : n1 ≤ 16000000) (w0 : World) (hb0 : Sl w0 .u8 a0 n0 c0 l0) (hb1 : Sl w0 .u8 a1 n1 c1 l1) :
    Calls Try.prog 16 #[Value.slice a0 n0 c0, Value.slice a1 n1 c1] w0 (fun r_ w' => r_ = .returned (.agg (ua .u8 (Sm.hmac Sm.k256 l0 l1))) ∧ Keep w0 w') := by
  refine F_in Try.func16 rfl Try.ntmps16 rfl ?_
  intro e he
  have p_0 : e 0 = Value.slice a0 n0 c0 := he 0 _ rfl
  have p_1 : e 1 = Value.slice a1 n1 c1 := he 1 _ rfl
  have H := Hp.start w0 []
  refine W_seq ?_
  refine W_rg ?_
  refine L_alloc rfl H T_zero24 ?_; intro bk4 w_2 H_2
  refine L_nil ?_
  refine Th_n ?_
  refine W_seq ?_
  refine W_rg ?_
  refine L_mv rfl ?_
  refine L_mv rfl ?_
  refine L_callv rfl rfl T_en14 (A2 p_0 p_1) (rhmac256_n _ _ _ l0 _ _ _ l1 hl0 hl1 (by omega) (by omega) _ (hb0.hp H_2) (hb1.hp H_2)) ?_
  rintro _ w_3 ⟨rfl, hkp⟩; refine ⟨_, rfl, ?_⟩; have H_3 := H_2.keep hkp
  refine L_str (ds := ua .u8 (Sm.hmac Sm.k256 l0 l1)) T_row24 H_3 (i := 0) rfl rfl rfl rfl (by rw [ua_size]; exact (hmac256_wd l0 l1).1) (ua_one _ _) (l' := [Ent.blk bk4 24 (ua .u8 (Sm.hmac Sm.k256 l0 l1))]) rfl ?_; intro w_4 H_4
  refine L_nil ?_
  refine Th_n ?_
  refine W_ret ?_
  refine P_ret (vs := [Value.agg (ua .u8 (Sm.hmac Sm.k256 l0 l1))]) (v := Value.agg (ua .u8 (Sm.hmac Sm.k256 l0 l1))) rfl (.cell rfl (loadVar_row T_row24 H_4 (i := 0) rfl (by rw [ua_size]; exact (hmac256_wd l0 l1).1)) (Res.nil)) rfl ?_
  refine ⟨?_, H_4.nil_⟩
  rfl

theorem lent_rest {w : World} {a : Option Addr} {m c : Nat} {l : List Nat} (h : Sl w .u8 a (m + 1) c (l ++ [77])) : l.length = m := by have := h.len; rw [List.length_append] at this; simpa using this

theorem kept_n (la : Option Addr) (lc : Nat) (a1 : Option Addr) (n1 c1 : Nat) (l1 : List Nat) (hl1 : ∀ u ∈ l1, u < 256) (hn1 : n1 ≤ 16000000) (w0 : World) (hO : Sl w0 .u8 la (n1 + 1) lc (l1 ++ [77])) (hb1 : Sl w0 .u8 a1 n1 c1 l1) :
    Calls Try.prog 13 #[Value.slice la n1 lc, Value.slice a1 n1 c1] w0 (fun r_ w' => r_ = .returned (.bool true) ∧ Keep w0 w') := by
  refine F_in Try.func13 rfl Try.ntmps13 rfl ?_
  intro e he
  have p_0 : e 0 = Value.slice la n1 lc := he 0 _ rfl
  have p_1 : e 1 = Value.slice a1 n1 c1 := he 1 _ rfl
  have H := Hp.start w0 []
  refine W_seq ?_
  refine W_rg ?_
  refine L_as rfl ?_
  refine L_nil ?_
  refine Th_n ?_
  refine W_seq ?_
  refine W_rg ?_
  refine L_mv rfl ?_
  refine L_y rfl (Y_strL Try.underlying22 Try.underlying5 Try.underlying9 p_0 ((hO.hp H).pre hb1.len (Nat.le_succ _))) ?_
  refine L_mv rfl ?_
  refine L_y rfl (Y_strL Try.underlying22 Try.underlying5 Try.underlying9 p_1 (hb1.hp H)) ?_
  refine L_y rfl (Y_eqT (l1 := l1) (l2 := l1) Try.underlying9 hl1 hl1 rfl rfl) ?_
  refine L_mv rfl ?_
  refine G_mv (wE rfl (congrArg Value.bool (decide_eq_true rfl))) rfl ?_
  refine G_mv (wE rfl (congrArg Value.bool (decide_eq_true rfl))) rfl ?_
  refine G_y (wE rfl (congrArg Value.bool (decide_eq_true rfl))) rfl (Y_lenS T_sl22 p_1) ?_
  refine G_y (wE rfl (congrArg Value.bool (decide_eq_true rfl))) rfl (Y_add (k := .i64) (a := ((n1 : Nat) : Int)) (b := ((1 : Nat) : Int)) (z := ((n1 + 1 : Nat) : Int)) rfl rfl (wi (by omega))) ?_
  refine G_y (wE rfl (congrArg Value.bool (decide_eq_true rfl))) rfl (Y_cutHr (hi := n1 + 1) T_sl22 ((hO.hp H).pre hb1.len (Nat.le_succ _)) p_0 rfl ((hO.hp H)).cap) ?_
  refine G_mv (wE rfl (congrArg Value.bool (decide_eq_true rfl))) rfl ?_
  refine G_y (wE rfl (congrArg Value.bool (decide_eq_true rfl))) rfl (Y_lenS T_sl22 p_1) ?_
  refine G_y (wE rfl (congrArg Value.bool (decide_eq_true rfl))) rfl (Y_idxL (j := n1) T_sl22 (hO.hp H) rfl rfl rfl (by omega)) ?_
  obtain ⟨x19, hx19⟩ : ∃ u, (l1 ++ [77])[n1]? = some u := ⟨_, List.getElem?_eq_getElem (by have := (⟨(hO.hp H).len, (app_lt hl1 (by decide))⟩ : Wd (n1 + 1) 256 (l1 ++ [77])).1; omega)⟩
  have rx19 := (⟨(hO.hp H).len, (app_lt hl1 (by decide))⟩ : Wd (n1 + 1) 256 (l1 ++ [77])).2 _ (List.mem_of_getElem? hx19)
  refine G_y (wE rfl (congrArg Value.bool (decide_eq_true rfl))) rfl (Y_ldR T_scal5 (hO.hp H).rd rfl (hx19)) ?_
  refine G_y (wE rfl (congrArg Value.bool (decide_eq_true rfl))) rfl (Y_eql (k := .u8) (a := ((x19 : Nat) : Int)) (b := ((77 : Nat) : Int)) rfl rfl) ?_
  refine L_y rfl (Y_pickT (congrArg Value.bool (decide_eq_true rfl))) ?_
  refine L_as rfl ?_
  refine L_nil ?_
  refine Th_n ?_
  refine W_ret ?_
  refine P_ret (vs := [Value.bool (((x19 : Nat) : Int) == ((77 : Nat) : Int))]) (v := Value.bool (((x19 : Nat) : Int) == ((77 : Nat) : Int))) rfl (.tmp rfl (Res.nil)) rfl ?_
  refine ⟨?_, H.nil_⟩
  rw [Sm.last77 hb1.len hx19]
end Go.Proofs.Ytdifogdaiimmoaa
