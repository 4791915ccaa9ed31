/- Walks of layer 27 (net) and of its reference. Printed by net.py. -/
import Derived.Test.YtbfmodjaahfbjaaN3
namespace Go.Proofs.Ytbfmodjaahfbjaa
open Go.Ev
set_option maxRecDepth 100000
set_option linter.unusedVariables false
set_option linter.unusedSimpArgs false
theorem T_fld51_0 : fldOf Try.prog 51 0 = some (0, 1) := by kernel_rfl
theorem T_scal35 : scal Try.prog 35 = true := by kernel_rfl
theorem T_some3 : (Try.prog.underlying 3).isSome = true := by kernel_rfl
theorem T_kind38 : kindOf Try.prog 38 = some .u64 := by kernel_rfl
theorem T_some38 : (Try.prog.underlying 38).isSome = true := by kernel_rfl
theorem T_kind3 : kindOf Try.prog 3 = some .i64 := by kernel_rfl
theorem place0 (n : Int) (w0 : World) :
    Calls Try.prog 22 #[Value.pointer none, Value.int .i64 (n)] w0 (fun r_ w' => r_ = .returned (Value.tuple #[.int .i64 ((0 : Nat) : Int), .int .i64 ((1 : Nat) : Int)]) ∧ Keep w0 w') := by
  refine F_in Try.func22 rfl Try.ntmps22 rfl ?_
  intro e he
  have p_0 : e 0 = Value.pointer none := he 0 _ rfl
  have p_1 : e 1 = Value.int .i64 (n) := he 1 _ rfl
  have H := Hp.start w0 []
  refine W_seq ?_
  refine W_rg ?_
  refine L_as rfl ?_
  refine L_as rfl ?_
  refine L_nil ?_
  refine Th_n ?_
  refine W_seq ?_
  refine W_block ?_
  refine W_seq ?_
  refine W_rg ?_
  refine L_mv rfl ?_
  refine L_y rfl (Y_eqP Try.underlying24 p_0 rfl) ?_
  refine L_as rfl ?_
  refine L_nil ?_
  refine Th_n ?_
  refine W_true rfl ?_
  refine W_seq ?_
  refine W_rg ?_
  refine L_as rfl ?_
  refine L_as rfl ?_
  refine L_nil ?_
  refine Th_n ?_
  refine W_ret ?_
  refine InB_r ?_
  refine Th_r ?_
  refine P_ret (vs := [Value.int .i64 ((0 : Nat) : Int), Value.int .i64 ((1 : Nat) : Int)]) (v := Value.tuple #[Value.int .i64 ((0 : Nat) : Int), Value.int .i64 ((1 : Nat) : Int)]) rfl (.tmp rfl (.tmp rfl (Res.nil))) rfl ?_
  refine ⟨?_, H.nil_⟩
  rfl

theorem place_n {w0 w : World} {X : List Ent} {bw : Nat} {v : Value} {K : List Lt} (n : Int) (hK : Nt.ok (keys K))  (H : Hp w0 [] w (Ent.blk bw 51 #[v] :: Ent.own v 31 3 K.length (rows K) :: (nest 5 K ++ X))) :
    Calls Try.prog 22 #[Value.pointer (some ⟨bw, 0, none⟩), Value.int .i64 (n)] w (fun r_ w' => ∃ i v', r_ = .returned (.tuple #[.int .i64 ((i : Nat) : Int), .int .i64 ((Nt.tcode (keys K) : Nat) : Int)]) ∧ (K ≠ [] → i = Nt.at_ (keys K) n) ∧ Hp w0 [] w' (Ent.blk bw 51 #[v'] :: Ent.own v' 31 3 K.length (rows K) :: (nest 5 K ++ X))) := by
  have hKl := hK.len
  rw [keys_len] at hKl
  refine F_in Try.func22 rfl Try.ntmps22 rfl ?_
  intro e he
  have p_0 : e 0 = Value.pointer (some ⟨bw, 0, none⟩) := he 0 _ rfl
  have p_1 : e 1 = Value.int .i64 (n) := he 1 _ rfl
  refine W_seq ?_
  refine W_rg ?_
  refine L_as rfl ?_
  refine L_as rfl ?_
  refine L_nil ?_
  refine Th_n ?_
  refine W_seq ?_
  refine W_block ?_
  refine W_seq ?_
  refine W_rg ?_
  refine L_mv rfl ?_
  refine L_y rfl (Y_eqP Try.underlying24 p_0 rfl) ?_
  refine L_as rfl ?_
  refine L_nil ?_
  refine Th_n ?_
  refine W_false rfl ?_
  refine W_seq ?_
  refine W_rg ?_
  refine L_mv rfl ?_
  refine L_y rfl (Y_nil p_0) ?_
  refine L_y rfl (Y_fld T_fld51_0 rfl rfl rfl) ?_
  refine L_y rfl (Y_ld T_scal35 H (i := 0) rfl rfl rfl) ?_
  refine L_y rfl (Y_lenO T_sl35 H (i := 1) rfl rfl) ?_
  refine L_y rfl (Y_eql (k := .i64) (a := ((K.length : Nat) : Int)) (b := ((0 : Nat) : Int)) rfl rfl) ?_
  refine L_as rfl ?_
  refine L_nil ?_
  refine Th_n ?_
  refine W_cond (b := (((K.length : Nat) : Int) == ((0 : Nat) : Int))) rfl (fun hc => ?_) (fun hc => ?_)
  ·
    have hc' := eq_of_beq hc
    refine W_seq ?_
    refine W_rg ?_
    refine L_as rfl ?_
    refine L_as rfl ?_
    refine L_nil ?_
    refine Th_n ?_
    refine W_ret ?_
    refine InB_r ?_
    refine Th_r ?_
    refine P_ret (vs := [Value.int .i64 ((0 : Nat) : Int), Value.int .i64 ((7 : Nat) : Int)]) (v := Value.tuple #[Value.int .i64 ((0 : Nat) : Int), Value.int .i64 ((7 : Nat) : Int)]) rfl (.tmp rfl (.tmp rfl (Res.nil))) rfl ?_
    have hi : K ≠ [] → 0 = Nt.at_ (keys K) n := by first | (intro h; exact absurd (Nt.keys_nil (by omega)) h) | (intro h; rw [Nt.at_, keys_len]; done) | (intro h; simp only [Nt.at_, keys_len, *])
    have hc : Nt.tcode (keys K) = 7 := by first | (rw [Nt.keys_nil (K := K) (by omega)]; rfl) | exact if_neg (Nt.keys_ne (by omega))
    refine ⟨0, v, by rw [hc], hi, ?_⟩; exact H
  ·
    have hc' := ne_of_beq_false hc
    refine W_skip ?_
    refine InB_n ?_
    refine Th_n ?_
    refine W_seq ?_
    refine W_rg ?_
    refine L_mv rfl ?_
    refine L_y rfl (Y_convI (k := .i64) (n := n) (z := ((un n : Nat) : Int)) T_some3 T_kind38 p_1 (un_wrap _)) ?_
    refine L_mv rfl ?_
    refine L_y rfl (Y_nil p_0) ?_
    refine L_y rfl (Y_fld T_fld51_0 rfl rfl rfl) ?_
    refine L_y rfl (Y_ld T_scal35 H (i := 0) rfl rfl rfl) ?_
    refine L_y rfl (Y_lenO T_sl35 H (i := 1) rfl rfl) ?_
    refine L_y rfl (Y_convI (k := .i64) (n := ((K.length : Nat) : Int)) (z := ((K.length : Nat) : Int)) T_some3 T_kind38 rfl (wrapS rfl (by first | decide | (show _ < 18446744073709551616; omega)))) ?_
    refine L_yr (z := (un n) % K.length) (m := 18446744073709551616) rfl (Yu_rem (k := .u64) (un n) K.length rfl rfl (by omega)) (Nat.lt_of_le_of_lt (Nat.mod_le _ _) (un_lt _)) ?_; intro x24 hx24 rx24
    have sx24 : x24 < K.length := by rw [hx24]; exact Nat.mod_lt _ (by omega)
    refine L_y rfl (Y_convI (k := .u64) (n := ((x24 : Nat) : Int)) (z := ((x24 : Nat) : Int)) T_some38 T_kind3 rfl (wi (by exact ⟨rfl, by omega, by have := rx24; omega⟩))) ?_
    refine L_as rfl ?_
    refine L_as rfl ?_
    refine L_nil ?_
    refine Th_n ?_
    refine W_ret ?_
    refine P_ret (vs := [Value.int .i64 ((x24 : Nat) : Int), Value.int .i64 ((0 : Nat) : Int)]) (v := Value.tuple #[Value.int .i64 ((x24 : Nat) : Int), Value.int .i64 ((0 : Nat) : Int)]) rfl (.tmp rfl (.tmp rfl (Res.nil))) rfl ?_
    have hi : K ≠ [] → x24 = Nt.at_ (keys K) n := by first | (intro h; exact absurd (Nt.keys_nil (by omega)) h) | (intro h; rw [Nt.at_, keys_len]; done) | (intro h; simp only [Nt.at_, keys_len, *])
    have hc : Nt.tcode (keys K) = 0 := by first | (rw [Nt.keys_nil (K := K) (by omega)]; rfl) | exact if_neg (Nt.keys_ne (by omega))
    refine ⟨x24, v, by rw [hc], hi, ?_⟩; exact H
end Go.Proofs.Ytbfmodjaahfbjaa
