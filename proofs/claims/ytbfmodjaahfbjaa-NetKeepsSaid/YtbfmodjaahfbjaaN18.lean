/- Walks of layer 27 (net) and of its reference. Printed by net.py. -/
import Derived.Test.YtbfmodjaahfbjaaN17
namespace Go.Proofs.Ytbfmodjaahfbjaa
open Go.Ev
set_option maxRecDepth 100000
set_option linter.unusedVariables false
set_option linter.unusedSimpArgs false
theorem T_en15 : enters Try.prog 15 = true := by kernel_rfl
theorem rtwice_n {w0 w : World} {X : List Ent} {bw : Nat} {v : Value} {K : List Lt} (n : Int) (hK : Nt.ok (keys K))  (H : Hp w0 [] w (Ent.blk bw 47 #[v] :: Ent.own v 31 3 K.length (rows K) :: (nest 5 K ++ X))) :
    Calls Try.prog 18 #[Value.pointer (some ⟨bw, 0, none⟩), Value.int .i64 (n)] w (fun r_ w' => ∃ v' K', r_ = .returned (.int .i64 ((Nt.wcode (keys K) n : Nat) : Int)) ∧ keys K' = Nt.twice (keys K) n ∧ Hp w0 [] w' (Ent.blk bw 47 #[v'] :: Ent.own v' 31 3 K'.length (rows K') :: (nest 5 K' ++ X))) := by
  have hKl := hK.len
  rw [keys_len] at hKl
  obtain ⟨ra, rc, rfl⟩ := Ts.opn H (i := 1) rfl
  refine F_in Try.func18 rfl Try.ntmps18 rfl ?_
  intro e he
  have p_0 : e 0 = Value.pointer (some ⟨bw, 0, none⟩) := he 0 _ rfl
  have p_1 : e 1 = Value.int .i64 (n) := he 1 _ rfl
  refine W_seq ?_
  refine W_rg ?_
  refine L_as rfl ?_
  refine L_nil ?_
  refine Th_n ?_
  refine W_seq ?_
  refine W_seq ?_
  refine W_rg ?_
  refine L_mv rfl ?_
  refine L_y rfl (Y_nil p_0) ?_
  refine L_y rfl (Y_fld T_fld47_0 rfl rfl rfl) ?_
  refine L_y rfl (Y_ld T_scal35 H (i := 0) rfl rfl rfl) ?_
  refine L_y rfl (Y_lenS T_sl35 rfl) ?_
  refine L_y rfl (Y_eql (k := .i64) (a := ((K.length : Nat) : Int)) (b := ((0 : Nat) : Int)) rfl rfl) ?_
  refine L_nil ?_
  refine Th_n ?_
  refine W_cond (b := (((K.length : Nat) : Int) == ((0 : Nat) : Int))) rfl (fun hc => ?_) (fun hc => ?_)
  ·
    have hc' := eq_of_beq hc
    refine W_seq ?_
    refine W_rg ?_
    refine L_as rfl ?_
    refine L_nil ?_
    refine Th_n ?_
    refine W_ret ?_
    refine Th_r ?_
    refine P_ret (vs := [Value.int .i64 ((7 : Nat) : Int)]) (v := Value.int .i64 ((7 : Nat) : Int)) rfl (.tmp rfl (Res.nil)) rfl ?_
    have hkl := keys_len K
    obtain rfl : K = [] := Nt.keys_nil (by omega)
    exact ⟨_, [], rfl, rfl, H⟩
  ·
    have hc' := ne_of_beq_false hc
    have hml := Nat.mod_lt (un n) (show 0 < K.length by omega)
    refine W_skip ?_
    refine Th_n ?_
    refine W_seq ?_
    obtain ⟨el19, hel19⟩ := (Ts.own H (i := 1) rfl).tab.at (j := un n % K.length) (by omega)
    have mel19 := List.mem_of_getElem? hel19
    have oel19 := (hK).lt _ (keys_mem mel19)
    have nel19 : el19.l.length ≤ 60000 := oel19.2
    refine W_quiet H 10 [Value.pointer (some ⟨bw, 0, none⟩), Value.pointer (some ⟨bw, 0, none⟩), Value.pointer (some ⟨bw, 0, none⟩), Value.pointer (some ⟨bw, 0, none⟩), Value.slice ra K.length rc, Value.pointer (some ⟨bw, 0, none⟩), Value.int .i64 (n), Value.int .i64 ((un n % K.length : Nat) : Int), pl ra ((un n % K.length) * 3 + 0), Value.agg #[Value.int .i64 (el19.f), Value.int .i64 (el19.t), Value.slice el19.a el19.l.length el19.c]] T_mixed (by kernel_rfl) ?_ ?_
    ·
      refine .plain rfl (Pl_y rfl (fun w hBw => congrArg (fun v => Result.ok (Next.value v) w) p_0)) ?_
      refine .plain rfl (Pl_y rfl (fun w hBw => congrArg (fun v => Result.ok (Next.value v) w) p_0)) ?_
      refine .plain rfl (Pl_y rfl (fun w hBw => Y_nil rfl)) ?_
      refine .plain rfl (Pl_y rfl (fun w hBw => Y_fld T_fld47_0 rfl rfl rfl)) ?_
      refine .plain rfl (Pl_y rfl (fun w hBw => Y_ld T_scal35 hBw (i := 0) rfl rfl rfl)) ?_
      refine .plain rfl (Pl_y rfl (fun w hBw => congrArg (fun v => Result.ok (Next.value v) w) p_0)) ?_
      refine .plain rfl (Pl_y rfl (fun w hBw => congrArg (fun v => Result.ok (Next.value v) w) p_1)) ?_
      refine .plain rfl (Pl_c rfl T_en25 (A2 rfl rfl) (fun w hBw => rplace_n n (by omega) (by omega) ((hBw.pull 1 rfl).pull 1 rfl))) ?_
      refine .plain rfl (Pl_y rfl (fun w hBw => Y_idxT (j := un n % K.length) T_sl35 (Ts.own hBw (i := 1) rfl).tab hel19 rfl rfl rfl)) ?_
      refine .plain rfl (Pl_y rfl (fun w hBw => Y_ldTs (j := un n % K.length) T_row31 (Ts.own hBw (i := 1) rfl).tab hel19 rfl rfl)) ?_
      exact .nil _
    ·
      intro e_2 w_2 hAg H_2
      have e_2_11 : e_2 11 = Value.pointer (some ⟨bw, 0, none⟩) := (hAg 11 rfl).trans rfl
      have e_2_20 : e_2 20 = Value.agg #[Value.int .i64 (el19.f), Value.int .i64 (el19.t), Value.slice el19.a el19.l.length el19.c] := (hAg 20 rfl).trans rfl
      have Hc : Hp w0 [] w_2 (Ent.blk bw 47 #[Value.slice ra K.length rc] :: Ent.own (Value.slice ra K.length rc) 31 3 K.length (rows K) :: (nest 5 K ++ (X))) := Hp.chunk [Ent.blk bw 47 #[Value.slice ra K.length rc], Ent.own (Value.slice ra K.length rc) 31 3 K.length (rows K)] [] (nest 5 K) X H_2
      refine L_callv rfl rfl T_en15 (A2 e_2_11 e_2_20) (rsend_n (f := el19.f) (t := el19.t) (l := el19.l) hK oel19.1 (Seen.nest mel19 (fun y hy => List.mem_append_left _ hy)) Hc) ?_
      rintro _ w_3 ⟨v21, K21, rfl, f21_0, H_3⟩; refine ⟨_, rfl, ?_⟩
      have H_4 : Hp w0 [] w_3 (Ent.blk bw 47 #[v21] :: Ent.own v21 31 3 K21.length (rows K21) :: (nest 5 K21 ++ X)) := Hp.chunk [Ent.blk bw 47 #[v21], Ent.own v21 31 3 K21.length (rows K21)] (nest 5 K21) [] X H_3
      have kK21 := f21_0
      have okK21 : Nt.ok (keys K21) := by rw [kK21]; exact (hK).send oel19.1
      refine L_as rfl ?_
      refine L_nil ?_
      refine Th_n ?_
      refine W_ret ?_
      refine P_ret (vs := [Value.int .i64 ((Nt.scode (keys K) el19.l.length : Nat) : Int)]) (v := Value.int .i64 ((Nt.scode (keys K) el19.l.length : Nat) : Int)) rfl (.tmp rfl (Res.nil)) rfl ?_
      have hkl := keys_len K
      have hat2 := Nt.at_get (n := n) (by rw [Nt.at_, keys_len]) hel19
      have hne2 : keys K ≠ [] := Nt.keys_ne (by omega)
      refine ⟨v21, K21, by rw [Nt.wcode_at hne2 hat2]; rfl, ?_, H_4⟩
      rw [Nt.twice_at hne2 hat2, kK21]; rfl
end Go.Proofs.Ytbfmodjaahfbjaa
