/- Walks of layers 1 and 3 and of their references. Printed by edwards.py. -/
import Derived.Test.YtbjpaggkmlgnoaaG22
namespace Go.Proofs.Ytbjpaggkmlgnoaa
open Go.Ev
set_option maxRecDepth 100000
theorem T_en12 : enters Try.prog 12 = true := by kernel_rfl
theorem T_some66 : (Try.prog.underlying 66).isSome = true := by kernel_rfl
theorem T_kind22 : kindOf Try.prog 22 = some .u64 := by kernel_rfl
theorem T_en31 : enters Try.prog 31 = true := by kernel_rfl
theorem T_en29 : enters Try.prog 29 = true := by kernel_rfl
theorem scales_n (m n : Nat) (A : Lm.Sd) (hm : m < 4294967296) (hn : n < 4294967296) (hA : A.y < 115792089237316195423570985008687907853269984665640564039457584007913129639936) (w0 : World) :
    Calls Try.prog 8 #[Value.int .u32 ((m : Nat) : Int), Value.int .u32 ((n : Nat) : Int), Value.agg (sd A.y A.odd)] w0 (fun r_ w' => r_ = .returned (.bool true) ∧ Keep w0 w') := by
  refine F_in Try.func8 rfl Try.ntmps8 rfl ?_
  intro e he
  have p_0 : e 0 = Value.int .u32 ((m : Nat) : Int) := he 0 _ rfl
  have p_1 : e 1 = Value.int .u32 ((n : Nat) : Int) := he 1 _ rfl
  have p_2 : e 2 = Value.agg (sd A.y A.odd) := he 2 _ rfl
  have H := Hp.start w0 []
  refine W_seq ?_
  refine W_rg ?_
  refine L_box rfl H p_2 (cs := sd A.y A.odd) rfl ?_; intro bk5 w_2 H_2
  refine L_as rfl ?_
  refine L_nil ?_
  refine Th_n ?_
  refine W_seq ?_
  refine W_rg ?_
  refine L_y rfl (Y_fld T_fld42_0 rfl rfl rfl) ?_
  refine L_y rfl (Y_sdy T_row24 H_2 (i := 0) rfl rfl) ?_
  refine L_y rfl (Y_fld T_fld42_1 rfl rfl rfl) ?_
  refine L_y rfl (Y_ld T_scal4 H_2 (i := 0) rfl rfl rfl) ?_
  refine L_callv rfl rfl T_en9 (A2 rfl rfl) ((at4_n A.y A.odd hA _).mono (fun r_ w' h => (⟨Lm.at4 A.y A.odd, Lm.at4b A.y A.odd, rfl, rfl, h⟩ : ∃ (P19 : Lm.P4) (q19 : Bool), P19 = Lm.at4 A.y A.odd ∧ q19 = Lm.at4b A.y A.odd ∧ r_ = .returned (Value.tuple #[Value.agg (ua .u64 (Lm.l4 P19)), Value.bool q19]) ∧ Keep w_2 w'))) ?_
  rintro _ w_3 ⟨P19, q19, hP19, hq19, rfl, hkp⟩; refine ⟨_, rfl, ?_⟩; have H_3 := H_2.keep hkp
  have okP19 : P19.ok := by rw [hP19]; exact Lm.at4_ok _ _
  refine L_mv rfl ?_
  refine L_y rfl (Y_ext rfl rfl) ?_
  refine L_y rfl (Y_ext rfl rfl) ?_
  refine L_alloc rfl H_3 T_zero26 ?_; intro bk7 w_4 H_4
  refine L_str (ds := ua .u64 (Lm.l4 P19)) T_row26 H_4 (i := 0) rfl rfl rfl (by rw [ua_size]; exact (Lm.l4_wd ⟨0, 0, 0, 0⟩).1) (by rw [ua_size]; exact (Lm.l4_wd P19).1) (ua_one _ _) (l' := [.blk bk7 26 (ua .u64 (Lm.l4 P19)), .blk bk5 42 (sd A.y A.odd)]) rfl ?_; intro w_5 H_5
  refine L_as rfl ?_
  refine L_nil ?_
  refine Th_n ?_
  refine W_seq ?_
  refine W_seq ?_
  refine W_rg ?_
  refine L_mv rfl ?_
  refine L_y rfl (Y_not (b := q19) rfl) ?_
  refine L_nil ?_
  refine Th_n ?_
  refine W_cond (b := (!q19)) rfl (fun hc => ?_) (fun hc => ?_)
  ·
    refine W_seq ?_
    refine W_rg ?_
    refine L_callv rfl rfl T_en12 (A0) (known_n _) ?_
    rintro _ w_6 ⟨rfl, hkp_2⟩; refine ⟨_, rfl, ?_⟩; have H_6 := H_5.keep hkp_2
    refine L_as rfl ?_
    refine L_nil ?_
    refine Th_n ?_
    refine W_ret ?_
    refine Th_r ?_
    refine P_ret (vs := [Value.bool true]) (v := Value.bool true) rfl (.tmp rfl (Res.nil)) rfl ?_
    refine ⟨?_, H_6.nil_⟩
    rfl
  ·
    refine W_skip ?_
    refine Th_n ?_
    refine W_seq ?_
    refine W_rg ?_
    refine L_as rfl ?_
    refine L_nil ?_
    refine Th_n ?_
    refine W_seq ?_
    refine W_anyL 14 [12, 13] [10, 11] [Value.func (.func 31) #[] #[], Value.int .u32 ((m : Nat) : Int), Value.int .u64 ((m : Nat) : Int), Value.agg (ua .u8 (Lm.b32 m)), Value.agg (ua .u64 (Lm.l4 P19)), Value.agg (ua .u64 (Lm.l4 (Lm.tms4 m P19 64))), Value.func (.func 31) #[] #[], Value.int .u32 ((n : Nat) : Int), Value.int .u64 ((n : Nat) : Int), Value.agg (ua .u8 (Lm.b32 n)), Value.agg (ua .u64 (Lm.l4 P19)), Value.agg (ua .u64 (Lm.l4 (Lm.tms4 n P19 64))), undef, undef] (fun w => w.heap[bk7]? = some (.cells (ua .u64 (Lm.l4 P19)) 26 (0, 0)) ∧ w.heap[bk5]? = some (.cells (sd A.y A.odd) 42 (0, 0))) [fun vs w => Hp w0 [] w [.blk bk7 26 (ua .u64 (Lm.l4 P19)), .blk bk5 42 (sd A.y A.odd)], fun vs w => ∃ bk10_, vs[0]? = some (Value.pointer (some ⟨bk10_, 0, none⟩)) ∧ Hp w0 [] w [Ent.blk bk10_ 26 (ua .u64 (Lm.l4 ⟨0, 0, 0, 0⟩)), .blk bk7 26 (ua .u64 (Lm.l4 P19)), .blk bk5 42 (sd A.y A.odd)], fun vs w => ∃ bk11_, vs[1]? = some (Value.pointer (some ⟨bk11_, 0, none⟩)) ∧ Hp w0 [] w [Ent.blk bk11_ 26 (ua .u64 (Lm.l4 ⟨0, 0, 0, 0⟩)), .blk bk7 26 (ua .u64 (Lm.l4 P19)), .blk bk5 42 (sd A.y A.odd)], fun vs w => ∃ bk10_, ∃ bk11_, vs[0]? = some (Value.pointer (some ⟨bk10_, 0, none⟩)) ∧ vs[1]? = some (Value.pointer (some ⟨bk11_, 0, none⟩)) ∧ Hp w0 [] w [Ent.blk bk10_ 26 (ua .u64 (Lm.l4 ⟨0, 0, 0, 0⟩)), Ent.blk bk11_ 26 (ua .u64 (Lm.l4 ⟨0, 0, 0, 0⟩)), .blk bk7 26 (ua .u64 (Lm.l4 P19)), .blk bk5 42 (sd A.y A.odd)]] T_mixed (by kernel_rfl) ⟨fun _ _ H => ⟨H.get 0 rfl, H.get 1 rfl⟩, fun _ _ h => by obtain ⟨_, _, H⟩ := h; exact ⟨H.get 1 rfl, H.get 2 rfl⟩, fun _ _ h => by obtain ⟨_, _, H⟩ := h; exact ⟨H.get 1 rfl, H.get 2 rfl⟩, fun _ _ h => by obtain ⟨_, _, _, _, H⟩ := h; exact ⟨H.get 2 rfl, H.get 3 rfl⟩, trivial⟩ ⟨fun _ _ _ hkp H => H.keep hkp, fun _ _ _ hkp h => by obtain ⟨q0, q1, H⟩ := h; exact ⟨q0, q1, H.keep hkp⟩, fun _ _ _ hkp h => by obtain ⟨q0, q1, H⟩ := h; exact ⟨q0, q1, H.keep hkp⟩, fun _ _ _ hkp h => by obtain ⟨q0, q1, q2, q3, H⟩ := h; exact ⟨q0, q1, q2, q3, H.keep hkp⟩, trivial⟩ H_5 ?_ ?_
    ·
      refine .plain rfl (Pl_y rfl (fun w hBw => rfl)) ?_
      refine .plain rfl (Pl_y rfl (fun w hBw => congrArg (fun v => Result.ok (Next.value v) w) p_0)) ?_
      refine .plain rfl (Pl_y rfl (fun w hBw => Y_convI (k := .u32) (n := ((m : Nat) : Int)) (z := ((m : Nat) : Int)) T_some66 T_kind22 rfl (wrapS rfl (by exact Nat.lt_of_lt_of_le hm (by decide))))) ?_
      refine .plain rfl (Pl_cx rfl rfl T_en31 (A1 rfl) (fun w hBw => of_n m (Nat.lt_trans hm (by decide)) _)) ?_
      refine .plain rfl (Pl_y rfl (fun w hBw => Y_ldrb T_row26 hBw.1 rfl (by rw [ua_size]; exact (Lm.l4_wd P19).1))) ?_
      refine .plain rfl (Pl_c rfl T_en29 (A2 rfl rfl) (fun w hBw => tms4_n m P19 okP19 _)) ?_
      refine .plain rfl (Pl_y rfl (fun w hBw => rfl)) ?_
      refine .plain rfl (Pl_y rfl (fun w hBw => congrArg (fun v => Result.ok (Next.value v) w) p_1)) ?_
      refine .plain rfl (Pl_y rfl (fun w hBw => Y_convI (k := .u32) (n := ((n : Nat) : Int)) (z := ((n : Nat) : Int)) T_some66 T_kind22 rfl (wrapS rfl (by exact Nat.lt_of_lt_of_le hn (by decide))))) ?_
      refine .plain rfl (Pl_cx rfl rfl T_en31 (A1 rfl) (fun w hBw => of_n n (Nat.lt_trans hn (by decide)) _)) ?_
      refine .plain rfl (Pl_y rfl (fun w hBw => Y_ldrb T_row26 hBw.1 rfl (by rw [ua_size]; exact (Lm.l4_wd P19).1))) ?_
      refine .plain rfl (Pl_c rfl T_en29 (A2 rfl rfl) (fun w hBw => tms4_n n P19 okP19 _)) ?_
      refine .special 0 rfl (Special.of ⟨⟨⟨⟨trivial, fun _ _ _ e' w' hAg hYs => by
          have H : Hp w0 [] w' [.blk bk7 26 (ua .u64 (Lm.l4 P19)), .blk bk5 42 (sd A.y A.odd)] := hYs
          exact ⟨rfl, Dn_alloc H T_zero26 (fun b w2 Hn => ⟨_, rfl, Hn⟩)⟩⟩, fun h => absurd h (by decide)⟩, fun _ _ _ e' w' hAg hYs => by
          obtain ⟨bk11_, q1, H⟩ := hYs
          exact ⟨rfl, Dn_alloc H T_zero26 (fun b w2 Hn => ⟨_, bk11_, rfl, q1, Hn⟩)⟩⟩, fun h => absurd h (by decide)⟩) ?_
      refine .special 1 rfl (Special.of ⟨⟨⟨⟨trivial, fun _ _ _ e' w' hAg hYs => by
          have H : Hp w0 [] w' [.blk bk7 26 (ua .u64 (Lm.l4 P19)), .blk bk5 42 (sd A.y A.odd)] := hYs
          exact ⟨rfl, Dn_alloc H T_zero26 (fun b w2 Hn => ⟨_, rfl, Hn⟩)⟩⟩, fun _ _ _ e' w' hAg hYs => by
          obtain ⟨bk10_, q0, H⟩ := hYs
          exact ⟨rfl, Dn_alloc H T_zero26 (fun b w2 Hn => ⟨bk10_, _, q0, rfl, Hn.swap⟩)⟩⟩, fun h => absurd h (by decide)⟩, fun h => absurd h (by decide)⟩) ?_
      exact .nil _
    ·
      intro e_2 w_7 hAg hYs
      obtain ⟨bk10_, bk11_, q0, q1, H_7⟩ := hYs
      have e_2_10 : e_2 10 = Value.pointer (some ⟨bk10_, 0, none⟩) := Option.some.inj q0
      have e_2_11 : e_2 11 = Value.pointer (some ⟨bk11_, 0, none⟩) := Option.some.inj q1
      have e_2_0 : e_2 0 = Value.int .u32 ((m : Nat) : Int) := (hAg 0 rfl).trans p_0
      have e_2_1 : e_2 1 = Value.int .u32 ((n : Nat) : Int) := (hAg 1 rfl).trans p_1
      have e_2_7 : e_2 7 = Value.pointer (some ⟨bk7, 0, none⟩) := (hAg 7 rfl).trans rfl
      have e_2_9 : e_2 9 = Value.func (.func 31) #[] #[] := (hAg 9 rfl).trans rfl
      have e_2_30 : e_2 30 = Value.agg (ua .u64 (Lm.l4 (Lm.tms4 m P19 64))) := (hAg 30 rfl).trans rfl
      have e_2_36 : e_2 36 = Value.agg (ua .u64 (Lm.l4 (Lm.tms4 n P19 64))) := (hAg 36 rfl).trans rfl
      refine L_str (ds := ua .u64 (Lm.l4 (Lm.tms4 m P19 64))) T_row26 H_7 (i := 0) rfl e_2_10 e_2_30 (by rw [ua_size]; exact (Lm.l4_wd ⟨0, 0, 0, 0⟩).1) (by rw [ua_size]; exact (Lm.l4_wd (Lm.tms4 m P19 64)).1) (ua_one _ _) (l' := [.blk bk10_ 26 (ua .u64 (Lm.l4 (Lm.tms4 m P19 64))), .blk bk11_ 26 (ua .u64 (Lm.l4 ⟨0, 0, 0, 0⟩)), .blk bk7 26 (ua .u64 (Lm.l4 P19)), .blk bk5 42 (sd A.y A.odd)]) rfl ?_; intro w_8 H_8
      refine L_str (ds := ua .u64 (Lm.l4 (Lm.tms4 n P19 64))) T_row26 H_8 (i := 1) rfl e_2_11 e_2_36 (by rw [ua_size]; exact (Lm.l4_wd ⟨0, 0, 0, 0⟩).1) (by rw [ua_size]; exact (Lm.l4_wd (Lm.tms4 n P19 64)).1) (ua_one _ _) (l' := [.blk bk10_ 26 (ua .u64 (Lm.l4 (Lm.tms4 m P19 64))), .blk bk11_ 26 (ua .u64 (Lm.l4 (Lm.tms4 n P19 64))), .blk bk7 26 (ua .u64 (Lm.l4 P19)), .blk bk5 42 (sd A.y A.odd)]) rfl ?_; intro w_9 H_9
      refine L_nil ?_
      refine Th_n ?_
      refine W_seq ?_
      refine W_anyL 10 [9] [12] [Value.func (.func 31) #[] #[], Value.int .u32 ((m : Nat) : Int), Value.int .u64 ((m : Nat) : Int), Value.int .u32 ((n : Nat) : Int), Value.int .u64 ((n : Nat) : Int), Value.int .u64 (((m + n) % 18446744073709551616 : Nat) : Int), Value.agg (ua .u8 (Lm.b32 ((m + n) % 18446744073709551616))), Value.agg (ua .u64 (Lm.l4 P19)), Value.agg (ua .u64 (Lm.l4 (Lm.tms4 ((m + n) % 18446744073709551616) P19 64))), undef] (fun w => w.heap[bk10_]? = some (.cells (ua .u64 (Lm.l4 (Lm.tms4 m P19 64))) 26 (0, 0)) ∧ w.heap[bk11_]? = some (.cells (ua .u64 (Lm.l4 (Lm.tms4 n P19 64))) 26 (0, 0)) ∧ w.heap[bk7]? = some (.cells (ua .u64 (Lm.l4 P19)) 26 (0, 0)) ∧ w.heap[bk5]? = some (.cells (sd A.y A.odd) 42 (0, 0))) [fun vs w => Hp w0 [] w [.blk bk10_ 26 (ua .u64 (Lm.l4 (Lm.tms4 m P19 64))), .blk bk11_ 26 (ua .u64 (Lm.l4 (Lm.tms4 n P19 64))), .blk bk7 26 (ua .u64 (Lm.l4 P19)), .blk bk5 42 (sd A.y A.odd)], fun vs w => ∃ bk12_, vs[0]? = some (Value.pointer (some ⟨bk12_, 0, none⟩)) ∧ Hp w0 [] w [Ent.blk bk12_ 26 (ua .u64 (Lm.l4 ⟨0, 0, 0, 0⟩)), .blk bk10_ 26 (ua .u64 (Lm.l4 (Lm.tms4 m P19 64))), .blk bk11_ 26 (ua .u64 (Lm.l4 (Lm.tms4 n P19 64))), .blk bk7 26 (ua .u64 (Lm.l4 P19)), .blk bk5 42 (sd A.y A.odd)]] T_mixed (by kernel_rfl) ⟨fun _ _ H => ⟨H.get 0 rfl, H.get 1 rfl, H.get 2 rfl, H.get 3 rfl⟩, fun _ _ h => by obtain ⟨_, _, H⟩ := h; exact ⟨H.get 1 rfl, H.get 2 rfl, H.get 3 rfl, H.get 4 rfl⟩, trivial⟩ ⟨fun _ _ _ hkp H => H.keep hkp, fun _ _ _ hkp h => by obtain ⟨q0, q1, H⟩ := h; exact ⟨q0, q1, H.keep hkp⟩, trivial⟩ H_9 ?_ ?_
      ·
        refine .plain rfl (Pl_y rfl (fun w hBw => congrArg (fun v => Result.ok (Next.value v) w) e_2_9)) ?_
        refine .plain rfl (Pl_y rfl (fun w hBw => congrArg (fun v => Result.ok (Next.value v) w) e_2_0)) ?_
        refine .plain rfl (Pl_y rfl (fun w hBw => Y_convI (k := .u32) (n := ((m : Nat) : Int)) (z := ((m : Nat) : Int)) T_some66 T_kind22 rfl (wrapS rfl (by exact Nat.lt_of_lt_of_le hm (by decide))))) ?_
        refine .plain rfl (Pl_y rfl (fun w hBw => congrArg (fun v => Result.ok (Next.value v) w) e_2_1)) ?_
        refine .plain rfl (Pl_y rfl (fun w hBw => Y_convI (k := .u32) (n := ((n : Nat) : Int)) (z := ((n : Nat) : Int)) T_some66 T_kind22 rfl (wrapS rfl (by exact Nat.lt_of_lt_of_le hn (by decide))))) ?_
        refine .plain rfl (Pl_y rfl (fun w hBw => Yu_add (k := .u64) rfl m n rfl rfl)) ?_
        refine .plain rfl (Pl_cx rfl rfl T_en31 (A1 rfl) (fun w hBw => of_n ((m + n) % 18446744073709551616) (Nat.mod_lt _ (by decide)) _)) ?_
        refine .plain rfl (Pl_y rfl (fun w hBw => Y_ldrb T_row26 hBw.2.2.1 e_2_7 (by rw [ua_size]; exact (Lm.l4_wd P19).1))) ?_
        refine .plain rfl (Pl_c rfl T_en29 (A2 rfl rfl) (fun w hBw => tms4_n ((m + n) % 18446744073709551616) P19 okP19 _)) ?_
        refine .special 0 rfl (Special.of ⟨⟨trivial, fun _ _ _ e' w' hAg hYs => by
            have H : Hp w0 [] w' [.blk bk10_ 26 (ua .u64 (Lm.l4 (Lm.tms4 m P19 64))), .blk bk11_ 26 (ua .u64 (Lm.l4 (Lm.tms4 n P19 64))), .blk bk7 26 (ua .u64 (Lm.l4 P19)), .blk bk5 42 (sd A.y A.odd)] := hYs
            exact ⟨rfl, Dn_alloc H T_zero26 (fun b w2 Hn => ⟨_, rfl, Hn⟩)⟩⟩, fun h => absurd h (by decide)⟩) ?_
        exact .nil _
      ·
        intro e_3 w_10 hAg hYs
        obtain ⟨bk12_, q0, H_10⟩ := hYs
        have e_3_12 : e_3 12 = Value.pointer (some ⟨bk12_, 0, none⟩) := Option.some.inj q0
        have e_3_7 : e_3 7 = Value.pointer (some ⟨bk7, 0, none⟩) := (hAg 7 rfl).trans e_2_7
        have e_3_9 : e_3 9 = Value.func (.func 31) #[] #[] := (hAg 9 rfl).trans e_2_9
        have e_3_10 : e_3 10 = Value.pointer (some ⟨bk10_, 0, none⟩) := (hAg 10 rfl).trans e_2_10
        have e_3_11 : e_3 11 = Value.pointer (some ⟨bk11_, 0, none⟩) := (hAg 11 rfl).trans e_2_11
        have e_3_45 : e_3 45 = Value.agg (ua .u64 (Lm.l4 (Lm.tms4 ((m + n) % 18446744073709551616) P19 64))) := (hAg 45 rfl).trans rfl
        refine L_str (ds := ua .u64 (Lm.l4 (Lm.tms4 ((m + n) % 18446744073709551616) P19 64))) T_row26 H_10 (i := 0) rfl e_3_12 e_3_45 (by rw [ua_size]; exact (Lm.l4_wd ⟨0, 0, 0, 0⟩).1) (by rw [ua_size]; exact (Lm.l4_wd (Lm.tms4 ((m + n) % 18446744073709551616) P19 64)).1) (ua_one _ _) (l' := [.blk bk12_ 26 (ua .u64 (Lm.l4 (Lm.tms4 ((m + n) % 18446744073709551616) P19 64))), .blk bk10_ 26 (ua .u64 (Lm.l4 (Lm.tms4 m P19 64))), .blk bk11_ 26 (ua .u64 (Lm.l4 (Lm.tms4 n P19 64))), .blk bk7 26 (ua .u64 (Lm.l4 P19)), .blk bk5 42 (sd A.y A.odd)]) rfl ?_; intro w_11 H_11
        refine L_nil ?_
        refine Th_n ?_
        refine W_seq ?_
        refine W_rg ?_
        refine L_y rfl (Y_build (pv := [(0, Value.int .u8 ((237 : Nat) : Int)), (1, Value.int .u8 ((211 : Nat) : Int)), (2, Value.int .u8 ((245 : Nat) : Int)), (3, Value.int .u8 ((92 : Nat) : Int)), (4, Value.int .u8 ((26 : Nat) : Int)), (5, Value.int .u8 ((99 : Nat) : Int)), (6, Value.int .u8 ((18 : Nat) : Int)), (7, Value.int .u8 ((88 : Nat) : Int)), (8, Value.int .u8 ((214 : Nat) : Int)), (9, Value.int .u8 ((156 : Nat) : Int)), (10, Value.int .u8 ((247 : Nat) : Int)), (11, Value.int .u8 ((162 : Nat) : Int)), (12, Value.int .u8 ((222 : Nat) : Int)), (13, Value.int .u8 ((249 : Nat) : Int)), (14, Value.int .u8 ((222 : Nat) : Int)), (15, Value.int .u8 ((20 : Nat) : Int)), (31, Value.int .u8 ((16 : Nat) : Int))]) (cs := ua .u8 (Lm.b32 Lm.ell)) (Bpc rfl (Bpc rfl (Bpc rfl (Bpc rfl (Bpc rfl (Bpc rfl (Bpc rfl (Bpc rfl (Bpc rfl (Bpc rfl (Bpc rfl (Bpc rfl (Bpc rfl (Bpc rfl (Bpc rfl (Bpc rfl (Bpc rfl Bp0))))))))))))))))) (by kernel_rfl)) ?_
        refine L_alloc rfl H_11 T_zero62 ?_; intro bk13 w_12 H_12
        refine L_str (ds := ua .u8 (Lm.b32 Lm.ell)) T_row62 H_12 (i := 0) rfl rfl rfl rfl (by rw [ua_size]; exact (⟨Lm.b32_length _, Lm.b32_lt _⟩ : Wd 32 256 (Lm.b32 Lm.ell)).1) (ua_one _ _) (l' := [.blk bk13 62 (ua .u8 (Lm.b32 Lm.ell)), .blk bk12_ 26 (ua .u64 (Lm.l4 (Lm.tms4 ((m + n) % 18446744073709551616) P19 64))), .blk bk10_ 26 (ua .u64 (Lm.l4 (Lm.tms4 m P19 64))), .blk bk11_ 26 (ua .u64 (Lm.l4 (Lm.tms4 n P19 64))), .blk bk7 26 (ua .u64 (Lm.l4 P19)), .blk bk5 42 (sd A.y A.odd)]) rfl ?_; intro w_13 H_13
        refine L_nil ?_
        refine Th_n ?_
        refine W_seq ?_
        refine W_quiet H_13 24 [Value.agg (ua .u64 (Lm.l4 (Lm.tms4 m P19 64))), Value.agg (ua .u64 (Lm.l4 (Lm.tms4 n P19 64))), Value.agg (ua .u64 (Lm.l4 (Lm.sum4 (Lm.tms4 m P19 64) (Lm.tms4 n P19 64) Lm.tw))), Value.agg (ua .u64 (Lm.l4 (Lm.tms4 ((m + n) % 18446744073709551616) P19 64))), Value.bool (Lm.same4 (Lm.sum4 (Lm.tms4 m P19 64) (Lm.tms4 n P19 64) Lm.tw) (Lm.tms4 ((m + n) % 18446744073709551616) P19 64)), Value.bool (Lm.same4 (Lm.sum4 (Lm.tms4 m P19 64) (Lm.tms4 n P19 64) Lm.tw) (Lm.tms4 ((m + n) % 18446744073709551616) P19 64)), Value.func (.func 31) #[] #[], Value.agg (ua .u8 (Lm.b32 0)), Value.agg (ua .u64 (Lm.l4 P19)), Value.agg (ua .u64 (Lm.l4 (Lm.tms4 0 P19 64))), Value.agg (ua .u64 (Lm.l4 Lm.idn4)), Value.bool (Lm.same4 (Lm.tms4 0 P19 64) Lm.idn4), Value.bool (Lm.same4 (Lm.tms4 0 P19 64) Lm.idn4), Value.bool (Lm.same4 (Lm.tms4 0 P19 64) Lm.idn4), Value.func (.func 31) #[] #[], Value.agg (ua .u8 (Lm.b32 1)), Value.agg (ua .u64 (Lm.l4 P19)), Value.agg (ua .u64 (Lm.l4 (Lm.tms4 1 P19 64))), Value.agg (ua .u64 (Lm.l4 P19)), Value.bool (Lm.same4 (Lm.tms4 1 P19 64) P19), Value.bool (Lm.same4 (Lm.tms4 1 P19 64) P19), Value.bool (Lm.same4 (Lm.tms4 1 P19 64) P19), Value.agg (ua .u8 (Lm.b32 Lm.ell)), Value.agg (ua .u64 (Lm.l4 Lm.base4))] T_mixed (by kernel_rfl) ?_ ?_
        ·
          refine .plain rfl (Pl_y rfl (fun w hBw => Y_ldr T_row26 hBw (i := 2) rfl e_3_10 (by rw [ua_size]; exact (Lm.l4_wd (Lm.tms4 m P19 64)).1))) ?_
          refine .plain rfl (Pl_y rfl (fun w hBw => Y_ldr T_row26 hBw (i := 3) rfl e_3_11 (by rw [ua_size]; exact (Lm.l4_wd (Lm.tms4 n P19 64)).1))) ?_
          refine .plain rfl (Pl_c rfl T_en17 (A2 rfl rfl) (fun w hBw => addp_n (Lm.tms4 m P19 64) (Lm.tms4 n P19 64) (Lm.tms4_ok _ _ _) (Lm.tms4_ok _ _ _) _)) ?_
          refine .plain rfl (Pl_y rfl (fun w hBw => Y_ldr T_row26 hBw (i := 1) rfl e_3_12 (by rw [ua_size]; exact (Lm.l4_wd (Lm.tms4 ((m + n) % 18446744073709551616) P19 64)).1))) ?_
          refine .plain rfl (Pl_c rfl T_en22 (A2 rfl rfl) (fun w hBw => same4_n (Lm.sum4 (Lm.tms4 m P19 64) (Lm.tms4 n P19 64) Lm.tw) (Lm.tms4 ((m + n) % 18446744073709551616) P19 64) (Lm.sum4_ok _ _ _) (Lm.tms4_ok _ _ _) _)) ?_
          refine .plain rfl (Pl_y rfl (fun w hBw => rfl)) ?_
          refine .plain rfl (Pl_y (wE rfl (congrArg Value.bool (Lm.R4.same (Lm.R4_sum (Lm.R4_times (Lm.k32 hm) (hP19 ▸ (Lm.R4_at (hq19 ▸ (Lm.nnt hc) : Lm.at4b A.y A.odd = true)) : Lm.R4 P19 (Lm.ptA A.y A.odd))) (Lm.R4_times (Lm.k32 hn) (hP19 ▸ (Lm.R4_at (hq19 ▸ (Lm.nnt hc) : Lm.at4b A.y A.odd = true)) : Lm.R4 P19 (Lm.ptA A.y A.odd)))) (Lm.R4_times (Lm.k64 _) (hP19 ▸ (Lm.R4_at (hq19 ▸ (Lm.nnt hc) : Lm.at4b A.y A.odd = true)) : Lm.R4 P19 (Lm.ptA A.y A.odd))) (Lm.mu_sum (Lm.pt_on (hq19 ▸ (Lm.nnt hc) : Lm.at4b A.y A.odd = true)) (by omega))))) (fun w hBw => congrArg (fun v => Result.ok (Next.value v) w) e_3_9)) ?_
          refine .plain rfl (Pl_cx rfl (wE rfl (congrArg Value.bool (Lm.R4.same (Lm.R4_sum (Lm.R4_times (Lm.k32 hm) (hP19 ▸ (Lm.R4_at (hq19 ▸ (Lm.nnt hc) : Lm.at4b A.y A.odd = true)) : Lm.R4 P19 (Lm.ptA A.y A.odd))) (Lm.R4_times (Lm.k32 hn) (hP19 ▸ (Lm.R4_at (hq19 ▸ (Lm.nnt hc) : Lm.at4b A.y A.odd = true)) : Lm.R4 P19 (Lm.ptA A.y A.odd)))) (Lm.R4_times (Lm.k64 _) (hP19 ▸ (Lm.R4_at (hq19 ▸ (Lm.nnt hc) : Lm.at4b A.y A.odd = true)) : Lm.R4 P19 (Lm.ptA A.y A.odd))) (Lm.mu_sum (Lm.pt_on (hq19 ▸ (Lm.nnt hc) : Lm.at4b A.y A.odd = true)) (by omega))))) T_en31 (A1 rfl) (fun w hBw => of_n 0 (by decide) _)) ?_
          refine .plain rfl (Pl_y (wE rfl (congrArg Value.bool (Lm.R4.same (Lm.R4_sum (Lm.R4_times (Lm.k32 hm) (hP19 ▸ (Lm.R4_at (hq19 ▸ (Lm.nnt hc) : Lm.at4b A.y A.odd = true)) : Lm.R4 P19 (Lm.ptA A.y A.odd))) (Lm.R4_times (Lm.k32 hn) (hP19 ▸ (Lm.R4_at (hq19 ▸ (Lm.nnt hc) : Lm.at4b A.y A.odd = true)) : Lm.R4 P19 (Lm.ptA A.y A.odd)))) (Lm.R4_times (Lm.k64 _) (hP19 ▸ (Lm.R4_at (hq19 ▸ (Lm.nnt hc) : Lm.at4b A.y A.odd = true)) : Lm.R4 P19 (Lm.ptA A.y A.odd))) (Lm.mu_sum (Lm.pt_on (hq19 ▸ (Lm.nnt hc) : Lm.at4b A.y A.odd = true)) (by omega))))) (fun w hBw => Y_ldr T_row26 hBw (i := 4) rfl e_3_7 (by rw [ua_size]; exact (Lm.l4_wd P19).1))) ?_
          refine .plain rfl (Pl_c (wE rfl (congrArg Value.bool (Lm.R4.same (Lm.R4_sum (Lm.R4_times (Lm.k32 hm) (hP19 ▸ (Lm.R4_at (hq19 ▸ (Lm.nnt hc) : Lm.at4b A.y A.odd = true)) : Lm.R4 P19 (Lm.ptA A.y A.odd))) (Lm.R4_times (Lm.k32 hn) (hP19 ▸ (Lm.R4_at (hq19 ▸ (Lm.nnt hc) : Lm.at4b A.y A.odd = true)) : Lm.R4 P19 (Lm.ptA A.y A.odd)))) (Lm.R4_times (Lm.k64 _) (hP19 ▸ (Lm.R4_at (hq19 ▸ (Lm.nnt hc) : Lm.at4b A.y A.odd = true)) : Lm.R4 P19 (Lm.ptA A.y A.odd))) (Lm.mu_sum (Lm.pt_on (hq19 ▸ (Lm.nnt hc) : Lm.at4b A.y A.odd = true)) (by omega))))) T_en29 (A2 rfl rfl) (fun w hBw => tms4_n 0 P19 okP19 _)) ?_
          refine .plain rfl (Pl_c (wE rfl (congrArg Value.bool (Lm.R4.same (Lm.R4_sum (Lm.R4_times (Lm.k32 hm) (hP19 ▸ (Lm.R4_at (hq19 ▸ (Lm.nnt hc) : Lm.at4b A.y A.odd = true)) : Lm.R4 P19 (Lm.ptA A.y A.odd))) (Lm.R4_times (Lm.k32 hn) (hP19 ▸ (Lm.R4_at (hq19 ▸ (Lm.nnt hc) : Lm.at4b A.y A.odd = true)) : Lm.R4 P19 (Lm.ptA A.y A.odd)))) (Lm.R4_times (Lm.k64 _) (hP19 ▸ (Lm.R4_at (hq19 ▸ (Lm.nnt hc) : Lm.at4b A.y A.odd = true)) : Lm.R4 P19 (Lm.ptA A.y A.odd))) (Lm.mu_sum (Lm.pt_on (hq19 ▸ (Lm.nnt hc) : Lm.at4b A.y A.odd = true)) (by omega))))) T_en14 (A0) (fun w hBw => idn4_n _)) ?_
          refine .plain rfl (Pl_c (wE rfl (congrArg Value.bool (Lm.R4.same (Lm.R4_sum (Lm.R4_times (Lm.k32 hm) (hP19 ▸ (Lm.R4_at (hq19 ▸ (Lm.nnt hc) : Lm.at4b A.y A.odd = true)) : Lm.R4 P19 (Lm.ptA A.y A.odd))) (Lm.R4_times (Lm.k32 hn) (hP19 ▸ (Lm.R4_at (hq19 ▸ (Lm.nnt hc) : Lm.at4b A.y A.odd = true)) : Lm.R4 P19 (Lm.ptA A.y A.odd)))) (Lm.R4_times (Lm.k64 _) (hP19 ▸ (Lm.R4_at (hq19 ▸ (Lm.nnt hc) : Lm.at4b A.y A.odd = true)) : Lm.R4 P19 (Lm.ptA A.y A.odd))) (Lm.mu_sum (Lm.pt_on (hq19 ▸ (Lm.nnt hc) : Lm.at4b A.y A.odd = true)) (by omega))))) T_en22 (A2 rfl rfl) (fun w hBw => same4_n (Lm.tms4 0 P19 64) Lm.idn4 (Lm.tms4_ok _ _ _) Lm.idn4_ok _)) ?_
          refine .plain rfl (Pl_y rfl (fun w hBw => Y_pickT (congrArg Value.bool (Lm.R4.same (Lm.R4_sum (Lm.R4_times (Lm.k32 hm) (hP19 ▸ (Lm.R4_at (hq19 ▸ (Lm.nnt hc) : Lm.at4b A.y A.odd = true)) : Lm.R4 P19 (Lm.ptA A.y A.odd))) (Lm.R4_times (Lm.k32 hn) (hP19 ▸ (Lm.R4_at (hq19 ▸ (Lm.nnt hc) : Lm.at4b A.y A.odd = true)) : Lm.R4 P19 (Lm.ptA A.y A.odd)))) (Lm.R4_times (Lm.k64 _) (hP19 ▸ (Lm.R4_at (hq19 ▸ (Lm.nnt hc) : Lm.at4b A.y A.odd = true)) : Lm.R4 P19 (Lm.ptA A.y A.odd))) (Lm.mu_sum (Lm.pt_on (hq19 ▸ (Lm.nnt hc) : Lm.at4b A.y A.odd = true)) (by omega)))))) ?_
          refine .plain rfl (Pl_y rfl (fun w hBw => rfl)) ?_
          refine .plain rfl (Pl_y (wE rfl (congrArg Value.bool (Lm.R4.same (Lm.R4_times (by decide) (hP19 ▸ (Lm.R4_at (hq19 ▸ (Lm.nnt hc) : Lm.at4b A.y A.odd = true)) : Lm.R4 P19 (Lm.ptA A.y A.odd))) Lm.R4_idn rfl))) (fun w hBw => congrArg (fun v => Result.ok (Next.value v) w) e_3_9)) ?_
          refine .plain rfl (Pl_cx rfl (wE rfl (congrArg Value.bool (Lm.R4.same (Lm.R4_times (by decide) (hP19 ▸ (Lm.R4_at (hq19 ▸ (Lm.nnt hc) : Lm.at4b A.y A.odd = true)) : Lm.R4 P19 (Lm.ptA A.y A.odd))) Lm.R4_idn rfl))) T_en31 (A1 rfl) (fun w hBw => of_n 1 (by decide) _)) ?_
          refine .plain rfl (Pl_y (wE rfl (congrArg Value.bool (Lm.R4.same (Lm.R4_times (by decide) (hP19 ▸ (Lm.R4_at (hq19 ▸ (Lm.nnt hc) : Lm.at4b A.y A.odd = true)) : Lm.R4 P19 (Lm.ptA A.y A.odd))) Lm.R4_idn rfl))) (fun w hBw => Y_ldr T_row26 hBw (i := 4) rfl e_3_7 (by rw [ua_size]; exact (Lm.l4_wd P19).1))) ?_
          refine .plain rfl (Pl_c (wE rfl (congrArg Value.bool (Lm.R4.same (Lm.R4_times (by decide) (hP19 ▸ (Lm.R4_at (hq19 ▸ (Lm.nnt hc) : Lm.at4b A.y A.odd = true)) : Lm.R4 P19 (Lm.ptA A.y A.odd))) Lm.R4_idn rfl))) T_en29 (A2 rfl rfl) (fun w hBw => tms4_n 1 P19 okP19 _)) ?_
          refine .plain rfl (Pl_y (wE rfl (congrArg Value.bool (Lm.R4.same (Lm.R4_times (by decide) (hP19 ▸ (Lm.R4_at (hq19 ▸ (Lm.nnt hc) : Lm.at4b A.y A.odd = true)) : Lm.R4 P19 (Lm.ptA A.y A.odd))) Lm.R4_idn rfl))) (fun w hBw => Y_ldr T_row26 hBw (i := 4) rfl e_3_7 (by rw [ua_size]; exact (Lm.l4_wd P19).1))) ?_
          refine .plain rfl (Pl_c (wE rfl (congrArg Value.bool (Lm.R4.same (Lm.R4_times (by decide) (hP19 ▸ (Lm.R4_at (hq19 ▸ (Lm.nnt hc) : Lm.at4b A.y A.odd = true)) : Lm.R4 P19 (Lm.ptA A.y A.odd))) Lm.R4_idn rfl))) T_en22 (A2 rfl rfl) (fun w hBw => same4_n (Lm.tms4 1 P19 64) P19 (Lm.tms4_ok _ _ _) okP19 _)) ?_
          refine .plain rfl (Pl_y rfl (fun w hBw => Y_pickT (congrArg Value.bool (Lm.R4.same (Lm.R4_times (by decide) (hP19 ▸ (Lm.R4_at (hq19 ▸ (Lm.nnt hc) : Lm.at4b A.y A.odd = true)) : Lm.R4 P19 (Lm.ptA A.y A.odd))) Lm.R4_idn rfl)))) ?_
          refine .plain rfl (Pl_y rfl (fun w hBw => rfl)) ?_
          refine .plain rfl (Pl_y (wE rfl (congrArg Value.bool (Lm.R4.same (Lm.R4_times (by decide) (hP19 ▸ (Lm.R4_at (hq19 ▸ (Lm.nnt hc) : Lm.at4b A.y A.odd = true)) : Lm.R4 P19 (Lm.ptA A.y A.odd))) (hP19 ▸ (Lm.R4_at (hq19 ▸ (Lm.nnt hc) : Lm.at4b A.y A.odd = true)) : Lm.R4 P19 (Lm.ptA A.y A.odd)) (Lm.mu_one _)))) (fun w hBw => Y_ldr T_row62 hBw (i := 0) rfl rfl (by rw [ua_size]; exact (⟨Lm.b32_length _, Lm.b32_lt _⟩ : Wd 32 256 (Lm.b32 Lm.ell)).1))) ?_
          refine .plain rfl (Pl_c (wE rfl (congrArg Value.bool (Lm.R4.same (Lm.R4_times (by decide) (hP19 ▸ (Lm.R4_at (hq19 ▸ (Lm.nnt hc) : Lm.at4b A.y A.odd = true)) : Lm.R4 P19 (Lm.ptA A.y A.odd))) (hP19 ▸ (Lm.R4_at (hq19 ▸ (Lm.nnt hc) : Lm.at4b A.y A.odd = true)) : Lm.R4 P19 (Lm.ptA A.y A.odd)) (Lm.mu_one _)))) T_en32 (A0) (fun w hBw => base4_n _)) ?_
          exact .nil _
        ·
          intro e_4 w_14 hAg H_14
          have e_4_68 : e_4 68 = Value.bool (Lm.same4 (Lm.tms4 1 P19 64) P19) := (hAg 68 rfl).trans rfl
          have e_4_69 : e_4 69 = Value.agg (ua .u8 (Lm.b32 Lm.ell)) := (hAg 69 rfl).trans rfl
          have e_4_70 : e_4 70 = Value.agg (ua .u64 (Lm.l4 Lm.base4)) := (hAg 70 rfl).trans rfl
          refine L_callv (wE rfl (e_4_68.trans (congrArg Value.bool (Lm.R4.same (Lm.R4_times (by decide) (hP19 ▸ (Lm.R4_at (hq19 ▸ (Lm.nnt hc) : Lm.at4b A.y A.odd = true)) : Lm.R4 P19 (Lm.ptA A.y A.odd))) (hP19 ▸ (Lm.R4_at (hq19 ▸ (Lm.nnt hc) : Lm.at4b A.y A.odd = true)) : Lm.R4 P19 (Lm.ptA A.y A.odd)) (Lm.mu_one _))))) rfl T_en29 (A2 e_4_69 e_4_70) ((tms4_n Lm.ell Lm.base4 Lm.base4_ok _).mono (fun r_ w' h => (⟨Lm.tms4 Lm.ell Lm.base4 64, rfl, h⟩ : ∃ (P71 : Lm.P4), P71 = Lm.tms4 Lm.ell Lm.base4 64 ∧ r_ = .returned (Value.agg (ua .u64 (Lm.l4 P71))) ∧ Keep w_14 w'))) ?_
          rintro _ w_15 ⟨P71, hP71, rfl, hkp_3⟩; refine ⟨_, rfl, ?_⟩; have H_15 := H_14.keep hkp_3
          have okP71 : P71.ok := by rw [hP71]; exact Lm.tms4_ok _ _ _
          refine L_callv (wE rfl (e_4_68.trans (congrArg Value.bool (Lm.R4.same (Lm.R4_times (by decide) (hP19 ▸ (Lm.R4_at (hq19 ▸ (Lm.nnt hc) : Lm.at4b A.y A.odd = true)) : Lm.R4 P19 (Lm.ptA A.y A.odd))) (hP19 ▸ (Lm.R4_at (hq19 ▸ (Lm.nnt hc) : Lm.at4b A.y A.odd = true)) : Lm.R4 P19 (Lm.ptA A.y A.odd)) (Lm.mu_one _))))) rfl T_en14 (A0) (idn4_n _) ?_
          rintro _ w_16 ⟨rfl, hkp_4⟩; refine ⟨_, rfl, ?_⟩; have H_16 := H_15.keep hkp_4
          refine L_callv (wE rfl (e_4_68.trans (congrArg Value.bool (Lm.R4.same (Lm.R4_times (by decide) (hP19 ▸ (Lm.R4_at (hq19 ▸ (Lm.nnt hc) : Lm.at4b A.y A.odd = true)) : Lm.R4 P19 (Lm.ptA A.y A.odd))) (hP19 ▸ (Lm.R4_at (hq19 ▸ (Lm.nnt hc) : Lm.at4b A.y A.odd = true)) : Lm.R4 P19 (Lm.ptA A.y A.odd)) (Lm.mu_one _))))) rfl T_en22 (A2 rfl rfl) (same4_n P71 Lm.idn4 okP71 Lm.idn4_ok _) ?_
          rintro _ w_17 ⟨rfl, hkp_5⟩; refine ⟨_, rfl, ?_⟩; have H_17 := H_16.keep hkp_5
          refine L_y rfl (Y_pickT (e_4_68.trans (congrArg Value.bool (Lm.R4.same (Lm.R4_times (by decide) (hP19 ▸ (Lm.R4_at (hq19 ▸ (Lm.nnt hc) : Lm.at4b A.y A.odd = true)) : Lm.R4 P19 (Lm.ptA A.y A.odd))) (hP19 ▸ (Lm.R4_at (hq19 ▸ (Lm.nnt hc) : Lm.at4b A.y A.odd = true)) : Lm.R4 P19 (Lm.ptA A.y A.odd)) (Lm.mu_one _))))) ?_
          refine L_mv rfl ?_
          refine L_callv (wE rfl (congrArg Value.bool (Lm.R4.same (hP71 ▸ (Lm.R4_times (by decide) Lm.R4_base) : Lm.R4 P71 (Lm.mu Lm.ell Lm.bP)) Lm.R4_idn Lm.order))) rfl T_en12 (A0) (known_n _) ?_
          rintro _ w_18 ⟨rfl, hkp_6⟩; refine ⟨_, rfl, ?_⟩; have H_18 := H_17.keep hkp_6
          refine L_y rfl (Y_pickT (congrArg Value.bool (Lm.R4.same (hP71 ▸ (Lm.R4_times (by decide) Lm.R4_base) : Lm.R4 P71 (Lm.mu Lm.ell Lm.bP)) Lm.R4_idn Lm.order))) ?_
          refine L_as rfl ?_
          refine L_nil ?_
          refine Th_n ?_
          refine W_ret ?_
          refine P_ret (vs := [Value.bool true]) (v := Value.bool true) rfl (.tmp rfl (Res.nil)) rfl ?_
          refine ⟨?_, H_18.nil_⟩
          rfl
end Go.Proofs.Ytbjpaggkmlgnoaa
