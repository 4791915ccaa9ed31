/- Walks of layers 1 and 3 and of their references. Printed by edwards.py. -/
import Derived.Test.YtbjpaggkmlgnoaaG4
namespace Go.Proofs.Ytbjpaggkmlgnoaa
open Go.Ev
set_option maxRecDepth 100000
theorem T_en58 : enters Try.prog 58 = true := by kernel_rfl
theorem T_en59 : enters Try.prog 59 = true := by kernel_rfl
theorem T_en61 : enters Try.prog 61 = true := by kernel_rfl
theorem T_en50 : enters Try.prog 50 = true := by kernel_rfl
theorem T_en62 : enters Try.prog 62 = true := by kernel_rfl
theorem inv_n (A : Nat) (hA : A < 115792089237316195423570985008687907853269984665640564039457584007913129639936) (w0 : World) :
    Calls Try.prog 54 #[Value.agg (ua .u64 (Lm.w4 A))] w0 (fun r_ w' => r_ = .returned (.agg (ua .u64 (Lm.w4 (Lm.powm A 57896044618658097711785492504343953926634992332820282019728792003956564819947)))) ∧ Keep w0 w') := by
  refine F_in Try.func54 rfl Try.ntmps54 rfl ?_
  intro e he
  have p_0 : e 0 = Value.agg (ua .u64 (Lm.w4 A)) := he 0 _ rfl
  have H := Hp.start w0 []
  refine W_seq ?_
  refine W_rg ?_
  refine L_box rfl H p_0 (cs := ua .u64 (Lm.w4 A)) rfl ?_; intro bk1 w_2 H_2
  refine L_alloc rfl H_2 T_zero24 ?_; intro bk2 w_3 H_3
  refine L_nil ?_
  refine Th_n ?_
  refine W_seq ?_
  refine W_rg ?_
  refine L_callv rfl rfl T_en60 (A0) (prime_spec _) ?_
  rintro _ w_4 ⟨rfl, hkp⟩; refine ⟨_, rfl, ?_⟩; have H_4 := H_3.keep hkp
  refine L_callv rfl rfl T_en33 (A1 rfl) (of_spec 2 (by decide) _) ?_
  rintro _ w_5 ⟨rfl, hkp_2⟩; refine ⟨_, rfl, ?_⟩; have H_5 := H_4.keep hkp_2
  refine L_callv rfl rfl T_en64 (A2 rfl rfl) ((minus_spec (Lm.w4 Lm.p) (w4_wd Lm.p) (Lm.w4 2) (w4_wd 2) _).mono (fun r_ w' h => (⟨(Lm.wv (Lm.w4 Lm.p) + (115792089237316195423570985008687907853269984665640564039457584007913129639936 - Lm.wv (Lm.w4 2))) % 115792089237316195423570985008687907853269984665640564039457584007913129639936, if Lm.wv (Lm.w4 Lm.p) < Lm.wv (Lm.w4 2) then 1 else 0, rfl, rfl, h⟩ : ∃ (N8 : Nat) (k8 : Nat), N8 = (Lm.wv (Lm.w4 Lm.p) + (115792089237316195423570985008687907853269984665640564039457584007913129639936 - Lm.wv (Lm.w4 2))) % 115792089237316195423570985008687907853269984665640564039457584007913129639936 ∧ k8 = (if Lm.wv (Lm.w4 Lm.p) < Lm.wv (Lm.w4 2) then 1 else 0) ∧ r_ = .returned (Value.tuple #[Value.agg (ua .u64 (Lm.w4 N8)), Value.int .u64 ((k8 : Nat) : Int)]) ∧ Keep w_5 w'))) ?_
  rintro _ w_6 ⟨N8, k8, hN8, hk8, rfl, hkp_3⟩; refine ⟨_, rfl, ?_⟩; have H_6 := H_5.keep hkp_3
  refine L_mv rfl ?_
  refine L_y rfl (Y_ext rfl rfl) ?_
  refine L_y rfl (Y_ext rfl rfl) ?_
  refine L_alloc rfl H_6 T_zero24 ?_; intro bk3 w_7 H_7
  refine L_str (ds := ua .u64 (Lm.w4 N8)) T_row24 H_7 (i := 0) rfl rfl rfl rfl (by rw [ua_size]; exact (w4_wd N8).1) (ua_one _ _) (l' := [.blk bk3 24 (ua .u64 (Lm.w4 N8)), .blk bk2 24 (ua .u64 [0, 0, 0, 0]), .blk bk1 24 (ua .u64 (Lm.w4 A))]) rfl ?_; intro w_8 H_8
  refine L_as rfl ?_
  refine L_nil ?_
  refine Th_n ?_
  refine W_seq ?_
  refine W_rg ?_
  refine L_y rfl (Y_ldr T_row24 H_8 (i := 2) rfl rfl (by rw [ua_size]; exact (w4_wd A).1)) ?_
  refine L_y rfl (Y_ldr T_row24 H_8 (i := 0) rfl rfl (by rw [ua_size]; exact (w4_wd N8).1)) ?_
  refine L_callv rfl rfl T_en58 (A2 rfl rfl) ((pow_n A N8 hA (Lm.ltB hN8) _).mono (fun r_ w' h => (⟨Lm.powm A N8, rfl, h⟩ : ∃ (N13 : Nat), N13 = Lm.powm A N8 ∧ r_ = .returned (Value.agg (ua .u64 (Lm.w4 N13))) ∧ Keep w_8 w'))) ?_
  rintro _ w_9 ⟨N13, hN13, rfl, hkp_4⟩; refine ⟨_, rfl, ?_⟩; have H_9 := H_8.keep hkp_4
  refine L_str (ds := ua .u64 (Lm.w4 N13)) T_row24 H_9 (i := 1) rfl rfl rfl rfl (by rw [ua_size]; exact (w4_wd N13).1) (ua_one _ _) (l' := [.blk bk3 24 (ua .u64 (Lm.w4 N8)), .blk bk2 24 (ua .u64 (Lm.w4 N13)), .blk bk1 24 (ua .u64 (Lm.w4 A))]) rfl ?_; intro w_10 H_10
  refine L_nil ?_
  refine Th_n ?_
  refine W_ret ?_
  refine P_ret (vs := [Value.agg (ua .u64 (Lm.w4 N13))]) (v := Value.agg (ua .u64 (Lm.w4 N13))) rfl (.cell rfl (loadVar_row T_row24 H_10 (i := 1) rfl (by rw [ua_size]; exact (w4_wd N13).1)) (Res.nil)) rfl ?_
  refine ⟨?_, H_10.nil_⟩
  rw [hN13, show N8 = 57896044618658097711785492504343953926634992332820282019728792003956564819947 from by rw [hN8, Lm.wv_w4 (by decide), Lm.wv_w4 (by decide)]; decide]

theorem i_n (w0 : World) :
    Calls Try.prog 61 #[] w0 (fun r_ w' => r_ = .returned (.agg (ua .u64 (Lm.w4 Lm.ii))) ∧ Keep w0 w') := by
  refine F_in Try.func61 rfl Try.ntmps61 rfl ?_
  intro e he
  have H := Hp.start w0 []
  refine W_seq ?_
  refine W_rg ?_
  refine L_alloc rfl H T_zero24 ?_; intro bk0 w_2 H_2
  refine L_nil ?_
  refine Th_n ?_
  refine W_seq ?_
  refine W_rg ?_
  refine L_callv rfl rfl T_en33 (A1 rfl) (of_spec 2 (by decide) _) ?_
  rintro _ w_3 ⟨rfl, hkp⟩; refine ⟨_, rfl, ?_⟩; have H_3 := H_2.keep hkp
  refine L_callv rfl rfl T_en60 (A0) (prime_spec _) ?_
  rintro _ w_4 ⟨rfl, hkp_2⟩; refine ⟨_, rfl, ?_⟩; have H_4 := H_3.keep hkp_2
  refine L_callv rfl rfl T_en59 (A2 rfl rfl) (down2_w _) ?_
  rintro _ w_5 ⟨rfl, hkp_3⟩; refine ⟨_, rfl, ?_⟩; have H_5 := H_4.keep hkp_3
  refine L_callv rfl rfl T_en58 (A2 rfl rfl) ((pow_n 2 14474011154664524427946373126085988481658748083205070504932198000989141204987 (by decide) (by decide) _).mono (fun r_ w' h => (⟨Lm.powm 2 14474011154664524427946373126085988481658748083205070504932198000989141204987, rfl, h⟩ : ∃ (N4 : Nat), N4 = Lm.powm 2 14474011154664524427946373126085988481658748083205070504932198000989141204987 ∧ r_ = .returned (Value.agg (ua .u64 (Lm.w4 N4))) ∧ Keep w_5 w'))) ?_
  rintro _ w_6 ⟨N4, hN4, rfl, hkp_4⟩; refine ⟨_, rfl, ?_⟩; have H_6 := H_5.keep hkp_4
  refine L_str (ds := ua .u64 (Lm.w4 N4)) T_row24 H_6 (i := 0) rfl rfl rfl rfl (by rw [ua_size]; exact (w4_wd N4).1) (ua_one _ _) (l' := [.blk bk0 24 (ua .u64 (Lm.w4 N4))]) rfl ?_; intro w_7 H_7
  refine L_nil ?_
  refine Th_n ?_
  refine W_ret ?_
  refine P_ret (vs := [Value.agg (ua .u64 (Lm.w4 N4))]) (v := Value.agg (ua .u64 (Lm.w4 N4))) rfl (.cell rfl (loadVar_row T_row24 H_7 (i := 0) rfl (by rw [ua_size]; exact (w4_wd N4).1)) (Res.nil)) rfl ?_
  refine ⟨?_, H_7.nil_⟩
  rw [hN4, Lm.ii_eq]

theorem root_fin00 {u v N : Nat} {b : Bool} (ht : Lm.turned u v = false) (hq : Lm.third u v = false) (hr : Lm.right u v = false) (hN : N = Lm.absm (Lm.r0 u v)) (hb : b = Lm.turned u v) :
    Ending.returned (.tuple #[.agg (ua .u64 (Lm.w4 N)), .bool b]) = Ending.returned (.tuple #[.agg (ua .u64 (Lm.w4 (Lm.rootN u v))), .bool (Lm.rootB u v)]) := by
  rw [hN, hb, Lm.rootN, Lm.rootB, hr]
  simp [ht, hq]

theorem root_fin01 {u v N : Nat} (ht : Lm.turned u v = false) (hq : Lm.third u v = false) (hr : Lm.right u v = true) (hN : N = Lm.absm (Lm.r0 u v)) :
    Ending.returned (.tuple #[.agg (ua .u64 (Lm.w4 N)), .bool true]) = Ending.returned (.tuple #[.agg (ua .u64 (Lm.w4 (Lm.rootN u v))), .bool (Lm.rootB u v)]) := by
  rw [hN, Lm.rootN, Lm.rootB, hr]
  simp [ht, hq]

theorem root_fin10 {u v N : Nat} {b : Bool} (ht : Lm.turned u v = true ∨ Lm.third u v = true) (hr : Lm.right u v = false) (hN : N = Lm.absm (Lm.r0 u v * Lm.ii % Lm.p)) (hb : b = Lm.turned u v) :
    Ending.returned (.tuple #[.agg (ua .u64 (Lm.w4 N)), .bool b]) = Ending.returned (.tuple #[.agg (ua .u64 (Lm.w4 (Lm.rootN u v))), .bool (Lm.rootB u v)]) := by
  rw [hN, hb, Lm.rootN, Lm.rootB, hr]
  rcases ht with h | h <;> simp [h]

theorem root_fin11 {u v N : Nat} (ht : Lm.turned u v = true ∨ Lm.third u v = true) (hr : Lm.right u v = true) (hN : N = Lm.absm (Lm.r0 u v * Lm.ii % Lm.p)) :
    Ending.returned (.tuple #[.agg (ua .u64 (Lm.w4 N)), .bool true]) = Ending.returned (.tuple #[.agg (ua .u64 (Lm.w4 (Lm.rootN u v))), .bool (Lm.rootB u v)]) := by
  rw [hN, Lm.rootN, Lm.rootB, hr]
  rcases ht with h | h <;> simp [h]

theorem root_n (u v : Nat) (hu : u < 115792089237316195423570985008687907853269984665640564039457584007913129639936) (hv : v < 115792089237316195423570985008687907853269984665640564039457584007913129639936) (w0 : World) :
    Calls Try.prog 35 #[Value.agg (ua .u64 (Lm.w4 u)), Value.agg (ua .u64 (Lm.w4 v))] w0 (fun r_ w' => r_ = .returned (.tuple #[.agg (ua .u64 (Lm.w4 (Lm.rootN u v))), .bool (Lm.rootB u v)]) ∧ Keep w0 w') := by
  refine F_in Try.func35 rfl Try.ntmps35 rfl ?_
  intro e he
  have p_0 : e 0 = Value.agg (ua .u64 (Lm.w4 u)) := he 0 _ rfl
  have p_1 : e 1 = Value.agg (ua .u64 (Lm.w4 v)) := he 1 _ rfl
  have H := Hp.start w0 []
  refine W_seq ?_
  refine W_rg ?_
  refine L_box rfl H p_0 (cs := ua .u64 (Lm.w4 u)) rfl ?_; intro bk2 w_2 H_2
  refine L_box rfl H_2 p_1 (cs := ua .u64 (Lm.w4 v)) rfl ?_; intro bk3 w_3 H_3
  refine L_alloc rfl H_3 T_zero24 ?_; intro bk4 w_4 H_4
  refine L_as rfl ?_
  refine L_nil ?_
  refine Th_n ?_
  refine W_seq ?_
  refine W_anyL 6 [5] [6] [Value.agg (ua .u64 (Lm.w4 v)), Value.agg (ua .u64 (Lm.w4 v)), Value.agg (ua .u64 (Lm.w4 (v * v % Lm.p))), Value.agg (ua .u64 (Lm.w4 v)), Value.agg (ua .u64 (Lm.w4 ((v * v % Lm.p) * v % Lm.p))), undef] (fun w => w.heap[bk4]? = some (.cells (ua .u64 [0, 0, 0, 0]) 24 (0, 0)) ∧ w.heap[bk3]? = some (.cells (ua .u64 (Lm.w4 v)) 24 (0, 0)) ∧ w.heap[bk2]? = some (.cells (ua .u64 (Lm.w4 u)) 24 (0, 0))) [fun vs w => Hp w0 [] w [.blk bk4 24 (ua .u64 [0, 0, 0, 0]), .blk bk3 24 (ua .u64 (Lm.w4 v)), .blk bk2 24 (ua .u64 (Lm.w4 u))], fun vs w => ∃ bk6_, vs[0]? = some (Value.pointer (some ⟨bk6_, 0, none⟩)) ∧ Hp w0 [] w [Ent.blk bk6_ 24 (ua .u64 [0, 0, 0, 0]), .blk bk4 24 (ua .u64 [0, 0, 0, 0]), .blk bk3 24 (ua .u64 (Lm.w4 v)), .blk bk2 24 (ua .u64 (Lm.w4 u))]] T_mixed (by kernel_rfl) ⟨fun _ _ H => ⟨H.get 0 rfl, H.get 1 rfl, H.get 2 rfl⟩, fun _ _ h => by obtain ⟨_, _, H⟩ := h; exact ⟨H.get 1 rfl, H.get 2 rfl, H.get 3 rfl⟩, trivial⟩ ⟨fun _ _ _ hkp H => H.keep hkp, fun _ _ _ hkp h => by obtain ⟨q0, q1, H⟩ := h; exact ⟨q0, q1, H.keep hkp⟩, trivial⟩ H_4 ?_ ?_
  ·
    refine .plain rfl (Pl_y rfl (fun w hBw => Y_ldrb T_row24 hBw.2.1 rfl (by rw [ua_size]; exact (w4_wd v).1))) ?_
    refine .plain rfl (Pl_y rfl (fun w hBw => Y_ldrb T_row24 hBw.2.1 rfl (by rw [ua_size]; exact (w4_wd v).1))) ?_
    refine .plain rfl (Pl_c rfl T_en34 (A2 rfl rfl) (fun w hBw => mul_n v v hv hv _)) ?_
    refine .plain rfl (Pl_y rfl (fun w hBw => Y_ldrb T_row24 hBw.2.1 rfl (by rw [ua_size]; exact (w4_wd v).1))) ?_
    refine .plain rfl (Pl_c rfl T_en34 (A2 rfl rfl) (fun w hBw => mul_n (v * v % Lm.p) v (Lm.modp_lt _) hv _)) ?_
    refine .special 0 rfl (Special.of ⟨⟨trivial, fun _ _ _ e' w' hAg hYs => by
        have H : Hp w0 [] w' [.blk bk4 24 (ua .u64 [0, 0, 0, 0]), .blk bk3 24 (ua .u64 (Lm.w4 v)), .blk bk2 24 (ua .u64 (Lm.w4 u))] := hYs
        exact ⟨rfl, Dn_alloc H T_zero24 (fun b w2 Hn => ⟨_, rfl, Hn⟩)⟩⟩, fun h => absurd h (by decide)⟩) ?_
    exact .nil _
  ·
    intro e_2 w_5 hAg hYs
    obtain ⟨bk6_, q0, H_5⟩ := hYs
    have e_2_6 : e_2 6 = Value.pointer (some ⟨bk6_, 0, none⟩) := Option.some.inj q0
    have e_2_2 : e_2 2 = Value.pointer (some ⟨bk2, 0, none⟩) := (hAg 2 rfl).trans rfl
    have e_2_3 : e_2 3 = Value.pointer (some ⟨bk3, 0, none⟩) := (hAg 3 rfl).trans rfl
    have e_2_4 : e_2 4 = Value.pointer (some ⟨bk4, 0, none⟩) := (hAg 4 rfl).trans rfl
    have e_2_16 : e_2 16 = Value.agg (ua .u64 (Lm.w4 ((v * v % Lm.p) * v % Lm.p))) := (hAg 16 rfl).trans rfl
    refine L_str (ds := ua .u64 (Lm.w4 ((v * v % Lm.p) * v % Lm.p))) T_row24 H_5 (i := 0) rfl e_2_6 e_2_16 rfl (by rw [ua_size]; exact (w4_wd ((v * v % Lm.p) * v % Lm.p)).1) (ua_one _ _) (l' := [.blk bk6_ 24 (ua .u64 (Lm.w4 ((v * v % Lm.p) * v % Lm.p))), .blk bk4 24 (ua .u64 [0, 0, 0, 0]), .blk bk3 24 (ua .u64 (Lm.w4 v)), .blk bk2 24 (ua .u64 (Lm.w4 u))]) rfl ?_; intro w_6 H_6
    refine L_nil ?_
    refine Th_n ?_
    refine W_seq ?_
    refine W_anyL 6 [5] [7] [Value.agg (ua .u64 (Lm.w4 ((v * v % Lm.p) * v % Lm.p))), Value.agg (ua .u64 (Lm.w4 ((v * v % Lm.p) * v % Lm.p))), Value.agg (ua .u64 (Lm.w4 (((v * v % Lm.p) * v % Lm.p) * ((v * v % Lm.p) * v % Lm.p) % Lm.p))), Value.agg (ua .u64 (Lm.w4 v)), Value.agg (ua .u64 (Lm.w4 ((((v * v % Lm.p) * v % Lm.p) * ((v * v % Lm.p) * v % Lm.p) % Lm.p) * v % Lm.p))), undef] (fun w => w.heap[bk6_]? = some (.cells (ua .u64 (Lm.w4 ((v * v % Lm.p) * v % Lm.p))) 24 (0, 0)) ∧ w.heap[bk4]? = some (.cells (ua .u64 [0, 0, 0, 0]) 24 (0, 0)) ∧ w.heap[bk3]? = some (.cells (ua .u64 (Lm.w4 v)) 24 (0, 0)) ∧ w.heap[bk2]? = some (.cells (ua .u64 (Lm.w4 u)) 24 (0, 0))) [fun vs w => Hp w0 [] w [.blk bk6_ 24 (ua .u64 (Lm.w4 ((v * v % Lm.p) * v % Lm.p))), .blk bk4 24 (ua .u64 [0, 0, 0, 0]), .blk bk3 24 (ua .u64 (Lm.w4 v)), .blk bk2 24 (ua .u64 (Lm.w4 u))], fun vs w => ∃ bk7_, vs[0]? = some (Value.pointer (some ⟨bk7_, 0, none⟩)) ∧ Hp w0 [] w [Ent.blk bk7_ 24 (ua .u64 [0, 0, 0, 0]), .blk bk6_ 24 (ua .u64 (Lm.w4 ((v * v % Lm.p) * v % Lm.p))), .blk bk4 24 (ua .u64 [0, 0, 0, 0]), .blk bk3 24 (ua .u64 (Lm.w4 v)), .blk bk2 24 (ua .u64 (Lm.w4 u))]] T_mixed (by kernel_rfl) ⟨fun _ _ H => ⟨H.get 0 rfl, H.get 1 rfl, H.get 2 rfl, H.get 3 rfl⟩, fun _ _ h => by obtain ⟨_, _, H⟩ := h; exact ⟨H.get 1 rfl, H.get 2 rfl, H.get 3 rfl, H.get 4 rfl⟩, trivial⟩ ⟨fun _ _ _ hkp H => H.keep hkp, fun _ _ _ hkp h => by obtain ⟨q0, q1, H⟩ := h; exact ⟨q0, q1, H.keep hkp⟩, trivial⟩ H_6 ?_ ?_
    ·
      refine .plain rfl (Pl_y rfl (fun w hBw => Y_ldrb T_row24 hBw.1 e_2_6 (by rw [ua_size]; exact (w4_wd ((v * v % Lm.p) * v % Lm.p)).1))) ?_
      refine .plain rfl (Pl_y rfl (fun w hBw => Y_ldrb T_row24 hBw.1 e_2_6 (by rw [ua_size]; exact (w4_wd ((v * v % Lm.p) * v % Lm.p)).1))) ?_
      refine .plain rfl (Pl_c rfl T_en34 (A2 rfl rfl) (fun w hBw => mul_n ((v * v % Lm.p) * v % Lm.p) ((v * v % Lm.p) * v % Lm.p) (Lm.modp_lt _) (Lm.modp_lt _) _)) ?_
      refine .plain rfl (Pl_y rfl (fun w hBw => Y_ldrb T_row24 hBw.2.2.1 e_2_3 (by rw [ua_size]; exact (w4_wd v).1))) ?_
      refine .plain rfl (Pl_c rfl T_en34 (A2 rfl rfl) (fun w hBw => mul_n (((v * v % Lm.p) * v % Lm.p) * ((v * v % Lm.p) * v % Lm.p) % Lm.p) v (Lm.modp_lt _) hv _)) ?_
      refine .special 0 rfl (Special.of ⟨⟨trivial, fun _ _ _ e' w' hAg hYs => by
          have H : Hp w0 [] w' [.blk bk6_ 24 (ua .u64 (Lm.w4 ((v * v % Lm.p) * v % Lm.p))), .blk bk4 24 (ua .u64 [0, 0, 0, 0]), .blk bk3 24 (ua .u64 (Lm.w4 v)), .blk bk2 24 (ua .u64 (Lm.w4 u))] := hYs
          exact ⟨rfl, Dn_alloc H T_zero24 (fun b w2 Hn => ⟨_, rfl, Hn⟩)⟩⟩, fun h => absurd h (by decide)⟩) ?_
      exact .nil _
    ·
      intro e_3 w_7 hAg hYs
      obtain ⟨bk7_, q0, H_7⟩ := hYs
      have e_3_7 : e_3 7 = Value.pointer (some ⟨bk7_, 0, none⟩) := Option.some.inj q0
      have e_3_2 : e_3 2 = Value.pointer (some ⟨bk2, 0, none⟩) := (hAg 2 rfl).trans e_2_2
      have e_3_3 : e_3 3 = Value.pointer (some ⟨bk3, 0, none⟩) := (hAg 3 rfl).trans e_2_3
      have e_3_4 : e_3 4 = Value.pointer (some ⟨bk4, 0, none⟩) := (hAg 4 rfl).trans e_2_4
      have e_3_6 : e_3 6 = Value.pointer (some ⟨bk6_, 0, none⟩) := (hAg 6 rfl).trans e_2_6
      have e_3_21 : e_3 21 = Value.agg (ua .u64 (Lm.w4 ((((v * v % Lm.p) * v % Lm.p) * ((v * v % Lm.p) * v % Lm.p) % Lm.p) * v % Lm.p))) := (hAg 21 rfl).trans rfl
      refine L_str (ds := ua .u64 (Lm.w4 ((((v * v % Lm.p) * v % Lm.p) * ((v * v % Lm.p) * v % Lm.p) % Lm.p) * v % Lm.p))) T_row24 H_7 (i := 0) rfl e_3_7 e_3_21 rfl (by rw [ua_size]; exact (w4_wd ((((v * v % Lm.p) * v % Lm.p) * ((v * v % Lm.p) * v % Lm.p) % Lm.p) * v % Lm.p)).1) (ua_one _ _) (l' := [.blk bk7_ 24 (ua .u64 (Lm.w4 ((((v * v % Lm.p) * v % Lm.p) * ((v * v % Lm.p) * v % Lm.p) % Lm.p) * v % Lm.p))), .blk bk6_ 24 (ua .u64 (Lm.w4 ((v * v % Lm.p) * v % Lm.p))), .blk bk4 24 (ua .u64 [0, 0, 0, 0]), .blk bk3 24 (ua .u64 (Lm.w4 v)), .blk bk2 24 (ua .u64 (Lm.w4 u))]) rfl ?_; intro w_8 H_8
      refine L_nil ?_
      refine Th_n ?_
      refine W_seq ?_
      refine W_quiet H_8 5 [Value.agg (ua .u64 (Lm.w4 u)), Value.agg (ua .u64 (Lm.w4 ((v * v % Lm.p) * v % Lm.p))), Value.agg (ua .u64 (Lm.w4 (u * ((v * v % Lm.p) * v % Lm.p) % Lm.p))), Value.agg (ua .u64 (Lm.w4 u)), Value.agg (ua .u64 (Lm.w4 ((((v * v % Lm.p) * v % Lm.p) * ((v * v % Lm.p) * v % Lm.p) % Lm.p) * v % Lm.p)))] T_mixed (by kernel_rfl) ?_ ?_
      ·
        refine .plain rfl (Pl_y rfl (fun w hBw => Y_ldr T_row24 hBw (i := 4) rfl e_3_2 (by rw [ua_size]; exact (w4_wd u).1))) ?_
        refine .plain rfl (Pl_y rfl (fun w hBw => Y_ldr T_row24 hBw (i := 1) rfl e_3_6 (by rw [ua_size]; exact (w4_wd ((v * v % Lm.p) * v % Lm.p)).1))) ?_
        refine .plain rfl (Pl_c rfl T_en34 (A2 rfl rfl) (fun w hBw => mul_n u ((v * v % Lm.p) * v % Lm.p) hu (Lm.modp_lt _) _)) ?_
        refine .plain rfl (Pl_y rfl (fun w hBw => Y_ldr T_row24 hBw (i := 4) rfl e_3_2 (by rw [ua_size]; exact (w4_wd u).1))) ?_
        refine .plain rfl (Pl_y rfl (fun w hBw => Y_ldr T_row24 hBw (i := 0) rfl e_3_7 (by rw [ua_size]; exact (w4_wd ((((v * v % Lm.p) * v % Lm.p) * ((v * v % Lm.p) * v % Lm.p) % Lm.p) * v % Lm.p)).1))) ?_
        exact .nil _
      ·
        intro e_4 w_9 hAg H_9
        have e_4_2 : e_4 2 = Value.pointer (some ⟨bk2, 0, none⟩) := (hAg 2 rfl).trans e_3_2
        have e_4_3 : e_4 3 = Value.pointer (some ⟨bk3, 0, none⟩) := (hAg 3 rfl).trans e_3_3
        have e_4_4 : e_4 4 = Value.pointer (some ⟨bk4, 0, none⟩) := (hAg 4 rfl).trans e_3_4
        have e_4_24 : e_4 24 = Value.agg (ua .u64 (Lm.w4 (u * ((v * v % Lm.p) * v % Lm.p) % Lm.p))) := (hAg 24 rfl).trans rfl
        have e_4_25 : e_4 25 = Value.agg (ua .u64 (Lm.w4 u)) := (hAg 25 rfl).trans rfl
        have e_4_26 : e_4 26 = Value.agg (ua .u64 (Lm.w4 ((((v * v % Lm.p) * v % Lm.p) * ((v * v % Lm.p) * v % Lm.p) % Lm.p) * v % Lm.p))) := (hAg 26 rfl).trans rfl
        refine L_callv rfl rfl T_en34 (A2 e_4_25 e_4_26) ((mul_n u ((((v * v % Lm.p) * v % Lm.p) * ((v * v % Lm.p) * v % Lm.p) % Lm.p) * v % Lm.p) hu (Lm.modp_lt _) _).mono (fun r_ w' h => (⟨u * ((((v * v % Lm.p) * v % Lm.p) * ((v * v % Lm.p) * v % Lm.p) % Lm.p) * v % Lm.p) % Lm.p, rfl, h⟩ : ∃ (N27 : Nat), N27 = u * ((((v * v % Lm.p) * v % Lm.p) * ((v * v % Lm.p) * v % Lm.p) % Lm.p) * v % Lm.p) % Lm.p ∧ r_ = .returned (Value.agg (ua .u64 (Lm.w4 N27))) ∧ Keep w_9 w'))) ?_
        rintro _ w_10 ⟨N27, hN27, rfl, hkp⟩; refine ⟨_, rfl, ?_⟩; have H_10 := H_9.keep hkp
        refine L_callv rfl rfl T_en60 (A0) (prime_spec _) ?_
        rintro _ w_11 ⟨rfl, hkp_2⟩; refine ⟨_, rfl, ?_⟩; have H_11 := H_10.keep hkp_2
        refine L_callv rfl rfl T_en59 (A2 rfl rfl) (down3_w _) ?_
        rintro _ w_12 ⟨rfl, hkp_3⟩; refine ⟨_, rfl, ?_⟩; have H_12 := H_11.keep hkp_3
        refine L_callv rfl rfl T_en58 (A2 rfl rfl) ((pow_n N27 7237005577332262213973186563042994240829374041602535252466099000494570602493 (Lm.ltp hN27) (by decide) _).mono (fun r_ w' h => (⟨Lm.powm N27 7237005577332262213973186563042994240829374041602535252466099000494570602493, rfl, h⟩ : ∃ (N30 : Nat), N30 = Lm.powm N27 7237005577332262213973186563042994240829374041602535252466099000494570602493 ∧ r_ = .returned (Value.agg (ua .u64 (Lm.w4 N30))) ∧ Keep w_12 w'))) ?_
        rintro _ w_13 ⟨N30, hN30, rfl, hkp_4⟩; refine ⟨_, rfl, ?_⟩; have H_13 := H_12.keep hkp_4
        refine L_callv rfl rfl T_en34 (A2 e_4_24 rfl) ((mul_n (u * ((v * v % Lm.p) * v % Lm.p) % Lm.p) N30 (Lm.modp_lt _) (Lm.ltw hN30) _).mono (fun r_ w' h => (⟨(u * ((v * v % Lm.p) * v % Lm.p) % Lm.p) * N30 % Lm.p, rfl, h⟩ : ∃ (N31 : Nat), N31 = (u * ((v * v % Lm.p) * v % Lm.p) % Lm.p) * N30 % Lm.p ∧ r_ = .returned (Value.agg (ua .u64 (Lm.w4 N31))) ∧ Keep w_13 w'))) ?_
        rintro _ w_14 ⟨N31, hN31, rfl, hkp_5⟩; refine ⟨_, rfl, ?_⟩; have H_14 := H_13.keep hkp_5
        refine L_str (ds := ua .u64 (Lm.w4 N31)) T_row24 H_14 (i := 2) rfl e_4_4 rfl rfl (by rw [ua_size]; exact (w4_wd N31).1) (ua_one _ _) (l' := [.blk bk7_ 24 (ua .u64 (Lm.w4 ((((v * v % Lm.p) * v % Lm.p) * ((v * v % Lm.p) * v % Lm.p) % Lm.p) * v % Lm.p))), .blk bk6_ 24 (ua .u64 (Lm.w4 ((v * v % Lm.p) * v % Lm.p))), .blk bk4 24 (ua .u64 (Lm.w4 N31)), .blk bk3 24 (ua .u64 (Lm.w4 v)), .blk bk2 24 (ua .u64 (Lm.w4 u))]) rfl ?_; intro w_15 H_15
        refine L_nil ?_
        refine Th_n ?_
        refine W_seq ?_
        refine W_anyL 6 [5] [8] [Value.agg (ua .u64 (Lm.w4 v)), Value.agg (ua .u64 (Lm.w4 N31)), Value.agg (ua .u64 (Lm.w4 N31)), Value.agg (ua .u64 (Lm.w4 (N31 * N31 % Lm.p))), Value.agg (ua .u64 (Lm.w4 (v * (N31 * N31 % Lm.p) % Lm.p))), undef] (fun w => w.heap[bk7_]? = some (.cells (ua .u64 (Lm.w4 ((((v * v % Lm.p) * v % Lm.p) * ((v * v % Lm.p) * v % Lm.p) % Lm.p) * v % Lm.p))) 24 (0, 0)) ∧ w.heap[bk6_]? = some (.cells (ua .u64 (Lm.w4 ((v * v % Lm.p) * v % Lm.p))) 24 (0, 0)) ∧ w.heap[bk4]? = some (.cells (ua .u64 (Lm.w4 N31)) 24 (0, 0)) ∧ w.heap[bk3]? = some (.cells (ua .u64 (Lm.w4 v)) 24 (0, 0)) ∧ w.heap[bk2]? = some (.cells (ua .u64 (Lm.w4 u)) 24 (0, 0))) [fun vs w => Hp w0 [] w [.blk bk7_ 24 (ua .u64 (Lm.w4 ((((v * v % Lm.p) * v % Lm.p) * ((v * v % Lm.p) * v % Lm.p) % Lm.p) * v % Lm.p))), .blk bk6_ 24 (ua .u64 (Lm.w4 ((v * v % Lm.p) * v % Lm.p))), .blk bk4 24 (ua .u64 (Lm.w4 N31)), .blk bk3 24 (ua .u64 (Lm.w4 v)), .blk bk2 24 (ua .u64 (Lm.w4 u))], fun vs w => ∃ bk8_, vs[0]? = some (Value.pointer (some ⟨bk8_, 0, none⟩)) ∧ Hp w0 [] w [Ent.blk bk8_ 24 (ua .u64 [0, 0, 0, 0]), .blk bk7_ 24 (ua .u64 (Lm.w4 ((((v * v % Lm.p) * v % Lm.p) * ((v * v % Lm.p) * v % Lm.p) % Lm.p) * v % Lm.p))), .blk bk6_ 24 (ua .u64 (Lm.w4 ((v * v % Lm.p) * v % Lm.p))), .blk bk4 24 (ua .u64 (Lm.w4 N31)), .blk bk3 24 (ua .u64 (Lm.w4 v)), .blk bk2 24 (ua .u64 (Lm.w4 u))]] T_mixed (by kernel_rfl) ⟨fun _ _ H => ⟨H.get 0 rfl, H.get 1 rfl, H.get 2 rfl, H.get 3 rfl, H.get 4 rfl⟩, fun _ _ h => by obtain ⟨_, _, H⟩ := h; exact ⟨H.get 1 rfl, H.get 2 rfl, H.get 3 rfl, H.get 4 rfl, H.get 5 rfl⟩, trivial⟩ ⟨fun _ _ _ hkp H => H.keep hkp, fun _ _ _ hkp h => by obtain ⟨q0, q1, H⟩ := h; exact ⟨q0, q1, H.keep hkp⟩, trivial⟩ H_15 ?_ ?_
        ·
          refine .plain rfl (Pl_y rfl (fun w hBw => Y_ldrb T_row24 hBw.2.2.2.1 e_4_3 (by rw [ua_size]; exact (w4_wd v).1))) ?_
          refine .plain rfl (Pl_y rfl (fun w hBw => Y_ldrb T_row24 hBw.2.2.1 e_4_4 (by rw [ua_size]; exact (w4_wd N31).1))) ?_
          refine .plain rfl (Pl_y rfl (fun w hBw => Y_ldrb T_row24 hBw.2.2.1 e_4_4 (by rw [ua_size]; exact (w4_wd N31).1))) ?_
          refine .plain rfl (Pl_c rfl T_en34 (A2 rfl rfl) (fun w hBw => mul_n N31 N31 (Lm.ltp hN31) (Lm.ltp hN31) _)) ?_
          refine .plain rfl (Pl_c rfl T_en34 (A2 rfl rfl) (fun w hBw => mul_n v (N31 * N31 % Lm.p) hv (Lm.modp_lt _) _)) ?_
          refine .special 0 rfl (Special.of ⟨⟨trivial, fun _ _ _ e' w' hAg hYs => by
              have H : Hp w0 [] w' [.blk bk7_ 24 (ua .u64 (Lm.w4 ((((v * v % Lm.p) * v % Lm.p) * ((v * v % Lm.p) * v % Lm.p) % Lm.p) * v % Lm.p))), .blk bk6_ 24 (ua .u64 (Lm.w4 ((v * v % Lm.p) * v % Lm.p))), .blk bk4 24 (ua .u64 (Lm.w4 N31)), .blk bk3 24 (ua .u64 (Lm.w4 v)), .blk bk2 24 (ua .u64 (Lm.w4 u))] := hYs
              exact ⟨rfl, Dn_alloc H T_zero24 (fun b w2 Hn => ⟨_, rfl, Hn⟩)⟩⟩, fun h => absurd h (by decide)⟩) ?_
          exact .nil _
        ·
          intro e_5 w_16 hAg hYs
          obtain ⟨bk8_, q0, H_16⟩ := hYs
          have e_5_8 : e_5 8 = Value.pointer (some ⟨bk8_, 0, none⟩) := Option.some.inj q0
          have e_5_2 : e_5 2 = Value.pointer (some ⟨bk2, 0, none⟩) := (hAg 2 rfl).trans e_4_2
          have e_5_4 : e_5 4 = Value.pointer (some ⟨bk4, 0, none⟩) := (hAg 4 rfl).trans e_4_4
          have e_5_36 : e_5 36 = Value.agg (ua .u64 (Lm.w4 (v * (N31 * N31 % Lm.p) % Lm.p))) := (hAg 36 rfl).trans rfl
          refine L_str (ds := ua .u64 (Lm.w4 (v * (N31 * N31 % Lm.p) % Lm.p))) T_row24 H_16 (i := 0) rfl e_5_8 e_5_36 rfl (by rw [ua_size]; exact (w4_wd (v * (N31 * N31 % Lm.p) % Lm.p)).1) (ua_one _ _) (l' := [.blk bk8_ 24 (ua .u64 (Lm.w4 (v * (N31 * N31 % Lm.p) % Lm.p))), .blk bk7_ 24 (ua .u64 (Lm.w4 ((((v * v % Lm.p) * v % Lm.p) * ((v * v % Lm.p) * v % Lm.p) % Lm.p) * v % Lm.p))), .blk bk6_ 24 (ua .u64 (Lm.w4 ((v * v % Lm.p) * v % Lm.p))), .blk bk4 24 (ua .u64 (Lm.w4 N31)), .blk bk3 24 (ua .u64 (Lm.w4 v)), .blk bk2 24 (ua .u64 (Lm.w4 u))]) rfl ?_; intro w_17 H_17
          refine L_nil ?_
          refine Th_n ?_
          refine W_seq ?_
          refine W_rg ?_
          refine L_callv rfl rfl T_en61 (A0) (i_n _) ?_
          rintro _ w_18 ⟨rfl, hkp_6⟩; refine ⟨_, rfl, ?_⟩; have H_18 := H_17.keep hkp_6
          refine L_alloc rfl H_18 T_zero24 ?_; intro bk9 w_19 H_19
          refine L_str (ds := ua .u64 (Lm.w4 Lm.ii)) T_row24 H_19 (i := 0) rfl rfl rfl rfl (by rw [ua_size]; exact (w4_wd Lm.ii).1) (ua_one _ _) (l' := [.blk bk9 24 (ua .u64 (Lm.w4 Lm.ii)), .blk bk8_ 24 (ua .u64 (Lm.w4 (v * (N31 * N31 % Lm.p) % Lm.p))), .blk bk7_ 24 (ua .u64 (Lm.w4 ((((v * v % Lm.p) * v % Lm.p) * ((v * v % Lm.p) * v % Lm.p) % Lm.p) * v % Lm.p))), .blk bk6_ 24 (ua .u64 (Lm.w4 ((v * v % Lm.p) * v % Lm.p))), .blk bk4 24 (ua .u64 (Lm.w4 N31)), .blk bk3 24 (ua .u64 (Lm.w4 v)), .blk bk2 24 (ua .u64 (Lm.w4 u))]) rfl ?_; intro w_20 H_20
          refine L_nil ?_
          refine Th_n ?_
          refine W_seq ?_
          refine W_quiet H_20 6 [Value.agg (ua .u64 (Lm.w4 (v * (N31 * N31 % Lm.p) % Lm.p))), Value.agg (ua .u64 (Lm.w4 u)), Value.bool (decide ((v * (N31 * N31 % Lm.p) % Lm.p) % Lm.p = u % Lm.p)), Value.agg (ua .u64 (Lm.w4 (v * (N31 * N31 % Lm.p) % Lm.p))), Value.agg (ua .u64 (Lm.w4 u)), Value.agg (ua .u64 (Lm.w4 ((Lm.p - u % Lm.p) % Lm.p)))] T_mixed (by kernel_rfl) ?_ ?_
          ·
            refine .plain rfl (Pl_y rfl (fun w hBw => Y_ldr T_row24 hBw (i := 1) rfl e_5_8 (by rw [ua_size]; exact (w4_wd (v * (N31 * N31 % Lm.p) % Lm.p)).1))) ?_
            refine .plain rfl (Pl_y rfl (fun w hBw => Y_ldr T_row24 hBw (i := 6) rfl e_5_2 (by rw [ua_size]; exact (w4_wd u).1))) ?_
            refine .plain rfl (Pl_c rfl T_en50 (A2 rfl rfl) (fun w hBw => same_n (v * (N31 * N31 % Lm.p) % Lm.p) u (Lm.modp_lt _) hu _)) ?_
            refine .plain rfl (Pl_y rfl (fun w hBw => Y_ldr T_row24 hBw (i := 1) rfl e_5_8 (by rw [ua_size]; exact (w4_wd (v * (N31 * N31 % Lm.p) % Lm.p)).1))) ?_
            refine .plain rfl (Pl_y rfl (fun w hBw => Y_ldr T_row24 hBw (i := 6) rfl e_5_2 (by rw [ua_size]; exact (w4_wd u).1))) ?_
            refine .plain rfl (Pl_c rfl T_en39 (A1 rfl) (fun w hBw => neg_n u hu _)) ?_
            exact .nil _
          ·
            intro e_6 w_21 hAg H_21
            have e_6_2 : e_6 2 = Value.pointer (some ⟨bk2, 0, none⟩) := (hAg 2 rfl).trans e_5_2
            have e_6_4 : e_6 4 = Value.pointer (some ⟨bk4, 0, none⟩) := (hAg 4 rfl).trans e_5_4
            have e_6_8 : e_6 8 = Value.pointer (some ⟨bk8_, 0, none⟩) := (hAg 8 rfl).trans e_5_8
            have e_6_9 : e_6 9 = Value.pointer (some ⟨bk9, 0, none⟩) := (hAg 9 rfl).trans rfl
            have e_6_40 : e_6 40 = Value.bool (decide ((v * (N31 * N31 % Lm.p) % Lm.p) % Lm.p = u % Lm.p)) := (hAg 40 rfl).trans rfl
            have e_6_41 : e_6 41 = Value.agg (ua .u64 (Lm.w4 (v * (N31 * N31 % Lm.p) % Lm.p))) := (hAg 41 rfl).trans rfl
            have e_6_43 : e_6 43 = Value.agg (ua .u64 (Lm.w4 ((Lm.p - u % Lm.p) % Lm.p))) := (hAg 43 rfl).trans rfl
            refine L_callv rfl rfl T_en50 (A2 e_6_41 e_6_43) (same_n (v * (N31 * N31 % Lm.p) % Lm.p) ((Lm.p - u % Lm.p) % Lm.p) (Lm.modp_lt _) (Lm.modp_lt _) _) ?_
            rintro _ w_22 ⟨rfl, hkp_7⟩; refine ⟨_, rfl, ?_⟩; have H_22 := H_21.keep hkp_7
            refine L_as rfl ?_
            refine L_as rfl ?_
            refine L_nil ?_
            refine Th_n ?_
            refine W_seq ?_
            refine W_seq ?_
            rcases Bool.eq_false_or_eq_true (decide ((v * (N31 * N31 % Lm.p) % Lm.p) % Lm.p = ((Lm.p - u % Lm.p) % Lm.p) % Lm.p)) with hb | hb
            ·
              refine W_quiet H_22 7 [Value.bool (decide ((v * (N31 * N31 % Lm.p) % Lm.p) % Lm.p = ((Lm.p - u % Lm.p) % Lm.p) % Lm.p)), Value.bool (decide ((v * (N31 * N31 % Lm.p) % Lm.p) % Lm.p = ((Lm.p - u % Lm.p) % Lm.p) % Lm.p)), undef, undef, undef, undef, undef] T_mixed (by kernel_rfl) ?_ ?_
              ·
                refine .plain rfl (Pl_y rfl (fun w hBw => rfl)) ?_
                refine .plain rfl (Pl_y rfl (fun w hBw => rfl)) ?_
                refine .plain rfl (Pl_n (wN (b := false) rfl (congrArg Value.bool hb))) ?_
                refine .plain rfl (Pl_n (wN (b := false) rfl (congrArg Value.bool hb))) ?_
                refine .plain rfl (Pl_n (wN (b := false) rfl (congrArg Value.bool hb))) ?_
                refine .plain rfl (Pl_n (wN (b := false) rfl (congrArg Value.bool hb))) ?_
                refine .plain rfl (Pl_n (wN (b := false) rfl (congrArg Value.bool hb))) ?_
                exact .nil _
              ·
                intro e_7 w_23 hAg H_23
                have e_7_4 : e_7 4 = Value.pointer (some ⟨bk4, 0, none⟩) := (hAg 4 rfl).trans e_6_4
                have e_7_9 : e_7 9 = Value.pointer (some ⟨bk9, 0, none⟩) := (hAg 9 rfl).trans e_6_9
                have e_7_10 : e_7 10 = Value.bool (decide ((v * (N31 * N31 % Lm.p) % Lm.p) % Lm.p = u % Lm.p)) := (hAg 10 rfl).trans e_6_40
                have e_7_11 : e_7 11 = Value.bool (decide ((v * (N31 * N31 % Lm.p) % Lm.p) % Lm.p = ((Lm.p - u % Lm.p) % Lm.p) % Lm.p)) := (hAg 11 rfl).trans rfl
                have e_7_46 : e_7 46 = Value.bool (decide ((v * (N31 * N31 % Lm.p) % Lm.p) % Lm.p = ((Lm.p - u % Lm.p) % Lm.p) % Lm.p)) := (hAg 46 rfl).trans rfl
                have e_7_47 : e_7 47 = undef := (hAg 47 rfl).trans rfl
                have e_7_51 : e_7 51 = undef := (hAg 51 rfl).trans rfl
                refine G_no (wN (b := false) rfl (e_7_46.trans (congrArg Value.bool hb))) rfl ?_
                refine L_y rfl (Y_pickT (e_7_46.trans (congrArg Value.bool hb))) ?_
                refine L_nil ?_
                refine Th_n ?_
                refine W_true rfl ?_
                refine W_rg ?_
                refine L_y rfl (Y_ldr T_row24 H_23 (i := 4) rfl e_7_4 (by rw [ua_size]; exact (w4_wd N31).1)) ?_
                refine L_y rfl (Y_ldr T_row24 H_23 (i := 0) rfl e_7_9 (by rw [ua_size]; exact (w4_wd Lm.ii).1)) ?_
                refine L_callv rfl rfl T_en34 (A2 rfl rfl) ((mul_n N31 Lm.ii (Lm.ltp hN31) (by decide) _).mono (fun r_ w' h => (⟨N31 * Lm.ii % Lm.p, rfl, h⟩ : ∃ (N56 : Nat), N56 = N31 * Lm.ii % Lm.p ∧ r_ = .returned (Value.agg (ua .u64 (Lm.w4 N56))) ∧ Keep w_23 w'))) ?_
                rintro _ w_24 ⟨N56, hN56, rfl, hkp_8⟩; refine ⟨_, rfl, ?_⟩; have H_24 := H_23.keep hkp_8
                refine L_str (ds := ua .u64 (Lm.w4 N56)) T_row24 H_24 (i := 4) rfl e_7_4 rfl (by rw [ua_size]; exact (w4_wd N31).1) (by rw [ua_size]; exact (w4_wd N56).1) (ua_one _ _) (l' := [.blk bk9 24 (ua .u64 (Lm.w4 Lm.ii)), .blk bk8_ 24 (ua .u64 (Lm.w4 (v * (N31 * N31 % Lm.p) % Lm.p))), .blk bk7_ 24 (ua .u64 (Lm.w4 ((((v * v % Lm.p) * v % Lm.p) * ((v * v % Lm.p) * v % Lm.p) % Lm.p) * v % Lm.p))), .blk bk6_ 24 (ua .u64 (Lm.w4 ((v * v % Lm.p) * v % Lm.p))), .blk bk4 24 (ua .u64 (Lm.w4 N56)), .blk bk3 24 (ua .u64 (Lm.w4 v)), .blk bk2 24 (ua .u64 (Lm.w4 u))]) rfl ?_; intro w_25 H_25
                refine L_nil ?_
                refine Th_n ?_
                refine W_seq ?_
                refine W_rg ?_
                refine L_y rfl (Y_ldr T_row24 H_25 (i := 4) rfl e_7_4 (by rw [ua_size]; exact (w4_wd N56).1)) ?_
                refine L_callv rfl rfl T_en62 (A1 rfl) ((abs_n N56 (Lm.ltp hN56) _).mono (fun r_ w' h => (⟨Lm.absm N56, rfl, h⟩ : ∃ (N58 : Nat), N58 = Lm.absm N56 ∧ r_ = .returned (Value.agg (ua .u64 (Lm.w4 N58))) ∧ Keep w_25 w'))) ?_
                rintro _ w_26 ⟨N58, hN58, rfl, hkp_9⟩; refine ⟨_, rfl, ?_⟩; have H_26 := H_25.keep hkp_9
                refine L_mv rfl ?_
                refine L_mv rfl ?_
                rcases Bool.eq_false_or_eq_true (decide ((v * (N31 * N31 % Lm.p) % Lm.p) % Lm.p = u % Lm.p)) with hb_2 | hb_2
                ·
                  refine G_no (wN (b := false) rfl (e_7_10.trans (congrArg Value.bool hb_2))) rfl ?_
                  refine L_y rfl (Y_pickT (e_7_10.trans (congrArg Value.bool hb_2))) ?_
                  refine L_str (ds := ua .u64 (Lm.w4 N58)) T_row24 H_26 (i := 4) rfl e_7_4 rfl (by rw [ua_size]; exact (w4_wd N56).1) (by rw [ua_size]; exact (w4_wd N58).1) (ua_one _ _) (l' := [.blk bk9 24 (ua .u64 (Lm.w4 Lm.ii)), .blk bk8_ 24 (ua .u64 (Lm.w4 (v * (N31 * N31 % Lm.p) % Lm.p))), .blk bk7_ 24 (ua .u64 (Lm.w4 ((((v * v % Lm.p) * v % Lm.p) * ((v * v % Lm.p) * v % Lm.p) % Lm.p) * v % Lm.p))), .blk bk6_ 24 (ua .u64 (Lm.w4 ((v * v % Lm.p) * v % Lm.p))), .blk bk4 24 (ua .u64 (Lm.w4 N58)), .blk bk3 24 (ua .u64 (Lm.w4 v)), .blk bk2 24 (ua .u64 (Lm.w4 u))]) rfl ?_; intro w_27 H_27
                  refine L_as rfl ?_
                  refine L_nil ?_
                  refine Th_n ?_
                  refine W_ret ?_
                  refine P_ret (vs := [Value.agg (ua .u64 (Lm.w4 N58)), Value.bool true]) (v := Value.tuple #[Value.agg (ua .u64 (Lm.w4 N58)), Value.bool true]) rfl (.cell e_7_4 (loadVar_row T_row24 H_27 (i := 4) rfl (by rw [ua_size]; exact (w4_wd N58).1)) (.tmp rfl (Res.nil))) rfl ?_
                  refine ⟨?_, H_27.nil_⟩
                  subst hN58 hN56 hN31 hN30 hN27
                  exact root_fin11 (.inl hb) hb_2 rfl
                ·
                  refine G_mv (wE rfl (e_7_10.trans (congrArg Value.bool hb_2))) rfl ?_
                  refine L_y rfl (Y_pickF (e_7_10.trans (congrArg Value.bool hb_2))) ?_
                  refine L_str (ds := ua .u64 (Lm.w4 N58)) T_row24 H_26 (i := 4) rfl e_7_4 rfl (by rw [ua_size]; exact (w4_wd N56).1) (by rw [ua_size]; exact (w4_wd N58).1) (ua_one _ _) (l' := [.blk bk9 24 (ua .u64 (Lm.w4 Lm.ii)), .blk bk8_ 24 (ua .u64 (Lm.w4 (v * (N31 * N31 % Lm.p) % Lm.p))), .blk bk7_ 24 (ua .u64 (Lm.w4 ((((v * v % Lm.p) * v % Lm.p) * ((v * v % Lm.p) * v % Lm.p) % Lm.p) * v % Lm.p))), .blk bk6_ 24 (ua .u64 (Lm.w4 ((v * v % Lm.p) * v % Lm.p))), .blk bk4 24 (ua .u64 (Lm.w4 N58)), .blk bk3 24 (ua .u64 (Lm.w4 v)), .blk bk2 24 (ua .u64 (Lm.w4 u))]) rfl ?_; intro w_28 H_28
                  refine L_as rfl ?_
                  refine L_nil ?_
                  refine Th_n ?_
                  refine W_ret ?_
                  refine P_ret (vs := [Value.agg (ua .u64 (Lm.w4 N58)), Value.bool (decide ((v * (N31 * N31 % Lm.p) % Lm.p) % Lm.p = ((Lm.p - u % Lm.p) % Lm.p) % Lm.p))]) (v := Value.tuple #[Value.agg (ua .u64 (Lm.w4 N58)), Value.bool (decide ((v * (N31 * N31 % Lm.p) % Lm.p) % Lm.p = ((Lm.p - u % Lm.p) % Lm.p) % Lm.p))]) rfl (.cell e_7_4 (loadVar_row T_row24 H_28 (i := 4) rfl (by rw [ua_size]; exact (w4_wd N58).1)) (.tmp e_7_11 (Res.nil))) rfl ?_
                  refine ⟨?_, H_28.nil_⟩
                  subst hN58 hN56 hN31 hN30 hN27
                  exact root_fin10 (.inl hb) hb_2 rfl rfl
            ·
              refine W_quiet H_22 7 [Value.bool (decide ((v * (N31 * N31 % Lm.p) % Lm.p) % Lm.p = ((Lm.p - u % Lm.p) % Lm.p) % Lm.p)), Value.bool (decide ((v * (N31 * N31 % Lm.p) % Lm.p) % Lm.p = ((Lm.p - u % Lm.p) % Lm.p) % Lm.p)), Value.agg (ua .u64 (Lm.w4 (v * (N31 * N31 % Lm.p) % Lm.p))), Value.agg (ua .u64 (Lm.w4 u)), Value.agg (ua .u64 (Lm.w4 Lm.ii)), Value.agg (ua .u64 (Lm.w4 (u * Lm.ii % Lm.p))), Value.agg (ua .u64 (Lm.w4 ((Lm.p - (u * Lm.ii % Lm.p) % Lm.p) % Lm.p)))] T_mixed (by kernel_rfl) ?_ ?_
              ·
                refine .plain rfl (Pl_y rfl (fun w hBw => rfl)) ?_
                refine .plain rfl (Pl_y rfl (fun w hBw => rfl)) ?_
                refine .plain rfl (Pl_y (wE rfl (congrArg Value.bool hb)) (fun w hBw => Y_ldr T_row24 hBw (i := 1) rfl e_6_8 (by rw [ua_size]; exact (w4_wd (v * (N31 * N31 % Lm.p) % Lm.p)).1))) ?_
                refine .plain rfl (Pl_y (wE rfl (congrArg Value.bool hb)) (fun w hBw => Y_ldr T_row24 hBw (i := 6) rfl e_6_2 (by rw [ua_size]; exact (w4_wd u).1))) ?_
                refine .plain rfl (Pl_y (wE rfl (congrArg Value.bool hb)) (fun w hBw => Y_ldr T_row24 hBw (i := 0) rfl e_6_9 (by rw [ua_size]; exact (w4_wd Lm.ii).1))) ?_
                refine .plain rfl (Pl_c (wE rfl (congrArg Value.bool hb)) T_en34 (A2 rfl rfl) (fun w hBw => mul_n u Lm.ii hu (by decide) _)) ?_
                refine .plain rfl (Pl_c (wE rfl (congrArg Value.bool hb)) T_en39 (A1 rfl) (fun w hBw => neg_n (u * Lm.ii % Lm.p) (Lm.modp_lt _) _)) ?_
                exact .nil _
              ·
                intro e_8 w_29 hAg H_29
                have e_8_4 : e_8 4 = Value.pointer (some ⟨bk4, 0, none⟩) := (hAg 4 rfl).trans e_6_4
                have e_8_9 : e_8 9 = Value.pointer (some ⟨bk9, 0, none⟩) := (hAg 9 rfl).trans e_6_9
                have e_8_10 : e_8 10 = Value.bool (decide ((v * (N31 * N31 % Lm.p) % Lm.p) % Lm.p = u % Lm.p)) := (hAg 10 rfl).trans e_6_40
                have e_8_11 : e_8 11 = Value.bool (decide ((v * (N31 * N31 % Lm.p) % Lm.p) % Lm.p = ((Lm.p - u % Lm.p) % Lm.p) % Lm.p)) := (hAg 11 rfl).trans rfl
                have e_8_46 : e_8 46 = Value.bool (decide ((v * (N31 * N31 % Lm.p) % Lm.p) % Lm.p = ((Lm.p - u % Lm.p) % Lm.p) % Lm.p)) := (hAg 46 rfl).trans rfl
                have e_8_47 : e_8 47 = Value.agg (ua .u64 (Lm.w4 (v * (N31 * N31 % Lm.p) % Lm.p))) := (hAg 47 rfl).trans rfl
                have e_8_51 : e_8 51 = Value.agg (ua .u64 (Lm.w4 ((Lm.p - (u * Lm.ii % Lm.p) % Lm.p) % Lm.p))) := (hAg 51 rfl).trans rfl
                refine L_callv (wE rfl (e_8_46.trans (congrArg Value.bool hb))) rfl T_en50 (A2 e_8_47 e_8_51) (same_n (v * (N31 * N31 % Lm.p) % Lm.p) ((Lm.p - (u * Lm.ii % Lm.p) % Lm.p) % Lm.p) (Lm.modp_lt _) (Lm.modp_lt _) _) ?_
                rintro _ w_30 ⟨rfl, hkp_10⟩; refine ⟨_, rfl, ?_⟩; have H_30 := H_29.keep hkp_10
                refine L_y rfl (Y_pickF (e_8_46.trans (congrArg Value.bool hb))) ?_
                refine L_nil ?_
                refine Th_n ?_
                refine W_cond (b := (decide ((v * (N31 * N31 % Lm.p) % Lm.p) % Lm.p = ((Lm.p - (u * Lm.ii % Lm.p) % Lm.p) % Lm.p) % Lm.p))) rfl (fun hc => ?_) (fun hc => ?_)
                ·
                  have hc' := of_decide_eq_true hc
                  refine W_rg ?_
                  refine L_y rfl (Y_ldr T_row24 H_30 (i := 4) rfl e_8_4 (by rw [ua_size]; exact (w4_wd N31).1)) ?_
                  refine L_y rfl (Y_ldr T_row24 H_30 (i := 0) rfl e_8_9 (by rw [ua_size]; exact (w4_wd Lm.ii).1)) ?_
                  refine L_callv rfl rfl T_en34 (A2 rfl rfl) ((mul_n N31 Lm.ii (Lm.ltp hN31) (by decide) _).mono (fun r_ w' h => (⟨N31 * Lm.ii % Lm.p, rfl, h⟩ : ∃ (N56_2 : Nat), N56_2 = N31 * Lm.ii % Lm.p ∧ r_ = .returned (Value.agg (ua .u64 (Lm.w4 N56_2))) ∧ Keep w_30 w'))) ?_
                  rintro _ w_31 ⟨N56_2, hN56_2, rfl, hkp_11⟩; refine ⟨_, rfl, ?_⟩; have H_31 := H_30.keep hkp_11
                  refine L_str (ds := ua .u64 (Lm.w4 N56_2)) T_row24 H_31 (i := 4) rfl e_8_4 rfl (by rw [ua_size]; exact (w4_wd N31).1) (by rw [ua_size]; exact (w4_wd N56_2).1) (ua_one _ _) (l' := [.blk bk9 24 (ua .u64 (Lm.w4 Lm.ii)), .blk bk8_ 24 (ua .u64 (Lm.w4 (v * (N31 * N31 % Lm.p) % Lm.p))), .blk bk7_ 24 (ua .u64 (Lm.w4 ((((v * v % Lm.p) * v % Lm.p) * ((v * v % Lm.p) * v % Lm.p) % Lm.p) * v % Lm.p))), .blk bk6_ 24 (ua .u64 (Lm.w4 ((v * v % Lm.p) * v % Lm.p))), .blk bk4 24 (ua .u64 (Lm.w4 N56_2)), .blk bk3 24 (ua .u64 (Lm.w4 v)), .blk bk2 24 (ua .u64 (Lm.w4 u))]) rfl ?_; intro w_32 H_32
                  refine L_nil ?_
                  refine Th_n ?_
                  refine W_seq ?_
                  refine W_rg ?_
                  refine L_y rfl (Y_ldr T_row24 H_32 (i := 4) rfl e_8_4 (by rw [ua_size]; exact (w4_wd N56_2).1)) ?_
                  refine L_callv rfl rfl T_en62 (A1 rfl) ((abs_n N56_2 (Lm.ltp hN56_2) _).mono (fun r_ w' h => (⟨Lm.absm N56_2, rfl, h⟩ : ∃ (N58_2 : Nat), N58_2 = Lm.absm N56_2 ∧ r_ = .returned (Value.agg (ua .u64 (Lm.w4 N58_2))) ∧ Keep w_32 w'))) ?_
                  rintro _ w_33 ⟨N58_2, hN58_2, rfl, hkp_12⟩; refine ⟨_, rfl, ?_⟩; have H_33 := H_32.keep hkp_12
                  refine L_mv rfl ?_
                  refine L_mv rfl ?_
                  rcases Bool.eq_false_or_eq_true (decide ((v * (N31 * N31 % Lm.p) % Lm.p) % Lm.p = u % Lm.p)) with hb_3 | hb_3
                  ·
                    refine G_no (wN (b := false) rfl (e_8_10.trans (congrArg Value.bool hb_3))) rfl ?_
                    refine L_y rfl (Y_pickT (e_8_10.trans (congrArg Value.bool hb_3))) ?_
                    refine L_str (ds := ua .u64 (Lm.w4 N58_2)) T_row24 H_33 (i := 4) rfl e_8_4 rfl (by rw [ua_size]; exact (w4_wd N56_2).1) (by rw [ua_size]; exact (w4_wd N58_2).1) (ua_one _ _) (l' := [.blk bk9 24 (ua .u64 (Lm.w4 Lm.ii)), .blk bk8_ 24 (ua .u64 (Lm.w4 (v * (N31 * N31 % Lm.p) % Lm.p))), .blk bk7_ 24 (ua .u64 (Lm.w4 ((((v * v % Lm.p) * v % Lm.p) * ((v * v % Lm.p) * v % Lm.p) % Lm.p) * v % Lm.p))), .blk bk6_ 24 (ua .u64 (Lm.w4 ((v * v % Lm.p) * v % Lm.p))), .blk bk4 24 (ua .u64 (Lm.w4 N58_2)), .blk bk3 24 (ua .u64 (Lm.w4 v)), .blk bk2 24 (ua .u64 (Lm.w4 u))]) rfl ?_; intro w_34 H_34
                    refine L_as rfl ?_
                    refine L_nil ?_
                    refine Th_n ?_
                    refine W_ret ?_
                    refine P_ret (vs := [Value.agg (ua .u64 (Lm.w4 N58_2)), Value.bool true]) (v := Value.tuple #[Value.agg (ua .u64 (Lm.w4 N58_2)), Value.bool true]) rfl (.cell e_8_4 (loadVar_row T_row24 H_34 (i := 4) rfl (by rw [ua_size]; exact (w4_wd N58_2).1)) (.tmp rfl (Res.nil))) rfl ?_
                    refine ⟨?_, H_34.nil_⟩
                    subst hN58_2 hN56_2 hN31 hN30 hN27
                    exact root_fin11 (.inr hc) hb_3 rfl
                  ·
                    refine G_mv (wE rfl (e_8_10.trans (congrArg Value.bool hb_3))) rfl ?_
                    refine L_y rfl (Y_pickF (e_8_10.trans (congrArg Value.bool hb_3))) ?_
                    refine L_str (ds := ua .u64 (Lm.w4 N58_2)) T_row24 H_33 (i := 4) rfl e_8_4 rfl (by rw [ua_size]; exact (w4_wd N56_2).1) (by rw [ua_size]; exact (w4_wd N58_2).1) (ua_one _ _) (l' := [.blk bk9 24 (ua .u64 (Lm.w4 Lm.ii)), .blk bk8_ 24 (ua .u64 (Lm.w4 (v * (N31 * N31 % Lm.p) % Lm.p))), .blk bk7_ 24 (ua .u64 (Lm.w4 ((((v * v % Lm.p) * v % Lm.p) * ((v * v % Lm.p) * v % Lm.p) % Lm.p) * v % Lm.p))), .blk bk6_ 24 (ua .u64 (Lm.w4 ((v * v % Lm.p) * v % Lm.p))), .blk bk4 24 (ua .u64 (Lm.w4 N58_2)), .blk bk3 24 (ua .u64 (Lm.w4 v)), .blk bk2 24 (ua .u64 (Lm.w4 u))]) rfl ?_; intro w_35 H_35
                    refine L_as rfl ?_
                    refine L_nil ?_
                    refine Th_n ?_
                    refine W_ret ?_
                    refine P_ret (vs := [Value.agg (ua .u64 (Lm.w4 N58_2)), Value.bool (decide ((v * (N31 * N31 % Lm.p) % Lm.p) % Lm.p = ((Lm.p - u % Lm.p) % Lm.p) % Lm.p))]) (v := Value.tuple #[Value.agg (ua .u64 (Lm.w4 N58_2)), Value.bool (decide ((v * (N31 * N31 % Lm.p) % Lm.p) % Lm.p = ((Lm.p - u % Lm.p) % Lm.p) % Lm.p))]) rfl (.cell e_8_4 (loadVar_row T_row24 H_35 (i := 4) rfl (by rw [ua_size]; exact (w4_wd N58_2).1)) (.tmp e_8_11 (Res.nil))) rfl ?_
                    refine ⟨?_, H_35.nil_⟩
                    subst hN58_2 hN56_2 hN31 hN30 hN27
                    exact root_fin10 (.inr hc) hb_3 rfl rfl
                ·
                  have hc' := of_decide_eq_false hc
                  refine W_skip ?_
                  refine Th_n ?_
                  refine W_seq ?_
                  refine W_rg ?_
                  refine L_y rfl (Y_ldr T_row24 H_30 (i := 4) rfl e_8_4 (by rw [ua_size]; exact (w4_wd N31).1)) ?_
                  refine L_callv rfl rfl T_en62 (A1 rfl) ((abs_n N31 (Lm.ltp hN31) _).mono (fun r_ w' h => (⟨Lm.absm N31, rfl, h⟩ : ∃ (N58_3 : Nat), N58_3 = Lm.absm N31 ∧ r_ = .returned (Value.agg (ua .u64 (Lm.w4 N58_3))) ∧ Keep w_30 w'))) ?_
                  rintro _ w_36 ⟨N58_3, hN58_3, rfl, hkp_13⟩; refine ⟨_, rfl, ?_⟩; have H_36 := H_30.keep hkp_13
                  refine L_mv rfl ?_
                  refine L_mv rfl ?_
                  rcases Bool.eq_false_or_eq_true (decide ((v * (N31 * N31 % Lm.p) % Lm.p) % Lm.p = u % Lm.p)) with hb_4 | hb_4
                  ·
                    refine G_no (wN (b := false) rfl (e_8_10.trans (congrArg Value.bool hb_4))) rfl ?_
                    refine L_y rfl (Y_pickT (e_8_10.trans (congrArg Value.bool hb_4))) ?_
                    refine L_str (ds := ua .u64 (Lm.w4 N58_3)) T_row24 H_36 (i := 4) rfl e_8_4 rfl (by rw [ua_size]; exact (w4_wd N31).1) (by rw [ua_size]; exact (w4_wd N58_3).1) (ua_one _ _) (l' := [.blk bk9 24 (ua .u64 (Lm.w4 Lm.ii)), .blk bk8_ 24 (ua .u64 (Lm.w4 (v * (N31 * N31 % Lm.p) % Lm.p))), .blk bk7_ 24 (ua .u64 (Lm.w4 ((((v * v % Lm.p) * v % Lm.p) * ((v * v % Lm.p) * v % Lm.p) % Lm.p) * v % Lm.p))), .blk bk6_ 24 (ua .u64 (Lm.w4 ((v * v % Lm.p) * v % Lm.p))), .blk bk4 24 (ua .u64 (Lm.w4 N58_3)), .blk bk3 24 (ua .u64 (Lm.w4 v)), .blk bk2 24 (ua .u64 (Lm.w4 u))]) rfl ?_; intro w_37 H_37
                    refine L_as rfl ?_
                    refine L_nil ?_
                    refine Th_n ?_
                    refine W_ret ?_
                    refine P_ret (vs := [Value.agg (ua .u64 (Lm.w4 N58_3)), Value.bool true]) (v := Value.tuple #[Value.agg (ua .u64 (Lm.w4 N58_3)), Value.bool true]) rfl (.cell e_8_4 (loadVar_row T_row24 H_37 (i := 4) rfl (by rw [ua_size]; exact (w4_wd N58_3).1)) (.tmp rfl (Res.nil))) rfl ?_
                    refine ⟨?_, H_37.nil_⟩
                    subst hN58_3 hN31 hN30 hN27
                    exact root_fin01 hb hc hb_4 rfl
                  ·
                    refine G_mv (wE rfl (e_8_10.trans (congrArg Value.bool hb_4))) rfl ?_
                    refine L_y rfl (Y_pickF (e_8_10.trans (congrArg Value.bool hb_4))) ?_
                    refine L_str (ds := ua .u64 (Lm.w4 N58_3)) T_row24 H_36 (i := 4) rfl e_8_4 rfl (by rw [ua_size]; exact (w4_wd N31).1) (by rw [ua_size]; exact (w4_wd N58_3).1) (ua_one _ _) (l' := [.blk bk9 24 (ua .u64 (Lm.w4 Lm.ii)), .blk bk8_ 24 (ua .u64 (Lm.w4 (v * (N31 * N31 % Lm.p) % Lm.p))), .blk bk7_ 24 (ua .u64 (Lm.w4 ((((v * v % Lm.p) * v % Lm.p) * ((v * v % Lm.p) * v % Lm.p) % Lm.p) * v % Lm.p))), .blk bk6_ 24 (ua .u64 (Lm.w4 ((v * v % Lm.p) * v % Lm.p))), .blk bk4 24 (ua .u64 (Lm.w4 N58_3)), .blk bk3 24 (ua .u64 (Lm.w4 v)), .blk bk2 24 (ua .u64 (Lm.w4 u))]) rfl ?_; intro w_38 H_38
                    refine L_as rfl ?_
                    refine L_nil ?_
                    refine Th_n ?_
                    refine W_ret ?_
                    refine P_ret (vs := [Value.agg (ua .u64 (Lm.w4 N58_3)), Value.bool (decide ((v * (N31 * N31 % Lm.p) % Lm.p) % Lm.p = ((Lm.p - u % Lm.p) % Lm.p) % Lm.p))]) (v := Value.tuple #[Value.agg (ua .u64 (Lm.w4 N58_3)), Value.bool (decide ((v * (N31 * N31 % Lm.p) % Lm.p) % Lm.p = ((Lm.p - u % Lm.p) % Lm.p) % Lm.p))]) rfl (.cell e_8_4 (loadVar_row T_row24 H_38 (i := 4) rfl (by rw [ua_size]; exact (w4_wd N58_3).1)) (.tmp e_8_11 (Res.nil))) rfl ?_
                    refine ⟨?_, H_38.nil_⟩
                    subst hN58_3 hN31 hN30 hN27
                    exact root_fin00 hb hc hb_4 rfl rfl
end Go.Proofs.Ytbjpaggkmlgnoaa
