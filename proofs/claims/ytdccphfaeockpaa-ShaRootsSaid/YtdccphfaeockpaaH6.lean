/- Walks of layer 6 (the sums) and of its reference. Printed by sha.py. -/
import Derived.Test.YtdccphfaeockpaaH5
namespace Go.Proofs.Ytdccphfaeockpaa
open Go.Ev
set_option maxRecDepth 100000
theorem T_zero25 : zeroOf Try.prog 25 = some (ua .u8 [0, 0, 0, 0, 0, 0, 0, 0, 0, 0, 0, 0, 0, 0, 0, 0, 0, 0, 0, 0, 0, 0, 0, 0, 0, 0, 0, 0, 0, 0, 0, 0]) := by kernel_rfl
theorem T_row39 : rowOf Try.prog 39 = some 64 := by kernel_rfl
theorem T_en19 : enters Try.prog 19 = true := by kernel_rfl
theorem T_en20 : enters Try.prog 20 = true := by kernel_rfl
theorem T_some38 : (Try.prog.underlying 38).isSome = true := by kernel_rfl
theorem T_arr25 : arrOf Try.prog 25 = some (32, 1) := by kernel_rfl
theorem T_row25 : rowOf Try.prog 25 = some 32 := by kernel_rfl
theorem T_zero28 : zeroOf Try.prog 28 = some (ua .u8 [0, 0, 0, 0, 0, 0, 0, 0, 0, 0, 0, 0, 0, 0, 0, 0, 0, 0, 0, 0, 0, 0, 0, 0, 0, 0, 0, 0, 0, 0, 0, 0, 0, 0, 0, 0, 0, 0, 0, 0, 0, 0, 0, 0, 0, 0, 0, 0, 0, 0, 0, 0, 0, 0, 0, 0, 0, 0, 0, 0, 0, 0, 0, 0]) := by kernel_rfl
theorem T_row49 : rowOf Try.prog 49 = some 80 := by kernel_rfl
theorem T_en23 : enters Try.prog 23 = true := by kernel_rfl
theorem T_arr28 : arrOf Try.prog 28 = some (64, 1) := by kernel_rfl
theorem T_row28 : rowOf Try.prog 28 = some 64 := by kernel_rfl
theorem V8wd256 {V : Sm.V8} (h : V.lt 4294967296) : Wd 8 4294967296 V.l := ⟨rfl, Sm.V8.ltl h⟩
theorem sum256_wd (l : List Nat) : Wd 32 256 (Sm.sum Sm.k256 l) := ⟨Sm.sum_len _ _, Sm.sum_lt _ _⟩
theorem sum256_wp (l : List Nat) {t : Nat} (h : t ≤ 32) : Wd 32 256 ((Sm.sum Sm.k256 l).take t ++ List.replicate (32 - t) 0) :=
  ⟨by rw [List.length_append, List.length_take, (sum256_wd l).1, List.length_replicate]; omega, app_lt (fun u hu => Sm.sum_lt _ _ u (List.mem_of_mem_take hu)) (fun u hu => by rw [(List.mem_replicate.1 hu).2]; decide)⟩

theorem V8wd512 {V : Sm.V8} (h : V.lt 18446744073709551616) : Wd 8 18446744073709551616 V.l := ⟨rfl, Sm.V8.ltl h⟩
theorem sum512_wd (l : List Nat) : Wd 64 256 (Sm.sum Sm.k512 l) := ⟨Sm.sum_len _ _, Sm.sum_lt _ _⟩
theorem sum512_wp (l : List Nat) {t : Nat} (h : t ≤ 64) : Wd 64 256 ((Sm.sum Sm.k512 l).take t ++ List.replicate (64 - t) 0) :=
  ⟨by rw [List.length_append, List.length_take, (sum512_wd l).1, List.length_replicate]; omega, app_lt (fun u hu => Sm.sum_lt _ _ u (List.mem_of_mem_take hu)) (fun u hu => by rw [(List.mem_replicate.1 hu).2]; decide)⟩

theorem sum256_n (a : Option Addr) (n c : Nat) (l : List Nat) (hl : ∀ u ∈ l, u < 256) (hn : n ≤ 16777216) (w0 : World) (hb : Sl w0 .u8 a n c l) :
    Calls Try.prog 9 #[Value.slice a n c] w0 (fun r_ w' => r_ = .returned (.agg (ua .u8 (Sm.sum Sm.k256 l))) ∧ Keep w0 w') := by
  refine F_in Try.func9 rfl Try.ntmps9 rfl ?_
  intro e he
  have p_0 : e 0 = Value.slice a n c := he 0 _ rfl
  have H := Hp.start w0 []
  refine W_seq ?_
  refine W_rg ?_
  refine L_alloc rfl H T_zero25 ?_; intro bk2 w_2 H_2
  refine L_nil ?_
  refine Th_n ?_
  refine W_seq ?_
  refine W_rg ?_
  refine L_y rfl (Y_build (pv := [(0, Value.int .u32 ((1116352408 : Nat) : Int)), (1, Value.int .u32 ((1899447441 : Nat) : Int)), (2, Value.int .u32 ((3049323471 : Nat) : Int)), (3, Value.int .u32 ((3921009573 : Nat) : Int)), (4, Value.int .u32 ((961987163 : Nat) : Int)), (5, Value.int .u32 ((1508970993 : Nat) : Int)), (6, Value.int .u32 ((2453635748 : Nat) : Int)), (7, Value.int .u32 ((2870763221 : Nat) : Int)), (8, Value.int .u32 ((3624381080 : Nat) : Int)), (9, Value.int .u32 ((310598401 : Nat) : Int)), (10, Value.int .u32 ((607225278 : Nat) : Int)), (11, Value.int .u32 ((1426881987 : Nat) : Int)), (12, Value.int .u32 ((1925078388 : Nat) : Int)), (13, Value.int .u32 ((2162078206 : Nat) : Int)), (14, Value.int .u32 ((2614888103 : Nat) : Int)), (15, Value.int .u32 ((3248222580 : Nat) : Int)), (16, Value.int .u32 ((3835390401 : Nat) : Int)), (17, Value.int .u32 ((4022224774 : Nat) : Int)), (18, Value.int .u32 ((264347078 : Nat) : Int)), (19, Value.int .u32 ((604807628 : Nat) : Int)), (20, Value.int .u32 ((770255983 : Nat) : Int)), (21, Value.int .u32 ((1249150122 : Nat) : Int)), (22, Value.int .u32 ((1555081692 : Nat) : Int)), (23, Value.int .u32 ((1996064986 : Nat) : Int)), (24, Value.int .u32 ((2554220882 : Nat) : Int)), (25, Value.int .u32 ((2821834349 : Nat) : Int)), (26, Value.int .u32 ((2952996808 : Nat) : Int)), (27, Value.int .u32 ((3210313671 : Nat) : Int)), (28, Value.int .u32 ((3336571891 : Nat) : Int)), (29, Value.int .u32 ((3584528711 : Nat) : Int)), (30, Value.int .u32 ((113926993 : Nat) : Int)), (31, Value.int .u32 ((338241895 : Nat) : Int)), (32, Value.int .u32 ((666307205 : Nat) : Int)), (33, Value.int .u32 ((773529912 : Nat) : Int)), (34, Value.int .u32 ((1294757372 : Nat) : Int)), (35, Value.int .u32 ((1396182291 : Nat) : Int)), (36, Value.int .u32 ((1695183700 : Nat) : Int)), (37, Value.int .u32 ((1986661051 : Nat) : Int)), (38, Value.int .u32 ((2177026350 : Nat) : Int)), (39, Value.int .u32 ((2456956037 : Nat) : Int)), (40, Value.int .u32 ((2730485921 : Nat) : Int)), (41, Value.int .u32 ((2820302411 : Nat) : Int)), (42, Value.int .u32 ((3259730800 : Nat) : Int)), (43, Value.int .u32 ((3345764771 : Nat) : Int)), (44, Value.int .u32 ((3516065817 : Nat) : Int)), (45, Value.int .u32 ((3600352804 : Nat) : Int)), (46, Value.int .u32 ((4094571909 : Nat) : Int)), (47, Value.int .u32 ((275423344 : Nat) : Int)), (48, Value.int .u32 ((430227734 : Nat) : Int)), (49, Value.int .u32 ((506948616 : Nat) : Int)), (50, Value.int .u32 ((659060556 : Nat) : Int)), (51, Value.int .u32 ((883997877 : Nat) : Int)), (52, Value.int .u32 ((958139571 : Nat) : Int)), (53, Value.int .u32 ((1322822218 : Nat) : Int)), (54, Value.int .u32 ((1537002063 : Nat) : Int)), (55, Value.int .u32 ((1747873779 : Nat) : Int)), (56, Value.int .u32 ((1955562222 : Nat) : Int)), (57, Value.int .u32 ((2024104815 : Nat) : Int)), (58, Value.int .u32 ((2227730452 : Nat) : Int)), (59, Value.int .u32 ((2361852424 : Nat) : Int)), (60, Value.int .u32 ((2428436474 : Nat) : Int)), (61, Value.int .u32 ((2756734187 : Nat) : Int)), (62, Value.int .u32 ((3204031479 : Nat) : Int)), (63, Value.int .u32 ((3329325298 : Nat) : Int))]) (cs := ua .u32 Sm.k256.ks) (Bpc rfl (Bpc rfl (Bpc rfl (Bpc rfl (Bpc rfl (Bpc rfl (Bpc rfl (Bpc rfl (Bpc rfl (Bpc rfl (Bpc rfl (Bpc rfl (Bpc rfl (Bpc rfl (Bpc rfl (Bpc rfl (Bpc rfl (Bpc rfl (Bpc rfl (Bpc rfl (Bpc rfl (Bpc rfl (Bpc rfl (Bpc rfl (Bpc rfl (Bpc rfl (Bpc rfl (Bpc rfl (Bpc rfl (Bpc rfl (Bpc rfl (Bpc rfl (Bpc rfl (Bpc rfl (Bpc rfl (Bpc rfl (Bpc rfl (Bpc rfl (Bpc rfl (Bpc rfl (Bpc rfl (Bpc rfl (Bpc rfl (Bpc rfl (Bpc rfl (Bpc rfl (Bpc rfl (Bpc rfl (Bpc rfl (Bpc rfl (Bpc rfl (Bpc rfl (Bpc rfl (Bpc rfl (Bpc rfl (Bpc rfl (Bpc rfl (Bpc rfl (Bpc rfl (Bpc rfl (Bpc rfl (Bpc rfl (Bpc rfl (Bpc rfl Bp0)))))))))))))))))))))))))))))))))))))))))))))))))))))))))))))))) (by kernel_rfl)) ?_
  refine L_alloc rfl H_2 T_zero39 ?_; intro bk3 w_3 H_3
  refine L_str (ds := ua .u32 Sm.k256.ks) T_row39 H_3 (i := 0) rfl rfl rfl rfl (by rw [ua_size]; exact ks256_wd.1) (ua_one _ _) (l' := [Ent.blk bk3 39 (ua .u32 Sm.k256.ks), Ent.blk bk2 25 (ua .u8 [0, 0, 0, 0, 0, 0, 0, 0, 0, 0, 0, 0, 0, 0, 0, 0, 0, 0, 0, 0, 0, 0, 0, 0, 0, 0, 0, 0, 0, 0, 0, 0])]) rfl ?_; intro w_4 H_4
  refine L_nil ?_
  refine Th_n ?_
  refine W_seq ?_
  refine W_rg ?_
  refine L_y rfl (Y_build (pv := [(0, Value.int .u32 ((1779033703 : Nat) : Int)), (1, Value.int .u32 ((3144134277 : Nat) : Int)), (2, Value.int .u32 ((1013904242 : Nat) : Int)), (3, Value.int .u32 ((2773480762 : Nat) : Int)), (4, Value.int .u32 ((1359893119 : Nat) : Int)), (5, Value.int .u32 ((2600822924 : Nat) : Int)), (6, Value.int .u32 ((528734635 : Nat) : Int)), (7, Value.int .u32 ((1541459225 : Nat) : Int))]) (cs := ua .u32 ((Sm.run Sm.k256 (Sm.full Sm.k256 l) 0).l)) (Bpc rfl (Bpc rfl (Bpc rfl (Bpc rfl (Bpc rfl (Bpc rfl (Bpc rfl (Bpc rfl Bp0)))))))) (by kernel_rfl)) ?_
  refine L_alloc rfl H_4 T_zero40 ?_; intro bk4 w_5 H_5
  refine L_str (ds := ua .u32 ((Sm.run Sm.k256 (Sm.full Sm.k256 l) 0).l)) T_row40 H_5 (i := 0) rfl rfl rfl rfl (by rw [ua_size]; exact (V8wd256 Sm.lt256).1) (ua_one _ _) (l' := [Ent.blk bk4 40 (ua .u32 ((Sm.run Sm.k256 (Sm.full Sm.k256 l) 0).l)), Ent.blk bk3 39 (ua .u32 Sm.k256.ks), Ent.blk bk2 25 (ua .u8 [0, 0, 0, 0, 0, 0, 0, 0, 0, 0, 0, 0, 0, 0, 0, 0, 0, 0, 0, 0, 0, 0, 0, 0, 0, 0, 0, 0, 0, 0, 0, 0])]) rfl ?_; intro w_6 H_6
  refine L_nil ?_
  refine Th_n ?_
  refine W_seq ?_
  refine W_rg ?_
  refine L_mv rfl ?_
  refine L_y rfl (Y_lenS T_sl22 p_0) ?_
  refine L_as rfl ?_
  refine L_nil ?_
  refine Th_n ?_
  refine W_seq ?_
  refine W_block ?_
  refine W_loop (fun mu_ e w => ∃ j : Nat, ∃ a1 : Option Addr, ∃ m1 : Nat, ∃ c1 : Nat, mu_ = m1 + 1 ∧ e 0 = Value.slice a1 m1 c1 ∧ e 2 = Value.pointer (some ⟨bk2, 0, none⟩) ∧ e 3 = Value.pointer (some ⟨bk3, 0, none⟩) ∧ e 4 = Value.pointer (some ⟨bk4, 0, none⟩) ∧ e 5 = Value.int .i64 ((n : Nat) : Int) ∧ Hp w0 [] w [Ent.blk bk4 40 (ua .u32 ((Sm.run Sm.k256 (Sm.full Sm.k256 l) j).l)), Ent.blk bk3 39 (ua .u32 Sm.k256.ks), Ent.blk bk2 25 (ua .u8 [0, 0, 0, 0, 0, 0, 0, 0, 0, 0, 0, 0, 0, 0, 0, 0, 0, 0, 0, 0, 0, 0, 0, 0, 0, 0, 0, 0, 0, 0, 0, 0])] ∧ 64 * j ≤ n ∧ Win a c a1 (64 * j) ∧ m1 = n - 64 * j ∧ c1 = c - 64 * j) _ ⟨0, a, n, c, rfl, p_0, rfl, rfl, rfl, rfl, H_6, (Nat.zero_le _), (Win.zero hb), rfl, rfl⟩ ?_
  rintro mu_ e_2 w_7 ⟨j, a1, m1, c1, rfl, e_2_0, e_2_2, e_2_3, e_2_4, e_2_5, H_7, hj, hw, hm1, hc1⟩
  refine W_seq ?_
  refine W_seq ?_
  refine W_rg ?_
  refine L_mv rfl ?_
  refine L_y rfl (Y_lenS T_sl22 e_2_0) ?_
  refine L_y rfl (Y_geq (k := .i64) (a := ((m1 : Nat) : Int)) (b := ((64 : Nat) : Int)) rfl rfl) ?_
  refine L_nil ?_
  refine Th_n ?_
  refine W_cond (b := (decide (((64 : Nat) : Int) ≤ ((m1 : Nat) : Int)))) rfl (fun hc => ?_) (fun hc => ?_)
  ·
    have hc' := of_decide_eq_true hc
    refine W_skip ?_
    refine Th_n ?_
    refine W_block ?_
    refine W_seq ?_
    refine W_quiet H_7 3 [Value.agg (ua .u32 ((Sm.run Sm.k256 (Sm.full Sm.k256 l) j).l)), Value.slice a1 m1 c1, Value.slice a1 64 c1] T_mixed (by kernel_rfl) ?_ ?_
    ·
      refine .plain rfl (Pl_y rfl (fun w hBw => Y_ldr T_row40 hBw (i := 0) rfl e_2_4 (by rw [ua_size]; exact (V8wd256 (Sm.run_lt Sm.lt256 (Sm.full Sm.k256 l) j)).1))) ?_
      refine .plain rfl (Pl_y rfl (fun w hBw => congrArg (fun v => Result.ok (Next.value v) w) e_2_0)) ?_
      refine .plain rfl (Pl_y rfl (fun w hBw => Y_cutHr (hi := 64) T_sl22 (hw.sl (hb.hp hBw) hj hm1 hc1) rfl rfl (Nat.le_trans (by omega) (hw.sl (hb.hp hBw) hj hm1 hc1).cap))) ?_
      exact .nil _
    ·
      intro e_3 w_8 hAg H_8
      have e_3_0 : e_3 0 = Value.slice a1 m1 c1 := (hAg 0 rfl).trans e_2_0
      have e_3_2 : e_3 2 = Value.pointer (some ⟨bk2, 0, none⟩) := (hAg 2 rfl).trans e_2_2
      have e_3_3 : e_3 3 = Value.pointer (some ⟨bk3, 0, none⟩) := (hAg 3 rfl).trans e_2_3
      have e_3_4 : e_3 4 = Value.pointer (some ⟨bk4, 0, none⟩) := (hAg 4 rfl).trans e_2_4
      have e_3_5 : e_3 5 = Value.int .i64 ((n : Nat) : Int) := (hAg 5 rfl).trans e_2_5
      have e_3_16 : e_3 16 = Value.agg (ua .u32 ((Sm.run Sm.k256 (Sm.full Sm.k256 l) j).l)) := (hAg 16 rfl).trans rfl
      have e_3_18 : e_3 18 = Value.slice a1 64 c1 := (hAg 18 rfl).trans rfl
      refine L_callv rfl rfl T_en19 (A3 e_3_16 e_3_18 e_3_3) (small_n (Sm.run Sm.k256 (Sm.full Sm.k256 l) j) _ _ ((l.drop (64 * j)).take 64) _ (Sm.run_lt Sm.lt256 _ _) (fun u hu => (fun u hu => hl u (List.mem_of_mem_drop hu)) u (List.mem_of_mem_take hu)) _ ((hw.sl (hb.hp H_8) hj hm1 hc1).tk (by omega)) (H_8.get 1 rfl)) ?_
      rintro _ w_9 ⟨rfl, hkp⟩; refine ⟨_, rfl, ?_⟩; have H_9 := H_8.keep hkp
      refine L_str (ds := ua .u32 ((Sm.comp Sm.k256 (Sm.run Sm.k256 (Sm.full Sm.k256 l) j) ((l.drop (64 * j)).take 64)).l)) T_row40 H_9 (i := 0) rfl e_3_4 rfl (by rw [ua_size]; exact (V8wd256 (Sm.run_lt Sm.lt256 (Sm.full Sm.k256 l) j)).1) (by rw [ua_size]; exact (V8wd256 (Sm.addV_lt _ _ _)).1) (ua_one _ _) (l' := [Ent.blk bk4 40 (ua .u32 ((Sm.comp Sm.k256 (Sm.run Sm.k256 (Sm.full Sm.k256 l) j) ((l.drop (64 * j)).take 64)).l)), Ent.blk bk3 39 (ua .u32 Sm.k256.ks), Ent.blk bk2 25 (ua .u8 [0, 0, 0, 0, 0, 0, 0, 0, 0, 0, 0, 0, 0, 0, 0, 0, 0, 0, 0, 0, 0, 0, 0, 0, 0, 0, 0, 0, 0, 0, 0, 0])]) rfl ?_; intro w_10 H_10
      refine L_nil ?_
      refine Th_n ?_
      refine W_rg ?_
      refine L_mv rfl ?_
      refine L_y rfl (Y_cutL (lo := 64) T_sl22 e_3_0 rfl (by omega)) ?_
      refine L_as rfl ?_
      refine L_nil ?_
      refine InB_n ?_
      have H_11 : Hp w0 [] w_10 [Ent.blk bk4 40 (ua .u32 ((Sm.run Sm.k256 (Sm.full Sm.k256 l) (j + 1)).l)), Ent.blk bk3 39 (ua .u32 Sm.k256.ks), Ent.blk bk2 25 (ua .u8 [0, 0, 0, 0, 0, 0, 0, 0, 0, 0, 0, 0, 0, 0, 0, 0, 0, 0, 0, 0, 0, 0, 0, 0, 0, 0, 0, 0, 0, 0, 0, 0])] := by have h := H_10; rw [Sm.run256_next (by rw [hb.len]; omega)] at h; exact h
      refine Th_n ⟨_, ?_, j + 1, cutA a1 c1 64, m1 - 64, c1 - 64, rfl, rfl, e_3_2, e_3_3, e_3_4, e_3_5, H_11, (by omega), (hw.cut hc1 (by have := hb.cap; omega)), (by omega), (by omega)⟩
      omega
  ·
    have hc' := of_decide_eq_false hc
    refine W_exit ?_
    refine Th_x ?_
    refine Th_x ?_
    refine InB_hit ?_
    refine Th_n ?_
    refine W_seq ?_
    refine W_seq ?_
    refine W_rg ?_
    refine L_mv rfl ?_
    refine L_mv rfl ?_
    refine L_callv rfl rfl T_en20 (A4 e_2_0 e_2_5 rfl rfl) (rest256_n _ _ _ n (l.drop (64 * j)) (fun u hu => hl u (List.mem_of_mem_drop hu)) (by omega) (by omega) hn _ (hw.sl (hb.hp H_7) hj hm1 hc1)) ?_
    rintro _ w_11 ⟨ra24, rM24, rc24, rfl, hkp_2⟩; refine ⟨_, rfl, ?_⟩; have H_12 := H_7.more hkp_2
    refine L_as rfl ?_
    refine L_nil ?_
    refine Th_n ?_
    refine W_block ?_
    have H_13 : Hp w0 [] w_11 [Ent.own (Value.slice ra24 rM24 rc24) 5 1 rM24 (us .u8 ((Sm.full Sm.k256 l).drop (64 * j))), Ent.blk bk4 40 (ua .u32 ((Sm.run Sm.k256 (Sm.full Sm.k256 l) j).l)), Ent.blk bk3 39 (ua .u32 Sm.k256.ks), Ent.blk bk2 25 (ua .u8 [0, 0, 0, 0, 0, 0, 0, 0, 0, 0, 0, 0, 0, 0, 0, 0, 0, 0, 0, 0, 0, 0, 0, 0, 0, 0, 0, 0, 0, 0, 0, 0])] := by have h := H_12; rw [← hb.len, ← Sm.full_drop (q := Sm.k256) (by rw [hb.len]; omega)] at h; exact h
    have hrl := (Sl.own H_13 (i := 0) rfl).len
    have hrM := Sm.rest_mod256 hrl
    refine W_loop (fun mu_ e w => ∃ i : Nat, ∃ a2 : Option Addr, ∃ m2 : Nat, ∃ c2 : Nat, mu_ = m2 + 1 ∧ e 2 = Value.pointer (some ⟨bk2, 0, none⟩) ∧ e 3 = Value.pointer (some ⟨bk3, 0, none⟩) ∧ e 4 = Value.pointer (some ⟨bk4, 0, none⟩) ∧ e 6 = Value.slice a2 m2 c2 ∧ Hp w0 [] w [Ent.own (Value.slice ra24 rM24 rc24) 5 1 rM24 (us .u8 ((Sm.full Sm.k256 l).drop (64 * j))), Ent.blk bk4 40 (ua .u32 ((Sm.run Sm.k256 (Sm.full Sm.k256 l) (j + i)).l)), Ent.blk bk3 39 (ua .u32 Sm.k256.ks), Ent.blk bk2 25 (ua .u8 [0, 0, 0, 0, 0, 0, 0, 0, 0, 0, 0, 0, 0, 0, 0, 0, 0, 0, 0, 0, 0, 0, 0, 0, 0, 0, 0, 0, 0, 0, 0, 0])] ∧ 64 * i ≤ rM24 ∧ Win ra24 rc24 a2 (64 * i) ∧ m2 = rM24 - 64 * i ∧ c2 = rc24 - 64 * i) _ ⟨0, ra24, rM24, rc24, rfl, e_2_2, e_2_3, e_2_4, rfl, H_13, (Nat.zero_le _), (Win.zero (Sl.own H_13 (i := 0) rfl)), rfl, rfl⟩ ?_
    rintro mu_ e_4 w_12 ⟨i, a2, m2, c2, rfl, e_4_2, e_4_3, e_4_4, e_4_6, H_14, hi, hw2, hm2, hc2⟩
    refine W_seq ?_
    refine W_seq ?_
    refine W_rg ?_
    refine L_mv rfl ?_
    refine L_y rfl (Y_lenS T_sl22 e_4_6) ?_
    refine L_y rfl (Y_gtr (k := .i64) (a := ((m2 : Nat) : Int)) (b := ((0 : Nat) : Int)) rfl rfl) ?_
    refine L_nil ?_
    refine Th_n ?_
    refine W_cond (b := (decide (((0 : Nat) : Int) < ((m2 : Nat) : Int)))) rfl (fun hc_2 => ?_) (fun hc_2 => ?_)
    ·
      have hc_2' := of_decide_eq_true hc_2
      refine W_skip ?_
      refine Th_n ?_
      refine W_seq ?_
      refine W_block ?_
      refine W_quiet H_14 3 [Value.agg (ua .u32 ((Sm.run Sm.k256 (Sm.full Sm.k256 l) (j + i)).l)), Value.slice a2 m2 c2, Value.slice a2 64 c2] T_mixed (by kernel_rfl) ?_ ?_
      ·
        refine .plain rfl (Pl_y rfl (fun w hBw => Y_ldr T_row40 hBw (i := 1) rfl e_4_4 (by rw [ua_size]; exact (V8wd256 (Sm.run_lt Sm.lt256 (Sm.full Sm.k256 l) (j + i))).1))) ?_
        refine .plain rfl (Pl_y rfl (fun w hBw => congrArg (fun v => Result.ok (Next.value v) w) e_4_6)) ?_
        refine .plain rfl (Pl_y rfl (fun w hBw => Y_cutHr (hi := 64) T_sl22 (hw2.sl (Sl.own hBw (i := 0) rfl) hi hm2 hc2) rfl rfl (Nat.le_trans (by omega) (hw2.sl (Sl.own hBw (i := 0) rfl) hi hm2 hc2).cap))) ?_
        exact .nil _
      ·
        intro e_5 w_13 hAg H_15
        have e_5_2 : e_5 2 = Value.pointer (some ⟨bk2, 0, none⟩) := (hAg 2 rfl).trans e_4_2
        have e_5_3 : e_5 3 = Value.pointer (some ⟨bk3, 0, none⟩) := (hAg 3 rfl).trans e_4_3
        have e_5_4 : e_5 4 = Value.pointer (some ⟨bk4, 0, none⟩) := (hAg 4 rfl).trans e_4_4
        have e_5_6 : e_5 6 = Value.slice a2 m2 c2 := (hAg 6 rfl).trans e_4_6
        have e_5_30 : e_5 30 = Value.agg (ua .u32 ((Sm.run Sm.k256 (Sm.full Sm.k256 l) (j + i)).l)) := (hAg 30 rfl).trans rfl
        have e_5_32 : e_5 32 = Value.slice a2 64 c2 := (hAg 32 rfl).trans rfl
        refine L_callv rfl rfl T_en19 (A3 e_5_30 e_5_32 e_5_3) (small_n (Sm.run Sm.k256 (Sm.full Sm.k256 l) (j + i)) _ _ ((((Sm.full Sm.k256 l).drop (64 * j)).drop (64 * i)).take 64) _ (Sm.run_lt Sm.lt256 _ _) (fun u hu => (fun u hu => Sm.full_lt hl u (List.mem_of_mem_drop (List.mem_of_mem_drop hu))) u (List.mem_of_mem_take hu)) _ ((hw2.sl (Sl.own H_15 (i := 0) rfl) hi hm2 hc2).tk (by omega)) (H_15.get 2 rfl)) ?_
        rintro _ w_14 ⟨rfl, hkp_3⟩; refine ⟨_, rfl, ?_⟩; have H_16 := H_15.keep hkp_3
        refine L_str (ds := ua .u32 ((Sm.comp Sm.k256 (Sm.run Sm.k256 (Sm.full Sm.k256 l) (j + i)) ((((Sm.full Sm.k256 l).drop (64 * j)).drop (64 * i)).take 64)).l)) T_row40 H_16 (i := 1) rfl e_5_4 rfl (by rw [ua_size]; exact (V8wd256 (Sm.run_lt Sm.lt256 (Sm.full Sm.k256 l) (j + i))).1) (by rw [ua_size]; exact (V8wd256 (Sm.addV_lt _ _ _)).1) (ua_one _ _) (l' := [Ent.own (Value.slice ra24 rM24 rc24) 5 1 rM24 (us .u8 ((Sm.full Sm.k256 l).drop (64 * j))), Ent.blk bk4 40 (ua .u32 ((Sm.comp Sm.k256 (Sm.run Sm.k256 (Sm.full Sm.k256 l) (j + i)) ((((Sm.full Sm.k256 l).drop (64 * j)).drop (64 * i)).take 64)).l)), Ent.blk bk3 39 (ua .u32 Sm.k256.ks), Ent.blk bk2 25 (ua .u8 [0, 0, 0, 0, 0, 0, 0, 0, 0, 0, 0, 0, 0, 0, 0, 0, 0, 0, 0, 0, 0, 0, 0, 0, 0, 0, 0, 0, 0, 0, 0, 0])]) rfl ?_; intro w_15 H_17
        refine L_nil ?_
        refine InB_n ?_
        refine Th_n ?_
        refine W_rg ?_
        refine L_mv rfl ?_
        refine L_y rfl (Y_cutL (lo := 64) T_sl22 e_5_6 rfl (by omega)) ?_
        refine L_as rfl ?_
        refine L_nil ?_
        have H_18 : Hp w0 [] w_15 [Ent.own (Value.slice ra24 rM24 rc24) 5 1 rM24 (us .u8 ((Sm.full Sm.k256 l).drop (64 * j))), Ent.blk bk4 40 (ua .u32 ((Sm.run Sm.k256 (Sm.full Sm.k256 l) (j + (i + 1))).l)), Ent.blk bk3 39 (ua .u32 Sm.k256.ks), Ent.blk bk2 25 (ua .u8 [0, 0, 0, 0, 0, 0, 0, 0, 0, 0, 0, 0, 0, 0, 0, 0, 0, 0, 0, 0, 0, 0, 0, 0, 0, 0, 0, 0, 0, 0, 0, 0])] := by have h := H_17; rw [Sm.run256_on] at h; exact h
        refine Th_n ⟨_, ?_, i + 1, cutA a2 c2 64, m2 - 64, c2 - 64, rfl, e_5_2, e_5_3, e_5_4, rfl, H_18, (by omega), (hw2.cut hc2 (by have := (Sl.own H_18 (i := 0) rfl).cap; omega)), (by omega), (by omega)⟩
        omega
    ·
      have hc_2' := of_decide_eq_false hc_2
      refine W_exit ?_
      refine Th_x ?_
      refine Th_x ?_
      have H_19 : Hp w0 [] w_12 [Ent.own (Value.slice ra24 rM24 rc24) 5 1 rM24 (us .u8 ((Sm.full Sm.k256 l).drop (64 * j))), Ent.blk bk4 40 (ua .u32 ((Sm.run Sm.k256 (Sm.full Sm.k256 l) ((Sm.full Sm.k256 l).length / 64)).l)), Ent.blk bk3 39 (ua .u32 Sm.k256.ks), Ent.blk bk2 25 (ua .u8 [0, 0, 0, 0, 0, 0, 0, 0, 0, 0, 0, 0, 0, 0, 0, 0, 0, 0, 0, 0, 0, 0, 0, 0, 0, 0, 0, 0, 0, 0, 0, 0])] := by have h := H_14; rw [Sm.blocks256 hrl (by rw [hb.len]; omega) (by omega)] at h; exact h
      refine InB_hit ?_
      refine Th_n ?_
      refine W_seq ?_
      refine W_rg ?_
      refine L_alloc rfl H_19 T_zero25 ?_; intro bk7 w_16 H_20
      refine L_nil ?_
      refine Th_n ?_
      refine W_seq ?_
      refine W_seq ?_
      refine W_rg ?_
      refine L_mv rfl ?_
      refine L_nil ?_
      refine Th_n ?_
      refine W_block ?_
      refine W_loop (fun mu_ e w => ∃ t : Nat, mu_ = 32 - t ∧ e 2 = Value.pointer (some ⟨bk2, 0, none⟩) ∧ e 4 = Value.pointer (some ⟨bk4, 0, none⟩) ∧ e 7 = Value.pointer (some ⟨bk7, 0, none⟩) ∧ e 34 = Value.int .i64 ((t : Nat) : Int) ∧ Hp w0 [] w [Ent.blk bk7 25 (ua .u8 ((Sm.sum Sm.k256 l).take t ++ List.replicate (32 - t) 0)), Ent.own (Value.slice ra24 rM24 rc24) 5 1 rM24 (us .u8 ((Sm.full Sm.k256 l).drop (64 * j))), Ent.blk bk4 40 (ua .u32 ((Sm.run Sm.k256 (Sm.full Sm.k256 l) ((Sm.full Sm.k256 l).length / 64)).l)), Ent.blk bk3 39 (ua .u32 Sm.k256.ks), Ent.blk bk2 25 (ua .u8 [0, 0, 0, 0, 0, 0, 0, 0, 0, 0, 0, 0, 0, 0, 0, 0, 0, 0, 0, 0, 0, 0, 0, 0, 0, 0, 0, 0, 0, 0, 0, 0])] ∧ t ≤ 32) _ ⟨0, rfl, e_4_2, e_4_4, rfl, rfl, H_20, (Nat.zero_le _)⟩ ?_
      rintro mu_ e_6 w_17 ⟨t, rfl, e_6_2, e_6_4, e_6_7, e_6_34, H_21, ht⟩
      refine W_seq ?_
      refine W_rg ?_
      refine L_y rfl (Y_lss (k := .i64) (a := ((t : Nat) : Int)) (b := ((32 : Nat) : Int)) e_6_34 rfl) ?_
      refine L_nil ?_
      refine Th_n ?_
      refine W_seq ?_
      refine W_cond (b := (decide (((t : Nat) : Int) < ((32 : Nat) : Int)))) rfl (fun hc_3 => ?_) (fun hc_3 => ?_)
      ·
        have hc_3' := of_decide_eq_true hc_3
        refine W_skip ?_
        refine Th_n ?_
        refine W_seq ?_
        refine W_block ?_
        refine W_seq ?_
        refine W_rg ?_
        refine L_mv rfl ?_
        refine L_as rfl ?_
        refine L_nil ?_
        refine Th_n ?_
        refine W_rg ?_
        refine L_mv rfl ?_
        refine L_mv rfl ?_
        refine L_y rfl (Y_quo (k := .i64) (a := ((t : Nat) : Int)) (b := ((4 : Nat) : Int)) (z := ((t / 4 : Nat) : Int)) e_6_34 rfl (by omega) (wiq (by omega))) ?_
        refine L_y rfl (Y_idxA (t / 4) (t / 4) T_arr40 e_6_4 rfl rfl (by omega) (zz1 _)) ?_
        obtain ⟨x41, hx41⟩ : ∃ u, ((Sm.run Sm.k256 (Sm.full Sm.k256 l) ((Sm.full Sm.k256 l).length / 64)).l)[t / 4]? = some u := ⟨_, List.getElem?_eq_getElem (by have := (V8wd256 (Sm.run_lt Sm.lt256 (Sm.full Sm.k256 l) ((Sm.full Sm.k256 l).length / 64))).1; omega)⟩
        have rx41 := (V8wd256 (Sm.run_lt Sm.lt256 (Sm.full Sm.k256 l) ((Sm.full Sm.k256 l).length / 64))).2 _ (List.mem_of_getElem? hx41)
        refine L_y rfl (Y_ld T_scal38 H_21 (i := 2) rfl rfl (ua_get hx41)) ?_
        refine L_mv rfl ?_
        refine L_y rfl (Y_rem (k := .i64) (a := ((t : Nat) : Int)) (b := ((4 : Nat) : Int)) (z := ((t % 4 : Nat) : Int)) e_6_34 rfl (by omega) rfl) ?_
        refine L_y rfl (Y_mul (k := .i64) (a := ((8 : Nat) : Int)) (b := ((t % 4 : Nat) : Int)) (z := ((8 * (t % 4) : Nat) : Int)) rfl rfl (wi (by omega))) ?_
        refine L_y rfl (Y_sub (k := .i64) (a := ((24 : Nat) : Int)) (b := ((8 * (t % 4) : Nat) : Int)) (z := ((24 - (8 * (t % 4)) : Nat) : Int)) rfl rfl (wi (by omega))) ?_
        refine L_yr (z := x41 / 2 ^ (24 - (8 * (t % 4)))) (m := 4294967296) rfl (Yu_shr (k := .u32) x41 (24 - (8 * (t % 4))) rx41 rfl rfl) (Nat.lt_of_le_of_lt (Nat.div_le_self _ _) rx41) ?_; intro x46 hx46 rx46
        refine L_yr (z := x46 % 256) (m := 256) rfl (Y_convI (k := .u32) (n := ((x46 : Nat) : Int)) (z := ((x46 % 256 : Nat) : Int)) T_some38 T_kind5 rfl (wrapM rfl rfl)) (Nat.mod_lt _ (by decide)) ?_; intro x47 hx47 rx47
        refine L_y rfl (Y_idxA t t T_arr25 e_6_7 e_6_34 rfl (by omega) (zz1 _)) ?_
        refine L_st (v := Value.int .u8 ((x47 : Nat) : Int)) T_scal5 H_21 (i := 0) rfl rfl rfl rfl (by rw [ua_size]; have := (sum256_wp l ht).1; omega) (l' := [Ent.blk bk7 25 (ua .u8 (((Sm.sum Sm.k256 l).take t ++ List.replicate (32 - t) 0).set t x47)), Ent.own (Value.slice ra24 rM24 rc24) 5 1 rM24 (us .u8 ((Sm.full Sm.k256 l).drop (64 * j))), Ent.blk bk4 40 (ua .u32 ((Sm.run Sm.k256 (Sm.full Sm.k256 l) ((Sm.full Sm.k256 l).length / 64)).l)), Ent.blk bk3 39 (ua .u32 Sm.k256.ks), Ent.blk bk2 25 (ua .u8 [0, 0, 0, 0, 0, 0, 0, 0, 0, 0, 0, 0, 0, 0, 0, 0, 0, 0, 0, 0, 0, 0, 0, 0, 0, 0, 0, 0, 0, 0, 0, 0])]) (by rw [ua_set]; rfl) ?_; intro w_18 H_22
        refine L_nil ?_
        refine InB_n ?_
        refine Th_n ?_
        refine W_rg ?_
        refine L_y rfl (Y_add (k := .i64) (a := ((t : Nat) : Int)) (b := ((1 : Nat) : Int)) (z := ((t + 1 : Nat) : Int)) e_6_34 rfl (wi (by omega))) ?_
        refine L_mv rfl ?_
        refine L_nil ?_
        have H_23 : Hp w0 [] w_18 [Ent.blk bk7 25 (ua .u8 ((Sm.sum Sm.k256 l).take (t + 1) ++ List.replicate (32 - (t + 1)) 0)), Ent.own (Value.slice ra24 rM24 rc24) 5 1 rM24 (us .u8 ((Sm.full Sm.k256 l).drop (64 * j))), Ent.blk bk4 40 (ua .u32 ((Sm.run Sm.k256 (Sm.full Sm.k256 l) ((Sm.full Sm.k256 l).length / 64)).l)), Ent.blk bk3 39 (ua .u32 Sm.k256.ks), Ent.blk bk2 25 (ua .u8 [0, 0, 0, 0, 0, 0, 0, 0, 0, 0, 0, 0, 0, 0, 0, 0, 0, 0, 0, 0, 0, 0, 0, 0, 0, 0, 0, 0, 0, 0, 0, 0])] := by have h := H_22; rw [Sm.take_set (by omega) (sum256_wd l).1 (Sm.sum256_get (by omega) hx41 hx46 hx47)] at h; exact h
        refine Th_n ⟨_, ?_, t + 1, rfl, e_6_2, e_6_4, e_6_7, rfl, H_23, (by omega)⟩
        omega
      ·
        have hc_3' := of_decide_eq_false hc_3
        refine W_exit ?_
        refine Th_x ?_
        refine Th_x ?_
        obtain rfl : t = 32 := by omega
        have H_24 : Hp w0 [] w_17 [Ent.blk bk7 25 (ua .u8 (Sm.sum Sm.k256 l)), Ent.own (Value.slice ra24 rM24 rc24) 5 1 rM24 (us .u8 ((Sm.full Sm.k256 l).drop (64 * j))), Ent.blk bk4 40 (ua .u32 ((Sm.run Sm.k256 (Sm.full Sm.k256 l) ((Sm.full Sm.k256 l).length / 64)).l)), Ent.blk bk3 39 (ua .u32 Sm.k256.ks), Ent.blk bk2 25 (ua .u8 [0, 0, 0, 0, 0, 0, 0, 0, 0, 0, 0, 0, 0, 0, 0, 0, 0, 0, 0, 0, 0, 0, 0, 0, 0, 0, 0, 0, 0, 0, 0, 0])] := by have h := H_21; rw [Nat.sub_self, List.replicate_zero, List.append_nil, List.take_of_length_le (Nat.le_of_eq (sum256_wd l).1)] at h; exact h
        refine InB_hit ?_
        refine Th_n ?_
        refine W_seq ?_
        refine W_rg ?_
        refine L_y rfl (Y_ldr T_row25 H_24 (i := 0) rfl e_6_7 (by rw [ua_size]; exact (sum256_wd l).1)) ?_
        refine L_str (ds := ua .u8 (Sm.sum Sm.k256 l)) T_row25 H_24 (i := 4) rfl e_6_2 rfl rfl (by rw [ua_size]; exact (sum256_wd l).1) (ua_one _ _) (l' := [Ent.blk bk7 25 (ua .u8 (Sm.sum Sm.k256 l)), Ent.own (Value.slice ra24 rM24 rc24) 5 1 rM24 (us .u8 ((Sm.full Sm.k256 l).drop (64 * j))), Ent.blk bk4 40 (ua .u32 ((Sm.run Sm.k256 (Sm.full Sm.k256 l) ((Sm.full Sm.k256 l).length / 64)).l)), Ent.blk bk3 39 (ua .u32 Sm.k256.ks), Ent.blk bk2 25 (ua .u8 (Sm.sum Sm.k256 l))]) rfl ?_; intro w_19 H_25
        refine L_nil ?_
        refine Th_n ?_
        refine W_ret ?_
        refine P_ret (vs := [Value.agg (ua .u8 (Sm.sum Sm.k256 l))]) (v := Value.agg (ua .u8 (Sm.sum Sm.k256 l))) rfl (.cell e_6_2 (loadVar_row T_row25 H_25 (i := 4) rfl (by rw [ua_size]; exact (sum256_wd l).1)) (Res.nil)) rfl ?_
        refine ⟨?_, H_25.nil_⟩
        rfl

theorem sum512_n (a : Option Addr) (n c : Nat) (l : List Nat) (hl : ∀ u ∈ l, u < 256) (hn : n ≤ 16777216) (w0 : World) (hb : Sl w0 .u8 a n c l) :
    Calls Try.prog 11 #[Value.slice a n c] w0 (fun r_ w' => r_ = .returned (.agg (ua .u8 (Sm.sum Sm.k512 l))) ∧ Keep w0 w') := by
  refine F_in Try.func11 rfl Try.ntmps11 rfl ?_
  intro e he
  have p_0 : e 0 = Value.slice a n c := he 0 _ rfl
  have H := Hp.start w0 []
  refine W_seq ?_
  refine W_rg ?_
  refine L_alloc rfl H T_zero28 ?_; intro bk2 w_2 H_2
  refine L_nil ?_
  refine Th_n ?_
  refine W_seq ?_
  refine W_rg ?_
  refine L_y rfl (Y_build (pv := [(0, Value.int .u64 ((4794697086780616226 : Nat) : Int)), (1, Value.int .u64 ((8158064640168781261 : Nat) : Int)), (2, Value.int .u64 ((13096744586834688815 : Nat) : Int)), (3, Value.int .u64 ((16840607885511220156 : Nat) : Int)), (4, Value.int .u64 ((4131703408338449720 : Nat) : Int)), (5, Value.int .u64 ((6480981068601479193 : Nat) : Int)), (6, Value.int .u64 ((10538285296894168987 : Nat) : Int)), (7, Value.int .u64 ((12329834152419229976 : Nat) : Int)), (8, Value.int .u64 ((15566598209576043074 : Nat) : Int)), (9, Value.int .u64 ((1334009975649890238 : Nat) : Int)), (10, Value.int .u64 ((2608012711638119052 : Nat) : Int)), (11, Value.int .u64 ((6128411473006802146 : Nat) : Int)), (12, Value.int .u64 ((8268148722764581231 : Nat) : Int)), (13, Value.int .u64 ((9286055187155687089 : Nat) : Int)), (14, Value.int .u64 ((11230858885718282805 : Nat) : Int)), (15, Value.int .u64 ((13951009754708518548 : Nat) : Int)), (16, Value.int .u64 ((16472876342353939154 : Nat) : Int)), (17, Value.int .u64 ((17275323862435702243 : Nat) : Int)), (18, Value.int .u64 ((1135362057144423861 : Nat) : Int)), (19, Value.int .u64 ((2597628984639134821 : Nat) : Int)), (20, Value.int .u64 ((3308224258029322869 : Nat) : Int)), (21, Value.int .u64 ((5365058923640841347 : Nat) : Int)), (22, Value.int .u64 ((6679025012923562964 : Nat) : Int)), (23, Value.int .u64 ((8573033837759648693 : Nat) : Int)), (24, Value.int .u64 ((10970295158949994411 : Nat) : Int)), (25, Value.int .u64 ((12119686244451234320 : Nat) : Int)), (26, Value.int .u64 ((12683024718118986047 : Nat) : Int)), (27, Value.int .u64 ((13788192230050041572 : Nat) : Int)), (28, Value.int .u64 ((14330467153632333762 : Nat) : Int)), (29, Value.int .u64 ((15395433587784984357 : Nat) : Int)), (30, Value.int .u64 ((489312712824947311 : Nat) : Int)), (31, Value.int .u64 ((1452737877330783856 : Nat) : Int)), (32, Value.int .u64 ((2861767655752347644 : Nat) : Int)), (33, Value.int .u64 ((3322285676063803686 : Nat) : Int)), (34, Value.int .u64 ((5560940570517711597 : Nat) : Int)), (35, Value.int .u64 ((5996557281743188959 : Nat) : Int)), (36, Value.int .u64 ((7280758554555802590 : Nat) : Int)), (37, Value.int .u64 ((8532644243296465576 : Nat) : Int)), (38, Value.int .u64 ((9350256976987008742 : Nat) : Int)), (39, Value.int .u64 ((10552545826968843579 : Nat) : Int)), (40, Value.int .u64 ((11727347734174303076 : Nat) : Int)), (41, Value.int .u64 ((12113106623233404929 : Nat) : Int)), (42, Value.int .u64 ((14000437183269869457 : Nat) : Int)), (43, Value.int .u64 ((14369950271660146224 : Nat) : Int)), (44, Value.int .u64 ((15101387698204529176 : Nat) : Int)), (45, Value.int .u64 ((15463397548674623760 : Nat) : Int)), (46, Value.int .u64 ((17586052441742319658 : Nat) : Int)), (47, Value.int .u64 ((1182934255886127544 : Nat) : Int)), (48, Value.int .u64 ((1847814050463011016 : Nat) : Int)), (49, Value.int .u64 ((2177327727835720531 : Nat) : Int)), (50, Value.int .u64 ((2830643537854262169 : Nat) : Int)), (51, Value.int .u64 ((3796741975233480872 : Nat) : Int)), (52, Value.int .u64 ((4115178125766777443 : Nat) : Int)), (53, Value.int .u64 ((5681478168544905931 : Nat) : Int)), (54, Value.int .u64 ((6601373596472566643 : Nat) : Int)), (55, Value.int .u64 ((7507060721942968483 : Nat) : Int)), (56, Value.int .u64 ((8399075790359081724 : Nat) : Int)), (57, Value.int .u64 ((8693463985226723168 : Nat) : Int)), (58, Value.int .u64 ((9568029438360202098 : Nat) : Int)), (59, Value.int .u64 ((10144078919501101548 : Nat) : Int)), (60, Value.int .u64 ((10430055236837252648 : Nat) : Int)), (61, Value.int .u64 ((11840083180663258601 : Nat) : Int)), (62, Value.int .u64 ((13761210420658862357 : Nat) : Int)), (63, Value.int .u64 ((14299343276471374635 : Nat) : Int)), (64, Value.int .u64 ((14566680578165727644 : Nat) : Int)), (65, Value.int .u64 ((15097957966210449927 : Nat) : Int)), (66, Value.int .u64 ((16922976911328602910 : Nat) : Int)), (67, Value.int .u64 ((17689382322260857208 : Nat) : Int)), (68, Value.int .u64 ((500013540394364858 : Nat) : Int)), (69, Value.int .u64 ((748580250866718886 : Nat) : Int)), (70, Value.int .u64 ((1242879168328830382 : Nat) : Int)), (71, Value.int .u64 ((1977374033974150939 : Nat) : Int)), (72, Value.int .u64 ((2944078676154940804 : Nat) : Int)), (73, Value.int .u64 ((3659926193048069267 : Nat) : Int)), (74, Value.int .u64 ((4368137639120453308 : Nat) : Int)), (75, Value.int .u64 ((4836135668995329356 : Nat) : Int)), (76, Value.int .u64 ((5532061633213252278 : Nat) : Int)), (77, Value.int .u64 ((6448918945643986474 : Nat) : Int)), (78, Value.int .u64 ((6902733635092675308 : Nat) : Int)), (79, Value.int .u64 ((7801388544844847127 : Nat) : Int))]) (cs := ua .u64 Sm.k512.ks) (Bpc rfl (Bpc rfl (Bpc rfl (Bpc rfl (Bpc rfl (Bpc rfl (Bpc rfl (Bpc rfl (Bpc rfl (Bpc rfl (Bpc rfl (Bpc rfl (Bpc rfl (Bpc rfl (Bpc rfl (Bpc rfl (Bpc rfl (Bpc rfl (Bpc rfl (Bpc rfl (Bpc rfl (Bpc rfl (Bpc rfl (Bpc rfl (Bpc rfl (Bpc rfl (Bpc rfl (Bpc rfl (Bpc rfl (Bpc rfl (Bpc rfl (Bpc rfl (Bpc rfl (Bpc rfl (Bpc rfl (Bpc rfl (Bpc rfl (Bpc rfl (Bpc rfl (Bpc rfl (Bpc rfl (Bpc rfl (Bpc rfl (Bpc rfl (Bpc rfl (Bpc rfl (Bpc rfl (Bpc rfl (Bpc rfl (Bpc rfl (Bpc rfl (Bpc rfl (Bpc rfl (Bpc rfl (Bpc rfl (Bpc rfl (Bpc rfl (Bpc rfl (Bpc rfl (Bpc rfl (Bpc rfl (Bpc rfl (Bpc rfl (Bpc rfl (Bpc rfl (Bpc rfl (Bpc rfl (Bpc rfl (Bpc rfl (Bpc rfl (Bpc rfl (Bpc rfl (Bpc rfl (Bpc rfl (Bpc rfl (Bpc rfl (Bpc rfl (Bpc rfl (Bpc rfl (Bpc rfl Bp0)))))))))))))))))))))))))))))))))))))))))))))))))))))))))))))))))))))))))))))))) (by kernel_rfl)) ?_
  refine L_alloc rfl H_2 T_zero49 ?_; intro bk3 w_3 H_3
  refine L_str (ds := ua .u64 Sm.k512.ks) T_row49 H_3 (i := 0) rfl rfl rfl rfl (by rw [ua_size]; exact ks512_wd.1) (ua_one _ _) (l' := [Ent.blk bk3 49 (ua .u64 Sm.k512.ks), Ent.blk bk2 28 (ua .u8 [0, 0, 0, 0, 0, 0, 0, 0, 0, 0, 0, 0, 0, 0, 0, 0, 0, 0, 0, 0, 0, 0, 0, 0, 0, 0, 0, 0, 0, 0, 0, 0, 0, 0, 0, 0, 0, 0, 0, 0, 0, 0, 0, 0, 0, 0, 0, 0, 0, 0, 0, 0, 0, 0, 0, 0, 0, 0, 0, 0, 0, 0, 0, 0])]) rfl ?_; intro w_4 H_4
  refine L_nil ?_
  refine Th_n ?_
  refine W_seq ?_
  refine W_rg ?_
  refine L_y rfl (Y_build (pv := [(0, Value.int .u64 ((7640891576956012808 : Nat) : Int)), (1, Value.int .u64 ((13503953896175478587 : Nat) : Int)), (2, Value.int .u64 ((4354685564936845355 : Nat) : Int)), (3, Value.int .u64 ((11912009170470909681 : Nat) : Int)), (4, Value.int .u64 ((5840696475078001361 : Nat) : Int)), (5, Value.int .u64 ((11170449401992604703 : Nat) : Int)), (6, Value.int .u64 ((2270897969802886507 : Nat) : Int)), (7, Value.int .u64 ((6620516959819538809 : Nat) : Int))]) (cs := ua .u64 ((Sm.run Sm.k512 (Sm.full Sm.k512 l) 0).l)) (Bpc rfl (Bpc rfl (Bpc rfl (Bpc rfl (Bpc rfl (Bpc rfl (Bpc rfl (Bpc rfl Bp0)))))))) (by kernel_rfl)) ?_
  refine L_alloc rfl H_4 T_zero50 ?_; intro bk4 w_5 H_5
  refine L_str (ds := ua .u64 ((Sm.run Sm.k512 (Sm.full Sm.k512 l) 0).l)) T_row50 H_5 (i := 0) rfl rfl rfl rfl (by rw [ua_size]; exact (V8wd512 Sm.lt512).1) (ua_one _ _) (l' := [Ent.blk bk4 50 (ua .u64 ((Sm.run Sm.k512 (Sm.full Sm.k512 l) 0).l)), Ent.blk bk3 49 (ua .u64 Sm.k512.ks), Ent.blk bk2 28 (ua .u8 [0, 0, 0, 0, 0, 0, 0, 0, 0, 0, 0, 0, 0, 0, 0, 0, 0, 0, 0, 0, 0, 0, 0, 0, 0, 0, 0, 0, 0, 0, 0, 0, 0, 0, 0, 0, 0, 0, 0, 0, 0, 0, 0, 0, 0, 0, 0, 0, 0, 0, 0, 0, 0, 0, 0, 0, 0, 0, 0, 0, 0, 0, 0, 0])]) rfl ?_; intro w_6 H_6
  refine L_nil ?_
  refine Th_n ?_
  refine W_seq ?_
  refine W_rg ?_
  refine L_mv rfl ?_
  refine L_y rfl (Y_lenS T_sl22 p_0) ?_
  refine L_as rfl ?_
  refine L_nil ?_
  refine Th_n ?_
  refine W_seq ?_
  refine W_block ?_
  refine W_loop (fun mu_ e w => ∃ j : Nat, ∃ a1 : Option Addr, ∃ m1 : Nat, ∃ c1 : Nat, mu_ = m1 + 1 ∧ e 0 = Value.slice a1 m1 c1 ∧ e 2 = Value.pointer (some ⟨bk2, 0, none⟩) ∧ e 3 = Value.pointer (some ⟨bk3, 0, none⟩) ∧ e 4 = Value.pointer (some ⟨bk4, 0, none⟩) ∧ e 5 = Value.int .i64 ((n : Nat) : Int) ∧ Hp w0 [] w [Ent.blk bk4 50 (ua .u64 ((Sm.run Sm.k512 (Sm.full Sm.k512 l) j).l)), Ent.blk bk3 49 (ua .u64 Sm.k512.ks), Ent.blk bk2 28 (ua .u8 [0, 0, 0, 0, 0, 0, 0, 0, 0, 0, 0, 0, 0, 0, 0, 0, 0, 0, 0, 0, 0, 0, 0, 0, 0, 0, 0, 0, 0, 0, 0, 0, 0, 0, 0, 0, 0, 0, 0, 0, 0, 0, 0, 0, 0, 0, 0, 0, 0, 0, 0, 0, 0, 0, 0, 0, 0, 0, 0, 0, 0, 0, 0, 0])] ∧ 128 * j ≤ n ∧ Win a c a1 (128 * j) ∧ m1 = n - 128 * j ∧ c1 = c - 128 * j) _ ⟨0, a, n, c, rfl, p_0, rfl, rfl, rfl, rfl, H_6, (Nat.zero_le _), (Win.zero hb), rfl, rfl⟩ ?_
  rintro mu_ e_2 w_7 ⟨j, a1, m1, c1, rfl, e_2_0, e_2_2, e_2_3, e_2_4, e_2_5, H_7, hj, hw, hm1, hc1⟩
  refine W_seq ?_
  refine W_seq ?_
  refine W_rg ?_
  refine L_mv rfl ?_
  refine L_y rfl (Y_lenS T_sl22 e_2_0) ?_
  refine L_y rfl (Y_geq (k := .i64) (a := ((m1 : Nat) : Int)) (b := ((128 : Nat) : Int)) rfl rfl) ?_
  refine L_nil ?_
  refine Th_n ?_
  refine W_cond (b := (decide (((128 : Nat) : Int) ≤ ((m1 : Nat) : Int)))) rfl (fun hc => ?_) (fun hc => ?_)
  ·
    have hc' := of_decide_eq_true hc
    refine W_skip ?_
    refine Th_n ?_
    refine W_block ?_
    refine W_seq ?_
    refine W_quiet H_7 3 [Value.agg (ua .u64 ((Sm.run Sm.k512 (Sm.full Sm.k512 l) j).l)), Value.slice a1 m1 c1, Value.slice a1 128 c1] T_mixed (by kernel_rfl) ?_ ?_
    ·
      refine .plain rfl (Pl_y rfl (fun w hBw => Y_ldr T_row50 hBw (i := 0) rfl e_2_4 (by rw [ua_size]; exact (V8wd512 (Sm.run_lt Sm.lt512 (Sm.full Sm.k512 l) j)).1))) ?_
      refine .plain rfl (Pl_y rfl (fun w hBw => congrArg (fun v => Result.ok (Next.value v) w) e_2_0)) ?_
      refine .plain rfl (Pl_y rfl (fun w hBw => Y_cutHr (hi := 128) T_sl22 (hw.sl (hb.hp hBw) hj hm1 hc1) rfl rfl (Nat.le_trans (by omega) (hw.sl (hb.hp hBw) hj hm1 hc1).cap))) ?_
      exact .nil _
    ·
      intro e_3 w_8 hAg H_8
      have e_3_0 : e_3 0 = Value.slice a1 m1 c1 := (hAg 0 rfl).trans e_2_0
      have e_3_2 : e_3 2 = Value.pointer (some ⟨bk2, 0, none⟩) := (hAg 2 rfl).trans e_2_2
      have e_3_3 : e_3 3 = Value.pointer (some ⟨bk3, 0, none⟩) := (hAg 3 rfl).trans e_2_3
      have e_3_4 : e_3 4 = Value.pointer (some ⟨bk4, 0, none⟩) := (hAg 4 rfl).trans e_2_4
      have e_3_5 : e_3 5 = Value.int .i64 ((n : Nat) : Int) := (hAg 5 rfl).trans e_2_5
      have e_3_16 : e_3 16 = Value.agg (ua .u64 ((Sm.run Sm.k512 (Sm.full Sm.k512 l) j).l)) := (hAg 16 rfl).trans rfl
      have e_3_18 : e_3 18 = Value.slice a1 128 c1 := (hAg 18 rfl).trans rfl
      refine L_callv rfl rfl T_en23 (A3 e_3_16 e_3_18 e_3_3) (great_n (Sm.run Sm.k512 (Sm.full Sm.k512 l) j) _ _ ((l.drop (128 * j)).take 128) _ (Sm.run_lt Sm.lt512 _ _) (fun u hu => (fun u hu => hl u (List.mem_of_mem_drop hu)) u (List.mem_of_mem_take hu)) _ ((hw.sl (hb.hp H_8) hj hm1 hc1).tk (by omega)) (H_8.get 1 rfl)) ?_
      rintro _ w_9 ⟨rfl, hkp⟩; refine ⟨_, rfl, ?_⟩; have H_9 := H_8.keep hkp
      refine L_str (ds := ua .u64 ((Sm.comp Sm.k512 (Sm.run Sm.k512 (Sm.full Sm.k512 l) j) ((l.drop (128 * j)).take 128)).l)) T_row50 H_9 (i := 0) rfl e_3_4 rfl (by rw [ua_size]; exact (V8wd512 (Sm.run_lt Sm.lt512 (Sm.full Sm.k512 l) j)).1) (by rw [ua_size]; exact (V8wd512 (Sm.addV_lt _ _ _)).1) (ua_one _ _) (l' := [Ent.blk bk4 50 (ua .u64 ((Sm.comp Sm.k512 (Sm.run Sm.k512 (Sm.full Sm.k512 l) j) ((l.drop (128 * j)).take 128)).l)), Ent.blk bk3 49 (ua .u64 Sm.k512.ks), Ent.blk bk2 28 (ua .u8 [0, 0, 0, 0, 0, 0, 0, 0, 0, 0, 0, 0, 0, 0, 0, 0, 0, 0, 0, 0, 0, 0, 0, 0, 0, 0, 0, 0, 0, 0, 0, 0, 0, 0, 0, 0, 0, 0, 0, 0, 0, 0, 0, 0, 0, 0, 0, 0, 0, 0, 0, 0, 0, 0, 0, 0, 0, 0, 0, 0, 0, 0, 0, 0])]) rfl ?_; intro w_10 H_10
      refine L_nil ?_
      refine Th_n ?_
      refine W_rg ?_
      refine L_mv rfl ?_
      refine L_y rfl (Y_cutL (lo := 128) T_sl22 e_3_0 rfl (by omega)) ?_
      refine L_as rfl ?_
      refine L_nil ?_
      refine InB_n ?_
      have H_11 : Hp w0 [] w_10 [Ent.blk bk4 50 (ua .u64 ((Sm.run Sm.k512 (Sm.full Sm.k512 l) (j + 1)).l)), Ent.blk bk3 49 (ua .u64 Sm.k512.ks), Ent.blk bk2 28 (ua .u8 [0, 0, 0, 0, 0, 0, 0, 0, 0, 0, 0, 0, 0, 0, 0, 0, 0, 0, 0, 0, 0, 0, 0, 0, 0, 0, 0, 0, 0, 0, 0, 0, 0, 0, 0, 0, 0, 0, 0, 0, 0, 0, 0, 0, 0, 0, 0, 0, 0, 0, 0, 0, 0, 0, 0, 0, 0, 0, 0, 0, 0, 0, 0, 0])] := by have h := H_10; rw [Sm.run512_next (by rw [hb.len]; omega)] at h; exact h
      refine Th_n ⟨_, ?_, j + 1, cutA a1 c1 128, m1 - 128, c1 - 128, rfl, rfl, e_3_2, e_3_3, e_3_4, e_3_5, H_11, (by omega), (hw.cut hc1 (by have := hb.cap; omega)), (by omega), (by omega)⟩
      omega
  ·
    have hc' := of_decide_eq_false hc
    refine W_exit ?_
    refine Th_x ?_
    refine Th_x ?_
    refine InB_hit ?_
    refine Th_n ?_
    refine W_seq ?_
    refine W_seq ?_
    refine W_rg ?_
    refine L_mv rfl ?_
    refine L_mv rfl ?_
    refine L_callv rfl rfl T_en20 (A4 e_2_0 e_2_5 rfl rfl) (rest512_n _ _ _ n (l.drop (128 * j)) (fun u hu => hl u (List.mem_of_mem_drop hu)) (by omega) (by omega) hn _ (hw.sl (hb.hp H_7) hj hm1 hc1)) ?_
    rintro _ w_11 ⟨ra24, rM24, rc24, rfl, hkp_2⟩; refine ⟨_, rfl, ?_⟩; have H_12 := H_7.more hkp_2
    refine L_as rfl ?_
    refine L_nil ?_
    refine Th_n ?_
    refine W_block ?_
    have H_13 : Hp w0 [] w_11 [Ent.own (Value.slice ra24 rM24 rc24) 5 1 rM24 (us .u8 ((Sm.full Sm.k512 l).drop (128 * j))), Ent.blk bk4 50 (ua .u64 ((Sm.run Sm.k512 (Sm.full Sm.k512 l) j).l)), Ent.blk bk3 49 (ua .u64 Sm.k512.ks), Ent.blk bk2 28 (ua .u8 [0, 0, 0, 0, 0, 0, 0, 0, 0, 0, 0, 0, 0, 0, 0, 0, 0, 0, 0, 0, 0, 0, 0, 0, 0, 0, 0, 0, 0, 0, 0, 0, 0, 0, 0, 0, 0, 0, 0, 0, 0, 0, 0, 0, 0, 0, 0, 0, 0, 0, 0, 0, 0, 0, 0, 0, 0, 0, 0, 0, 0, 0, 0, 0])] := by have h := H_12; rw [← hb.len, ← Sm.full_drop (q := Sm.k512) (by rw [hb.len]; omega)] at h; exact h
    have hrl := (Sl.own H_13 (i := 0) rfl).len
    have hrM := Sm.rest_mod512 hrl
    refine W_loop (fun mu_ e w => ∃ i : Nat, ∃ a2 : Option Addr, ∃ m2 : Nat, ∃ c2 : Nat, mu_ = m2 + 1 ∧ e 2 = Value.pointer (some ⟨bk2, 0, none⟩) ∧ e 3 = Value.pointer (some ⟨bk3, 0, none⟩) ∧ e 4 = Value.pointer (some ⟨bk4, 0, none⟩) ∧ e 6 = Value.slice a2 m2 c2 ∧ Hp w0 [] w [Ent.own (Value.slice ra24 rM24 rc24) 5 1 rM24 (us .u8 ((Sm.full Sm.k512 l).drop (128 * j))), Ent.blk bk4 50 (ua .u64 ((Sm.run Sm.k512 (Sm.full Sm.k512 l) (j + i)).l)), Ent.blk bk3 49 (ua .u64 Sm.k512.ks), Ent.blk bk2 28 (ua .u8 [0, 0, 0, 0, 0, 0, 0, 0, 0, 0, 0, 0, 0, 0, 0, 0, 0, 0, 0, 0, 0, 0, 0, 0, 0, 0, 0, 0, 0, 0, 0, 0, 0, 0, 0, 0, 0, 0, 0, 0, 0, 0, 0, 0, 0, 0, 0, 0, 0, 0, 0, 0, 0, 0, 0, 0, 0, 0, 0, 0, 0, 0, 0, 0])] ∧ 128 * i ≤ rM24 ∧ Win ra24 rc24 a2 (128 * i) ∧ m2 = rM24 - 128 * i ∧ c2 = rc24 - 128 * i) _ ⟨0, ra24, rM24, rc24, rfl, e_2_2, e_2_3, e_2_4, rfl, H_13, (Nat.zero_le _), (Win.zero (Sl.own H_13 (i := 0) rfl)), rfl, rfl⟩ ?_
    rintro mu_ e_4 w_12 ⟨i, a2, m2, c2, rfl, e_4_2, e_4_3, e_4_4, e_4_6, H_14, hi, hw2, hm2, hc2⟩
    refine W_seq ?_
    refine W_seq ?_
    refine W_rg ?_
    refine L_mv rfl ?_
    refine L_y rfl (Y_lenS T_sl22 e_4_6) ?_
    refine L_y rfl (Y_gtr (k := .i64) (a := ((m2 : Nat) : Int)) (b := ((0 : Nat) : Int)) rfl rfl) ?_
    refine L_nil ?_
    refine Th_n ?_
    refine W_cond (b := (decide (((0 : Nat) : Int) < ((m2 : Nat) : Int)))) rfl (fun hc_2 => ?_) (fun hc_2 => ?_)
    ·
      have hc_2' := of_decide_eq_true hc_2
      refine W_skip ?_
      refine Th_n ?_
      refine W_seq ?_
      refine W_block ?_
      refine W_quiet H_14 3 [Value.agg (ua .u64 ((Sm.run Sm.k512 (Sm.full Sm.k512 l) (j + i)).l)), Value.slice a2 m2 c2, Value.slice a2 128 c2] T_mixed (by kernel_rfl) ?_ ?_
      ·
        refine .plain rfl (Pl_y rfl (fun w hBw => Y_ldr T_row50 hBw (i := 1) rfl e_4_4 (by rw [ua_size]; exact (V8wd512 (Sm.run_lt Sm.lt512 (Sm.full Sm.k512 l) (j + i))).1))) ?_
        refine .plain rfl (Pl_y rfl (fun w hBw => congrArg (fun v => Result.ok (Next.value v) w) e_4_6)) ?_
        refine .plain rfl (Pl_y rfl (fun w hBw => Y_cutHr (hi := 128) T_sl22 (hw2.sl (Sl.own hBw (i := 0) rfl) hi hm2 hc2) rfl rfl (Nat.le_trans (by omega) (hw2.sl (Sl.own hBw (i := 0) rfl) hi hm2 hc2).cap))) ?_
        exact .nil _
      ·
        intro e_5 w_13 hAg H_15
        have e_5_2 : e_5 2 = Value.pointer (some ⟨bk2, 0, none⟩) := (hAg 2 rfl).trans e_4_2
        have e_5_3 : e_5 3 = Value.pointer (some ⟨bk3, 0, none⟩) := (hAg 3 rfl).trans e_4_3
        have e_5_4 : e_5 4 = Value.pointer (some ⟨bk4, 0, none⟩) := (hAg 4 rfl).trans e_4_4
        have e_5_6 : e_5 6 = Value.slice a2 m2 c2 := (hAg 6 rfl).trans e_4_6
        have e_5_30 : e_5 30 = Value.agg (ua .u64 ((Sm.run Sm.k512 (Sm.full Sm.k512 l) (j + i)).l)) := (hAg 30 rfl).trans rfl
        have e_5_32 : e_5 32 = Value.slice a2 128 c2 := (hAg 32 rfl).trans rfl
        refine L_callv rfl rfl T_en23 (A3 e_5_30 e_5_32 e_5_3) (great_n (Sm.run Sm.k512 (Sm.full Sm.k512 l) (j + i)) _ _ ((((Sm.full Sm.k512 l).drop (128 * j)).drop (128 * i)).take 128) _ (Sm.run_lt Sm.lt512 _ _) (fun u hu => (fun u hu => Sm.full_lt hl u (List.mem_of_mem_drop (List.mem_of_mem_drop hu))) u (List.mem_of_mem_take hu)) _ ((hw2.sl (Sl.own H_15 (i := 0) rfl) hi hm2 hc2).tk (by omega)) (H_15.get 2 rfl)) ?_
        rintro _ w_14 ⟨rfl, hkp_3⟩; refine ⟨_, rfl, ?_⟩; have H_16 := H_15.keep hkp_3
        refine L_str (ds := ua .u64 ((Sm.comp Sm.k512 (Sm.run Sm.k512 (Sm.full Sm.k512 l) (j + i)) ((((Sm.full Sm.k512 l).drop (128 * j)).drop (128 * i)).take 128)).l)) T_row50 H_16 (i := 1) rfl e_5_4 rfl (by rw [ua_size]; exact (V8wd512 (Sm.run_lt Sm.lt512 (Sm.full Sm.k512 l) (j + i))).1) (by rw [ua_size]; exact (V8wd512 (Sm.addV_lt _ _ _)).1) (ua_one _ _) (l' := [Ent.own (Value.slice ra24 rM24 rc24) 5 1 rM24 (us .u8 ((Sm.full Sm.k512 l).drop (128 * j))), Ent.blk bk4 50 (ua .u64 ((Sm.comp Sm.k512 (Sm.run Sm.k512 (Sm.full Sm.k512 l) (j + i)) ((((Sm.full Sm.k512 l).drop (128 * j)).drop (128 * i)).take 128)).l)), Ent.blk bk3 49 (ua .u64 Sm.k512.ks), Ent.blk bk2 28 (ua .u8 [0, 0, 0, 0, 0, 0, 0, 0, 0, 0, 0, 0, 0, 0, 0, 0, 0, 0, 0, 0, 0, 0, 0, 0, 0, 0, 0, 0, 0, 0, 0, 0, 0, 0, 0, 0, 0, 0, 0, 0, 0, 0, 0, 0, 0, 0, 0, 0, 0, 0, 0, 0, 0, 0, 0, 0, 0, 0, 0, 0, 0, 0, 0, 0])]) rfl ?_; intro w_15 H_17
        refine L_nil ?_
        refine InB_n ?_
        refine Th_n ?_
        refine W_rg ?_
        refine L_mv rfl ?_
        refine L_y rfl (Y_cutL (lo := 128) T_sl22 e_5_6 rfl (by omega)) ?_
        refine L_as rfl ?_
        refine L_nil ?_
        have H_18 : Hp w0 [] w_15 [Ent.own (Value.slice ra24 rM24 rc24) 5 1 rM24 (us .u8 ((Sm.full Sm.k512 l).drop (128 * j))), Ent.blk bk4 50 (ua .u64 ((Sm.run Sm.k512 (Sm.full Sm.k512 l) (j + (i + 1))).l)), Ent.blk bk3 49 (ua .u64 Sm.k512.ks), Ent.blk bk2 28 (ua .u8 [0, 0, 0, 0, 0, 0, 0, 0, 0, 0, 0, 0, 0, 0, 0, 0, 0, 0, 0, 0, 0, 0, 0, 0, 0, 0, 0, 0, 0, 0, 0, 0, 0, 0, 0, 0, 0, 0, 0, 0, 0, 0, 0, 0, 0, 0, 0, 0, 0, 0, 0, 0, 0, 0, 0, 0, 0, 0, 0, 0, 0, 0, 0, 0])] := by have h := H_17; rw [Sm.run512_on] at h; exact h
        refine Th_n ⟨_, ?_, i + 1, cutA a2 c2 128, m2 - 128, c2 - 128, rfl, e_5_2, e_5_3, e_5_4, rfl, H_18, (by omega), (hw2.cut hc2 (by have := (Sl.own H_18 (i := 0) rfl).cap; omega)), (by omega), (by omega)⟩
        omega
    ·
      have hc_2' := of_decide_eq_false hc_2
      refine W_exit ?_
      refine Th_x ?_
      refine Th_x ?_
      have H_19 : Hp w0 [] w_12 [Ent.own (Value.slice ra24 rM24 rc24) 5 1 rM24 (us .u8 ((Sm.full Sm.k512 l).drop (128 * j))), Ent.blk bk4 50 (ua .u64 ((Sm.run Sm.k512 (Sm.full Sm.k512 l) ((Sm.full Sm.k512 l).length / 128)).l)), Ent.blk bk3 49 (ua .u64 Sm.k512.ks), Ent.blk bk2 28 (ua .u8 [0, 0, 0, 0, 0, 0, 0, 0, 0, 0, 0, 0, 0, 0, 0, 0, 0, 0, 0, 0, 0, 0, 0, 0, 0, 0, 0, 0, 0, 0, 0, 0, 0, 0, 0, 0, 0, 0, 0, 0, 0, 0, 0, 0, 0, 0, 0, 0, 0, 0, 0, 0, 0, 0, 0, 0, 0, 0, 0, 0, 0, 0, 0, 0])] := by have h := H_14; rw [Sm.blocks512 hrl (by rw [hb.len]; omega) (by omega)] at h; exact h
      refine InB_hit ?_
      refine Th_n ?_
      refine W_seq ?_
      refine W_rg ?_
      refine L_alloc rfl H_19 T_zero28 ?_; intro bk7 w_16 H_20
      refine L_nil ?_
      refine Th_n ?_
      refine W_seq ?_
      refine W_seq ?_
      refine W_rg ?_
      refine L_mv rfl ?_
      refine L_nil ?_
      refine Th_n ?_
      refine W_block ?_
      refine W_loop (fun mu_ e w => ∃ t : Nat, mu_ = 64 - t ∧ e 2 = Value.pointer (some ⟨bk2, 0, none⟩) ∧ e 4 = Value.pointer (some ⟨bk4, 0, none⟩) ∧ e 7 = Value.pointer (some ⟨bk7, 0, none⟩) ∧ e 34 = Value.int .i64 ((t : Nat) : Int) ∧ Hp w0 [] w [Ent.blk bk7 28 (ua .u8 ((Sm.sum Sm.k512 l).take t ++ List.replicate (64 - t) 0)), Ent.own (Value.slice ra24 rM24 rc24) 5 1 rM24 (us .u8 ((Sm.full Sm.k512 l).drop (128 * j))), Ent.blk bk4 50 (ua .u64 ((Sm.run Sm.k512 (Sm.full Sm.k512 l) ((Sm.full Sm.k512 l).length / 128)).l)), Ent.blk bk3 49 (ua .u64 Sm.k512.ks), Ent.blk bk2 28 (ua .u8 [0, 0, 0, 0, 0, 0, 0, 0, 0, 0, 0, 0, 0, 0, 0, 0, 0, 0, 0, 0, 0, 0, 0, 0, 0, 0, 0, 0, 0, 0, 0, 0, 0, 0, 0, 0, 0, 0, 0, 0, 0, 0, 0, 0, 0, 0, 0, 0, 0, 0, 0, 0, 0, 0, 0, 0, 0, 0, 0, 0, 0, 0, 0, 0])] ∧ t ≤ 64) _ ⟨0, rfl, e_4_2, e_4_4, rfl, rfl, H_20, (Nat.zero_le _)⟩ ?_
      rintro mu_ e_6 w_17 ⟨t, rfl, e_6_2, e_6_4, e_6_7, e_6_34, H_21, ht⟩
      refine W_seq ?_
      refine W_rg ?_
      refine L_y rfl (Y_lss (k := .i64) (a := ((t : Nat) : Int)) (b := ((64 : Nat) : Int)) e_6_34 rfl) ?_
      refine L_nil ?_
      refine Th_n ?_
      refine W_seq ?_
      refine W_cond (b := (decide (((t : Nat) : Int) < ((64 : Nat) : Int)))) rfl (fun hc_3 => ?_) (fun hc_3 => ?_)
      ·
        have hc_3' := of_decide_eq_true hc_3
        refine W_skip ?_
        refine Th_n ?_
        refine W_seq ?_
        refine W_block ?_
        refine W_seq ?_
        refine W_rg ?_
        refine L_mv rfl ?_
        refine L_as rfl ?_
        refine L_nil ?_
        refine Th_n ?_
        refine W_rg ?_
        refine L_mv rfl ?_
        refine L_mv rfl ?_
        refine L_y rfl (Y_quo (k := .i64) (a := ((t : Nat) : Int)) (b := ((8 : Nat) : Int)) (z := ((t / 8 : Nat) : Int)) e_6_34 rfl (by omega) (wiq (by omega))) ?_
        refine L_y rfl (Y_idxA (t / 8) (t / 8) T_arr50 e_6_4 rfl rfl (by omega) (zz1 _)) ?_
        obtain ⟨x41, hx41⟩ : ∃ u, ((Sm.run Sm.k512 (Sm.full Sm.k512 l) ((Sm.full Sm.k512 l).length / 128)).l)[t / 8]? = some u := ⟨_, List.getElem?_eq_getElem (by have := (V8wd512 (Sm.run_lt Sm.lt512 (Sm.full Sm.k512 l) ((Sm.full Sm.k512 l).length / 128))).1; omega)⟩
        have rx41 := (V8wd512 (Sm.run_lt Sm.lt512 (Sm.full Sm.k512 l) ((Sm.full Sm.k512 l).length / 128))).2 _ (List.mem_of_getElem? hx41)
        refine L_y rfl (Y_ld T_scal31 H_21 (i := 2) rfl rfl (ua_get hx41)) ?_
        refine L_mv rfl ?_
        refine L_y rfl (Y_rem (k := .i64) (a := ((t : Nat) : Int)) (b := ((8 : Nat) : Int)) (z := ((t % 8 : Nat) : Int)) e_6_34 rfl (by omega) rfl) ?_
        refine L_y rfl (Y_mul (k := .i64) (a := ((8 : Nat) : Int)) (b := ((t % 8 : Nat) : Int)) (z := ((8 * (t % 8) : Nat) : Int)) rfl rfl (wi (by omega))) ?_
        refine L_y rfl (Y_sub (k := .i64) (a := ((56 : Nat) : Int)) (b := ((8 * (t % 8) : Nat) : Int)) (z := ((56 - (8 * (t % 8)) : Nat) : Int)) rfl rfl (wi (by omega))) ?_
        refine L_yr (z := x41 / 2 ^ (56 - (8 * (t % 8)))) (m := 18446744073709551616) rfl (Yu_shr (k := .u64) x41 (56 - (8 * (t % 8))) rx41 rfl rfl) (Nat.lt_of_le_of_lt (Nat.div_le_self _ _) rx41) ?_; intro x46 hx46 rx46
        refine L_yr (z := x46 % 256) (m := 256) rfl (Y_convI (k := .u64) (n := ((x46 : Nat) : Int)) (z := ((x46 % 256 : Nat) : Int)) T_some31 T_kind5 rfl (wrapM rfl rfl)) (Nat.mod_lt _ (by decide)) ?_; intro x47 hx47 rx47
        refine L_y rfl (Y_idxA t t T_arr28 e_6_7 e_6_34 rfl (by omega) (zz1 _)) ?_
        refine L_st (v := Value.int .u8 ((x47 : Nat) : Int)) T_scal5 H_21 (i := 0) rfl rfl rfl rfl (by rw [ua_size]; have := (sum512_wp l ht).1; omega) (l' := [Ent.blk bk7 28 (ua .u8 (((Sm.sum Sm.k512 l).take t ++ List.replicate (64 - t) 0).set t x47)), Ent.own (Value.slice ra24 rM24 rc24) 5 1 rM24 (us .u8 ((Sm.full Sm.k512 l).drop (128 * j))), Ent.blk bk4 50 (ua .u64 ((Sm.run Sm.k512 (Sm.full Sm.k512 l) ((Sm.full Sm.k512 l).length / 128)).l)), Ent.blk bk3 49 (ua .u64 Sm.k512.ks), Ent.blk bk2 28 (ua .u8 [0, 0, 0, 0, 0, 0, 0, 0, 0, 0, 0, 0, 0, 0, 0, 0, 0, 0, 0, 0, 0, 0, 0, 0, 0, 0, 0, 0, 0, 0, 0, 0, 0, 0, 0, 0, 0, 0, 0, 0, 0, 0, 0, 0, 0, 0, 0, 0, 0, 0, 0, 0, 0, 0, 0, 0, 0, 0, 0, 0, 0, 0, 0, 0])]) (by rw [ua_set]; rfl) ?_; intro w_18 H_22
        refine L_nil ?_
        refine InB_n ?_
        refine Th_n ?_
        refine W_rg ?_
        refine L_y rfl (Y_add (k := .i64) (a := ((t : Nat) : Int)) (b := ((1 : Nat) : Int)) (z := ((t + 1 : Nat) : Int)) e_6_34 rfl (wi (by omega))) ?_
        refine L_mv rfl ?_
        refine L_nil ?_
        have H_23 : Hp w0 [] w_18 [Ent.blk bk7 28 (ua .u8 ((Sm.sum Sm.k512 l).take (t + 1) ++ List.replicate (64 - (t + 1)) 0)), Ent.own (Value.slice ra24 rM24 rc24) 5 1 rM24 (us .u8 ((Sm.full Sm.k512 l).drop (128 * j))), Ent.blk bk4 50 (ua .u64 ((Sm.run Sm.k512 (Sm.full Sm.k512 l) ((Sm.full Sm.k512 l).length / 128)).l)), Ent.blk bk3 49 (ua .u64 Sm.k512.ks), Ent.blk bk2 28 (ua .u8 [0, 0, 0, 0, 0, 0, 0, 0, 0, 0, 0, 0, 0, 0, 0, 0, 0, 0, 0, 0, 0, 0, 0, 0, 0, 0, 0, 0, 0, 0, 0, 0, 0, 0, 0, 0, 0, 0, 0, 0, 0, 0, 0, 0, 0, 0, 0, 0, 0, 0, 0, 0, 0, 0, 0, 0, 0, 0, 0, 0, 0, 0, 0, 0])] := by have h := H_22; rw [Sm.take_set (by omega) (sum512_wd l).1 (Sm.sum512_get (by omega) hx41 hx46 hx47)] at h; exact h
        refine Th_n ⟨_, ?_, t + 1, rfl, e_6_2, e_6_4, e_6_7, rfl, H_23, (by omega)⟩
        omega
      ·
        have hc_3' := of_decide_eq_false hc_3
        refine W_exit ?_
        refine Th_x ?_
        refine Th_x ?_
        obtain rfl : t = 64 := by omega
        have H_24 : Hp w0 [] w_17 [Ent.blk bk7 28 (ua .u8 (Sm.sum Sm.k512 l)), Ent.own (Value.slice ra24 rM24 rc24) 5 1 rM24 (us .u8 ((Sm.full Sm.k512 l).drop (128 * j))), Ent.blk bk4 50 (ua .u64 ((Sm.run Sm.k512 (Sm.full Sm.k512 l) ((Sm.full Sm.k512 l).length / 128)).l)), Ent.blk bk3 49 (ua .u64 Sm.k512.ks), Ent.blk bk2 28 (ua .u8 [0, 0, 0, 0, 0, 0, 0, 0, 0, 0, 0, 0, 0, 0, 0, 0, 0, 0, 0, 0, 0, 0, 0, 0, 0, 0, 0, 0, 0, 0, 0, 0, 0, 0, 0, 0, 0, 0, 0, 0, 0, 0, 0, 0, 0, 0, 0, 0, 0, 0, 0, 0, 0, 0, 0, 0, 0, 0, 0, 0, 0, 0, 0, 0])] := by have h := H_21; rw [Nat.sub_self, List.replicate_zero, List.append_nil, List.take_of_length_le (Nat.le_of_eq (sum512_wd l).1)] at h; exact h
        refine InB_hit ?_
        refine Th_n ?_
        refine W_seq ?_
        refine W_rg ?_
        refine L_y rfl (Y_ldr T_row28 H_24 (i := 0) rfl e_6_7 (by rw [ua_size]; exact (sum512_wd l).1)) ?_
        refine L_str (ds := ua .u8 (Sm.sum Sm.k512 l)) T_row28 H_24 (i := 4) rfl e_6_2 rfl rfl (by rw [ua_size]; exact (sum512_wd l).1) (ua_one _ _) (l' := [Ent.blk bk7 28 (ua .u8 (Sm.sum Sm.k512 l)), Ent.own (Value.slice ra24 rM24 rc24) 5 1 rM24 (us .u8 ((Sm.full Sm.k512 l).drop (128 * j))), Ent.blk bk4 50 (ua .u64 ((Sm.run Sm.k512 (Sm.full Sm.k512 l) ((Sm.full Sm.k512 l).length / 128)).l)), Ent.blk bk3 49 (ua .u64 Sm.k512.ks), Ent.blk bk2 28 (ua .u8 (Sm.sum Sm.k512 l))]) rfl ?_; intro w_19 H_25
        refine L_nil ?_
        refine Th_n ?_
        refine W_ret ?_
        refine P_ret (vs := [Value.agg (ua .u8 (Sm.sum Sm.k512 l))]) (v := Value.agg (ua .u8 (Sm.sum Sm.k512 l))) rfl (.cell e_6_2 (loadVar_row T_row28 H_25 (i := 4) rfl (by rw [ua_size]; exact (sum512_wd l).1)) (Res.nil)) rfl ?_
        refine ⟨?_, H_25.nil_⟩
        rfl
end Go.Proofs.Ytdccphfaeockpaa
