/- Walks of layers 6 and 7 (sums, macs) and of their references. Printed by mac.py. -/
import Derived.Test.YtdifogdaiimmoaaM7
namespace Go.Proofs.Ytdifogdaiimmoaa
open Go.Ev
set_option maxRecDepth 100000
theorem T_en12 : enters Try.prog 12 = true := by kernel_rfl
theorem T_en17 : enters Try.prog 17 = true := by kernel_rfl
theorem T_en16 : enters Try.prog 16 = true := by kernel_rfl
theorem T_en18 : enters Try.prog 18 = true := by kernel_rfl
theorem derive_n (a0 : Option Addr) (n0 c0 : Nat) (l0 : List Nat) (a1 : Option Addr) (n1 c1 : Nat) (l1 : List Nat) (a2 : Option Addr) (n2 c2 : Nat) (l2 : List Nat) (hl0 : ∀ u ∈ l0, u < 256) (hl1 : ∀ u ∈ l1, u < 256) (hl2 : ∀ u ∈ l2, u < 256) (hn0 : n0 ≤ 1000000) (hn1 : n1 ≤ 1000000) (hn2 : n2 ≤ 1000000) (n : Nat) (hn : n ≤ 8160) (w0 : World) (hb0 : Sl w0 .u8 a0 n0 c0 l0) (hb1 : Sl w0 .u8 a1 n1 c1 l1) (hb2 : Sl w0 .u8 a2 n2 c2 l2) :
    Calls Try.prog 19 #[Value.slice a0 n0 c0, Value.slice a1 n1 c1, Value.slice a2 n2 c2, Value.int .i64 ((n : Nat) : Int)] w0 (fun r_ w' => ∃ a_ M_ c_ L_, r_ = .returned (.tuple #[.slice a_ n n, .int .i64 ((0 : Nat) : Int)]) ∧ L_.take n = Sm.expand (Sm.hmac Sm.k256 l0 l1) l2 n ∧ n ≤ M_ ∧ Hp w0 [] w' [.own (.slice a_ M_ c_) 5 1 M_ (us .u8 L_)]) := by
  refine F_in Try.func19 rfl Try.ntmps19 rfl ?_
  intro e he
  have p_0 : e 0 = Value.slice a0 n0 c0 := he 0 _ rfl
  have p_1 : e 1 = Value.slice a1 n1 c1 := he 1 _ rfl
  have p_2 : e 2 = Value.slice a2 n2 c2 := he 2 _ rfl
  have p_3 : e 3 = Value.int .i64 ((n : Nat) : Int) := he 3 _ rfl
  have H := Hp.start w0 []
  refine W_seq ?_
  refine W_rg ?_
  refine L_as rfl ?_
  refine L_as rfl ?_
  refine L_nil ?_
  refine Th_n ?_
  refine W_seq ?_
  refine W_rg ?_
  refine L_mv rfl ?_
  refine L_mv rfl ?_
  refine L_callv rfl rfl T_en12 (A2 p_0 p_1) (extract_n _ _ _ l0 _ _ _ l1 hl0 hl1 (by omega) (by omega) _ (hb0.hp H) (hb1.hp H)) ?_
  rintro _ w_2 ⟨rfl, hkp⟩; refine ⟨_, rfl, ?_⟩; have H_2 := H.keep hkp
  refine L_alloc rfl H_2 T_zero24 ?_; intro bk10 w_3 H_3
  refine L_str (ds := ua .u8 (Sm.hmac Sm.k256 l0 l1)) T_row24 H_3 (i := 0) rfl rfl rfl rfl (by rw [ua_size]; exact (hmac256_wd l0 l1).1) (ua_one _ _) (l' := [Ent.blk bk10 24 (ua .u8 (Sm.hmac Sm.k256 l0 l1))]) rfl ?_; intro w_4 H_4
  refine L_nil ?_
  refine Th_n ?_
  refine W_seq ?_
  refine W_rg ?_
  refine L_y rfl (Y_slA T_arr24 rfl) ?_
  refine L_mv rfl ?_
  refine L_mv rfl ?_
  refine L_callv rfl rfl T_en17 (A3 rfl p_2 p_3) (expand_n _ _ _ (Sm.hmac Sm.k256 l0 l1) _ _ _ l2 ((hmac256_wd l0 l1)).2 hl2 (by decide) (by omega) n hn _ (ua_sla H_4 (i := 0) rfl (hmac256_wd l0 l1).1) (hb2.hp H_4)) ?_
  rintro _ w_5 ⟨ea17, eM17, ec17, eL17, rfl, f17_0, f17_1, hkp_2⟩; refine ⟨_, rfl, ?_⟩; have H_5 := H_4.more hkp_2
  refine L_y rfl (Y_ext rfl rfl) ?_
  refine L_y rfl (Y_ext rfl rfl) ?_
  refine L_as rfl ?_
  refine L_as rfl ?_
  refine L_nil ?_
  refine Th_n ?_
  refine W_ret ?_
  refine P_ret (vs := [Value.slice ea17 n n, Value.int .i64 ((0 : Nat) : Int)]) (v := Value.tuple #[Value.slice ea17 n n, Value.int .i64 ((0 : Nat) : Int)]) rfl (.tmp rfl (.tmp rfl (Res.nil))) rfl ?_
  exact ⟨_, _, _, _, rfl, f17_0, f17_1, H_5.only (i := 0) rfl⟩

theorem derive_neg (a0 : Option Addr) (n0 c0 : Nat) (l0 : List Nat) (a1 : Option Addr) (n1 c1 : Nat) (l1 : List Nat) (a2 : Option Addr) (n2 c2 : Nat) (l2 : List Nat) (hl0 : ∀ u ∈ l0, u < 256) (hl1 : ∀ u ∈ l1, u < 256) (hl2 : ∀ u ∈ l2, u < 256) (hn0 : n0 ≤ 1000000) (hn1 : n1 ≤ 1000000) (hn2 : n2 ≤ 1000000) (z : Int) (hz : z < 0) (w0 : World) (hb0 : Sl w0 .u8 a0 n0 c0 l0) (hb1 : Sl w0 .u8 a1 n1 c1 l1) (hb2 : Sl w0 .u8 a2 n2 c2 l2) :
    Calls Try.prog 19 #[Value.slice a0 n0 c0, Value.slice a1 n1 c1, Value.slice a2 n2 c2, Value.int .i64 (z)] w0 (fun r_ w' => r_ = .returned (.tuple #[.slice none 0 0, .int .i64 ((2 : Nat) : Int)]) ∧ Keep w0 w') := by
  refine F_in Try.func19 rfl Try.ntmps19 rfl ?_
  intro e he
  have p_0 : e 0 = Value.slice a0 n0 c0 := he 0 _ rfl
  have p_1 : e 1 = Value.slice a1 n1 c1 := he 1 _ rfl
  have p_2 : e 2 = Value.slice a2 n2 c2 := he 2 _ rfl
  have p_3 : e 3 = Value.int .i64 (z) := he 3 _ rfl
  have H := Hp.start w0 []
  refine W_seq ?_
  refine W_rg ?_
  refine L_as rfl ?_
  refine L_as rfl ?_
  refine L_nil ?_
  refine Th_n ?_
  refine W_seq ?_
  refine W_rg ?_
  refine L_mv rfl ?_
  refine L_mv rfl ?_
  refine L_callv rfl rfl T_en12 (A2 p_0 p_1) (extract_n _ _ _ l0 _ _ _ l1 hl0 hl1 (by omega) (by omega) _ (hb0.hp H) (hb1.hp H)) ?_
  rintro _ w_2 ⟨rfl, hkp⟩; refine ⟨_, rfl, ?_⟩; have H_2 := H.keep hkp
  refine L_alloc rfl H_2 T_zero24 ?_; intro bk10 w_3 H_3
  refine L_str (ds := ua .u8 (Sm.hmac Sm.k256 l0 l1)) T_row24 H_3 (i := 0) rfl rfl rfl rfl (by rw [ua_size]; exact (hmac256_wd l0 l1).1) (ua_one _ _) (l' := [Ent.blk bk10 24 (ua .u8 (Sm.hmac Sm.k256 l0 l1))]) rfl ?_; intro w_4 H_4
  refine L_nil ?_
  refine Th_n ?_
  refine W_seq ?_
  refine W_rg ?_
  refine L_y rfl (Y_slA T_arr24 rfl) ?_
  refine L_mv rfl ?_
  refine L_mv rfl ?_
  refine L_callv rfl rfl T_en17 (A3 rfl p_2 p_3) (expand_neg _ _ _ (Sm.hmac Sm.k256 l0 l1) _ _ _ l2 ((hmac256_wd l0 l1)).2 hl2 (by decide) (by omega) z hz _ (ua_sla H_4 (i := 0) rfl (hmac256_wd l0 l1).1) (hb2.hp H_4)) ?_
  rintro _ w_5 ⟨rfl, hkp_2⟩; refine ⟨_, rfl, ?_⟩; have H_5 := H_4.keep hkp_2
  refine L_y rfl (Y_ext rfl rfl) ?_
  refine L_y rfl (Y_ext rfl rfl) ?_
  refine L_as rfl ?_
  refine L_as rfl ?_
  refine L_nil ?_
  refine Th_n ?_
  refine W_ret ?_
  refine P_ret (vs := [Value.slice none 0 0, Value.int .i64 ((2 : Nat) : Int)]) (v := Value.tuple #[Value.slice none 0 0, Value.int .i64 ((2 : Nat) : Int)]) rfl (.tmp rfl (.tmp rfl (Res.nil))) rfl ?_
  refine ⟨?_, H_5.nil_⟩
  rfl

theorem derive_long (a0 : Option Addr) (n0 c0 : Nat) (l0 : List Nat) (a1 : Option Addr) (n1 c1 : Nat) (l1 : List Nat) (a2 : Option Addr) (n2 c2 : Nat) (l2 : List Nat) (hl0 : ∀ u ∈ l0, u < 256) (hl1 : ∀ u ∈ l1, u < 256) (hl2 : ∀ u ∈ l2, u < 256) (hn0 : n0 ≤ 1000000) (hn1 : n1 ≤ 1000000) (hn2 : n2 ≤ 1000000) (n : Nat) (hn : 8160 < n) (w0 : World) (hb0 : Sl w0 .u8 a0 n0 c0 l0) (hb1 : Sl w0 .u8 a1 n1 c1 l1) (hb2 : Sl w0 .u8 a2 n2 c2 l2) :
    Calls Try.prog 19 #[Value.slice a0 n0 c0, Value.slice a1 n1 c1, Value.slice a2 n2 c2, Value.int .i64 ((n : Nat) : Int)] w0 (fun r_ w' => r_ = .returned (.tuple #[.slice none 0 0, .int .i64 ((3 : Nat) : Int)]) ∧ Keep w0 w') := by
  refine F_in Try.func19 rfl Try.ntmps19 rfl ?_
  intro e he
  have p_0 : e 0 = Value.slice a0 n0 c0 := he 0 _ rfl
  have p_1 : e 1 = Value.slice a1 n1 c1 := he 1 _ rfl
  have p_2 : e 2 = Value.slice a2 n2 c2 := he 2 _ rfl
  have p_3 : e 3 = Value.int .i64 ((n : Nat) : Int) := he 3 _ rfl
  have H := Hp.start w0 []
  refine W_seq ?_
  refine W_rg ?_
  refine L_as rfl ?_
  refine L_as rfl ?_
  refine L_nil ?_
  refine Th_n ?_
  refine W_seq ?_
  refine W_rg ?_
  refine L_mv rfl ?_
  refine L_mv rfl ?_
  refine L_callv rfl rfl T_en12 (A2 p_0 p_1) (extract_n _ _ _ l0 _ _ _ l1 hl0 hl1 (by omega) (by omega) _ (hb0.hp H) (hb1.hp H)) ?_
  rintro _ w_2 ⟨rfl, hkp⟩; refine ⟨_, rfl, ?_⟩; have H_2 := H.keep hkp
  refine L_alloc rfl H_2 T_zero24 ?_; intro bk10 w_3 H_3
  refine L_str (ds := ua .u8 (Sm.hmac Sm.k256 l0 l1)) T_row24 H_3 (i := 0) rfl rfl rfl rfl (by rw [ua_size]; exact (hmac256_wd l0 l1).1) (ua_one _ _) (l' := [Ent.blk bk10 24 (ua .u8 (Sm.hmac Sm.k256 l0 l1))]) rfl ?_; intro w_4 H_4
  refine L_nil ?_
  refine Th_n ?_
  refine W_seq ?_
  refine W_rg ?_
  refine L_y rfl (Y_slA T_arr24 rfl) ?_
  refine L_mv rfl ?_
  refine L_mv rfl ?_
  refine L_callv rfl rfl T_en17 (A3 rfl p_2 p_3) (expand_long _ _ _ (Sm.hmac Sm.k256 l0 l1) _ _ _ l2 ((hmac256_wd l0 l1)).2 hl2 (by decide) (by omega) n hn _ (ua_sla H_4 (i := 0) rfl (hmac256_wd l0 l1).1) (hb2.hp H_4)) ?_
  rintro _ w_5 ⟨rfl, hkp_2⟩; refine ⟨_, rfl, ?_⟩; have H_5 := H_4.keep hkp_2
  refine L_y rfl (Y_ext rfl rfl) ?_
  refine L_y rfl (Y_ext rfl rfl) ?_
  refine L_as rfl ?_
  refine L_as rfl ?_
  refine L_nil ?_
  refine Th_n ?_
  refine W_ret ?_
  refine P_ret (vs := [Value.slice none 0 0, Value.int .i64 ((3 : Nat) : Int)]) (v := Value.tuple #[Value.slice none 0 0, Value.int .i64 ((3 : Nat) : Int)]) rfl (.tmp rfl (.tmp rfl (Res.nil))) rfl ?_
  refine ⟨?_, H_5.nil_⟩
  rfl

theorem rderive_n (a0 : Option Addr) (n0 c0 : Nat) (l0 : List Nat) (a1 : Option Addr) (n1 c1 : Nat) (l1 : List Nat) (a2 : Option Addr) (n2 c2 : Nat) (l2 : List Nat) (hl0 : ∀ u ∈ l0, u < 256) (hl1 : ∀ u ∈ l1, u < 256) (hl2 : ∀ u ∈ l2, u < 256) (hn0 : n0 ≤ 1000000) (hn1 : n1 ≤ 1000000) (hn2 : n2 ≤ 1000000) (n : Nat) (hn : n ≤ 8160) (w0 : World) (hb0 : Sl w0 .u8 a0 n0 c0 l0) (hb1 : Sl w0 .u8 a1 n1 c1 l1) (hb2 : Sl w0 .u8 a2 n2 c2 l2) :
    Calls Try.prog 20 #[Value.slice a0 n0 c0, Value.slice a1 n1 c1, Value.slice a2 n2 c2, Value.int .i64 ((n : Nat) : Int)] w0 (fun r_ w' => ∃ a_ c_, r_ = .returned (.tuple #[.slice a_ n c_, .int .i64 ((0 : Nat) : Int)]) ∧ Hp w0 [] w' [.own (.slice a_ n c_) 5 1 n (us .u8 (Sm.expand (Sm.hmac Sm.k256 l0 l1) l2 n))]) := by
  refine F_in Try.func20 rfl Try.ntmps20 rfl ?_
  intro e he
  have p_0 : e 0 = Value.slice a0 n0 c0 := he 0 _ rfl
  have p_1 : e 1 = Value.slice a1 n1 c1 := he 1 _ rfl
  have p_2 : e 2 = Value.slice a2 n2 c2 := he 2 _ rfl
  have p_3 : e 3 = Value.int .i64 ((n : Nat) : Int) := he 3 _ rfl
  have H := Hp.start w0 []
  refine W_seq ?_
  refine W_rg ?_
  refine L_as rfl ?_
  refine L_as rfl ?_
  refine L_nil ?_
  refine Th_n ?_
  refine W_seq ?_
  refine W_rg ?_
  refine L_mv rfl ?_
  refine L_mv rfl ?_
  refine L_callv rfl rfl T_en16 (A2 p_0 p_1) (rextract_n _ _ _ l0 _ _ _ l1 hl0 hl1 (by omega) (by omega) _ (hb0.hp H) (hb1.hp H)) ?_
  rintro _ w_2 ⟨rfl, hkp⟩; refine ⟨_, rfl, ?_⟩; have H_2 := H.keep hkp
  refine L_alloc rfl H_2 T_zero24 ?_; intro bk10 w_3 H_3
  refine L_str (ds := ua .u8 (Sm.hmac Sm.k256 l0 l1)) T_row24 H_3 (i := 0) rfl rfl rfl rfl (by rw [ua_size]; exact (hmac256_wd l0 l1).1) (ua_one _ _) (l' := [Ent.blk bk10 24 (ua .u8 (Sm.hmac Sm.k256 l0 l1))]) rfl ?_; intro w_4 H_4
  refine L_nil ?_
  refine Th_n ?_
  refine W_seq ?_
  refine W_rg ?_
  refine L_y rfl (Y_slA T_arr24 rfl) ?_
  refine L_mv rfl ?_
  refine L_mv rfl ?_
  refine L_callv rfl rfl T_en18 (A3 rfl p_2 p_3) (rexpand_n _ _ _ (Sm.hmac Sm.k256 l0 l1) _ _ _ l2 ((hmac256_wd l0 l1)).2 hl2 (by decide) (by omega) n hn _ (ua_sla H_4 (i := 0) rfl (hmac256_wd l0 l1).1) (hb2.hp H_4)) ?_
  rintro _ w_5 ⟨ea17, ec17, rfl, hkp_2⟩; refine ⟨_, rfl, ?_⟩; have H_5 := H_4.more hkp_2
  refine L_y rfl (Y_ext rfl rfl) ?_
  refine L_y rfl (Y_ext rfl rfl) ?_
  refine L_as rfl ?_
  refine L_as rfl ?_
  refine L_nil ?_
  refine Th_n ?_
  refine W_ret ?_
  refine P_ret (vs := [Value.slice ea17 n ec17, Value.int .i64 ((0 : Nat) : Int)]) (v := Value.tuple #[Value.slice ea17 n ec17, Value.int .i64 ((0 : Nat) : Int)]) rfl (.tmp rfl (.tmp rfl (Res.nil))) rfl ?_
  exact ⟨_, _, rfl, H_5.only (i := 0) rfl⟩

theorem rderive_neg (a0 : Option Addr) (n0 c0 : Nat) (l0 : List Nat) (a1 : Option Addr) (n1 c1 : Nat) (l1 : List Nat) (a2 : Option Addr) (n2 c2 : Nat) (l2 : List Nat) (hl0 : ∀ u ∈ l0, u < 256) (hl1 : ∀ u ∈ l1, u < 256) (hl2 : ∀ u ∈ l2, u < 256) (hn0 : n0 ≤ 1000000) (hn1 : n1 ≤ 1000000) (hn2 : n2 ≤ 1000000) (z : Int) (hz : z < 0) (w0 : World) (hb0 : Sl w0 .u8 a0 n0 c0 l0) (hb1 : Sl w0 .u8 a1 n1 c1 l1) (hb2 : Sl w0 .u8 a2 n2 c2 l2) :
    Calls Try.prog 20 #[Value.slice a0 n0 c0, Value.slice a1 n1 c1, Value.slice a2 n2 c2, Value.int .i64 (z)] w0 (fun r_ w' => r_ = .returned (.tuple #[.slice none 0 0, .int .i64 ((2 : Nat) : Int)]) ∧ Keep w0 w') := by
  refine F_in Try.func20 rfl Try.ntmps20 rfl ?_
  intro e he
  have p_0 : e 0 = Value.slice a0 n0 c0 := he 0 _ rfl
  have p_1 : e 1 = Value.slice a1 n1 c1 := he 1 _ rfl
  have p_2 : e 2 = Value.slice a2 n2 c2 := he 2 _ rfl
  have p_3 : e 3 = Value.int .i64 (z) := he 3 _ rfl
  have H := Hp.start w0 []
  refine W_seq ?_
  refine W_rg ?_
  refine L_as rfl ?_
  refine L_as rfl ?_
  refine L_nil ?_
  refine Th_n ?_
  refine W_seq ?_
  refine W_rg ?_
  refine L_mv rfl ?_
  refine L_mv rfl ?_
  refine L_callv rfl rfl T_en16 (A2 p_0 p_1) (rextract_n _ _ _ l0 _ _ _ l1 hl0 hl1 (by omega) (by omega) _ (hb0.hp H) (hb1.hp H)) ?_
  rintro _ w_2 ⟨rfl, hkp⟩; refine ⟨_, rfl, ?_⟩; have H_2 := H.keep hkp
  refine L_alloc rfl H_2 T_zero24 ?_; intro bk10 w_3 H_3
  refine L_str (ds := ua .u8 (Sm.hmac Sm.k256 l0 l1)) T_row24 H_3 (i := 0) rfl rfl rfl rfl (by rw [ua_size]; exact (hmac256_wd l0 l1).1) (ua_one _ _) (l' := [Ent.blk bk10 24 (ua .u8 (Sm.hmac Sm.k256 l0 l1))]) rfl ?_; intro w_4 H_4
  refine L_nil ?_
  refine Th_n ?_
  refine W_seq ?_
  refine W_rg ?_
  refine L_y rfl (Y_slA T_arr24 rfl) ?_
  refine L_mv rfl ?_
  refine L_mv rfl ?_
  refine L_callv rfl rfl T_en18 (A3 rfl p_2 p_3) (rexpand_neg _ _ _ (Sm.hmac Sm.k256 l0 l1) _ _ _ l2 ((hmac256_wd l0 l1)).2 hl2 (by decide) (by omega) z hz _ (ua_sla H_4 (i := 0) rfl (hmac256_wd l0 l1).1) (hb2.hp H_4)) ?_
  rintro _ w_5 ⟨rfl, hkp_2⟩; refine ⟨_, rfl, ?_⟩; have H_5 := H_4.keep hkp_2
  refine L_y rfl (Y_ext rfl rfl) ?_
  refine L_y rfl (Y_ext rfl rfl) ?_
  refine L_as rfl ?_
  refine L_as rfl ?_
  refine L_nil ?_
  refine Th_n ?_
  refine W_ret ?_
  refine P_ret (vs := [Value.slice none 0 0, Value.int .i64 ((2 : Nat) : Int)]) (v := Value.tuple #[Value.slice none 0 0, Value.int .i64 ((2 : Nat) : Int)]) rfl (.tmp rfl (.tmp rfl (Res.nil))) rfl ?_
  refine ⟨?_, H_5.nil_⟩
  rfl

theorem rderive_long (a0 : Option Addr) (n0 c0 : Nat) (l0 : List Nat) (a1 : Option Addr) (n1 c1 : Nat) (l1 : List Nat) (a2 : Option Addr) (n2 c2 : Nat) (l2 : List Nat) (hl0 : ∀ u ∈ l0, u < 256) (hl1 : ∀ u ∈ l1, u < 256) (hl2 : ∀ u ∈ l2, u < 256) (hn0 : n0 ≤ 1000000) (hn1 : n1 ≤ 1000000) (hn2 : n2 ≤ 1000000) (n : Nat) (hn : 8160 < n) (w0 : World) (hb0 : Sl w0 .u8 a0 n0 c0 l0) (hb1 : Sl w0 .u8 a1 n1 c1 l1) (hb2 : Sl w0 .u8 a2 n2 c2 l2) :
    Calls Try.prog 20 #[Value.slice a0 n0 c0, Value.slice a1 n1 c1, Value.slice a2 n2 c2, Value.int .i64 ((n : Nat) : Int)] w0 (fun r_ w' => r_ = .returned (.tuple #[.slice none 0 0, .int .i64 ((3 : Nat) : Int)]) ∧ Keep w0 w') := by
  refine F_in Try.func20 rfl Try.ntmps20 rfl ?_
  intro e he
  have p_0 : e 0 = Value.slice a0 n0 c0 := he 0 _ rfl
  have p_1 : e 1 = Value.slice a1 n1 c1 := he 1 _ rfl
  have p_2 : e 2 = Value.slice a2 n2 c2 := he 2 _ rfl
  have p_3 : e 3 = Value.int .i64 ((n : Nat) : Int) := he 3 _ rfl
  have H := Hp.start w0 []
  refine W_seq ?_
  refine W_rg ?_
  refine L_as rfl ?_
  refine L_as rfl ?_
  refine L_nil ?_
  refine Th_n ?_
  refine W_seq ?_
  refine W_rg ?_
  refine L_mv rfl ?_
  refine L_mv rfl ?_
  refine L_callv rfl rfl T_en16 (A2 p_0 p_1) (rextract_n _ _ _ l0 _ _ _ l1 hl0 hl1 (by omega) (by omega) _ (hb0.hp H) (hb1.hp H)) ?_
  rintro _ w_2 ⟨rfl, hkp⟩; refine ⟨_, rfl, ?_⟩; have H_2 := H.keep hkp
  refine L_alloc rfl H_2 T_zero24 ?_; intro bk10 w_3 H_3
  refine L_str (ds := ua .u8 (Sm.hmac Sm.k256 l0 l1)) T_row24 H_3 (i := 0) rfl rfl rfl rfl (by rw [ua_size]; exact (hmac256_wd l0 l1).1) (ua_one _ _) (l' := [Ent.blk bk10 24 (ua .u8 (Sm.hmac Sm.k256 l0 l1))]) rfl ?_; intro w_4 H_4
  refine L_nil ?_
  refine Th_n ?_
  refine W_seq ?_
  refine W_rg ?_
  refine L_y rfl (Y_slA T_arr24 rfl) ?_
  refine L_mv rfl ?_
  refine L_mv rfl ?_
  refine L_callv rfl rfl T_en18 (A3 rfl p_2 p_3) (rexpand_long _ _ _ (Sm.hmac Sm.k256 l0 l1) _ _ _ l2 ((hmac256_wd l0 l1)).2 hl2 (by decide) (by omega) n hn _ (ua_sla H_4 (i := 0) rfl (hmac256_wd l0 l1).1) (hb2.hp H_4)) ?_
  rintro _ w_5 ⟨rfl, hkp_2⟩; refine ⟨_, rfl, ?_⟩; have H_5 := H_4.keep hkp_2
  refine L_y rfl (Y_ext rfl rfl) ?_
  refine L_y rfl (Y_ext rfl rfl) ?_
  refine L_as rfl ?_
  refine L_as rfl ?_
  refine L_nil ?_
  refine Th_n ?_
  refine W_ret ?_
  refine P_ret (vs := [Value.slice none 0 0, Value.int .i64 ((3 : Nat) : Int)]) (v := Value.tuple #[Value.slice none 0 0, Value.int .i64 ((3 : Nat) : Int)]) rfl (.tmp rfl (.tmp rfl (Res.nil))) rfl ?_
  refine ⟨?_, H_5.nil_⟩
  rfl
end Go.Proofs.Ytdifogdaiimmoaa
