/- Walks of layers 6 and 7 (sums, macs) and of their references. Printed by mac.py. -/
import Derived.Test.YtdifogdaiimmoaaH6
import Derived.Test.YtdifogdaiimmoaaShaMath3
namespace Go.Proofs.Ytdifogdaiimmoaa
open Go.Ev
set_option maxRecDepth 100000
theorem const_n (k : Nat) (hk : k < 80) (w0 : World) :
    Calls Try.prog 39 #[Value.int .i64 ((k : Nat) : Int)] w0 (fun r_ w' => r_ = .returned (.int .u64 ((Sm.k512.ks.getD k 0 : Nat) : Int)) ∧ Keep w0 w') := by
  refine F_in Try.func39 rfl Try.ntmps39 rfl ?_
  intro e he
  have p_0 : e 0 = Value.int .i64 ((k : Nat) : Int) := he 0 _ rfl
  have H := Hp.start w0 []
  refine W_seq ?_
  refine W_rg ?_
  refine L_as rfl ?_
  refine L_nil ?_
  refine Th_n ?_
  refine W_seq ?_
  refine W_rg ?_
  refine L_y rfl (Y_build (pv := [(0, Value.int .u64 ((4794697086780616226 : Nat) : Int)), (1, Value.int .u64 ((8158064640168781261 : Nat) : Int)), (2, Value.int .u64 ((13096744586834688815 : Nat) : Int)), (3, Value.int .u64 ((16840607885511220156 : Nat) : Int)), (4, Value.int .u64 ((4131703408338449720 : Nat) : Int)), (5, Value.int .u64 ((6480981068601479193 : Nat) : Int)), (6, Value.int .u64 ((10538285296894168987 : Nat) : Int)), (7, Value.int .u64 ((12329834152419229976 : Nat) : Int)), (8, Value.int .u64 ((15566598209576043074 : Nat) : Int)), (9, Value.int .u64 ((1334009975649890238 : Nat) : Int)), (10, Value.int .u64 ((2608012711638119052 : Nat) : Int)), (11, Value.int .u64 ((6128411473006802146 : Nat) : Int)), (12, Value.int .u64 ((8268148722764581231 : Nat) : Int)), (13, Value.int .u64 ((9286055187155687089 : Nat) : Int)), (14, Value.int .u64 ((11230858885718282805 : Nat) : Int)), (15, Value.int .u64 ((13951009754708518548 : Nat) : Int)), (16, Value.int .u64 ((16472876342353939154 : Nat) : Int)), (17, Value.int .u64 ((17275323862435702243 : Nat) : Int)), (18, Value.int .u64 ((1135362057144423861 : Nat) : Int)), (19, Value.int .u64 ((2597628984639134821 : Nat) : Int)), (20, Value.int .u64 ((3308224258029322869 : Nat) : Int)), (21, Value.int .u64 ((5365058923640841347 : Nat) : Int)), (22, Value.int .u64 ((6679025012923562964 : Nat) : Int)), (23, Value.int .u64 ((8573033837759648693 : Nat) : Int)), (24, Value.int .u64 ((10970295158949994411 : Nat) : Int)), (25, Value.int .u64 ((12119686244451234320 : Nat) : Int)), (26, Value.int .u64 ((12683024718118986047 : Nat) : Int)), (27, Value.int .u64 ((13788192230050041572 : Nat) : Int)), (28, Value.int .u64 ((14330467153632333762 : Nat) : Int)), (29, Value.int .u64 ((15395433587784984357 : Nat) : Int)), (30, Value.int .u64 ((489312712824947311 : Nat) : Int)), (31, Value.int .u64 ((1452737877330783856 : Nat) : Int)), (32, Value.int .u64 ((2861767655752347644 : Nat) : Int)), (33, Value.int .u64 ((3322285676063803686 : Nat) : Int)), (34, Value.int .u64 ((5560940570517711597 : Nat) : Int)), (35, Value.int .u64 ((5996557281743188959 : Nat) : Int)), (36, Value.int .u64 ((7280758554555802590 : Nat) : Int)), (37, Value.int .u64 ((8532644243296465576 : Nat) : Int)), (38, Value.int .u64 ((9350256976987008742 : Nat) : Int)), (39, Value.int .u64 ((10552545826968843579 : Nat) : Int)), (40, Value.int .u64 ((11727347734174303076 : Nat) : Int)), (41, Value.int .u64 ((12113106623233404929 : Nat) : Int)), (42, Value.int .u64 ((14000437183269869457 : Nat) : Int)), (43, Value.int .u64 ((14369950271660146224 : Nat) : Int)), (44, Value.int .u64 ((15101387698204529176 : Nat) : Int)), (45, Value.int .u64 ((15463397548674623760 : Nat) : Int)), (46, Value.int .u64 ((17586052441742319658 : Nat) : Int)), (47, Value.int .u64 ((1182934255886127544 : Nat) : Int)), (48, Value.int .u64 ((1847814050463011016 : Nat) : Int)), (49, Value.int .u64 ((2177327727835720531 : Nat) : Int)), (50, Value.int .u64 ((2830643537854262169 : Nat) : Int)), (51, Value.int .u64 ((3796741975233480872 : Nat) : Int)), (52, Value.int .u64 ((4115178125766777443 : Nat) : Int)), (53, Value.int .u64 ((5681478168544905931 : Nat) : Int)), (54, Value.int .u64 ((6601373596472566643 : Nat) : Int)), (55, Value.int .u64 ((7507060721942968483 : Nat) : Int)), (56, Value.int .u64 ((8399075790359081724 : Nat) : Int)), (57, Value.int .u64 ((8693463985226723168 : Nat) : Int)), (58, Value.int .u64 ((9568029438360202098 : Nat) : Int)), (59, Value.int .u64 ((10144078919501101548 : Nat) : Int)), (60, Value.int .u64 ((10430055236837252648 : Nat) : Int)), (61, Value.int .u64 ((11840083180663258601 : Nat) : Int)), (62, Value.int .u64 ((13761210420658862357 : Nat) : Int)), (63, Value.int .u64 ((14299343276471374635 : Nat) : Int)), (64, Value.int .u64 ((14566680578165727644 : Nat) : Int)), (65, Value.int .u64 ((15097957966210449927 : Nat) : Int)), (66, Value.int .u64 ((16922976911328602910 : Nat) : Int)), (67, Value.int .u64 ((17689382322260857208 : Nat) : Int)), (68, Value.int .u64 ((500013540394364858 : Nat) : Int)), (69, Value.int .u64 ((748580250866718886 : Nat) : Int)), (70, Value.int .u64 ((1242879168328830382 : Nat) : Int)), (71, Value.int .u64 ((1977374033974150939 : Nat) : Int)), (72, Value.int .u64 ((2944078676154940804 : Nat) : Int)), (73, Value.int .u64 ((3659926193048069267 : Nat) : Int)), (74, Value.int .u64 ((4368137639120453308 : Nat) : Int)), (75, Value.int .u64 ((4836135668995329356 : Nat) : Int)), (76, Value.int .u64 ((5532061633213252278 : Nat) : Int)), (77, Value.int .u64 ((6448918945643986474 : Nat) : Int)), (78, Value.int .u64 ((6902733635092675308 : Nat) : Int)), (79, Value.int .u64 ((7801388544844847127 : Nat) : Int))]) (cs := ua .u64 Sm.k512.ks) (Bpc rfl (Bpc rfl (Bpc rfl (Bpc rfl (Bpc rfl (Bpc rfl (Bpc rfl (Bpc rfl (Bpc rfl (Bpc rfl (Bpc rfl (Bpc rfl (Bpc rfl (Bpc rfl (Bpc rfl (Bpc rfl (Bpc rfl (Bpc rfl (Bpc rfl (Bpc rfl (Bpc rfl (Bpc rfl (Bpc rfl (Bpc rfl (Bpc rfl (Bpc rfl (Bpc rfl (Bpc rfl (Bpc rfl (Bpc rfl (Bpc rfl (Bpc rfl (Bpc rfl (Bpc rfl (Bpc rfl (Bpc rfl (Bpc rfl (Bpc rfl (Bpc rfl (Bpc rfl (Bpc rfl (Bpc rfl (Bpc rfl (Bpc rfl (Bpc rfl (Bpc rfl (Bpc rfl (Bpc rfl (Bpc rfl (Bpc rfl (Bpc rfl (Bpc rfl (Bpc rfl (Bpc rfl (Bpc rfl (Bpc rfl (Bpc rfl (Bpc rfl (Bpc rfl (Bpc rfl (Bpc rfl (Bpc rfl (Bpc rfl (Bpc rfl (Bpc rfl (Bpc rfl (Bpc rfl (Bpc rfl (Bpc rfl (Bpc rfl (Bpc rfl (Bpc rfl (Bpc rfl (Bpc rfl (Bpc rfl (Bpc rfl (Bpc rfl (Bpc rfl (Bpc rfl (Bpc rfl Bp0)))))))))))))))))))))))))))))))))))))))))))))))))))))))))))))))))))))))))))))))) (by kernel_rfl)) ?_
  refine L_alloc rfl H T_zero47 ?_; intro bk3 w_2 H_2
  refine L_str (ds := ua .u64 Sm.k512.ks) T_row47 H_2 (i := 0) rfl rfl rfl rfl (by rw [ua_size]; exact ks512_wd.1) (ua_one _ _) (l' := [Ent.blk bk3 47 (ua .u64 Sm.k512.ks)]) rfl ?_; intro w_3 H_3
  refine L_nil ?_
  refine Th_n ?_
  refine W_seq ?_
  refine W_rg ?_
  refine L_mv rfl ?_
  refine L_y rfl (Y_idxA k k T_arr47 rfl p_0 rfl (by omega) (zz1 _)) ?_
  obtain ⟨x7, hx7⟩ : ∃ u, Sm.k512.ks[k]? = some u := ⟨_, List.getElem?_eq_getElem (by have := ks512_wd.1; omega)⟩
  have rx7 := ks512_wd.2 _ (List.mem_of_getElem? hx7)
  refine L_y rfl (Y_ld T_scal46 H_3 (i := 0) rfl rfl (ua_get hx7)) ?_
  refine L_as rfl ?_
  refine L_nil ?_
  refine Th_n ?_
  refine W_ret ?_
  refine P_ret (vs := [Value.int .u64 ((x7 : Nat) : Int)]) (v := Value.int .u64 ((x7 : Nat) : Int)) rfl (.tmp rfl (Res.nil)) rfl ?_
  refine ⟨?_, H_3.nil_⟩
  rw [Sm.get_of hx7]

theorem hs512_wd : Wd 8 18446744073709551616 Sm.k512.hs := ⟨rfl, by decide⟩

theorem begin_n (k : Nat) (hk : k < 8) (w0 : World) :
    Calls Try.prog 35 #[Value.int .i64 ((k : Nat) : Int)] w0 (fun r_ w' => r_ = .returned (.int .u64 ((Sm.k512.hs.getD k 0 : Nat) : Int)) ∧ Keep w0 w') := by
  refine F_in Try.func35 rfl Try.ntmps35 rfl ?_
  intro e he
  have p_0 : e 0 = Value.int .i64 ((k : Nat) : Int) := he 0 _ rfl
  have H := Hp.start w0 []
  refine W_seq ?_
  refine W_rg ?_
  refine L_as rfl ?_
  refine L_nil ?_
  refine Th_n ?_
  refine W_seq ?_
  refine W_rg ?_
  refine L_y rfl (Y_build (pv := [(0, Value.int .u64 ((7640891576956012808 : Nat) : Int)), (1, Value.int .u64 ((13503953896175478587 : Nat) : Int)), (2, Value.int .u64 ((4354685564936845355 : Nat) : Int)), (3, Value.int .u64 ((11912009170470909681 : Nat) : Int)), (4, Value.int .u64 ((5840696475078001361 : Nat) : Int)), (5, Value.int .u64 ((11170449401992604703 : Nat) : Int)), (6, Value.int .u64 ((2270897969802886507 : Nat) : Int)), (7, Value.int .u64 ((6620516959819538809 : Nat) : Int))]) (cs := ua .u64 Sm.k512.hs) (Bpc rfl (Bpc rfl (Bpc rfl (Bpc rfl (Bpc rfl (Bpc rfl (Bpc rfl (Bpc rfl Bp0)))))))) (by kernel_rfl)) ?_
  refine L_alloc rfl H T_zero48 ?_; intro bk3 w_2 H_2
  refine L_str (ds := ua .u64 Sm.k512.hs) T_row48 H_2 (i := 0) rfl rfl rfl rfl (by rw [ua_size]; exact hs512_wd.1) (ua_one _ _) (l' := [Ent.blk bk3 48 (ua .u64 Sm.k512.hs)]) rfl ?_; intro w_3 H_3
  refine L_nil ?_
  refine Th_n ?_
  refine W_seq ?_
  refine W_rg ?_
  refine L_mv rfl ?_
  refine L_y rfl (Y_idxA k k T_arr48 rfl p_0 rfl (by omega) (zz1 _)) ?_
  obtain ⟨x7, hx7⟩ : ∃ u, Sm.k512.hs[k]? = some u := ⟨_, List.getElem?_eq_getElem (by have := hs512_wd.1; omega)⟩
  have rx7 := hs512_wd.2 _ (List.mem_of_getElem? hx7)
  refine L_y rfl (Y_ld T_scal46 H_3 (i := 0) rfl rfl (ua_get hx7)) ?_
  refine L_as rfl ?_
  refine L_nil ?_
  refine Th_n ?_
  refine W_ret ?_
  refine P_ret (vs := [Value.int .u64 ((x7 : Nat) : Int)]) (v := Value.int .u64 ((x7 : Nat) : Int)) rfl (.tmp rfl (Res.nil)) rfl ?_
  refine ⟨?_, H_3.nil_⟩
  rw [Sm.get_of hx7]
end Go.Proofs.Ytdifogdaiimmoaa
