/- Walks of layer 2 and of its reference. Printed by residue.py. -/
import Derived.Test.YthjdikgdhmlmcaaE3
namespace Go.Proofs.Ythjdikgdhmlmcaa
open Go.Ev
theorem T_en23 : enters Try.prog 23 = true := by kernel_rfl
theorem T_en13 : enters Try.prog 13 = true := by kernel_rfl
theorem T_en24 : enters Try.prog 24 = true := by kernel_rfl
theorem plus_n (A B : Nat) (hA : A < 115792089237316195423570985008687907853269984665640564039457584007913129639936) (hB : B < 115792089237316195423570985008687907853269984665640564039457584007913129639936) (w0 : World) :
    Calls Try.prog 13 #[Value.agg (ua .u8 (Lm.b32 A)), Value.agg (ua .u8 (Lm.b32 B))] w0 (fun r_ w' => r_ = .returned (.agg (ua .u8 (Lm.b32 ((A % Lm.ord + B % Lm.ord) % Lm.ord)))) ∧ Keep w0 w') := by
  refine F_in Try.func13 rfl Try.ntmps13 rfl ?_
  intro e he
  have p_0 : e 0 = Value.agg (ua .u8 (Lm.b32 A)) := he 0 _ rfl
  have p_1 : e 1 = Value.agg (ua .u8 (Lm.b32 B)) := he 1 _ rfl
  have H := Hp.start w0 []
  refine W_seq ?_
  refine W_rg ?_
  refine L_box rfl H p_0 (cs := ua .u8 (Lm.b32 A)) rfl ?_; intro bk2 w_2 H_2
  refine L_box rfl H_2 p_1 (cs := ua .u8 (Lm.b32 B)) rfl ?_; intro bk3 w_3 H_3
  refine L_alloc rfl H_3 T_zero23 ?_; intro bk4 w_4 H_4
  refine L_nil ?_
  refine Th_n ?_
  refine W_seq ?_
  refine W_anyL 6 [4, 5] [5, 6] [Value.agg (ua .u8 (Lm.b32 A)), Value.agg (ua .u64 [(A % Lm.ord) % 18446744073709551616, (A % Lm.ord) / 18446744073709551616 % 18446744073709551616, (A % Lm.ord) / 340282366920938463463374607431768211456 % 18446744073709551616, (A % Lm.ord) / 6277101735386680763835789423207666416102355444464034512896 % 18446744073709551616]), Value.agg (ua .u8 (Lm.b32 B)), Value.agg (ua .u64 [(B % Lm.ord) % 18446744073709551616, (B % Lm.ord) / 18446744073709551616 % 18446744073709551616, (B % Lm.ord) / 340282366920938463463374607431768211456 % 18446744073709551616, (B % Lm.ord) / 6277101735386680763835789423207666416102355444464034512896 % 18446744073709551616]), undef, undef] (fun w => w.heap[bk4]? = some (.cells (ua .u8 [0, 0, 0, 0, 0, 0, 0, 0, 0, 0, 0, 0, 0, 0, 0, 0, 0, 0, 0, 0, 0, 0, 0, 0, 0, 0, 0, 0, 0, 0, 0, 0]) 23 (0, 0)) ∧ w.heap[bk3]? = some (.cells (ua .u8 (Lm.b32 B)) 23 (0, 0)) ∧ w.heap[bk2]? = some (.cells (ua .u8 (Lm.b32 A)) 23 (0, 0))) [fun vs w => Hp w0 [] w [.blk bk4 23 (ua .u8 [0, 0, 0, 0, 0, 0, 0, 0, 0, 0, 0, 0, 0, 0, 0, 0, 0, 0, 0, 0, 0, 0, 0, 0, 0, 0, 0, 0, 0, 0, 0, 0]), .blk bk3 23 (ua .u8 (Lm.b32 B)), .blk bk2 23 (ua .u8 (Lm.b32 A))], fun vs w => ∃ bk5_, vs[0]? = some (Value.pointer (some ⟨bk5_, 0, none⟩)) ∧ Hp w0 [] w [Ent.blk bk5_ 36 (ua .u64 [0, 0, 0, 0]), .blk bk4 23 (ua .u8 [0, 0, 0, 0, 0, 0, 0, 0, 0, 0, 0, 0, 0, 0, 0, 0, 0, 0, 0, 0, 0, 0, 0, 0, 0, 0, 0, 0, 0, 0, 0, 0]), .blk bk3 23 (ua .u8 (Lm.b32 B)), .blk bk2 23 (ua .u8 (Lm.b32 A))], fun vs w => ∃ bk6_, vs[1]? = some (Value.pointer (some ⟨bk6_, 0, none⟩)) ∧ Hp w0 [] w [Ent.blk bk6_ 36 (ua .u64 [0, 0, 0, 0]), .blk bk4 23 (ua .u8 [0, 0, 0, 0, 0, 0, 0, 0, 0, 0, 0, 0, 0, 0, 0, 0, 0, 0, 0, 0, 0, 0, 0, 0, 0, 0, 0, 0, 0, 0, 0, 0]), .blk bk3 23 (ua .u8 (Lm.b32 B)), .blk bk2 23 (ua .u8 (Lm.b32 A))], fun vs w => ∃ bk5_, ∃ bk6_, vs[0]? = some (Value.pointer (some ⟨bk5_, 0, none⟩)) ∧ vs[1]? = some (Value.pointer (some ⟨bk6_, 0, none⟩)) ∧ Hp w0 [] w [Ent.blk bk5_ 36 (ua .u64 [0, 0, 0, 0]), Ent.blk bk6_ 36 (ua .u64 [0, 0, 0, 0]), .blk bk4 23 (ua .u8 [0, 0, 0, 0, 0, 0, 0, 0, 0, 0, 0, 0, 0, 0, 0, 0, 0, 0, 0, 0, 0, 0, 0, 0, 0, 0, 0, 0, 0, 0, 0, 0]), .blk bk3 23 (ua .u8 (Lm.b32 B)), .blk bk2 23 (ua .u8 (Lm.b32 A))]] T_mixed (by kernel_rfl) ⟨fun _ _ H => ⟨H.get 0 rfl, H.get 1 rfl, H.get 2 rfl⟩, fun _ _ h => by obtain ⟨_, _, H⟩ := h; exact ⟨H.get 1 rfl, H.get 2 rfl, H.get 3 rfl⟩, fun _ _ h => by obtain ⟨_, _, H⟩ := h; exact ⟨H.get 1 rfl, H.get 2 rfl, H.get 3 rfl⟩, fun _ _ h => by obtain ⟨_, _, _, _, H⟩ := h; exact ⟨H.get 2 rfl, H.get 3 rfl, H.get 4 rfl⟩, trivial⟩ ⟨fun _ _ _ hkp H => H.keep hkp, fun _ _ _ hkp h => by obtain ⟨q0, q1, H⟩ := h; exact ⟨q0, q1, H.keep hkp⟩, fun _ _ _ hkp h => by obtain ⟨q0, q1, H⟩ := h; exact ⟨q0, q1, H.keep hkp⟩, fun _ _ _ hkp h => by obtain ⟨q0, q1, q2, q3, H⟩ := h; exact ⟨q0, q1, q2, q3, H.keep hkp⟩, trivial⟩ H_4 ?_ ?_
  ·
    refine .plain rfl (Pl_y rfl (fun w hBw => Y_ldrb T_row23 hBw.2.2 rfl (by rw [ua_size]; exact (b32_wd A).1))) ?_
    refine .plain rfl (Pl_c rfl T_en23 (A1 rfl) (fun w hBw => canon_n A hA _)) ?_
    refine .plain rfl (Pl_y rfl (fun w hBw => Y_ldrb T_row23 hBw.2.1 rfl (by rw [ua_size]; exact (b32_wd B).1))) ?_
    refine .plain rfl (Pl_c rfl T_en23 (A1 rfl) (fun w hBw => canon_n B hB _)) ?_
    refine .special 0 rfl (Special.of ⟨⟨⟨⟨trivial, fun _ _ _ e' w' hAg hYs => by
        have H : Hp w0 [] w' [.blk bk4 23 (ua .u8 [0, 0, 0, 0, 0, 0, 0, 0, 0, 0, 0, 0, 0, 0, 0, 0, 0, 0, 0, 0, 0, 0, 0, 0, 0, 0, 0, 0, 0, 0, 0, 0]), .blk bk3 23 (ua .u8 (Lm.b32 B)), .blk bk2 23 (ua .u8 (Lm.b32 A))] := hYs
        exact ⟨rfl, Dn_alloc H T_zero36 (fun b w2 Hn => ⟨_, rfl, Hn⟩)⟩⟩, fun h => absurd h (by decide)⟩, fun _ _ _ e' w' hAg hYs => by
        obtain ⟨bk6_, q1, H⟩ := hYs
        exact ⟨rfl, Dn_alloc H T_zero36 (fun b w2 Hn => ⟨_, bk6_, rfl, q1, Hn⟩)⟩⟩, fun h => absurd h (by decide)⟩) ?_
    refine .special 1 rfl (Special.of ⟨⟨⟨⟨trivial, fun _ _ _ e' w' hAg hYs => by
        have H : Hp w0 [] w' [.blk bk4 23 (ua .u8 [0, 0, 0, 0, 0, 0, 0, 0, 0, 0, 0, 0, 0, 0, 0, 0, 0, 0, 0, 0, 0, 0, 0, 0, 0, 0, 0, 0, 0, 0, 0, 0]), .blk bk3 23 (ua .u8 (Lm.b32 B)), .blk bk2 23 (ua .u8 (Lm.b32 A))] := hYs
        exact ⟨rfl, Dn_alloc H T_zero36 (fun b w2 Hn => ⟨_, rfl, Hn⟩)⟩⟩, fun _ _ _ e' w' hAg hYs => by
        obtain ⟨bk5_, q0, H⟩ := hYs
        exact ⟨rfl, Dn_alloc H T_zero36 (fun b w2 Hn => ⟨bk5_, _, q0, rfl, Hn.swap⟩)⟩⟩, fun h => absurd h (by decide)⟩, fun h => absurd h (by decide)⟩) ?_
    exact .nil _
  ·
    intro e_2 w_5 hAg hYs
    obtain ⟨bk5_, bk6_, q0, q1, H_5⟩ := hYs
    have e_2_5 : e_2 5 = Value.pointer (some ⟨bk5_, 0, none⟩) := Option.some.inj q0
    have e_2_6 : e_2 6 = Value.pointer (some ⟨bk6_, 0, none⟩) := Option.some.inj q1
    have e_2_4 : e_2 4 = Value.pointer (some ⟨bk4, 0, none⟩) := (hAg 4 rfl).trans rfl
    have e_2_10 : e_2 10 = Value.agg (ua .u64 [(A % Lm.ord) % 18446744073709551616, (A % Lm.ord) / 18446744073709551616 % 18446744073709551616, (A % Lm.ord) / 340282366920938463463374607431768211456 % 18446744073709551616, (A % Lm.ord) / 6277101735386680763835789423207666416102355444464034512896 % 18446744073709551616]) := (hAg 10 rfl).trans rfl
    have e_2_12 : e_2 12 = Value.agg (ua .u64 [(B % Lm.ord) % 18446744073709551616, (B % Lm.ord) / 18446744073709551616 % 18446744073709551616, (B % Lm.ord) / 340282366920938463463374607431768211456 % 18446744073709551616, (B % Lm.ord) / 6277101735386680763835789423207666416102355444464034512896 % 18446744073709551616]) := (hAg 12 rfl).trans rfl
    refine L_str (ds := ua .u64 [(A % Lm.ord) % 18446744073709551616, (A % Lm.ord) / 18446744073709551616 % 18446744073709551616, (A % Lm.ord) / 340282366920938463463374607431768211456 % 18446744073709551616, (A % Lm.ord) / 6277101735386680763835789423207666416102355444464034512896 % 18446744073709551616]) T_row36 H_5 (i := 0) rfl e_2_5 e_2_10 rfl rfl (ua_one _ _) (l' := [.blk bk5_ 36 (ua .u64 [(A % Lm.ord) % 18446744073709551616, (A % Lm.ord) / 18446744073709551616 % 18446744073709551616, (A % Lm.ord) / 340282366920938463463374607431768211456 % 18446744073709551616, (A % Lm.ord) / 6277101735386680763835789423207666416102355444464034512896 % 18446744073709551616]), .blk bk6_ 36 (ua .u64 [0, 0, 0, 0]), .blk bk4 23 (ua .u8 [0, 0, 0, 0, 0, 0, 0, 0, 0, 0, 0, 0, 0, 0, 0, 0, 0, 0, 0, 0, 0, 0, 0, 0, 0, 0, 0, 0, 0, 0, 0, 0]), .blk bk3 23 (ua .u8 (Lm.b32 B)), .blk bk2 23 (ua .u8 (Lm.b32 A))]) rfl ?_; intro w_6 H_6
    refine L_str (ds := ua .u64 [(B % Lm.ord) % 18446744073709551616, (B % Lm.ord) / 18446744073709551616 % 18446744073709551616, (B % Lm.ord) / 340282366920938463463374607431768211456 % 18446744073709551616, (B % Lm.ord) / 6277101735386680763835789423207666416102355444464034512896 % 18446744073709551616]) T_row36 H_6 (i := 1) rfl e_2_6 e_2_12 rfl rfl (ua_one _ _) (l' := [.blk bk5_ 36 (ua .u64 [(A % Lm.ord) % 18446744073709551616, (A % Lm.ord) / 18446744073709551616 % 18446744073709551616, (A % Lm.ord) / 340282366920938463463374607431768211456 % 18446744073709551616, (A % Lm.ord) / 6277101735386680763835789423207666416102355444464034512896 % 18446744073709551616]), .blk bk6_ 36 (ua .u64 [(B % Lm.ord) % 18446744073709551616, (B % Lm.ord) / 18446744073709551616 % 18446744073709551616, (B % Lm.ord) / 340282366920938463463374607431768211456 % 18446744073709551616, (B % Lm.ord) / 6277101735386680763835789423207666416102355444464034512896 % 18446744073709551616]), .blk bk4 23 (ua .u8 [0, 0, 0, 0, 0, 0, 0, 0, 0, 0, 0, 0, 0, 0, 0, 0, 0, 0, 0, 0, 0, 0, 0, 0, 0, 0, 0, 0, 0, 0, 0, 0]), .blk bk3 23 (ua .u8 (Lm.b32 B)), .blk bk2 23 (ua .u8 (Lm.b32 A))]) rfl ?_; intro w_7 H_7
    refine L_nil ?_
    refine Th_n ?_
    refine W_seq ?_
    refine W_rg ?_
    refine L_as rfl ?_
    refine L_nil ?_
    refine Th_n ?_
    refine W_seq ?_
    refine W_seq ?_
    refine W_rg ?_
    refine L_mv rfl ?_
    refine L_nil ?_
    refine Th_n ?_
    refine W_block ?_
    refine W_rounds 5 ?_
    refine Wr_s ?_
    refine W_seq ?_
    refine W_rg ?_
    refine L_y rfl (Y_lss (k := .i64) (a := ((0 : Nat) : Int)) (b := ((4 : Nat) : Int)) rfl rfl) ?_
    refine L_nil ?_
    refine Th_n ?_
    refine W_seq ?_
    refine W_true (congrArg Value.bool (by decide : (decide (((0 : Nat) : Int) < ((4 : Nat) : Int))) = true)) ?_
    refine W_skip ?_
    refine Th_n ?_
    refine W_seq ?_
    refine W_block ?_
    refine W_seq ?_
    refine W_rg ?_
    refine L_mv rfl ?_
    refine L_as rfl ?_
    refine L_nil ?_
    refine Th_n ?_
    refine W_anyS 14 [3, 13] [13] [] [Value.int .i64 ((0 : Nat) : Int), Value.int .i64 ((0 : Nat) : Int), Value.pointer (some ⟨bk5_, 0, none⟩), Value.int .u64 (((A % Lm.ord) % 18446744073709551616 : Nat) : Int), Value.int .i64 ((0 : Nat) : Int), Value.pointer (some ⟨bk6_, 0, none⟩), Value.int .u64 (((B % Lm.ord) % 18446744073709551616 : Nat) : Int), Value.int .u64 ((0 : Nat) : Int), Value.tuple #[Value.int .u64 (((((A % Lm.ord) % 18446744073709551616) + ((B % Lm.ord) % 18446744073709551616) + 0) % 18446744073709551616 : Nat) : Int), Value.int .u64 (((((A % Lm.ord) % 18446744073709551616) + ((B % Lm.ord) % 18446744073709551616) + 0) / 18446744073709551616 : Nat) : Int)], Value.tuple #[Value.int .u64 (((((A % Lm.ord) % 18446744073709551616) + ((B % Lm.ord) % 18446744073709551616) + 0) % 18446744073709551616 : Nat) : Int), Value.int .u64 (((((A % Lm.ord) % 18446744073709551616) + ((B % Lm.ord) % 18446744073709551616) + 0) / 18446744073709551616 : Nat) : Int)], Value.int .u64 (((((A % Lm.ord) % 18446744073709551616) + ((B % Lm.ord) % 18446744073709551616) + 0) % 18446744073709551616 : Nat) : Int), Value.int .u64 (((((A % Lm.ord) % 18446744073709551616) + ((B % Lm.ord) % 18446744073709551616) + 0) / 18446744073709551616 : Nat) : Int), Value.pointer (some ⟨bk5_, 0, none⟩), undef] (fun w => w.heap[bk6_]? = some (.cells (ua .u64 [(B % Lm.ord) % 18446744073709551616, (B % Lm.ord) / 18446744073709551616 % 18446744073709551616, (B % Lm.ord) / 340282366920938463463374607431768211456 % 18446744073709551616, (B % Lm.ord) / 6277101735386680763835789423207666416102355444464034512896 % 18446744073709551616]) 36 (0, 0)) ∧ w.heap[bk4]? = some (.cells (ua .u8 [0, 0, 0, 0, 0, 0, 0, 0, 0, 0, 0, 0, 0, 0, 0, 0, 0, 0, 0, 0, 0, 0, 0, 0, 0, 0, 0, 0, 0, 0, 0, 0]) 23 (0, 0)) ∧ w.heap[bk3]? = some (.cells (ua .u8 (Lm.b32 B)) 23 (0, 0)) ∧ w.heap[bk2]? = some (.cells (ua .u8 (Lm.b32 A)) 23 (0, 0))) [fun vs w => Hp w0 [] w [.blk bk5_ 36 (ua .u64 [(A % Lm.ord) % 18446744073709551616, (A % Lm.ord) / 18446744073709551616 % 18446744073709551616, (A % Lm.ord) / 340282366920938463463374607431768211456 % 18446744073709551616, (A % Lm.ord) / 6277101735386680763835789423207666416102355444464034512896 % 18446744073709551616]), .blk bk6_ 36 (ua .u64 [(B % Lm.ord) % 18446744073709551616, (B % Lm.ord) / 18446744073709551616 % 18446744073709551616, (B % Lm.ord) / 340282366920938463463374607431768211456 % 18446744073709551616, (B % Lm.ord) / 6277101735386680763835789423207666416102355444464034512896 % 18446744073709551616]), .blk bk4 23 (ua .u8 [0, 0, 0, 0, 0, 0, 0, 0, 0, 0, 0, 0, 0, 0, 0, 0, 0, 0, 0, 0, 0, 0, 0, 0, 0, 0, 0, 0, 0, 0, 0, 0]), .blk bk3 23 (ua .u8 (Lm.b32 B)), .blk bk2 23 (ua .u8 (Lm.b32 A))], fun vs w => Hp w0 [] w [.blk bk5_ 36 (ua .u64 [(A % Lm.ord) % 18446744073709551616, (A % Lm.ord) / 18446744073709551616 % 18446744073709551616, (A % Lm.ord) / 340282366920938463463374607431768211456 % 18446744073709551616, (A % Lm.ord) / 6277101735386680763835789423207666416102355444464034512896 % 18446744073709551616]), .blk bk6_ 36 (ua .u64 [(B % Lm.ord) % 18446744073709551616, (B % Lm.ord) / 18446744073709551616 % 18446744073709551616, (B % Lm.ord) / 340282366920938463463374607431768211456 % 18446744073709551616, (B % Lm.ord) / 6277101735386680763835789423207666416102355444464034512896 % 18446744073709551616]), .blk bk4 23 (ua .u8 [0, 0, 0, 0, 0, 0, 0, 0, 0, 0, 0, 0, 0, 0, 0, 0, 0, 0, 0, 0, 0, 0, 0, 0, 0, 0, 0, 0, 0, 0, 0, 0]), .blk bk3 23 (ua .u8 (Lm.b32 B)), .blk bk2 23 (ua .u8 (Lm.b32 A))], fun _ _ => False, fun vs w => Hp w0 [] w [.blk bk5_ 36 (ua .u64 [(((A % Lm.ord) % 18446744073709551616) + ((B % Lm.ord) % 18446744073709551616) + 0) % 18446744073709551616, (A % Lm.ord) / 18446744073709551616 % 18446744073709551616, (A % Lm.ord) / 340282366920938463463374607431768211456 % 18446744073709551616, (A % Lm.ord) / 6277101735386680763835789423207666416102355444464034512896 % 18446744073709551616]), .blk bk6_ 36 (ua .u64 [(B % Lm.ord) % 18446744073709551616, (B % Lm.ord) / 18446744073709551616 % 18446744073709551616, (B % Lm.ord) / 340282366920938463463374607431768211456 % 18446744073709551616, (B % Lm.ord) / 6277101735386680763835789423207666416102355444464034512896 % 18446744073709551616]), .blk bk4 23 (ua .u8 [0, 0, 0, 0, 0, 0, 0, 0, 0, 0, 0, 0, 0, 0, 0, 0, 0, 0, 0, 0, 0, 0, 0, 0, 0, 0, 0, 0, 0, 0, 0, 0]), .blk bk3 23 (ua .u8 (Lm.b32 B)), .blk bk2 23 (ua .u8 (Lm.b32 A))]] T_mixed (by kernel_rfl) ⟨fun _ _ H => ⟨H.get 1 rfl, H.get 2 rfl, H.get 3 rfl, H.get 4 rfl⟩, fun _ _ H => ⟨H.get 1 rfl, H.get 2 rfl, H.get 3 rfl, H.get 4 rfl⟩, fun _ _ h => h.elim, fun _ _ H => ⟨H.get 1 rfl, H.get 2 rfl, H.get 3 rfl, H.get 4 rfl⟩, trivial⟩ ⟨fun _ _ _ hkp H => H.keep hkp, fun _ _ _ hkp H => H.keep hkp, fun _ _ _ _ h => h.elim, fun _ _ _ hkp H => H.keep hkp, trivial⟩ H_7 ?_ ?_
    ·
      refine .plain rfl (Pl_y rfl (fun w hBw => rfl)) ?_
      refine .plain rfl (Pl_y rfl (fun w hBw => rfl)) ?_
      refine .plain rfl (Pl_y rfl (fun w hBw => Y_idxA 0 0 T_arr36 e_2_5 rfl rfl (by decide) (zz1 _))) ?_
      refine .special 0 rfl (Special.ofD ⟨⟨⟨⟨trivial, fun _ _ _ e' w' hAg hYs => by
          have H : Hp w0 [] w' [.blk bk5_ 36 (ua .u64 [(A % Lm.ord) % 18446744073709551616, (A % Lm.ord) / 18446744073709551616 % 18446744073709551616, (A % Lm.ord) / 340282366920938463463374607431768211456 % 18446744073709551616, (A % Lm.ord) / 6277101735386680763835789423207666416102355444464034512896 % 18446744073709551616]), .blk bk6_ 36 (ua .u64 [(B % Lm.ord) % 18446744073709551616, (B % Lm.ord) / 18446744073709551616 % 18446744073709551616, (B % Lm.ord) / 340282366920938463463374607431768211456 % 18446744073709551616, (B % Lm.ord) / 6277101735386680763835789423207666416102355444464034512896 % 18446744073709551616]), .blk bk4 23 (ua .u8 [0, 0, 0, 0, 0, 0, 0, 0, 0, 0, 0, 0, 0, 0, 0, 0, 0, 0, 0, 0, 0, 0, 0, 0, 0, 0, 0, 0, 0, 0, 0, 0]), .blk bk3 23 (ua .u8 (Lm.b32 B)), .blk bk2 23 (ua .u8 (Lm.b32 A))] := hYs
          exact ⟨rfl, Yl.dn (Y_ld T_scal30 H (i := 0) rfl ((hAg 19 rfl).trans rfl) rfl) ⟨(fun d hd => by cases hd; rfl), H⟩⟩⟩, fun h => absurd h (by decide)⟩, fun _ _ h => absurd (by decide) (h 1 13 rfl (by decide))⟩, fun h => absurd h (by decide)⟩) ?_
      refine .plain rfl (Pl_y rfl (fun w hBw => rfl)) ?_
      refine .plain rfl (Pl_y rfl (fun w hBw => Y_idxA 0 0 T_arr36 e_2_6 rfl rfl (by decide) (zz1 _))) ?_
      refine .plain rfl (Pl_y rfl (fun w hBw => Y_ldb T_scal30 hBw.1 rfl rfl)) ?_
      refine .plain rfl (Pl_y rfl (fun w hBw => rfl)) ?_
      refine .plain rfl (Pl_y rfl (fun w hBw => Y_add64 (A3 rfl rfl rfl) (a := ((A % Lm.ord) % 18446744073709551616)) (b := ((B % Lm.ord) % 18446744073709551616)) (c := 0) (by decide))) ?_
      refine .plain rfl (Pl_y rfl (fun w hBw => rfl)) ?_
      refine .plain rfl (Pl_y rfl (fun w hBw => Y_ext rfl rfl)) ?_
      refine .plain rfl (Pl_y rfl (fun w hBw => Y_ext rfl rfl)) ?_
      refine .plain rfl (Pl_y rfl (fun w hBw => Y_idxA 0 0 T_arr36 e_2_5 rfl rfl (by decide) (zz1 _))) ?_
      refine .special 1 rfl (Special.of ⟨⟨⟨⟨trivial, fun _ h => absurd (h 0 3 rfl (by decide)) (by decide)⟩, fun _ _ _ e' w' hAg hYs => by
          have H : Hp w0 [] w' [.blk bk5_ 36 (ua .u64 [(A % Lm.ord) % 18446744073709551616, (A % Lm.ord) / 18446744073709551616 % 18446744073709551616, (A % Lm.ord) / 340282366920938463463374607431768211456 % 18446744073709551616, (A % Lm.ord) / 6277101735386680763835789423207666416102355444464034512896 % 18446744073709551616]), .blk bk6_ 36 (ua .u64 [(B % Lm.ord) % 18446744073709551616, (B % Lm.ord) / 18446744073709551616 % 18446744073709551616, (B % Lm.ord) / 340282366920938463463374607431768211456 % 18446744073709551616, (B % Lm.ord) / 6277101735386680763835789423207666416102355444464034512896 % 18446744073709551616]), .blk bk4 23 (ua .u8 [0, 0, 0, 0, 0, 0, 0, 0, 0, 0, 0, 0, 0, 0, 0, 0, 0, 0, 0, 0, 0, 0, 0, 0, 0, 0, 0, 0, 0, 0, 0, 0]), .blk bk3 23 (ua .u8 (Lm.b32 B)), .blk bk2 23 (ua .u8 (Lm.b32 A))] := hYs
          exact ⟨rfl, Dn_st (v := Value.int .u64 (((((A % Lm.ord) % 18446744073709551616) + ((B % Lm.ord) % 18446744073709551616) + 0) % 18446744073709551616 : Nat) : Int)) T_scal30 H (i := 0) rfl ((hAg 28 rfl).trans rfl) ((hAg 26 rfl).trans rfl) rfl (Nat.le_of_ble_eq_true rfl) (l' := [.blk bk5_ 36 (ua .u64 [(((A % Lm.ord) % 18446744073709551616) + ((B % Lm.ord) % 18446744073709551616) + 0) % 18446744073709551616, (A % Lm.ord) / 18446744073709551616 % 18446744073709551616, (A % Lm.ord) / 340282366920938463463374607431768211456 % 18446744073709551616, (A % Lm.ord) / 6277101735386680763835789423207666416102355444464034512896 % 18446744073709551616]), .blk bk6_ 36 (ua .u64 [(B % Lm.ord) % 18446744073709551616, (B % Lm.ord) / 18446744073709551616 % 18446744073709551616, (B % Lm.ord) / 340282366920938463463374607431768211456 % 18446744073709551616, (B % Lm.ord) / 6277101735386680763835789423207666416102355444464034512896 % 18446744073709551616]), .blk bk4 23 (ua .u8 [0, 0, 0, 0, 0, 0, 0, 0, 0, 0, 0, 0, 0, 0, 0, 0, 0, 0, 0, 0, 0, 0, 0, 0, 0, 0, 0, 0, 0, 0, 0, 0]), .blk bk3 23 (ua .u8 (Lm.b32 B)), .blk bk2 23 (ua .u8 (Lm.b32 A))]) (by rw [ua_set]; rfl) (fun w2 Hn => Hn)⟩⟩, fun h => absurd h (by decide)⟩, fun h => absurd h (by decide)⟩) ?_
      exact .nil _
    ·
      intro e_3 w_8 hAg hYs
      have H_8 := hYs
      have e_3_4 : e_3 4 = Value.pointer (some ⟨bk4, 0, none⟩) := (hAg 4 rfl).trans e_2_4
      have e_3_5 : e_3 5 = Value.pointer (some ⟨bk5_, 0, none⟩) := (hAg 5 rfl).trans e_2_5
      have e_3_6 : e_3 6 = Value.pointer (some ⟨bk6_, 0, none⟩) := (hAg 6 rfl).trans e_2_6
      have e_3_13 : e_3 13 = Value.int .i64 ((0 : Nat) : Int) := (hAg 13 rfl).trans rfl
      obtain ⟨x27, hx27⟩ : ∃ x : Nat, x = (((A % Lm.ord) % 18446744073709551616) + ((B % Lm.ord) % 18446744073709551616) + 0) / 18446744073709551616 := ⟨_, rfl⟩
      have e_3_27 : e_3 27 = Value.int .u64 ((x27 : Nat) : Int) := (hAg 27 rfl).trans (by rw [hx27]; exact rfl)
      refine L_as rfl ?_
      refine L_nil ?_
      refine InB_n ?_
      refine Th_n ?_
      refine W_rg ?_
      refine L_y rfl (Y_add (k := .i64) (a := ((0 : Nat) : Int)) (b := ((1 : Nat) : Int)) (z := ((1 : Nat) : Int)) e_3_13 rfl (by decide)) ?_
      refine L_mv rfl ?_
      refine L_nil ?_
      refine Th_n ?_
      refine Wr_s ?_
      refine W_seq ?_
      refine W_rg ?_
      refine L_y rfl (Y_lss (k := .i64) (a := ((1 : Nat) : Int)) (b := ((4 : Nat) : Int)) rfl rfl) ?_
      refine L_nil ?_
      refine Th_n ?_
      refine W_seq ?_
      refine W_true (congrArg Value.bool (by decide : (decide (((1 : Nat) : Int) < ((4 : Nat) : Int))) = true)) ?_
      refine W_skip ?_
      refine Th_n ?_
      refine W_seq ?_
      refine W_block ?_
      refine W_seq ?_
      refine W_rg ?_
      refine L_mv rfl ?_
      refine L_as rfl ?_
      refine L_nil ?_
      refine Th_n ?_
      refine W_anyS 14 [3, 13] [13] [] [Value.int .i64 ((1 : Nat) : Int), Value.int .i64 ((1 : Nat) : Int), Value.pointer (some ⟨bk5_, 1, none⟩), Value.int .u64 (((A % Lm.ord) / 18446744073709551616 % 18446744073709551616 : Nat) : Int), Value.int .i64 ((1 : Nat) : Int), Value.pointer (some ⟨bk6_, 1, none⟩), Value.int .u64 (((B % Lm.ord) / 18446744073709551616 % 18446744073709551616 : Nat) : Int), Value.int .u64 ((x27 : Nat) : Int), Value.tuple #[Value.int .u64 (((((A % Lm.ord) / 18446744073709551616 % 18446744073709551616) + ((B % Lm.ord) / 18446744073709551616 % 18446744073709551616) + x27) % 18446744073709551616 : Nat) : Int), Value.int .u64 (((((A % Lm.ord) / 18446744073709551616 % 18446744073709551616) + ((B % Lm.ord) / 18446744073709551616 % 18446744073709551616) + x27) / 18446744073709551616 : Nat) : Int)], Value.tuple #[Value.int .u64 (((((A % Lm.ord) / 18446744073709551616 % 18446744073709551616) + ((B % Lm.ord) / 18446744073709551616 % 18446744073709551616) + x27) % 18446744073709551616 : Nat) : Int), Value.int .u64 (((((A % Lm.ord) / 18446744073709551616 % 18446744073709551616) + ((B % Lm.ord) / 18446744073709551616 % 18446744073709551616) + x27) / 18446744073709551616 : Nat) : Int)], Value.int .u64 (((((A % Lm.ord) / 18446744073709551616 % 18446744073709551616) + ((B % Lm.ord) / 18446744073709551616 % 18446744073709551616) + x27) % 18446744073709551616 : Nat) : Int), Value.int .u64 (((((A % Lm.ord) / 18446744073709551616 % 18446744073709551616) + ((B % Lm.ord) / 18446744073709551616 % 18446744073709551616) + x27) / 18446744073709551616 : Nat) : Int), Value.pointer (some ⟨bk5_, 1, none⟩), undef] (fun w => w.heap[bk6_]? = some (.cells (ua .u64 [(B % Lm.ord) % 18446744073709551616, (B % Lm.ord) / 18446744073709551616 % 18446744073709551616, (B % Lm.ord) / 340282366920938463463374607431768211456 % 18446744073709551616, (B % Lm.ord) / 6277101735386680763835789423207666416102355444464034512896 % 18446744073709551616]) 36 (0, 0)) ∧ w.heap[bk4]? = some (.cells (ua .u8 [0, 0, 0, 0, 0, 0, 0, 0, 0, 0, 0, 0, 0, 0, 0, 0, 0, 0, 0, 0, 0, 0, 0, 0, 0, 0, 0, 0, 0, 0, 0, 0]) 23 (0, 0)) ∧ w.heap[bk3]? = some (.cells (ua .u8 (Lm.b32 B)) 23 (0, 0)) ∧ w.heap[bk2]? = some (.cells (ua .u8 (Lm.b32 A)) 23 (0, 0))) [fun vs w => Hp w0 [] w [.blk bk5_ 36 (ua .u64 [(((A % Lm.ord) % 18446744073709551616) + ((B % Lm.ord) % 18446744073709551616) + 0) % 18446744073709551616, (A % Lm.ord) / 18446744073709551616 % 18446744073709551616, (A % Lm.ord) / 340282366920938463463374607431768211456 % 18446744073709551616, (A % Lm.ord) / 6277101735386680763835789423207666416102355444464034512896 % 18446744073709551616]), .blk bk6_ 36 (ua .u64 [(B % Lm.ord) % 18446744073709551616, (B % Lm.ord) / 18446744073709551616 % 18446744073709551616, (B % Lm.ord) / 340282366920938463463374607431768211456 % 18446744073709551616, (B % Lm.ord) / 6277101735386680763835789423207666416102355444464034512896 % 18446744073709551616]), .blk bk4 23 (ua .u8 [0, 0, 0, 0, 0, 0, 0, 0, 0, 0, 0, 0, 0, 0, 0, 0, 0, 0, 0, 0, 0, 0, 0, 0, 0, 0, 0, 0, 0, 0, 0, 0]), .blk bk3 23 (ua .u8 (Lm.b32 B)), .blk bk2 23 (ua .u8 (Lm.b32 A))], fun vs w => Hp w0 [] w [.blk bk5_ 36 (ua .u64 [(((A % Lm.ord) % 18446744073709551616) + ((B % Lm.ord) % 18446744073709551616) + 0) % 18446744073709551616, (A % Lm.ord) / 18446744073709551616 % 18446744073709551616, (A % Lm.ord) / 340282366920938463463374607431768211456 % 18446744073709551616, (A % Lm.ord) / 6277101735386680763835789423207666416102355444464034512896 % 18446744073709551616]), .blk bk6_ 36 (ua .u64 [(B % Lm.ord) % 18446744073709551616, (B % Lm.ord) / 18446744073709551616 % 18446744073709551616, (B % Lm.ord) / 340282366920938463463374607431768211456 % 18446744073709551616, (B % Lm.ord) / 6277101735386680763835789423207666416102355444464034512896 % 18446744073709551616]), .blk bk4 23 (ua .u8 [0, 0, 0, 0, 0, 0, 0, 0, 0, 0, 0, 0, 0, 0, 0, 0, 0, 0, 0, 0, 0, 0, 0, 0, 0, 0, 0, 0, 0, 0, 0, 0]), .blk bk3 23 (ua .u8 (Lm.b32 B)), .blk bk2 23 (ua .u8 (Lm.b32 A))], fun _ _ => False, fun vs w => Hp w0 [] w [.blk bk5_ 36 (ua .u64 [(((A % Lm.ord) % 18446744073709551616) + ((B % Lm.ord) % 18446744073709551616) + 0) % 18446744073709551616, (((A % Lm.ord) / 18446744073709551616 % 18446744073709551616) + ((B % Lm.ord) / 18446744073709551616 % 18446744073709551616) + x27) % 18446744073709551616, (A % Lm.ord) / 340282366920938463463374607431768211456 % 18446744073709551616, (A % Lm.ord) / 6277101735386680763835789423207666416102355444464034512896 % 18446744073709551616]), .blk bk6_ 36 (ua .u64 [(B % Lm.ord) % 18446744073709551616, (B % Lm.ord) / 18446744073709551616 % 18446744073709551616, (B % Lm.ord) / 340282366920938463463374607431768211456 % 18446744073709551616, (B % Lm.ord) / 6277101735386680763835789423207666416102355444464034512896 % 18446744073709551616]), .blk bk4 23 (ua .u8 [0, 0, 0, 0, 0, 0, 0, 0, 0, 0, 0, 0, 0, 0, 0, 0, 0, 0, 0, 0, 0, 0, 0, 0, 0, 0, 0, 0, 0, 0, 0, 0]), .blk bk3 23 (ua .u8 (Lm.b32 B)), .blk bk2 23 (ua .u8 (Lm.b32 A))]] T_mixed (by kernel_rfl) ⟨fun _ _ H => ⟨H.get 1 rfl, H.get 2 rfl, H.get 3 rfl, H.get 4 rfl⟩, fun _ _ H => ⟨H.get 1 rfl, H.get 2 rfl, H.get 3 rfl, H.get 4 rfl⟩, fun _ _ h => h.elim, fun _ _ H => ⟨H.get 1 rfl, H.get 2 rfl, H.get 3 rfl, H.get 4 rfl⟩, trivial⟩ ⟨fun _ _ _ hkp H => H.keep hkp, fun _ _ _ hkp H => H.keep hkp, fun _ _ _ _ h => h.elim, fun _ _ _ hkp H => H.keep hkp, trivial⟩ H_8 ?_ ?_
      ·
        refine .plain rfl (Pl_y rfl (fun w hBw => rfl)) ?_
        refine .plain rfl (Pl_y rfl (fun w hBw => rfl)) ?_
        refine .plain rfl (Pl_y rfl (fun w hBw => Y_idxA 1 1 T_arr36 e_3_5 rfl rfl (by decide) (zz1 _))) ?_
        refine .special 0 rfl (Special.ofD ⟨⟨⟨⟨trivial, fun _ _ _ e' w' hAg hYs => by
            have H : Hp w0 [] w' [.blk bk5_ 36 (ua .u64 [(((A % Lm.ord) % 18446744073709551616) + ((B % Lm.ord) % 18446744073709551616) + 0) % 18446744073709551616, (A % Lm.ord) / 18446744073709551616 % 18446744073709551616, (A % Lm.ord) / 340282366920938463463374607431768211456 % 18446744073709551616, (A % Lm.ord) / 6277101735386680763835789423207666416102355444464034512896 % 18446744073709551616]), .blk bk6_ 36 (ua .u64 [(B % Lm.ord) % 18446744073709551616, (B % Lm.ord) / 18446744073709551616 % 18446744073709551616, (B % Lm.ord) / 340282366920938463463374607431768211456 % 18446744073709551616, (B % Lm.ord) / 6277101735386680763835789423207666416102355444464034512896 % 18446744073709551616]), .blk bk4 23 (ua .u8 [0, 0, 0, 0, 0, 0, 0, 0, 0, 0, 0, 0, 0, 0, 0, 0, 0, 0, 0, 0, 0, 0, 0, 0, 0, 0, 0, 0, 0, 0, 0, 0]), .blk bk3 23 (ua .u8 (Lm.b32 B)), .blk bk2 23 (ua .u8 (Lm.b32 A))] := hYs
            exact ⟨rfl, Yl.dn (Y_ld T_scal30 H (i := 0) rfl ((hAg 19 rfl).trans rfl) rfl) ⟨(fun d hd => by cases hd; rfl), H⟩⟩⟩, fun h => absurd h (by decide)⟩, fun _ _ h => absurd (by decide) (h 1 13 rfl (by decide))⟩, fun h => absurd h (by decide)⟩) ?_
        refine .plain rfl (Pl_y rfl (fun w hBw => rfl)) ?_
        refine .plain rfl (Pl_y rfl (fun w hBw => Y_idxA 1 1 T_arr36 e_3_6 rfl rfl (by decide) (zz1 _))) ?_
        refine .plain rfl (Pl_y rfl (fun w hBw => Y_ldb T_scal30 hBw.1 rfl rfl)) ?_
        refine .plain rfl (Pl_y rfl (fun w hBw => congrArg (fun v => Result.ok (Next.value v) w) e_3_27)) ?_
        refine .plain rfl (Pl_y rfl (fun w hBw => Y_add64 (A3 rfl rfl rfl) (a := ((A % Lm.ord) / 18446744073709551616 % 18446744073709551616)) (b := ((B % Lm.ord) / 18446744073709551616 % 18446744073709551616)) (c := x27) (by omega))) ?_
        refine .plain rfl (Pl_y rfl (fun w hBw => rfl)) ?_
        refine .plain rfl (Pl_y rfl (fun w hBw => Y_ext rfl rfl)) ?_
        refine .plain rfl (Pl_y rfl (fun w hBw => Y_ext rfl rfl)) ?_
        refine .plain rfl (Pl_y rfl (fun w hBw => Y_idxA 1 1 T_arr36 e_3_5 rfl rfl (by decide) (zz1 _))) ?_
        refine .special 1 rfl (Special.of ⟨⟨⟨⟨trivial, fun _ h => absurd (h 0 3 rfl (by decide)) (by decide)⟩, fun _ _ _ e' w' hAg hYs => by
            have H : Hp w0 [] w' [.blk bk5_ 36 (ua .u64 [(((A % Lm.ord) % 18446744073709551616) + ((B % Lm.ord) % 18446744073709551616) + 0) % 18446744073709551616, (A % Lm.ord) / 18446744073709551616 % 18446744073709551616, (A % Lm.ord) / 340282366920938463463374607431768211456 % 18446744073709551616, (A % Lm.ord) / 6277101735386680763835789423207666416102355444464034512896 % 18446744073709551616]), .blk bk6_ 36 (ua .u64 [(B % Lm.ord) % 18446744073709551616, (B % Lm.ord) / 18446744073709551616 % 18446744073709551616, (B % Lm.ord) / 340282366920938463463374607431768211456 % 18446744073709551616, (B % Lm.ord) / 6277101735386680763835789423207666416102355444464034512896 % 18446744073709551616]), .blk bk4 23 (ua .u8 [0, 0, 0, 0, 0, 0, 0, 0, 0, 0, 0, 0, 0, 0, 0, 0, 0, 0, 0, 0, 0, 0, 0, 0, 0, 0, 0, 0, 0, 0, 0, 0]), .blk bk3 23 (ua .u8 (Lm.b32 B)), .blk bk2 23 (ua .u8 (Lm.b32 A))] := hYs
            exact ⟨rfl, Dn_st (v := Value.int .u64 (((((A % Lm.ord) / 18446744073709551616 % 18446744073709551616) + ((B % Lm.ord) / 18446744073709551616 % 18446744073709551616) + x27) % 18446744073709551616 : Nat) : Int)) T_scal30 H (i := 0) rfl ((hAg 28 rfl).trans rfl) ((hAg 26 rfl).trans rfl) rfl (Nat.le_of_ble_eq_true rfl) (l' := [.blk bk5_ 36 (ua .u64 [(((A % Lm.ord) % 18446744073709551616) + ((B % Lm.ord) % 18446744073709551616) + 0) % 18446744073709551616, (((A % Lm.ord) / 18446744073709551616 % 18446744073709551616) + ((B % Lm.ord) / 18446744073709551616 % 18446744073709551616) + x27) % 18446744073709551616, (A % Lm.ord) / 340282366920938463463374607431768211456 % 18446744073709551616, (A % Lm.ord) / 6277101735386680763835789423207666416102355444464034512896 % 18446744073709551616]), .blk bk6_ 36 (ua .u64 [(B % Lm.ord) % 18446744073709551616, (B % Lm.ord) / 18446744073709551616 % 18446744073709551616, (B % Lm.ord) / 340282366920938463463374607431768211456 % 18446744073709551616, (B % Lm.ord) / 6277101735386680763835789423207666416102355444464034512896 % 18446744073709551616]), .blk bk4 23 (ua .u8 [0, 0, 0, 0, 0, 0, 0, 0, 0, 0, 0, 0, 0, 0, 0, 0, 0, 0, 0, 0, 0, 0, 0, 0, 0, 0, 0, 0, 0, 0, 0, 0]), .blk bk3 23 (ua .u8 (Lm.b32 B)), .blk bk2 23 (ua .u8 (Lm.b32 A))]) (by rw [ua_set]; rfl) (fun w2 Hn => Hn)⟩⟩, fun h => absurd h (by decide)⟩, fun h => absurd h (by decide)⟩) ?_
        exact .nil _
      ·
        intro e_4 w_9 hAg hYs
        have H_9 := hYs
        have e_4_4 : e_4 4 = Value.pointer (some ⟨bk4, 0, none⟩) := (hAg 4 rfl).trans e_3_4
        have e_4_5 : e_4 5 = Value.pointer (some ⟨bk5_, 0, none⟩) := (hAg 5 rfl).trans e_3_5
        have e_4_6 : e_4 6 = Value.pointer (some ⟨bk6_, 0, none⟩) := (hAg 6 rfl).trans e_3_6
        have e_4_13 : e_4 13 = Value.int .i64 ((1 : Nat) : Int) := (hAg 13 rfl).trans rfl
        obtain ⟨x27_2, hx27_2⟩ : ∃ x : Nat, x = (((A % Lm.ord) / 18446744073709551616 % 18446744073709551616) + ((B % Lm.ord) / 18446744073709551616 % 18446744073709551616) + x27) / 18446744073709551616 := ⟨_, rfl⟩
        have e_4_27 : e_4 27 = Value.int .u64 ((x27_2 : Nat) : Int) := (hAg 27 rfl).trans (by rw [hx27_2]; exact rfl)
        refine L_as rfl ?_
        refine L_nil ?_
        refine InB_n ?_
        refine Th_n ?_
        refine W_rg ?_
        refine L_y rfl (Y_add (k := .i64) (a := ((1 : Nat) : Int)) (b := ((1 : Nat) : Int)) (z := ((2 : Nat) : Int)) e_4_13 rfl (by decide)) ?_
        refine L_mv rfl ?_
        refine L_nil ?_
        refine Th_n ?_
        refine Wr_s ?_
        refine W_seq ?_
        refine W_rg ?_
        refine L_y rfl (Y_lss (k := .i64) (a := ((2 : Nat) : Int)) (b := ((4 : Nat) : Int)) rfl rfl) ?_
        refine L_nil ?_
        refine Th_n ?_
        refine W_seq ?_
        refine W_true (congrArg Value.bool (by decide : (decide (((2 : Nat) : Int) < ((4 : Nat) : Int))) = true)) ?_
        refine W_skip ?_
        refine Th_n ?_
        refine W_seq ?_
        refine W_block ?_
        refine W_seq ?_
        refine W_rg ?_
        refine L_mv rfl ?_
        refine L_as rfl ?_
        refine L_nil ?_
        refine Th_n ?_
        refine W_anyS 14 [3, 13] [13] [] [Value.int .i64 ((2 : Nat) : Int), Value.int .i64 ((2 : Nat) : Int), Value.pointer (some ⟨bk5_, 2, none⟩), Value.int .u64 (((A % Lm.ord) / 340282366920938463463374607431768211456 % 18446744073709551616 : Nat) : Int), Value.int .i64 ((2 : Nat) : Int), Value.pointer (some ⟨bk6_, 2, none⟩), Value.int .u64 (((B % Lm.ord) / 340282366920938463463374607431768211456 % 18446744073709551616 : Nat) : Int), Value.int .u64 ((x27_2 : Nat) : Int), Value.tuple #[Value.int .u64 (((((A % Lm.ord) / 340282366920938463463374607431768211456 % 18446744073709551616) + ((B % Lm.ord) / 340282366920938463463374607431768211456 % 18446744073709551616) + x27_2) % 18446744073709551616 : Nat) : Int), Value.int .u64 (((((A % Lm.ord) / 340282366920938463463374607431768211456 % 18446744073709551616) + ((B % Lm.ord) / 340282366920938463463374607431768211456 % 18446744073709551616) + x27_2) / 18446744073709551616 : Nat) : Int)], Value.tuple #[Value.int .u64 (((((A % Lm.ord) / 340282366920938463463374607431768211456 % 18446744073709551616) + ((B % Lm.ord) / 340282366920938463463374607431768211456 % 18446744073709551616) + x27_2) % 18446744073709551616 : Nat) : Int), Value.int .u64 (((((A % Lm.ord) / 340282366920938463463374607431768211456 % 18446744073709551616) + ((B % Lm.ord) / 340282366920938463463374607431768211456 % 18446744073709551616) + x27_2) / 18446744073709551616 : Nat) : Int)], Value.int .u64 (((((A % Lm.ord) / 340282366920938463463374607431768211456 % 18446744073709551616) + ((B % Lm.ord) / 340282366920938463463374607431768211456 % 18446744073709551616) + x27_2) % 18446744073709551616 : Nat) : Int), Value.int .u64 (((((A % Lm.ord) / 340282366920938463463374607431768211456 % 18446744073709551616) + ((B % Lm.ord) / 340282366920938463463374607431768211456 % 18446744073709551616) + x27_2) / 18446744073709551616 : Nat) : Int), Value.pointer (some ⟨bk5_, 2, none⟩), undef] (fun w => w.heap[bk6_]? = some (.cells (ua .u64 [(B % Lm.ord) % 18446744073709551616, (B % Lm.ord) / 18446744073709551616 % 18446744073709551616, (B % Lm.ord) / 340282366920938463463374607431768211456 % 18446744073709551616, (B % Lm.ord) / 6277101735386680763835789423207666416102355444464034512896 % 18446744073709551616]) 36 (0, 0)) ∧ w.heap[bk4]? = some (.cells (ua .u8 [0, 0, 0, 0, 0, 0, 0, 0, 0, 0, 0, 0, 0, 0, 0, 0, 0, 0, 0, 0, 0, 0, 0, 0, 0, 0, 0, 0, 0, 0, 0, 0]) 23 (0, 0)) ∧ w.heap[bk3]? = some (.cells (ua .u8 (Lm.b32 B)) 23 (0, 0)) ∧ w.heap[bk2]? = some (.cells (ua .u8 (Lm.b32 A)) 23 (0, 0))) [fun vs w => Hp w0 [] w [.blk bk5_ 36 (ua .u64 [(((A % Lm.ord) % 18446744073709551616) + ((B % Lm.ord) % 18446744073709551616) + 0) % 18446744073709551616, (((A % Lm.ord) / 18446744073709551616 % 18446744073709551616) + ((B % Lm.ord) / 18446744073709551616 % 18446744073709551616) + x27) % 18446744073709551616, (A % Lm.ord) / 340282366920938463463374607431768211456 % 18446744073709551616, (A % Lm.ord) / 6277101735386680763835789423207666416102355444464034512896 % 18446744073709551616]), .blk bk6_ 36 (ua .u64 [(B % Lm.ord) % 18446744073709551616, (B % Lm.ord) / 18446744073709551616 % 18446744073709551616, (B % Lm.ord) / 340282366920938463463374607431768211456 % 18446744073709551616, (B % Lm.ord) / 6277101735386680763835789423207666416102355444464034512896 % 18446744073709551616]), .blk bk4 23 (ua .u8 [0, 0, 0, 0, 0, 0, 0, 0, 0, 0, 0, 0, 0, 0, 0, 0, 0, 0, 0, 0, 0, 0, 0, 0, 0, 0, 0, 0, 0, 0, 0, 0]), .blk bk3 23 (ua .u8 (Lm.b32 B)), .blk bk2 23 (ua .u8 (Lm.b32 A))], fun vs w => Hp w0 [] w [.blk bk5_ 36 (ua .u64 [(((A % Lm.ord) % 18446744073709551616) + ((B % Lm.ord) % 18446744073709551616) + 0) % 18446744073709551616, (((A % Lm.ord) / 18446744073709551616 % 18446744073709551616) + ((B % Lm.ord) / 18446744073709551616 % 18446744073709551616) + x27) % 18446744073709551616, (A % Lm.ord) / 340282366920938463463374607431768211456 % 18446744073709551616, (A % Lm.ord) / 6277101735386680763835789423207666416102355444464034512896 % 18446744073709551616]), .blk bk6_ 36 (ua .u64 [(B % Lm.ord) % 18446744073709551616, (B % Lm.ord) / 18446744073709551616 % 18446744073709551616, (B % Lm.ord) / 340282366920938463463374607431768211456 % 18446744073709551616, (B % Lm.ord) / 6277101735386680763835789423207666416102355444464034512896 % 18446744073709551616]), .blk bk4 23 (ua .u8 [0, 0, 0, 0, 0, 0, 0, 0, 0, 0, 0, 0, 0, 0, 0, 0, 0, 0, 0, 0, 0, 0, 0, 0, 0, 0, 0, 0, 0, 0, 0, 0]), .blk bk3 23 (ua .u8 (Lm.b32 B)), .blk bk2 23 (ua .u8 (Lm.b32 A))], fun _ _ => False, fun vs w => Hp w0 [] w [.blk bk5_ 36 (ua .u64 [(((A % Lm.ord) % 18446744073709551616) + ((B % Lm.ord) % 18446744073709551616) + 0) % 18446744073709551616, (((A % Lm.ord) / 18446744073709551616 % 18446744073709551616) + ((B % Lm.ord) / 18446744073709551616 % 18446744073709551616) + x27) % 18446744073709551616, (((A % Lm.ord) / 340282366920938463463374607431768211456 % 18446744073709551616) + ((B % Lm.ord) / 340282366920938463463374607431768211456 % 18446744073709551616) + x27_2) % 18446744073709551616, (A % Lm.ord) / 6277101735386680763835789423207666416102355444464034512896 % 18446744073709551616]), .blk bk6_ 36 (ua .u64 [(B % Lm.ord) % 18446744073709551616, (B % Lm.ord) / 18446744073709551616 % 18446744073709551616, (B % Lm.ord) / 340282366920938463463374607431768211456 % 18446744073709551616, (B % Lm.ord) / 6277101735386680763835789423207666416102355444464034512896 % 18446744073709551616]), .blk bk4 23 (ua .u8 [0, 0, 0, 0, 0, 0, 0, 0, 0, 0, 0, 0, 0, 0, 0, 0, 0, 0, 0, 0, 0, 0, 0, 0, 0, 0, 0, 0, 0, 0, 0, 0]), .blk bk3 23 (ua .u8 (Lm.b32 B)), .blk bk2 23 (ua .u8 (Lm.b32 A))]] T_mixed (by kernel_rfl) ⟨fun _ _ H => ⟨H.get 1 rfl, H.get 2 rfl, H.get 3 rfl, H.get 4 rfl⟩, fun _ _ H => ⟨H.get 1 rfl, H.get 2 rfl, H.get 3 rfl, H.get 4 rfl⟩, fun _ _ h => h.elim, fun _ _ H => ⟨H.get 1 rfl, H.get 2 rfl, H.get 3 rfl, H.get 4 rfl⟩, trivial⟩ ⟨fun _ _ _ hkp H => H.keep hkp, fun _ _ _ hkp H => H.keep hkp, fun _ _ _ _ h => h.elim, fun _ _ _ hkp H => H.keep hkp, trivial⟩ H_9 ?_ ?_
        ·
          refine .plain rfl (Pl_y rfl (fun w hBw => rfl)) ?_
          refine .plain rfl (Pl_y rfl (fun w hBw => rfl)) ?_
          refine .plain rfl (Pl_y rfl (fun w hBw => Y_idxA 2 2 T_arr36 e_4_5 rfl rfl (by decide) (zz1 _))) ?_
          refine .special 0 rfl (Special.ofD ⟨⟨⟨⟨trivial, fun _ _ _ e' w' hAg hYs => by
              have H : Hp w0 [] w' [.blk bk5_ 36 (ua .u64 [(((A % Lm.ord) % 18446744073709551616) + ((B % Lm.ord) % 18446744073709551616) + 0) % 18446744073709551616, (((A % Lm.ord) / 18446744073709551616 % 18446744073709551616) + ((B % Lm.ord) / 18446744073709551616 % 18446744073709551616) + x27) % 18446744073709551616, (A % Lm.ord) / 340282366920938463463374607431768211456 % 18446744073709551616, (A % Lm.ord) / 6277101735386680763835789423207666416102355444464034512896 % 18446744073709551616]), .blk bk6_ 36 (ua .u64 [(B % Lm.ord) % 18446744073709551616, (B % Lm.ord) / 18446744073709551616 % 18446744073709551616, (B % Lm.ord) / 340282366920938463463374607431768211456 % 18446744073709551616, (B % Lm.ord) / 6277101735386680763835789423207666416102355444464034512896 % 18446744073709551616]), .blk bk4 23 (ua .u8 [0, 0, 0, 0, 0, 0, 0, 0, 0, 0, 0, 0, 0, 0, 0, 0, 0, 0, 0, 0, 0, 0, 0, 0, 0, 0, 0, 0, 0, 0, 0, 0]), .blk bk3 23 (ua .u8 (Lm.b32 B)), .blk bk2 23 (ua .u8 (Lm.b32 A))] := hYs
              exact ⟨rfl, Yl.dn (Y_ld T_scal30 H (i := 0) rfl ((hAg 19 rfl).trans rfl) rfl) ⟨(fun d hd => by cases hd; rfl), H⟩⟩⟩, fun h => absurd h (by decide)⟩, fun _ _ h => absurd (by decide) (h 1 13 rfl (by decide))⟩, fun h => absurd h (by decide)⟩) ?_
          refine .plain rfl (Pl_y rfl (fun w hBw => rfl)) ?_
          refine .plain rfl (Pl_y rfl (fun w hBw => Y_idxA 2 2 T_arr36 e_4_6 rfl rfl (by decide) (zz1 _))) ?_
          refine .plain rfl (Pl_y rfl (fun w hBw => Y_ldb T_scal30 hBw.1 rfl rfl)) ?_
          refine .plain rfl (Pl_y rfl (fun w hBw => congrArg (fun v => Result.ok (Next.value v) w) e_4_27)) ?_
          refine .plain rfl (Pl_y rfl (fun w hBw => Y_add64 (A3 rfl rfl rfl) (a := ((A % Lm.ord) / 340282366920938463463374607431768211456 % 18446744073709551616)) (b := ((B % Lm.ord) / 340282366920938463463374607431768211456 % 18446744073709551616)) (c := x27_2) (by omega))) ?_
          refine .plain rfl (Pl_y rfl (fun w hBw => rfl)) ?_
          refine .plain rfl (Pl_y rfl (fun w hBw => Y_ext rfl rfl)) ?_
          refine .plain rfl (Pl_y rfl (fun w hBw => Y_ext rfl rfl)) ?_
          refine .plain rfl (Pl_y rfl (fun w hBw => Y_idxA 2 2 T_arr36 e_4_5 rfl rfl (by decide) (zz1 _))) ?_
          refine .special 1 rfl (Special.of ⟨⟨⟨⟨trivial, fun _ h => absurd (h 0 3 rfl (by decide)) (by decide)⟩, fun _ _ _ e' w' hAg hYs => by
              have H : Hp w0 [] w' [.blk bk5_ 36 (ua .u64 [(((A % Lm.ord) % 18446744073709551616) + ((B % Lm.ord) % 18446744073709551616) + 0) % 18446744073709551616, (((A % Lm.ord) / 18446744073709551616 % 18446744073709551616) + ((B % Lm.ord) / 18446744073709551616 % 18446744073709551616) + x27) % 18446744073709551616, (A % Lm.ord) / 340282366920938463463374607431768211456 % 18446744073709551616, (A % Lm.ord) / 6277101735386680763835789423207666416102355444464034512896 % 18446744073709551616]), .blk bk6_ 36 (ua .u64 [(B % Lm.ord) % 18446744073709551616, (B % Lm.ord) / 18446744073709551616 % 18446744073709551616, (B % Lm.ord) / 340282366920938463463374607431768211456 % 18446744073709551616, (B % Lm.ord) / 6277101735386680763835789423207666416102355444464034512896 % 18446744073709551616]), .blk bk4 23 (ua .u8 [0, 0, 0, 0, 0, 0, 0, 0, 0, 0, 0, 0, 0, 0, 0, 0, 0, 0, 0, 0, 0, 0, 0, 0, 0, 0, 0, 0, 0, 0, 0, 0]), .blk bk3 23 (ua .u8 (Lm.b32 B)), .blk bk2 23 (ua .u8 (Lm.b32 A))] := hYs
              exact ⟨rfl, Dn_st (v := Value.int .u64 (((((A % Lm.ord) / 340282366920938463463374607431768211456 % 18446744073709551616) + ((B % Lm.ord) / 340282366920938463463374607431768211456 % 18446744073709551616) + x27_2) % 18446744073709551616 : Nat) : Int)) T_scal30 H (i := 0) rfl ((hAg 28 rfl).trans rfl) ((hAg 26 rfl).trans rfl) rfl (Nat.le_of_ble_eq_true rfl) (l' := [.blk bk5_ 36 (ua .u64 [(((A % Lm.ord) % 18446744073709551616) + ((B % Lm.ord) % 18446744073709551616) + 0) % 18446744073709551616, (((A % Lm.ord) / 18446744073709551616 % 18446744073709551616) + ((B % Lm.ord) / 18446744073709551616 % 18446744073709551616) + x27) % 18446744073709551616, (((A % Lm.ord) / 340282366920938463463374607431768211456 % 18446744073709551616) + ((B % Lm.ord) / 340282366920938463463374607431768211456 % 18446744073709551616) + x27_2) % 18446744073709551616, (A % Lm.ord) / 6277101735386680763835789423207666416102355444464034512896 % 18446744073709551616]), .blk bk6_ 36 (ua .u64 [(B % Lm.ord) % 18446744073709551616, (B % Lm.ord) / 18446744073709551616 % 18446744073709551616, (B % Lm.ord) / 340282366920938463463374607431768211456 % 18446744073709551616, (B % Lm.ord) / 6277101735386680763835789423207666416102355444464034512896 % 18446744073709551616]), .blk bk4 23 (ua .u8 [0, 0, 0, 0, 0, 0, 0, 0, 0, 0, 0, 0, 0, 0, 0, 0, 0, 0, 0, 0, 0, 0, 0, 0, 0, 0, 0, 0, 0, 0, 0, 0]), .blk bk3 23 (ua .u8 (Lm.b32 B)), .blk bk2 23 (ua .u8 (Lm.b32 A))]) (by rw [ua_set]; rfl) (fun w2 Hn => Hn)⟩⟩, fun h => absurd h (by decide)⟩, fun h => absurd h (by decide)⟩) ?_
          exact .nil _
        ·
          intro e_5 w_10 hAg hYs
          have H_10 := hYs
          have e_5_4 : e_5 4 = Value.pointer (some ⟨bk4, 0, none⟩) := (hAg 4 rfl).trans e_4_4
          have e_5_5 : e_5 5 = Value.pointer (some ⟨bk5_, 0, none⟩) := (hAg 5 rfl).trans e_4_5
          have e_5_6 : e_5 6 = Value.pointer (some ⟨bk6_, 0, none⟩) := (hAg 6 rfl).trans e_4_6
          have e_5_13 : e_5 13 = Value.int .i64 ((2 : Nat) : Int) := (hAg 13 rfl).trans rfl
          obtain ⟨x27_3, hx27_3⟩ : ∃ x : Nat, x = (((A % Lm.ord) / 340282366920938463463374607431768211456 % 18446744073709551616) + ((B % Lm.ord) / 340282366920938463463374607431768211456 % 18446744073709551616) + x27_2) / 18446744073709551616 := ⟨_, rfl⟩
          have e_5_27 : e_5 27 = Value.int .u64 ((x27_3 : Nat) : Int) := (hAg 27 rfl).trans (by rw [hx27_3]; exact rfl)
          refine L_as rfl ?_
          refine L_nil ?_
          refine InB_n ?_
          refine Th_n ?_
          refine W_rg ?_
          refine L_y rfl (Y_add (k := .i64) (a := ((2 : Nat) : Int)) (b := ((1 : Nat) : Int)) (z := ((3 : Nat) : Int)) e_5_13 rfl (by decide)) ?_
          refine L_mv rfl ?_
          refine L_nil ?_
          refine Th_n ?_
          refine Wr_s ?_
          refine W_seq ?_
          refine W_rg ?_
          refine L_y rfl (Y_lss (k := .i64) (a := ((3 : Nat) : Int)) (b := ((4 : Nat) : Int)) rfl rfl) ?_
          refine L_nil ?_
          refine Th_n ?_
          refine W_seq ?_
          refine W_true (congrArg Value.bool (by decide : (decide (((3 : Nat) : Int) < ((4 : Nat) : Int))) = true)) ?_
          refine W_skip ?_
          refine Th_n ?_
          refine W_seq ?_
          refine W_block ?_
          refine W_seq ?_
          refine W_rg ?_
          refine L_mv rfl ?_
          refine L_as rfl ?_
          refine L_nil ?_
          refine Th_n ?_
          refine W_anyS 14 [3, 13] [13] [] [Value.int .i64 ((3 : Nat) : Int), Value.int .i64 ((3 : Nat) : Int), Value.pointer (some ⟨bk5_, 3, none⟩), Value.int .u64 (((A % Lm.ord) / 6277101735386680763835789423207666416102355444464034512896 % 18446744073709551616 : Nat) : Int), Value.int .i64 ((3 : Nat) : Int), Value.pointer (some ⟨bk6_, 3, none⟩), Value.int .u64 (((B % Lm.ord) / 6277101735386680763835789423207666416102355444464034512896 % 18446744073709551616 : Nat) : Int), Value.int .u64 ((x27_3 : Nat) : Int), Value.tuple #[Value.int .u64 (((((A % Lm.ord) / 6277101735386680763835789423207666416102355444464034512896 % 18446744073709551616) + ((B % Lm.ord) / 6277101735386680763835789423207666416102355444464034512896 % 18446744073709551616) + x27_3) % 18446744073709551616 : Nat) : Int), Value.int .u64 (((((A % Lm.ord) / 6277101735386680763835789423207666416102355444464034512896 % 18446744073709551616) + ((B % Lm.ord) / 6277101735386680763835789423207666416102355444464034512896 % 18446744073709551616) + x27_3) / 18446744073709551616 : Nat) : Int)], Value.tuple #[Value.int .u64 (((((A % Lm.ord) / 6277101735386680763835789423207666416102355444464034512896 % 18446744073709551616) + ((B % Lm.ord) / 6277101735386680763835789423207666416102355444464034512896 % 18446744073709551616) + x27_3) % 18446744073709551616 : Nat) : Int), Value.int .u64 (((((A % Lm.ord) / 6277101735386680763835789423207666416102355444464034512896 % 18446744073709551616) + ((B % Lm.ord) / 6277101735386680763835789423207666416102355444464034512896 % 18446744073709551616) + x27_3) / 18446744073709551616 : Nat) : Int)], Value.int .u64 (((((A % Lm.ord) / 6277101735386680763835789423207666416102355444464034512896 % 18446744073709551616) + ((B % Lm.ord) / 6277101735386680763835789423207666416102355444464034512896 % 18446744073709551616) + x27_3) % 18446744073709551616 : Nat) : Int), Value.int .u64 (((((A % Lm.ord) / 6277101735386680763835789423207666416102355444464034512896 % 18446744073709551616) + ((B % Lm.ord) / 6277101735386680763835789423207666416102355444464034512896 % 18446744073709551616) + x27_3) / 18446744073709551616 : Nat) : Int), Value.pointer (some ⟨bk5_, 3, none⟩), undef] (fun w => w.heap[bk6_]? = some (.cells (ua .u64 [(B % Lm.ord) % 18446744073709551616, (B % Lm.ord) / 18446744073709551616 % 18446744073709551616, (B % Lm.ord) / 340282366920938463463374607431768211456 % 18446744073709551616, (B % Lm.ord) / 6277101735386680763835789423207666416102355444464034512896 % 18446744073709551616]) 36 (0, 0)) ∧ w.heap[bk4]? = some (.cells (ua .u8 [0, 0, 0, 0, 0, 0, 0, 0, 0, 0, 0, 0, 0, 0, 0, 0, 0, 0, 0, 0, 0, 0, 0, 0, 0, 0, 0, 0, 0, 0, 0, 0]) 23 (0, 0)) ∧ w.heap[bk3]? = some (.cells (ua .u8 (Lm.b32 B)) 23 (0, 0)) ∧ w.heap[bk2]? = some (.cells (ua .u8 (Lm.b32 A)) 23 (0, 0))) [fun vs w => Hp w0 [] w [.blk bk5_ 36 (ua .u64 [(((A % Lm.ord) % 18446744073709551616) + ((B % Lm.ord) % 18446744073709551616) + 0) % 18446744073709551616, (((A % Lm.ord) / 18446744073709551616 % 18446744073709551616) + ((B % Lm.ord) / 18446744073709551616 % 18446744073709551616) + x27) % 18446744073709551616, (((A % Lm.ord) / 340282366920938463463374607431768211456 % 18446744073709551616) + ((B % Lm.ord) / 340282366920938463463374607431768211456 % 18446744073709551616) + x27_2) % 18446744073709551616, (A % Lm.ord) / 6277101735386680763835789423207666416102355444464034512896 % 18446744073709551616]), .blk bk6_ 36 (ua .u64 [(B % Lm.ord) % 18446744073709551616, (B % Lm.ord) / 18446744073709551616 % 18446744073709551616, (B % Lm.ord) / 340282366920938463463374607431768211456 % 18446744073709551616, (B % Lm.ord) / 6277101735386680763835789423207666416102355444464034512896 % 18446744073709551616]), .blk bk4 23 (ua .u8 [0, 0, 0, 0, 0, 0, 0, 0, 0, 0, 0, 0, 0, 0, 0, 0, 0, 0, 0, 0, 0, 0, 0, 0, 0, 0, 0, 0, 0, 0, 0, 0]), .blk bk3 23 (ua .u8 (Lm.b32 B)), .blk bk2 23 (ua .u8 (Lm.b32 A))], fun vs w => Hp w0 [] w [.blk bk5_ 36 (ua .u64 [(((A % Lm.ord) % 18446744073709551616) + ((B % Lm.ord) % 18446744073709551616) + 0) % 18446744073709551616, (((A % Lm.ord) / 18446744073709551616 % 18446744073709551616) + ((B % Lm.ord) / 18446744073709551616 % 18446744073709551616) + x27) % 18446744073709551616, (((A % Lm.ord) / 340282366920938463463374607431768211456 % 18446744073709551616) + ((B % Lm.ord) / 340282366920938463463374607431768211456 % 18446744073709551616) + x27_2) % 18446744073709551616, (A % Lm.ord) / 6277101735386680763835789423207666416102355444464034512896 % 18446744073709551616]), .blk bk6_ 36 (ua .u64 [(B % Lm.ord) % 18446744073709551616, (B % Lm.ord) / 18446744073709551616 % 18446744073709551616, (B % Lm.ord) / 340282366920938463463374607431768211456 % 18446744073709551616, (B % Lm.ord) / 6277101735386680763835789423207666416102355444464034512896 % 18446744073709551616]), .blk bk4 23 (ua .u8 [0, 0, 0, 0, 0, 0, 0, 0, 0, 0, 0, 0, 0, 0, 0, 0, 0, 0, 0, 0, 0, 0, 0, 0, 0, 0, 0, 0, 0, 0, 0, 0]), .blk bk3 23 (ua .u8 (Lm.b32 B)), .blk bk2 23 (ua .u8 (Lm.b32 A))], fun _ _ => False, fun vs w => Hp w0 [] w [.blk bk5_ 36 (ua .u64 [(((A % Lm.ord) % 18446744073709551616) + ((B % Lm.ord) % 18446744073709551616) + 0) % 18446744073709551616, (((A % Lm.ord) / 18446744073709551616 % 18446744073709551616) + ((B % Lm.ord) / 18446744073709551616 % 18446744073709551616) + x27) % 18446744073709551616, (((A % Lm.ord) / 340282366920938463463374607431768211456 % 18446744073709551616) + ((B % Lm.ord) / 340282366920938463463374607431768211456 % 18446744073709551616) + x27_2) % 18446744073709551616, (((A % Lm.ord) / 6277101735386680763835789423207666416102355444464034512896 % 18446744073709551616) + ((B % Lm.ord) / 6277101735386680763835789423207666416102355444464034512896 % 18446744073709551616) + x27_3) % 18446744073709551616]), .blk bk6_ 36 (ua .u64 [(B % Lm.ord) % 18446744073709551616, (B % Lm.ord) / 18446744073709551616 % 18446744073709551616, (B % Lm.ord) / 340282366920938463463374607431768211456 % 18446744073709551616, (B % Lm.ord) / 6277101735386680763835789423207666416102355444464034512896 % 18446744073709551616]), .blk bk4 23 (ua .u8 [0, 0, 0, 0, 0, 0, 0, 0, 0, 0, 0, 0, 0, 0, 0, 0, 0, 0, 0, 0, 0, 0, 0, 0, 0, 0, 0, 0, 0, 0, 0, 0]), .blk bk3 23 (ua .u8 (Lm.b32 B)), .blk bk2 23 (ua .u8 (Lm.b32 A))]] T_mixed (by kernel_rfl) ⟨fun _ _ H => ⟨H.get 1 rfl, H.get 2 rfl, H.get 3 rfl, H.get 4 rfl⟩, fun _ _ H => ⟨H.get 1 rfl, H.get 2 rfl, H.get 3 rfl, H.get 4 rfl⟩, fun _ _ h => h.elim, fun _ _ H => ⟨H.get 1 rfl, H.get 2 rfl, H.get 3 rfl, H.get 4 rfl⟩, trivial⟩ ⟨fun _ _ _ hkp H => H.keep hkp, fun _ _ _ hkp H => H.keep hkp, fun _ _ _ _ h => h.elim, fun _ _ _ hkp H => H.keep hkp, trivial⟩ H_10 ?_ ?_
          ·
            refine .plain rfl (Pl_y rfl (fun w hBw => rfl)) ?_
            refine .plain rfl (Pl_y rfl (fun w hBw => rfl)) ?_
            refine .plain rfl (Pl_y rfl (fun w hBw => Y_idxA 3 3 T_arr36 e_5_5 rfl rfl (by decide) (zz1 _))) ?_
            refine .special 0 rfl (Special.ofD ⟨⟨⟨⟨trivial, fun _ _ _ e' w' hAg hYs => by
                have H : Hp w0 [] w' [.blk bk5_ 36 (ua .u64 [(((A % Lm.ord) % 18446744073709551616) + ((B % Lm.ord) % 18446744073709551616) + 0) % 18446744073709551616, (((A % Lm.ord) / 18446744073709551616 % 18446744073709551616) + ((B % Lm.ord) / 18446744073709551616 % 18446744073709551616) + x27) % 18446744073709551616, (((A % Lm.ord) / 340282366920938463463374607431768211456 % 18446744073709551616) + ((B % Lm.ord) / 340282366920938463463374607431768211456 % 18446744073709551616) + x27_2) % 18446744073709551616, (A % Lm.ord) / 6277101735386680763835789423207666416102355444464034512896 % 18446744073709551616]), .blk bk6_ 36 (ua .u64 [(B % Lm.ord) % 18446744073709551616, (B % Lm.ord) / 18446744073709551616 % 18446744073709551616, (B % Lm.ord) / 340282366920938463463374607431768211456 % 18446744073709551616, (B % Lm.ord) / 6277101735386680763835789423207666416102355444464034512896 % 18446744073709551616]), .blk bk4 23 (ua .u8 [0, 0, 0, 0, 0, 0, 0, 0, 0, 0, 0, 0, 0, 0, 0, 0, 0, 0, 0, 0, 0, 0, 0, 0, 0, 0, 0, 0, 0, 0, 0, 0]), .blk bk3 23 (ua .u8 (Lm.b32 B)), .blk bk2 23 (ua .u8 (Lm.b32 A))] := hYs
                exact ⟨rfl, Yl.dn (Y_ld T_scal30 H (i := 0) rfl ((hAg 19 rfl).trans rfl) rfl) ⟨(fun d hd => by cases hd; rfl), H⟩⟩⟩, fun h => absurd h (by decide)⟩, fun _ _ h => absurd (by decide) (h 1 13 rfl (by decide))⟩, fun h => absurd h (by decide)⟩) ?_
            refine .plain rfl (Pl_y rfl (fun w hBw => rfl)) ?_
            refine .plain rfl (Pl_y rfl (fun w hBw => Y_idxA 3 3 T_arr36 e_5_6 rfl rfl (by decide) (zz1 _))) ?_
            refine .plain rfl (Pl_y rfl (fun w hBw => Y_ldb T_scal30 hBw.1 rfl rfl)) ?_
            refine .plain rfl (Pl_y rfl (fun w hBw => congrArg (fun v => Result.ok (Next.value v) w) e_5_27)) ?_
            refine .plain rfl (Pl_y rfl (fun w hBw => Y_add64 (A3 rfl rfl rfl) (a := ((A % Lm.ord) / 6277101735386680763835789423207666416102355444464034512896 % 18446744073709551616)) (b := ((B % Lm.ord) / 6277101735386680763835789423207666416102355444464034512896 % 18446744073709551616)) (c := x27_3) (by omega))) ?_
            refine .plain rfl (Pl_y rfl (fun w hBw => rfl)) ?_
            refine .plain rfl (Pl_y rfl (fun w hBw => Y_ext rfl rfl)) ?_
            refine .plain rfl (Pl_y rfl (fun w hBw => Y_ext rfl rfl)) ?_
            refine .plain rfl (Pl_y rfl (fun w hBw => Y_idxA 3 3 T_arr36 e_5_5 rfl rfl (by decide) (zz1 _))) ?_
            refine .special 1 rfl (Special.of ⟨⟨⟨⟨trivial, fun _ h => absurd (h 0 3 rfl (by decide)) (by decide)⟩, fun _ _ _ e' w' hAg hYs => by
                have H : Hp w0 [] w' [.blk bk5_ 36 (ua .u64 [(((A % Lm.ord) % 18446744073709551616) + ((B % Lm.ord) % 18446744073709551616) + 0) % 18446744073709551616, (((A % Lm.ord) / 18446744073709551616 % 18446744073709551616) + ((B % Lm.ord) / 18446744073709551616 % 18446744073709551616) + x27) % 18446744073709551616, (((A % Lm.ord) / 340282366920938463463374607431768211456 % 18446744073709551616) + ((B % Lm.ord) / 340282366920938463463374607431768211456 % 18446744073709551616) + x27_2) % 18446744073709551616, (A % Lm.ord) / 6277101735386680763835789423207666416102355444464034512896 % 18446744073709551616]), .blk bk6_ 36 (ua .u64 [(B % Lm.ord) % 18446744073709551616, (B % Lm.ord) / 18446744073709551616 % 18446744073709551616, (B % Lm.ord) / 340282366920938463463374607431768211456 % 18446744073709551616, (B % Lm.ord) / 6277101735386680763835789423207666416102355444464034512896 % 18446744073709551616]), .blk bk4 23 (ua .u8 [0, 0, 0, 0, 0, 0, 0, 0, 0, 0, 0, 0, 0, 0, 0, 0, 0, 0, 0, 0, 0, 0, 0, 0, 0, 0, 0, 0, 0, 0, 0, 0]), .blk bk3 23 (ua .u8 (Lm.b32 B)), .blk bk2 23 (ua .u8 (Lm.b32 A))] := hYs
                exact ⟨rfl, Dn_st (v := Value.int .u64 (((((A % Lm.ord) / 6277101735386680763835789423207666416102355444464034512896 % 18446744073709551616) + ((B % Lm.ord) / 6277101735386680763835789423207666416102355444464034512896 % 18446744073709551616) + x27_3) % 18446744073709551616 : Nat) : Int)) T_scal30 H (i := 0) rfl ((hAg 28 rfl).trans rfl) ((hAg 26 rfl).trans rfl) rfl (Nat.le_of_ble_eq_true rfl) (l' := [.blk bk5_ 36 (ua .u64 [(((A % Lm.ord) % 18446744073709551616) + ((B % Lm.ord) % 18446744073709551616) + 0) % 18446744073709551616, (((A % Lm.ord) / 18446744073709551616 % 18446744073709551616) + ((B % Lm.ord) / 18446744073709551616 % 18446744073709551616) + x27) % 18446744073709551616, (((A % Lm.ord) / 340282366920938463463374607431768211456 % 18446744073709551616) + ((B % Lm.ord) / 340282366920938463463374607431768211456 % 18446744073709551616) + x27_2) % 18446744073709551616, (((A % Lm.ord) / 6277101735386680763835789423207666416102355444464034512896 % 18446744073709551616) + ((B % Lm.ord) / 6277101735386680763835789423207666416102355444464034512896 % 18446744073709551616) + x27_3) % 18446744073709551616]), .blk bk6_ 36 (ua .u64 [(B % Lm.ord) % 18446744073709551616, (B % Lm.ord) / 18446744073709551616 % 18446744073709551616, (B % Lm.ord) / 340282366920938463463374607431768211456 % 18446744073709551616, (B % Lm.ord) / 6277101735386680763835789423207666416102355444464034512896 % 18446744073709551616]), .blk bk4 23 (ua .u8 [0, 0, 0, 0, 0, 0, 0, 0, 0, 0, 0, 0, 0, 0, 0, 0, 0, 0, 0, 0, 0, 0, 0, 0, 0, 0, 0, 0, 0, 0, 0, 0]), .blk bk3 23 (ua .u8 (Lm.b32 B)), .blk bk2 23 (ua .u8 (Lm.b32 A))]) (by rw [ua_set]; rfl) (fun w2 Hn => Hn)⟩⟩, fun h => absurd h (by decide)⟩, fun h => absurd h (by decide)⟩) ?_
            exact .nil _
          ·
            intro e_6 w_11 hAg hYs
            have H_11 := hYs
            have e_6_4 : e_6 4 = Value.pointer (some ⟨bk4, 0, none⟩) := (hAg 4 rfl).trans e_5_4
            have e_6_5 : e_6 5 = Value.pointer (some ⟨bk5_, 0, none⟩) := (hAg 5 rfl).trans e_5_5
            have e_6_6 : e_6 6 = Value.pointer (some ⟨bk6_, 0, none⟩) := (hAg 6 rfl).trans e_5_6
            have e_6_13 : e_6 13 = Value.int .i64 ((3 : Nat) : Int) := (hAg 13 rfl).trans rfl
            obtain ⟨x27_4, hx27_4⟩ : ∃ x : Nat, x = (((A % Lm.ord) / 6277101735386680763835789423207666416102355444464034512896 % 18446744073709551616) + ((B % Lm.ord) / 6277101735386680763835789423207666416102355444464034512896 % 18446744073709551616) + x27_3) / 18446744073709551616 := ⟨_, rfl⟩
            have e_6_27 : e_6 27 = Value.int .u64 ((x27_4 : Nat) : Int) := (hAg 27 rfl).trans (by rw [hx27_4]; exact rfl)
            refine L_as rfl ?_
            refine L_nil ?_
            refine InB_n ?_
            refine Th_n ?_
            refine W_rg ?_
            refine L_y rfl (Y_add (k := .i64) (a := ((3 : Nat) : Int)) (b := ((1 : Nat) : Int)) (z := ((4 : Nat) : Int)) e_6_13 rfl (by decide)) ?_
            refine L_mv rfl ?_
            refine L_nil ?_
            refine Th_n ?_
            refine Wr_s ?_
            refine W_seq ?_
            refine W_rg ?_
            refine L_y rfl (Y_lss (k := .i64) (a := ((4 : Nat) : Int)) (b := ((4 : Nat) : Int)) rfl rfl) ?_
            refine L_nil ?_
            refine Th_n ?_
            refine W_seq ?_
            refine W_false (congrArg Value.bool (by decide : (decide (((4 : Nat) : Int) < ((4 : Nat) : Int))) = false)) ?_
            refine W_exit ?_
            refine Th_x ?_
            refine Th_x ?_
            refine InB_hit ?_
            refine Th_n ?_
            refine W_seq ?_
            refine W_rg ?_
            refine L_y rfl (Y_slA T_arr36 e_6_5) ?_
            refine L_callv rfl rfl T_en26 (A1 rfl) ((rest_n 4 4 bk5_ 36 [(((A % Lm.ord) % 18446744073709551616) + ((B % Lm.ord) % 18446744073709551616) + 0) % 18446744073709551616, (((A % Lm.ord) / 18446744073709551616 % 18446744073709551616) + ((B % Lm.ord) / 18446744073709551616 % 18446744073709551616) + x27) % 18446744073709551616, (((A % Lm.ord) / 340282366920938463463374607431768211456 % 18446744073709551616) + ((B % Lm.ord) / 340282366920938463463374607431768211456 % 18446744073709551616) + x27_2) % 18446744073709551616, (((A % Lm.ord) / 6277101735386680763835789423207666416102355444464034512896 % 18446744073709551616) + ((B % Lm.ord) / 6277101735386680763835789423207666416102355444464034512896 % 18446744073709551616) + x27_3) % 18446744073709551616] (Wd.of4 (Nat.mod_lt _ (by decide)) (Nat.mod_lt _ (by decide)) (Nat.mod_lt _ (by decide)) (Nat.mod_lt _ (by decide))) (by decide) _ (H_11.get 0 rfl)).mono (fun r_ w' h => (⟨Lm.wv [(((A % Lm.ord) % 18446744073709551616) + ((B % Lm.ord) % 18446744073709551616) + 0) % 18446744073709551616, (((A % Lm.ord) / 18446744073709551616 % 18446744073709551616) + ((B % Lm.ord) / 18446744073709551616 % 18446744073709551616) + x27) % 18446744073709551616, (((A % Lm.ord) / 340282366920938463463374607431768211456 % 18446744073709551616) + ((B % Lm.ord) / 340282366920938463463374607431768211456 % 18446744073709551616) + x27_2) % 18446744073709551616, (((A % Lm.ord) / 6277101735386680763835789423207666416102355444464034512896 % 18446744073709551616) + ((B % Lm.ord) / 6277101735386680763835789423207666416102355444464034512896 % 18446744073709551616) + x27_3) % 18446744073709551616] % Lm.ord, rfl, h⟩ : ∃ (N31 : Nat), N31 = Lm.wv [(((A % Lm.ord) % 18446744073709551616) + ((B % Lm.ord) % 18446744073709551616) + 0) % 18446744073709551616, (((A % Lm.ord) / 18446744073709551616 % 18446744073709551616) + ((B % Lm.ord) / 18446744073709551616 % 18446744073709551616) + x27) % 18446744073709551616, (((A % Lm.ord) / 340282366920938463463374607431768211456 % 18446744073709551616) + ((B % Lm.ord) / 340282366920938463463374607431768211456 % 18446744073709551616) + x27_2) % 18446744073709551616, (((A % Lm.ord) / 6277101735386680763835789423207666416102355444464034512896 % 18446744073709551616) + ((B % Lm.ord) / 6277101735386680763835789423207666416102355444464034512896 % 18446744073709551616) + x27_3) % 18446744073709551616] % Lm.ord ∧ r_ = .returned (Value.agg (ua .u64 (Lm.w4 N31))) ∧ Keep w_11 w'))) ?_
            rintro _ w_12 ⟨N31, hN31, rfl, hkp⟩; refine ⟨_, rfl, ?_⟩; have H_12 := H_11.keep hkp
            refine L_callv rfl rfl T_en27 (A1 rfl) (scalar_n N31 _) ?_
            rintro _ w_13 ⟨rfl, hkp_2⟩; refine ⟨_, rfl, ?_⟩; have H_13 := H_12.keep hkp_2
            refine L_str (ds := ua .u8 (Lm.b32 N31)) T_row23 H_13 (i := 2) rfl e_6_4 rfl rfl (by rw [ua_size]; exact (b32_wd N31).1) (ua_one _ _) (l' := [.blk bk5_ 36 (ua .u64 [(((A % Lm.ord) % 18446744073709551616) + ((B % Lm.ord) % 18446744073709551616) + 0) % 18446744073709551616, (((A % Lm.ord) / 18446744073709551616 % 18446744073709551616) + ((B % Lm.ord) / 18446744073709551616 % 18446744073709551616) + x27) % 18446744073709551616, (((A % Lm.ord) / 340282366920938463463374607431768211456 % 18446744073709551616) + ((B % Lm.ord) / 340282366920938463463374607431768211456 % 18446744073709551616) + x27_2) % 18446744073709551616, (((A % Lm.ord) / 6277101735386680763835789423207666416102355444464034512896 % 18446744073709551616) + ((B % Lm.ord) / 6277101735386680763835789423207666416102355444464034512896 % 18446744073709551616) + x27_3) % 18446744073709551616]), .blk bk6_ 36 (ua .u64 [(B % Lm.ord) % 18446744073709551616, (B % Lm.ord) / 18446744073709551616 % 18446744073709551616, (B % Lm.ord) / 340282366920938463463374607431768211456 % 18446744073709551616, (B % Lm.ord) / 6277101735386680763835789423207666416102355444464034512896 % 18446744073709551616]), .blk bk4 23 (ua .u8 (Lm.b32 N31)), .blk bk3 23 (ua .u8 (Lm.b32 B)), .blk bk2 23 (ua .u8 (Lm.b32 A))]) rfl ?_; intro w_14 H_14
            refine L_nil ?_
            refine Th_n ?_
            refine W_ret ?_
            refine P_ret (vs := [Value.agg (ua .u8 (Lm.b32 N31))]) (v := Value.agg (ua .u8 (Lm.b32 N31))) rfl (.cell e_6_4 (loadVar_row T_row23 H_14 (i := 2) rfl (by rw [ua_size]; exact (b32_wd N31).1)) (Res.nil)) rfl ?_
            refine ⟨?_, H_14.nil_⟩
            rw [hN31, Lm.plus_sum rfl hx27 rfl hx27_2 rfl hx27_3 rfl]

theorem minus_n (A B : Nat) (hA : A < 115792089237316195423570985008687907853269984665640564039457584007913129639936) (hB : B < 115792089237316195423570985008687907853269984665640564039457584007913129639936) (w0 : World) :
    Calls Try.prog 15 #[Value.agg (ua .u8 (Lm.b32 A)), Value.agg (ua .u8 (Lm.b32 B))] w0 (fun r_ w' => r_ = .returned (.agg (ua .u8 (Lm.b32 ((A % Lm.ord + (Lm.ord - B % Lm.ord) % Lm.ord) % Lm.ord)))) ∧ Keep w0 w') := by
  refine F_in Try.func15 rfl Try.ntmps15 rfl ?_
  intro e he
  have p_0 : e 0 = Value.agg (ua .u8 (Lm.b32 A)) := he 0 _ rfl
  have p_1 : e 1 = Value.agg (ua .u8 (Lm.b32 B)) := he 1 _ rfl
  have H := Hp.start w0 []
  refine W_seq ?_
  refine W_rg ?_
  refine L_box rfl H p_0 (cs := ua .u8 (Lm.b32 A)) rfl ?_; intro bk2 w_2 H_2
  refine L_box rfl H_2 p_1 (cs := ua .u8 (Lm.b32 B)) rfl ?_; intro bk3 w_3 H_3
  refine L_alloc rfl H_3 T_zero23 ?_; intro bk4 w_4 H_4
  refine L_nil ?_
  refine Th_n ?_
  refine W_seq ?_
  refine W_anyL 9 [7, 8] [5] [Value.agg (ua .u64 (Lm.w4 Lm.ord)), Value.agg (ua .u8 (Lm.b32 B)), Value.agg (ua .u64 (Lm.w4 (B % Lm.ord))), Value.tuple #[Value.agg (ua .u64 (Lm.w4 ((Lm.wv (Lm.w4 Lm.ord) + (115792089237316195423570985008687907853269984665640564039457584007913129639936 - Lm.wv (Lm.w4 (B % Lm.ord)))) % 115792089237316195423570985008687907853269984665640564039457584007913129639936))), Value.int .u64 (((if Lm.wv (Lm.w4 Lm.ord) < Lm.wv (Lm.w4 (B % Lm.ord)) then 1 else 0) : Nat) : Int)], Value.tuple #[Value.agg (ua .u64 (Lm.w4 ((Lm.wv (Lm.w4 Lm.ord) + (115792089237316195423570985008687907853269984665640564039457584007913129639936 - Lm.wv (Lm.w4 (B % Lm.ord)))) % 115792089237316195423570985008687907853269984665640564039457584007913129639936))), Value.int .u64 (((if Lm.wv (Lm.w4 Lm.ord) < Lm.wv (Lm.w4 (B % Lm.ord)) then 1 else 0) : Nat) : Int)], Value.agg (ua .u64 (Lm.w4 ((Lm.wv (Lm.w4 Lm.ord) + (115792089237316195423570985008687907853269984665640564039457584007913129639936 - Lm.wv (Lm.w4 (B % Lm.ord)))) % 115792089237316195423570985008687907853269984665640564039457584007913129639936))), Value.int .u64 (((if Lm.wv (Lm.w4 Lm.ord) < Lm.wv (Lm.w4 (B % Lm.ord)) then 1 else 0) : Nat) : Int), undef, undef] (fun w => w.heap[bk4]? = some (.cells (ua .u8 [0, 0, 0, 0, 0, 0, 0, 0, 0, 0, 0, 0, 0, 0, 0, 0, 0, 0, 0, 0, 0, 0, 0, 0, 0, 0, 0, 0, 0, 0, 0, 0]) 23 (0, 0)) ∧ w.heap[bk3]? = some (.cells (ua .u8 (Lm.b32 B)) 23 (0, 0)) ∧ w.heap[bk2]? = some (.cells (ua .u8 (Lm.b32 A)) 23 (0, 0))) [fun vs w => Hp w0 [] w [.blk bk4 23 (ua .u8 [0, 0, 0, 0, 0, 0, 0, 0, 0, 0, 0, 0, 0, 0, 0, 0, 0, 0, 0, 0, 0, 0, 0, 0, 0, 0, 0, 0, 0, 0, 0, 0]), .blk bk3 23 (ua .u8 (Lm.b32 B)), .blk bk2 23 (ua .u8 (Lm.b32 A))], fun vs w => ∃ bk5_, vs[0]? = some (Value.pointer (some ⟨bk5_, 0, none⟩)) ∧ Hp w0 [] w [Ent.blk bk5_ 36 (ua .u64 [0, 0, 0, 0]), .blk bk4 23 (ua .u8 [0, 0, 0, 0, 0, 0, 0, 0, 0, 0, 0, 0, 0, 0, 0, 0, 0, 0, 0, 0, 0, 0, 0, 0, 0, 0, 0, 0, 0, 0, 0, 0]), .blk bk3 23 (ua .u8 (Lm.b32 B)), .blk bk2 23 (ua .u8 (Lm.b32 A))], fun _ _ => False, fun vs w => ∃ bk5_, vs[0]? = some (Value.pointer (some ⟨bk5_, 0, none⟩)) ∧ Hp w0 [] w [Ent.blk bk5_ 36 (ua .u64 (Lm.w4 ((Lm.wv (Lm.w4 Lm.ord) + (115792089237316195423570985008687907853269984665640564039457584007913129639936 - Lm.wv (Lm.w4 (B % Lm.ord)))) % 115792089237316195423570985008687907853269984665640564039457584007913129639936))), .blk bk4 23 (ua .u8 [0, 0, 0, 0, 0, 0, 0, 0, 0, 0, 0, 0, 0, 0, 0, 0, 0, 0, 0, 0, 0, 0, 0, 0, 0, 0, 0, 0, 0, 0, 0, 0]), .blk bk3 23 (ua .u8 (Lm.b32 B)), .blk bk2 23 (ua .u8 (Lm.b32 A))]] T_mixed (by kernel_rfl) ⟨fun _ _ H => ⟨H.get 0 rfl, H.get 1 rfl, H.get 2 rfl⟩, fun _ _ h => by obtain ⟨_, _, H⟩ := h; exact ⟨H.get 1 rfl, H.get 2 rfl, H.get 3 rfl⟩, fun _ _ h => h.elim, fun _ _ h => by obtain ⟨_, _, H⟩ := h; exact ⟨H.get 1 rfl, H.get 2 rfl, H.get 3 rfl⟩, trivial⟩ ⟨fun _ _ _ hkp H => H.keep hkp, fun _ _ _ hkp h => by obtain ⟨q0, q1, H⟩ := h; exact ⟨q0, q1, H.keep hkp⟩, fun _ _ _ _ h => h.elim, fun _ _ _ hkp h => by obtain ⟨q0, q1, H⟩ := h; exact ⟨q0, q1, H.keep hkp⟩, trivial⟩ H_4 ?_ ?_
  ·
    refine .plain rfl (Pl_c rfl T_en30 (A0) (fun w hBw => order_n _)) ?_
    refine .plain rfl (Pl_y rfl (fun w hBw => Y_ldrb T_row23 hBw.2.1 rfl (by rw [ua_size]; exact (b32_wd B).1))) ?_
    refine .plain rfl (Pl_c rfl T_en23 (A1 rfl) (fun w hBw => canon_n B hB _)) ?_
    refine .plain rfl (Pl_c rfl T_en31 (A2 rfl rfl) (fun w hBw => less_spec (Lm.w4 Lm.ord) (w4_wd Lm.ord) (Lm.w4 (B % Lm.ord)) (w4_wd (B % Lm.ord)) _)) ?_
    refine .plain rfl (Pl_y rfl (fun w hBw => rfl)) ?_
    refine .plain rfl (Pl_y rfl (fun w hBw => Y_ext rfl rfl)) ?_
    refine .plain rfl (Pl_y rfl (fun w hBw => Y_ext rfl rfl)) ?_
    refine .special 0 rfl (Special.of ⟨⟨⟨⟨trivial, fun _ _ _ e' w' hAg hYs => by
        have H : Hp w0 [] w' [.blk bk4 23 (ua .u8 [0, 0, 0, 0, 0, 0, 0, 0, 0, 0, 0, 0, 0, 0, 0, 0, 0, 0, 0, 0, 0, 0, 0, 0, 0, 0, 0, 0, 0, 0, 0, 0]), .blk bk3 23 (ua .u8 (Lm.b32 B)), .blk bk2 23 (ua .u8 (Lm.b32 A))] := hYs
        exact ⟨rfl, Dn_alloc H T_zero36 (fun b w2 Hn => ⟨_, rfl, Hn⟩)⟩⟩, fun h => absurd h (by decide)⟩, fun _ _ h => absurd (by decide) (h 1 8 rfl (by decide))⟩, fun h => absurd h (by decide)⟩) ?_
    refine .special 1 rfl (Special.of ⟨⟨⟨⟨trivial, fun _ h => absurd (h 0 7 rfl (by decide)) (by decide)⟩, fun _ _ _ e' w' hAg hYs => by
        obtain ⟨bk5_, q0, H⟩ := hYs
        exact ⟨rfl, Dn_str (ds := ua .u64 (Lm.w4 ((Lm.wv (Lm.w4 Lm.ord) + (115792089237316195423570985008687907853269984665640564039457584007913129639936 - Lm.wv (Lm.w4 (B % Lm.ord)))) % 115792089237316195423570985008687907853269984665640564039457584007913129639936))) T_row36 H (i := 0) rfl (Option.some.inj q0) ((hAg 12 rfl).trans rfl) rfl (by rw [ua_size]; exact (w4_wd ((Lm.wv (Lm.w4 Lm.ord) + (115792089237316195423570985008687907853269984665640564039457584007913129639936 - Lm.wv (Lm.w4 (B % Lm.ord)))) % 115792089237316195423570985008687907853269984665640564039457584007913129639936)).1) (ua_one _ _) (l' := [Ent.blk bk5_ 36 (ua .u64 (Lm.w4 ((Lm.wv (Lm.w4 Lm.ord) + (115792089237316195423570985008687907853269984665640564039457584007913129639936 - Lm.wv (Lm.w4 (B % Lm.ord)))) % 115792089237316195423570985008687907853269984665640564039457584007913129639936))), .blk bk4 23 (ua .u8 [0, 0, 0, 0, 0, 0, 0, 0, 0, 0, 0, 0, 0, 0, 0, 0, 0, 0, 0, 0, 0, 0, 0, 0, 0, 0, 0, 0, 0, 0, 0, 0]), .blk bk3 23 (ua .u8 (Lm.b32 B)), .blk bk2 23 (ua .u8 (Lm.b32 A))]) rfl (fun w2 Hn => ⟨bk5_, q0, Hn⟩)⟩⟩, fun h => absurd h (by decide)⟩, fun h => absurd h (by decide)⟩) ?_
    exact .nil _
  ·
    intro e_2 w_5 hAg hYs
    obtain ⟨bk5_, q0, H_5⟩ := hYs
    have e_2_5 : e_2 5 = Value.pointer (some ⟨bk5_, 0, none⟩) := Option.some.inj q0
    have e_2_2 : e_2 2 = Value.pointer (some ⟨bk2, 0, none⟩) := (hAg 2 rfl).trans rfl
    have e_2_4 : e_2 4 = Value.pointer (some ⟨bk4, 0, none⟩) := (hAg 4 rfl).trans rfl
    obtain ⟨x13, hx13⟩ : ∃ x : Nat, x = (if Lm.wv (Lm.w4 Lm.ord) < Lm.wv (Lm.w4 (B % Lm.ord)) then 1 else 0) := ⟨_, rfl⟩
    have e_2_13 : e_2 13 = Value.int .u64 ((x13 : Nat) : Int) := (hAg 13 rfl).trans (by rw [hx13]; exact rfl)
    refine L_as rfl ?_
    refine L_nil ?_
    refine Th_n ?_
    refine W_seq ?_
    refine W_quiet H_5 3 [Value.agg (ua .u8 (Lm.b32 A)), Value.agg (ua .u64 (Lm.w4 ((Lm.wv (Lm.w4 Lm.ord) + (115792089237316195423570985008687907853269984665640564039457584007913129639936 - Lm.wv (Lm.w4 (B % Lm.ord)))) % 115792089237316195423570985008687907853269984665640564039457584007913129639936))), Value.agg (ua .u8 (Lm.b32 ((Lm.wv (Lm.w4 Lm.ord) + (115792089237316195423570985008687907853269984665640564039457584007913129639936 - Lm.wv (Lm.w4 (B % Lm.ord)))) % 115792089237316195423570985008687907853269984665640564039457584007913129639936)))] T_mixed (by kernel_rfl) ?_ ?_
    ·
      refine .plain rfl (Pl_y rfl (fun w hBw => Y_ldr T_row23 hBw (i := 3) rfl e_2_2 (by rw [ua_size]; exact (b32_wd A).1))) ?_
      refine .plain rfl (Pl_y rfl (fun w hBw => Y_ldr T_row36 hBw (i := 0) rfl e_2_5 (by rw [ua_size]; exact (w4_wd ((Lm.wv (Lm.w4 Lm.ord) + (115792089237316195423570985008687907853269984665640564039457584007913129639936 - Lm.wv (Lm.w4 (B % Lm.ord)))) % 115792089237316195423570985008687907853269984665640564039457584007913129639936)).1))) ?_
      refine .plain rfl (Pl_c rfl T_en27 (A1 rfl) (fun w hBw => scalar_n ((Lm.wv (Lm.w4 Lm.ord) + (115792089237316195423570985008687907853269984665640564039457584007913129639936 - Lm.wv (Lm.w4 (B % Lm.ord)))) % 115792089237316195423570985008687907853269984665640564039457584007913129639936) _)) ?_
      exact .nil _
    ·
      intro e_3 w_6 hAg H_6
      have e_3_4 : e_3 4 = Value.pointer (some ⟨bk4, 0, none⟩) := (hAg 4 rfl).trans e_2_4
      have e_3_14 : e_3 14 = Value.agg (ua .u8 (Lm.b32 A)) := (hAg 14 rfl).trans rfl
      have e_3_16 : e_3 16 = Value.agg (ua .u8 (Lm.b32 ((Lm.wv (Lm.w4 Lm.ord) + (115792089237316195423570985008687907853269984665640564039457584007913129639936 - Lm.wv (Lm.w4 (B % Lm.ord)))) % 115792089237316195423570985008687907853269984665640564039457584007913129639936))) := (hAg 16 rfl).trans rfl
      refine L_callv rfl rfl T_en13 (A2 e_3_14 e_3_16) ((plus_n A ((Lm.wv (Lm.w4 Lm.ord) + (115792089237316195423570985008687907853269984665640564039457584007913129639936 - Lm.wv (Lm.w4 (B % Lm.ord)))) % 115792089237316195423570985008687907853269984665640564039457584007913129639936) hA (Nat.mod_lt _ (by decide)) _).mono (fun r_ w' h => (⟨(A % Lm.ord + ((Lm.wv (Lm.w4 Lm.ord) + (115792089237316195423570985008687907853269984665640564039457584007913129639936 - Lm.wv (Lm.w4 (B % Lm.ord)))) % 115792089237316195423570985008687907853269984665640564039457584007913129639936) % Lm.ord) % Lm.ord, rfl, h⟩ : ∃ (N17 : Nat), N17 = (A % Lm.ord + ((Lm.wv (Lm.w4 Lm.ord) + (115792089237316195423570985008687907853269984665640564039457584007913129639936 - Lm.wv (Lm.w4 (B % Lm.ord)))) % 115792089237316195423570985008687907853269984665640564039457584007913129639936) % Lm.ord) % Lm.ord ∧ r_ = .returned (Value.agg (ua .u8 (Lm.b32 N17))) ∧ Keep w_6 w'))) ?_
      rintro _ w_7 ⟨N17, hN17, rfl, hkp⟩; refine ⟨_, rfl, ?_⟩; have H_7 := H_6.keep hkp
      refine L_str (ds := ua .u8 (Lm.b32 N17)) T_row23 H_7 (i := 1) rfl e_3_4 rfl rfl (by rw [ua_size]; exact (b32_wd N17).1) (ua_one _ _) (l' := [.blk bk5_ 36 (ua .u64 (Lm.w4 ((Lm.wv (Lm.w4 Lm.ord) + (115792089237316195423570985008687907853269984665640564039457584007913129639936 - Lm.wv (Lm.w4 (B % Lm.ord)))) % 115792089237316195423570985008687907853269984665640564039457584007913129639936))), .blk bk4 23 (ua .u8 (Lm.b32 N17)), .blk bk3 23 (ua .u8 (Lm.b32 B)), .blk bk2 23 (ua .u8 (Lm.b32 A))]) rfl ?_; intro w_8 H_8
      refine L_nil ?_
      refine Th_n ?_
      refine W_ret ?_
      refine P_ret (vs := [Value.agg (ua .u8 (Lm.b32 N17))]) (v := Value.agg (ua .u8 (Lm.b32 N17))) rfl (.cell e_3_4 (loadVar_row T_row23 H_8 (i := 1) rfl (by rw [ua_size]; exact (b32_wd N17).1)) (Res.nil)) rfl ?_
      refine ⟨?_, H_8.nil_⟩
      rw [hN17, Lm.minus_o]

set_option maxRecDepth 100000 in
theorem times_n (A B : Nat) (hA : A < 115792089237316195423570985008687907853269984665640564039457584007913129639936) (hB : B < 115792089237316195423570985008687907853269984665640564039457584007913129639936) (w0 : World) :
    Calls Try.prog 8 #[Value.agg (ua .u8 (Lm.b32 A)), Value.agg (ua .u8 (Lm.b32 B))] w0 (fun r_ w' => r_ = .returned (.agg (ua .u8 (Lm.b32 (A * B % Lm.ord)))) ∧ Keep w0 w') := by
  refine F_in Try.func8 rfl Try.ntmps8 rfl ?_
  intro e he
  have p_0 : e 0 = Value.agg (ua .u8 (Lm.b32 A)) := he 0 _ rfl
  have p_1 : e 1 = Value.agg (ua .u8 (Lm.b32 B)) := he 1 _ rfl
  have H := Hp.start w0 []
  refine W_seq ?_
  refine W_rg ?_
  refine L_box rfl H p_0 (cs := ua .u8 (Lm.b32 A)) rfl ?_; intro bk2 w_2 H_2
  refine L_box rfl H_2 p_1 (cs := ua .u8 (Lm.b32 B)) rfl ?_; intro bk3 w_3 H_3
  refine L_alloc rfl H_3 T_zero23 ?_; intro bk4 w_4 H_4
  refine L_nil ?_
  refine Th_n ?_
  refine W_seq ?_
  refine W_anyL 6 [4, 5] [5, 6] [Value.agg (ua .u8 (Lm.b32 A)), Value.agg (ua .u64 (Lm.w4 (A % Lm.ord))), Value.agg (ua .u8 (Lm.b32 B)), Value.agg (ua .u64 (Lm.w4 (B % Lm.ord))), undef, undef] (fun w => w.heap[bk4]? = some (.cells (ua .u8 [0, 0, 0, 0, 0, 0, 0, 0, 0, 0, 0, 0, 0, 0, 0, 0, 0, 0, 0, 0, 0, 0, 0, 0, 0, 0, 0, 0, 0, 0, 0, 0]) 23 (0, 0)) ∧ w.heap[bk3]? = some (.cells (ua .u8 (Lm.b32 B)) 23 (0, 0)) ∧ w.heap[bk2]? = some (.cells (ua .u8 (Lm.b32 A)) 23 (0, 0))) [fun vs w => Hp w0 [] w [.blk bk4 23 (ua .u8 [0, 0, 0, 0, 0, 0, 0, 0, 0, 0, 0, 0, 0, 0, 0, 0, 0, 0, 0, 0, 0, 0, 0, 0, 0, 0, 0, 0, 0, 0, 0, 0]), .blk bk3 23 (ua .u8 (Lm.b32 B)), .blk bk2 23 (ua .u8 (Lm.b32 A))], fun vs w => ∃ bk5_, vs[0]? = some (Value.pointer (some ⟨bk5_, 0, none⟩)) ∧ Hp w0 [] w [Ent.blk bk5_ 36 (ua .u64 [0, 0, 0, 0]), .blk bk4 23 (ua .u8 [0, 0, 0, 0, 0, 0, 0, 0, 0, 0, 0, 0, 0, 0, 0, 0, 0, 0, 0, 0, 0, 0, 0, 0, 0, 0, 0, 0, 0, 0, 0, 0]), .blk bk3 23 (ua .u8 (Lm.b32 B)), .blk bk2 23 (ua .u8 (Lm.b32 A))], fun vs w => ∃ bk6_, vs[1]? = some (Value.pointer (some ⟨bk6_, 0, none⟩)) ∧ Hp w0 [] w [Ent.blk bk6_ 36 (ua .u64 [0, 0, 0, 0]), .blk bk4 23 (ua .u8 [0, 0, 0, 0, 0, 0, 0, 0, 0, 0, 0, 0, 0, 0, 0, 0, 0, 0, 0, 0, 0, 0, 0, 0, 0, 0, 0, 0, 0, 0, 0, 0]), .blk bk3 23 (ua .u8 (Lm.b32 B)), .blk bk2 23 (ua .u8 (Lm.b32 A))], fun vs w => ∃ bk5_, ∃ bk6_, vs[0]? = some (Value.pointer (some ⟨bk5_, 0, none⟩)) ∧ vs[1]? = some (Value.pointer (some ⟨bk6_, 0, none⟩)) ∧ Hp w0 [] w [Ent.blk bk5_ 36 (ua .u64 [0, 0, 0, 0]), Ent.blk bk6_ 36 (ua .u64 [0, 0, 0, 0]), .blk bk4 23 (ua .u8 [0, 0, 0, 0, 0, 0, 0, 0, 0, 0, 0, 0, 0, 0, 0, 0, 0, 0, 0, 0, 0, 0, 0, 0, 0, 0, 0, 0, 0, 0, 0, 0]), .blk bk3 23 (ua .u8 (Lm.b32 B)), .blk bk2 23 (ua .u8 (Lm.b32 A))]] T_mixed (by kernel_rfl) ⟨fun _ _ H => ⟨H.get 0 rfl, H.get 1 rfl, H.get 2 rfl⟩, fun _ _ h => by obtain ⟨_, _, H⟩ := h; exact ⟨H.get 1 rfl, H.get 2 rfl, H.get 3 rfl⟩, fun _ _ h => by obtain ⟨_, _, H⟩ := h; exact ⟨H.get 1 rfl, H.get 2 rfl, H.get 3 rfl⟩, fun _ _ h => by obtain ⟨_, _, _, _, H⟩ := h; exact ⟨H.get 2 rfl, H.get 3 rfl, H.get 4 rfl⟩, trivial⟩ ⟨fun _ _ _ hkp H => H.keep hkp, fun _ _ _ hkp h => by obtain ⟨q0, q1, H⟩ := h; exact ⟨q0, q1, H.keep hkp⟩, fun _ _ _ hkp h => by obtain ⟨q0, q1, H⟩ := h; exact ⟨q0, q1, H.keep hkp⟩, fun _ _ _ hkp h => by obtain ⟨q0, q1, q2, q3, H⟩ := h; exact ⟨q0, q1, q2, q3, H.keep hkp⟩, trivial⟩ H_4 ?_ ?_
  ·
    refine .plain rfl (Pl_y rfl (fun w hBw => Y_ldrb T_row23 hBw.2.2 rfl (by rw [ua_size]; exact (b32_wd A).1))) ?_
    refine .plain rfl (Pl_c rfl T_en23 (A1 rfl) (fun w hBw => canon_n A hA _)) ?_
    refine .plain rfl (Pl_y rfl (fun w hBw => Y_ldrb T_row23 hBw.2.1 rfl (by rw [ua_size]; exact (b32_wd B).1))) ?_
    refine .plain rfl (Pl_c rfl T_en23 (A1 rfl) (fun w hBw => canon_n B hB _)) ?_
    refine .special 0 rfl (Special.of ⟨⟨⟨⟨trivial, fun _ _ _ e' w' hAg hYs => by
        have H : Hp w0 [] w' [.blk bk4 23 (ua .u8 [0, 0, 0, 0, 0, 0, 0, 0, 0, 0, 0, 0, 0, 0, 0, 0, 0, 0, 0, 0, 0, 0, 0, 0, 0, 0, 0, 0, 0, 0, 0, 0]), .blk bk3 23 (ua .u8 (Lm.b32 B)), .blk bk2 23 (ua .u8 (Lm.b32 A))] := hYs
        exact ⟨rfl, Dn_alloc H T_zero36 (fun b w2 Hn => ⟨_, rfl, Hn⟩)⟩⟩, fun h => absurd h (by decide)⟩, fun _ _ _ e' w' hAg hYs => by
        obtain ⟨bk6_, q1, H⟩ := hYs
        exact ⟨rfl, Dn_alloc H T_zero36 (fun b w2 Hn => ⟨_, bk6_, rfl, q1, Hn⟩)⟩⟩, fun h => absurd h (by decide)⟩) ?_
    refine .special 1 rfl (Special.of ⟨⟨⟨⟨trivial, fun _ _ _ e' w' hAg hYs => by
        have H : Hp w0 [] w' [.blk bk4 23 (ua .u8 [0, 0, 0, 0, 0, 0, 0, 0, 0, 0, 0, 0, 0, 0, 0, 0, 0, 0, 0, 0, 0, 0, 0, 0, 0, 0, 0, 0, 0, 0, 0, 0]), .blk bk3 23 (ua .u8 (Lm.b32 B)), .blk bk2 23 (ua .u8 (Lm.b32 A))] := hYs
        exact ⟨rfl, Dn_alloc H T_zero36 (fun b w2 Hn => ⟨_, rfl, Hn⟩)⟩⟩, fun _ _ _ e' w' hAg hYs => by
        obtain ⟨bk5_, q0, H⟩ := hYs
        exact ⟨rfl, Dn_alloc H T_zero36 (fun b w2 Hn => ⟨bk5_, _, q0, rfl, Hn.swap⟩)⟩⟩, fun h => absurd h (by decide)⟩, fun h => absurd h (by decide)⟩) ?_
    exact .nil _
  ·
    intro e_2 w_5 hAg hYs
    obtain ⟨bk5_, bk6_, q0, q1, H_5⟩ := hYs
    have e_2_5 : e_2 5 = Value.pointer (some ⟨bk5_, 0, none⟩) := Option.some.inj q0
    have e_2_6 : e_2 6 = Value.pointer (some ⟨bk6_, 0, none⟩) := Option.some.inj q1
    have e_2_4 : e_2 4 = Value.pointer (some ⟨bk4, 0, none⟩) := (hAg 4 rfl).trans rfl
    have e_2_15 : e_2 15 = Value.agg (ua .u64 (Lm.w4 (A % Lm.ord))) := (hAg 15 rfl).trans rfl
    have e_2_17 : e_2 17 = Value.agg (ua .u64 (Lm.w4 (B % Lm.ord))) := (hAg 17 rfl).trans rfl
    refine L_str (ds := ua .u64 (Lm.w4 (A % Lm.ord))) T_row36 H_5 (i := 0) rfl e_2_5 e_2_15 rfl (by rw [ua_size]; exact (w4_wd (A % Lm.ord)).1) (ua_one _ _) (l' := [.blk bk5_ 36 (ua .u64 (Lm.w4 (A % Lm.ord))), .blk bk6_ 36 (ua .u64 [0, 0, 0, 0]), .blk bk4 23 (ua .u8 [0, 0, 0, 0, 0, 0, 0, 0, 0, 0, 0, 0, 0, 0, 0, 0, 0, 0, 0, 0, 0, 0, 0, 0, 0, 0, 0, 0, 0, 0, 0, 0]), .blk bk3 23 (ua .u8 (Lm.b32 B)), .blk bk2 23 (ua .u8 (Lm.b32 A))]) rfl ?_; intro w_6 H_6
    refine L_str (ds := ua .u64 (Lm.w4 (B % Lm.ord))) T_row36 H_6 (i := 1) rfl e_2_6 e_2_17 rfl (by rw [ua_size]; exact (w4_wd (B % Lm.ord)).1) (ua_one _ _) (l' := [.blk bk5_ 36 (ua .u64 (Lm.w4 (A % Lm.ord))), .blk bk6_ 36 (ua .u64 (Lm.w4 (B % Lm.ord))), .blk bk4 23 (ua .u8 [0, 0, 0, 0, 0, 0, 0, 0, 0, 0, 0, 0, 0, 0, 0, 0, 0, 0, 0, 0, 0, 0, 0, 0, 0, 0, 0, 0, 0, 0, 0, 0]), .blk bk3 23 (ua .u8 (Lm.b32 B)), .blk bk2 23 (ua .u8 (Lm.b32 A))]) rfl ?_; intro w_7 H_7
    refine L_nil ?_
    refine Th_n ?_
    refine W_seq ?_
    refine W_rg ?_
    refine L_mk rfl H_7 T_sl38 T_zero30 T_szb30 rfl rfl (Nat.le_refl _) (by decide) (by decide) ?_; intro bk18 w_8 H_8
    have H_9 : Hp w0 [] w_8 [Ent.blk bk18 30 (ua .u64 [0, 0, 0, 0, 0, 0, 0, 0]), .blk bk5_ 36 (ua .u64 (Lm.w4 (A % Lm.ord))), .blk bk6_ 36 (ua .u64 (Lm.w4 (B % Lm.ord))), .blk bk4 23 (ua .u8 [0, 0, 0, 0, 0, 0, 0, 0, 0, 0, 0, 0, 0, 0, 0, 0, 0, 0, 0, 0, 0, 0, 0, 0, 0, 0, 0, 0, 0, 0, 0, 0]), .blk bk3 23 (ua .u8 (Lm.b32 B)), .blk bk2 23 (ua .u8 (Lm.b32 A))] := by have h := H_8; rw [show ua .u64 [0] = #[.int .u64 0] from rfl, made_ua] at h; exact h
    refine L_as rfl ?_
    refine L_nil ?_
    refine Th_n ?_
    refine W_seq ?_
    refine W_seq ?_
    refine W_rg ?_
    refine L_mv rfl ?_
    refine L_nil ?_
    refine Th_n ?_
    refine W_block ?_
    refine W_loop (fun mu_ e w => ∃ i : Nat, ∃ l : List Nat, mu_ = 4 - i ∧ e 4 = Value.pointer (some ⟨bk4, 0, none⟩) ∧ e 5 = Value.pointer (some ⟨bk5_, 0, none⟩) ∧ e 6 = Value.pointer (some ⟨bk6_, 0, none⟩) ∧ e 7 = Value.slice (some ⟨bk18, 0, none⟩) 8 8 ∧ e 19 = Value.int .i64 ((i : Nat) : Int) ∧ Hp w0 [] w [.blk bk18 30 (ua .u64 l), .blk bk5_ 36 (ua .u64 (Lm.w4 (A % Lm.ord))), .blk bk6_ 36 (ua .u64 (Lm.w4 (B % Lm.ord))), .blk bk4 23 (ua .u8 [0, 0, 0, 0, 0, 0, 0, 0, 0, 0, 0, 0, 0, 0, 0, 0, 0, 0, 0, 0, 0, 0, 0, 0, 0, 0, 0, 0, 0, 0, 0, 0]), .blk bk3 23 (ua .u8 (Lm.b32 B)), .blk bk2 23 (ua .u8 (Lm.b32 A))] ∧ i ≤ 4 ∧ Wd 8 18446744073709551616 l ∧ Lm.wv l = Lm.wv ((Lm.w4 (A % Lm.ord)).take i) * Lm.wv (Lm.w4 (B % Lm.ord))) _ ⟨0, [0, 0, 0, 0, 0, 0, 0, 0], rfl, e_2_4, e_2_5, e_2_6, rfl, rfl, H_9, (by decide), ⟨rfl, by decide⟩, (by simp [Lm.dv])⟩ ?_
    rintro mu_ e_3 w_9 ⟨i, l, rfl, e_3_4, e_3_5, e_3_6, e_3_7, e_3_19, H_10, hi, hl, hV⟩
    refine W_seq ?_
    refine W_rg ?_
    refine L_y rfl (Y_lss (k := .i64) (a := ((i : Nat) : Int)) (b := ((4 : Nat) : Int)) e_3_19 rfl) ?_
    refine L_nil ?_
    refine Th_n ?_
    refine W_seq ?_
    refine W_cond (b := (decide (((i : Nat) : Int) < ((4 : Nat) : Int)))) rfl (fun hc => ?_) (fun hc => ?_)
    ·
      have hc' := of_decide_eq_true hc
      refine W_skip ?_
      refine Th_n ?_
      refine W_seq ?_
      refine W_block ?_
      refine W_seq ?_
      refine W_rg ?_
      refine L_mv rfl ?_
      refine L_as rfl ?_
      refine L_nil ?_
      refine Th_n ?_
      refine W_seq ?_
      refine W_rg ?_
      refine L_as rfl ?_
      refine L_nil ?_
      refine Th_n ?_
      refine W_seq ?_
      refine W_seq ?_
      refine W_rg ?_
      refine L_mv rfl ?_
      refine L_nil ?_
      refine Th_n ?_
      refine W_block ?_
      refine W_loop (fun mu_ e w => ∃ k : Nat, ∃ m : List Nat, ∃ c : Nat, mu_ = 4 - k ∧ e 4 = Value.pointer (some ⟨bk4, 0, none⟩) ∧ e 5 = Value.pointer (some ⟨bk5_, 0, none⟩) ∧ e 6 = Value.pointer (some ⟨bk6_, 0, none⟩) ∧ e 7 = Value.slice (some ⟨bk18, 0, none⟩) 8 8 ∧ e 8 = Value.int .i64 ((i : Nat) : Int) ∧ e 9 = Value.int .u64 ((c : Nat) : Int) ∧ e 19 = Value.int .i64 ((i : Nat) : Int) ∧ e 22 = Value.int .i64 ((k : Nat) : Int) ∧ Hp w0 [] w [.blk bk18 30 (ua .u64 m), .blk bk5_ 36 (ua .u64 (Lm.w4 (A % Lm.ord))), .blk bk6_ 36 (ua .u64 (Lm.w4 (B % Lm.ord))), .blk bk4 23 (ua .u8 [0, 0, 0, 0, 0, 0, 0, 0, 0, 0, 0, 0, 0, 0, 0, 0, 0, 0, 0, 0, 0, 0, 0, 0, 0, 0, 0, 0, 0, 0, 0, 0]), .blk bk3 23 (ua .u8 (Lm.b32 B)), .blk bk2 23 (ua .u8 (Lm.b32 A))] ∧ k ≤ 4 ∧ Wd 8 18446744073709551616 m ∧ c < 18446744073709551616 ∧ Lm.wv m + 18446744073709551616 ^ (i + k) * c = Lm.wv ((Lm.w4 (A % Lm.ord)).take i) * Lm.wv (Lm.w4 (B % Lm.ord)) + 18446744073709551616 ^ i * ((Lm.w4 (A % Lm.ord)).getD i 0 * Lm.wv ((Lm.w4 (B % Lm.ord)).take k)) ∧ m.getD (i + 4) 0 = 0) _ ⟨0, l, 0, rfl, e_3_4, e_3_5, e_3_6, e_3_7, e_3_19, rfl, e_3_19, rfl, H_10, (by omega), hl, (by decide), (by rw [hV]; simp [Lm.dv]), (Lm.mul_start hl.1 (by omega) rfl rfl (Lm.w4_lt _) (Lm.w4_lt _) hV)⟩ ?_
      rintro mu_ e_4 w_10 ⟨k, m, c, rfl, e_4_4, e_4_5, e_4_6, e_4_7, e_4_8, e_4_9, e_4_19, e_4_22, H_11, hk, hm, hc, hW, hz⟩
      refine W_seq ?_
      refine W_rg ?_
      refine L_y rfl (Y_lss (k := .i64) (a := ((k : Nat) : Int)) (b := ((4 : Nat) : Int)) e_4_22 rfl) ?_
      refine L_nil ?_
      refine Th_n ?_
      refine W_seq ?_
      refine W_cond (b := (decide (((k : Nat) : Int) < ((4 : Nat) : Int)))) rfl (fun hc_2 => ?_) (fun hc_2 => ?_)
      ·
        have hc_2' := of_decide_eq_true hc_2
        refine W_skip ?_
        refine Th_n ?_
        refine W_seq ?_
        refine W_block ?_
        refine W_seq ?_
        refine W_rg ?_
        refine L_mv rfl ?_
        refine L_as rfl ?_
        refine L_nil ?_
        refine Th_n ?_
        refine W_seq ?_
        obtain ⟨x28, hx28⟩ : ∃ u, (Lm.w4 (A % Lm.ord))[i]? = some u := ⟨_, List.getElem?_eq_getElem (by have := (w4_wd (A % Lm.ord)).1; omega)⟩
        have rx28 := (w4_wd (A % Lm.ord)).2 _ (List.mem_of_getElem? hx28)
        obtain ⟨x31, hx31⟩ : ∃ u, (Lm.w4 (B % Lm.ord))[k]? = some u := ⟨_, List.getElem?_eq_getElem (by have := (w4_wd (B % Lm.ord)).1; omega)⟩
        have rx31 := (w4_wd (B % Lm.ord)).2 _ (List.mem_of_getElem? hx31)
        refine W_quiet H_11 11 [Value.int .i64 ((i : Nat) : Int), Value.pointer (some ⟨bk5_, i, none⟩), Value.int .u64 ((x28 : Nat) : Int), Value.int .i64 ((k : Nat) : Int), Value.pointer (some ⟨bk6_, k, none⟩), Value.int .u64 ((x31 : Nat) : Int), Value.tuple #[Value.int .u64 (((x28 * x31 / 18446744073709551616) : Nat) : Int), Value.int .u64 (((x28 * x31 % 18446744073709551616) : Nat) : Int)], Value.tuple #[Value.int .u64 (((x28 * x31 / 18446744073709551616) : Nat) : Int), Value.int .u64 (((x28 * x31 % 18446744073709551616) : Nat) : Int)], Value.int .u64 (((x28 * x31 / 18446744073709551616) : Nat) : Int), Value.int .u64 (((x28 * x31 % 18446744073709551616) : Nat) : Int), Value.int .u64 (((x28 * x31 / 18446744073709551616) : Nat) : Int)] T_mixed (by kernel_rfl) ?_ ?_
        ·
          refine .plain rfl (Pl_y rfl (fun w hBw => congrArg (fun v => Result.ok (Next.value v) w) e_4_8)) ?_
          refine .plain rfl (Pl_y rfl (fun w hBw => Y_idxA i i T_arr36 e_4_5 rfl rfl (by omega) (zz1 _))) ?_
          refine .plain rfl (Pl_y rfl (fun w hBw => Y_ld T_scal30 hBw (i := 1) rfl rfl (ua_get hx28))) ?_
          refine .plain rfl (Pl_y rfl (fun w hBw => congrArg (fun v => Result.ok (Next.value v) w) e_4_22)) ?_
          refine .plain rfl (Pl_y rfl (fun w hBw => Y_idxA k k T_arr36 e_4_6 rfl rfl (by omega) (zz1 _))) ?_
          refine .plain rfl (Pl_y rfl (fun w hBw => Y_ld T_scal30 hBw (i := 2) rfl rfl (ua_get hx31))) ?_
          refine .plain rfl (Pl_c rfl T_en24 (A2 rfl rfl) (fun w hBw => mul64_spec x28 x31 rx28 rx31 _)) ?_
          refine .plain rfl (Pl_y rfl (fun w hBw => rfl)) ?_
          refine .plain rfl (Pl_y rfl (fun w hBw => Y_ext rfl rfl)) ?_
          refine .plain rfl (Pl_y rfl (fun w hBw => Y_ext rfl rfl)) ?_
          refine .plain rfl (Pl_y rfl (fun w hBw => rfl)) ?_
          exact .nil _
        ·
          intro e_5 w_11 hAg H_12
          have e_5_4 : e_5 4 = Value.pointer (some ⟨bk4, 0, none⟩) := (hAg 4 rfl).trans e_4_4
          have e_5_5 : e_5 5 = Value.pointer (some ⟨bk5_, 0, none⟩) := (hAg 5 rfl).trans e_4_5
          have e_5_6 : e_5 6 = Value.pointer (some ⟨bk6_, 0, none⟩) := (hAg 6 rfl).trans e_4_6
          have e_5_7 : e_5 7 = Value.slice (some ⟨bk18, 0, none⟩) 8 8 := (hAg 7 rfl).trans e_4_7
          have e_5_8 : e_5 8 = Value.int .i64 ((i : Nat) : Int) := (hAg 8 rfl).trans e_4_8
          have e_5_9 : e_5 9 = Value.int .u64 ((c : Nat) : Int) := (hAg 9 rfl).trans e_4_9
          have e_5_10 : e_5 10 = Value.int .i64 ((k : Nat) : Int) := (hAg 10 rfl).trans e_4_22
          obtain ⟨x11, hx11⟩ : ∃ x : Nat, x = (x28 * x31 / 18446744073709551616) := ⟨_, rfl⟩
          have e_5_11 : e_5 11 = Value.int .u64 ((x11 : Nat) : Int) := (hAg 11 rfl).trans (by rw [hx11]; exact rfl)
          have e_5_19 : e_5 19 = Value.int .i64 ((i : Nat) : Int) := (hAg 19 rfl).trans e_4_19
          have e_5_22 : e_5 22 = Value.int .i64 ((k : Nat) : Int) := (hAg 22 rfl).trans e_4_22
          obtain ⟨x34, hx34⟩ : ∃ x : Nat, x = (x28 * x31 % 18446744073709551616) := ⟨_, rfl⟩
          have e_5_34 : e_5 34 = Value.int .u64 ((x34 : Nat) : Int) := (hAg 34 rfl).trans (by rw [hx34]; exact rfl)
          refine L_as rfl ?_
          refine L_nil ?_
          refine Th_n ?_
          refine W_seq ?_
          refine W_rg ?_
          refine L_as rfl ?_
          refine L_nil ?_
          refine Th_n ?_
          refine W_seq ?_
          refine W_rg ?_
          refine L_mv rfl ?_
          refine L_mv rfl ?_
          refine L_y rfl (Y_add64 (A3 e_5_34 e_5_9 rfl) (a := x34) (b := c) (c := 0) (by decide)) ?_
          refine L_mv rfl ?_
          refine L_y rfl (Y_ext rfl rfl) ?_
          refine L_y rfl (Y_ext rfl rfl) ?_
          refine L_as rfl ?_
          refine L_as rfl ?_
          refine L_nil ?_
          refine Th_n ?_
          refine W_seq ?_
          refine W_rg ?_
          refine L_mv rfl ?_
          refine L_mv rfl ?_
          refine L_yr (z := (x11 + ((x34 + c + 0) / 18446744073709551616)) % 18446744073709551616) (m := 18446744073709551616) rfl (Yu_add (k := .u64) rfl x11 ((x34 + c + 0) / 18446744073709551616) e_5_11 rfl) (Nat.mod_lt _ (by decide)) ?_; intro x43 hx43 rx43
          refine L_as rfl ?_
          refine L_nil ?_
          refine Th_n ?_
          refine W_seq ?_
          refine W_rg ?_
          refine L_mv rfl ?_
          refine L_mv rfl ?_
          refine L_mv rfl ?_
          refine L_y rfl (Y_add (k := .i64) (a := ((i : Nat) : Int)) (b := ((k : Nat) : Int)) (z := ((i + k : Nat) : Int)) e_5_8 e_5_10 (wi (by omega))) ?_
          refine L_mv rfl ?_
          refine L_mv rfl ?_
          refine L_mv rfl ?_
          refine L_y rfl (Y_add (k := .i64) (a := ((i : Nat) : Int)) (b := ((k : Nat) : Int)) (z := ((i + k : Nat) : Int)) e_5_8 e_5_10 (wi (by omega))) ?_
          refine L_y rfl (Y_idxS (i + k) (i + k) T_sl38 e_5_7 rfl rfl (by omega) (zz1 _)) ?_
          obtain ⟨x54, hx54⟩ : ∃ u, m[i + k]? = some u := ⟨_, List.getElem?_eq_getElem (by have := hm.1; omega)⟩
          have rx54 := hm.2 _ (List.mem_of_getElem? hx54)
          refine L_y rfl (Y_ld T_scal30 H_12 (i := 0) rfl rfl (ua_get hx54)) ?_
          refine L_mv rfl ?_
          refine L_y rfl (Y_add64 (A3 rfl rfl rfl) (a := x54) (b := ((x34 + c + 0) % 18446744073709551616)) (c := 0) (by decide)) ?_
          refine L_mv rfl ?_
          refine L_y rfl (Y_ext rfl rfl) ?_
          refine L_y rfl (Y_ext rfl rfl) ?_
          refine L_y rfl (Y_idxS (i + k) (i + k) T_sl38 e_5_7 rfl rfl (by omega) (zz1 _)) ?_
          refine L_st (v := Value.int .u64 (((x54 + ((x34 + c + 0) % 18446744073709551616) + 0) % 18446744073709551616 : Nat) : Int)) T_scal30 H_12 (i := 0) rfl rfl rfl rfl (by rw [ua_size]; have := hm.1; omega) (l' := [.blk bk18 30 (ua .u64 (m.set (i + k) ((x54 + ((x34 + c + 0) % 18446744073709551616) + 0) % 18446744073709551616))), .blk bk5_ 36 (ua .u64 (Lm.w4 (A % Lm.ord))), .blk bk6_ 36 (ua .u64 (Lm.w4 (B % Lm.ord))), .blk bk4 23 (ua .u8 [0, 0, 0, 0, 0, 0, 0, 0, 0, 0, 0, 0, 0, 0, 0, 0, 0, 0, 0, 0, 0, 0, 0, 0, 0, 0, 0, 0, 0, 0, 0, 0]), .blk bk3 23 (ua .u8 (Lm.b32 B)), .blk bk2 23 (ua .u8 (Lm.b32 A))]) (by rw [ua_set]; rfl) ?_; intro w_12 H_13
          refine L_as rfl ?_
          refine L_nil ?_
          refine Th_n ?_
          refine W_rg ?_
          refine L_mv rfl ?_
          refine L_mv rfl ?_
          refine L_yr (z := (x43 + ((x54 + ((x34 + c + 0) % 18446744073709551616) + 0) / 18446744073709551616)) % 18446744073709551616) (m := 18446744073709551616) rfl (Yu_add (k := .u64) rfl x43 ((x54 + ((x34 + c + 0) % 18446744073709551616) + 0) / 18446744073709551616) rfl rfl) (Nat.mod_lt _ (by decide)) ?_; intro x62 hx62 rx62
          refine L_as rfl ?_
          refine L_nil ?_
          refine InB_n ?_
          refine Th_n ?_
          refine W_rg ?_
          refine L_y rfl (Y_add (k := .i64) (a := ((k : Nat) : Int)) (b := ((1 : Nat) : Int)) (z := ((k + 1 : Nat) : Int)) e_5_22 rfl (wi (by omega))) ?_
          refine L_mv rfl ?_
          refine L_nil ?_
          refine Th_n ⟨_, ?_, k + 1, m.set (i + k) ((x54 + ((x34 + c + 0) % 18446744073709551616) + 0) % 18446744073709551616), x62, rfl, e_5_4, e_5_5, e_5_6, e_5_7, e_5_8, rfl, e_5_19, rfl, H_13, (by omega), (Wd.set hm (Nat.mod_lt _ (by decide))), rx62, (Lm.mul_inner hx28 hx31 hx54 rx28 rx31 rx54 hc hx11 hx34 hx43 hx62 hW), (Lm.set_far (by omega) hz)⟩
          omega
      ·
        have hc_2' := of_decide_eq_false hc_2
        refine W_exit ?_
        refine Th_x ?_
        refine Th_x ?_
        refine InB_hit ?_
        refine Th_n ?_
        refine W_rg ?_
        refine L_mv rfl ?_
        refine L_mv rfl ?_
        refine L_y rfl (Y_add (k := .i64) (a := ((i : Nat) : Int)) (b := ((4 : Nat) : Int)) (z := ((i + 4 : Nat) : Int)) e_4_8 rfl (wi (by omega))) ?_
        refine L_mv rfl ?_
        refine L_y rfl (Y_idxS (i + 4) (i + 4) T_sl38 e_4_7 rfl rfl (by omega) (zz1 _)) ?_
        refine L_st (v := Value.int .u64 ((c : Nat) : Int)) T_scal30 H_11 (i := 0) rfl rfl e_4_9 rfl (by rw [ua_size]; have := hm.1; omega) (l' := [.blk bk18 30 (ua .u64 (m.set (i + 4) c)), .blk bk5_ 36 (ua .u64 (Lm.w4 (A % Lm.ord))), .blk bk6_ 36 (ua .u64 (Lm.w4 (B % Lm.ord))), .blk bk4 23 (ua .u8 [0, 0, 0, 0, 0, 0, 0, 0, 0, 0, 0, 0, 0, 0, 0, 0, 0, 0, 0, 0, 0, 0, 0, 0, 0, 0, 0, 0, 0, 0, 0, 0]), .blk bk3 23 (ua .u8 (Lm.b32 B)), .blk bk2 23 (ua .u8 (Lm.b32 A))]) (by rw [ua_set]; rfl) ?_; intro w_13 H_14
        refine L_nil ?_
        refine InB_n ?_
        refine Th_n ?_
        refine W_rg ?_
        refine L_y rfl (Y_add (k := .i64) (a := ((i : Nat) : Int)) (b := ((1 : Nat) : Int)) (z := ((i + 1 : Nat) : Int)) e_4_19 rfl (wi (by omega))) ?_
        refine L_mv rfl ?_
        refine L_nil ?_
        refine Th_n ⟨_, ?_, i + 1, m.set (i + 4) c, rfl, e_4_4, e_4_5, e_4_6, e_4_7, rfl, H_14, (by omega), (Wd.set hm hc), (Lm.mul_outer hm.1 (by omega) rfl rfl hz (by rw [show 4 = k by omega]; exact hW))⟩
        omega
    ·
      have hc' := of_decide_eq_false hc
      refine W_exit ?_
      refine Th_x ?_
      refine Th_x ?_
      refine InB_hit ?_
      refine Th_n ?_
      refine W_seq ?_
      refine W_rg ?_
      refine L_mv rfl ?_
      refine L_callv rfl rfl T_en26 (A1 e_3_7) ((rest_n 8 8 bk18 30 l hl (by decide) _ (H_10.get 0 rfl)).mono (fun r_ w' h => (⟨Lm.wv l % Lm.ord, rfl, h⟩ : ∃ (N71 : Nat), N71 = Lm.wv l % Lm.ord ∧ r_ = .returned (Value.agg (ua .u64 (Lm.w4 N71))) ∧ Keep w_9 w'))) ?_
      rintro _ w_14 ⟨N71, hN71, rfl, hkp⟩; refine ⟨_, rfl, ?_⟩; have H_15 := H_10.keep hkp
      refine L_callv rfl rfl T_en27 (A1 rfl) (scalar_n N71 _) ?_
      rintro _ w_15 ⟨rfl, hkp_2⟩; refine ⟨_, rfl, ?_⟩; have H_16 := H_15.keep hkp_2
      refine L_str (ds := ua .u8 (Lm.b32 N71)) T_row23 H_16 (i := 3) rfl e_3_4 rfl rfl (by rw [ua_size]; exact (b32_wd N71).1) (ua_one _ _) (l' := [.blk bk18 30 (ua .u64 l), .blk bk5_ 36 (ua .u64 (Lm.w4 (A % Lm.ord))), .blk bk6_ 36 (ua .u64 (Lm.w4 (B % Lm.ord))), .blk bk4 23 (ua .u8 (Lm.b32 N71)), .blk bk3 23 (ua .u8 (Lm.b32 B)), .blk bk2 23 (ua .u8 (Lm.b32 A))]) rfl ?_; intro w_16 H_17
      refine L_nil ?_
      refine Th_n ?_
      refine W_ret ?_
      refine P_ret (vs := [Value.agg (ua .u8 (Lm.b32 N71))]) (v := Value.agg (ua .u8 (Lm.b32 N71))) rfl (.cell e_3_4 (loadVar_row T_row23 H_17 (i := 3) rfl (by rw [ua_size]; exact (b32_wd N71).1)) (Res.nil)) rfl ?_
      refine ⟨?_, H_17.nil_⟩
      rw [hN71, hV, Lm.times_fin (by omega) hi]
end Go.Proofs.Ythjdikgdhmlmcaa
