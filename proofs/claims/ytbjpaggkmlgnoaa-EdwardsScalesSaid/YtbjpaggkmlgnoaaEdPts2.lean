/- Many times a point; calls through a value; an element and a truth value. -/
import Derived.Test.YtbjpaggkmlgnoaaEdPts
namespace Lm
/-! ### The base -/
noncomputable def base4 : P4 := at4 (4 * powm 5 57896044618658097711785492504343953926634992332820282019728792003956564819947 % p) false
noncomputable def base3 : P3 := at3 (4 % p * powm (5 % p) 57896044618658097711785492504343953926634992332820282019728792003956564819947 % p) false
theorem base4_ok : base4.ok := at4_ok _ _
theorem base3_ok : base3.ok := at3_ok (modp_ltp _) _
/-! ### So many times -/
noncomputable def tm4 (P : P4) : Nat → P4
  | 0 => idn4
  | n + 1 => sum4 (tm4 P n) P tw
theorem tm4_ok (P : P4) : ∀ n, (tm4 P n).ok
  | 0 => idn4_ok
  | _ + 1 => sum4_ok _ _ _
noncomputable def tabs (P : P4) (i : Nat) : List P4 := (List.range 16).map fun j => if j < i then tm4 P j else ⟨0, 0, 0, 0⟩
def tl (l : List P4) : List Nat := l.flatMap l4
theorem tl_length : ∀ l : List P4, (tl l).length = 16 * l.length
  | [] => rfl
  | P :: l => by
    have h := tl_length l
    have h1 : tl (P :: l) = l4 P ++ tl l := rfl
    rw [h1, List.length_append, h, List.length_cons]
    have : (l4 P).length = 16 := rfl
    omega
theorem tl_wd (l : List P4) (n : Nat) (h : 16 * l.length = n) : (tl l).length = n ∧ ∀ u ∈ tl l, u < 18446744073709551616 :=
  ⟨(tl_length l).trans h, fun u hu => by obtain ⟨P, _, h2⟩ := List.mem_flatMap.1 hu; exact (l4_wd P).2 u h2⟩
theorem tabs_length (P : P4) (i : Nat) : (tabs P i).length = 16 := by simp [tabs]
theorem tabs_wd (P : P4) (i : Nat) : (tl (tabs P i)).length = 256 ∧ ∀ u ∈ tl (tabs P i), u < 18446744073709551616 := tl_wd _ _ (by rw [tabs_length])
theorem tl_get {l : List P4} {P : P4} : ∀ {k : Nat}, l[k]? = some P → ∀ j u, (l4 P)[j]? = some u → (tl l)[0 + k * 16 + j]? = some u := by
  induction l with
  | nil => intro k h; cases h
  | cons Q l ih =>
    intro k h j u hu
    have h1 : tl (Q :: l) = l4 Q ++ tl l := rfl
    have h2 : (l4 Q).length = 16 := rfl
    have hj : j < 16 := by have := (List.getElem?_eq_some_iff.1 hu).1; exact this
    rw [h1]
    cases k with
    | zero =>
      obtain rfl : Q = P := Option.some.inj h
      rw [List.getElem?_append_left (by omega)]
      rw [show 0 + 0 * 16 + j = j by omega]; exact hu
    | succ k =>
      rw [List.getElem?_append_right (by omega), h2, show 0 + (k + 1) * 16 + j - 16 = 0 + k * 16 + j by omega]
      exact ih (k := k) h j u hu
theorem tabs_at (P : P4) {i k : Nat} (hk : k < i) (hi : k < 16) : (tabs P i)[k]? = some (tm4 P k) := by
  simp [tabs, hk, hi]
theorem tabs_get (P : P4) {i k : Nat} (hk : k < i) (hi : k < 16) : ∀ j u, (l4 (tm4 P k))[j]? = some u → (tl (tabs P i))[0 + k * 16 + j]? = some u := tl_get (tabs_at P hk hi)
theorem tabs_set (P : P4) {i : Nat} (hi : i < 16) : (tabs P i).set i (tm4 P i) = tabs P (i + 1) := by
  refine List.ext_getElem? fun j => ?_
  by_cases hj : j = i
  · subst hj
    rw [List.getElem?_set_self (by rw [tabs_length]; exact hi)]
    exact (tabs_at P (Nat.lt_succ_self j) hi).symm
  · rw [List.getElem?_set_ne (Ne.symm hj)]
    simp only [tabs, List.getElem?_map]
    by_cases h16 : j < 16
    · rw [List.getElem?_range h16]
      simp only [Option.map_some]
      by_cases h : j < i
      · rw [if_pos h, if_pos (by omega)]
      · rw [if_neg h, if_neg (by omega)]
    · rw [List.getElem?_eq_none (by simp; omega)]; rfl
theorem lay_app (A B X : List Nat) (o k : Nat) (hk : k = A.length + o) : Go.Ev.lay (A ++ B) k X = A ++ Go.Ev.lay B o X := by
  subst hk
  have e1 : A.length + o - A.length = o := by omega
  have e2 : A.length + o + X.length - A.length = o + X.length := by omega
  simp only [Go.Ev.lay, List.take_append, List.drop_append, e1, e2]
  rw [List.take_of_length_le (by omega), List.drop_eq_nil_of_le (by omega)]
  simp
theorem tl_lay {l : List P4} {P : P4} : ∀ {k : Nat}, k < l.length → Go.Ev.lay (tl l) (0 + k * 16) (l4 P) = tl (l.set k P) := by
  induction l with
  | nil => intro k h; cases h
  | cons Q l ih =>
    intro k h
    have h1 : tl (Q :: l) = l4 Q ++ tl l := rfl
    have h2 : (l4 Q).length = 16 := rfl
    have h3 : (l4 P).length = 16 := rfl
    cases k with
    | zero =>
      show Go.Ev.lay (l4 Q ++ tl l) 0 (l4 P) = l4 P ++ tl l
      rfl
    | succ k =>
      have e := ih (k := k) (by simp at h; omega)
      show Go.Ev.lay (l4 Q ++ tl l) (0 + (k + 1) * 16) (l4 P) = l4 Q ++ tl (l.set k P)
      rw [← e]
      exact lay_app _ _ _ _ _ (by omega)
noncomputable def dbl4 : Nat → P4 → P4
  | 0, X => X
  | n + 1, X => sum4 (dbl4 n X) (dbl4 n X) tw
/-- Four bits at a time, from the highest ones. -/
noncomputable def tms4 (K : Nat) (P : P4) : Nat → P4
  | 0 => idn4
  | c + 1 => sum4 (dbl4 4 (tms4 K P c)) (tm4 P (K / 16 ^ (63 - c) % 16)) tw
theorem tms4_ok (K : Nat) (P : P4) : ∀ c, (tms4 K P c).ok
  | 0 => idn4_ok
  | _ + 1 => sum4_ok _ _ _
theorem tms4_z (K : Nat) (P : P4) : tms4 K P (64 - 64) = idn4 := rfl
theorem tms4_s {K i x y : Nat} {P A B C D E : P4} (hi : i < 64) (h1 : A = sum4 (tms4 K P (64 - (i + 1))) (tms4 K P (64 - (i + 1))) tw) (h2 : B = sum4 A A tw) (h3 : C = sum4 B B tw) (h4 : D = sum4 C C tw) (hx : (b32 K)[i / 2]? = some x) (hy : y = (x / 2 ^ (4 * (i % 2))) &&& 15) (h5 : E = sum4 D (tm4 P y) tw) :
    E = tms4 K P (64 - i) := by
  obtain ⟨c, hc⟩ : ∃ c, 64 - (i + 1) = c := ⟨_, rfl⟩
  rw [hc] at h1
  have e1 : 64 - i = c + 1 := by omega
  have e2 : 63 - c = i := by omega
  have e3 : y = K / 16 ^ i % 16 := by
    have h6 := (b32_get hx).2
    have e16 : ∀ k : Nat, (16 : Nat) ^ (2 * k) = 256 ^ k := fun k => by rw [Nat.pow_mul]
    rw [hy, h6, show (15 : Nat) = 2 ^ 4 - 1 from rfl, Nat.and_two_pow_sub_one_eq_mod]
    rcases Nat.mod_two_eq_zero_or_one i with h | h
    · obtain ⟨k, rfl⟩ : ∃ k, i = 2 * k := ⟨i / 2, by omega⟩
      rw [e16, show 2 * k / 2 = k by omega, h, show (2 : Nat) ^ (4 * 0) = 1 from rfl, show (2 : Nat) ^ 4 = 16 from rfl]
      generalize K / 256 ^ k = q
      omega
    · obtain ⟨k, rfl⟩ : ∃ k, i = 2 * k + 1 := ⟨i / 2, by omega⟩
      rw [show (2 * k + 1) / 2 = k by omega, h, show (2 : Nat) ^ (4 * 1) = 16 from rfl, show (16 : Nat) ^ (2 * k + 1) = 256 ^ k * 16 by rw [Nat.pow_succ, e16], ← Nat.div_div_eq_div_mul]
      generalize K / 256 ^ k = q
      omega
  rw [e1]
  show E = sum4 (dbl4 4 (tms4 K P c)) (tm4 P (K / 16 ^ (63 - c) % 16)) tw
  rw [e2, ← e3, h5, h4, h3, h2, h1]; rfl
/-- Bit by bit. -/
noncomputable def tms3 (K : Nat) (W : P3) : Nat → P3
  | 0 => idn3
  | c + 1 => if K / 2 ^ (255 - c) % 2 = 1 then add3 (add3 (tms3 K W c) (tms3 K W c) dd) W dd else add3 (tms3 K W c) (tms3 K W c) dd
theorem tms3_z (K : Nat) (P : P3) : tms3 K P (256 - 256) = idn3 := rfl
theorem bit8 {K i x b c : Nat} (hx : (b32 K)[i / 8]? = some x) (hb : b = x / 2 ^ (i % 8)) (hc : c = b % 2) : c = K / 2 ^ i % 2 := by
  have h6 := (b32_get hx).2
  have e : ∀ k : Nat, (2 : Nat) ^ (8 * k) = 256 ^ k := fun k => by rw [Nat.pow_mul]
  obtain ⟨k, r, hr, rfl⟩ : ∃ k r, r < 8 ∧ i = 8 * k + r := ⟨i / 8, i % 8, Nat.mod_lt _ (by decide), by omega⟩
  rw [hc, hb, h6, show (8 * k + r) / 8 = k by omega, show (8 * k + r) % 8 = r by omega, Nat.pow_add, e, ← Nat.div_div_eq_div_mul]
  generalize K / 256 ^ k = q
  match r, hr with
  | 0, _ => simp
  | 1, _ => simp only [show (2 : Nat) ^ 1 = 2 from rfl]; omega
  | 2, _ => simp only [show (2 : Nat) ^ 2 = 4 from rfl]; omega
  | 3, _ => simp only [show (2 : Nat) ^ 3 = 8 from rfl]; omega
  | 4, _ => simp only [show (2 : Nat) ^ 4 = 16 from rfl]; omega
  | 5, _ => simp only [show (2 : Nat) ^ 5 = 32 from rfl]; omega
  | 6, _ => simp only [show (2 : Nat) ^ 6 = 64 from rfl]; omega
  | 7, _ => simp only [show (2 : Nat) ^ 7 = 128 from rfl]; omega
theorem tms3_s0 {K i x b c : Nat} {W A : P3} (hi : i < 256) (h1 : A = add3 (tms3 K W (256 - (i + 1))) (tms3 K W (256 - (i + 1))) dd) (hx : (b32 K)[i / 8]? = some x) (hb : b = x / 2 ^ (i % 8)) (hc : c = b % 2) (h : ((c : Nat) : Int) ≠ ((1 : Nat) : Int)) :
    A = tms3 K W (256 - i) := by
  have h3 := bit8 hx hb hc
  obtain ⟨n, hn⟩ : ∃ n, 256 - (i + 1) = n := ⟨_, rfl⟩
  rw [hn] at h1
  have e1 : 256 - i = n + 1 := by omega
  have e2 : 255 - n = i := by omega
  rw [e1, tms3, e2, if_neg (by omega)]; exact h1
theorem tms3_s1 {K i x b c : Nat} {W A B : P3} (hi : i < 256) (h1 : A = add3 (tms3 K W (256 - (i + 1))) (tms3 K W (256 - (i + 1))) dd) (hx : (b32 K)[i / 8]? = some x) (hb : b = x / 2 ^ (i % 8)) (hc : c = b % 2) (h : ((c : Nat) : Int) = ((1 : Nat) : Int)) (h2 : B = add3 A W dd) :
    B = tms3 K W (256 - i) := by
  have h3 := bit8 hx hb hc
  obtain ⟨n, hn⟩ : ∃ n, 256 - (i + 1) = n := ⟨_, rfl⟩
  rw [hn] at h1
  have e1 : 256 - i = n + 1 := by omega
  have e2 : 255 - n = i := by omega
  rw [e1, tms3, e2, if_pos (by omega), ← h1]; exact h2
theorem of_b32 {n : Nat} (h : n < 18446744073709551616) : b32 n = [n / 1 % 256, n / 256 % 256, n / 65536 % 256, n / 16777216 % 256, n / 4294967296 % 256, n / 1099511627776 % 256, n / 281474976710656 % 256, n / 72057594037927936 % 256] ++ List.replicate 24 0 := by
  refine List.ext_getElem? fun i => ?_
  by_cases hi : i < 32
  · rw [b32, dg_get hi]
    by_cases h8 : i < 8
    · rw [List.getElem?_append_left (by simpa using h8)]
      match i, h8 with
      | 0, _ => rfl
      | 1, _ => rfl
      | 2, _ => rfl
      | 3, _ => rfl
      | 4, _ => rfl
      | 5, _ => rfl
      | 6, _ => rfl
      | 7, _ => rfl
    · rw [List.getElem?_append_right (by simpa using h8), List.getElem?_replicate, if_pos (by simp; omega)]
      have h2 : (256 : Nat) ^ 8 ≤ 256 ^ i := Nat.pow_le_pow_right (by decide) (by omega)
      rw [Nat.div_eq_of_lt (Nat.lt_of_lt_of_le h h2), Nat.zero_mod]
  · rw [List.getElem?_eq_none (by rw [b32_length]; omega), List.getElem?_eq_none (by simp; omega)]
theorem tms3_ok (K : Nat) (W : P3) : ∀ c, (tms3 K W c).ok
  | 0 => idn3_ok
  | c + 1 => by unfold tms3; split <;> exact add3_ok _ _ _
end Lm
namespace Go.Ev
/-! ### A call through a value -/
section
variable {P : Program} {n : Nat} {Q : Exit → Env → World → Prop} {e : Env} {w : World} {ops : Array Oper} {rest : List Oper} {d : Option Nat} {ty : TypeId} {pos : String} {aft : Array Edge} {g : Option (Nat × Bool)} {v : Value} {c : Operand}
theorem Dn_callx {f : FuncId} {xs : List Operand} {ts : Array TypeId} {vs : List Value} {R : Value → World → Prop} (hcl : ev e c = .func (.func f) #[] #[]) (hf : enters P f = true) (hxs : xs.map (ev e) = vs) (hc : Calls P f vs.toArray w fun x w'' => ∃ v, x = .returned v ∧ R v w'') :
    Dn P ⟨d, .call { callee := .value c, args := xs.toArray, argTypes := ts }, ty, pos, aft, g⟩ e w R := by
  refine Dn.call ?_ hc
  subst hxs
  have h := run_enters (P := P) (w := w) hf (xs.map (ev e)).toArray
  simp [execOp, resolve, Deferred.ofValue, hcl, invoke]
  simpa using h
theorem Pl_cx {eV : Env} {B : World → Prop} {f : FuncId} {xs : List Operand} {ts : Array TypeId} {vs : List Value} (hcl : ev eV c = .func (.func f) #[] #[]) (hg : wantedE ops eV g = true) (hf : enters P f = true) (hxs : xs.map (ev eV) = vs)
    (hc : ∀ w, B w → Calls P f vs.toArray w fun x w' => x = .returned v ∧ Keep w w') : Plain P ops eV B ⟨d, .call { callee := .value c, args := xs.toArray, argTypes := ts }, ty, pos, aft, g⟩ v :=
  .inl ⟨hg, fun w hb => Dn_callx hcl hf hxs ((hc w hb).mono fun _ _ ⟨hx, hk⟩ => ⟨v, hx, rfl, hk⟩)⟩
theorem L_callx {b0 : Nat} {f : FuncId} {xs : List Operand} {ts : Array TypeId} {vs : List Value} {R : Ending → World → Prop} (hcl : ev e c = .func (.func f) #[] #[]) (hg : wantedE ops e g = true) (hd : Nat.blt b0 n = true) (hf : enters P f = true) (hxs : xs.map (ev e) = vs) (hc : Calls P f vs.toArray w R)
    (hk : ∀ x w', R x w' → ∃ v, x = .returned v ∧ L P n ops Q rest (upd e b0 v) w') : L P n ops Q (⟨some b0, .call { callee := .value c, args := xs.toArray, argTypes := ts }, ty, pos, aft, g⟩ :: rest) e w :=
  L_do hg hd (R := fun v w' => L P n ops Q rest (upd e b0 v) w') (Dn_callx hcl hf hxs (hc.mono fun x w' hR => hk x w' hR)) (fun _ _ h => h)
end
/-! ### An element and a truth value -/
def sd (y : Nat) (odd : Bool) : Array Value := ua .u64 (Lm.w4 y) ++ #[.bool odd]
section
variable {P : Program} {e : Env} {w w0 : World} {S : List Nat} {l : List Ent} {d : Option Nat} {t : TypeId} {ty : TypeId} {pos : String} {aft : Array Edge} {g : Option (Nat × Bool)} {x : Operand}
theorem Y_sdy {b i : Nat} {bt : TypeId} {y : Nat} {odd : Bool} (hs : rowOf P t = some 4) (H : Hp w0 S w l) (hi : l[i]? = some (.blk b bt (sd y odd))) (hx : ev e x = .pointer (some ⟨b, 0, none⟩)) :
    Yl P ⟨d, .load t x, ty, pos, aft, g⟩ e w (.agg (ua .u64 (Lm.w4 y))) := by
  refine Y_ldp (us .u64 (Lm.w4 y)) hs H hi hx rfl fun j u hu => ?_
  match j, hu with
  | 0, h => exact h
  | 1, h => exact h
  | 2, h => exact h
  | 3, h => exact h
theorem Y_sdyb {b : Nat} {bt : TypeId} {y : Nat} {odd : Bool} (hs : rowOf P t = some 4) (hb : w.heap[b]? = some (.cells (sd y odd) bt (0, 0))) (hx : ev e x = .pointer (some ⟨b, 0, none⟩)) :
    Yl P ⟨d, .load t x, ty, pos, aft, g⟩ e w (.agg (ua .u64 (Lm.w4 y))) := by
  have H : Hp w [b] w [.blk b bt (sd y odd)] := Hp.blk1 rfl rfl rfl rfl (fun _ _ => rfl) hb
  exact Y_sdy hs H (i := 0) rfl hx
end
end Go.Ev
