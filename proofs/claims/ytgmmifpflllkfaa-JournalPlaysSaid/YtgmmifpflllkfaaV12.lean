/- Own words for walks, twelfth part: places in slices that are handed in; the complement; windows of blocks. -/
import Derived.Test.YtgmmifpflllkfaaV11
import Derived.Laws.Unary
import Derived.Deep.Slices
namespace Go.Ev

/-- The place of element j (elements of one cell). -/
def pl (a : Option Addr) (j : Nat) : Value := .pointer (a.map (·.add j))

section
variable {P : Program} {e : Env} {w w0 w' : World} {S : List Nat} {es : List Ent} {d : Option Nat} {ty t t2 et : TypeId} {pos : String} {aft : Array Edge} {g : Option (Nat × Bool)} {x y : Operand} {v : Value}
variable {n z : Nat} {ops : Array Oper} {rest : List Oper} {Q : Exit → Env → World → Prop} {op : Op} {b0 : Nat} {k : IntKind} {a : Option Addr} {l : List Nat}

theorem Y_idxR {m c j : Nat} {kj : IntKind} {i : Int} (ht : slOf P t = some (et, 1)) (hr : Rd w k a l) (hl : l.length = m) (hx : ev e x = .slice a m c) (hy : ev e y = .int kj i) (hi : i = (j : Int)) (hj : j < m) :
    Yl P ⟨d, .indexAddr t x y, ty, pos, aft, g⟩ e w (pl a j) := by
  obtain ⟨b, o, rfl⟩ := hr.open (by omega)
  have := Y_idxS (P := P) (w := w) (e := e) (d := d) (ty := ty) (pos := pos) (aft := aft) (g := g) (x := x) (y := y) (b := b) (o := o) (cap := c) j (o + j) ht hx hy hi hj (by omega)
  rw [show pl (some ⟨b, o, none⟩) j = .pointer (some ⟨b, o + j, none⟩) by simp [pl, add_at]]
  exact this
theorem Y_ldR {j u : Nat} (hs : scal P t = true) (hr : Rd w k a l) (hx : ev e x = pl a j) (hu : l[j]? = some u) : Yl P ⟨d, .load t x, ty, pos, aft, g⟩ e w (.int k (u : Int)) := by
  have hl : 0 < l.length := by
    have := (List.getElem?_eq_some_iff.1 hu).1
    omega
  obtain ⟨b, o, rfl⟩ := hr.open hl
  have hc := hr.cell hu
  rw [show pl (some ⟨b, o, none⟩) j = .pointer (some ⟨b, o + j, none⟩) by simp [pl, add_at]] at hx
  exact Y_ldc hs hx hc

theorem com_nat (B m : Nat) (h : m < 2 ^ B) : (2 ^ B - 1) ^^^ m = 2 ^ B - 1 - m := by
  apply Nat.eq_of_testBit_eq
  intro i
  rw [Nat.testBit_xor, Nat.testBit_two_pow_sub_one]
  have h1 : 2 ^ B - 1 - m = 2 ^ B - (m + 1) := by omega
  rw [h1, Nat.testBit_two_pow_sub_succ h]
  by_cases hi : i < B
  · simp [hi]
  · have : m.testBit i = false := Nat.testBit_lt_two_pow (Nat.lt_of_lt_of_le h (Nat.pow_le_pow_right (by omega) (by omega)))
    simp [hi, this]
theorem Yu_com (hk : k.signed = false) (m : Nat) (hm : m < 2 ^ k.bits) (hx : ev e x = .int k (m : Int)) : Yl P ⟨d, .unOp .xor t x, ty, pos, aft, g⟩ e w (.int k ((2 ^ k.bits - 1 - m : Nat) : Int)) := by
  have hmax : k.max = ((2 ^ k.bits - 1 : Nat) : Int) := by cases k <;> first | (exact absurd hk (by decide)) | rfl
  have h0 : 0 < 2 ^ k.bits := Nat.two_pow_pos _
  have hb : bits .xor k k.max (m : Int) = ((2 ^ k.bits - 1 - m : Nat) : Int) := by
    rw [hmax, bits_xor_nat k hk _ _ (by omega) hm, com_nat _ _ hm]
  simp [Yl, execOp, hx, unary_xor, hk, intBits_xor, hb]

/-- What a row of one's own is for one that reads it. -/
theorem own_rd {i m : Nat} {a : Option Addr} {m' c : Nat} (H : Hp w0 S w es) (hi : es[i]? = some (.own (.slice a m' c) et 1 m (us k l))) : Rd w k a l ∧ m' = m ∧ l.length = m ∧ m ≤ c ∧ (a = none → c = 0) := by
  have hl : l.length = m := by
    have := (H.get i hi).1
    rw [us_length, Nat.mul_one] at this
    exact this
  rcases H.own_blk hi with ⟨h, h0, hx⟩ | ⟨b, cap, cs, h, hmc, _, _, hx, H2⟩
  · cases h
    have : l = [] := by simpa [us] using hx
    subst this
    exact ⟨Rd.nil w k none, h0.symm, hl, by omega, fun _ => rfl⟩
  · injection h with h1 h2 h3
    subst h1 h2 h3
    refine ⟨?_, rfl, hl, hmc, fun h => by cases h⟩
    rw [Nat.mul_one] at hx
    have hb := (H2.only (i := i) (x := .blk b et cs) (by simp [(List.getElem?_eq_some_iff.1 hi).1])).get 0 rfl
    exact Rd.of fun j u hu => by
      rw [cell_of_row w b _ cs et (0, 0) hb, Nat.zero_add]
      exact pre_get hx hu
theorem own_open {i m : Nat} (H : Hp w0 S w es) (hi : es[i]? = some (.own v et 1 m (us k l))) : ∃ a c, v = .slice a m c ∧ Rd w k a l ∧ l.length = m ∧ m ≤ c ∧ (a = none → c = 0) := by
  obtain ⟨a, c, rfl⟩ : ∃ a c, v = .slice a m c := by
    rcases H.own_blk hi with ⟨rfl, rfl, _⟩ | ⟨b, cap, _, rfl, _⟩
    · exact ⟨_, _, rfl⟩
    · exact ⟨_, _, rfl⟩
  obtain ⟨h1, _, h2⟩ := own_rd H hi
  exact ⟨a, c, rfl, h1, h2⟩

/-- A slice that is there: its place, its length, its room, what stands in it. -/
structure Sl (w : World) (k : IntKind) (a : Option Addr) (m c : Nat) (l : List Nat) : Prop where
  rd : Rd w k a l
  len : l.length = m
  cap : m ≤ c
  non : a = none → c = 0
theorem Rd.take (h : Rd w k a l) (i : Nat) : Rd w k a (l.take i) := by
  rcases h with rfl | ⟨b, o, rfl, h⟩
  · exact .inl (by simp)
  · exact .inr ⟨b, o, rfl, fun j u hu => h j u (by
      rw [List.getElem?_take] at hu
      split at hu
      · exact hu
      · cases hu)⟩
variable {m c : Nat}
theorem Sl.hp (h : Sl w0 k a m c l) (H : Hp w0 [] w es) : Sl w k a m c l := ⟨h.rd.hp H, h.len, h.cap, h.non⟩
theorem Sl.keep (h : Sl w k a m c l) (H : Keep w w') : Sl w' k a m c l := h.hp H
theorem Sl.tk (h : Sl w k a m c l) {i : Nat} (hi : i ≤ m) : Sl w k a i c (l.take i) := ⟨h.rd.take i, by rw [List.length_take, h.len]; omega, Nat.le_trans hi h.cap, h.non⟩
theorem Sl.mid (h : Sl w k a m c l) {lo hi : Nat} (h1 : lo ≤ hi) (h2 : hi ≤ m) : Sl w k (cutA a c lo) (hi - lo) (c - lo) ((l.drop lo).take (hi - lo)) := by
  have h3 := h.cap
  refine ⟨h.rd.cut h.len h1 h2 h.cap, by rw [List.length_take, List.length_drop, h.len]; omega, by omega, ?_⟩
  unfold cutA
  split
  · intro _; omega
  · intro h4
    have : a = none := by simpa using h4
    have := h.non this
    omega
theorem Sl.dr (h : Sl w k a m c l) {lo : Nat} (h1 : lo ≤ m) : Sl w k (cutA a c lo) (m - lo) (c - lo) (l.drop lo) := by
  have h2 := h.mid h1 (Nat.le_refl m)
  rwa [List.take_of_length_le (by rw [List.length_drop, h.len]; omega)] at h2
theorem Sl.own {i q : Nat} (H : Hp w0 S w es) (hi : es[i]? = some (.own (.slice a m c) et 1 q (us k l))) : Sl w k a m c l := by
  obtain ⟨h1, h2, h3, h4, h5⟩ := own_rd H hi
  subst h2
  exact ⟨h1, h3, h4, h5⟩
theorem Sl.opn {i q : Nat} (H : Hp w0 S w es) (hi : es[i]? = some (.own v et 1 q (us k l))) : ∃ a c, v = .slice a q c := by
  obtain ⟨a, c, h, _⟩ := own_open H hi
  exact ⟨a, c, h⟩
/-- A slice that was cut at its beginning, some times: o elements are gone. -/
def Win (a : Option Addr) (c : Nat) (a' : Option Addr) (o : Nat) : Prop := (o = c ∧ (a' = none → a = none)) ∨ a' = a.map (·.add o)
theorem Win.zero (h : Sl w k a m c l) : Win a c a 0 := by
  refine .inr ?_
  cases a with
  | none => rfl
  | some p => simp [add_zero]
theorem Win.cut {a' : Option Addr} {o lo c' : Nat} (h : Win a c a' o) (hc : c' = c - o) (hlo : o + lo ≤ c) : Win a c (cutA a' c' lo) (o + lo) := by
  unfold cutA
  split
  · rename_i hcl
    refine .inl ⟨by omega, ?_⟩
    rcases h with ⟨_, h2⟩ | rfl
    · exact h2
    · intro h3; simpa using h3
  · rename_i hcl
    refine .inr ?_
    rcases h with ⟨h2, _⟩ | h2
    · omega
    · subst h2
      cases a with
      | none => rfl
      | some q =>
        simp only [Option.map_some, Nat.mul_one, Option.some.injEq]
        rw [Deep.add_add]
theorem Win.sl {a' : Option Addr} {o m' c' : Nat} (h : Win a c a' o) (hs : Sl w k a m c l) (ho : o ≤ m) (hm : m' = m - o) (hc : c' = c - o) : Sl w k a' m' c' (l.drop o) := by
  subst hm hc
  have h3 := hs.cap
  have hl := hs.len
  refine ⟨?_, by rw [List.length_drop, hl], by omega, ?_⟩
  · rcases h with ⟨h2, _⟩ | rfl
    · rw [List.drop_eq_nil_of_le (by omega)]
      exact Rd.nil w k a'
    · rcases hs.rd with rfl | ⟨b, q, rfl, hr⟩
      · exact .inl (by simp)
      · refine .inr ⟨b, q + o, by simp [add_at], fun j u hu => ?_⟩
        rw [List.getElem?_drop] at hu
        have := hr (o + j) u hu
        rwa [← Nat.add_assoc] at this
  · intro h4
    rcases h with ⟨h2, _⟩ | rfl
    · omega
    · have : a = none := by simpa using h4
      have := hs.non this
      omega

theorem Y_cutHr {kh : IntKind} {x2 : Operand} {hi : Nat} (ht : slOf P t = some (et, 1)) (hs : Sl w k a m c l) (hx : ev e x = .slice a m c) (hhi : ev e x2 = .int kh (hi : Int)) (h2 : hi ≤ c) :
    Yl P ⟨d, .slice t x none (some x2) none, ty, pos, aft, g⟩ e w (.slice a hi c) := by
  have h := Y_cutH (P := P) (w := w) (d := d) (ty := ty) (pos := pos) (aft := aft) (g := g) ht hx hhi h2
  rwa [cutA_zero a c, Nat.sub_zero, Nat.sub_zero] at h
theorem Y_cutHs {kh : IntKind} {x2 : Operand} {b o hi : Nat} (ht : slOf P t = some (et, 1)) (hx : ev e x = .slice (some ⟨b, o, none⟩) m c) (hhi : ev e x2 = .int kh (hi : Int)) (h2 : hi ≤ c) :
    Yl P ⟨d, .slice t x none (some x2) none, ty, pos, aft, g⟩ e w (.slice (some ⟨b, o, none⟩) hi c) := by
  have h := Y_cutH (P := P) (w := w) (d := d) (ty := ty) (pos := pos) (aft := aft) (g := g) ht hx hhi h2
  rwa [cutA_zero (some ⟨b, o, none⟩) c, Nat.sub_zero, Nat.sub_zero] at h
theorem Y_idxL {j : Nat} {kj : IntKind} {i : Int} (ht : slOf P t = some (et, 1)) (hs : Sl w k a m c l) (hx : ev e x = .slice a m c) (hy : ev e y = .int kj i) (hi : i = (j : Int)) (hj : j < m) :
    Yl P ⟨d, .indexAddr t x y, ty, pos, aft, g⟩ e w (pl a j) := Y_idxR ht hs.rd hs.len hx hy hi hj

/-! ### Rows of one's own are read -/
def plv (v : Value) (j : Nat) : Value := match v with
  | .slice a _ _ => pl a j
  | _ => .pointer none
theorem Y_idxO {i q j : Nat} {kj : IntKind} {ii : Int} (ht : slOf P t = some (et, 1)) (H : Hp w0 S w es) (hi : es[i]? = some (.own v et 1 q (us k l))) (hx : ev e x = v) (hy : ev e y = .int kj ii) (hii : ii = (j : Int)) (hj : j < q) :
    Yl P ⟨d, .indexAddr t x y, ty, pos, aft, g⟩ e w (plv v j) := by
  obtain ⟨a, c, rfl⟩ := Sl.opn H hi
  exact Y_idxL ht (Sl.own H hi) hx hy hii hj
theorem Y_ldO {i q j u : Nat} (hs : scal P t = true) (H : Hp w0 S w es) (hi : es[i]? = some (.own v et 1 q (us k l))) (hx : ev e x = plv v j) (hu : l[j]? = some u) : Yl P ⟨d, .load t x, ty, pos, aft, g⟩ e w (.int k (u : Int)) := by
  obtain ⟨a, c, rfl⟩ := Sl.opn H hi
  exact Y_ldR hs (Sl.own H hi).rd hx hu
theorem L_appL {i p q c by_ : Nat} {zv : Array Value} {l1 l2 : List Nat} (hd : Nat.blt b0 n = true) (H : Hp w0 S w es) (hi : es[i]? = some (.own v et 1 p (us k l1))) (hs : slOf P t = some (et, 1)) (hz : zeroOf P et = some zv) (hzs : zv.size = 1) (hb : szOf P et = some by_)
    (hx : ev e x = v) (hy : ev e y = .slice a q c) (hr : Sl w k a q c l2) (hfit : p + q ≤ 4294967296 ∧ by_ ≤ 16)
    (hk : ∀ v' w', Hp w0 S w' (es.set i (.own v' et 1 (p + q) (us k (l1 ++ l2)))) → L P n ops Q rest (upd e b0 v') w') : L P n ops Q (⟨some b0, .call { callee := .builtin .append, args := #[x, y], argTypes := #[t, t] }, ty, pos, aft, none⟩ :: rest) e w :=
  L_appR hd H hi hs hz hzs hb hx hy hr.rd hr.len hfit hr.non hk
theorem Y_strL (hs : P.underlying t = some (.slice et)) (he : P.underlying et = some (.int .u8)) (hd : P.underlying t2 = some .string) (hx : ev e x = .slice a m c) (hr : Sl w .u8 a m c l) :
    Yl P ⟨d, .convert t t2 x, ty, pos, aft, g⟩ e w (.string (bs l)) := Y_str hs he hd hx hr.rd hr.len
theorem Y_strO {i q : Nat} (hs : P.underlying t = some (.slice et)) (he : P.underlying et = some (.int .u8)) (hd : P.underlying t2 = some .string) (H : Hp w0 S w es) (hi : es[i]? = some (.own v et 1 q (us .u8 l))) (hx : ev e x = v) :
    Yl P ⟨d, .convert t t2 x, ty, pos, aft, g⟩ e w (.string (bs l)) := by
  obtain ⟨a, c, rfl⟩ := Sl.opn H hi
  exact Y_strL hs he hd hx (Sl.own H hi)
theorem Sl.blk {b o i : Nat} {cs : Array Value} {bt : TypeId} (H : Hp w0 S w es) (hi : es[i]? = some (.blk b bt cs)) (hl : l.length = m) (hc : m ≤ c) (h : ∀ j u : Nat, l[j]? = some u → cs[o + j]? = some (.int k (u : Int))) : Sl w k (some ⟨b, o, none⟩) m c l :=
  ⟨Rd.blk (m := 0) H hi h, hl, hc, fun h => by cases h⟩
theorem cutA_none {a : Option Addr} {c lo : Nat} (h : a = none → c = 0) : cutA a c lo = none → c - lo = 0 := by
  unfold cutA
  split
  · intro _; omega
  · intro h2
    have : a = none := by simpa using h2
    have := h this
    omega
end
end Go.Ev
