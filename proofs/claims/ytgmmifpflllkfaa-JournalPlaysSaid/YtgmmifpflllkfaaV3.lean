/- Own words for walks, third part: one rule an operation. -/
import Derived.Test.YtgmmifpflllkfaaV2
import Derived.Laws.Entries
import Derived.Laws.Small
import Derived.Laws.Build
import Derived.Laws.Externs
import Derived.Laws.Bits
import Derived.IntWalk
namespace Go.Ev

/-! ### 1. What is asked of types: closed facts, each by kernel_rfl -/
def scal (P : Program) (t : TypeId) : Bool :=
  match P.underlying t with
  | some (.struct _) | some (.array _ _) | none => false
  | some _ => (P.info? t).any (·.size == 1)
def rowOf (P : Program) (t : TypeId) : Option Nat :=
  match P.underlying t with
  | some (.struct _) | some (.array _ _) => (P.info? t).map (·.size)
  | _ => none
def zeroOf (P : Program) (t : TypeId) : Option (Array Value) := (P.info? t).bind fun i => i.zero.map (·.cells)
def arrOf (P : Program) (t : TypeId) : Option (Nat × Nat) :=
  match P.underlying t with
  | some (.array n e) => (P.info? e).map fun i => (n, i.size)
  | _ => none
def slOf (P : Program) (t : TypeId) : Option (TypeId × Nat) :=
  match P.underlying t with
  | some (.slice e) => (P.info? e).map fun i => (e, i.size)
  | _ => none
def kindOf (P : Program) (t : TypeId) : Option IntKind :=
  match P.underlying t with
  | some (.int k) => some k
  | _ => none

section
variable {P : Program} {w : World} {t : TypeId} {a : Addr} {v u : Value}

theorem run_isAgg_scal (h : scal P t = true) : (isAgg t).run P w = .ok false w := by
  unfold scal at h
  unfold isAgg
  cases hd : P.underlying t with
  | none => rw [hd] at h; cases h
  | some d =>
    rw [hd] at h
    rw [Sem.run_bind, run_underlying hd]
    cases d <;> first | rfl | cases h
theorem run_isAgg_row {k : Nat} (h : rowOf P t = some k) : (isAgg t).run P w = .ok true w := by
  unfold rowOf at h
  unfold isAgg
  cases hd : P.underlying t with
  | none => rw [hd] at h; cases h
  | some d =>
    rw [hd] at h
    rw [Sem.run_bind, run_underlying hd]
    cases d <;> first | rfl | cases h
theorem run_sizeOf_scal (h : scal P t = true) : (sizeOf t).run P w = .ok 1 w := by
  unfold scal at h
  unfold sizeOf typeInfo
  cases hi : P.info? t with
  | none => simp [hi] at h; split at h <;> cases h
  | some i =>
    rw [hi] at h
    have : i.size = 1 := by
      split at h
      · cases h
      · cases h
      · cases h
      · simpa using h
    simp [hi, this]
theorem run_sizeOf_row {k : Nat} (h : rowOf P t = some k) : (sizeOf t).run P w = .ok k w := by
  unfold rowOf at h
  unfold sizeOf typeInfo
  cases hi : P.info? t with
  | none => simp [hi] at h; split at h <;> cases h
  | some i =>
    rw [hi] at h
    have : i.size = k := by
      split at h
      · simpa using h
      · simpa using h
      · cases h
    simp [hi, this]

theorem run_load1 (hs : scal P t = true) (hc : w.cell? a = some v) : (Instr.loadAt t (.pointer (some a))).run P w = .ok v w := by
  simp [Instr.loadAt, Instr.sureAddr, loadVar, run_isAgg_scal hs, hc]
theorem run_loadRow {k : Nat} {cs : List Value} (hr : rowOf P t = some k) (hl : cs.length = k) (hc : ∀ j u, cs[j]? = some u → w.cell? (a.add j) = some u) :
    (Instr.loadAt t (.pointer (some a))).run P w = .ok (.agg cs.toArray) w := by
  have h := run_loadCells_list (P := P) w a cs hc
  rw [hl] at h
  simp [Instr.loadAt, Instr.sureAddr, loadVar, run_isAgg_row hr, run_sizeOf_row hr, h]
theorem run_store1 (hs : scal P t = true) (hv : v.oneCell' = true) (hc : w.cell? a = some u) (hf : w.frozen? a = false) :
    (Instr.storeAt t (.pointer (some a)) v).run P w = .ok () (w.setCell a v) := by
  have hcells : v.cells = #[v] := by cases v <;> first | rfl | cases hv
  simp [Instr.storeAt, Instr.sureAddr, storeVar, run_sizeOf_scal hs, hcells, storeCells, run_store P w a v .plain hv, hc, hf, Addr.add_zero']
end

/-! ### 2. Pure operations -/
section
variable {P : Program} {e : Env} {w : World} {d : Option Nat} {ty t t2 : TypeId} {pos : String} {aft : Array Edge} {g : Option (Nat × Bool)} {x y : Operand} {v : Value}

theorem Y_bin {op : BinOp} {k : IntKind} {k' : IntKind} {a b : Int} (hx : ev e x = .int k a) (hy : ev e y = .int k' b) (h : (binOp op t (.int k a) (.int k' b)).run P w = .ok v w) :
    Yl P ⟨d, .binOp op t x y t2, ty, pos, aft, g⟩ e w v := by
  have h2 : eqGuard op t x y (.int k a) (.int k' b) = pure () := eqGuard_at_int ..
  simp [Yl, execOp, hx, hy, h2, h]

theorem wrapU (k : IntKind) (hk : k.signed = false) (n : Nat) : k.wrap (n : Int) = ((n % 2 ^ k.bits : Nat) : Int) := by
  cases k <;> first | (exact absurd hk (by decide)) | simp [IntKind.wrap, IntKind.bits, IntKind.signed]

/- Signed sums: the script tells what comes of the wrap. -/
theorem Y_add {k : IntKind} {a b z : Int} (hx : ev e x = .int k a) (hy : ev e y = .int k b) (hz : k.wrap (a + b) = z) : Yl P ⟨d, .binOp .add t x y t2, ty, pos, aft, g⟩ e w (.int k z) :=
  Y_bin hx hy (by simp [binOp_add, Op.intArith, hz])
theorem Y_sub {k : IntKind} {a b z : Int} (hx : ev e x = .int k a) (hy : ev e y = .int k b) (hz : k.wrap (a - b) = z) : Yl P ⟨d, .binOp .sub t x y t2, ty, pos, aft, g⟩ e w (.int k z) :=
  Y_bin hx hy (by simp [binOp_sub, Op.intArith, hz])
theorem Y_mul {k : IntKind} {a b z : Int} (hx : ev e x = .int k a) (hy : ev e y = .int k b) (hz : k.wrap (a * b) = z) : Yl P ⟨d, .binOp .mul t x y t2, ty, pos, aft, g⟩ e w (.int k z) :=
  Y_bin hx hy (by simp [binOp_mul, Op.intArith, hz])
theorem Y_quo {k : IntKind} {a b z : Int} (hx : ev e x = .int k a) (hy : ev e y = .int k b) (h0 : b ≠ 0) (hz : k.wrap (a.tdiv b) = z) : Yl P ⟨d, .binOp .quo t x y t2, ty, pos, aft, g⟩ e w (.int k z) :=
  Y_bin hx hy (by simp [binOp_quo, Op.intDiv, hz, h0])
theorem Y_rem {k : IntKind} {a b z : Int} (hx : ev e x = .int k a) (hy : ev e y = .int k b) (h0 : b ≠ 0) (hz : a.tmod b = z) : Yl P ⟨d, .binOp .rem t x y t2, ty, pos, aft, g⟩ e w (.int k z) :=
  Y_bin hx hy (by simp [binOp_rem, Op.intDiv, hz, h0])
theorem Y_eql {k : IntKind} {a b : Int} (hx : ev e x = .int k a) (hy : ev e y = .int k b) : Yl P ⟨d, .binOp .eql t x y t2, ty, pos, aft, g⟩ e w (.bool (a == b)) := Y_bin hx hy (by simp [binOp_eql])
theorem Y_neq {k : IntKind} {a b : Int} (hx : ev e x = .int k a) (hy : ev e y = .int k b) : Yl P ⟨d, .binOp .neq t x y t2, ty, pos, aft, g⟩ e w (.bool (a != b)) := Y_bin hx hy (by simp [binOp_neq])
theorem Y_lss {k : IntKind} {a b : Int} (hx : ev e x = .int k a) (hy : ev e y = .int k b) : Yl P ⟨d, .binOp .lss t x y t2, ty, pos, aft, g⟩ e w (.bool (decide (a < b))) := Y_bin hx hy (by simp [binOp_lss])
theorem Y_leq {k : IntKind} {a b : Int} (hx : ev e x = .int k a) (hy : ev e y = .int k b) : Yl P ⟨d, .binOp .leq t x y t2, ty, pos, aft, g⟩ e w (.bool (decide (a ≤ b))) := Y_bin hx hy (by simp [binOp_leq])
theorem Y_gtr {k : IntKind} {a b : Int} (hx : ev e x = .int k a) (hy : ev e y = .int k b) : Yl P ⟨d, .binOp .gtr t x y t2, ty, pos, aft, g⟩ e w (.bool (decide (b < a))) := Y_bin hx hy (by simp [binOp_gtr])
theorem Y_geq {k : IntKind} {a b : Int} (hx : ev e x = .int k a) (hy : ev e y = .int k b) : Yl P ⟨d, .binOp .geq t x y t2, ty, pos, aft, g⟩ e w (.bool (decide (b ≤ a))) := Y_bin hx hy (by simp [binOp_geq])

/- Unsigned numbers, as natural numbers. -/
theorem bits_and_nat (k : IntKind) (hk : k.signed = false) (a b : Nat) (ha : a < 2 ^ k.bits) (hb : b < 2 ^ k.bits) : bits .and k (a : Int) (b : Int) = ((a &&& b : Nat) : Int) := by
  simp only [bits]
  rw [wrapU k hk]
  congr 1
  simp only [BitVec.toNat_and, BitVec.ofInt_natCast, BitVec.toNat_ofNat, Nat.mod_eq_of_lt ha, Nat.mod_eq_of_lt hb]
  exact Nat.mod_eq_of_lt (Nat.lt_of_le_of_lt Nat.and_le_left ha)
theorem bits_or_nat (k : IntKind) (hk : k.signed = false) (a b : Nat) (ha : a < 2 ^ k.bits) (hb : b < 2 ^ k.bits) : bits .or k (a : Int) (b : Int) = ((a ||| b : Nat) : Int) := by
  simp only [bits]
  rw [wrapU k hk]
  congr 1
  simp only [BitVec.toNat_or, BitVec.ofInt_natCast, BitVec.toNat_ofNat, Nat.mod_eq_of_lt ha, Nat.mod_eq_of_lt hb]
  exact Nat.mod_eq_of_lt (Nat.or_lt_two_pow ha hb)
theorem bits_xor_nat (k : IntKind) (hk : k.signed = false) (a b : Nat) (ha : a < 2 ^ k.bits) (hb : b < 2 ^ k.bits) : bits .xor k (a : Int) (b : Int) = ((a ^^^ b : Nat) : Int) := by
  simp only [bits]
  rw [wrapU k hk]
  congr 1
  simp only [BitVec.toNat_xor, BitVec.ofInt_natCast, BitVec.toNat_ofNat, Nat.mod_eq_of_lt ha, Nat.mod_eq_of_lt hb]
  exact Nat.mod_eq_of_lt (Nat.xor_lt_two_pow ha hb)

variable {k : IntKind} {a b : Nat}
theorem Yu_add (hk : k.signed = false) (a b : Nat) (hx : ev e x = .int k (a : Int)) (hy : ev e y = .int k (b : Int)) : Yl P ⟨d, .binOp .add t x y t2, ty, pos, aft, g⟩ e w (.int k (((a + b) % 2 ^ k.bits : Nat) : Int)) :=
  Y_add hx hy (by rw [← wrapU k hk]; simp)
theorem Yu_mul (hk : k.signed = false) (a b : Nat) (hx : ev e x = .int k (a : Int)) (hy : ev e y = .int k (b : Int)) : Yl P ⟨d, .binOp .mul t x y t2, ty, pos, aft, g⟩ e w (.int k (((a * b) % 2 ^ k.bits : Nat) : Int)) :=
  Y_mul hx hy (by rw [← wrapU k hk]; simp)
theorem Yu_sub (hk : k.signed = false) (a b : Nat) (hb : b ≤ 2 ^ k.bits) (hx : ev e x = .int k (a : Int)) (hy : ev e y = .int k (b : Int)) : Yl P ⟨d, .binOp .sub t x y t2, ty, pos, aft, g⟩ e w (.int k (((a + (2 ^ k.bits - b)) % 2 ^ k.bits : Nat) : Int)) :=
  Y_sub hx hy (by
    cases k <;> first | (exact absurd hk (by decide)) | (simp only [IntKind.bits] at hb ⊢; simp [IntKind.wrap, IntKind.bits, IntKind.signed]; omega))
theorem Yu_quo (hk : k.signed = false) (a b : Nat) (ha : a < 2 ^ k.bits) (hx : ev e x = .int k (a : Int)) (hy : ev e y = .int k (b : Int)) (h0 : b ≠ 0) : Yl P ⟨d, .binOp .quo t x y t2, ty, pos, aft, g⟩ e w (.int k ((a / b : Nat) : Int)) :=
  Y_quo hx hy (by omega) (by
    rw [show (a : Int).tdiv (b : Int) = ((a / b : Nat) : Int) from rfl, wrapU k hk]
    congr 1
    exact Nat.mod_eq_of_lt (Nat.lt_of_le_of_lt (Nat.div_le_self _ _) ha))
theorem Yu_rem (a b : Nat) (hx : ev e x = .int k (a : Int)) (hy : ev e y = .int k (b : Int)) (h0 : b ≠ 0) : Yl P ⟨d, .binOp .rem t x y t2, ty, pos, aft, g⟩ e w (.int k ((a % b : Nat) : Int)) :=
  Y_rem hx hy (by omega) rfl
theorem Yu_and (hk : k.signed = false) (a b : Nat) (ha : a < 2 ^ k.bits) (hb : b < 2 ^ k.bits) (hx : ev e x = .int k (a : Int)) (hy : ev e y = .int k (b : Int)) : Yl P ⟨d, .binOp .and t x y t2, ty, pos, aft, g⟩ e w (.int k ((a &&& b : Nat) : Int)) :=
  Y_bin hx hy (by rw [binOp_and, intBits_and, bits_and_nat k hk a b ha hb]; rfl)
theorem Yu_or (hk : k.signed = false) (a b : Nat) (ha : a < 2 ^ k.bits) (hb : b < 2 ^ k.bits) (hx : ev e x = .int k (a : Int)) (hy : ev e y = .int k (b : Int)) : Yl P ⟨d, .binOp .or t x y t2, ty, pos, aft, g⟩ e w (.int k ((a ||| b : Nat) : Int)) :=
  Y_bin hx hy (by rw [binOp_or, intBits_or, bits_or_nat k hk a b ha hb]; rfl)
theorem Yu_xor (hk : k.signed = false) (a b : Nat) (ha : a < 2 ^ k.bits) (hb : b < 2 ^ k.bits) (hx : ev e x = .int k (a : Int)) (hy : ev e y = .int k (b : Int)) : Yl P ⟨d, .binOp .xor t x y t2, ty, pos, aft, g⟩ e w (.int k ((a ^^^ b : Nat) : Int)) :=
  Y_bin hx hy (by rw [binOp_xor, intBits_xor, bits_xor_nat k hk a b ha hb]; rfl)
theorem Yu_shr {k' : IntKind} (a b : Nat) (ha : a < 2 ^ k.bits) (hx : ev e x = .int k (a : Int)) (hy : ev e y = .int k' (b : Int)) : Yl P ⟨d, .binOp .shr t x y t2, ty, pos, aft, g⟩ e w (.int k ((a / 2 ^ b : Nat) : Int)) :=
  Y_bin hx hy (by
    have h0 : ¬ ((b : Int) < 0) := by omega
    have hm : (a : Int).fdiv (2 ^ min b k.bits) = ((a / 2 ^ b : Nat) : Int) := by
      have hp : (2 : Int) ^ min b k.bits = ((2 ^ min b k.bits : Nat) : Int) := by simp
      rw [hp, Int.fdiv_eq_ediv_of_nonneg _ (Int.natCast_nonneg _), ← Int.natCast_ediv]
      congr 1
      by_cases hb : b ≤ k.bits
      · rw [Nat.min_eq_left hb]
      · rw [Nat.min_eq_right (by omega), Nat.div_eq_of_lt ha, Nat.div_eq_of_lt (Nat.lt_of_lt_of_le ha (Nat.pow_le_pow_right (by omega) (by omega)))]
    simp only [binOp_shr, Op.shift, if_neg h0, Int.toNat_natCast, hm]; rfl)
theorem Yu_shl {k' : IntKind} (hk : k.signed = false) (a b : Nat) (hx : ev e x = .int k (a : Int)) (hy : ev e y = .int k' (b : Int)) : Yl P ⟨d, .binOp .shl t x y t2, ty, pos, aft, g⟩ e w (.int k ((a * 2 ^ b % 2 ^ k.bits : Nat) : Int)) :=
  Y_bin hx hy (by
    have h0 : ¬ ((b : Int) < 0) := by omega
    have hm : k.wrap ((a : Int) * 2 ^ min b k.bits) = ((a * 2 ^ b % 2 ^ k.bits : Nat) : Int) := by
      have hp : (a : Int) * (2 : Int) ^ min b k.bits = ((a * 2 ^ min b k.bits : Nat) : Int) := by simp
      rw [hp, wrapU k hk]
      congr 1
      by_cases hb : b ≤ k.bits
      · rw [Nat.min_eq_left hb]
      · rw [Nat.min_eq_right (by omega)]
        obtain ⟨c, rfl⟩ : ∃ c, b = k.bits + c := ⟨b - k.bits, by omega⟩
        rw [Nat.pow_add, Nat.mul_mod_left, ← Nat.mul_assoc, Nat.mul_right_comm, Nat.mul_mod_left]
    simp only [binOp_shl, Op.shift, if_neg h0, Int.toNat_natCast, hm]; rfl)

theorem Y_convI {k' : IntKind} {n z : Int} (hs : (P.underlying t).isSome = true) (hd : kindOf P t2 = some k') (hx : ev e x = .int k n) (hz : k'.wrap n = z) : Yl P ⟨d, .convert t t2 x, ty, pos, aft, g⟩ e w (.int k' z) := by
  have hu : P.underlying t2 = some (.int k') := by
    unfold kindOf at hd
    split at hd
    · injection hd with hd; subst hd; assumption
    · cases hd
  have hk : P.intKind t2 = k' := by simp [Program.intKind, hu]
  have := run_convert_int (P := P) w t t2 k n hs (by rw [hk]; exact hu)
  rw [hk] at this
  simp [Yl, execOp, hx, this, hz]

theorem Y_not {b : Bool} (hx : ev e x = .bool b) : Yl P ⟨d, .unOp .not t x, ty, pos, aft, g⟩ e w (.bool (!b)) := by
  simp [Yl, execOp, hx, Op.unary]

theorem Y_pickT {c : Operand} (hc : ev e c = .bool true) : Yl P ⟨d, .pick c x y, ty, pos, aft, g⟩ e w (ev e x) := by
  simp [Yl, execOp, hc, asBool]
theorem Y_pickF {c : Operand} (hc : ev e c = .bool false) : Yl P ⟨d, .pick c x y, ty, pos, aft, g⟩ e w (ev e y) := by
  simp [Yl, execOp, hc, asBool]
theorem Y_nil {a : Addr} (hx : ev e x = .pointer (some a)) : Yl P ⟨d, .nilCheck x, ty, pos, aft, g⟩ e w (.pointer (some a)) := by
  simp [Yl, execOp, hx]
theorem Y_ext {vs : Array Value} {i : Nat} (hx : ev e x = .tuple vs) (hv : vs[i]? = some v) : Yl P ⟨d, .extract x i, ty, pos, aft, g⟩ e w v := by
  simp [Yl, execOp, hx, Instr.extract, hv]
end
end Go.Ev
