/- Own words: texts joined, measured and cut. -/
import Derived.Test.YtgmmifpflllkfaaV17
import Derived.Laws.Slices
namespace Go.Ev
section
variable {P : Program} {e : Env} {w : World} {d : Option Nat} {ty t t2 : TypeId} {pos : String} {aft : Array Edge} {g : Option (Nat × Bool)} {x y : Operand}
theorem bs_size (l : List Nat) : (bs l).size = l.length := by rw [bs, strOfNums_size, List.length_map]
theorem bs_ext {a b : ByteArray} (h : a.data.toList = b.data.toList) : a = b := by
  cases a; cases b
  congr 1
  exact Array.toList_inj.1 h
theorem bs_data (l : List Nat) : (bs l).data.toList = l.map fun (n : Nat) => UInt8.ofNat n := by
  rw [← ByteArray.toList_eq, bs_list]
theorem bs_append (l1 l2 : List Nat) : bs l1 ++ bs l2 = bs (l1 ++ l2) := by
  refine bs_ext ?_
  rw [ByteArray.data_append, Array.toList_append, bs_data, bs_data, bs_data, List.map_append]
theorem bs_take (l : List Nat) (h : Nat) : (bs l).extract 0 h = bs (l.take h) := by
  refine bs_ext ?_
  rw [ByteArray.data_extract, Array.toList_extract, bs_data, bs_data]
  simp [List.extract]
theorem Y_addT {l1 l2 : List Nat} (hl : l1.length + l2.length ≤ 9223372036854775807) (hx : ev e x = .string (bs l1)) (hy : ev e y = .string (bs l2)) :
    Yl P ⟨d, .binOp .add t x y t2, ty, pos, aft, g⟩ e w (.string (bs (l1 ++ l2))) := by
  have e1 : ¬ (((bs l1).size + (bs l2).size : Nat) : Int) > IntKind.i64.max := by
    rw [bs_size, bs_size]
    show ¬ (9223372036854775807 : Int) < _
    omega
  have hq : eqGuard .add t x y (.string (bs l1)) (.string (bs l2)) = pure () := by simp [eqGuard]
  have e2 : (Op.stringOp .add (bs l1) (bs l2)).run P w = .ok (.string (bs (l1 ++ l2))) w := by
    unfold Op.stringOp
    rw [if_neg e1, bs_append]
    rfl
  simp [Yl, execOp, hx, hy, hq, binOp_string_add, e2]
theorem Y_lenT {l : List Nat} (hu : P.underlying t = some .string) (hx : ev e x = .string (bs l)) :
    Yl P ⟨d, .call { callee := .builtin .len, args := #[x], argTypes := #[t] }, ty, pos, aft, g⟩ e w (.int .i64 ((l.length : Nat) : Int)) := by
  simp [Yl, execOp, resolve, invoke, builtin, hx, run_len_string w t ty (bs l) hu, goInt, bs_size]
theorem Y_cutT {l : List Nat} {k : IntKind} {h : Nat} (hu : P.underlying t = some .string) (hx : ev e x = .string (bs l)) (hy : ev e y = .int k (h : Int)) (hh : h ≤ l.length) :
    Yl P ⟨d, .slice t x none (some y) none, ty, pos, aft, g⟩ e w (.string (bs (l.take h))) := by
  have := run_slice_string_h (P := P) w t (bs l) hu k (h : Int) (by omega) (by rw [bs_size]; omega)
  simp [Yl, execOp, hx, hy, Instr.sliceAt, run_underlying hu, this, bs_take]
/-- An int as a number of 64 bits. -/
def un (a : Int) : Nat := (a % 18446744073709551616).toNat
theorem un_lt (a : Int) : un a < 18446744073709551616 := by unfold un; omega
theorem un_wrap (a : Int) : IntKind.wrap .u64 a = ((un a : Nat) : Int) := by
  have : IntKind.wrap .u64 a = a % 18446744073709551616 := by
    simp only [IntKind.wrap, IntKind.bits, IntKind.signed]
    simp
  rw [this]
  unfold un
  omega
theorem un_nn {a : Int} (h : 0 ≤ a) (h2 : a ≤ 9223372036854775807) : ((un a : Nat) : Int) = a := by unfold un; omega
end
end Go.Ev
