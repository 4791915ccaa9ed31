/- Own words for walks, tenth part: a part of a block is written; the lowest byte of a signed number. -/
import Derived.Test.YtgmmifpflllkfaaV9
namespace Go.Ev
section
variable {P : Program} {e : Env} {w w0 w' : World} {S : List Nat} {l : List Ent} {d : Option Nat} {ty t t2 et : TypeId} {pos : String} {aft : Array Edge} {g : Option (Nat × Bool)} {x y : Operand} {v : Value}
variable {n z : Nat} {ops : Array Oper} {rest : List Oper} {Q : Exit → Env → World → Prop} {op : Op} {b0 : Nat}

/-- A row of numbers is laid into a block, from a place on. -/
def lay (l1 : List Nat) (o : Nat) (l2 : List Nat) : List Nat := l1.take o ++ l2 ++ l1.drop (o + l2.length)
theorem L_stp {k : IntKind} {b i o m : Nat} {bt : TypeId} {l1 l2 : List Nat} (hs : rowOf P t = some m) (H : Hp w0 S w l) (hi : l[i]? = some (.blk b bt (ua k l1))) (hx : ev e x = .pointer (some ⟨b, o, none⟩)) (hy : ev e y = .agg (ua k l2)) (hm : l2.length = m) (hfit : o + m ≤ l1.length)
    (hk : ∀ w', Hp w0 S w' (l.set i (.blk b bt (ua k (lay l1 o l2)))) → L P n ops Q rest e w') : L P n ops Q (⟨none, .store t x y, ty, pos, aft, none⟩ :: rest) e w := by
  have hb := H.get i hi
  have h2 : (ua k l2).size = m := by rw [ua_size, hm]
  have hr := run_storeCells_at P b o bt (ua k l2).toList 0 (ua k l1) w hb (by rw [Array.length_toList, ua_size, ua_size]; omega) (ua_one k l2)
  have he : ((ua k l1).toList.take (o + 0) ++ (ua k l2).toList ++ (ua k l1).toList.drop (o + 0 + (ua k l2).toList.length)).toArray = ua k (lay l1 o l2) := by
    simp [ua, lay, List.map_take, List.map_drop]
  rw [he] at hr
  refine L_do rfl rfl (R := fun _ w' => w' = w.setRow b (ua k (lay l1 o l2))) (Dn.skip (w' := w.setRow b (ua k (lay l1 o l2))) ?_ rfl) ?_
  · simp [execOp, hx, hy, Instr.storeAt, Instr.sureAddr, storeVar, Value.cells, run_sizeOf_row hs, h2, hr]
  · rintro _ _ rfl
    exact hk _ (H.setAll _ hi rfl)
theorem Y_neB {a b : Bool} (hu : P.underlying t = some .bool) (hx : ev e x = .bool a) (hy : ev e y = .bool b) : Yl P ⟨d, .binOp .neq t x y t2, ty, pos, aft, g⟩ e w (.bool (a != b)) := by
  have hq : eqGuard .neq t x y (.bool a) (.bool b) = pure () := eqGuard_at_bool ..
  have h3 : (a != b) = !(a == b) := rfl
  rw [h3]
  simp only [Yl, execOp, hx, hy, hq, Sem.run_bind, Sem.run_pure, Result.andThen_ok, run_neq_bool w t a b hu]
theorem Yi_and255 {a : Int} (hx : ev e x = .int .i64 a) (hy : ev e y = .int .i64 ((255 : Nat) : Int)) : Yl P ⟨d, .binOp .and t x y t2, ty, pos, aft, g⟩ e w (.int .i64 (((a % 256).toNat : Nat) : Int)) := by
  refine Y_bin hx hy ?_
  have h : bits .and .i64 a ((255 : Nat) : Int) = (((a % 256).toNat : Nat) : Int) := by
    show IntKind.i64.wrap (((BitVec.ofInt 64 a &&& BitVec.ofInt 64 ((255 : Nat) : Int)).toNat : Nat) : Int) = _
    rw [BitVec.toNat_and, BitVec.toNat_ofInt, show (BitVec.ofInt 64 ((255 : Nat) : Int)).toNat = 2 ^ 8 - 1 from by decide, Nat.and_two_pow_sub_one_eq_mod]
    have e1 : (a % ((2 ^ 64 : Nat) : Int)).toNat % 2 ^ 8 = (a % 256).toNat := by omega
    rw [e1]
    exact IntWalk.i64_in _ (by omega)
  rw [binOp_and, intBits_and, h]; rfl
end
end Go.Ev
