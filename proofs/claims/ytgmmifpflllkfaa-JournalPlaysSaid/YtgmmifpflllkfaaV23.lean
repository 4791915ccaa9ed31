/- Own words: a text's bytes as a slice. -/
import Derived.Test.YtgmmifpflllkfaaV22
import Derived.Test.YtgmmifpflllkfaaV18
import Derived.Lib.ConvBytes
import Derived.Laws.AppendOwn
namespace Go.Ev
section
variable {P : Program} {n : Nat} {ops : Array Oper} {rest : List Oper} {Q : Exit → Env → World → Prop} {e : Env} {w w0 : World} {S : List Nat} {es : List Ent} {b0 : Nat} {t t2 et ty : TypeId} {pos : String} {aft : Array Edge} {x : Operand} {l : List Nat}
theorem Keep.strB (w : World) (et : TypeId) (s : ByteArray) : Keep w (Lib.bytesWorld w et s) := by
  refine ⟨?_, ?_, ?_, ?_, fun j hj _ => Lib.bytesWorld_at_old w et s j hj, by simp, by simp, by simp⟩
  · unfold Lib.bytesWorld World.freeze; rw [if_neg (by decide)]; rfl
  · unfold Lib.bytesWorld World.freeze; rw [if_neg (by decide)]; rfl
  · unfold Lib.bytesWorld World.freeze; rw [if_neg (by decide)]; rfl
  · rw [Lib.bytesWorld_size]; omega
theorem L_strB (hd : Nat.blt b0 n = true) (H : Hp w0 S w es) (hs : P.underlying t = some .string) (ht : P.underlying t2 = some (.slice et)) (he : P.underlying et = some (.int .u8)) (hx : ev e x = .string (bs l)) (hlt : ∀ u ∈ l, u < 256)
    (hk : ∀ a c w', Hp w0 S w' es → Sl w' .u8 a l.length c l → L P n ops Q rest (upd e b0 (.slice a l.length c)) w') : L P n ops Q (⟨some b0, .convert t t2 x, ty, pos, aft, none⟩ :: rest) e w := by
  have hr := Lib.run_convert_string_bytes (P := P) w t t2 et (bs l) hs ht he
  rw [bs_size] at hr
  refine L_do rfl hd (R := fun v' w' => v' = _ ∧ w' = _) (Dn.val (v := .slice (some ⟨w.heap.size, 0, none⟩) l.length (grownCap w l.length 0 et)) (w' := Lib.bytesWorld w et (bs l)) ?_ ⟨rfl, rfl⟩) ?_
  · simp [execOp, hx, hr]
  · rintro _ _ ⟨rfl, rfl⟩
    refine hk _ _ _ (H.keep (Keep.strB w et (bs l))) ⟨Rd.of fun j u hu => ?_, rfl, ?_, fun h => by cases h⟩
    · have hj := (List.getElem?_eq_some_iff.1 hu).1
      rw [Nat.zero_add, Lib.bytesWorld_cell w et (bs l) j (by rw [bs_size]; exact hj), bs_data]
      have hu2 := hlt u (List.mem_of_getElem? hu)
      simp [List.getD, hu]
      omega
    · exact grownCap_ge w _ 0 et
end
end Go.Ev
