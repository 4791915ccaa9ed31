/- Own words, 8. -/
import Derived.Test.YtgmmifpflllkfaaV7
namespace Go.Ev
theorem ne_of_bne {a b : Int} (h : (a != b) = true) : a ≠ b := by simpa using h
theorem eq_of_bne_false {a b : Int} (h : (a != b) = false) : a = b := by simpa using h
/-- The frame gets a new name: what was written into it falls away. -/
theorem Wr_e {P : Program} {n m : Nat} {c : Code} {Q : Exit → Env → World → Prop} {e : Env} {w : World} (h : ∀ e', e' = e → Wr P n c Q m e' w) : Wr P n c Q m e w := h e rfl
theorem W_e {P : Program} {n : Nat} {c : Code} {Q : Exit → Env → World → Prop} {e : Env} {w : World} (h : ∀ e', e' = e → W P n c Q e' w) : W P n c Q e w := h e rfl
end Go.Ev
