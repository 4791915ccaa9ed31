/- Opening of an element, of a point, of a seed and of a scalar that are handed in. -/
import Derived.Test.YtbjpaggkmlgnoaaChecked
import Derived.Test.YtbjpaggkmlgnoaaG1
import Derived.Test.YtbjpaggkmlgnoaaEdLaw3
import Derived.Test.YtbjpaggkmlgnoaaVL
namespace Go.Proofs.Ytbjpaggkmlgnoaa
open Go.Ev Go.ChangeShapes Go.WideShapes Go.ChangeAt Go.RowKit
theorem Try.own : ownKnob Try.prog.godebug = none := by kernel_rfl
theorem Try.laidOut : laidOutB Try.prog = true := by kernel_rfl
section
variable {H : Type} {enc : TypeId × Value → H} {P : Program}
theorem trod_row {n m fuel b' : Nat} {sp : Nat → Bool} {held : Bool} {k : IntKind} {t e : TypeId} {W : World} {cs : List Value} {x : DataW H × List MemPlace} (ht : P.underlying t = some (.array n e)) (he : P.underlying e = some (.int k)) (hc : P.cellsOf e = 1) (hct : P.cellsOf t = n)
    (hmin : k.min = 0) (hmax : k.max + 1 = (m : Int)) (h : DataW.trod enc P W b' sp held fuel t cs = some x) : ∃ l, cs = us k l ∧ Wd n m l := by
  obtain ⟨xs, q, _, _, hlen, hl, hel⟩ := DataW.trod_array ht h
  rw [hct] at hlen
  have key : ∀ i (hi : i < cs.length), ∃ u : Nat, cs[i] = .int k (u : Int) ∧ u < m := by
    intro i hi
    have h1 := hel i (by omega)
    rw [hc, Nat.mul_one] at h1
    have h2 : (cs.drop i).take 1 = [cs[i]] := by rw [List.drop_eq_getElem_cons hi]; rfl
    rw [h2] at h1
    obtain ⟨y, hy⟩ : ∃ y, xs[i]? = some y := ⟨_, List.getElem?_eq_getElem (by omega)⟩
    rw [hy] at h1
    obtain ⟨z, hz, _, hw⟩ := DataW.trod_int he h1
    simp only [List.cons.injEq, and_true] at hz
    simp only [Lit.wf, Bool.and_eq_true, decide_eq_true_eq] at hw
    rw [hmin] at hw
    refine ⟨z.toNat, ?_, by omega⟩
    rw [hz, Int.toNat_of_nonneg hw.1]
  refine ⟨cs.map (fun v => match v with | .int _ z => z.toNat | _ => 0), ?_, ?_, ?_⟩
  · refine List.ext_getElem (by simp [us]) fun i hi _ => ?_
    obtain ⟨u, hu, _⟩ := key i hi
    simp [us, hu]
  · simp [hlen]
  · intro u hu
    obtain ⟨x, hx, rfl⟩ := List.mem_map.1 hu
    obtain ⟨i, hi, rfl⟩ := List.getElem_of_mem hx
    obtain ⟨u, hu, hlt⟩ := key i hi
    simp [hu]
    exact hlt
end
theorem fe_open {H : Type} {enc : TypeId × Value → H} {b base : Nat} {sp : Nat → Bool} {held : Bool} {W : World} {r : Reach} {v : Value} {d : DataW H} {ps : List MemPlace}
    (hok : Value.okWide Try.prog W r b 24 v) (h : DataW.Trod enc Try.prog W base sp held 24 v d ps) : ∃ A, A < 115792089237316195423570985008687907853269984665640564039457584007913129639936 ∧ v = .agg (ua .u64 (Lm.w4 A)) := by
  obtain ⟨l, rfl, hl⟩ := open_row (m := 18446744073709551616) Try.underlying24 Try.underlying22 (by kernel_rfl) (by kernel_rfl) (by decide) (by decide) hok h
  obtain ⟨e, h1⟩ := w4_of hl
  exact ⟨_, h1, by rw [← e]⟩
theorem k_open {H : Type} {enc : TypeId × Value → H} {b base : Nat} {sp : Nat → Bool} {held : Bool} {W : World} {r : Reach} {v : Value} {d : DataW H} {ps : List MemPlace}
    (hok : Value.okWide Try.prog W r b 62 v) (h : DataW.Trod enc Try.prog W base sp held 62 v d ps) : ∃ A, A < 115792089237316195423570985008687907853269984665640564039457584007913129639936 ∧ v = .agg (ua .u8 (Lm.b32 A)) := by
  obtain ⟨l, rfl, hl⟩ := open_row (m := 256) Try.underlying62 Try.underlying5 (by kernel_rfl) (by kernel_rfl) (by decide) (by decide) hok h
  have h1 := Lm.dv_lt_pow hl.2
  have h2 := Lm.dg_dv hl.2
  rw [hl.1] at h1 h2
  exact ⟨_, h1, by rw [Lm.b32, h2]⟩
theorem fe_cells {H : Type} {enc : TypeId × Value → H} {base fuel : Nat} {sp : Nat → Bool} {held : Bool} {W : World} {cs : List Value} {x : DataW H × List MemPlace}
    (h : DataW.trod enc Try.prog W base sp held fuel 24 cs = some x) : ∃ A, A < 115792089237316195423570985008687907853269984665640564039457584007913129639936 ∧ cs = us .u64 (Lm.w4 A) := by
  obtain ⟨l, rfl, hl⟩ := trod_row (m := 18446744073709551616) Try.underlying24 Try.underlying22 (by kernel_rfl) (by kernel_rfl) (by decide) (by decide) h
  obtain ⟨e, h1⟩ := w4_of hl
  exact ⟨_, h1, by rw [← e]⟩
theorem us_app (k : IntKind) (a b : List Nat) : us k a ++ us k b = us k (a ++ b) := by simp [us]
theorem pt_open {H : Type} {enc : TypeId × Value → H} {b base : Nat} {sp : Nat → Bool} {held : Bool} {W : World} {r : Reach} {v : Value} {d : DataW H} {ps : List MemPlace}
    (hok : Value.okWide Try.prog W r b 26 v) (h : DataW.Trod enc Try.prog W base sp held 26 v d ps) : ∃ P : Lm.P4, P.ok ∧ v = .agg (ua .u64 (Lm.l4 P)) := by
  have hc26 : Try.prog.cellsOf 26 = 16 := by kernel_rfl
  have hc24 : Try.prog.cellsOf 24 = 4 := by kernel_rfl
  obtain ⟨cs, rfl, hsz, _⟩ : ∃ cs, v = .agg cs ∧ cs.size = Try.prog.cellsOf 26 ∧ Row.okWide Try.prog W r b 26 cs := by simpa [Value.okWide, Try.underlying26] using hok
  obtain ⟨fuel, hf⟩ := h
  obtain ⟨xs, q, _, _, hlen, hl, hel⟩ := DataW.trod_struct Try.underlying26 hf
  obtain ⟨l0⟩ := cs
  have hl16 : l0.length = 16 := by rw [← hc26, ← hsz]; rfl
  have hl4 : xs.length = 4 := hl
  have get : ∀ i, i < 4 → ∃ y, xs[i]? = some y := fun i hi => ⟨_, List.getElem?_eq_getElem (by omega)⟩
  obtain ⟨y0, e0⟩ := get 0 (by omega)
  obtain ⟨y1, e1⟩ := get 1 (by omega)
  obtain ⟨y2, e2⟩ := get 2 (by omega)
  obtain ⟨y3, e3⟩ := get 3 (by omega)
  have f0 := hel 0 _ rfl
  have f1 := hel 1 _ rfl
  have f2 := hel 2 _ rfl
  have f3 := hel 3 _ rfl
  rw [e0] at f0
  rw [e1] at f1
  rw [e2] at f2
  rw [e3] at f3
  obtain ⟨a, ha, g0⟩ := fe_cells f0
  obtain ⟨bb, hb, g1⟩ := fe_cells f1
  obtain ⟨c, hc, g2⟩ := fe_cells f2
  obtain ⟨dd, hd, g3⟩ := fe_cells f3
  refine ⟨⟨a, bb, c, dd⟩, ⟨ha, hb, hc, hd⟩, ?_⟩
  have g0 : (l0.drop 0).take (Try.prog.cellsOf 24) = us .u64 (Lm.w4 a) := g0
  rw [hc24] at g0
  have g1 : (l0.drop 4).take (Try.prog.cellsOf 24) = us .u64 (Lm.w4 bb) := g1
  rw [hc24] at g1
  have g2 : (l0.drop 8).take (Try.prog.cellsOf 24) = us .u64 (Lm.w4 c) := g2
  rw [hc24] at g2
  have g3 : (l0.drop 12).take (Try.prog.cellsOf 24) = us .u64 (Lm.w4 dd) := g3
  rw [hc24] at g3
  have cut : ∀ k, (l0.drop k).take 4 ++ l0.drop (k + 4) = l0.drop k := fun k => by rw [← List.drop_drop]; exact List.take_append_drop 4 _
  have hend : l0.drop (12 + 4) = [] := List.drop_eq_nil_of_le (by omega)
  have e : l0 = us .u64 (Lm.l4 ⟨a, bb, c, dd⟩) := by
    have c0 := cut 0
    have c1 := cut 4
    have c2 := cut 8
    have c3 := cut 12
    rw [hend, g3, List.append_nil] at c3
    rw [g2, ← c3] at c2
    rw [g1, ← c2] at c1
    rw [g0, ← c1] at c0
    rw [List.drop_zero] at c0
    rw [← c0, us_app, us_app, us_app]
    simp [Lm.l4]
  rw [e]; rfl
theorem sd_open {H : Type} {enc : TypeId × Value → H} {b base : Nat} {sp : Nat → Bool} {held : Bool} {W : World} {r : Reach} {v : Value} {d : DataW H} {ps : List MemPlace}
    (hok : Value.okWide Try.prog W r b 42 v) (h : DataW.Trod enc Try.prog W base sp held 42 v d ps) : ∃ A : Lm.Sd, A.y < 115792089237316195423570985008687907853269984665640564039457584007913129639936 ∧ v = .agg (sd A.y A.odd) := by
  have hc42 : Try.prog.cellsOf 42 = 5 := by kernel_rfl
  have hc24 : Try.prog.cellsOf 24 = 4 := by kernel_rfl
  have hc4 : Try.prog.cellsOf 4 = 1 := by kernel_rfl
  obtain ⟨cs, rfl, hsz, _⟩ : ∃ cs, v = .agg cs ∧ cs.size = Try.prog.cellsOf 42 ∧ Row.okWide Try.prog W r b 42 cs := by simpa [Value.okWide, Try.underlying42] using hok
  obtain ⟨fuel, hf⟩ := h
  obtain ⟨xs, q, _, _, hlen, hl, hel⟩ := DataW.trod_struct Try.underlying42 hf
  obtain ⟨l0⟩ := cs
  have hl5 : l0.length = 5 := by rw [← hc42, ← hsz]; rfl
  have hl2 : xs.length = 2 := hl
  obtain ⟨y0, e0⟩ : ∃ y, xs[0]? = some y := ⟨_, List.getElem?_eq_getElem (by omega)⟩
  obtain ⟨y1, e1⟩ : ∃ y, xs[1]? = some y := ⟨_, List.getElem?_eq_getElem (by omega)⟩
  have f0 := hel 0 _ rfl
  have f1 := hel 1 _ rfl
  rw [e0] at f0
  rw [e1] at f1
  obtain ⟨a, ha, g0⟩ := fe_cells f0
  obtain ⟨o, g1, _⟩ := DataW.trod_bool Try.underlying4 f1
  refine ⟨⟨a, o⟩, ha, ?_⟩
  have g0 : l0.take (Try.prog.cellsOf 24) = us .u64 (Lm.w4 a) := g0
  rw [hc24] at g0
  have g1 : (l0.drop 4).take (Try.prog.cellsOf 4) = [.bool o] := g1
  rw [hc4] at g1
  have e : l0 = us .u64 (Lm.w4 a) ++ [.bool o] := by
    rw [← g0, ← g1, List.take_of_length_le (l := l0.drop 4) (by simp; omega), List.take_append_drop]
  rw [e]; rfl
end Go.Proofs.Ytbjpaggkmlgnoaa
