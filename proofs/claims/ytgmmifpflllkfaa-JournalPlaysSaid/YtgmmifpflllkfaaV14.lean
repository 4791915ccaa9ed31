/- Own words for walks, fourteenth part: copy; slices with three numbers; arrays as rows. -/
import Derived.Test.YtgmmifpflllkfaaV13
import Derived.Laws.CopyRow
namespace Go.Ev

section
variable {P : Program} {e : Env} {w w0 w' : World} {S : List Nat} {es : List Ent} {d : Option Nat} {ty t t2 et : TypeId} {pos : String} {aft : Array Edge} {g : Option (Nat × Bool)} {x y : Operand} {v : Value}
variable {n z : Nat} {ops : Array Oper} {rest : List Oper} {Q : Exit → Env → World → Prop} {op : Op} {b0 : Nat} {k : IntKind} {a : Option Addr} {l : List Nat} {m c : Nat}

/-- copy into a whole block. -/
theorem L_cp {i b q c1 c2 : Nat} {l1 l2 : List Nat} (hd : Nat.blt b0 n = true) (H : Hp w0 S w es) (hi : es[i]? = some (.blk b et (ua k l1))) (ht : slOf P t = some (et, 1)) (hx : ev e x = .slice (some ⟨b, 0, none⟩) m c1) (hm : l1.length = m) (hy : ev e y = .slice a q c2) (hs : Sl w k a q c2 l2)
    (hk : ∀ w', Hp w0 S w' (es.set i (.blk b et (ua k (l2.take m ++ l1.drop q)))) → L P n ops Q rest (upd e b0 (.int .i64 ((min q m : Nat) : Int))) w') :
    L P n ops Q (⟨some b0, .call { callee := .builtin .copy, args := #[x, y], argTypes := #[t, t] }, ty, pos, aft, none⟩ :: rest) e w := by
  obtain ⟨hu, inf, hinf, hsz⟩ := slOf_eq ht
  have hb := H.get i hi
  have hlt : i < es.length := (List.getElem?_eq_some_iff.1 hi).1
  have alt : (a = none ∧ l2 = []) ∨ ∃ p, a = some p ∧ ∀ j u, (us k (l2.take m))[j]? = some u → w.cell? (p.add j) = some u := by
    rcases hs.rd with rfl | ⟨b2, o2, rfl, hc⟩
    · cases a with
      | none => exact .inl ⟨rfl, rfl⟩
      | some p => exact .inr ⟨p, rfl, fun j u hu => by simp [us] at hu⟩
    · refine .inr ⟨_, rfl, fun j u hu => ?_⟩
      simp only [us, List.getElem?_map, Option.map_eq_some_iff] at hu
      obtain ⟨u', hu', rfl⟩ := hu
      rw [add_at]
      refine hc j u' ?_
      rw [List.getElem?_take] at hu'
      split at hu'
      · exact hu'
      · cases hu'
  rcases alt with ⟨rfl, rfl⟩ | ⟨p2, rfl, hc⟩
  · have hq : q = 0 := by rw [← hs.len]; rfl
    have hc2 := hs.non rfl
    subst hq hc2
    have hr := run_copy_nil (P := P) w t t ty et ⟨b, 0, none⟩ m c1 hu (by simp [hinf])
    refine L_do rfl hd (R := fun v' w' => v' = .int .i64 ((min 0 m : Nat) : Int) ∧ w' = w) (Dn.val (v := goInt 0) (w' := w) ?_ ⟨by simp [goInt], rfl⟩) ?_
    · simp [execOp, resolve, invoke, builtin, hx, hy, hr]
    · rintro _ _ ⟨rfl, rfl⟩
      refine hk _ ?_
      rw [List.take_nil, List.nil_append, List.drop_zero]
      have e0 : es.set i (.blk b et (ua k l1)) = es := by
        refine List.ext_getElem? fun j => ?_
        by_cases hj : i = j
        · subst hj; rw [List.getElem?_set_self hlt, hi]
        · rw [List.getElem?_set_ne hj]
      rw [e0]; exact H
  · have hlen : (us k (l2.take m)).length = Nat.min q m := by rw [us_length, List.length_take, hs.len, Nat.min_comm]
    have hr := run_copy_row (P := P) w t t ty et b 0 m c1 p2 q c2 (ua k l1) et (us k (l2.take m)) hu (by simp [hinf, hsz]) hb hlen hc (by rw [hlen, ua_size, hm, Nat.zero_add]; exact Nat.min_le_right _ _) (us_one k _)
    have hcells : ((ua k l1).toList.take 0 ++ us k (l2.take m) ++ (ua k l1).toList.drop (0 + (us k (l2.take m)).length)).toArray = ua k (l2.take m ++ l1.drop q) := by
      rw [hlen, Nat.zero_add]
      have e1 : (ua k l1).toList.drop (Nat.min q m) = (ua k l1).toList.drop q := by
        by_cases h : q ≤ m
        · rw [show Nat.min q m = q from Nat.min_eq_left h]
        · have hl : (ua k l1).toList.length = m := by rw [Array.length_toList, ua_size, hm]
          rw [show Nat.min q m = m from Nat.min_eq_right (by omega), List.drop_eq_nil_of_le (by omega), List.drop_eq_nil_of_le (by omega)]
      rw [e1]
      simp [ua, us, List.map_drop]
    rw [hcells, hlen] at hr
    refine L_do rfl hd (R := fun v' w' => v' = .int .i64 ((min q m : Nat) : Int) ∧ w' = w.setRow b (ua k (l2.take m ++ l1.drop q))) (Dn.val (v := goInt (Nat.min q m)) (w' := w.setRow b (ua k (l2.take m ++ l1.drop q))) ?_ ⟨rfl, rfl⟩) ?_
    · simp [execOp, resolve, invoke, builtin, hx, hy, hr]
    · rintro _ _ ⟨rfl, rfl⟩
      exact hk _ (H.setAll _ hi rfl)

/-- A slice with an end and a room. -/
theorem Y_cut3 {kh km : IntKind} {x2 x3 : Operand} {hi mx : Nat} (ht : slOf P t = some (et, 1)) (hs : Sl w k a m c l) (hx : ev e x = .slice a m c) (hhi : ev e x2 = .int kh (hi : Int)) (hmx : ev e x3 = .int km (mx : Int)) (h1 : hi ≤ mx) (h2 : mx ≤ c) :
    Yl P ⟨d, .slice t x none (some x2) (some x3), ty, pos, aft, g⟩ e w (.slice a hi mx) := by
  have hu := (elem_of ht).1
  have h := run_slice_hm (P := P) w t a m c hu kh km (hi : Int) (mx : Int) (by omega) (by omega) (by omega)
  simp only [Int.toNat_natCast, run_sizeOf_sl ht, Result.andThen_ok] at h
  have hz := cutA_zero a mx
  unfold cutA at hz
  simp only [Nat.mul_one] at hz
  simp [Yl, execOp, hx, hhi, hmx, run_sliceAt_slice, hu, h, sliced, hz]
theorem Sl.tk3 {q : Nat} (h : Sl w k a m c l) (hq : q ≤ m) : Sl w k a q q (l.take q) := by
  have h1 := h.tk hq
  refine ⟨h1.rd, h1.len, Nat.le_refl _, fun h2 => ?_⟩
  have h3 := h.non h2
  have h4 := h.cap
  omega
/-- A block of numbers as a row of one's own (never to grow: its type is the block's). -/
theorem Hp.asRow {i b q : Nat} {bt : TypeId} {l1 : List Nat} {es' : List Ent} (H : Hp w0 S w es) (hi : es[i]? = some (.blk b bt (ua k l1))) (hq : l1.length = q) (hm : q ≤ maxLen) (hl : es.set i (.own (.slice (some ⟨b, 0, none⟩) q q) bt 1 q (us k l1)) = es') : Hp w0 S w es' :=
  H.say hi (own_of_blk (Nat.le_refl _) hm (by rw [ua_size, hq, Nat.mul_one]) (by
    rw [Nat.mul_one, List.take_of_length_le (by rw [Array.length_toList, ua_size]; omega)]
    rfl)) (fun _ h => h) hl
end
end Go.Ev
