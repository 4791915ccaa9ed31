/- Own words for walks, fifth part: guards, names, numbers in rows, arrays that are compared. -/
import Derived.Test.YtgmmifpflllkfaaVA
namespace Go.Ev

section
variable {P : Program} {e : Env} {w w0 : World} {S : List Nat} {l : List Ent} {d : Option Nat} {ty t t2 : TypeId} {pos : String} {aft : Array Edge} {g : Option (Nat × Bool)} {x y : Operand} {v : Value}
variable {n : Nat} {ops : Array Oper} {rest : List Oper} {Q : Exit → Env → World → Prop} {op : Op} {b0 : Nat}

theorem wE {j dj : Nat} {b : Bool} (hj : dstOf ops j = some dj) (hv : e dj = .bool b) : wantedE ops e (some (j, b)) = true := by
  have : (ops[j]?).bind (·.dst) = some dj := hj
  simp [wantedE, this, hv]
theorem wN {j dj : Nat} {b : Bool} (hj : dstOf ops j = some dj) (hv : e dj = .bool (!b)) : wantedE ops e (some (j, b)) = false := by
  have : (ops[j]?).bind (·.dst) = some dj := hj
  simp [wantedE, this, hv]

/- With a guard. -/
theorem G_y (hg : wantedE ops e g = true) (hd : Nat.blt b0 n = true) (hy : Yl P ⟨some b0, op, ty, pos, aft, g⟩ e w v)
    (hk : L P n ops Q rest (upd e b0 v) w) : L P n ops Q (⟨some b0, op, ty, pos, aft, g⟩ :: rest) e w :=
  L_do hg hd (R := fun v' w' => v' = v ∧ w' = w) (Dn.val hy ⟨rfl, rfl⟩) (by rintro _ _ ⟨rfl, rfl⟩; exact hk)
theorem G_mv (hg : wantedE ops e g = true) (hd : Nat.blt b0 n = true) (hk : L P n ops Q rest (upd e b0 (ev e x)) w) : L P n ops Q (⟨some b0, .move x, ty, pos, aft, g⟩ :: rest) e w := G_y hg hd rfl hk
theorem G_no (hg : wantedE ops e g = false) (hd : Nat.blt b0 n = true) (hk : L P n ops Q rest (upd e b0 undef) w) : L P n ops Q (⟨some b0, op, ty, pos, aft, g⟩ :: rest) e w := L_not hg hd hk
/-- A number that gets a name. -/
theorem L_yn {k : IntKind} {z : Nat} (hd : Nat.blt b0 n = true) (hy : Yl P ⟨some b0, op, ty, pos, aft, none⟩ e w (.int k (z : Int)))
    (hk : ∀ x : Nat, x = z → L P n ops Q rest (upd e b0 (.int k (x : Int))) w) : L P n ops Q (⟨some b0, op, ty, pos, aft, none⟩ :: rest) e w := L_y hd hy (hk z rfl)

/-! ### Arguments -/
theorem A0 : ([] : List Operand).map (ev e) = [] := rfl
theorem A1 {x : Operand} {a : Value} (h : ev e x = a) : [x].map (ev e) = [a] := by simp [h]
theorem A2 {x y : Operand} {a b : Value} (h : ev e x = a) (h2 : ev e y = b) : [x, y].map (ev e) = [a, b] := by simp [h, h2]
theorem A3 {x y z : Operand} {a b c : Value} (h : ev e x = a) (h2 : ev e y = b) (h3 : ev e z = c) : [x, y, z].map (ev e) = [a, b, c] := by simp [h, h2, h3]
theorem A4 {x y z u : Operand} {a b c d : Value} (h : ev e x = a) (h2 : ev e y = b) (h3 : ev e z = c) (h4 : ev e u = d) : [x, y, z, u].map (ev e) = [a, b, c, d] := by simp [h, h2, h3, h4]

theorem L_callv {f : FuncId} {xs : List Operand} {ts : Array TypeId} {vs : List Value} {R : Ending → World → Prop} (hg : wantedE ops e g = true) (hd : Nat.blt b0 n = true) (hf : enters P f = true) (hxs : xs.map (ev e) = vs) (hc : Calls P f vs.toArray w R)
    (hk : ∀ x w', R x w' → ∃ v, x = .returned v ∧ L P n ops Q rest (upd e b0 v) w') : L P n ops Q (⟨some b0, .call { callee := .value (.func f), args := xs.toArray, argTypes := ts }, ty, pos, aft, g⟩ :: rest) e w :=
  L_do hg hd (R := fun v w' => L P n ops Q rest (upd e b0 v) w') (Dn_call hf (by rw [List.map_toArray, hxs]) (hc.mono fun x w' hR => hk x w' hR)) (fun v w' h => h)
/-- A call without a result. -/
theorem L_call0 {f : FuncId} {xs : List Operand} {ts : Array TypeId} {vs : List Value} {R : Ending → World → Prop} (hf : enters P f = true) (hxs : xs.map (ev e) = vs) (hc : Calls P f vs.toArray w R)
    (hk : ∀ x w', R x w' → ∃ v, x = .returned v ∧ L P n ops Q rest e w') : L P n ops Q (⟨none, .call { callee := .value (.func f), args := xs.toArray, argTypes := ts }, ty, pos, aft, none⟩ :: rest) e w :=
  L_do rfl rfl (R := fun _ w' => L P n ops Q rest e w') (Dn_call hf (by rw [List.map_toArray, hxs]) (hc.mono fun x w' hR => hk x w' hR)) (fun v w' h => h)
/-- A call of a pure function, as a plain operation of a head. -/
theorem Dn_pure {f : FuncId} {xs : List Operand} {ts : Array TypeId} {vs : List Value} (hf : enters P f = true) (hxs : xs.map (ev e) = vs) (hc : Calls P f vs.toArray w fun x w' => x = .returned v ∧ Keep w w') :
    Dn P ⟨d, .call { callee := .value (.func f), args := xs.toArray, argTypes := ts }, ty, pos, aft, g⟩ e w fun v' w' => v' = v ∧ Keep w w' :=
  Dn_call hf (by rw [List.map_toArray, hxs]) (hc.mono fun x w' ⟨hx, hk⟩ => ⟨v, hx, rfl, hk⟩)
theorem Yl.keep {o : Oper} (h : Yl P o e w v) : Dn P o e w fun v' w' => v' = v ∧ Keep w w' := Dn.val h ⟨rfl, Keep.refl w⟩

/-! ### Calls of functions without a body (math/bits) -/
theorem Y_extern {f : FuncId} {fn : Func} {ex : Array Value → Sem Value} {xs : List Operand} {ts : Array TypeId} {vs : List Value} (hf : P.funcs[f]? = some fn) (hn : (fn.name == "runtime.NumGoroutine") = false) (hb : fn.body.isNone = true) (hx : Extern.findNext fn = none) (he : Extern.find fn = some ex)
    (hxs : xs.map (ev e) = vs) (hr : (ex vs.toArray).run P w = .ok v w) : Yl P ⟨d, .call { callee := .value (.func f), args := xs.toArray, argTypes := ts }, ty, pos, aft, g⟩ e w v := by
  have h := run_callFunc_extern (P := P) hf hn hb hx he vs.toArray w
  rw [hr] at h
  have h2 : (xs.toArray.map (ev e)) = vs.toArray := by rw [List.map_toArray, hxs]
  simp [Yl, execOp, resolve, Deferred.ofValue, ev, invoke, -List.map_toArray, h2, h]

/-! ### Aggregates -/
theorem Y_build {parts : List (Nat × Operand)} {pv : List (Nat × Value)} {cs : Array Value} (hp : parts.map (fun p => (p.1, ev e p.2)) = pv) (hb : P.built t pv = some cs) : Yl P ⟨d, .build t parts.toArray, ty, pos, aft, g⟩ e w (.agg cs) := by
  have h := run_build (P := P) w t pv.toArray cs (by simpa using hb)
  have h2 : (parts.toArray.map fun (x : Nat × Operand) => (x.1, ev e x.2)) = pv.toArray := by rw [← hp, List.map_toArray]
  have h3 : (execOp (ev e) ⟨d, .build t parts.toArray, ty, pos, aft, g⟩) = (do let a ← Instr.build t (parts.toArray.map fun (x : Nat × Operand) => (x.1, ev e x.2)); pure (.value a)) := rfl
  unfold Yl
  rw [h3, h2, Sem.run_bind, h]
  rfl

/-! ### Rows of numbers -/
def ua (k : IntKind) (l : List Nat) : Array Value := (l.map fun (n : Nat) => Value.int k (n : Int)).toArray
theorem ua_size (k : IntKind) (l : List Nat) : (ua k l).size = l.length := by simp [ua]
theorem ua_get {k : IntKind} {l : List Nat} {i u : Nat} (h : l[i]? = some u) : (ua k l)[i]? = some (.int k (u : Int)) := by simp [ua, h]
theorem ua_set (k : IntKind) (l : List Nat) (i u : Nat) : (ua k l).set! i (.int k (u : Int)) = ua k (l.set i u) := by
  simp [ua, Array.set!, List.map_set]
theorem ua_one (k : IntKind) (l : List Nat) : allOne (ua k l) := by
  intro v hv
  simp [ua] at hv
  obtain ⟨u, _, rfl⟩ := hv
  rfl
theorem ua_inj {k : IntKind} {l m : List Nat} (h : ua k l = ua k m) : l = m := by
  have h' : l.map (fun (n : Nat) => Value.int k (n : Int)) = m.map fun (n : Nat) => Value.int k (n : Int) := by simpa [ua] using h
  exact (List.map_inj_right (fun a b hab => by injection hab with _ h2; omega)).1 h'

/-- Arrays of numbers, compared. -/
def numArr (P : Program) (t : TypeId) (k : IntKind) : Bool :=
  match P.underlying t with
  | some (.array _ et) => (match P.underlying et with | some (.int k') => k' == k | _ => false) && scal P et && !(P.eqGuardType P.depth t)
  | _ => false

theorem run_eqElem {et : TypeId} {k : IntKind} {a b : Int} {dp : Nat} (hu : P.underlying et = some (.int k)) : (Op.equalIn (dp + 1) et (.int k a) (.int k b)).run P w = .ok (a == b) w := by
  simp [Op.equalIn, run_underlying hu]

theorem run_part {et : TypeId} {cs : Array Value} {i : Nat} (hs : scal P et = true) (hv : cs[i]? = some v) : (part et cs i).run P w = .ok v w := by
  simp [part, run_isAgg_scal hs, hv]

theorem run_eqLoop {et : TypeId} {k : IntKind} (hs : scal P et = true) (hu : P.underlying et = some (.int k)) (dp : Nat) (la lb : List Nat) (hl : la.length = lb.length) : ∀ (m i : Nat), i + m = la.length →
    ((forIn (m := Sem) (List.range' i m 1) ((none, ()) : Option Bool × Unit) fun i _ => do
      let a ← part et (ua k la) (i * 1)
      let b ← part et (ua k lb) (i * 1)
      let q ← Op.equalIn (dp + 1) et a b
      if (!q) = true then pure (ForInStep.done (some false, ())) else pure (ForInStep.yield (none, ()))).run P w) = .ok (if la.drop i = lb.drop i then (none, ()) else (some false, ())) w
  | 0, i, h => by
    have h1 : la.drop i = [] := List.drop_eq_nil_of_le (by omega)
    have h2 : lb.drop i = [] := List.drop_eq_nil_of_le (by omega)
    simp [h1, h2]
  | m + 1, i, h => by
    have hi : i < la.length := by omega
    have hi' : i < lb.length := by omega
    have ha := run_part (P := P) (w := w) (cs := ua k la) (i := i * 1) hs (by rw [Nat.mul_one]; exact ua_get (List.getElem?_eq_getElem hi))
    have hb := run_part (P := P) (w := w) (cs := ua k lb) (i := i * 1) hs (by rw [Nat.mul_one]; exact ua_get (List.getElem?_eq_getElem hi'))
    rw [List.range'_succ, List.forIn_cons]
    have ih := run_eqLoop hs hu dp la lb hl m (i + 1) (by omega)
    rw [List.drop_eq_getElem_cons hi, List.drop_eq_getElem_cons hi']
    simp only [Sem.run_bind, ha, hb, Result.andThen_ok, run_eqElem hu]
    by_cases hab : la[i] = lb[i]
    · have : ((la[i] : Int) == (lb[i] : Int)) = true := by simp [hab]
      simp only [this, Bool.not_true, Bool.false_eq_true, if_false, Sem.run_pure, Result.andThen_ok]
      rw [ih]
      simp only [List.cons.injEq, hab, true_and]
    · have : ((la[i] : Int) == (lb[i] : Int)) = false := by simp; omega
      simp only [this, Bool.not_false, if_true, Sem.run_pure, Result.andThen_ok]
      simp only [List.cons.injEq, hab, false_and, if_false]

theorem run_eqArr {et : TypeId} {k : IntKind} {nn : Nat} (ht : P.underlying t = some (.array nn et)) (hs : scal P et = true) (hu : P.underlying et = some (.int k)) (dp : Nat) (la lb : List Nat) (hla : la.length = nn) (hlb : lb.length = nn) :
    (Op.equalIn (dp + 2) t (.agg (ua k la)) (.agg (ua k lb))).run P w = .ok (decide (la = lb)) w := by
  rw [Op.equalIn]
  simp only [Sem.run_bind, run_underlying ht, Result.andThen_ok, run_sizeOf_scal hs]
  have := run_eqLoop (P := P) (w := w) hs hu dp la lb (by omega) nn 0 (by omega)
  simp only [List.drop_zero] at this
  simp only [Std.Legacy.Range.forIn_eq_forIn_range', Std.Legacy.Range.size]
  simp only [Nat.sub_zero, Nat.add_sub_cancel, Nat.div_one]
  rw [this]
  by_cases h : la = lb
  · simp [h]
  · simp [h]

theorem eqGuard_arr {k : IntKind} {la lb : List Nat} {bo : BinOp} (hg : P.eqGuardType P.depth t = false) : (eqGuard bo t x y (.agg (ua k la)) (.agg (ua k lb))).run P w = .ok () w := by
  cases bo <;> simp [eqGuard, hg]

theorem Y_eqA {et : TypeId} {k : IntKind} {nn : Nat} {la lb : List Nat} (ht : P.underlying t = some (.array nn et)) (hs : scal P et = true) (hu : P.underlying et = some (.int k)) (hg : P.eqGuardType P.depth t = false)
    (hx : ev e x = .agg (ua k la)) (hy : ev e y = .agg (ua k lb)) (hla : la.length = nn) (hlb : lb.length = nn) : Yl P ⟨d, .binOp .eql t x y t2, ty, pos, aft, g⟩ e w (.bool (decide (la = lb))) := by
  simp [Yl, execOp, hx, hy, eqGuard_arr hg, binOp, Op.equal, Op.maxDepth, run_eqArr ht hs hu 9998 la lb hla hlb]
theorem Y_neA {et : TypeId} {k : IntKind} {nn : Nat} {la lb : List Nat} (ht : P.underlying t = some (.array nn et)) (hs : scal P et = true) (hu : P.underlying et = some (.int k)) (hg : P.eqGuardType P.depth t = false)
    (hx : ev e x = .agg (ua k la)) (hy : ev e y = .agg (ua k lb)) (hla : la.length = nn) (hlb : lb.length = nn) : Yl P ⟨d, .binOp .neq t x y t2, ty, pos, aft, g⟩ e w (.bool (!decide (la = lb))) := by
  simp [Yl, execOp, hx, hy, eqGuard_arr hg, binOp, Op.equal, Op.maxDepth, run_eqArr ht hs hu 9998 la lb hla hlb]
theorem Y_eqB {a b : Bool} (ht : P.underlying t = some .bool) (hx : ev e x = .bool a) (hy : ev e y = .bool b) : Yl P ⟨d, .binOp .eql t x y t2, ty, pos, aft, g⟩ e w (.bool (a == b)) := by
  have hq : eqGuard .eql t x y (.bool a) (.bool b) = pure () := eqGuard_at_bool ..
  simp [Yl, execOp, hx, hy, hq, run_eql_bool w t a b ht]
end
end Go.Ev
