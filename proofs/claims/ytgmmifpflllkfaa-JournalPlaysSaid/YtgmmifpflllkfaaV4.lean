/- Own words for walks, fourth part: memory; calls; a function's beginning and end. -/
import Derived.Test.YtgmmifpflllkfaaV3
import Derived.Laws.MakeOwn
namespace Go.Ev

def fldOf (P : Program) (t : TypeId) (i : Nat) : Option (Nat × Nat) :=
  match P.underlying t with
  | some (.struct fs) => (fs[i]?).bind fun f => (P.info? f.type).map fun j => (f.offset, j.size)
  | _ => none

section
variable {P : Program} {e : Env} {w w0 : World} {S : List Nat} {l : List Ent} {d : Option Nat} {ty t t2 : TypeId} {pos : String} {aft : Array Edge} {g : Option (Nat × Bool)} {x y : Operand} {v : Value}

/-! ### Addresses -/
theorem add_at (b o n : Nat) : (⟨b, o, none⟩ : Addr).add n = ⟨b, o + n, none⟩ := Addr.add_lit b o n

theorem Y_idxA {n s b o : Nat} {k : IntKind} {i : Int} (j z : Nat) (ht : arrOf P t = some (n, s)) (hx : ev e x = .pointer (some ⟨b, o, none⟩)) (hy : ev e y = .int k i) (hi : i = (j : Int)) (hj : j < n) (hz : o + j * s = z) :
    Yl P ⟨d, .indexAddr t x y, ty, pos, aft, g⟩ e w (.pointer (some ⟨b, z, none⟩)) := by
  subst hi hz
  unfold arrOf at ht
  split at ht
  · rename_i n' e' hu
    cases hinf : P.info? e' with
    | none => simp [hinf] at ht
    | some inf =>
      simp [hinf] at ht
      obtain ⟨rfl, rfl⟩ := ht
      simp [Yl, execOp, hx, hy, Instr.indexAt, asIntOf, run_underlying hu, Instr.sureAddr, sizeOf, typeInfo, hinf, add_at, hj]
  · cases ht
theorem Y_idxS {et s b o len cap : Nat} {k : IntKind} {i : Int} (j z : Nat) (ht : slOf P t = some (et, s)) (hx : ev e x = .slice (some ⟨b, o, none⟩) len cap) (hy : ev e y = .int k i) (hi : i = (j : Int)) (hj : j < len) (hz : o + j * s = z) :
    Yl P ⟨d, .indexAddr t x y, ty, pos, aft, g⟩ e w (.pointer (some ⟨b, z, none⟩)) := by
  subst hi hz
  unfold slOf at ht
  split at ht
  · rename_i e' hu
    cases hinf : P.info? e' with
    | none => simp [hinf] at ht
    | some inf =>
      simp [hinf] at ht
      obtain ⟨rfl, rfl⟩ := ht
      simp [Yl, execOp, hx, hy, Instr.indexAt, asIntOf, run_underlying hu, sizeOf, typeInfo, hinf, add_at, hj]
  · cases ht
theorem Y_fld {b o f off s z : Nat} (ht : fldOf P t f = some (off, s)) (hs : Nat.beq s 0 = false) (hx : ev e x = .pointer (some ⟨b, o, none⟩)) (hz : o + off = z) :
    Yl P ⟨d, .fieldAddr t x f, ty, pos, aft, g⟩ e w (.pointer (some ⟨b, z, none⟩)) := by
  subst hz
  unfold fldOf at ht
  split at ht
  · rename_i fs hu
    cases hf : fs[f]? with
    | none => simp [hf] at ht
    | some fl =>
      cases hinf : P.info? fl.type with
      | none => simp [hf, hinf] at ht
      | some inf =>
        simp [hf, hinf] at ht
        obtain ⟨rfl, rfl⟩ := ht
        have h0 : inf.size ≠ 0 := fun h => by rw [h] at hs; cases hs
        simp [Yl, execOp, hx, Instr.fieldAt, run_underlying hu, hf, Instr.sureAddr, fieldPlace, sizeOf, typeInfo, hinf, h0, add_at]
  · cases ht

/-! ### Loads -/
theorem Y_ldc {a : Addr} (hs : scal P t = true) (hx : ev e x = .pointer (some a)) (hc : w.cell? a = some v) : Yl P ⟨d, .load t x, ty, pos, aft, g⟩ e w v := by
  simp [Yl, execOp, hx, run_load1 hs hc]
theorem Y_ld {b o i : Nat} {bt : TypeId} {cs : Array Value} (hs : scal P t = true) (H : Hp w0 S w l) (hi : l[i]? = some (.blk b bt cs)) (hx : ev e x = .pointer (some ⟨b, o, none⟩)) (hc : cs[o]? = some v) : Yl P ⟨d, .load t x, ty, pos, aft, g⟩ e w v :=
  Y_ldc hs hx ((cell_of_row w b o cs bt (0, 0) (H.get i hi)).trans hc)
/-- A whole array or struct that is a block. -/
theorem Y_ldr {b i k : Nat} {bt : TypeId} {cs : Array Value} (hs : rowOf P t = some k) (H : Hp w0 S w l) (hi : l[i]? = some (.blk b bt cs)) (hx : ev e x = .pointer (some ⟨b, 0, none⟩)) (hk : cs.size = k) : Yl P ⟨d, .load t x, ty, pos, aft, g⟩ e w (.agg cs) := by
  have h := run_loadRow (P := P) (w := w) (a := ⟨b, 0, none⟩) (cs := cs.toList) hs (by simpa using hk) (fun j u hu => by
    rw [add_at, Nat.zero_add, cell_of_row w b j cs bt (0, 0) (H.get i hi)]
    simpa using hu)
  have h' : (Instr.loadAt t (.pointer (some ⟨b, 0, none⟩))).run P w = .ok (.agg cs) w := by simpa using h
  simp [Yl, execOp, hx, h']
/-- A part of a block (a field that is an array). -/
theorem Y_ldp {b o i k : Nat} {bt : TypeId} {cs : Array Value} (ds : List Value) (hs : rowOf P t = some k) (H : Hp w0 S w l) (hi : l[i]? = some (.blk b bt cs)) (hx : ev e x = .pointer (some ⟨b, o, none⟩)) (hk : ds.length = k)
    (hd : ∀ j u, ds[j]? = some u → cs[o + j]? = some u) : Yl P ⟨d, .load t x, ty, pos, aft, g⟩ e w (.agg ds.toArray) := by
  have h := run_loadRow (P := P) (w := w) (a := ⟨b, o, none⟩) (cs := ds) hs hk (fun j u hu => by
    rw [add_at, cell_of_row w b _ cs bt (0, 0) (H.get i hi)]
    exact hd j u hu)
  simp [Yl, execOp, hx, h]

/-! ### Stores, new blocks: at the list of operations -/
variable {n : Nat} {ops : Array Oper} {rest : List Oper} {Q : Exit → Env → World → Prop}

/-- The i-th part is replaced: what was turned was its own. -/
theorem Hp.put {w' : World} {S' : List Nat} {i : Nat} {x x' : Ent} {l' : List Ent} (H : Hp w0 S w l) (hi : l[i]? = some x) (hk : Hp w S' w' [x']) (hS : ∀ b ∈ S', x.foot = some b) (hl : l.set i x' = l') : Hp w0 S w' l' := by
  subst hl
  have hset : (l.set i x').Perm (x' :: l.eraseIdx i) := by
    have hlt : i < l.length := (List.getElem?_eq_some_iff.1 hi).1
    have h1 : (l.set i x')[i]? = some x' := by simp [hlt]
    have := perm_pull i h1
    rwa [List.eraseIdx_set_eq] at this
  exact (Hp.step (l1 := [x]) (H.pull i hi) hk (fun b hb => ⟨x, by simp, hS b hb⟩)).perm hset.symm

theorem Hp.blk1 {w w' : World} {b : Nat} {bt : TypeId} {cs : Array Value} (hos : w'.os = w.os) (ht : w'.tape = w.tape) (ho : w'.output = w.output) (hz : w'.heap.size = w.heap.size) (hf : ∀ k, k ≠ b → w'.heap[k]? = w.heap[k]?)
    (hb : w'.heap[b]? = some (.cells cs bt (0, 0))) : Hp w [b] w' [.blk b bt cs] := by
  refine ⟨hos, ht, ho, Nat.le_of_eq hz.symm, fun k _ hn => hf k (by simpa using hn), ?_, by simp, ?_⟩
  · intro y hy
    have : y = .blk b bt cs := by simpa using hy
    subst this
    exact hb
  · intro y hy b' hb'
    have : y = .blk b bt cs := by simpa using hy
    subst this
    injection hb' with hb'
    exact .inl (by simp [hb'])

theorem Hp.set {b i o : Nat} {bt : TypeId} {cs : Array Value} {l' : List Ent} (v : Value) (H : Hp w0 S w l) (hi : l[i]? = some (.blk b bt cs)) (hl : l.set i (.blk b bt (cs.set! o v)) = l') : Hp w0 S (w.setCell ⟨b, o, none⟩ v) l' := by
  have hb := H.get i hi
  refine H.put hi (Hp.blk1 rfl rfl rfl (by simp) (fun k hn => heap_setCell_other w ⟨b, o, none⟩ k v hn) ?_) (fun b' hb' => ?_) hl
  · have := heap_setCell_same w b o cs bt v hb
    simpa [Array.set!] using this
  · have : b' = b := by simpa using hb'
    subst this; rfl

/-- One cell of a block is written. -/
theorem L_st {b i o : Nat} {bt : TypeId} {cs : Array Value} {l' : List Ent} (hs : scal P t = true) (H : Hp w0 S w l) (hi : l[i]? = some (.blk b bt cs)) (hx : ev e x = .pointer (some ⟨b, o, none⟩)) (hy : ev e y = v) (hv : v.oneCell' = true) (ho : o < cs.size)
    (hl : l.set i (.blk b bt (cs.set! o v)) = l') (hk : ∀ w', Hp w0 S w' l' → L P n ops Q rest e w') : L P n ops Q (⟨none, .store t x y, ty, pos, aft, none⟩ :: rest) e w := by
  have hb := H.get i hi
  obtain ⟨u, hu⟩ : ∃ u, cs[o]? = some u := ⟨_, Array.getElem?_eq_getElem ho⟩
  have hr := run_store1 (P := P) (w := w) (a := ⟨b, o, none⟩) hs hv ((cell_of_row w b o cs bt (0, 0) hb).trans hu) (frozen_of_row w b o cs bt hb)
  refine L_do rfl rfl (R := fun _ w' => w' = w.setCell ⟨b, o, none⟩ v) (Dn.skip (w' := w.setCell ⟨b, o, none⟩ v) ?_ rfl) ?_
  · simp [execOp, hx, hy, hr]
  · rintro _ _ rfl
    exact hk _ (H.set v hi hl)

theorem Hp.setAll {b i : Nat} {bt : TypeId} {cs : Array Value} {l' : List Ent} (ds : Array Value) (H : Hp w0 S w l) (hi : l[i]? = some (.blk b bt cs)) (hl : l.set i (.blk b bt ds) = l') : Hp w0 S (w.setRow b ds) l' := by
  have hb := H.get i hi
  refine H.put hi (Hp.blk1 rfl rfl rfl (by simp) (fun k hn => setRow_other w b k ds hn) (setRow_heap w b cs ds bt (0, 0) hb)) (fun b' hb' => ?_) hl
  have : b' = b := by simpa using hb'
  subst this; rfl

def allOne (ds : Array Value) : Prop := ∀ v ∈ ds.toList, v.oneCell' = true

/-- A whole block is written. -/
theorem L_str {b i k : Nat} {bt : TypeId} {cs ds : Array Value} {l' : List Ent} (hs : rowOf P t = some k) (H : Hp w0 S w l) (hi : l[i]? = some (.blk b bt cs)) (hx : ev e x = .pointer (some ⟨b, 0, none⟩)) (hy : ev e y = .agg ds) (hk1 : cs.size = k) (hk2 : ds.size = k) (h1 : allOne ds)
    (hl : l.set i (.blk b bt ds) = l') (hk : ∀ w', Hp w0 S w' l' → L P n ops Q rest e w') : L P n ops Q (⟨none, .store t x y, ty, pos, aft, none⟩ :: rest) e w := by
  have hb := H.get i hi
  have hr : (storeCells ⟨b, 0, none⟩ ds.toList 0).run P w = .ok () (w.setRow b ds) := by
    have := run_storeCells_from (P := P) b bt ds.toList 0 cs w hb (by simp; omega) h1
    have h2 : (cs.toList.take 0 ++ ds.toList).toArray = ds := by simp
    simpa [h2] using this
  refine L_do rfl rfl (R := fun _ w' => w' = w.setRow b ds) (Dn.skip (w' := w.setRow b ds) ?_ rfl) ?_
  · simp [execOp, hx, hy, Instr.storeAt, Instr.sureAddr, storeVar, Value.cells, run_sizeOf_row hs, hk2, hr]
  · rintro _ _ rfl
    exact hk _ (H.setAll ds hi hl)

/-- A new variable: it holds v. -/
theorem run_newVar {cs : Array Value} (hv : v.cells = cs) : (newVar t v).run P w = .ok ⟨w.heap.size, 0, none⟩ (w.alloc (.cells cs t)) := by
  subst hv; rfl
theorem L_box {b0 : Nat} {cs : Array Value} (hd : Nat.blt b0 n = true) (H : Hp w0 S w l) (hx : ev e x = v) (hv : v.cells = cs)
    (hk : ∀ b w', Hp w0 S w' (.blk b t cs :: l) → L P n ops Q rest (upd e b0 (.pointer (some ⟨b, 0, none⟩))) w') : L P n ops Q (⟨some b0, .box t x, ty, pos, aft, none⟩ :: rest) e w := by
  refine L_do rfl hd (R := fun v' w' => v' = .pointer (some ⟨w.heap.size, 0, none⟩) ∧ w' = w.alloc (.cells cs t)) (Dn.val (w' := w.alloc (.cells cs t)) (v := .pointer (some ⟨w.heap.size, 0, none⟩)) ?_ ⟨rfl, rfl⟩) ?_
  · subst hv hx; rfl
  · rintro _ _ ⟨rfl, rfl⟩
    exact hk _ _ (H.more (Hp.new w t cs))
theorem L_alloc {b0 : Nat} {cs : Array Value} (hd : Nat.blt b0 n = true) (H : Hp w0 S w l) (hz : zeroOf P t = some cs)
    (hk : ∀ b w', Hp w0 S w' (.blk b t cs :: l) → L P n ops Q rest (upd e b0 (.pointer (some ⟨b, 0, none⟩))) w') : L P n ops Q (⟨some b0, .alloc t, ty, pos, aft, none⟩ :: rest) e w := by
  refine L_do rfl hd (R := fun v' w' => v' = .pointer (some ⟨w.heap.size, 0, none⟩) ∧ w' = w.alloc (.cells cs t)) (Dn.val (w' := w.alloc (.cells cs t)) (v := .pointer (some ⟨w.heap.size, 0, none⟩)) ?_ ⟨rfl, rfl⟩) ?_
  · unfold zeroOf at hz
    cases hi : P.info? t with
    | none => simp [hi] at hz
    | some i =>
      cases hzz : i.zero with
      | none => simp [hi, hzz] at hz
      | some z =>
        simp [hi, hzz] at hz
        subst hz
        simp [execOp, Instr.alloc, zeroValue, typeInfo, hi, hzz, newVar, newRow]
  · rintro _ _ ⟨rfl, rfl⟩
    exact hk _ _ (H.more (Hp.new w t cs))

/-! ### Calls -/
def enters (P : Program) (f : FuncId) : Bool := (P.funcs[f]?).any fun fn => !(fn.name == "runtime.NumGoroutine") && !fn.body.isNone
theorem run_enters {f : FuncId} (h : enters P f = true) (vs : Array Value) : (callFunc f vs).run P w = .ok (.enter f vs) w := by
  unfold enters at h
  cases hf : P.funcs[f]? with
  | none => simp [hf] at h
  | some fn =>
    simp [hf] at h
    obtain ⟨c, hc⟩ := Option.isSome_iff_exists.1 h.2
    simp [callFunc, hf, h.1, hc]

theorem Dn_call {f : FuncId} {xs : Array Operand} {ts : Array TypeId} {vs : Array Value} {R : Value → World → Prop} (hf : enters P f = true) (hxs : xs.map (ev e) = vs) (hc : Calls P f vs w fun x w'' => ∃ v, x = .returned v ∧ R v w'') :
    Dn P ⟨d, .call { callee := .value (.func f), args := xs, argTypes := ts }, ty, pos, aft, g⟩ e w R := by
  refine Dn.call ?_ hc
  subst hxs
  have h := run_enters (P := P) (w := w) hf (xs.map (ev e))
  simp [execOp, resolve, Deferred.ofValue, ev, invoke]
  simpa using h

/-- A call: what its contract tells goes on. -/
theorem L_call {f : FuncId} {b0 : Nat} {xs : Array Operand} {ts : Array TypeId} {vs : Array Value} {R : Ending → World → Prop} (hd : Nat.blt b0 n = true) (hf : enters P f = true) (hxs : xs.map (ev e) = vs) (hc : Calls P f vs w R)
    (hk : ∀ x w', R x w' → ∃ v, x = .returned v ∧ L P n ops Q rest (upd e b0 v) w') : L P n ops Q (⟨some b0, .call { callee := .value (.func f), args := xs, argTypes := ts }, ty, pos, aft, none⟩ :: rest) e w := by
  refine L_do rfl hd (R := fun v w' => L P n ops Q rest (upd e b0 v) w') (Dn_call hf hxs (hc.mono fun x w' hR => hk x w' hR)) (fun v w' h => h)

/-! ### A function's beginning and end -/
def Post (P : Program) (fn : Func) (n : Nat) (R : Ending → World → Prop) : Exit → Env → World → Prop := fun x e w => ∀ a, Rep n a e → bodyPost P fn R x a w

theorem F_in {f : FuncId} {fn : Func} {c : Code} {args : Array Value} {R : Ending → World → Prop} (hf : P.funcs[f]? = some fn) (hb : fn.body = some c) (hn : fn.ntmps = n) (hs : Nat.ble args.size n = true)
    (h : ∀ e : Env, (∀ i v, args[i]? = some v → e i = v) → W P n c (Post P fn n R) e w) : Calls P f args w R := by
  subst hn
  refine calls_of_wp hf hb ?_
  have hsz : args.size ≤ fn.ntmps := Nat.le_of_ble_eq_true hs
  refine wp_mono (h (fun i => (args ++ Array.replicate (fn.ntmps - args.size) undef).getD i undef) (fun i v hv => ?_) _ ⟨by simp; omega, rfl, fun i => rfl⟩) ?_
  · have hlt : i < args.size := (Array.getElem?_eq_some_iff.1 hv).1
    have hv' : args[i] = v := by simpa [hlt] using hv
    simp [Array.getElem?_append, hlt, hv']
  · rintro x a w' ⟨e', hr, q⟩
    exact q a hr

inductive Res (P : Program) (e : Env) (w : World) : List ResultVar → List Value → Prop where
  | nil : Res P e w [] []
  | tmp {t : Nat} {v : Value} {rs : List ResultVar} {vs : List Value} (h : e t = v) (r : Res P e w rs vs) : Res P e w (.tmp t :: rs) (v :: vs)
  | cell {p : Nat} {t : TypeId} {a : Addr} {v : Value} {rs : List ResultVar} {vs : List Value} (h : e p = .pointer (some a)) (hl : (loadVar t a).run P w = .ok v w) (r : Res P e w rs vs) : Res P e w (.cell p t :: rs) (v :: vs)

theorem loadVar_row {b i k : Nat} {bt : TypeId} {cs : Array Value} (hs : rowOf P t = some k) (H : Hp w0 S w l) (hi : l[i]? = some (.blk b bt cs)) (hk : cs.size = k) : (loadVar t ⟨b, 0, none⟩).run P w = .ok (.agg cs) w := by
  have h := run_loadCells_list (P := P) w ⟨b, 0, none⟩ cs.toList (fun j u hu => by
    rw [add_at, Nat.zero_add, cell_of_row w b j cs bt (0, 0) (H.get i hi)]
    simpa using hu)
  have hk' : cs.toList.length = k := by simpa using hk
  rw [hk'] at h
  simp only [Array.toArray_toList] at h
  simp [loadVar, run_isAgg_row hs, run_sizeOf_row hs, h]

def rv (tmps : Array Value) : ResultVar → Sem Value
  | .tmp t => pure (tmps.getD t undef)
  | .cell a t => do loadVar t (← asAddr (tmps.getD a undef))
theorem results_eq (fn : Func) (tmps : Array Value) : results fn tmps = (do let vs ← fn.results.mapM (rv tmps); pure (if h : vs.size = 1 then vs[0] else .tuple vs)) := by
  unfold results
  congr 1
theorem Res.run {a : Act} {rs : List ResultVar} {vs : List Value} (h : Res P e w rs vs) (hr : Rep n a e) : (rs.mapM (rv a.tmps)).run P w = .ok vs w := by
  induction h with
  | nil => rfl
  | tmp h r ih => simp only [List.mapM_cons, Sem.run_bind, Sem.run_pure, Result.andThen_ok, ih, rv, hr.val, h]
  | cell h hl r ih => simp only [List.mapM_cons, Sem.run_bind, Sem.run_pure, Result.andThen_ok, ih, rv, hr.val, h, asAddr, hl]
theorem F_out {fn : Func} {rs : List ResultVar} {vs : List Value} {a : Act} (hf : fn.results = rs.toArray) (hr : Rep n a e) (h : Res P e w rs vs) (hv : (if h : vs.toArray.size = 1 then vs.toArray[0] else .tuple vs.toArray) = v) :
    (results fn a.tmps).run P w = .ok v w := by
  have := h.run hr
  subst hv
  rw [results_eq, hf, Sem.run_bind, List.mapM_toArray, Sem.run_map, this]
  rfl
theorem P_ret {fn : Func} {rs : List ResultVar} {vs : List Value} {R : Ending → World → Prop} (hf : fn.results = rs.toArray) (h : Res P e w rs vs) (hv : (if h : vs.toArray.size = 1 then vs.toArray[0] else .tuple vs.toArray) = v) (hR : R (.returned v) w) : Post P fn n R .ret e w :=
  fun _ ha => ⟨ha.defers, v, F_out hf ha h hv, hR⟩
theorem P_end {fn : Func} {rs : List ResultVar} {vs : List Value} {R : Ending → World → Prop} (hf : fn.results = rs.toArray) (h : Res P e w rs vs) (hv : (if h : vs.toArray.size = 1 then vs.toArray[0] else .tuple vs.toArray) = v) (hR : R (.returned v) w) : Post P fn n R .normal e w :=
  fun _ ha => ⟨ha.defers, v, F_out hf ha h hv, hR⟩
end
end Go.Ev
