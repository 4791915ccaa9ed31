/- Own words: a range over a function, told of parts. -/
import Derived.Test.YtgmmifpflllkfaaVI
import Derived.RangeFuncRecord
import Derived.RangeFuncOwn
import Derived.RangeFuncBound
namespace Go.Ev
section
variable {P : Program} {n : Nat} {e : Env} {w w0 w' : World} {S : List Nat} {es X : List Ent}

theorem Hp.newObj (H : Hp w0 S w es) (o : Obj) : Hp w0 S (w.alloc o) (.obj w.heap.size o :: es) := by
  have h1 : Hp w [] (w.alloc o) [.obj w.heap.size o] := by
    refine ⟨rfl, rfl, rfl, by simp, fun k hk _ => RowKit.Below.heap_alloc w o k hk, ?_, by simp, ?_⟩
    · intro x hx
      rw [List.mem_singleton.1 hx]
      exact World.alloc_heap_new w o
    · intro x hx b hb
      rw [List.mem_singleton.1 hx] at hb
      injection hb with hb
      exact .inr (by omega)
  exact H.more h1
theorem Hp.putObj {l : Nat} {o : Obj} (H : Hp w0 S w (.obj l o :: es)) (o' : Obj) : Hp w0 S (w.putObj l o') (.obj l o' :: es) := by
  have hl : w.heap[l]? = some o := H.get 0 rfl
  have hlt : l < w.heap.size := (Array.getElem?_eq_some_iff.1 hl).1
  have h1 : Hp w [l] (w.putObj l o') [.obj l o'] := by
    refine ⟨rfl, rfl, rfl, by simp, fun k _ hk => World.putObj_heap_other (by simpa using hk), ?_, by simp, ?_⟩
    · intro x hx
      rw [List.mem_singleton.1 hx]
      exact World.putObj_heap_same hlt
    · intro x hx b hb
      rw [List.mem_singleton.1 hx] at hb
      injection hb with hb
      exact .inl (by simp [hb])
  exact Hp.step (l1 := [.obj l o]) H h1 (fun b hb => ⟨.obj l o, List.mem_singleton_self _, by rw [List.mem_singleton.1 hb]; rfl⟩)

/-- A loop's record. -/
def rcd (fn : FuncId) (tmps : Array Value) (ps : Array Tmp) (assign body : Code) (D : Nat) (st : LoopState) : Obj := .loop { state := st, pending := none, fn := fn, tmps := tmps, params := ps, assign := assign, body := body, defers := D }

/-- A round. -/
theorem yieldAt_of {fn : FuncId} {tmps : Array Value} {ps : Array Tmp} {assign body : Code} {l D : Nat} {args : Array Value} {Z : List Ent → Prop} (A : Env → Prop)
    (H : Hp w0 S w (.obj l (rcd fn tmps ps assign body D .ready) :: es)) (hs : args.size = ps.size)
    (hrep : Rep n { tmps := (ps.zip args).foldl (fun t (p, v) => t.setIfInBounds p v) tmps, defers := [] } e)
    (ha : WI (some l) [] P n assign (Th (fun e1 w1 => w1 = w ∧ A e1) (fun _ _ _ => False)) e w)
    (hb : ∀ e1 w1, A e1 → Hp w0 S w1 (.obj l (rcd fn tmps ps assign body D .busy) :: es) → WI (some l) [] P n body (Th (fun _ w2 => ∃ es2, Z es2 ∧ Hp w0 S w2 (.obj l (rcd fn tmps ps assign body D .busy) :: es2)) (fun _ _ _ => False)) e1 w1) :
    YieldAt Fence.wide 0 P l args w (fun x w' => x = .returned (.bool true) ∧ ∃ es2, Z es2 ∧ Hp w0 S w' (.obj l (rcd fn tmps ps assign body D .ready) :: es2)) := by
  have hl : w.heap[l]? = some (rcd fn tmps ps assign body D .ready) := H.get 0 rfl
  have hy := run_yield (P := P) (args := args) hl hs
  refine ⟨fn, _, assign, body, hy, roundIn_of_wpIn trivial (wpIn_mono (ha _ hrep.d) ?_)⟩
  rintro x a1 w1 ⟨e1, hr1, q⟩
  cases x with
  | normal =>
    obtain ⟨rfl, hA⟩ := q
    refine ⟨_, run_beginRound hl rfl, wpIn_mono (hb e1 _ hA (H.putObj _) a1 hr1) ?_⟩
    rintro x a2 w2 ⟨e2, _, q2⟩
    cases x with
    | normal =>
      obtain ⟨es2, hZ, H2⟩ := q2
      have h2 : w2.heap[l]? = some (.loop { state := .busy, pending := none, fn := fn, tmps := tmps, params := ps, assign := assign, body := body, defers := D }) := H2.get 0 rfl
      have h := run_endRound (P := P) none h2
      have H3 := H2.putObj (rcd fn tmps ps assign body D .ready)
      exact ⟨_, _, h, rfl, es2, hZ, H3⟩
    | _ => exact q2.elim
  | _ => exact q.elim

/-- The statement. -/
theorem range_in {g : Operand} {ps : Array Tmp} {assign body : Code} {Q : Exit → Act → World → Prop} {a : Act} (H : Hp w0 S w es) (ha : Rep n a e) {gf : Nat} {lb : Array Value} (hg : ev e g = .func (.func gf) #[] lb) (hen : enters P gf = true) {Z : List Ent → Prop}
    (hcall : ∀ fn l D w1, Hp w0 S w1 (.obj l (rcd fn a.tmps ps assign body D .ready) :: .obj D (.deferred (some [])) :: es) → Calls P gf (#[.func (.yield l) #[] #[]] ++ lb) w1 (fun x w' => (∃ v, x = .returned v) ∧ ∃ es', Z es' ∧ Hp w0 S w' (.obj l (rcd fn a.tmps ps assign body D .ready) :: .obj D (.deferred (some [])) :: es')))
    (hk : ∀ D a' w' es', RepD [{ target := .collected D, args := #[] }] n a' e → Z es' → Hp w0 S w' (.obj D (.deferred (some [])) :: es') → Q .normal a' w') :
    (Code.rangeFunc g ps assign body).wpIn Fence.wide 0 P Q a w := by
  refine wpIn_rangeFunc ?_
  intro fn _
  obtain ⟨W1, hW1⟩ : ∃ W1, (w.alloc (.deferred (some []))).alloc (rcd fn a.tmps ps assign body w.heap.size .ready) = W1 := ⟨_, rfl⟩
  have hent : (Instr.enterLoop fn a.tmps ps assign body none).run P w = .ok (w.heap.size + 1, [{ target := .collected w.heap.size, args := #[] }]) W1 := by
    rw [← hW1]; exact run_enterLoop_outer fn a.tmps ps assign body
  have H1 := (H.newObj (.deferred (some []))).newObj (rcd fn a.tmps ps assign body w.heap.size .ready)
  rw [World.size_alloc, hW1] at H1
  have hc := hcall fn _ _ _ H1
  have hev := ha.eval
  rw [show Fence.wide.round = none from rfl]
  refine ⟨w.heap.size + 1, [{ target := .collected w.heap.size, args := #[] }], W1, { target := .fn (.func gf) lb, args := #[.func (.yield (w.heap.size + 1)) #[] #[]] }, W1, gf,
    #[.func (.yield (w.heap.size + 1)) #[] #[]] ++ lb, W1, hent, ?_, fun _ _ => trivial, ?_, ?_, ?_⟩
  · simp only [resolve, hev, hg]
    simp [go_sem]
    rfl
  · simp [invoke, run_enters hen]
  · intro hd
    simp [Fence.wide] at hd
  · refine (callsIn_wide (n := 0 - 1)).2 (hc.mono ?_)
    rintro x w' ⟨⟨v, rfl⟩, es', hZ, H2⟩
    have h2 : w'.heap[w.heap.size + 1]? = some (.loop { state := .ready, pending := none, fn := fn, tmps := a.tmps, params := ps, assign := assign, body := body, defers := w.heap.size }) := H2.get 0 rfl
    have h3 := run_endLoop (P := P) h2 (by simp)
    refine ⟨none, _, h3, hk w.heap.size _ _ es' ⟨ha.size, ?_, ha.val⟩ hZ (H2.putObj _).drop_⟩
    show _ ++ a.defers = _
    rw [ha.defers]; rfl

/-- The end of a function with a mark on it. -/
theorem P_retM {fn : Func} {D : Nat} {rs : List ResultVar} {vs : List Value} {v : Value} {R : Ending → World → Prop} {a : Act} (hr : RepD [{ target := .collected D, args := #[] }] n a e) (H : Hp w0 S w (.obj D (.deferred (some [])) :: es)) (hf : fn.results = rs.toArray) (h : ∀ w', Res P e w' rs vs)
    (hv : (if h : vs.toArray.size = 1 then vs.toArray[0] else .tuple vs.toArray) = v) (hR : ∀ w', Hp w0 S w' es → R (.returned v) w') : bodyPostM Fence.wide 0 P fn R .ret a w := by
  have hd := hr.defers
  show LeavesInM Fence.wide 0 P fn a.tmps R a.defers .returning w
  rw [hd]
  refine ⟨by simp, .inl ⟨_, _, rfl, run_takeDeferred (H.get 0 rfl), ?_⟩⟩
  exact ⟨v, F_out (a := { a with defers := [] }) hf hr.rep (h _) hv, hR _ (H.putObj _).drop_⟩
/-- A function's beginning, where a mark will be. -/
theorem F_inM {f : FuncId} {fn : Func} {c : Code} {args : Array Value} {R : Ending → World → Prop} (hf : P.funcs[f]? = some fn) (hb : fn.body = some c) (hn : fn.ntmps = n) (hs : Nat.ble args.size n = true)
    (h : ∀ (e : Env) (a : Act), (∀ i v, args[i]? = some v → e i = v) → Rep n a e → c.wpIn Fence.wide 0 P (bodyPostM Fence.wide 0 P fn R) a w) : Calls P f args w R := by
  subst hn
  have hsz : args.size ≤ fn.ntmps := Nat.le_of_ble_eq_true hs
  refine (callsIn_wide (n := 0)).1 (callsIn_of_wp_marks hf hb trivial (h (fun i => (args ++ Array.replicate (fn.ntmps - args.size) undef).getD i undef) _ (fun i v hv => ?_) ⟨by simp; omega, rfl, fun i => rfl⟩) rfl)
  have hlt : i < args.size := (Array.getElem?_eq_some_iff.1 hv).1
  have hv' : args[i] = v := by simpa [hlt] using hv
  simp [Array.getElem?_append, hlt, hv']
theorem X_seq {x y : Code} {Q : Exit → Act → World → Prop} {a : Act} (ha : Rep n a e) (h : W P n x (Th (fun e w => ∀ a, Rep n a e → y.wpIn Fence.wide 0 P Q a w) (fun _ _ _ => False)) e w) : (Code.seq x y).wpIn Fence.wide 0 P Q a w := by
  refine wpIn_seq (wpIn_mono (wpIn_wide.2 (h a ha)) ?_)
  rintro x' a' w' ⟨e', hr, q⟩
  cases x' with
  | normal => exact q a' hr
  | _ => exact q.elim
theorem XD_seq {D : List Deferred} {x y : Code} {Q : Exit → Act → World → Prop} {a : Act} (ha : RepD D n a e) (h : WI none D P n x (Th (fun e w => ∀ a, RepD D n a e → y.wpIn Fence.wide 0 P Q a w) (fun _ _ _ => False)) e w) : (Code.seq x y).wpIn Fence.wide 0 P Q a w := by
  refine wpIn_seq (wpIn_mono (h a ha) ?_)
  rintro x' a' w' ⟨e', hr, q⟩
  cases x' with
  | normal => exact q a' hr
  | _ => exact q.elim
/-- A round's frame: two parameters. -/
theorem rep_two {tmps : Array Value} {p q : Nat} {u v : Value} (h : Rep n { tmps := tmps, defers := [] } e) (hp : p < n) (hq : q < n) : Rep n { tmps := ((#[p, q] : Array Tmp).zip #[u, v]).foldl (fun t (p, v) => t.setIfInBounds p v) tmps, defers := [] } (upd (upd e p u) q v) := by
  have h1 := (h.put (d := some p) (by simp [inside, Nat.blt_eq, hp]) u).put (d := some q) (by simp [inside, Nat.blt_eq, hq]) v
  have hz : ((#[p, q] : Array Tmp).zip #[u, v]).foldl (fun t (p, v) => t.setIfInBounds p v) tmps = (tmps.setIfInBounds p u).setIfInBounds q v := by simp
  rw [hz]
  exact h1
end
end Go.Ev
