/- Own words for walks: the frame as a function from slots to values; one rule an operation; a region in whatever order. -/
import Derived.Tactics
import Derived.Orders
import Derived.RowKit3
import Derived.Below
import Derived.KernelRfl
import Derived.LoopN
namespace Go.Ev

/-! ### 1. Frames -/
abbrev Env := Nat → Value
def upd (e : Env) (d : Nat) (v : Value) : Env := fun j => bif Nat.beq j d then v else e j
def updo (e : Env) : Option Nat → Value → Env
  | some d, v => upd e d v
  | none, _ => e
def ev (e : Env) : Operand → Value
  | .tmp t => e t
  | .const v => v
  | .global g => .pointer (some ⟨g, 0, none⟩)
  | .func f => .func (.func f) #[] #[]

/-- The frame 'a' has n slots, no deferred calls, and reads as e. -/
structure Rep (n : Nat) (a : Act) (e : Env) : Prop where
  size : a.tmps.size = n
  defers : a.defers = []
  val : ∀ i, a.tmps.getD i undef = e i

theorem upd_same (e : Env) (d : Nat) (v : Value) : upd e d v d = v := by simp [upd]
theorem upd_ne (e : Env) {d j : Nat} (v : Value) (h : j ≠ d) : upd e d v j = e j := by
  have : Nat.beq j d = false := by cases hb : Nat.beq j d with
    | false => rfl
    | true => exact absurd (Nat.eq_of_beq_eq_true hb) h
  simp [upd, this]

theorem Rep.eval {n : Nat} {a : Act} {e : Env} (h : Rep n a e) : a.eval = ev e := by
  funext x
  cases x with
  | tmp t => exact h.val t
  | const v => rfl
  | global g => rfl
  | func f => rfl

def inside (n : Nat) : Option Nat → Bool
  | some d => Nat.blt d n
  | none => true

theorem Rep.put {n : Nat} {a : Act} {e : Env} (h : Rep n a e) {d : Option Nat} (hd : inside n d = true) (v : Value) : Rep n (a.put d v) (updo e d v) := by
  cases d with
  | none => exact h
  | some d =>
    have hlt : d < n := by simpa [inside, Nat.blt_eq] using hd
    refine ⟨by simp [Act.put, h.size], h.defers, fun i => ?_⟩
    by_cases hi : i = d
    · subst hi
      simp [Act.put, updo, upd_same, h.size, hlt]
    · simp only [Act.put, updo, upd_ne e v hi]
      rw [← h.val i]
      simp [Array.getElem?_setIfInBounds_ne (Ne.symm hi)]

def wantedE (ops : Array Oper) (e : Env) (g : Option (Nat × Bool)) : Bool :=
  match g with
  | none => true
  | some (j, want) => match (ops[j]?).bind (·.dst) with
    | some d => match e d with
      | .bool b => b == want
      | _ => false
    | none => false

theorem Rep.wanted {n : Nat} {a : Act} {e : Env} (h : Rep n a e) (ops : Array Oper) (o : Oper) : Region.wanted o (yielded ops a.tmps) = wantedE ops e o.guard := by
  unfold Region.wanted wantedE
  cases hg : o.guard with
  | none => rfl
  | some p =>
    obtain ⟨j, want⟩ := p
    simp only [yielded]
    cases hd : (ops[j]?).bind (·.dst) with
    | none => simp
    | some d =>
      simp only [Option.bind_some]
      have hv := h.val d
      by_cases hlt : d < a.tmps.size
      · have he : a.tmps[d]? = some (e d) := by
          rw [← hv]; simp [hlt]
        rw [he]
        cases e d <;> simp <;> (rename_i b; cases b <;> cases want <;> rfl)
      · have h1 : a.tmps[d]? = none := Array.getElem?_eq_none (Nat.le_of_not_lt hlt)
        have h2 : e d = undef := by rw [← hv]; simp [hlt]
        rw [h1, h2]
        simp [undef]

/-! ### 2. What is asked of code, over frames that read as e -/
def Up (n : Nat) (Q : Exit → Env → World → Prop) : Exit → Act → World → Prop := fun x a w => ∃ e, Rep n a e ∧ Q x e w
def W (P : Program) (n : Nat) (c : Code) (Q : Exit → Env → World → Prop) (e : Env) (w : World) : Prop := ∀ a, Rep n a e → c.wp P (Up n Q) a w
def L (P : Program) (n : Nat) (ops : Array Oper) (Q : Exit → Env → World → Prop) (l : List Oper) (e : Env) (w : World) : Prop := ∀ a, Rep n a e → wpList P ops (Up n Q) l a w

def Th (k : Env → World → Prop) (Q : Exit → Env → World → Prop) : Exit → Env → World → Prop
  | .normal, e, w => k e w
  | x, e, w => Q x e w
def InB (id : Nat) (Q : Exit → Env → World → Prop) : Exit → Env → World → Prop
  | .exit i, e, w => bif Nat.beq i id then Q .normal e w else Q (.exit i) e w
  | x, e, w => Q x e w

section
variable {P : Program} {n : Nat} {Q : Exit → Env → World → Prop} {e : Env} {w : World}

theorem Th_n {k : Env → World → Prop} (h : k e w) : Th k Q .normal e w := h
theorem Th_r {k : Env → World → Prop} (h : Q .ret e w) : Th k Q .ret e w := h
theorem Th_x {k : Env → World → Prop} {i : Nat} (h : Q (.exit i) e w) : Th k Q (.exit i) e w := h
theorem InB_n {id : Nat} (h : Q .normal e w) : InB id Q .normal e w := h
theorem InB_r {id : Nat} (h : Q .ret e w) : InB id Q .ret e w := h
theorem InB_hit {id : Nat} (h : Q .normal e w) : InB id Q (.exit id) e w := by
  have : Nat.beq id id = true := by simp
  simp only [InB, this]; exact h
theorem InB_miss {id i : Nat} (hi : Nat.beq i id = false) (h : Q (.exit i) e w) : InB id Q (.exit i) e w := by
  simp only [InB, hi]; exact h

theorem W.mono {c : Code} {Q' : Exit → Env → World → Prop} (h : W P n c Q e w) (hq : ∀ x e w, Q x e w → Q' x e w) : W P n c Q' e w :=
  fun a ha => wp_mono (h a ha) fun _ _ _ ⟨e', hr, q⟩ => ⟨e', hr, hq _ _ _ q⟩

theorem W_seq {x y : Code} (h : W P n x (Th (fun e w => W P n y Q e w) Q) e w) : W P n (.seq x y) Q e w := by
  intro a ha
  refine wp_seq (wp_mono (h a ha) ?_)
  rintro x' a' w' ⟨e', hr, q⟩
  cases x' with
  | normal => exact q a' hr
  | exit i => exact ⟨e', hr, q⟩
  | goto l => exact ⟨e', hr, q⟩
  | ret => exact ⟨e', hr, q⟩
  | panic ch => exact ⟨e', hr, q⟩
  | outgrown => exact ⟨e', hr, q⟩

theorem W_block {id : Nat} {c : Code} (h : W P n c (InB id Q) e w) : W P n (.block id c) Q e w := by
  intro a ha
  refine wp_block (wp_mono (h a ha) ?_)
  rintro x' a' w' ⟨e', hr, q⟩
  cases x' with
  | exit i =>
    simp only [Exit.inBlock]
    by_cases hi : i = id
    · subst hi
      have : Nat.beq i i = true := by simp
      simp only [InB, this] at q
      simp only [if_true]; exact ⟨e', hr, q⟩
    · have : Nat.beq i id = false := by cases hb : Nat.beq i id with
        | false => rfl
        | true => exact absurd (Nat.eq_of_beq_eq_true hb) hi
      simp only [InB, this] at q
      rw [if_neg hi]; exact ⟨e', hr, q⟩
  | normal => exact ⟨e', hr, q⟩
  | goto l => exact ⟨e', hr, q⟩
  | ret => exact ⟨e', hr, q⟩
  | panic ch => exact ⟨e', hr, q⟩
  | outgrown => exact ⟨e', hr, q⟩

theorem W_skip (h : Q .normal e w) : W P n .skip Q e w := fun _ ha => wp_skip ⟨e, ha, h⟩
theorem W_ret (h : Q .ret e w) : W P n .ret Q e w := fun _ ha => wp_ret ⟨e, ha, h⟩
theorem W_exit {i : Nat} (h : Q (.exit i) e w) : W P n (.exit i) Q e w := fun _ ha => wp_exit ⟨e, ha, h⟩
theorem W_cond {c : Operand} {x y : Code} {b : Bool} (hc : ev e c = .bool b) (ht : b = true → W P n x Q e w) (hf : b = false → W P n y Q e w) : W P n (.cond c x y) Q e w :=
  fun a ha => wp_cond_split (by rw [ha.eval]; exact hc) (fun h => ht h a ha) (fun h => hf h a ha)
theorem W_true {c : Operand} {x y : Code} (hc : ev e c = .bool true) (h : W P n x Q e w) : W P n (.cond c x y) Q e w :=
  fun a ha => wp_cond_true (by rw [ha.eval]; exact hc) (h a ha)
theorem W_false {c : Operand} {x y : Code} (hc : ev e c = .bool false) (h : W P n y Q e w) : W P n (.cond c x y) Q e w :=
  fun a ha => wp_cond_false (by rw [ha.eval]; exact hc) (h a ha)

/-- Where ways meet again: what both come to. -/
theorem W_cut {x : Code} {k : Env → World → Prop} (A : Env → World → Prop) (h : W P n x (Th A Q) e w) (hk : ∀ e w, A e w → k e w) : W P n x (Th k Q) e w :=
  h.mono fun x' e' w' q => by
    cases x' with
    | normal => exact hk _ _ q
    | exit i => exact q
    | goto l => exact q
    | ret => exact q
    | panic ch => exact q
    | outgrown => exact q

theorem W_loop {c : Code} (I : Nat → Env → World → Prop) (m : Nat) (h0 : I m e w)
    (round : ∀ m e w, I m e w → W P n c (Th (fun e' w' => ∃ m', m' < m ∧ I m' e' w') Q) e w) : W P n (.loop c) Q e w := by
  have key : ∀ N m e w a, m < N → Rep n a e → I m e w → Code.rounds P c (Up n Q) N a w := by
    intro N
    induction N with
    | zero => intro m _ _ _ h; omega
    | succ N ih =>
      intro m e w a hm ha hI
      rw [rounds_succ]
      refine wp_mono (round m e w hI a ha) ?_
      rintro x' a' w' ⟨e', hr, q⟩
      cases x' with
      | normal =>
        obtain ⟨m', hlt, hI'⟩ := q
        exact ih m' e' w' a' (by omega) hr hI'
      | exit i => exact ⟨e', hr, q⟩
      | goto l => exact ⟨e', hr, q⟩
      | ret => exact ⟨e', hr, q⟩
      | panic ch => exact ⟨e', hr, q⟩
      | outgrown => exact ⟨e', hr, q⟩
  exact fun a ha => wp_loop_rounds (m + 1) (key (m + 1) m e w a (by omega) ha h0)

/-! ### 3. Operations -/
/-- What operation o does in frame e and world w: it leaves a value and a world with R. -/
def Dn (P : Program) (o : Oper) (e : Env) (w : World) (R : Value → World → Prop) : Prop :=
  match (execOp (ev e) o).run P w with
  | .ok (.value v) w' => R v w'
  | .ok .skip w' => R undef w'
  | .ok (.enter f args) w' => Calls P f args w' fun x w'' => ∃ v, x = .returned v ∧ R v w''
  | _ => False

variable {o : Oper} {R : Value → World → Prop} {w' : World} {v : Value}
theorem Dn.val (h : (execOp (ev e) o).run P w = .ok (.value v) w') (hR : R v w') : Dn P o e w R := by
  unfold Dn; rw [h]; exact hR
theorem Dn.skip (h : (execOp (ev e) o).run P w = .ok .skip w') (hR : R undef w') : Dn P o e w R := by
  unfold Dn; rw [h]; exact hR
theorem Dn.call {f : FuncId} {args : Array Value} (h : (execOp (ev e) o).run P w = .ok (.enter f args) w') (hc : Calls P f args w' fun x w'' => ∃ v, x = .returned v ∧ R v w'') : Dn P o e w R := by
  unfold Dn; rw [h]; exact hc
theorem Dn.mono {R' : Value → World → Prop} (h : Dn P o e w R) (hR : ∀ v w', R v w' → R' v w') : Dn P o e w R' := by
  unfold Dn at *
  split at h
  · exact hR _ _ h
  · exact hR _ _ h
  · exact h.mono fun x w'' ⟨v, hx, hr⟩ => ⟨v, hx, hR _ _ hr⟩
  · exact h.elim
theorem Dn.wp {a : Act} {K : Act → World → Prop} {Q : Exit → Act → World → Prop} (h : Dn P o e w R) (ha : a.eval = ev e) (hK : ∀ v w', R v w' → K (a.put o.dst v) w') : o.wp P a w K Q := by
  unfold Dn at h
  unfold Oper.wp
  rw [ha]
  split at h
  · rename_i h1; rw [h1]; exact hK _ _ h
  · rename_i h1; rw [h1]; exact hK _ _ h
  · rename_i h1
    rw [h1]
    refine Calls.mono h ?_
    rintro x w'' ⟨v, rfl, hR⟩
    exact hK _ _ hR
  · exact h.elim

/-- Pure operations: the value v, the world as it was. -/
def Yl (P : Program) (o : Oper) (e : Env) (w : World) (v : Value) : Prop := (execOp (ev e) o).run P w = .ok (.value v) w
theorem Yl.dn (h : Yl P o e w v) (hR : R v w) : Dn P o e w R := Dn.val h hR

variable {ops : Array Oper} {rest : List Oper}
theorem L_nil (h : Q .normal e w) : L P n ops Q [] e w := fun _ ha => ⟨e, ha, h⟩
theorem L_do (hg : wantedE ops e o.guard = true) (hd : inside n o.dst = true) (h : Dn P o e w R) (hk : ∀ v w', R v w' → L P n ops Q rest (updo e o.dst v) w') : L P n ops Q (o :: rest) e w := by
  intro a ha
  refine wpList_step fun K hK => ?_
  rw [ha.wanted, hg, if_pos rfl]
  exact h.wp ha.eval fun v w' hr => hK _ _ (hk v w' hr _ (ha.put hd v))
theorem L_not (hg : wantedE ops e o.guard = false) (hd : inside n o.dst = true) (hk : L P n ops Q rest (updo e o.dst undef) w) : L P n ops Q (o :: rest) e w := by
  intro a ha
  refine wpList_step fun K hK => ?_
  rw [ha.wanted, hg, if_neg (by simp)]
  exact hK _ _ (hk _ (ha.put hd undef))
theorem W_rg {id : Nat} {l : List Oper} (h : L P n l.toArray Q l e w) : W P n (.region id l.toArray false) Q e w := fun a ha => wp_region_lit (h a ha)

/-- An operation without a guard that yields a value and leaves the world alone. -/
theorem L_y {d : Nat} {op : Op} {ty : TypeId} {pos : String} {aft : Array Edge} (hd : Nat.blt d n = true) (hy : Yl P ⟨some d, op, ty, pos, aft, none⟩ e w v)
    (hk : L P n ops Q rest (upd e d v) w) : L P n ops Q (⟨some d, op, ty, pos, aft, none⟩ :: rest) e w :=
  L_do rfl hd (R := fun v' w' => v' = v ∧ w' = w) (Dn.val hy ⟨rfl, rfl⟩) (by rintro _ _ ⟨rfl, rfl⟩; exact hk)
theorem L_mv {d : Nat} {x : Operand} {ty : TypeId} {pos : String} {aft : Array Edge} (hd : Nat.blt d n = true)
    (hk : L P n ops Q rest (upd e d (ev e x)) w) : L P n ops Q (⟨some d, .move x, ty, pos, aft, none⟩ :: rest) e w := L_y hd rfl hk
theorem L_as {d : Nat} {x : Operand} {ty : TypeId} {pos : String} {aft : Array Edge} (hd : Nat.blt d n = true)
    (hk : L P n ops Q rest (upd e d (ev e x)) w) : L P n ops Q (⟨some d, .assign x, ty, pos, aft, none⟩ :: rest) e w := L_y hd rfl hk
end
end Go.Ev
