/- Own words for walks, sixth part: a drawn region by lists; a loop's one round more; small things. -/
import Derived.Test.YtgmmifpflllkfaaV5
namespace Go.Ev

section
variable {P : Program} {e : Env} {w w0 : World} {S : List Nat} {l : List Ent} {d : Option Nat} {ty t t2 : TypeId} {pos : String} {aft : Array Edge} {g : Option (Nat × Bool)} {x y : Operand} {v : Value}
variable {n : Nat} {ops : Array Oper} {rest : List Oper} {Q : Exit → Env → World → Prop} {op : Op} {b0 : Nat}

def yOf (Ys : List (List Value → World → Prop)) (M : Nat) : List Value → World → Prop := Ys.getD M fun _ _ => False
def AllP {α : Type} (p : α → Prop) : List α → Prop
  | [] => True
  | a :: l => p a ∧ AllP p l
theorem AllP.mem {α : Type} {p : α → Prop} : ∀ {l : List α}, AllP p l → ∀ a ∈ l, p a
  | [], _, a, h => by simp at h
  | b :: l, h, a, ha => by
    rcases List.mem_cons.1 ha with rfl | ha
    · exact h.1
    · exact h.2.mem a ha
theorem yOf_all {Ys : List (List Value → World → Prop)} {p : (List Value → World → Prop) → Prop} (h : AllP p Ys) (h0 : p fun _ _ => False) (M : Nat) : p (yOf Ys M) := by
  unfold yOf
  cases hm : Ys[M]? with
  | none => simp only [List.getD, hm, Option.getD_none]; exact h0
  | some y => simp only [List.getD, hm, Option.getD_some]; exact h.mem y (List.mem_of_getElem? hm)

def upto (p : Nat → Prop) : Nat → Prop
  | 0 => True
  | k + 1 => upto p k ∧ p k
theorem upto.at_ {p : Nat → Prop} : ∀ {k : Nat}, upto p k → ∀ i, i < k → p i
  | 0, _, i, h => absurd h (by omega)
  | k + 1, h, i, hi => by
    by_cases hik : i = k
    · subst hik; exact h.2
    · exact h.1.at_ i (by omega)

/-- One special operation at one state of the specials. -/
def SpAt (P : Program) (l : List Oper) (nh : Nat) (sp soft slots : List Nat) (eV : Env) (Ys : List (List Value → World → Prop)) (i t : Nat) (o : Oper) (M : Nat) : Prop :=
  M.testBit t = false → (∀ t' s, sp[t']? = some s → s ∈ pr l.toArray i → M.testBit t' = true) → (∀ t' s, sp[t']? = some s → M.testBit t' = true → i ∉ pr l.toArray s) →
    ∀ e' w', (∀ s, agB l nh soft i s = true → e' s = eV s) → yOf Ys M (slots.map e') w' → wantedE l.toArray eV o.guard = true ∧ Dn P o e' w' fun v w'' => yOf Ys (M ||| 2 ^ t) (slots.map (updo e' o.dst v)) w''
theorem Special.of {l : List Oper} {nh : Nat} {sp soft slots : List Nat} {eV : Env} {Ys : List (List Value → World → Prop)} {i t : Nat} {o : Oper} (h : upto (SpAt P l nh sp soft slots eV Ys i t o) (2 ^ sp.length)) (hs : soft.contains i = true := by rfl) :
    Special P l nh sp soft slots eV (yOf Ys) i t o := fun M e' w' hM h1 h2 h3 h4 h5 => have h6 := h.at_ M hM h1 h2 h3 e' w' h4 h5; ⟨h6.1, h6.2.mono fun _ _ hY => ⟨.inl hs, hY⟩⟩

/-- One whose value is known before: those behind it may ask for it. -/
def SpAtD (P : Program) (l : List Oper) (nh : Nat) (sp soft slots : List Nat) (eV : Env) (Ys : List (List Value → World → Prop)) (i t : Nat) (o : Oper) (M : Nat) : Prop :=
  M.testBit t = false → (∀ t' s, sp[t']? = some s → s ∈ pr l.toArray i → M.testBit t' = true) → (∀ t' s, sp[t']? = some s → M.testBit t' = true → i ∉ pr l.toArray s) →
    ∀ e' w', (∀ s, agB l nh soft i s = true → e' s = eV s) → yOf Ys M (slots.map e') w' → wantedE l.toArray eV o.guard = true ∧ Dn P o e' w' fun v w'' => (∀ d, o.dst = some d → v = eV d) ∧ yOf Ys (M ||| 2 ^ t) (slots.map (updo e' o.dst v)) w''
theorem Special.ofD {l : List Oper} {nh : Nat} {sp soft slots : List Nat} {eV : Env} {Ys : List (List Value → World → Prop)} {i t : Nat} {o : Oper} (h : upto (SpAtD P l nh sp soft slots eV Ys i t o) (2 ^ sp.length)) :
    Special P l nh sp soft slots eV (yOf Ys) i t o := fun M e' w' hM h1 h2 h3 h4 h5 => have h6 := h.at_ M hM h1 h2 h3 e' w' h4 h5; ⟨h6.1, h6.2.mono fun _ _ hY => ⟨.inr hY.1, hY.2⟩⟩

theorem W_anyL {id : Nat} {l : List Oper} (nh : Nat) (sp slots : List Nat) (V : List Value) (B : World → Prop) (Ys : List (List Value → World → Prop))
    (hm : P.follows .mixedOrders = true) (hok : anyOk n l nh sp sp slots = true)
    (hB : AllP (fun y => ∀ vs w, y vs w → B w) Ys) (hK : AllP (fun y => ∀ vs w w', Keep w w' → y vs w → y vs w') Ys)
    (h0 : yOf Ys 0 (slots.map e) w)
    (ho : Owed P l nh sp sp slots (ovl e (l.take nh) V) B (yOf Ys) 0 (l.take nh) V)
    (ht : ∀ e' w', (∀ s, agT l nh sp s = true → e' s = ovl e (l.take nh) V s) → yOf Ys (2 ^ sp.length - 1) (slots.map e') w' → L P n l.toArray Q (l.drop nh) e' w') :
    W P n (.region id l.toArray true) Q e w :=
  W_any nh sp sp slots V B (yOf Ys) hm hok (fun M => yOf_all (p := fun y => ∀ vs w, y vs w → B w) hB (fun _ _ h => h.elim) M) (fun M => yOf_all (p := fun y => ∀ vs w w', Keep w w' → y vs w → y vs w') hK (fun _ _ _ _ h => h.elim) M) h0 ho ht

theorem W_anyS {id : Nat} {l : List Oper} (nh : Nat) (sp soft slots : List Nat) (V : List Value) (B : World → Prop) (Ys : List (List Value → World → Prop))
    (hm : P.follows .mixedOrders = true) (hok : anyOk n l nh sp soft slots = true)
    (hB : AllP (fun y => ∀ vs w, y vs w → B w) Ys) (hK : AllP (fun y => ∀ vs w w', Keep w w' → y vs w → y vs w') Ys)
    (h0 : yOf Ys 0 (slots.map e) w)
    (ho : Owed P l nh sp soft slots (ovl e (l.take nh) V) B (yOf Ys) 0 (l.take nh) V)
    (ht : ∀ e' w', (∀ s, agT l nh soft s = true → e' s = ovl e (l.take nh) V s) → yOf Ys (2 ^ sp.length - 1) (slots.map e') w' → L P n l.toArray Q (l.drop nh) e' w') :
    W P n (.region id l.toArray true) Q e w :=
  W_any nh sp soft slots V B (yOf Ys) hm hok (fun M => yOf_all (p := fun y => ∀ vs w, y vs w → B w) hB (fun _ _ h => h.elim) M) (fun M => yOf_all (p := fun y => ∀ vs w w', Keep w w' → y vs w → y vs w') hK (fun _ _ _ _ h => h.elim) M) h0 ho ht

/-- No special ones: what is known of memory is a list of parts. -/
theorem W_quiet {id : Nat} {l : List Oper} {l0 : List Ent} (H : Hp w0 S w l0) (nh : Nat) (V : List Value)
    (hm : P.follows .mixedOrders = true) (hok : anyOk n l nh [] [] [] = true)
    (ho : Owed P l nh [] [] [] (ovl e (l.take nh) V) (fun w => Hp w0 S w l0) (yOf [fun _ w => Hp w0 S w l0]) 0 (l.take nh) V)
    (ht : ∀ e' w', (∀ s, agT l nh [] s = true → e' s = ovl e (l.take nh) V s) → Hp w0 S w' l0 → L P n l.toArray Q (l.drop nh) e' w') :
    W P n (.region id l.toArray true) Q e w :=
  W_anyL nh [] [] V (fun w => Hp w0 S w l0) [fun _ w => Hp w0 S w l0] hm hok ⟨fun _ _ h => h, trivial⟩ ⟨fun _ _ _ hk h => h.keep hk, trivial⟩ H ho ht

/-- A plain operation that yields, whatever the memory is like. -/
theorem Pl_y {o : Oper} {eV : Env} {B : World → Prop} (hg : wantedE ops eV o.guard = true) (h : ∀ w, B w → Yl P o eV w v) : Plain P ops eV B o v := .inl ⟨hg, fun w hb => (h w hb).keep⟩
theorem Pl_c {eV : Env} {B : World → Prop} {f : FuncId} {xs : List Operand} {ts : Array TypeId} {vs : List Value} (hg : wantedE ops eV g = true) (hf : enters P f = true) (hxs : xs.map (ev eV) = vs)
    (hc : ∀ w, B w → Calls P f vs.toArray w fun x w' => x = .returned v ∧ Keep w w') : Plain P ops eV B ⟨d, .call { callee := .value (.func f), args := xs.toArray, argTypes := ts }, ty, pos, aft, g⟩ v :=
  .inl ⟨hg, fun w hb => Dn_pure hf hxs (hc w hb)⟩
theorem Pl_n {o : Oper} {eV : Env} {B : World → Prop} (hg : wantedE ops eV o.guard = false) : Plain P ops eV B o undef := .inr ⟨hg, rfl⟩

theorem Hp.swap {a b : Ent} (H : Hp w0 S w (a :: b :: l)) : Hp w0 S w (b :: a :: l) := H.perm (List.Perm.swap b a l)

/-- A loop of at most m rounds, laid out. -/
def Wr (P : Program) (n : Nat) (c : Code) (Q : Exit → Env → World → Prop) : Nat → Env → World → Prop
  | 0, _, _ => False
  | m + 1, e, w => W P n c (Th (Wr P n c Q m) Q) e w
theorem Wr_s {c : Code} {m : Nat} (h : W P n c (Th (Wr P n c Q m) Q) e w) : Wr P n c Q (m + 1) e w := h
theorem W_rounds {c : Code} (m : Nat) (h : Wr P n c Q m e w) : W P n (.loop c) Q e w := by
  have key : ∀ m e w a, Rep n a e → Wr P n c Q m e w → Code.rounds P c (Up n Q) m a w := by
    intro m
    induction m with
    | zero => intro _ _ _ _ h; exact h.elim
    | succ m ih =>
      intro e w a ha h
      rw [rounds_succ]
      refine wp_mono (h a ha) ?_
      rintro x' a' w' ⟨e', hr, q⟩
      cases x' with
      | normal => exact ih e' w' a' hr q
      | exit i => exact ⟨e', hr, q⟩
      | goto l => exact ⟨e', hr, q⟩
      | ret => exact ⟨e', hr, q⟩
      | panic ch => exact ⟨e', hr, q⟩
      | outgrown => exact ⟨e', hr, q⟩
  exact fun a ha => wp_loop_rounds m (key m e w a ha h)
end
end Go.Ev
