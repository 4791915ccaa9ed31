/- Own words for walks, second part: what is known of memory, as a list of parts that lie apart. -/
import Derived.Test.YtgmmifpflllkfaaV
import Derived.Laws.Append
import Derived.Laws.AppendOwn
import Derived.Laws.Rows
import Derived.Laws.OwnMore
namespace Go.Ev

/-- A part of memory: a whole block; a slice's own row (nil has none); a block that is read alone (a text's bytes). -/
inductive Ent where
  | blk (b : Nat) (t : TypeId) (cs : Array Value)
  | own (v : Value) (t : TypeId) (z n : Nat) (xs : List Value)
  | ro (b : Nat) (t : TypeId) (cs : Array Value) (fz : Nat × Nat)
  | obj (b : Nat) (o : Obj)

def Ent.foot : Ent → Option Nat
  | .blk b _ _ => some b
  | .own v _ _ _ _ => v.ownBlock
  | .ro b _ _ _ => some b
  | .obj b _ => some b

def Ent.ok (w : World) : Ent → Prop
  | .blk b t cs => w.heap[b]? = some (.cells cs t (0, 0))
  | .own v t z n xs => w.ownsRow 0 t z v n xs
  | .ro b t cs fz => w.heap[b]? = some (.cells cs t fz)
  | .obj b o => w.heap[b]? = some o

theorem Ent.lt {x : Ent} {w : World} (h : x.ok w) {b : Nat} (hb : x.foot = some b) : b < w.heap.size := by
  cases x with
  | blk b' t cs =>
    injection hb with hb
    subst hb
    exact (Array.getElem?_eq_some_iff.1 h).1
  | own v t z n xs => exact (World.ownsRow.lt h b hb).2
  | ro b' t cs fz =>
    injection hb with hb
    subst hb
    exact (Array.getElem?_eq_some_iff.1 h).1
  | obj b' o =>
    injection hb with hb
    subst hb
    exact (Array.getElem?_eq_some_iff.1 h).1

theorem Ent.keep {x : Ent} {w w' : World} (h : x.ok w) (hk : ∀ b, x.foot = some b → w'.heap[b]? = w.heap[b]?) : x.ok w' := by
  cases x with
  | blk b t cs => exact (hk b rfl).trans h
  | ro b t cs fz => exact (hk b rfl).trans h
  | obj b o => exact (hk b rfl).trans h
  | own v t z n xs =>
    refine ⟨h.1, ?_⟩
    rcases h.2 with h2 | ⟨g, cap, cur, rfl, hb, hg, r⟩
    · exact .inl h2
    · exact .inr ⟨g, cap, cur, rfl, hb, (hk g rfl).trans hg, r⟩

def apart (x y : Ent) : Prop := ∀ b, x.foot = some b → y.foot ≠ some b
theorem apart.symm {x y : Ent} (h : apart x y) : apart y x := fun b hb hx => h b hx hb

/-- Since w0 nothing that was there has turned but for blocks of S; the parts l stand in w, apart from each other; each is new or of S. -/
structure Hp (w0 : World) (S : List Nat) (w : World) (l : List Ent) : Prop where
  os : w.os = w0.os
  tape : w.tape = w0.tape
  output : w.output = w0.output
  size : w0.heap.size ≤ w.heap.size
  frame : ∀ k, k < w0.heap.size → k ∉ S → w.heap[k]? = w0.heap[k]?
  ok : ∀ x ∈ l, x.ok w
  disj : l.Pairwise apart
  feet : ∀ x ∈ l, ∀ b, x.foot = some b → b ∈ S ∨ w0.heap.size ≤ b

/-- Nothing that was there has turned. -/
abbrev Keep (w w' : World) : Prop := Hp w [] w' []

section
variable {w0 w w' : World} {S : List Nat} {l : List Ent}

theorem Keep.refl (w : World) : Keep w w := ⟨rfl, rfl, rfl, Nat.le_refl _, fun _ _ _ => rfl, by simp, by simp, by simp⟩
theorem Hp.nil_ (h : Hp w0 S w l) : Hp w0 S w [] := ⟨h.os, h.tape, h.output, h.size, h.frame, by simp, by simp, by simp⟩
theorem Hp.start (w : World) (S : List Nat) : Hp w S w [] := ⟨rfl, rfl, rfl, Nat.le_refl _, fun _ _ _ => rfl, by simp, by simp, by simp⟩
theorem Hp.below (h : Hp w0 [] w l) : RowKit.Below w0.heap.size w0 w := ⟨h.os, h.tape, h.output, h.size, fun k hk => h.frame k hk (by simp)⟩

theorem Hp.perm {l' : List Ent} (h : Hp w0 S w l) (hp : l.Perm l') : Hp w0 S w l' :=
  ⟨h.os, h.tape, h.output, h.size, h.frame, fun x hx => h.ok x (hp.mem_iff.2 hx), hp.pairwise h.disj (fun hxy => hxy.symm), fun x hx => h.feet x (hp.mem_iff.2 hx)⟩

theorem Hp.drop_ {x : Ent} (h : Hp w0 S w (x :: l)) : Hp w0 S w l :=
  ⟨h.os, h.tape, h.output, h.size, h.frame, fun y hy => h.ok y (List.mem_cons_of_mem _ hy), (List.pairwise_cons.1 h.disj).2, fun y hy => h.feet y (List.mem_cons_of_mem _ hy)⟩

theorem perm_pull {α : Type} {l : List α} {x : α} : ∀ (i : Nat), l[i]? = some x → l.Perm (x :: l.eraseIdx i) := by
  induction l with
  | nil => intro i h; simp at h
  | cons y l ih =>
    intro i h
    cases i with
    | zero => simp at h; subst h; simp
    | succ i => exact (List.Perm.cons y (ih i (by simpa using h))).trans (List.Perm.swap x y _)

/-- The i-th part to the front. -/
theorem Hp.pull {x : Ent} (h : Hp w0 S w l) (i : Nat) (hi : l[i]? = some x) : Hp w0 S w (x :: l.eraseIdx i) := h.perm (perm_pull i hi)
theorem Hp.get {x : Ent} (h : Hp w0 S w l) (i : Nat) (hi : l[i]? = some x) : x.ok w := h.ok x (List.mem_of_getElem? hi)

/-- Two steps. What the second may turn is of the first's parts, whole. -/
theorem Hp.step {S' : List Nat} {l1 l1' l2 : List Ent} (h : Hp w0 S w (l1 ++ l2)) (k : Hp w S' w' l1') (hS : ∀ b ∈ S', ∃ x ∈ l1, x.foot = some b) : Hp w0 S w' (l1' ++ l2) := by
  have hpw := List.pairwise_append.1 h.disj
  have far : ∀ y ∈ l2, ∀ b, y.foot = some b → b ∉ S' := fun y hy b hb hbS => by
    obtain ⟨x, hx, hxb⟩ := hS b hbS
    exact hpw.2.2 x hx y hy b hxb hb
  have old : ∀ y ∈ l1 ++ l2, ∀ b, y.foot = some b → b < w.heap.size := fun y hy b hb => Ent.lt (h.ok y hy) hb
  refine ⟨k.os.trans h.os, k.tape.trans h.tape, k.output.trans h.output, Nat.le_trans h.size k.size, fun b hb hbS => ?_, fun y hy => ?_, ?_, fun y hy b hb => ?_⟩
  · rw [k.frame b (Nat.lt_of_lt_of_le hb h.size) ?_]
    · exact h.frame b hb hbS
    · intro hbS'
      obtain ⟨x, hx, hxb⟩ := hS b hbS'
      rcases h.feet x (by simp [hx]) b hxb with h1 | h1
      · exact hbS h1
      · omega
  · rcases List.mem_append.1 hy with hy | hy
    · exact k.ok y hy
    · exact Ent.keep (h.ok y (by simp [hy])) fun b hb => k.frame b (old y (by simp [hy]) b hb) (far y hy b hb)
  · refine List.pairwise_append.2 ⟨k.disj, hpw.2.1, fun x hx y hy b hxb hyb => ?_⟩
    rcases k.feet x hx b hxb with h1 | h1
    · exact far y hy b hyb h1
    · have := old y (by simp [hy]) b hyb
      omega
  · rcases List.mem_append.1 hy with hy | hy
    · rcases k.feet y hy b hb with h1 | h1
      · obtain ⟨x, hx, hxb⟩ := hS b h1
        exact h.feet x (by simp [hx]) b hxb
      · exact .inr (Nat.le_trans h.size h1)
    · exact h.feet y (by simp [hy]) b hb

/-- A step that turns nothing that is there. -/
theorem Hp.keep (h : Hp w0 S w l) (k : Keep w w') : Hp w0 S w' l := Hp.step (l1 := []) (l2 := l) h k (by simp)
/-- A step that makes new parts. -/
theorem Hp.more {l' : List Ent} (h : Hp w0 S w l) (k : Hp w [] w' l') : Hp w0 S w' (l' ++ l) := Hp.step (l1 := []) (l2 := l) h k (by simp)

theorem Hp.drew (h : Hp w0 S w l) : Hp w0 S { w with drawn := w.drawn + 1 } l :=
  ⟨h.os, h.tape, h.output, h.size, h.frame, fun x hx => Ent.keep (h.ok x hx) (fun _ _ => rfl), h.disj, h.feet⟩
theorem Keep.drew (w : World) : Keep w { w with drawn := w.drawn + 1 } := Hp.drew (Keep.refl w)

/-- A new block. -/
theorem Hp.new (w : World) (t : TypeId) (cs : Array Value) : Hp w [] (w.alloc (.cells cs t)) [.blk w.heap.size t cs] := by
  refine ⟨rfl, rfl, rfl, by simp, fun k hk _ => heap_alloc_old w _ k hk, ?_, by simp, ?_⟩
  · intro x hx
    have : x = .blk w.heap.size t cs := by simpa using hx
    subst this
    exact heap_alloc_new w _
  · intro x hx b hb
    have : x = .blk w.heap.size t cs := by simpa using hx
    subst this
    injection hb with hb
    exact .inr (by omega)

/-- What stands at an old place, in a world in which it can't have turned. -/
theorem Hp.old (h : Hp w0 S w l) {k : Nat} (hk : k < w0.heap.size) (hS : k ∉ S) : w.heap[k]? = w0.heap[k]? := h.frame k hk hS
theorem Hp.cellOld (h : Hp w0 [] w l) {a : Addr} (hk : a.block < w0.heap.size) : w.cell? a = w0.cell? a := World.cell?_of_block (w := w0) (h.frame a.block hk (by simp))
end
end Go.Ev
