/- Layer 22 (journal): records, in plain numbers. -/
import Derived.Test.YtgmmifpflllkfaaReadMath
import Derived.Test.YtgmmifpflllkfaaShaMath3
import Derived.Test.YtgmmifpflllkfaaDiskMath
namespace Go.Jn
/-- A record's sum. -/
def sum4 (x : List Nat) : List Nat := (Sm.sum Sm.k256 x).take 4
theorem sum4_len (x : List Nat) : (sum4 x).length = 4 := by
  have := Sm.sum_len Sm.k256 x
  rw [sum4, List.length_take, this]; rfl
theorem sum4_lt (x : List Nat) : ∀ u ∈ sum4 x, u < 256 := fun u hu => Sm.sum_lt _ _ u (List.mem_of_mem_take hu)
/-- Four bytes as a number. -/
def num (l : List Nat) (p : Nat) : Nat := Pk.val ((l.drop p).take 4)
/-- The record at a place. -/
def rec_ (l : List Nat) (p : Nat) : List Nat := (l.drop (p + 8)).take (num l p)
def told (l : List Nat) (p : Nat) : List Nat := (l.drop (p + 4)).take 4
def isRec (l : List Nat) (p : Nat) : Prop := p + 8 ≤ l.length ∧ num l p ≠ 0 ∧ num l p ≤ 60000 ∧ p + 8 + num l p ≤ l.length ∧ sum4 (rec_ l p) = told l p
instance (l : List Nat) (p : Nat) : Decidable (isRec l p) := by unfold isRec; infer_instance
/-- L are the first records; p is the place behind them. -/
inductive Rd (l : List Nat) : List (List Nat) → Nat → Prop where
  | nil : Rd l [] 0
  | snoc {L : List (List Nat)} {p : Nat} (h : Rd l L p) (hr : isRec l p) : Rd l (L ++ [rec_ l p]) (p + 8 + num l p)
/-- .. and no more. -/
def End (l : List Nat) (L : List (List Nat)) (p : Nat) : Prop := Rd l L p ∧ ¬ isRec l p
theorem Rd.le {l : List Nat} {L : List (List Nat)} {p : Nat} (h : Rd l L p) : p ≤ l.length := by
  cases h with
  | nil => exact Nat.zero_le _
  | snoc h hr => exact hr.2.2.2.1
theorem Rd.many {l : List Nat} {L : List (List Nat)} {p : Nat} (h : Rd l L p) : L.length * 9 ≤ p := by
  induction h with
  | nil => simp
  | snoc h hr ih =>
    have := hr.2.1
    rw [List.length_append, List.length_singleton]
    omega
theorem Rd.lt {l : List Nat} {L : List (List Nat)} {p : Nat} (hl : ∀ u ∈ l, u < 256) (h : Rd l L p) : ∀ x ∈ L, (∀ u ∈ x, u < 256) ∧ x.length ≤ 60000 := by
  induction h with
  | nil => simp
  | snoc h hr ih =>
    intro x hx
    rcases List.mem_append.1 hx with h1 | h1
    · exact ih x h1
    · rw [List.mem_singleton.1 h1]
      refine ⟨fun u hu => hl u (List.mem_of_mem_drop (List.mem_of_mem_take hu)), ?_⟩
      rw [rec_, List.length_take]
      exact Nat.le_trans (Nat.min_le_left _ _) hr.2.2.1
def go (l : List Nat) : Nat → List (List Nat) → Nat → List (List Nat) × Nat
  | 0, L, p => (L, p)
  | f + 1, L, p => if isRec l p then go l f (L ++ [rec_ l p]) (p + 8 + num l p) else (L, p)
/-- What bytes are read as, and the place behind the last record. -/
def read (l : List Nat) : List (List Nat) × Nat := go l l.length [] 0
theorem Rd.go {l : List Nat} {L : List (List Nat)} {p : Nat} (h : Rd l L p) : ∀ f, Jn.go l (f + L.length) [] 0 = Jn.go l f L p := by
  induction h with
  | nil => intro f; rfl
  | snoc h hr ih =>
    intro f
    rw [List.length_append, List.length_singleton, ← Nat.add_assoc, Nat.add_right_comm, ih (f + 1)]
    exact if_pos hr
theorem End.read {l : List Nat} {L : List (List Nat)} {p : Nat} (h : End l L p) : read l = (L, p) := by
  have h1 := h.1.many
  have h2 := h.1.le
  unfold Jn.read
  rw [show l.length = (l.length - L.length) + L.length by omega, h.1.go]
  cases l.length - L.length with
  | zero => rfl
  | succ f => exact if_neg h.2
/-! The program's way -/
section
variable {l : List Nat} {p : Nat}
/-- What Num tells, and what the two Raws tell. -/
def n1 (l : List Nat) (p : Nat) : Nat × Nat × Nat := Pk.rnum l p 0 ((4 : Nat) : Int)
def t1 (l : List Nat) (p : Nat) : List Nat × Nat × Nat := Pk.take l (n1 l p).2.1 (n1 l p).2.2 ((4 : Nat) : Int)
def x1 (l : List Nat) (p : Nat) : List Nat × Nat × Nat := Pk.take l (t1 l p).2.1 (t1 l p).2.2 ((n1 l p).1 : Nat)
theorem n1_of (h : p + 4 ≤ l.length) : n1 l p = (num l p, p + 4, 0) := by
  unfold n1 Pk.rnum
  rw [if_neg (by omega)]
  unfold Pk.take
  rw [if_neg (by simp), if_neg (by omega), if_neg (by omega)]
  rfl
theorem n1_no (h : ¬ p + 4 ≤ l.length) (hp : p ≤ l.length) : (n1 l p).1 = 0 := by
  unfold n1 Pk.rnum
  rw [if_neg (by omega)]
  unfold Pk.take
  rw [if_neg (by simp), if_neg (by omega), if_pos (by omega)]
  rfl
theorem n1_zero (hp : p ≤ l.length) (h : (n1 l p).1 = 0) : ¬ isRec l p := fun hr => by
  rw [n1_of (by have := hr.1; omega)] at h
  exact hr.2.1 h
theorem n1_big (h : 60000 < (n1 l p).1) : ¬ isRec l p := fun hr => by
  rw [n1_of (by have := hr.1; omega)] at h
  have := hr.2.2.1
  simp only at h
  omega
theorem n1_four (hp : p ≤ l.length) (h : (n1 l p).1 ≠ 0) : p + 4 ≤ l.length := by
  apply Decidable.byContradiction
  intro h1
  exact h (n1_no h1 hp)
theorem x1_none (hx : (x1 l p).1.length = 0) : ¬ isRec l p := fun hr => by
  have h8 := hr.1
  have h4 := n1_of (l := l) (p := p) (by omega)
  have ht : t1 l p = (told l p, p + 8, 0) := by
    unfold t1 Pk.take
    rw [h4, if_neg (by simp), if_neg (by omega)]
    simp only
    rw [if_neg (by omega)]
    rfl
  have hn := hr.2.2.2.1
  have h0 := hr.2.1
  unfold x1 Pk.take at hx
  rw [ht, h4] at hx
  simp only at hx
  rw [if_neg (by simp), if_neg (by omega), if_neg (by omega), List.length_take, List.length_drop] at hx
  simp only [Int.toNat_natCast] at hx
  omega
/-- What is known where a record stood. -/
theorem x1_some (hp : p ≤ l.length) (h0 : (n1 l p).1 ≠ 0) (hx : (x1 l p).1.length ≠ 0) : n1 l p = (num l p, p + 4, 0) ∧ t1 l p = (told l p, p + 8, 0) ∧ x1 l p = (rec_ l p, p + 8 + num l p, 0) ∧ p + 8 + num l p ≤ l.length := by
  have h4 := n1_of (n1_four hp h0)
  have hp4 := n1_four hp h0
  by_cases h8 : p + 8 ≤ l.length
  · have ht : t1 l p = (told l p, p + 8, 0) := by
      unfold t1 Pk.take
      rw [h4, if_neg (by simp), if_neg (by omega)]
      simp only
      rw [if_neg (by omega)]
      rfl
    refine ⟨h4, ht, ?_⟩
    unfold x1 Pk.take at hx ⊢
    rw [ht, h4] at hx ⊢
    simp only at hx ⊢
    rw [if_neg (by simp), if_neg (by omega)] at hx ⊢
    split at hx
    · simp at hx
    · rename_i h9
      rw [if_neg h9]
      exact ⟨rfl, by omega⟩
  · exfalso
    have ht : (t1 l p).2.2 = 4 := by
      unfold t1 Pk.take
      rw [h4, if_neg (by simp), if_neg (by omega)]
      simp only
      rw [if_pos (by omega)]
    unfold x1 Pk.take at hx
    rw [ht] at hx
    exact hx rfl
theorem x1_not (hp : p ≤ l.length) (h0 : (n1 l p).1 ≠ 0) (hx : (x1 l p).1.length ≠ 0) (hs : sum4 (x1 l p).1 ≠ (t1 l p).1) : ¬ isRec l p := fun hr => by
  obtain ⟨_, h2, h3, _⟩ := x1_some hp h0 hx
  rw [h2, h3] at hs
  exact hs hr.2.2.2.2
theorem x1_is (hp : p ≤ l.length) (h0 : (n1 l p).1 ≠ 0) (h6 : ¬ 60000 < (n1 l p).1) (hx : (x1 l p).1.length ≠ 0) (hs : sum4 (x1 l p).1 = (t1 l p).1) : isRec l p := by
  obtain ⟨h1, h2, h3, h4⟩ := x1_some hp h0 hx
  rw [h2, h3] at hs
  rw [h1] at h0 h6
  simp only at h0 h6
  exact ⟨by omega, h0, by omega, h4, hs⟩
end
theorem val4 {l : List Nat} {a b c d : Nat} (hl : l.length = 4) (h0 : l[0]? = some a) (h1 : l[1]? = some b) (h2 : l[2]? = some c) (h3 : l[3]? = some d) (ra : a < 256) (rb : b < 256) (rc : c < 256) (rd : d < 256) :
    ((((a * 2 ^ 24 % 4294967296 + b * 2 ^ 16 % 4294967296) % 4294967296 + c * 2 ^ 8 % 4294967296) % 4294967296) + d) % 4294967296 = Pk.val l := by
  match l, hl with
  | [x, y, z, u], _ =>
    simp only [List.getElem?_cons_zero, List.getElem?_cons_succ, Option.some.injEq] at h0 h1 h2 h3
    subst h0 h1 h2 h3
    simp only [Pk.val, List.foldl_cons, List.foldl_nil]
    omega
/-! The journal -/
/-- A record's bytes. -/
def form (x : List Nat) : List Nat := Pk.digs x.length 4 ++ sum4 x ++ x
theorem form_len (x : List Nat) : (form x).length = x.length + 8 := by
  unfold form
  rw [List.length_append, List.length_append, Pk.digs_len, sum4_len]
  omega
theorem form_lt {x : List Nat} (h : ∀ u ∈ x, u < 256) : ∀ u ∈ form x, u < 256 := by
  intro u hu
  rcases List.mem_append.1 hu with h1 | h1
  · rcases List.mem_append.1 h1 with h2 | h2
    · exact Pk.digs_lt _ _ u h2
    · exact sum4_lt x u h2
  · exact h u h1
/-- What always holds of records. -/
structure ok (L : List (List Nat)) : Prop where
  len : L.length ≤ 4000000
  lt : ∀ x ∈ L, (∀ u ∈ x, u < 256) ∧ x.length ≤ 60000
theorem ok_nil : ok [] := ⟨Nat.zero_le _, by simp⟩
def inside (L : List (List Nat)) (i : Int) : Prop := 0 ≤ i ∧ i < (L.length : Int)
instance (L : List (List Nat)) (i : Int) : Decidable (inside L i) := by unfold inside; infer_instance
def at_ (L : List (List Nat)) (i : Int) : List Nat := if inside L i then L.getD i.toNat [] else []
def rcode (L : List (List Nat)) (i : Int) : Nat := if inside L i then 0 else 7
def add (d : Dk.D) (x : List Nat) : Nat × Dk.D := if x.length = 0 then (2, d) else if 60000 < x.length then (3, d) else Dk.add d (form x)
def addL (d : Dk.D) (L : List (List Nat)) (x : List Nat) : List (List Nat) := if (add d x).1 = 0 then L ++ [x] else L
def opens (d : Dk.D) : Nat × Dk.D := if d.off = true then (210, d) else if (read d.l).2 < d.l.length then Dk.cut d ((read d.l).2 : Nat) else (0, d)
theorem at_in {L : List (List Nat)} {k : Nat} {x : List Nat} (h : L[k]? = some x) : at_ L (k : Int) = x ∧ rcode L (k : Int) = 0 := by
  have hlt := (List.getElem?_eq_some_iff.1 h).1
  have hi : inside L (k : Int) := ⟨by omega, by omega⟩
  refine ⟨?_, if_pos hi⟩
  rw [at_, if_pos hi, Int.toNat_natCast]
  simp [List.getD, h]
theorem at_out {L : List (List Nat)} {i : Int} (h : ¬ inside L i) : at_ L i = [] ∧ rcode L i = 7 := ⟨if_neg h, if_neg h⟩
theorem at_lt {L : List (List Nat)} (h : ok L) (i : Int) : (∀ u ∈ at_ L i, u < 256) ∧ (at_ L i).length ≤ 60000 := by
  unfold at_
  split
  · rename_i hi
    have hlt : i.toNat < L.length := by have := hi.1; have := hi.2; omega
    have : L.getD i.toNat [] = L[i.toNat] := by simp [List.getD, hlt]
    rw [this]
    exact h.lt _ (List.getElem_mem hlt)
  · simp
theorem add_ok {d : Dk.D} {x : List Nat} (h : Dk.ok d) (hx : ∀ u ∈ x, u < 256) : Dk.ok (add d x).2 := by
  unfold add
  split
  · exact h
  · split
    · exact h
    · exact Dk.add_ok h (form_lt hx)
theorem opens_ok {d : Dk.D} (h : Dk.ok d) : Dk.ok (opens d).2 := by
  unfold opens
  split
  · exact h
  · split
    · exact Dk.cut_ok h
    · exact h
theorem num4 {m : Nat} (h : m ≤ 60000) : Pk.num [] 0 m ((4 : Nat) : Int) = (Pk.digs m 4, 0) := by
  have h1 : m / 2 ^ (8 * 4) = 0 := Nat.div_eq_of_lt (by omega)
  unfold Pk.num
  rw [if_neg (by simp), if_neg (by omega), if_neg (by intro hh; exact hh.2 h1)]
  rfl
theorem form_is {b : List Nat} {m : Nat} (hb : b.length = m) (h : m ≤ 60000) :
    Pk.told (Pk.raw (Pk.raw (Pk.num [] 0 m ((4 : Nat) : Int)).1 (Pk.num [] 0 m ((4 : Nat) : Int)).2 ((Sm.sum Sm.k256 b).take 4)).1 (Pk.raw (Pk.num [] 0 m ((4 : Nat) : Int)).1 (Pk.num [] 0 m ((4 : Nat) : Int)).2 ((Sm.sum Sm.k256 b).take 4)).2 b).1
      (Pk.raw (Pk.raw (Pk.num [] 0 m ((4 : Nat) : Int)).1 (Pk.num [] 0 m ((4 : Nat) : Int)).2 ((Sm.sum Sm.k256 b).take 4)).1 (Pk.raw (Pk.num [] 0 m ((4 : Nat) : Int)).1 (Pk.num [] 0 m ((4 : Nat) : Int)).2 ((Sm.sum Sm.k256 b).take 4)).2 b).2 = form b := by
  subst hb
  rw [num4 h]
  rfl
theorem addL_ok {d : Dk.D} {L : List (List Nat)} {x : List Nat} (h : ok L) (hx : ∀ u ∈ x, u < 256) (hl : L.length < 4000000) : ok (addL d L x) := by
  unfold addL
  split
  · rename_i h0
    refine ⟨by rw [List.length_append, List.length_singleton]; omega, fun y hy => ?_⟩
    rcases List.mem_append.1 hy with h1 | h1
    · exact h.lt y h1
    · rw [List.mem_singleton.1 h1]
      refine ⟨hx, ?_⟩
      unfold add at h0
      split at h0
      · cases h0
      · split at h0
        · cases h0
        · omega
  · exact h
theorem addL_no {d : Dk.D} {L : List (List Nat)} {x : List Nat} {r : Nat} {D : Dk.D} (h : add d x = (r, D)) (h0 : r ≠ 0) : addL d L x = L := by
  unfold addL
  rw [h]
  exact if_neg h0
theorem addL_yes {d : Dk.D} {L : List (List Nat)} {x : List Nat} {r : Nat} {D : Dk.D} (h : add d x = (r, D)) (h0 : r = 0) : addL d L x = L ++ [x] := by
  unfold addL
  rw [h]
  exact if_pos h0
theorem opens_off {d : Dk.D} (h : Dk.ready d ≠ 0) : opens d = (Dk.ready d, d) := by
  have := Dk.off_of h
  rw [opens, if_pos this, Dk.ready, if_pos this]
theorem told_on {d : Dk.D} (h : Dk.ready d = 0) : Dk.told d = d.l := by
  rw [Dk.told, if_neg (Dk.on_of h)]
theorem opens_all {d : Dk.D} {L : List (List Nat)} {p : Nat} (h : Dk.ready d = 0) (hE : End (Dk.told d) L p) (hp : ¬ p < (Dk.told d).length) : opens d = (0, d) ∧ (read d.l).1 = L := by
  rw [told_on h] at hE hp
  rw [opens, if_neg (Dk.on_of h), hE.read, if_neg hp]
  exact ⟨rfl, rfl⟩
theorem opens_cut {d : Dk.D} {L : List (List Nat)} {p : Nat} (h : Dk.ready d = 0) (hE : End (Dk.told d) L p) (hp : p < (Dk.told d).length) : opens d = Dk.cut d ((p : Nat) : Int) ∧ (read d.l).1 = L := by
  rw [told_on h] at hE hp
  rw [opens, if_neg (Dk.on_of h), hE.read, if_pos hp]
  exact ⟨rfl, rfl⟩
theorem go_end {l : List Nat} : ∀ (f : Nat) (L : List (List Nat)) (p : Nat), Rd l L p → l.length - p ≤ f → End l (go l f L p).1 (go l f L p).2
  | 0, L, p, h, hf => show End l L p from ⟨h, fun hr => by have := hr.1; omega⟩
  | f + 1, L, p, h, hf => by
    by_cases hr : isRec l p
    · rw [show go l (f + 1) L p = go l f (L ++ [rec_ l p]) (p + 8 + num l p) from if_pos hr]
      exact go_end f _ _ (.snoc h hr) (by omega)
    · rw [show go l (f + 1) L p = (L, p) from if_neg hr]
      exact ⟨h, hr⟩
theorem read_end (l : List Nat) : End l (read l).1 (read l).2 := go_end l.length [] 0 .nil (by omega)
theorem read_ok {l : List Nat} (hl : l.length ≤ 16777216) (h : ∀ u ∈ l, u < 256) : ok (read l).1 := by
  have h1 := (read_end l).1
  have h2 := h1.many
  have h3 := h1.le
  exact ⟨by omega, h1.lt h⟩
theorem read_small {l : List Nat} (hl : l.length ≤ 16777216) : (read l).1.length ≤ 1864135 := by
  have h1 := (read_end l).1
  have h2 := h1.many
  have h3 := h1.le
  omega
end Go.Jn
