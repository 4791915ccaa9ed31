/- Own words: handed-in slices of slices of bytes. -/
import Derived.Test.YtgmmifpflllkfaaV18
namespace Go.Ev
/-- A slice of bytes that stands in a cell. -/
structure Bs where
  a : Option Addr
  m : Nat
  c : Nat
  l : List Nat
deriving Inhabited
def Bs.cells (x : Bs) : List Value := [.slice x.a x.m x.c]
structure Bs.good (W : World) (x : Bs) : Prop where
  sl : Sl W .u8 x.a x.m x.c x.l
  lt : ∀ u ∈ x.l, u < 256
  big : x.m ≤ 140737488351232
/-- How many bytes the first ones have. -/
def Bs.sum (L : List Bs) : Nat := (L.map (·.m)).sum
theorem Bs.sum_snoc {L : List Bs} {i : Nat} {x : Bs} (h : L[i]? = some x) : Bs.sum (L.take (i + 1)) = Bs.sum (L.take i) + x.m := by
  rw [List.take_add_one, h]
  simp [Bs.sum]
theorem Bs.sum_take {L : List Bs} (i : Nat) : Bs.sum (L.take i) ≤ Bs.sum L := by
  have : Bs.sum L = Bs.sum (L.take i) + Bs.sum (L.drop i) := by
    have h2 : L = L.take i ++ L.drop i := (List.take_append_drop i L).symm
    have h3 : ∀ A B : List Bs, Bs.sum (A ++ B) = Bs.sum A + Bs.sum B := fun A B => by simp [Bs.sum]
    rw [← h3, ← h2]
  omega
theorem Bs.sum_step {L : List Bs} {i : Nat} {x : Bs} (h : L[i]? = some x) : Bs.sum (L.take i) + x.m ≤ Bs.sum L := by
  rw [← Bs.sum_snoc h]
  exact Bs.sum_take _
theorem Bs.sum_mem {L : List Bs} {x : Bs} (h : x ∈ L) : x.m ≤ Bs.sum L := by
  obtain ⟨i, hi⟩ := List.mem_iff_getElem?.1 h
  have := Bs.sum_step hi
  omega
theorem Bs.good.hp {w0 w : World} {es : List Ent} {x : Bs} (h : x.good w0) (H : Hp w0 [] w es) : x.good w := ⟨h.sl.hp H, h.lt, h.big⟩
end Go.Ev
