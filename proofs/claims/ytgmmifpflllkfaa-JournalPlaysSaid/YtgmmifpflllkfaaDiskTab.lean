/- Layer 21 (disk): the calls that are handed in. -/
import Derived.Test.YtgmmifpflllkfaaV17
import Derived.Test.YtgmmifpflllkfaaDiskMath
namespace Go.Dk
open Go.Ev
structure Op where
  kind : Int
  n : Int
  a : Option Addr
  m : Nat
  c : Nat
  l : List Nat
deriving Inhabited
def Op.cells (x : Op) : List Value := [.int .i64 x.kind, .int .i64 x.n, .slice x.a x.m x.c]
structure Op.good (W : World) (x : Op) : Prop where
  s1 : -9223372036854775808 ≤ x.n
  s2 : x.n ≤ 9223372036854775807
  sl : Sl W .u8 x.a x.m x.c x.l
  lt : ∀ u ∈ x.l, u < 256
  big : x.m ≤ 140737488351232
/-- How many bytes the first ones have. -/
def sum (L : List Op) : Nat := (L.map (·.m)).sum
theorem sum_snoc {L : List Op} {i : Nat} {x : Op} (h : L[i]? = some x) : sum (L.take (i + 1)) = sum (L.take i) + x.m := by
  rw [List.take_add_one, h]
  simp [sum]
theorem sum_le {L : List Op} {B : Nat} (hg : ∀ x ∈ L, x.m ≤ B) (i : Nat) : sum (L.take i) ≤ i * B := by
  induction i with
  | zero => exact Nat.zero_le _
  | succ i ih =>
    rw [Nat.succ_mul]
    cases h : L[i]? with
    | none => rw [List.take_add_one, h, Option.toList_none, List.append_nil]; omega
    | some x =>
      rw [sum_snoc h]
      have := hg x (List.mem_of_getElem? h)
      omega
theorem sum_mem {L : List Op} {x : Op} (h : x ∈ L) : x.m ≤ sum L := by
  induction L with
  | nil => simp at h
  | cons y r ih =>
    have e : sum (y :: r) = y.m + sum r := by simp [sum]
    rw [e]
    rcases List.mem_cons.1 h with rfl | h
    · omega
    · have := ih h; omega
theorem Op.good.hp {w0 w : World} {es : List Ent} {x : Op} (h : x.good w0) (H : Hp w0 [] w es) : x.good w := ⟨h.s1, h.s2, h.sl.hp H, h.lt, h.big⟩
theorem at77 {l : List Nat} {m : Nat} (h : l.length = m) : (l ++ [77])[m]? = some 77 := by
  rw [List.getElem?_append_right (by omega)]; simp [h]
/-- One call of a script. -/
def Op.run (d : D) (x : Op) : D :=
  if x.kind = 0 then (add d x.l).2 else if x.kind = 1 then (cut d x.n).2 else if x.kind = 2 then (arm d x.n).2 else if x.kind = 3 then (restart d).2 else d
def play (d : D) (L : List Op) : D := L.foldl Op.run d
theorem play_snoc {d : D} {L : List Op} {i : Nat} {x : Op} (h : L[i]? = some x) : play d (L.take (i + 1)) = Op.run (play d (L.take i)) x := by
  rw [List.take_add_one, h]
  simp [play]
end Go.Dk
