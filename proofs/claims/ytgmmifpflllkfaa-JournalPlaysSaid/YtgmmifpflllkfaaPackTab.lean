/- Layer 17 (pack): the calls that are handed in. -/
import Derived.Test.YtgmmifpflllkfaaV17
import Derived.Test.YtgmmifpflllkfaaPackMath
namespace Go.Pk
open Go.Ev
structure Op where
  kind : Int
  size : Int
  n : Nat
  a : Option Addr
  m : Nat
  c : Nat
  l : List Nat
deriving Inhabited
def Op.cells (x : Op) : List Value := [.int .i64 x.kind, .int .i64 x.size, .int .u64 (x.n : Int), .slice x.a x.m x.c]
structure Op.good (W : World) (x : Op) : Prop where
  n64 : x.n < 18446744073709551616
  s1 : -9223372036854775808 ≤ x.size
  s2 : x.size ≤ 9223372036854775807
  sl : Sl W .u8 x.a x.m x.c x.l
  lt : ∀ u ∈ x.l, u < 256
  big : x.m ≤ 140737488351232
/-- How many bytes the first ones have. -/
def sum (L : List Op) : Nat := (L.map (·.m)).sum
theorem sum_snoc {L : List Op} {i : Nat} {x : Op} (h : L[i]? = some x) : sum (L.take (i + 1)) = sum (L.take i) + x.m := by
  rw [List.take_add_one, h]
  simp [sum]
theorem sum_le {L : List Op} {B : Nat} (hg : ∀ x ∈ L, x.m ≤ B) (i : Nat) : sum (L.take i) ≤ i * B := by
  induction i with
  | zero => exact Nat.zero_le _
  | succ i ih =>
    rw [Nat.succ_mul]
    cases h : L[i]? with
    | none => rw [List.take_add_one, h, Option.toList_none, List.append_nil]; omega
    | some x =>
      rw [sum_snoc h]
      have := hg x (List.mem_of_getElem? h)
      omega
theorem sum_mem {L : List Op} {x : Op} (h : x ∈ L) : x.m ≤ sum L := by
  induction L with
  | nil => simp at h
  | cons y r ih =>
    have e : sum (y :: r) = y.m + sum r := by simp [sum]
    rw [e]
    rcases List.mem_cons.1 h with rfl | h
    · omega
    · have := ih h; omega
theorem Op.good.hp {w0 w : World} {es : List Ent} {x : Op} (h : x.good w0) (H : Hp w0 [] w es) : x.good w := ⟨h.n64, h.s1, h.s2, h.sl.hp H, h.lt, h.big⟩
theorem at77 {l : List Nat} {m : Nat} (h : l.length = m) : (l ++ [77])[m]? = some 77 := by
  rw [List.getElem?_append_right (by omega)]; simp [h]
theorem told0 {l : List Nat} {e : Nat} (h : e = 0) : told l e = l := if_pos h
theorem told1 {l : List Nat} {e : Nat} (h : e ≠ 0) : told l e = [] := if_neg h
def large (L : List Op) : Bool := decide (200 < L.length) || decide (300000 < sum L)
theorem large_no {L : List Op} (h : large L = false) : L.length ≤ 200 ∧ ∀ x ∈ L, x.m ≤ 300000 := by
  simp only [large, Bool.or_eq_false_iff, decide_eq_false_iff_not, Nat.not_lt] at h
  exact ⟨h.1, fun x hx => Nat.le_trans (sum_mem hx) h.2⟩
end Go.Pk
