/- Layer 27 (net): the calls that are handed in. -/
import Derived.Test.YtbfmodjaahfbjaaV21
namespace Go.Nt
open Go.Ev
structure Op where
  kind : Int
  n : Int
  y : Lt
deriving Inhabited
def Op.cells (x : Op) : List Value := [.int .i64 x.kind, .int .i64 x.n, .int .i64 x.y.f, .int .i64 x.y.t, .slice x.y.a x.y.l.length x.y.c]
structure Op.good (W : World) (x : Op) : Prop where
  sl : Sl W .u8 x.y.a x.y.l.length x.y.c x.y.l
  lt : ∀ u ∈ x.y.l, u < 256
  big : x.y.l.length ≤ 140737488351232
/-- How many bytes the first ones have. -/
def sum (L : List Op) : Nat := (L.map (·.y.l.length)).sum
theorem sum_snoc {L : List Op} {i : Nat} {x : Op} (h : L[i]? = some x) : sum (L.take (i + 1)) = sum (L.take i) + x.y.l.length := by
  rw [List.take_add_one, h]
  simp [sum]
theorem sum_mem {L : List Op} {x : Op} (h : x ∈ L) : x.y.l.length ≤ sum L := by
  induction L with
  | nil => simp at h
  | cons y r ih =>
    have e : sum (y :: r) = y.y.l.length + sum r := by simp [sum]
    rw [e]
    rcases List.mem_cons.1 h with rfl | h
    · omega
    · have := ih h; omega
theorem Op.good.hp {w0 w : World} {es : List Ent} {x : Op} (h : x.good w0) (H : Hp w0 [] w es) : x.good w := ⟨h.sl.hp H, h.lt, h.big⟩
end Go.Nt
