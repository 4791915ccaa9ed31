/- HMAC and what is derived, in plain Lean. -/
import Derived.Test.YtdifogdaiimmoaaShaMath3
namespace Sm
/-- A key's block, each byte added to one. -/
def kpad (bl by_ : Nat) (key : List Nat) : List Nat := (key ++ List.replicate (bl - key.length) 0).map fun x => x ^^^ by_
def keyed (q : Kd) (key : List Nat) : List Nat := if 16 * size q < key.length then sum q key else key
def hmac (q : Kd) (key text : List Nat) : List Nat := sum q (kpad (16 * size q) 92 (keyed q key) ++ sum q (kpad (16 * size q) 54 (keyed q key) ++ text))
/-- What is expanded: the last part, all parts. -/
def xlast (key info : List Nat) : Nat → List Nat
  | 0 => []
  | j + 1 => hmac k256 key (xlast key info j ++ info ++ [(j + 1) % 256])
def xall (key info : List Nat) : Nat → List Nat
  | 0 => []
  | j + 1 => xall key info j ++ xlast key info (j + 1)
def expand (key info : List Nat) (n : Nat) : List Nat := (xall key info ((n + 31) / 32)).take n

theorem kpad_len {bl by_ : Nat} {key : List Nat} (h : key.length ≤ bl) : (kpad bl by_ key).length = bl := by
  rw [kpad, List.length_map, List.length_append, List.length_replicate]; omega
theorem kpad_lt {bl by_ : Nat} {key : List Nat} (hb : by_ < 256) (h : ∀ u ∈ key, u < 256) : ∀ u ∈ kpad bl by_ key, u < 256 := by
  intro u hu
  obtain ⟨x, hx, rfl⟩ := List.mem_map.1 hu
  have h1 : x < 2 ^ 8 := by
    rcases List.mem_append.1 hx with hx | hx
    · exact h x hx
    · rw [(List.mem_replicate.1 hx).2]; decide
  exact Nat.xor_lt_two_pow (n := 8) h1 hb
theorem map_set {f : Nat → Nat} {L : List Nat} {i x y : Nat} (h : ((L.map f).take i ++ L.drop i)[i]? = some x) (hi : i < L.length) (hy : y = f x) : ((L.map f).take i ++ L.drop i).set i y = (L.map f).take (i + 1) ++ L.drop (i + 1) := by
  have h1 : ((L.map f).take i).length = i := by rw [List.length_take, List.length_map]; omega
  rw [List.getElem?_append_right (by omega), h1, Nat.sub_self, List.getElem?_drop, Nat.add_zero] at h
  rw [List.set_append_right _ _ (by omega), h1, Nat.sub_self, List.drop_eq_getElem_cons hi, List.set_cons_zero, hy, List.take_add_one, List.getElem?_map, h]
  simp
theorem kpad_get {bl by_ i : Nat} {key : List Nat} (hi : i < bl) : (kpad bl by_ key)[i]? = some (key.getD i 0 ^^^ by_) := by
  unfold kpad
  rw [List.getElem?_map]
  by_cases h : i < key.length
  · rw [List.getElem?_append_left h]
    simp [List.getD, List.getElem?_eq_getElem h]
  · rw [List.getElem?_append_right (by omega), List.getElem?_replicate, if_pos (by omega)]
    simp [List.getD, List.getElem?_eq_none (by omega : key.length ≤ i)]
theorem keyed_len {q : Kd} {key : List Nat} (hq : size q = 4 ∨ size q = 8) : (keyed q key).length ≤ 16 * size q := by
  unfold keyed
  split
  · rw [sum_len]; omega
  · omega
theorem hmac_len (q : Kd) (key text : List Nat) : (hmac q key text).length = 8 * size q := sum_len _ _
theorem hmac_lt (q : Kd) (key text : List Nat) : ∀ u ∈ hmac q key text, u < 256 := sum_lt _ _
theorem xlast_len (key info : List Nat) : ∀ j, (xlast key info j).length ≤ 32
  | 0 => Nat.zero_le _
  | _ + 1 => by rw [xlast, hmac_len]; decide
theorem xlast_len1 (key info : List Nat) (j : Nat) : (xlast key info (j + 1)).length = 32 := by rw [xlast, hmac_len]; rfl
theorem xlast_lt (key info : List Nat) : ∀ j, ∀ u ∈ xlast key info j, u < 256
  | 0 => by simp [xlast]
  | _ + 1 => hmac_lt _ _ _
theorem xall_len (key info : List Nat) : ∀ j, (xall key info j).length = 32 * j
  | 0 => rfl
  | j + 1 => by rw [xall, List.length_append, xall_len key info j, xlast_len1]; omega
theorem xall_lt (key info : List Nat) : ∀ j, ∀ u ∈ xall key info j, u < 256
  | 0 => by simp [xall]
  | j + 1 => fun u hu => by
    rcases List.mem_append.1 hu with hu | hu
    · exact xall_lt key info j u hu
    · exact xlast_lt _ _ _ u hu
theorem xall_take (key info : List Nat) {j : Nat} : ∀ {i : Nat}, j ≤ i → (xall key info i).take (32 * j) = xall key info j
  | 0, h => by
    obtain rfl : j = 0 := by omega
    rfl
  | i + 1, h => by
    by_cases hj : j = i + 1
    · subst hj
      exact List.take_of_length_le (by rw [xall_len]; omega)
    · rw [xall, List.take_append_of_le_length (by rw [xall_len]; omega)]
      exact xall_take key info (by omega)
theorem expand_eq {key info : List Nat} {n j : Nat} (h : n ≤ 32 * j) : (xall key info j).take n = expand key info n := by
  unfold expand
  have h2 : (xall key info j).take (32 * ((n + 31) / 32)) = xall key info ((n + 31) / 32) := xall_take key info (by omega)
  rw [← h2, List.take_take, Nat.min_eq_left (by omega)]
theorem expand_len (key info : List Nat) (n : Nat) : (expand key info n).length = n := by
  rw [expand, List.length_take, xall_len]; omega
theorem expand_lt (key info : List Nat) (n : Nat) : ∀ u ∈ expand key info n, u < 256 := fun u hu => xall_lt _ _ _ u (List.mem_of_mem_take hu)
theorem expand_take {key info : List Nat} {m n : Nat} (h : m ≤ n) : (expand key info n).take m = expand key info m := by
  unfold expand
  rw [List.take_take, Nat.min_eq_left h, expand_eq (by omega)]; rfl
/-- One byte more. -/
theorem expand_snoc {key info : List Nat} {i x : Nat} (h : (xlast key info (i / 32 + 1))[i % 32]? = some x) : expand key info i ++ [x] = expand key info (i + 1) := by
  rw [← expand_eq (j := i / 32 + 1) (by omega), ← expand_eq (j := i / 32 + 1) (by omega : i + 1 ≤ _)]
  refine take_snoc ?_
  rw [xall, List.getElem?_append_right (by rw [xall_len]; omega), xall_len, show i - 32 * (i / 32) = i % 32 by omega]
  exact h
theorem noughts {q : Kd} {key : List Nat} {m : Nat} (h : key.length + m ≤ 16 * size q) (text : List Nat) : hmac q (key ++ List.replicate m 0) text = hmac q key text := by
  have h1 : ¬ 16 * size q < (key ++ List.replicate m 0).length := by rw [List.length_append, List.length_replicate]; omega
  have h2 : ¬ 16 * size q < key.length := by omega
  have h3 : ∀ by_, kpad (16 * size q) by_ (key ++ List.replicate m 0) = kpad (16 * size q) by_ key := by
    intro by_
    unfold kpad
    rw [List.append_assoc, List.length_append, List.length_replicate, List.replicate_append_replicate, show m + (16 * size q - (key.length + m)) = 16 * size q - key.length by omega]
  unfold hmac keyed
  rw [if_neg h1, if_neg h2, h3, h3]
end Sm
