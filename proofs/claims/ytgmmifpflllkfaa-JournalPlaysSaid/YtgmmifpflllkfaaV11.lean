/- Own words for walks, eleventh part: what stands behind a slice, wherever it lies; a slice of a slice; bytes as text. -/
import Derived.Test.YtgmmifpflllkfaaV10
import Derived.Laws.BytesArg
import Derived.Laws.Strings
namespace Go.Ev

/-- What stands behind a slice's place. -/
def Rd (w : World) (k : IntKind) (a : Option Addr) (l : List Nat) : Prop :=
  l = [] ∨ ∃ b o, a = some ⟨b, o, none⟩ ∧ ∀ j u : Nat, l[j]? = some u → w.cell? ⟨b, o + j, none⟩ = some (.int k (u : Int))

theorem cell_lt {w : World} {a : Addr} {v : Value} (h : w.cell? a = some v) : a.block < w.heap.size := by
  unfold World.cell? at h
  cases hb : w.heap[a.block]? with
  | none => simp [hb] at h
  | some o => exact (Array.getElem?_eq_some_iff.1 hb).1

section
variable {P : Program} {e : Env} {w w0 w' : World} {S : List Nat} {es : List Ent} {d : Option Nat} {ty t t2 et : TypeId} {pos : String} {aft : Array Edge} {g : Option (Nat × Bool)} {x y : Operand} {v : Value}
variable {n z : Nat} {ops : Array Oper} {rest : List Oper} {Q : Exit → Env → World → Prop} {op : Op} {b0 : Nat} {k : IntKind} {a : Option Addr} {l : List Nat}

theorem Rd.nil (w : World) (k : IntKind) (a : Option Addr) : Rd w k a [] := .inl rfl
theorem Rd.of {b o : Nat} (h : ∀ j u : Nat, l[j]? = some u → w.cell? ⟨b, o + j, none⟩ = some (.int k (u : Int))) : Rd w k (some ⟨b, o, none⟩) l := .inr ⟨b, o, rfl, h⟩
/-- What was there still is. -/
theorem Rd.hp (h : Rd w0 k a l) (H : Hp w0 [] w es) : Rd w k a l := by
  rcases h with h | ⟨b, o, rfl, h⟩
  · exact .inl h
  · refine .inr ⟨b, o, rfl, fun j u hu => ?_⟩
    have h1 := h j u hu
    rw [← h1]
    exact World.cell?_of_block (H.frame b (cell_lt h1) (by simp))
theorem Rd.keep (h : Rd w k a l) (H : Keep w w') : Rd w' k a l := h.hp H
theorem Rd.open (h : Rd w k a l) (hl : 0 < l.length) : ∃ b o, a = some ⟨b, o, none⟩ := by
  rcases h with rfl | ⟨b, o, rfl, _⟩
  · simp at hl
  · exact ⟨b, o, rfl⟩
theorem Rd.cell {b o : Nat} (h : Rd w k (some ⟨b, o, none⟩) l) {j u : Nat} (hu : l[j]? = some u) : w.cell? ⟨b, o + j, none⟩ = some (.int k (u : Int)) := by
  rcases h with rfl | ⟨b', o', h, h2⟩
  · simp at hu
  · cases h
    exact h2 j u hu
/-- Out of a block of one's own. -/
theorem Rd.blk {b o i m : Nat} {cs : Array Value} {bt : TypeId} (H : Hp w0 S w es) (hi : es[i]? = some (.blk b bt cs)) (hc : ∀ j u : Nat, l[j]? = some u → cs[o + j]? = some (.int k (u : Int))) : Rd w k (some ⟨b, o, none⟩) l :=
  Rd.of fun j u hu => by rw [cell_of_row w b _ cs bt (0, 0) (H.get i hi)]; exact hc j u hu
theorem pre_seg {cs : Array Value} {l1 l2 : List Nat} {m o : Nat} (h : cs.toList.take m = us k l1) (hd : ∀ j u : Nat, l2[j]? = some u → l1[o + j]? = some u) : ∀ j u : Nat, l2[j]? = some u → cs[o + j]? = some (.int k (u : Int)) := fun j u hu => pre_get h (hd j u hu)
theorem seg_drop (l1 : List Nat) (o q : Nat) : ∀ j u : Nat, ((l1.drop o).take q)[j]? = some u → l1[o + j]? = some u := fun j u hu => by
  rw [List.getElem?_take] at hu
  split at hu
  · rwa [List.getElem?_drop] at hu
  · cases hu

/-! ### Lengths, places -/
/-- A slice of a slice (elements of one cell). -/
def cutA (a : Option Addr) (c lo : Nat) : Option Addr := if c = lo then a else a.map (·.add (lo * 1))
theorem Rd.cut {c lo hi m : Nat} (h : Rd w k a l) (hm : l.length = m) (hlh : lo ≤ hi) (him : hi ≤ m) (hmc : m ≤ c) : Rd w k (cutA a c lo) ((l.drop lo).take (hi - lo)) := by
  unfold cutA
  by_cases hc : c = lo
  · have : hi - lo = 0 := by omega
    rw [if_pos hc, this, List.take_zero]
    exact Rd.nil w k a
  · rw [if_neg hc]
    rcases h with rfl | ⟨b, o, rfl, h⟩
    · exact .inl (by simp)
    · refine .inr ⟨b, o + lo, by simp [add_at], fun j u hu => ?_⟩
      have := h (lo + j) u (seg_drop l lo _ j u hu)
      rwa [← Nat.add_assoc] at this
theorem elem_of (h : slOf P t = some (et, z)) : P.underlying t = some (.slice (P.elem t)) ∧ P.elem t = et := by
  obtain ⟨hu, _⟩ := slOf_eq h
  have : P.elem t = et := by simp [Program.elem, hu]
  exact ⟨by rw [this]; exact hu, this⟩
theorem run_sizeOf_sl (h : slOf P t = some (et, z)) : (sizeOf (P.elem t)).run P w = .ok z w := by
  obtain ⟨_, i, hi, hz⟩ := slOf_eq h
  rw [(elem_of h).2]
  simp [sizeOf, typeInfo, hi, hz]
theorem Y_cutLH {kl kh : IntKind} {x1 x2 : Operand} {m c lo hi : Nat} (ht : slOf P t = some (et, 1)) (hx : ev e x = .slice a m c) (hlo : ev e x1 = .int kl (lo : Int)) (hhi : ev e x2 = .int kh (hi : Int)) (h1 : lo ≤ hi) (h2 : hi ≤ c) :
    Yl P ⟨d, .slice t x (some x1) (some x2) none, ty, pos, aft, g⟩ e w (.slice (cutA a c lo) (hi - lo) (c - lo)) := by
  have hu := (elem_of ht).1
  have h := run_slice_lh (P := P) w t a m c hu kl kh (lo : Int) (hi : Int) (by omega) (by omega) (by omega)
  simp only [Int.toNat_natCast, run_sizeOf_sl ht, Result.andThen_ok] at h
  simp [Yl, execOp, hx, hlo, hhi, run_sliceAt_slice, hu, h, sliced, cutA]
theorem Y_cutH {kh : IntKind} {x2 : Operand} {m c hi : Nat} (ht : slOf P t = some (et, 1)) (hx : ev e x = .slice a m c) (hhi : ev e x2 = .int kh (hi : Int)) (h2 : hi ≤ c) :
    Yl P ⟨d, .slice t x none (some x2) none, ty, pos, aft, g⟩ e w (.slice (cutA a c 0) (hi - 0) (c - 0)) := by
  have hu := (elem_of ht).1
  have h := run_slice_h (P := P) w t a m c hu kh (hi : Int) (by omega) (by omega)
  simp only [Int.toNat_natCast, run_sizeOf_sl ht, Result.andThen_ok] at h
  simp [Yl, execOp, hx, hhi, run_sliceAt_slice, hu, h, sliced, cutA]
theorem Y_cutL {kl : IntKind} {x1 : Operand} {m c lo : Nat} (ht : slOf P t = some (et, 1)) (hx : ev e x = .slice a m c) (hlo : ev e x1 = .int kl (lo : Int)) (h1 : lo ≤ m) :
    Yl P ⟨d, .slice t x (some x1) none none, ty, pos, aft, g⟩ e w (.slice (cutA a c lo) (m - lo) (c - lo)) := by
  have hu := (elem_of ht).1
  have h := run_slice_l (P := P) w t a m c hu kl (lo : Int) (by omega) (by omega)
  simp only [Int.toNat_natCast, run_sizeOf_sl ht, Result.andThen_ok] at h
  simp [Yl, execOp, hx, hlo, run_sliceAt_slice, hu, h, sliced, cutA]
theorem cutA_some (b o c lo : Nat) (h : c ≠ lo) : cutA (some ⟨b, o, none⟩) c lo = some ⟨b, o + lo, none⟩ := by simp [cutA, h, add_at]
theorem add_zero (p : Addr) : p.add 0 = p := by simp [Addr.add]
theorem cutA_zero (a : Option Addr) (c : Nat) : cutA a c 0 = a := by
  unfold cutA
  split
  · rfl
  · cases a with
    | none => rfl
    | some p => simp [add_zero]

/-! ### append, whatever is appended -/
theorem Dn_appR {i m q c by_ : Nat} {zv : Array Value} {l1 l2 : List Nat} {R : Value → World → Prop} (H : Hp w0 S w es) (hi : es[i]? = some (.own v et 1 m (us k l1))) (hs : slOf P t = some (et, 1)) (hz : zeroOf P et = some zv) (hzs : zv.size = 1) (hb : szOf P et = some by_)
    (hx : ev e x = v) (hy : ev e y = .slice a q c) (hr : Rd w k a l2) (hq : l2.length = q) (hfit : m + q ≤ 4294967296 ∧ by_ ≤ 16) (hc0 : a = none → c = 0)
    (hk : ∀ v' w', Hp w0 S w' (es.set i (.own v' et 1 (m + q) (us k (l1 ++ l2)))) → R v' w') : Dn P ⟨d, .call { callee := .builtin .append, args := #[x, y], argTypes := #[t, t] }, ty, pos, aft, g⟩ e w R := by
  have h16 : (m + q) * by_ ≤ 4294967296 * 16 := Nat.mul_le_mul hfit.1 hfit.2
  rcases hr with rfl | ⟨b, o, rfl, h⟩
  · obtain rfl : q = 0 := by rw [← hq]; rfl
    cases a with
    | some p => exact Dn_app (news := us k []) H hi hs hz hzs hb hx hy rfl (fun j u hu => by simp [us] at hu) (by simp [us]) (by omega) (by have := hfit.1; simp only [maxLen]; omega) (fun v' w' H' => hk v' w' (by rwa [us_append]))
    | none =>
    obtain rfl := hc0 rfl
    obtain ⟨hu, ti, hti, _⟩ := slOf_eq hs
    have hown := H.get i hi
    have hr := run_append_owned_none (P := P) (w := w) 0 t ty et ti 1 hu hti v m (us k l1) hown
    refine Dn.val (w' := w) (v := v) ?_ (hk v w ?_)
    · simp [execOp, resolve, invoke, builtin, hx, hy, hr]
    · rw [List.append_nil, Nat.add_zero]
      have e0 : es.set i (.own v et 1 m (us k l1)) = es := by
        refine List.ext_getElem? fun j => ?_
        by_cases hj : i = j
        · subst hj
          rw [List.getElem?_set_self (List.getElem?_eq_some_iff.1 hi).1, hi]
        · rw [List.getElem?_set_ne hj]
      rw [e0]; exact H
  · refine Dn_app H hi hs hz hzs hb hx hy (by rw [us_length, hq, Nat.mul_one]) (fun j u hu => ?_) (us_one k l2) (by omega) (by have := hfit.1; simp only [maxLen]; omega) (fun v' w' H' => hk v' w' (by rwa [us_append]))
    simp only [us, List.getElem?_map, Option.map_eq_some_iff] at hu
    obtain ⟨u', hu', rfl⟩ := hu
    rw [add_at]; exact h j u' hu'
theorem L_appR {i m q c by_ : Nat} {zv : Array Value} {l1 l2 : List Nat} (hd : Nat.blt b0 n = true) (H : Hp w0 S w es) (hi : es[i]? = some (.own v et 1 m (us k l1))) (hs : slOf P t = some (et, 1)) (hz : zeroOf P et = some zv) (hzs : zv.size = 1) (hb : szOf P et = some by_)
    (hx : ev e x = v) (hy : ev e y = .slice a q c) (hr : Rd w k a l2) (hq : l2.length = q) (hfit : m + q ≤ 4294967296 ∧ by_ ≤ 16) (hc0 : a = none → c = 0)
    (hk : ∀ v' w', Hp w0 S w' (es.set i (.own v' et 1 (m + q) (us k (l1 ++ l2)))) → L P n ops Q rest (upd e b0 v') w') : L P n ops Q (⟨some b0, .call { callee := .builtin .append, args := #[x, y], argTypes := #[t, t] }, ty, pos, aft, none⟩ :: rest) e w :=
  L_do rfl hd (R := fun v w' => L P n ops Q rest (upd e b0 v) w') (Dn_appR H hi hs hz hzs hb hx hy hr hq hfit hc0 hk) (fun _ _ h => h)

/-! ### Bytes as text -/
def bs (l : List Nat) : ByteArray := strOfNums (l.map fun (n : Nat) => (n : Int))
theorem Y_str {m c : Nat} (hs : P.underlying t = some (.slice et)) (he : P.underlying et = some (.int .u8)) (hd : P.underlying t2 = some .string) (hx : ev e x = .slice a m c) (hr : Rd w .u8 a l) (hl : l.length = m) :
    Yl P ⟨d, .convert t t2 x, ty, pos, aft, g⟩ e w (.string (bs l)) := by
  rcases hr with rfl | ⟨b, o, rfl, h⟩
  · obtain rfl : m = 0 := hl.symm
    cases a with
    | none =>
      have := run_convert_bytes_nil (P := P) w t et hs he 0 c t2 hd
      simp [Yl, execOp, hx, this]
      rfl
    | some p =>
      have h1 := run_convert_bytes_string (P := P) w t t2 et (some p) 0 c hs he hd
      simp [Yl, execOp, hx, h1, Conv.bytesToString, loadCells, loadCellsFrom]
      rfl
  · have := run_convert_bytes_arg (P := P) w t et hs he b o m c (l.map fun (n : Nat) => (n : Int)) (by simp [hl]) (fun i hi => by
      have h1 : l[i]? = some l[i] := List.getElem?_eq_getElem (by omega)
      rw [h i _ h1]
      simp [List.getD, h1]) t2 hd
    simp [Yl, execOp, hx, this, bs]
theorem bs_list (l : List Nat) : (bs l).toList = l.map fun (n : Nat) => UInt8.ofNat n := by
  rw [ByteArray.toList_eq, bs, strOfNums_data, List.map_map]
  exact List.map_congr_left fun n _ => by simp
theorem bs_inj {l1 l2 : List Nat} (h1 : ∀ u ∈ l1, u < 256) (h2 : ∀ u ∈ l2, u < 256) : ((bs l1).toList == (bs l2).toList) = decide (l1 = l2) := by
  rw [bs_list, bs_list]
  by_cases h : l1 = l2
  · subst h; simp
  · rw [decide_eq_false h]
    refine beq_false_of_ne fun he => h ?_
    have hm : ∀ l : List Nat, (∀ u ∈ l, u < 256) → (l.map fun (n : Nat) => UInt8.ofNat n).map UInt8.toNat = l := fun l hl => by
      rw [List.map_map]
      conv => rhs; rw [← List.map_id l]
      exact List.map_congr_left fun n hn => by
        have := hl n hn
        simp only [Function.comp_apply, UInt8.toNat_ofNat', id_eq]
        omega
    rw [← hm l1 h1, ← hm l2 h2, he]
theorem Y_eqT {l1 l2 : List Nat} (hu : P.underlying t = some .string) (h1 : ∀ u ∈ l1, u < 256) (h2 : ∀ u ∈ l2, u < 256) (hx : ev e x = .string (bs l1)) (hy : ev e y = .string (bs l2)) :
    Yl P ⟨d, .binOp .eql t x y t2, ty, pos, aft, g⟩ e w (.bool (decide (l1 = l2))) := by
  have hq : eqGuard .eql t x y (.string (bs l1)) (.string (bs l2)) = pure () := by simp [eqGuard]
  simp [Yl, execOp, hx, hy, hq, binOp_string_eql, bs_inj h1 h2]
end
end Go.Ev
