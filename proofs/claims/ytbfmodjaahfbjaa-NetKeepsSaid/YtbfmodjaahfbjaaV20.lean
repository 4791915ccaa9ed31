/- Own words: letters: rows of structs that hold slices of bytes. -/
import Derived.Test.YtbfmodjaahfbjaaV19
namespace Go.Ev

/-- A letter: its two numbers, its bytes' slice, what stands in it. -/
structure Lt where
  f : Int
  t : Int
  a : Option Addr
  c : Nat
  l : List Nat
deriving Inhabited
def Lt.v (x : Lt) : Value := .slice x.a x.l.length x.c
def Lt.cells (x : Lt) : List Value := [.int .i64 x.f, .int .i64 x.t, x.v]
def Lt.ent (u : TypeId) (x : Lt) : Ent := .own x.v u 1 x.l.length (us .u8 x.l)
def rows (L : List Lt) : List Value := L.flatMap Lt.cells
/-- The bytes of letters, rows of one's own. -/
def nest (u : TypeId) (L : List Lt) : List Ent := L.map (Lt.ent u)
theorem rows_cons (x : Lt) (L : List Lt) : rows (x :: L) = x.cells ++ rows L := rfl
theorem rows_len (L : List Lt) : (rows L).length = L.length * 3 := by
  induction L with
  | nil => rfl
  | cons x r ih => rw [rows_cons, List.length_append, ih, List.length_cons, Nat.succ_mul, Nat.add_comm]; rfl
theorem rows_append (A B : List Lt) : rows (A ++ B) = rows A ++ rows B := List.flatMap_append
theorem rows_get {L : List Lt} {x : Lt} : ∀ {j : Nat}, L[j]? = some x → ∀ q v, x.cells[q]? = some v → (rows L)[j * 3 + q]? = some v := by
  induction L with
  | nil => intro j h; simp at h
  | cons y r ih =>
    intro j h q v hv
    have hq : q < 3 := (List.getElem?_eq_some_iff.1 hv).1
    cases j with
    | zero =>
      have : y = x := by simpa using h
      subst this
      rw [rows_cons, Nat.zero_mul, Nat.zero_add, List.getElem?_append_left (by exact hq)]
      exact hv
    | succ j =>
      rw [rows_cons, List.getElem?_append_right (by show 3 ≤ _; omega), show (j + 1) * 3 + q - y.cells.length = j * 3 + q by show (j + 1) * 3 + q - 3 = _; omega]
      exact ih (by simpa using h) q v hv
theorem rows_one (L : List Lt) : ∀ u ∈ rows L, u.oneCell' = true := by
  intro u hu
  obtain ⟨x, _, hx⟩ := List.mem_flatMap.1 hu
  simp only [Lt.cells, List.mem_cons, List.not_mem_nil, or_false] at hx
  rcases hx with rfl | rfl | rfl <;> rfl
theorem rows_take (L : List Lt) (i : Nat) : (rows L).take (i * 3) = rows (L.take i) := by
  by_cases h : i ≤ L.length
  · conv => lhs; rw [← List.take_append_drop i L]
    rw [rows_append]
    exact List.take_left' (by rw [rows_len, List.length_take, Nat.min_eq_left h])
  · rw [List.take_of_length_le (by rw [rows_len]; omega), List.take_of_length_le (by omega)]
theorem rows_drop (L : List Lt) (i : Nat) : (rows L).drop (i * 3) = rows (L.drop i) := by
  by_cases h : i ≤ L.length
  · conv => lhs; rw [← List.take_append_drop i L]
    rw [rows_append]
    exact List.drop_left' (by rw [rows_len, List.length_take, Nat.min_eq_left h])
  · rw [List.drop_of_length_le (by rw [rows_len]; omega), List.drop_of_length_le (by omega)]
    rfl
/-- A slice's place within a slice. -/
def cutZ (z : Nat) (a : Option Addr) (c lo : Nat) : Option Addr := if c = lo then a else a.map (·.add (lo * z))

section
variable {P : Program} {e : Env} {w w0 w' : World} {S : List Nat} {es X Y : List Ent} {d : Option Nat} {ty t t2 et : TypeId} {pos : String} {aft : Array Edge} {g : Option (Nat × Bool)} {x y : Operand} {v : Value}
variable {n z : Nat} {ops : Array Oper} {rest : List Oper} {Q : Exit → Env → World → Prop} {op : Op} {b0 : Nat} {k : IntKind} {a : Option Addr} {l : List Nat} {m c : Nat} {K : List Lt}

/-- What stands behind a slice of letters. -/
structure Ts (w : World) (a : Option Addr) (m c : Nat) (K : List Lt) : Prop where
  tab : Tab w Lt.cells 3 a m c K
  non : a = none → c = 0
theorem Ts.hp (h : Ts w0 a m c K) (H : Hp w0 [] w es) : Ts w a m c K := ⟨h.tab.hp H, h.non⟩
theorem Ts.nil (w : World) : Ts w none 0 0 [] := ⟨⟨rfl, Nat.le_refl _, .inl rfl⟩, fun _ => rfl⟩
theorem Ts.own {i q : Nat} (H : Hp w0 S w es) (hi : es[i]? = some (.own (.slice a m c) et 3 q (rows K))) : Ts w a q c K := by
  have hl := (H.get i hi).1
  have hl2 : K.length = q := by rw [rows_len] at hl; omega
  rcases H.own_blk hi with ⟨h1, rfl, h2⟩ | ⟨b, cap, cs, h1, hn, hc, hs, hx, H2⟩
  · injection h1 with h3 h4 h5
    subst h3 h4 h5
    obtain rfl : K = [] := List.eq_nil_of_length_eq_zero hl2
    exact Ts.nil w
  · injection h1 with h3 h4 h5
    subst h3 h4 h5
    refine ⟨⟨hl2, hn, .inr ⟨b, 0, rfl, fun i x hx' j u hu => ?_⟩⟩, fun h => by cases h⟩
    have hlt : i < es.length ∨ True := .inr trivial
    have hi2 := (List.getElem?_eq_some_iff.1 hi).1
    have hg : (Ent.blk b et cs).ok w := H2.get _ (by rw [List.getElem?_set_self hi2])
    rw [Nat.zero_add, cell_of_row w b _ cs et (0, 0) hg]
    have h6 := rows_get hx' j u hu
    rw [← hx, List.getElem?_take] at h6
    split at h6
    · simpa using h6
    · cases h6
theorem Ts.opn {i q : Nat} (H : Hp w0 S w es) (hi : es[i]? = some (.own v et 3 q (rows K))) : ∃ a c, v = .slice a q c := H.own_len hi
theorem Ts.tk {i : Nat} (h : Ts w a m c K) (hi : i ≤ m) : Ts w a i c (K.take i) := by
  refine ⟨⟨by rw [List.length_take, h.tab.len]; omega, Nat.le_trans hi h.tab.cap, ?_⟩, h.non⟩
  rcases h.tab.rd with rfl | ⟨b, o, rfl, h1⟩
  · exact .inl (by simp)
  · refine .inr ⟨b, o, rfl, fun j x hx => h1 j x ?_⟩
    rw [List.getElem?_take] at hx
    split at hx
    · exact hx
    · cases hx
theorem Ts.dr {lo : Nat} (h : Ts w a m c K) (h1 : lo ≤ m) : Ts w (cutZ 3 a c lo) (m - lo) (c - lo) (K.drop lo) := by
  have hcap := h.tab.cap
  refine ⟨⟨by rw [List.length_drop, h.tab.len], by omega, ?_⟩, ?_⟩
  · unfold cutZ
    split
    · refine .inl (List.drop_of_length_le (by rw [h.tab.len]; omega))
    · rcases h.tab.rd with rfl | ⟨b, o, rfl, h2⟩
      · exact .inl (by simp)
      · refine .inr ⟨b, o + lo * 3, by simp [add_at], fun j x hx q u hu => ?_⟩
        rw [List.getElem?_drop] at hx
        have := h2 _ x hx q u hu
        rw [show o + lo * 3 + j * 3 + q = o + (lo + j) * 3 + q by omega]
        exact this
  · unfold cutZ
    split
    · intro _; omega
    · intro h2
      have h3 : a = none := by simpa using h2
      have := h.non h3
      omega
/-! ### Operations -/
theorem Y_ldTs {j q : Nat} {x0 : Lt} (hs : rowOf P t = some 3) (hT : Tab w Lt.cells 3 a m c K) (hL : K[j]? = some x0) (hx : ev e x = pl a q) (hq : q = j * 3 + 0) : Yl P ⟨d, .load t x, ty, pos, aft, g⟩ e w (.agg #[.int .i64 x0.f, .int .i64 x0.t, .slice x0.a x0.l.length x0.c]) := by
  obtain ⟨b, o, rfl, h1⟩ := hT.open hL
  subst hq
  rw [show pl (some ⟨b, o, none⟩) (j * 3 + 0) = .pointer (some ⟨b, o + j * 3, none⟩) by simp [pl, add_at]] at hx
  have h := run_loadRow (P := P) (w := w) (a := ⟨b, o + j * 3, none⟩) (cs := x0.cells) hs rfl (fun q u hu => by
    rw [add_at]
    exact h1 j x0 hL q u hu)
  have h' : (Instr.loadAt t (.pointer (some ⟨b, o + j * 3, none⟩))).run P w = .ok (.agg #[.int .i64 x0.f, .int .i64 x0.t, .slice x0.a x0.l.length x0.c]) w := h
  simp [Yl, execOp, hx, h']
theorem Y_cutZH {kh : IntKind} {x2 : Operand} {hi : Nat} (ht : slOf P t = some (et, z)) (hx : ev e x = .slice a m c) (hhi : ev e x2 = .int kh (hi : Int)) (h2 : hi ≤ c) :
    Yl P ⟨d, .slice t x none (some x2) none, ty, pos, aft, g⟩ e w (.slice a hi c) := by
  have hu := (elem_of ht).1
  have h := run_slice_h (P := P) w t a m c hu kh (hi : Int) (by omega) (by omega)
  simp only [Int.toNat_natCast, run_sizeOf_sl ht, Result.andThen_ok] at h
  have e1 : sliced a 0 hi c z = .slice a hi c := by
    unfold sliced
    by_cases h0 : c = 0
    · simp [h0]
    · cases a <;> simp [add_zero]
  simp [Yl, execOp, hx, hhi, run_sliceAt_slice, hu, h, e1]
theorem Y_cutZL {kl : IntKind} {x1 : Operand} {lo : Nat} (ht : slOf P t = some (et, z)) (hx : ev e x = .slice a m c) (hlo : ev e x1 = .int kl (lo : Int)) (h1 : lo ≤ m) :
    Yl P ⟨d, .slice t x (some x1) none none, ty, pos, aft, g⟩ e w (.slice (cutZ z a c lo) (m - lo) (c - lo)) := by
  have hu := (elem_of ht).1
  have h := run_slice_l (P := P) w t a m c hu kl (lo : Int) (by omega) (by omega)
  simp only [Int.toNat_natCast, run_sizeOf_sl ht, Result.andThen_ok] at h
  simp [Yl, execOp, hx, hlo, run_sliceAt_slice, hu, h, sliced, cutZ]
theorem Y_cutZLH {kl kh : IntKind} {x1 x2 : Operand} {lo hi : Nat} (ht : slOf P t = some (et, z)) (hx : ev e x = .slice a m c) (hlo : ev e x1 = .int kl (lo : Int)) (hhi : ev e x2 = .int kh (hi : Int)) (h1 : lo ≤ hi) (h2 : hi ≤ c) :
    Yl P ⟨d, .slice t x (some x1) (some x2) none, ty, pos, aft, g⟩ e w (.slice (cutZ z a c lo) (hi - lo) (c - lo)) := by
  have hu := (elem_of ht).1
  have h := run_slice_lh (P := P) w t a m c hu kl kh (lo : Int) (hi : Int) (by omega) (by omega) (by omega)
  simp only [Int.toNat_natCast, run_sizeOf_sl ht, Result.andThen_ok] at h
  simp [Yl, execOp, hx, hlo, hhi, run_sliceAt_slice, hu, h, sliced, cutZ]
theorem Y_cutZ3 {kl kh km : IntKind} {x1 x2 x3 : Operand} {lo hi mx : Nat} (ht : slOf P t = some (et, z)) (hx : ev e x = .slice a m c) (hlo : ev e x1 = .int kl (lo : Int)) (hhi : ev e x2 = .int kh (hi : Int)) (hmx : ev e x3 = .int km (mx : Int)) (h1 : lo ≤ hi) (h2 : hi ≤ mx) (h3 : mx ≤ c) :
    Yl P ⟨d, .slice t x (some x1) (some x2) (some x3), ty, pos, aft, g⟩ e w (.slice (cutZ z a mx lo) (hi - lo) (mx - lo)) := by
  have hu := (elem_of ht).1
  have h := run_slice_lhm (P := P) w t a m c hu kl kh km (lo : Int) (hi : Int) (mx : Int) (by omega) (by omega) (by omega) (by omega)
  simp only [Int.toNat_natCast, run_sizeOf_sl ht, Result.andThen_ok] at h
  simp [Yl, execOp, hx, hlo, hhi, hmx, run_sliceAt_slice, hu, h, sliced, cutZ]
/-- Letters are appended to a row of letters. -/
theorem Dn_appT {i p q by_ : Nat} {zv : Array Value} {L1 L2 : List Lt} {R : Value → World → Prop} (H : Hp w0 S w es) (hi : es[i]? = some (.own v et 3 p (rows L1))) (hs : slOf P t = some (et, 3)) (hz : zeroOf P et = some zv) (hzs : zv.size = 3) (hb : szOf P et = some by_)
    (hx : ev e x = v) (hy : ev e y = .slice a q c) (hr : Ts w a q c L2) (hfit : p + q ≤ 4294967 ∧ by_ ≤ 1000)
    (hk : ∀ v' w', Hp w0 S w' (es.set i (.own v' et 3 (p + q) (rows (L1 ++ L2)))) → R v' w') : Dn P ⟨d, .call { callee := .builtin .append, args := #[x, y], argTypes := #[t, t] }, ty, pos, aft, g⟩ e w R := by
  have h16 : (p + q) * by_ ≤ 4294967 * 1000 := Nat.mul_le_mul hfit.1 hfit.2
  have hq := hr.tab.len
  rcases hr.tab.rd with rfl | ⟨b, o, rfl, h⟩
  · obtain rfl : q = 0 := by rw [← hq]; rfl
    cases a with
    | some r => exact Dn_app (news := []) H hi hs hz hzs hb hx hy rfl (fun j u hu => by simp at hu) (by simp) (by omega) (by have := hfit.1; simp only [maxLen]; omega) (fun v' w' H' => hk v' w' (by rw [rows_append]; exact H'))
    | none =>
    obtain rfl := hr.non rfl
    obtain ⟨hu, ti, hti, _⟩ := slOf_eq hs
    have hown := H.get i hi
    have hr := run_append_owned_none (P := P) (w := w) 0 t ty et ti 3 hu hti v p (rows L1) hown
    refine Dn.val (w' := w) (v := v) ?_ (hk v w ?_)
    · simp [execOp, resolve, invoke, builtin, hx, hy, hr]
    · rw [List.append_nil, Nat.add_zero]
      have e0 : es.set i (.own v et 3 p (rows L1)) = es := by
        refine List.ext_getElem? fun j => ?_
        by_cases hj : i = j
        · subst hj
          rw [List.getElem?_set_self (List.getElem?_eq_some_iff.1 hi).1, hi]
        · rw [List.getElem?_set_ne hj]
      rw [e0]; exact H
  · refine Dn_app (news := rows L2) H hi hs hz hzs hb hx hy (by rw [rows_len, hq]) (fun j u hu => ?_) (rows_one L2) (by omega) (by have := hfit.1; simp only [maxLen]; omega) (fun v' w' H' => hk v' w' (by rw [rows_append]; exact H'))
    have hj : j < L2.length * 3 := by rw [← rows_len]; exact (List.getElem?_eq_some_iff.1 hu).1
    have h3 : j / 3 < L2.length := by omega
    have h4 : L2[j / 3]? = some L2[j / 3] := List.getElem?_eq_getElem h3
    have h5 : j % 3 < 3 := Nat.mod_lt _ (by decide)
    have h6 : (L2[j / 3]).cells[j % 3]? = some ((L2[j / 3]).cells[j % 3]'h5) := List.getElem?_eq_getElem _
    have h7 := rows_get h4 _ _ h6
    rw [show j / 3 * 3 + j % 3 = j by omega, hu] at h7
    injection h7 with h7
    rw [add_at, h7, show o + j = o + j / 3 * 3 + j % 3 by omega]
    exact h _ _ h4 _ _ h6
theorem L_appT {i p q by_ : Nat} {zv : Array Value} {L1 L2 : List Lt} (hd : Nat.blt b0 n = true) (H : Hp w0 S w es) (hi : es[i]? = some (.own v et 3 p (rows L1))) (hs : slOf P t = some (et, 3)) (hz : zeroOf P et = some zv) (hzs : zv.size = 3) (hb : szOf P et = some by_)
    (hx : ev e x = v) (hy : ev e y = .slice a q c) (hr : Ts w a q c L2) (hfit : p + q ≤ 4294967 ∧ by_ ≤ 1000)
    (hk : ∀ v' w', Hp w0 S w' (es.set i (.own v' et 3 (p + q) (rows (L1 ++ L2)))) → L P n ops Q rest (upd e b0 v') w') : L P n ops Q (⟨some b0, .call { callee := .builtin .append, args := #[x, y], argTypes := #[t, t] }, ty, pos, aft, none⟩ :: rest) e w :=
  L_do rfl hd (R := fun v w' => L P n ops Q rest (upd e b0 v) w') (Dn_appT H hi hs hz hzs hb hx hy hr hfit hk) (fun _ _ h => h)
/-- A block of a letter. -/
theorem Ts.blk {i b : Nat} {bt : TypeId} {x0 : Lt} (H : Hp w0 S w es) (hi : es[i]? = some (.blk b bt #[.int .i64 x0.f, .int .i64 x0.t, .slice x0.a x0.l.length x0.c])) : Ts w (some ⟨b, 0, none⟩) 1 1 [x0] := by
  refine ⟨⟨rfl, Nat.le_refl _, .inr ⟨b, 0, rfl, fun i x hx j u hu => ?_⟩⟩, fun h => by cases h⟩
  cases i with
  | succ i => simp at hx
  | zero =>
    have : x0 = x := by simpa using hx
    subst this
    rw [show 0 + 0 * 3 + j = j by omega, cell_of_row w b _ _ bt (0, 0) (H.get _ hi)]
    simpa [Lt.cells, Lt.v] using hu
/-- The last ones are moved ahead within a row. -/
theorem L_appIn {i j p : Nat} {zv : Array Value} (hd : Nat.blt b0 n = true) (H : Hp w0 S w es) (hp : es[p]? = some (.own (.slice a m c) et 3 m (rows K))) (hs : slOf P t = some (et, 3)) (hz : zeroOf P et = some zv)
    (hx : ev e x = .slice a i c) (hy : ev e y = .slice (cutZ 3 a c j) (m - j) (c - j)) (hij : i ≤ j) (hjm : j ≤ m) (hm : 0 < m)
    (hk : ∀ w', Hp w0 S w' (es.set p (.own (.slice a (i + (m - j)) c) et 3 (i + (m - j)) (rows (K.take i ++ K.drop j)))) → L P n ops Q rest (upd e b0 (.slice a (i + (m - j)) c)) w') :
    L P n ops Q (⟨some b0, .call { callee := .builtin .append, args := #[x, y], argTypes := #[t, t] }, ty, pos, aft, none⟩ :: rest) e w := by
  have hT := Ts.own H hp
  have hLl := hT.tab.len
  have hcap := hT.tab.cap
  obtain ⟨hu, ti, hti, hsz⟩ := slOf_eq hs
  have hp2 := (List.getElem?_eq_some_iff.1 hp).1
  rcases H.own_blk hp with ⟨_, h0, _⟩ | ⟨b, cap, cs, h1, hn, hc, hcs, hxs, H2⟩
  · omega
  · injection h1 with h3 h4 h5
    subst h3 h5
    have hg : (Ent.blk b et cs).ok w := H2.get p (by rw [List.getElem?_set_self hp2])
    have hTd := hT.dr (lo := j) hjm
    -- the place of what is moved
    obtain ⟨A, hA, hnews⟩ : ∃ A : Addr, cutZ 3 (some ⟨b, 0, none⟩) c j = some A ∧ ∀ q u, (rows (K.drop j))[q]? = some u → w.cell? (A.add q) = some u := by
      unfold cutZ
      by_cases hcj : c = j
      · refine ⟨⟨b, 0, none⟩, by rw [if_pos hcj], fun q u hu => ?_⟩
        rw [List.drop_of_length_le (by omega)] at hu
        simp [rows] at hu
      · refine ⟨⟨b, 0 + j * 3, none⟩, by rw [if_neg hcj]; simp [add_at], fun q u hu => ?_⟩
        rw [add_at, cell_of_row w b _ cs et (0, 0) hg, Nat.zero_add]
        rw [← rows_drop, List.getElem?_drop, ← hxs, List.getElem?_take] at hu
        split at hu
        · simpa using hu
        · cases hu
    rw [hA] at hy
    have hnl : (rows (K.drop j)).length = (m - j) * 3 := by rw [rows_len, List.length_drop, hLl]
    have hr := run_append_room (P := P) w t ty et ti hu hti b i c cs hg A (m - j) (c - j) (rows (K.drop j)) (by rw [hsz]; exact hnl) hnews (rows_one _) (by omega) (by rw [hsz, hnl, hcs]; omega)
    rw [hsz] at hr
    refine L_do rfl hd (R := fun v w' => v = .slice (some ⟨b, 0, none⟩) (i + (m - j)) c ∧ w' = w.setRow b (cs.toList.take (i * 3) ++ rows (K.drop j) ++ cs.toList.drop (i * 3 + (rows (K.drop j)).length)).toArray) (Dn.val (v := .slice (some ⟨b, 0, none⟩) (i + (m - j)) c) (w' := w.setRow b (cs.toList.take (i * 3) ++ rows (K.drop j) ++ cs.toList.drop (i * 3 + (rows (K.drop j)).length)).toArray) ?_ ⟨rfl, rfl⟩) ?_
    · simp [execOp, resolve, invoke, builtin, hx, hy, hr]
    · rintro _ _ ⟨rfl, rfl⟩
      have H3 := H2.setAll (i := p) (cs.toList.take (i * 3) ++ rows (K.drop j) ++ cs.toList.drop (i * 3 + (rows (K.drop j)).length)).toArray (by rw [List.getElem?_set_self hp2]) rfl
      rw [List.set_set] at H3
      refine hk _ (H3.say (i := p) (x' := .own (.slice (some ⟨b, 0, none⟩) (i + (m - j)) c) et 3 (i + (m - j)) (rows (K.take i ++ K.drop j))) (by rw [List.getElem?_set_self hp2]) (own_of_blk (by omega) hc ?_ ?_) (fun _ h => h) (by rw [List.set_set]))
      · rw [List.size_toArray, List.length_append, List.length_append, List.length_take, List.length_drop, Array.length_toList, hnl, hcs]; omega
      · rw [rows_append, ← rows_take, ← hxs, List.take_take, Nat.min_eq_left (by omega)]
        show List.take _ (_ ++ _ ++ _) = _
        refine List.take_left' ?_
        rw [List.length_append, List.length_take, Array.length_toList, hnl, hcs]; omega
/-- What stands behind a row is cleared. -/
theorem L_clear {p q : Nat} {zv : Array Value} (H : Hp w0 S w es) (hp : es[p]? = some (.own (.slice a m c) et 3 m (rows K))) (hs : slOf P t = some (et, 3)) (hz : zeroOf P et = some zv) (hzs : zv.size = 3) (hz1 : allOne zv)
    (hx : ev e x = .slice (cutZ 3 a c m) q (c - m)) (hq : m + q ≤ c)
    (hk : ∀ w', Hp w0 S w' es → L P n ops Q rest e w') :
    L P n ops Q (⟨none, .call { callee := .builtin .clear, args := #[x], argTypes := #[t] }, ty, pos, aft, none⟩ :: rest) e w := by
  obtain ⟨hu, ti, hti, hsz⟩ := slOf_eq hs
  have hp2 := (List.getElem?_eq_some_iff.1 hp).1
  rcases Nat.eq_zero_or_pos q with rfl | hq0
  · refine L_do rfl rfl (R := fun _ w' => w' = w) (Dn.val (v := .tuple #[]) (w' := w) ?_ rfl) ?_
    · have : (Builtin.clear_ #[t] ty #[.slice (cutZ 3 a c m) 0 (c - m)]).run P w = .ok (.tuple #[]) w := by
        cases hcz : cutZ 3 a c m <;> simp [Builtin.clear_, run_underlying hu]
      simp [execOp, resolve, invoke, builtin, hx, this]
    · rintro _ _ rfl
      exact hk _ H
  · rcases H.own_blk hp with ⟨h1, h0, _⟩ | ⟨b, cap, cs, h1, hn, hc, hcs, hxs, H2⟩
    · injection h1 with h3 h4 h5
      omega
    · injection h1 with h3 h4 h5
      subst h3 h5
      have hg : (Ent.blk b et cs).ok w := H2.get p (by rw [List.getElem?_set_self hp2])
      have hcz : cutZ 3 (some ⟨b, 0, none⟩) c m = some ⟨b, m * 3, none⟩ := by
        unfold cutZ
        rw [if_neg (by omega)]
        simp [add_at]
      rw [hcz] at hx
      unfold zeroOf at hz
      rw [hti] at hz
      cases hzz : ti.zero with
      | none => simp [hzz] at hz
      | some zq =>
        simp [hzz] at hz
        subst hz
        have hzl : (Builtin.zeroCells zq.cells q).toList.length = q * 3 := by rw [Array.length_toList, size_zeroCells, hzs]
        have hone : ∀ v ∈ (Builtin.zeroCells zq.cells q).toList, v.oneCell' = true := by
          intro v hv
          have : v ∈ zq.cells.toList := by
            simp only [Builtin.zeroCells, Array.toList_map, List.mem_map] at hv
            obtain ⟨j, hj, rfl⟩ := hv
            have h9 : j % zq.cells.size < zq.cells.size := Nat.mod_lt _ (by omega)
            rw [getElem!_pos zq.cells _ h9]
            exact Array.getElem_mem_toList h9
          exact hz1 v this
        have hst := run_storeCells_at P b (m * 3) et (Builtin.zeroCells zq.cells q).toList 0 cs w hg (by rw [hzl, hcs]; omega) hone
        rw [Nat.add_zero] at hst
        have hrun : (Builtin.clear_ #[t] ty #[.slice (some ⟨b, m * 3, none⟩) q (c - m)]).run P w = .ok (.tuple #[]) (w.setRow b (cs.toList.take (m * 3) ++ (Builtin.zeroCells zq.cells q).toList ++ cs.toList.drop (m * 3 + (Builtin.zeroCells zq.cells q).toList.length)).toArray) := by
          obtain ⟨q', rfl⟩ : ∃ q', q = q' + 1 := ⟨q - 1, by omega⟩
          simp [Builtin.clear_, run_underlying hu, zeroValue, typeInfo, hti, hzz, hst]
        refine L_do rfl rfl (R := fun _ w' => w' = w.setRow b (cs.toList.take (m * 3) ++ (Builtin.zeroCells zq.cells q).toList ++ cs.toList.drop (m * 3 + (Builtin.zeroCells zq.cells q).toList.length)).toArray) (Dn.val (v := .tuple #[]) (w' := w.setRow b (cs.toList.take (m * 3) ++ (Builtin.zeroCells zq.cells q).toList ++ cs.toList.drop (m * 3 + (Builtin.zeroCells zq.cells q).toList.length)).toArray) ?_ rfl) ?_
        · simp [execOp, resolve, invoke, builtin, hx, hrun]
        · rintro _ _ rfl
          have H3 := H2.setAll (i := p) (cs.toList.take (m * 3) ++ (Builtin.zeroCells zq.cells q).toList ++ cs.toList.drop (m * 3 + (Builtin.zeroCells zq.cells q).toList.length)).toArray (by rw [List.getElem?_set_self hp2]) rfl
          rw [List.set_set] at H3
          refine hk _ (H3.say (i := p) (x' := .own (.slice (some ⟨b, 0, none⟩) m c) et 3 m (rows K)) (by rw [List.getElem?_set_self hp2]) (own_of_blk hn hc ?_ ?_) (fun _ h => h) ?_)
          · rw [List.size_toArray, List.length_append, List.length_append, List.length_take, List.length_drop, Array.length_toList, hzl, hcs]; omega
          · rw [← hxs]
            show List.take _ (_ ++ _ ++ _) = _
            rw [List.append_assoc]
            exact List.take_left' (by rw [List.length_take, Array.length_toList, hcs]; omega)
          · rw [List.set_set]
            refine List.ext_getElem? fun j => ?_
            by_cases hj : p = j
            · subst hj
              rw [List.getElem?_set_self hp2, hp]
            · rw [List.getElem?_set_ne hj]
end
end Go.Ev
