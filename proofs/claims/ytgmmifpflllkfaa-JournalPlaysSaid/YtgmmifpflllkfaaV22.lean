/- Own words: rows of slices of bytes (as V20, V21 for letters; the same names: a text has the one or the other). -/
import Derived.Test.YtgmmifpflllkfaaV19
namespace Go.Ev

/-- A slice of bytes: its place, its room, what stands in it. -/
structure Lt where
  a : Option Addr
  c : Nat
  l : List Nat
deriving Inhabited
def Lt.v (x : Lt) : Value := .slice x.a x.l.length x.c
def Lt.cells (x : Lt) : List Value := [x.v]
def Lt.ent (u : TypeId) (x : Lt) : Ent := .own x.v u 1 x.l.length (us .u8 x.l)
def rows (L : List Lt) : List Value := L.flatMap Lt.cells
/-- The bytes of letters, rows of one's own. -/
def nest (u : TypeId) (L : List Lt) : List Ent := L.map (Lt.ent u)
theorem rows_cons (x : Lt) (L : List Lt) : rows (x :: L) = x.cells ++ rows L := rfl
theorem rows_len (L : List Lt) : (rows L).length = L.length * 1 := by
  induction L with
  | nil => rfl
  | cons x r ih => rw [rows_cons, List.length_append, ih, List.length_cons, Nat.succ_mul, Nat.add_comm]; rfl
theorem rows_append (A B : List Lt) : rows (A ++ B) = rows A ++ rows B := List.flatMap_append
theorem rows_get {L : List Lt} {x : Lt} : ∀ {j : Nat}, L[j]? = some x → ∀ q v, x.cells[q]? = some v → (rows L)[j * 1 + q]? = some v := by
  induction L with
  | nil => intro j h; simp at h
  | cons y r ih =>
    intro j h q v hv
    have hq : q < 1 := (List.getElem?_eq_some_iff.1 hv).1
    cases j with
    | zero =>
      have : y = x := by simpa using h
      subst this
      rw [rows_cons, Nat.zero_mul, Nat.zero_add, List.getElem?_append_left (by exact hq)]
      exact hv
    | succ j =>
      rw [rows_cons, List.getElem?_append_right (by show 1 ≤ _; omega), show (j + 1) * 1 + q - y.cells.length = j * 1 + q by show (j + 1) * 1 + q - 1 = _; omega]
      exact ih (by simpa using h) q v hv
theorem rows_one (L : List Lt) : ∀ u ∈ rows L, u.oneCell' = true := by
  intro u hu
  obtain ⟨x, _, hx⟩ := List.mem_flatMap.1 hu
  simp only [Lt.cells, List.mem_cons, List.not_mem_nil, or_false] at hx
  subst hx; rfl
theorem rows_take (L : List Lt) (i : Nat) : (rows L).take (i * 1) = rows (L.take i) := by
  by_cases h : i ≤ L.length
  · conv => lhs; rw [← List.take_append_drop i L]
    rw [rows_append]
    exact List.take_left' (by rw [rows_len, List.length_take, Nat.min_eq_left h])
  · rw [List.take_of_length_le (by rw [rows_len]; omega), List.take_of_length_le (by omega)]
theorem rows_drop (L : List Lt) (i : Nat) : (rows L).drop (i * 1) = rows (L.drop i) := by
  by_cases h : i ≤ L.length
  · conv => lhs; rw [← List.take_append_drop i L]
    rw [rows_append]
    exact List.drop_left' (by rw [rows_len, List.length_take, Nat.min_eq_left h])
  · rw [List.drop_of_length_le (by rw [rows_len]; omega), List.drop_of_length_le (by omega)]
    rfl
/-- A slice's place within a slice. -/
def cutZ (z : Nat) (a : Option Addr) (c lo : Nat) : Option Addr := if c = lo then a else a.map (·.add (lo * z))

section
variable {P : Program} {e : Env} {w w0 w' : World} {S : List Nat} {es X Y : List Ent} {d : Option Nat} {ty t t2 et : TypeId} {pos : String} {aft : Array Edge} {g : Option (Nat × Bool)} {x y : Operand} {v : Value}
variable {n z : Nat} {ops : Array Oper} {rest : List Oper} {Q : Exit → Env → World → Prop} {op : Op} {b0 : Nat} {k : IntKind} {a : Option Addr} {l : List Nat} {m c : Nat} {K : List Lt}

/-- What stands behind a slice of letters. -/
structure Ts (w : World) (a : Option Addr) (m c : Nat) (K : List Lt) : Prop where
  tab : Tab w Lt.cells 1 a m c K
  non : a = none → c = 0
theorem Ts.hp (h : Ts w0 a m c K) (H : Hp w0 [] w es) : Ts w a m c K := ⟨h.tab.hp H, h.non⟩
theorem Ts.nil (w : World) : Ts w none 0 0 [] := ⟨⟨rfl, Nat.le_refl _, .inl rfl⟩, fun _ => rfl⟩
theorem Ts.own {i q : Nat} (H : Hp w0 S w es) (hi : es[i]? = some (.own (.slice a m c) et 1 q (rows K))) : Ts w a q c K := by
  have hl := (H.get i hi).1
  have hl2 : K.length = q := by rw [rows_len] at hl; omega
  rcases H.own_blk hi with ⟨h1, rfl, h2⟩ | ⟨b, cap, cs, h1, hn, hc, hs, hx, H2⟩
  · injection h1 with h3 h4 h5
    subst h3 h4 h5
    obtain rfl : K = [] := List.eq_nil_of_length_eq_zero hl2
    exact Ts.nil w
  · injection h1 with h3 h4 h5
    subst h3 h4 h5
    refine ⟨⟨hl2, hn, .inr ⟨b, 0, rfl, fun i x hx' j u hu => ?_⟩⟩, fun h => by cases h⟩
    have hlt : i < es.length ∨ True := .inr trivial
    have hi2 := (List.getElem?_eq_some_iff.1 hi).1
    have hg : (Ent.blk b et cs).ok w := H2.get _ (by rw [List.getElem?_set_self hi2])
    rw [Nat.zero_add, cell_of_row w b _ cs et (0, 0) hg]
    have h6 := rows_get hx' j u hu
    rw [← hx, List.getElem?_take] at h6
    split at h6
    · simpa using h6
    · cases h6
theorem Ts.opn {i q : Nat} (H : Hp w0 S w es) (hi : es[i]? = some (.own v et 1 q (rows K))) : ∃ a c, v = .slice a q c := H.own_len hi
theorem Ts.tk {i : Nat} (h : Ts w a m c K) (hi : i ≤ m) : Ts w a i c (K.take i) := by
  refine ⟨⟨by rw [List.length_take, h.tab.len]; omega, Nat.le_trans hi h.tab.cap, ?_⟩, h.non⟩
  rcases h.tab.rd with rfl | ⟨b, o, rfl, h1⟩
  · exact .inl (by simp)
  · refine .inr ⟨b, o, rfl, fun j x hx => h1 j x ?_⟩
    rw [List.getElem?_take] at hx
    split at hx
    · exact hx
    · cases hx
theorem Ts.dr {lo : Nat} (h : Ts w a m c K) (h1 : lo ≤ m) : Ts w (cutZ 1 a c lo) (m - lo) (c - lo) (K.drop lo) := by
  have hcap := h.tab.cap
  refine ⟨⟨by rw [List.length_drop, h.tab.len], by omega, ?_⟩, ?_⟩
  · unfold cutZ
    split
    · refine .inl (List.drop_of_length_le (by rw [h.tab.len]; omega))
    · rcases h.tab.rd with rfl | ⟨b, o, rfl, h2⟩
      · exact .inl (by simp)
      · refine .inr ⟨b, o + lo * 1, by simp [add_at], fun j x hx q u hu => ?_⟩
        rw [List.getElem?_drop] at hx
        have := h2 _ x hx q u hu
        rw [show o + lo * 1 + j * 1 + q = o + (lo + j) * 1 + q by omega]
        exact this
  · unfold cutZ
    split
    · intro _; omega
    · intro h2
      have h3 : a = none := by simpa using h2
      have := h.non h3
      omega
/-- Letters are appended to a row of letters. -/
theorem Dn_appT {i p q by_ : Nat} {zv : Array Value} {L1 L2 : List Lt} {R : Value → World → Prop} (H : Hp w0 S w es) (hi : es[i]? = some (.own v et 1 p (rows L1))) (hs : slOf P t = some (et, 1)) (hz : zeroOf P et = some zv) (hzs : zv.size = 1) (hb : szOf P et = some by_)
    (hx : ev e x = v) (hy : ev e y = .slice a q c) (hr : Ts w a q c L2) (hfit : p + q ≤ 4294967 ∧ by_ ≤ 1000)
    (hk : ∀ v' w', Hp w0 S w' (es.set i (.own v' et 1 (p + q) (rows (L1 ++ L2)))) → R v' w') : Dn P ⟨d, .call { callee := .builtin .append, args := #[x, y], argTypes := #[t, t] }, ty, pos, aft, g⟩ e w R := by
  have h16 : (p + q) * by_ ≤ 4294967 * 1000 := Nat.mul_le_mul hfit.1 hfit.2
  have hq := hr.tab.len
  rcases hr.tab.rd with rfl | ⟨b, o, rfl, h⟩
  · obtain rfl : q = 0 := by rw [← hq]; rfl
    cases a with
    | some r => exact Dn_app (news := []) H hi hs hz hzs hb hx hy rfl (fun j u hu => by simp at hu) (by simp) (by omega) (by have := hfit.1; simp only [maxLen]; omega) (fun v' w' H' => hk v' w' (by rw [rows_append]; exact H'))
    | none =>
    obtain rfl := hr.non rfl
    obtain ⟨hu, ti, hti, _⟩ := slOf_eq hs
    have hown := H.get i hi
    have hr := run_append_owned_none (P := P) (w := w) 0 t ty et ti 1 hu hti v p (rows L1) hown
    refine Dn.val (w' := w) (v := v) ?_ (hk v w ?_)
    · simp [execOp, resolve, invoke, builtin, hx, hy, hr]
    · rw [List.append_nil, Nat.add_zero]
      have e0 : es.set i (.own v et 1 p (rows L1)) = es := by
        refine List.ext_getElem? fun j => ?_
        by_cases hj : i = j
        · subst hj
          rw [List.getElem?_set_self (List.getElem?_eq_some_iff.1 hi).1, hi]
        · rw [List.getElem?_set_ne hj]
      rw [e0]; exact H
  · refine Dn_app (news := rows L2) H hi hs hz hzs hb hx hy (by rw [rows_len, hq]) (fun j u hu => ?_) (rows_one L2) (by omega) (by have := hfit.1; simp only [maxLen]; omega) (fun v' w' H' => hk v' w' (by rw [rows_append]; exact H'))
    have hj : j < L2.length * 1 := by rw [← rows_len]; exact (List.getElem?_eq_some_iff.1 hu).1
    have h3 : j / 1 < L2.length := by omega
    have h4 : L2[j / 1]? = some L2[j / 1] := List.getElem?_eq_getElem h3
    have h5 : j % 1 < 1 := by omega
    have h6 : (L2[j / 1]).cells[j % 1]? = some ((L2[j / 1]).cells[j % 1]'h5) := List.getElem?_eq_getElem _
    have h7 := rows_get h4 _ _ h6
    rw [show j / 1 * 1 + j % 1 = j by omega, hu] at h7
    injection h7 with h7
    rw [add_at, h7, show o + j = o + j / 1 * 1 + j % 1 by omega]
    exact h _ _ h4 _ _ h6
theorem L_appT {i p q by_ : Nat} {zv : Array Value} {L1 L2 : List Lt} (hd : Nat.blt b0 n = true) (H : Hp w0 S w es) (hi : es[i]? = some (.own v et 1 p (rows L1))) (hs : slOf P t = some (et, 1)) (hz : zeroOf P et = some zv) (hzs : zv.size = 1) (hb : szOf P et = some by_)
    (hx : ev e x = v) (hy : ev e y = .slice a q c) (hr : Ts w a q c L2) (hfit : p + q ≤ 4294967 ∧ by_ ≤ 1000)
    (hk : ∀ v' w', Hp w0 S w' (es.set i (.own v' et 1 (p + q) (rows (L1 ++ L2)))) → L P n ops Q rest (upd e b0 v') w') : L P n ops Q (⟨some b0, .call { callee := .builtin .append, args := #[x, y], argTypes := #[t, t] }, ty, pos, aft, none⟩ :: rest) e w :=
  L_do rfl hd (R := fun v w' => L P n ops Q rest (upd e b0 v) w') (Dn_appT H hi hs hz hzs hb hx hy hr hfit hk) (fun _ _ h => h)
/-- A block of a letter. -/
theorem Ts.blk {i b : Nat} {bt : TypeId} {x0 : Lt} (H : Hp w0 S w es) (hi : es[i]? = some (.blk b bt #[.slice x0.a x0.l.length x0.c])) : Ts w (some ⟨b, 0, none⟩) 1 1 [x0] := by
  refine ⟨⟨rfl, Nat.le_refl _, .inr ⟨b, 0, rfl, fun i x hx j u hu => ?_⟩⟩, fun h => by cases h⟩
  cases i with
  | succ i => simp at hx
  | zero =>
    have : x0 = x := by simpa using hx
    subst this
    rw [show 0 + 0 * 1 + j = j by omega, cell_of_row w b _ _ bt (0, 0) (H.get _ hi)]
    simpa [Lt.cells, Lt.v] using hu
end
abbrev Key := List Nat
def Lt.key (x : Lt) : Key := x.l
theorem map_erase {α β : Type} (f : α → β) : ∀ (l : List α) (i : Nat), (l.eraseIdx i).map f = (l.map f).eraseIdx i
  | [], i => by simp
  | x :: r, 0 => by simp
  | x :: r, i + 1 => by simp [map_erase f r i]
def keys (K : List Lt) : List Key := K.map Lt.key
theorem keys_len (K : List Lt) : (keys K).length = K.length := List.length_map _
theorem keys_snoc (K : List Lt) (x : Lt) : keys (K ++ [x]) = keys K ++ [x.key] := by simp [keys]
theorem keys_erase (K : List Lt) (i : Nat) : keys (K.eraseIdx i) = (keys K).eraseIdx i := by
  exact map_erase _ _ _
theorem keys_get {K : List Lt} {i : Nat} {x : Lt} (h : K[i]? = some x) : (keys K)[i]? = some x.key := by simp [keys, h]
theorem keys_take (K : List Lt) (i : Nat) : keys (K.take i) = (keys K).take i := List.map_take
section
variable {P : Program} {e : Env} {w w0 w' : World} {S : List Nat} {es X Y : List Ent} {a : Option Addr} {m c p : Nat} {K : List Lt} {u : TypeId}

theorem Hp.chunk (A B N T : List Ent) (H : Hp w0 S w (A ++ (B ++ (N ++ T)))) : Hp w0 S w (A ++ (N ++ (B ++ T))) :=
  H.perm (List.Perm.append_left A (List.perm_append_comm_assoc B N T))
theorem nest_snoc (K : List Lt) (x : Lt) (X : List Ent) : (x.ent u :: (nest u K ++ X)).Perm (nest u (K ++ [x]) ++ X) := by
  have : nest u (K ++ [x]) ++ X = nest u K ++ (x.ent u :: X) := by simp [nest]
  rw [this]
  exact List.perm_middle.symm
theorem nest_out {K : List Lt} {i : Nat} {x : Lt} (h : K[i]? = some x) (X : List Ent) : (nest u K ++ X).Perm (x.ent u :: (nest u (K.eraseIdx i) ++ X)) := by
  have h1 : (nest u K)[i]? = some (x.ent u) := by simp [nest, h]
  have h2 := perm_pull i h1
  have h3 : (nest u K).eraseIdx i = nest u (K.eraseIdx i) := (map_erase _ _ _).symm
  rw [h3] at h2
  exact List.Perm.append_right X h2
/-- Parts that lie behind others. -/
theorem Hp.back (A : List Ent) {B B' : List Ent} (H : Hp w0 S w (A ++ B)) (h : B.Perm B') : Hp w0 S w (A ++ B') := H.perm (List.Perm.append_left A h)
/-- Parts fall away. -/
theorem Hp.cast (A : List Ent) {B B' : List Ent} (H : Hp w0 S w (A ++ (B ++ B'))) : Hp w0 S w (A ++ B') := by
  have h1 := H.perm (List.perm_append_comm_assoc A B B')
  exact ⟨h1.os, h1.tape, h1.output, h1.size, h1.frame, fun x hx => h1.ok x (List.mem_append_right _ hx), (List.pairwise_append.1 h1.disj).2.1, fun x hx => h1.feet x (List.mem_append_right _ hx)⟩
theorem Lt.mem {x : Lt} (hx : x ∈ K) : x.ent u ∈ nest u K := List.mem_map.2 ⟨x, hx, rfl⟩
theorem Sl.nest {x : Lt} (H : Hp w0 S w es) (hx : x ∈ K) (hn : ∀ y ∈ nest u K, y ∈ es) : Sl w .u8 x.a x.l.length x.c x.l := by
  obtain ⟨i, hi⟩ := List.mem_iff_getElem?.1 (hn _ (Lt.mem hx))
  exact Sl.own H (i := i) hi
theorem Seen.nest {x : Lt} (hx : x ∈ K) (hn : ∀ y ∈ nest u K, y ∈ X) : Seen w0 X .u8 x.a x.l.length x.c x.l := by
  obtain ⟨i, hi⟩ := List.mem_iff_getElem?.1 (hn _ (Lt.mem hx))
  exact Seen.own (i := i) hi
/-- Letters that are seen wherever the memory goes, and their bytes. -/
structure SeenT (w0 : World) (X : List Ent) (a : Option Addr) (m c : Nat) (K : List Lt) : Prop where
  row : ∀ w', (∀ j, j < w0.heap.size → w'.heap[j]? = w0.heap[j]?) → (∀ x ∈ X, x.ok w') → Ts w' a m c K
  el : ∀ x ∈ K, Seen w0 X .u8 x.a x.l.length x.c x.l
theorem SeenT.hp (h : SeenT w0 X a m c K) (H : Hp w0 [] w es) (hs : ∀ x ∈ X, x ∈ es) : Ts w a m c K := h.row w (fun j hj => H.frame j hj (by simp)) (fun x hx => H.ok x (hs x hx))
theorem SeenT.mono (h : SeenT w0 X a m c K) (hs : ∀ x ∈ X, x ∈ Y) : SeenT w0 Y a m c K := ⟨fun w' h1 h2 => h.row w' h1 fun x hx => h2 x (hs x hx), fun x hx => (h.el x hx).mono hs⟩
theorem SeenT.len (h : SeenT w0 X a m c K) (H : Hp w0 [] w es) (hs : ∀ x ∈ X, x ∈ es) : K.length = m := (h.hp H hs).tab.len
theorem SeenT.own {t : TypeId} {q : Nat} (hr : Ent.own (.slice a m c) t 1 q (rows K) ∈ X) (hn : ∀ y ∈ Go.Ev.nest u K, y ∈ X) : SeenT w0 X a m c K := by
  refine ⟨fun w' h1 h2 => ?_, fun x hx => Seen.nest hx hn⟩
  have h3 : Ts w' a q c K := Ts.own (Hp.self (h2 _ hr)) (i := 0) rfl
  rcases (Hp.self (h2 _ hr)).own_blk (i := 0) rfl with ⟨h4, rfl, _⟩ | ⟨_, _, _, h4, _⟩
  · injection h4 with h5 h6 h7
    subst h6; exact h3
  · injection h4 with h5 h6 h7
    subst h6; exact h3
theorem SeenT.nil : SeenT w0 X none 0 0 [] := ⟨fun w' _ _ => Ts.nil w', by simp⟩
theorem Hp.asN {i q q' : Nat} {v : Value} {t : TypeId} {z : Nat} {xs xs' : List Value} {es' : List Ent} (H : Hp w0 S w es) (hi : es[i]? = some (.own v t z q xs)) (hq : q = q') (hx : xs = xs') (he : es.set i (.own v t z q' xs') = es') : Hp w0 S w es' := by
  subst hq hx
  exact H.say hi id (fun _ h => h) he
theorem rows_bytes {a : Option Addr} {c : Nat} {l l' : List Nat} (h : l.length = l'.length) : ∀ (K : List Lt) (j : Nat), rows (K.set j ⟨a, c, l⟩) = rows (K.set j ⟨a, c, l'⟩)
  | [], j => by simp
  | y :: r, 0 => by rw [List.set_cons_zero, List.set_cons_zero, rows_cons, rows_cons, Lt.cells, Lt.cells, Lt.v, Lt.v, h]
  | y :: r, j + 1 => by rw [List.set_cons_succ, List.set_cons_succ, rows_cons, rows_cons, rows_bytes h r j]
theorem nest_in {i : Nat} {x y : Lt} (h : K[i]? = some x) (X : List Ent) : (y.ent u :: (nest u (K.eraseIdx i) ++ X)).Perm (nest u (K.set i y) ++ X) := by
  have h1 : (K.set i y)[i]? = some y := by
    rw [List.getElem?_set_self (List.getElem?_eq_some_iff.1 h).1]
  have h2 := nest_out (u := u) h1 X
  rw [List.eraseIdx_set_eq] at h2
  exact h2.symm
/-- A part of an element of a handed-in slice. -/
theorem Y_ldTg {T : Type} {cells : T → List Value} {LL : List T} {z k q off j : Nat} {x0 : T} {cs : List Value} {d : Option Nat} {t ty : TypeId} {pos : String} {aft : Array Edge} {g : Option (Nat × Bool)} {x : Operand} (hs : rowOf P t = some k) (hT : Tab w cells z a m c LL) (hL : LL[j]? = some x0) (hx : ev e x = pl a q) (hq : q = j * z + off) (hc : ((cells x0).drop off).take k = cs) (hk : cs.length = k) :
    Yl P ⟨d, .load t x, ty, pos, aft, g⟩ e w (.agg cs.toArray) := by
  obtain ⟨b, o, rfl, h1⟩ := hT.open hL
  subst hq
  rw [show pl (some ⟨b, o, none⟩) (j * z + off) = .pointer (some ⟨b, o + j * z + off, none⟩) by simp [pl, add_at, Nat.add_assoc]] at hx
  have h := run_loadRow (P := P) (w := w) (a := ⟨b, o + j * z + off, none⟩) (cs := cs) hs hk (fun p u hu => by
    rw [add_at, Nat.add_assoc]
    refine h1 j x0 hL (off + p) u ?_
    rw [← hc, List.getElem?_take] at hu
    split at hu
    · rwa [List.getElem?_drop] at hu
    · cases hu)
  simp [Yl, execOp, hx, h]
theorem keys_mem {x : Lt} (h : x ∈ K) : x.key ∈ keys K := List.mem_map.2 ⟨x, h, rfl⟩
/-- A call through a value. -/
theorem L_callz {n : Nat} {ops : Array Oper} {rest : List Oper} {Q : Exit → Env → World → Prop} {f : FuncId} {b0 : Nat} {z : Operand} {xs : List Operand} {ts : Array TypeId} {ty : TypeId} {pos : String} {aft : Array Edge} {g : Option (Nat × Bool)} {vs : List Value} {R : Ending → World → Prop} (hz : ev e z = .func (.func f) #[] #[]) (hg : wantedE ops e g = true) (hd : Nat.blt b0 n = true) (hf : enters P f = true) (hxs : xs.map (ev e) = vs) (hc : Calls P f vs.toArray w R)
    (hk : ∀ x w', R x w' → ∃ v, x = .returned v ∧ L P n ops Q rest (upd e b0 v) w') : L P n ops Q (⟨some b0, .call { callee := .value z, args := xs.toArray, argTypes := ts }, ty, pos, aft, g⟩ :: rest) e w := by
  refine L_do hg hd (R := fun v w' => L P n ops Q rest (upd e b0 v) w') ?_ (fun v w' h => h)
  refine Dn.call ?_ (hc.mono fun x w' hR => hk x w' hR)
  subst hxs
  have h := run_enters (P := P) (w := w) hf (xs.map (ev e)).toArray
  simp [execOp, resolve, Deferred.ofValue, hz, invoke]
  simpa using h
theorem Hp.tuck (A : List Ent) {x : Lt} {v : Value} {q : Nat} (H : Hp w0 S w (A ++ (.own v u 1 q (us .u8 x.l) :: (nest u K ++ X)))) (hv : v = x.v) (hq : q = x.l.length) : Hp w0 S w (A ++ (nest u (K ++ [x]) ++ X)) := by
  subst hv hq
  exact H.back A (nest_snoc K x X)
end
end Go.Ev
