/- Own words: letters and their bytes, among the parts. -/
import Derived.Test.YtbfmodjaahfbjaaV20
namespace Go.Ev
abbrev Key := Int × Int × List Nat
def Lt.key (x : Lt) : Key := (x.f, x.t, x.l)
theorem map_erase {α β : Type} (f : α → β) : ∀ (l : List α) (i : Nat), (l.eraseIdx i).map f = (l.map f).eraseIdx i
  | [], i => by simp
  | x :: r, 0 => by simp
  | x :: r, i + 1 => by simp [map_erase f r i]
def keys (K : List Lt) : List Key := K.map Lt.key
theorem keys_len (K : List Lt) : (keys K).length = K.length := List.length_map _
theorem keys_snoc (K : List Lt) (x : Lt) : keys (K ++ [x]) = keys K ++ [x.key] := by simp [keys]
theorem keys_erase (K : List Lt) (i : Nat) : keys (K.eraseIdx i) = (keys K).eraseIdx i := by
  exact map_erase _ _ _
theorem keys_get {K : List Lt} {i : Nat} {x : Lt} (h : K[i]? = some x) : (keys K)[i]? = some x.key := by simp [keys, h]
theorem keys_take (K : List Lt) (i : Nat) : keys (K.take i) = (keys K).take i := List.map_take
section
variable {P : Program} {e : Env} {w w0 w' : World} {S : List Nat} {es X Y : List Ent} {a : Option Addr} {m c p : Nat} {K : List Lt} {u : TypeId}

theorem Hp.chunk (A B N T : List Ent) (H : Hp w0 S w (A ++ (B ++ (N ++ T)))) : Hp w0 S w (A ++ (N ++ (B ++ T))) :=
  H.perm (List.Perm.append_left A (List.perm_append_comm_assoc B N T))
theorem nest_snoc (K : List Lt) (x : Lt) (X : List Ent) : (x.ent u :: (nest u K ++ X)).Perm (nest u (K ++ [x]) ++ X) := by
  have : nest u (K ++ [x]) ++ X = nest u K ++ (x.ent u :: X) := by simp [nest]
  rw [this]
  exact List.perm_middle.symm
theorem nest_out {K : List Lt} {i : Nat} {x : Lt} (h : K[i]? = some x) (X : List Ent) : (nest u K ++ X).Perm (x.ent u :: (nest u (K.eraseIdx i) ++ X)) := by
  have h1 : (nest u K)[i]? = some (x.ent u) := by simp [nest, h]
  have h2 := perm_pull i h1
  have h3 : (nest u K).eraseIdx i = nest u (K.eraseIdx i) := (map_erase _ _ _).symm
  rw [h3] at h2
  exact List.Perm.append_right X h2
/-- Parts that lie behind others. -/
theorem Hp.back (A : List Ent) {B B' : List Ent} (H : Hp w0 S w (A ++ B)) (h : B.Perm B') : Hp w0 S w (A ++ B') := H.perm (List.Perm.append_left A h)
/-- Parts fall away. -/
theorem Hp.cast (A : List Ent) {B B' : List Ent} (H : Hp w0 S w (A ++ (B ++ B'))) : Hp w0 S w (A ++ B') := by
  have h1 := H.perm (List.perm_append_comm_assoc A B B')
  exact ⟨h1.os, h1.tape, h1.output, h1.size, h1.frame, fun x hx => h1.ok x (List.mem_append_right _ hx), (List.pairwise_append.1 h1.disj).2.1, fun x hx => h1.feet x (List.mem_append_right _ hx)⟩
theorem Lt.mem {x : Lt} (hx : x ∈ K) : x.ent u ∈ nest u K := List.mem_map.2 ⟨x, hx, rfl⟩
theorem Sl.nest {x : Lt} (H : Hp w0 S w es) (hx : x ∈ K) (hn : ∀ y ∈ nest u K, y ∈ es) : Sl w .u8 x.a x.l.length x.c x.l := by
  obtain ⟨i, hi⟩ := List.mem_iff_getElem?.1 (hn _ (Lt.mem hx))
  exact Sl.own H (i := i) hi
theorem Seen.nest {x : Lt} (hx : x ∈ K) (hn : ∀ y ∈ nest u K, y ∈ X) : Seen w0 X .u8 x.a x.l.length x.c x.l := by
  obtain ⟨i, hi⟩ := List.mem_iff_getElem?.1 (hn _ (Lt.mem hx))
  exact Seen.own (i := i) hi
/-- Letters that are seen wherever the memory goes, and their bytes. -/
structure SeenT (w0 : World) (X : List Ent) (a : Option Addr) (m c : Nat) (K : List Lt) : Prop where
  row : ∀ w', (∀ j, j < w0.heap.size → w'.heap[j]? = w0.heap[j]?) → (∀ x ∈ X, x.ok w') → Ts w' a m c K
  el : ∀ x ∈ K, Seen w0 X .u8 x.a x.l.length x.c x.l
theorem SeenT.hp (h : SeenT w0 X a m c K) (H : Hp w0 [] w es) (hs : ∀ x ∈ X, x ∈ es) : Ts w a m c K := h.row w (fun j hj => H.frame j hj (by simp)) (fun x hx => H.ok x (hs x hx))
theorem SeenT.mono (h : SeenT w0 X a m c K) (hs : ∀ x ∈ X, x ∈ Y) : SeenT w0 Y a m c K := ⟨fun w' h1 h2 => h.row w' h1 fun x hx => h2 x (hs x hx), fun x hx => (h.el x hx).mono hs⟩
theorem SeenT.len (h : SeenT w0 X a m c K) (H : Hp w0 [] w es) (hs : ∀ x ∈ X, x ∈ es) : K.length = m := (h.hp H hs).tab.len
theorem SeenT.own {t : TypeId} {q : Nat} (hr : Ent.own (.slice a m c) t 3 q (rows K) ∈ X) (hn : ∀ y ∈ Go.Ev.nest u K, y ∈ X) : SeenT w0 X a m c K := by
  refine ⟨fun w' h1 h2 => ?_, fun x hx => Seen.nest hx hn⟩
  have h3 : Ts w' a q c K := Ts.own (Hp.self (h2 _ hr)) (i := 0) rfl
  rcases (Hp.self (h2 _ hr)).own_blk (i := 0) rfl with ⟨h4, rfl, _⟩ | ⟨_, _, _, h4, _⟩
  · injection h4 with h5 h6 h7
    subst h6; exact h3
  · injection h4 with h5 h6 h7
    subst h6; exact h3
theorem SeenT.nil : SeenT w0 X none 0 0 [] := ⟨fun w' _ _ => Ts.nil w', by simp⟩
theorem allOne3 (f t : Int) (a : Option Addr) (m c : Nat) : allOne #[.int .i64 f, .int .i64 t, .slice a m c] := by
  intro v hv
  simp only [List.mem_cons, List.not_mem_nil, or_false] at hv
  rcases hv with rfl | rfl | rfl <;> rfl
theorem Hp.asN {i q q' : Nat} {v : Value} {t : TypeId} {z : Nat} {xs xs' : List Value} {es' : List Ent} (H : Hp w0 S w es) (hi : es[i]? = some (.own v t z q xs)) (hq : q = q') (hx : xs = xs') (he : es.set i (.own v t z q' xs') = es') : Hp w0 S w es' := by
  subst hq hx
  exact H.say hi id (fun _ h => h) he
theorem rows_set {x : Lt} {f : Int} : ∀ {K : List Lt} {j : Nat}, K[j]? = some x → rows (K.set j ⟨f, x.t, x.a, x.c, x.l⟩) = (rows K).set (j * 3) (.int .i64 f)
  | [], j, h => by simp at h
  | y :: r, 0, h => by
    have : y = x := by simpa using h
    subst this
    rfl
  | y :: r, j + 1, h => by
    have h2 : r[j]? = some x := by simpa using h
    rw [List.set_cons_succ, rows_cons, rows_cons, rows_set h2, List.set_append_right _ _ (by show 3 ≤ _; omega)]
    congr 2
    show _ = (j + 1) * 3 - 3
    omega
/-- A letter's first number is written. -/
theorem L_stT {n : Nat} {ops : Array Oper} {rest : List Oper} {Q : Exit → Env → World → Prop} {t et ty : TypeId} {pos : String} {aft : Array Edge} {x y : Operand} {i q j : Nat} {f : Int} {x0 : Lt} (hs : scal P t = true) (H : Hp w0 S w es) (hi : es[i]? = some (.own (.slice a m c) et 3 q (rows K))) (hK : K[j]? = some x0) (hx : ev e x = pl a p) (hp : p = j * 3 + 0) (hy : ev e y = .int .i64 f)
    (hk : ∀ w', Hp w0 S w' (es.set i (.own (.slice a m c) et 3 q (rows (K.set j ⟨f, x0.t, x0.a, x0.c, x0.l⟩)))) → L P n ops Q rest e w') : L P n ops Q (⟨none, .store t x y, ty, pos, aft, none⟩ :: rest) e w := by
  have hT := Ts.own H hi
  have hlt := hT.tab.lt hK
  have hlen := hT.tab.len
  have hp2 := (List.getElem?_eq_some_iff.1 hi).1
  rcases H.own_blk hi with ⟨h1, h0, _⟩ | ⟨b, cap, cs, h1, hn, hc, hcs, hxs, H2⟩
  · injection h1 with h3 h4 h5
    omega
  · injection h1 with h3 h4 h5
    subst h3 h4 h5 hp
    rw [show pl (some ⟨b, 0, none⟩) (j * 3 + 0) = .pointer (some ⟨b, j * 3, none⟩) by simp [pl, add_at]] at hx
    refine L_st (v := .int .i64 f) hs H2 (i := i) (by rw [List.getElem?_set_self hp2]) hx hy rfl (by rw [hcs]; omega) rfl (fun w' H3 => hk w' ?_)
    rw [List.set_set] at H3
    refine H3.say (i := i) (by rw [List.getElem?_set_self hp2]) (own_of_blk hn hc ?_ ?_) (fun _ h => h) (by rw [List.set_set])
    · simp [hcs]
    · rw [rows_set hK, ← hxs]
      simp [List.take_set]
theorem rows_bytes {f t : Int} {a : Option Addr} {c : Nat} {l l' : List Nat} (h : l.length = l'.length) : ∀ (K : List Lt) (j : Nat), rows (K.set j ⟨f, t, a, c, l⟩) = rows (K.set j ⟨f, t, a, c, l'⟩)
  | [], j => by simp
  | y :: r, 0 => by rw [List.set_cons_zero, List.set_cons_zero, rows_cons, rows_cons, Lt.cells, Lt.cells, Lt.v, Lt.v, h]
  | y :: r, j + 1 => by rw [List.set_cons_succ, List.set_cons_succ, rows_cons, rows_cons, rows_bytes h r j]
theorem nest_in {i : Nat} {x y : Lt} (h : K[i]? = some x) (X : List Ent) : (y.ent u :: (nest u (K.eraseIdx i) ++ X)).Perm (nest u (K.set i y) ++ X) := by
  have h1 : (K.set i y)[i]? = some y := by
    rw [List.getElem?_set_self (List.getElem?_eq_some_iff.1 h).1]
  have h2 := nest_out (u := u) h1 X
  rw [List.eraseIdx_set_eq] at h2
  exact h2.symm
/-- A part of an element of a handed-in slice. -/
theorem Y_ldTg {T : Type} {cells : T → List Value} {LL : List T} {z k q off j : Nat} {x0 : T} {cs : List Value} {d : Option Nat} {t ty : TypeId} {pos : String} {aft : Array Edge} {g : Option (Nat × Bool)} {x : Operand} (hs : rowOf P t = some k) (hT : Tab w cells z a m c LL) (hL : LL[j]? = some x0) (hx : ev e x = pl a q) (hq : q = j * z + off) (hc : ((cells x0).drop off).take k = cs) (hk : cs.length = k) :
    Yl P ⟨d, .load t x, ty, pos, aft, g⟩ e w (.agg cs.toArray) := by
  obtain ⟨b, o, rfl, h1⟩ := hT.open hL
  subst hq
  rw [show pl (some ⟨b, o, none⟩) (j * z + off) = .pointer (some ⟨b, o + j * z + off, none⟩) by simp [pl, add_at, Nat.add_assoc]] at hx
  have h := run_loadRow (P := P) (w := w) (a := ⟨b, o + j * z + off, none⟩) (cs := cs) hs hk (fun p u hu => by
    rw [add_at, Nat.add_assoc]
    refine h1 j x0 hL (off + p) u ?_
    rw [← hc, List.getElem?_take] at hu
    split at hu
    · rwa [List.getElem?_drop] at hu
    · cases hu)
  simp [Yl, execOp, hx, h]
theorem keys_mem {x : Lt} (h : x ∈ K) : x.key ∈ keys K := List.mem_map.2 ⟨x, h, rfl⟩
/-- A call through a value. -/
theorem L_callz {n : Nat} {ops : Array Oper} {rest : List Oper} {Q : Exit → Env → World → Prop} {f : FuncId} {b0 : Nat} {z : Operand} {xs : List Operand} {ts : Array TypeId} {ty : TypeId} {pos : String} {aft : Array Edge} {g : Option (Nat × Bool)} {vs : List Value} {R : Ending → World → Prop} (hz : ev e z = .func (.func f) #[] #[]) (hg : wantedE ops e g = true) (hd : Nat.blt b0 n = true) (hf : enters P f = true) (hxs : xs.map (ev e) = vs) (hc : Calls P f vs.toArray w R)
    (hk : ∀ x w', R x w' → ∃ v, x = .returned v ∧ L P n ops Q rest (upd e b0 v) w') : L P n ops Q (⟨some b0, .call { callee := .value z, args := xs.toArray, argTypes := ts }, ty, pos, aft, g⟩ :: rest) e w := by
  refine L_do hg hd (R := fun v w' => L P n ops Q rest (upd e b0 v) w') ?_ (fun v w' h => h)
  refine Dn.call ?_ (hc.mono fun x w' hR => hk x w' hR)
  subst hxs
  have h := run_enters (P := P) (w := w) hf (xs.map (ev e)).toArray
  simp [execOp, resolve, Deferred.ofValue, hz, invoke]
  simpa using h
theorem Hp.tuck (A : List Ent) {x : Lt} {v : Value} {q : Nat} (H : Hp w0 S w (A ++ (.own v u 1 q (us .u8 x.l) :: (nest u K ++ X)))) (hv : v = x.v) (hq : q = x.l.length) : Hp w0 S w (A ++ (nest u (K ++ [x]) ++ X)) := by
  subst hv hq
  exact H.back A (nest_snoc K x X)
end
end Go.Ev
namespace Go.Nt
open Go.Ev
/-- What is sent, behind what is there; the answer. -/
def send (K : List Key) (x : Key) : List Key := if 60000 < x.2.2.length then K else if 200 ≤ K.length then K else K ++ [x]
def scode (K : List Key) (m : Nat) : Nat := if 60000 < m then 3 else if 200 ≤ K.length then 9 else 0
def at_ (K : List Key) (n : Int) : Nat := un n % K.length
def letter (K : List Key) (n : Int) : Key := K[at_ K n]?.getD (0, 0, [])
def left (K : List Key) (n : Int) : List Key := K.eraseIdx (at_ K n)
def tcode (K : List Key) : Nat := if K = [] then 7 else 0
def twice (K : List Key) (n : Int) : List Key := if K = [] then K else send K (letter K n)
def wcode (K : List Key) (n : Int) : Nat := if K = [] then 7 else scode K (letter K n).2.2.length
theorem send_long {K : List Key} {f t : Int} {l : List Nat} (h : 60000 < l.length) : send K (f, t, l) = K := if_pos h
theorem send_full {K : List Key} {f t : Int} {l : List Nat} (h : ¬ 60000 < l.length) (h2 : 200 ≤ K.length) : send K (f, t, l) = K := (if_neg h).trans (if_pos h2)
theorem send_in {K : List Key} {f t : Int} {l : List Nat} (h : ¬ 60000 < l.length) (h2 : ¬ 200 ≤ K.length) : send K (f, t, l) = K ++ [(f, t, l)] := (if_neg h).trans (if_neg h2)
theorem at_get {K : List Lt} {x : Lt} {n : Int} {i : Nat} (hi : i = at_ (keys K) n) (h : K[i]? = some x) : letter (keys K) n = x.key := by
  subst hi
  rw [letter, keys_get h]
  rfl
theorem keys_nil {K : List Lt} (h : K.length = 0) : K = [] := List.eq_nil_of_length_eq_zero h
theorem keys_ne {K : List Lt} (h : K.length ≠ 0) : keys K ≠ [] := fun h2 => h (by rw [← keys_len, h2]; rfl)
theorem left_nil (n : Int) : left [] n = [] := rfl
/-- What may be spoilt. -/
def Sp (K : List Lt) : Prop := ∀ x ∈ K, (∀ u ∈ x.l, u < 256) ∧ x.l.length ≤ 4294967000
theorem Sp.set {K : List Lt} {i : Nat} {x : Lt} (h : Sp K) (hx : (∀ u ∈ x.l, u < 256) ∧ x.l.length ≤ 4294967000) : Sp (K.set i x) := fun y hy => by
  rcases List.mem_or_eq_of_mem_set hy with h1 | rfl
  · exact h y h1
  · exact hx
theorem twice_nil {K : List Key} {n : Int} (h : K = []) : twice K n = K := if_pos h
theorem twice_at {K : List Key} {n : Int} {x : Key} (h : K ≠ []) (hx : letter K n = x) : twice K n = send K x := by rw [twice, if_neg h, hx]
theorem wcode_at {K : List Key} {n : Int} {x : Key} (h : K ≠ []) (hx : letter K n = x) : wcode K n = scode K x.2.2.length := by rw [wcode, if_neg h, hx]
/-- What always holds. -/
structure ok (K : List Key) : Prop where
  len : K.length ≤ 200
  lt : ∀ x ∈ K, (∀ u ∈ x.2.2, u < 256) ∧ x.2.2.length ≤ 60000
theorem ok.sp {K : List Lt} (h : ok (keys K)) : Sp K := fun x hx => by
  have := h.lt _ (keys_mem hx)
  exact ⟨this.1, Nat.le_trans this.2 (by decide)⟩
theorem ok_nil : ok [] := ⟨Nat.zero_le _, by simp⟩
theorem ok.send {K : List Key} {x : Key} (h : ok K) (hx : ∀ u ∈ x.2.2, u < 256) : ok (send K x) := by
  unfold Nt.send
  split
  · exact h
  · split
    · exact h
    · refine ⟨by rw [List.length_append, List.length_singleton]; omega, fun y hy => ?_⟩
      rcases List.mem_append.1 hy with h1 | h1
      · exact h.lt y h1
      · have : y = x := by simpa using h1
        subst this
        exact ⟨hx, by omega⟩
theorem ok.left {K : List Key} (h : ok K) (n : Int) : ok (left K n) := by
  refine ⟨Nat.le_trans (List.length_eraseIdx_le _ _) h.len, fun y hy => h.lt y (List.mem_of_mem_eraseIdx hy)⟩
theorem at_lt {K : List Key} (h : K ≠ []) (n : Int) : at_ K n < K.length := Nat.mod_lt _ (List.length_pos_iff.2 h)
theorem letter_mem {K : List Key} (h : K ≠ []) (n : Int) : letter K n ∈ K := by
  unfold letter
  rw [List.getElem?_eq_getElem (at_lt h n)]
  exact List.getElem_mem _
theorem ok.letter {K : List Key} (h : ok K) (n : Int) : (∀ u ∈ (letter K n).2.2, u < 256) ∧ (letter K n).2.2.length ≤ 60000 := by
  by_cases h0 : K = []
  · subst h0
    simp [Nt.letter]
  · exact h.lt _ (letter_mem h0 n)
theorem ok.twice {K : List Key} (h : ok K) (n : Int) : ok (twice K n) := by
  unfold Nt.twice
  split
  · exact h
  · exact h.send (h.letter n).1
end Go.Nt
