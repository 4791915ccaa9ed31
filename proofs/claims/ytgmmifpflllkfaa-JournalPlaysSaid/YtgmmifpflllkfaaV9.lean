/- Own words for walks, ninth part: slices: rows of one's own, rows that are handed in, slices of blocks. -/
import Derived.Test.YtgmmifpflllkfaaV8
import Derived.Laws.Slices
namespace Go.Ev

section
variable {P : Program} {e : Env} {w w0 w' : World} {S : List Nat} {l : List Ent} {d : Option Nat} {ty t t2 et : TypeId} {pos : String} {aft : Array Edge} {g : Option (Nat × Bool)} {x y : Operand} {v : Value}
variable {n z : Nat} {ops : Array Oper} {rest : List Oper} {Q : Exit → Env → World → Prop} {op : Op} {b0 : Nat}

theorem slOf_eq (h : slOf P t = some (et, z)) : P.underlying t = some (.slice et) ∧ ∃ i, P.info? et = some i ∧ i.size = z := by
  unfold slOf at h
  split at h
  · rename_i e' hu
    cases hi : P.info? e' with
    | none => simp [hi] at h
    | some i =>
      simp [hi] at h
      obtain ⟨rfl, hz⟩ := h
      exact ⟨hu, i, hi, hz⟩
  · cases h
/-- How many bytes a slice's elements take. -/
def szOf (P : Program) (t : TypeId) : Option Nat := (P.info? t).map (·.bytes)

/-! ### Parts -/
theorem Hp.only {i : Nat} {x : Ent} (H : Hp w0 S w l) (hi : l[i]? = some x) : Hp w0 S w [x] :=
  have hm : ∀ y ∈ [x], y ∈ l := fun y hy => by
    have : y = x := by simpa using hy
    subst this; exact List.mem_of_getElem? hi
  ⟨H.os, H.tape, H.output, H.size, H.frame, fun y hy => H.ok y (hm y hy), by simp, fun y hy => H.feet y (hm y hy)⟩
/-- A part is told in other words: the same place. -/
theorem Hp.say {i : Nat} {x x' : Ent} {l' : List Ent} (H : Hp w0 S w l) (hi : l[i]? = some x) (hk : x.ok w → x'.ok w) (hf : ∀ b, x'.foot = some b → x.foot = some b) (hl : l.set i x' = l') : Hp w0 S w l' := by
  subst hl
  have h1 := H.pull i hi
  have hlt : i < l.length := (List.getElem?_eq_some_iff.1 hi).1
  have hset : (l.set i x').Perm (x' :: l.eraseIdx i) := by
    have h2 : (l.set i x')[i]? = some x' := by simp [hlt]
    have := perm_pull i h2
    rwa [List.eraseIdx_set_eq] at this
  have hp := List.pairwise_cons.1 h1.disj
  refine Hp.perm (l := x' :: l.eraseIdx i) ⟨H.os, H.tape, H.output, H.size, H.frame, fun y hy => ?_, List.pairwise_cons.2 ⟨fun y hy b hb => hp.1 y hy b (hf b hb), hp.2⟩, fun y hy b hb => ?_⟩ hset.symm
  · rcases List.mem_cons.1 hy with rfl | hy
    · exact hk (h1.ok x (by simp))
    · exact h1.ok y (List.mem_cons_of_mem _ hy)
  · rcases List.mem_cons.1 hy with rfl | hy
    · exact h1.feet x (by simp) b (hf b hb)
    · exact h1.feet y (List.mem_cons_of_mem _ hy) b hb
theorem Hp.swap2 {a b c : Ent} (H : Hp w0 S w (a :: b :: c :: l)) : Hp w0 S w (b :: c :: a :: l) := H.perm ((List.Perm.swap b a (c :: l)).trans (List.Perm.cons b (List.Perm.swap c a l)))
/-- A nil slice is a row of one's own. -/
theorem Hp.nilOwn (t : TypeId) (z : Nat) (H : Hp w0 S w l) : Hp w0 S w (.own (.slice none 0 0) t z 0 [] :: l) := by
  refine ⟨H.os, H.tape, H.output, H.size, H.frame, fun y hy => ?_, List.pairwise_cons.2 ⟨fun y _ b hb => by simp [Ent.foot, Value.ownBlock] at hb, H.disj⟩, fun y hy b hb => ?_⟩
  · rcases List.mem_cons.1 hy with rfl | hy
    · exact World.ownsRow_nil w 0 t z
    · exact H.ok y hy
  · rcases List.mem_cons.1 hy with rfl | hy
    · simp [Ent.foot, Value.ownBlock] at hb
    · exact H.feet y hy b hb
/-- A block is a row of one's own. -/
theorem own_of_blk {b m cap : Nat} {cs : Array Value} {xs : List Value} (hn : m ≤ cap) (hc : cap ≤ maxLen) (hs : cs.size = cap * z) (hx : cs.toList.take (m * z) = xs) (h : (Ent.blk b t cs).ok w) : (Ent.own (.slice (some ⟨b, 0, none⟩) m cap) t z m xs).ok w := by
  refine ⟨?_, .inr ⟨b, cap, cs, rfl, Nat.zero_le _, h, hn, hc, hs, hx⟩⟩
  rw [← hx, List.length_take, Array.length_toList, hs, Nat.min_eq_left (Nat.mul_le_mul_right z hn)]
theorem Hp.own_blk {i m : Nat} {v : Value} {xs : List Value} (H : Hp w0 S w l) (hi : l[i]? = some (.own v t z m xs)) : (v = .slice none 0 0 ∧ m = 0 ∧ xs = []) ∨
    ∃ b cap cs, v = .slice (some ⟨b, 0, none⟩) m cap ∧ m ≤ cap ∧ cap ≤ maxLen ∧ cs.size = cap * z ∧ cs.toList.take (m * z) = xs ∧ Hp w0 S w (l.set i (.blk b t cs)) := by
  have h := H.get i hi
  rcases h.2 with ⟨rfl, h0⟩ | ⟨b, cap, cs, rfl, _, hb, hn, hc, hs, hx⟩
  · refine .inl ⟨rfl, h0, ?_⟩
    have := h.1
    rw [h0, Nat.zero_mul] at this
    exact List.eq_nil_of_length_eq_zero this
  · refine .inr ⟨b, cap, cs, rfl, hn, hc, hs, hx, H.say (x' := .blk b t cs) hi (fun _ => hb) (fun b' hb' => hb') rfl⟩
theorem Hp.own_len {i m : Nat} {xs : List Value} (H : Hp w0 S w l) (hi : l[i]? = some (.own v t z m xs)) : ∃ a c, v = .slice a m c := by
  rcases H.own_blk hi with ⟨rfl, rfl, _⟩ | ⟨b, cap, _, rfl, _⟩
  · exact ⟨_, _, rfl⟩
  · exact ⟨_, _, rfl⟩

/-! ### Lengths, places -/
theorem Y_lenS {a : Option Addr} {m c : Nat} (ht : slOf P t = some (et, z)) (hx : ev e x = .slice a m c) : Yl P ⟨d, .call { callee := .builtin .len, args := #[x], argTypes := #[t] }, ty, pos, aft, g⟩ e w (.int .i64 ((m : Nat) : Int)) := by
  simp [Yl, execOp, resolve, invoke, builtin, Builtin.len_, run_underlying (slOf_eq ht).1, hx, goInt]
theorem Y_lenO {i m : Nat} {xs : List Value} (ht : slOf P t = some (et, z)) (H : Hp w0 S w l) (hi : l[i]? = some (.own v t2 z m xs)) (hx : ev e x = v) : Yl P ⟨d, .call { callee := .builtin .len, args := #[x], argTypes := #[t] }, ty, pos, aft, g⟩ e w (.int .i64 ((m : Nat) : Int)) := by
  obtain ⟨a, c, rfl⟩ := H.own_len hi
  exact Y_lenS ht hx

/-- A new slice that is written out. -/
theorem Dn_bsl {len : Nat} {parts : List (Nat × Operand)} {pv : List (Nat × Value)} {zv cs : Array Value} {R : Value → World → Prop} (H : Hp w0 S w l) (hs : slOf P t = some (et, z)) (hz : zeroOf P et = some zv) (hc : Nat.ble (len * z) 16777216 = true)
    (hp : parts.map (fun p => (p.1, ev e p.2)) = pv) (hf : Instr.fill (fun i => some (i * z, z)) ((Array.range (len * z)).map (zv[· % zv.size]!)) pv = some cs)
    (hk : ∀ b w', Hp w0 S w' (.blk b et cs :: l) → R (.slice (some ⟨b, 0, none⟩) len len) w') : Dn P ⟨d, .buildSlice t len parts.toArray, ty, pos, aft, g⟩ e w R := by
  obtain ⟨hu, i, hi, hsz⟩ := slOf_eq hs
  have hc' : ¬ 16777216 < len * z := by have := Nat.le_of_ble_eq_true hc; omega
  refine Dn.val (w' := w.alloc (.cells cs et)) (v := .slice (some ⟨w.heap.size, 0, none⟩) len len) ?_ (hk _ _ (H.more (Hp.new w et cs)))
  unfold zeroOf at hz
  rw [hi] at hz
  cases hzz : i.zero with
  | none => simp [hzz] at hz
  | some q =>
    simp [hzz] at hz
    subst hz hsz
    have h2 : (parts.toArray.map fun (x : Nat × Operand) => (x.1, ev e x.2)) = pv.toArray := by rw [← hp, List.map_toArray]
    have h3 : (execOp (ev e) ⟨d, .buildSlice t len parts.toArray, ty, pos, aft, g⟩) = (do let a ← Instr.buildSlice t len (parts.toArray.map fun (x : Nat × Operand) => (x.1, ev e x.2)); pure (.value a)) := rfl
    rw [h3, h2]
    by_cases h0 : len * i.size = 0
    · have e0 : Array.range 0 = #[] := rfl
      rw [h0, e0] at hf
      have hf' : Instr.fill (fun j => some (j * i.size, i.size)) #[] pv = some cs := by simpa using hf
      simp [Instr.buildSlice, run_underlying hu, sizeOf, typeInfo, hi, h0, e0, hf', newRow]
    · simp [Instr.buildSlice, run_underlying hu, sizeOf, typeInfo, hi, h0, hc', zeroValue, hzz, hf, newRow]
theorem L_bsl {len : Nat} {parts : List (Nat × Operand)} {pv : List (Nat × Value)} {zv cs : Array Value} (hd : Nat.blt b0 n = true) (H : Hp w0 S w l) (hs : slOf P t = some (et, z)) (hz : zeroOf P et = some zv) (hc : Nat.ble (len * z) 16777216 = true)
    (hp : parts.map (fun p => (p.1, ev e p.2)) = pv) (hf : Instr.fill (fun i => some (i * z, z)) ((Array.range (len * z)).map (zv[· % zv.size]!)) pv = some cs)
    (hk : ∀ b w', Hp w0 S w' (.blk b et cs :: l) → L P n ops Q rest (upd e b0 (.slice (some ⟨b, 0, none⟩) len len)) w') : L P n ops Q (⟨some b0, .buildSlice t len parts.toArray, ty, pos, aft, none⟩ :: rest) e w :=
  L_do rfl hd (R := fun v w' => L P n ops Q rest (upd e b0 v) w') (Dn_bsl H hs hz hc hp hf hk) (fun _ _ h => h)
theorem Bp0 : ([] : List (Nat × Operand)).map (fun p => (p.1, ev e p.2)) = [] := rfl
theorem Bpc {i : Nat} {a : Value} {r : List (Nat × Operand)} {pr : List (Nat × Value)} (h : ev e x = a) (hr : r.map (fun p => (p.1, ev e p.2)) = pr) : ((i, x) :: r).map (fun p => (p.1, ev e p.2)) = (i, a) :: pr := by rw [List.map_cons, hr, h]
/-- make. -/
theorem L_mk {zv : Array Value} {k1 k2 : IntKind} {m c by_ : Nat} (hd : Nat.blt b0 n = true) (H : Hp w0 S w l) (hs : slOf P t = some (et, z)) (hz : zeroOf P et = some zv) (hb : szOf P et = some by_) (hx : ev e x = .int k1 (m : Int)) (hy : ev e y = .int k2 (c : Int))
    (hmc : m ≤ c) (hby : by_ * c ≤ 281474976710656) (h63 : c ≤ 9223372036854775807)
    (hk : ∀ b w', Hp w0 S w' (.blk b et (madeCells zv (c * z)) :: l) → L P n ops Q rest (upd e b0 (.slice (some ⟨b, 0, none⟩) m c)) w') : L P n ops Q (⟨some b0, .makeSlice t x y, ty, pos, aft, none⟩ :: rest) e w := by
  obtain ⟨hu, i, hi, hsz⟩ := slOf_eq hs
  unfold zeroOf at hz
  rw [hi] at hz
  simp only [szOf, hi, Option.map_some, Option.some.injEq] at hb
  cases hzz : i.zero with
  | none => simp [hzz] at hz
  | some q =>
    simp [hzz] at hz
    subst hz hsz hb
    have hr := run_make (P := P) w t et i q hu hi hzz k1 k2 (m : Int) (c : Int) (by omega) (by omega) (by rw [← Int.natCast_mul]; omega) (by omega)
    simp only [Int.toNat_natCast] at hr
    refine L_do rfl hd (R := fun v' w' => v' = .slice (some ⟨w.heap.size, 0, none⟩) m c ∧ w' = w.alloc (.cells (madeCells q.cells (c * i.size)) et)) (Dn.val (w' := w.alloc (.cells (madeCells q.cells (c * i.size)) et)) (v := .slice (some ⟨w.heap.size, 0, none⟩) m c) ?_ ⟨rfl, rfl⟩) ?_
    · simp [execOp, hx, hy, hr]
    · rintro _ _ ⟨rfl, rfl⟩
      exact hk _ _ (H.more (Hp.new w et _))
theorem made_ua (k : IntKind) (m : Nat) : madeCells #[.int k 0] m = ua k (List.replicate m 0) := by
  apply Array.toList_inj.1
  rw [toList_madeCells_one]; simp [ua]

/-! ### Numbers in rows -/
def us (k : IntKind) (l : List Nat) : List Value := l.map fun (n : Nat) => Value.int k (n : Int)
theorem us_append (k : IntKind) (a b : List Nat) : us k (a ++ b) = us k a ++ us k b := List.map_append
theorem us_length (k : IntKind) (a : List Nat) : (us k a).length = a.length := List.length_map _
theorem us_one (k : IntKind) (a : List Nat) : ∀ u ∈ us k a, u.oneCell' = true := ua_one k a
theorem pre_get {k : IntKind} {cs : Array Value} {m i u : Nat} {a : List Nat} (h : cs.toList.take m = us k a) (hi : a[i]? = some u) : cs[i]? = some (.int k (u : Int)) := by
  have h1 : (us k a)[i]? = some (.int k (u : Int)) := by simp [us, hi]
  rw [← h, List.getElem?_take] at h1
  split at h1
  · simpa using h1
  · cases h1
theorem news_ua {k : IntKind} {b : Nat} {a : List Nat} (h : w.heap[b]? = some (.cells (ua k a) t (0, 0))) : ∀ j u, (us k a)[j]? = some u → w.cell? ((⟨b, 0, none⟩ : Addr).add j) = some u := fun j u hu => by
  rw [add_at, Nat.zero_add, cell_of_row w b j _ t (0, 0) h]
  simpa [ua, us] using hu
theorem Hp.oldB {b : Nat} {c : Obj} (H : Hp w0 S w l) (hg : w0.heap[b]? = some c) (hS : b ∉ S) : w.heap[b]? = some c := (H.frame b (Array.getElem?_eq_some_iff.1 hg).1 hS).trans hg
/-- A call, as an operation of a head. -/
theorem Dn_callv {f : FuncId} {xs : List Operand} {ts : Array TypeId} {vs : List Value} {R : Value → World → Prop} (hf : enters P f = true) (hxs : xs.map (ev e) = vs) (hc : Calls P f vs.toArray w fun x w' => ∃ v, x = .returned v ∧ R v w') :
    Dn P ⟨d, .call { callee := .value (.func f), args := xs.toArray, argTypes := ts }, ty, pos, aft, g⟩ e w R := Dn_call hf (by rw [List.map_toArray, hxs]) hc

/-! ### append -/
theorem Hp.fresh {cs : Array Value} {m cap : Nat} {xs : List Value} (w : World) (t : TypeId) (hn : m ≤ cap) (hc : cap ≤ maxLen) (hs : cs.size = cap * z) (hx : cs.toList.take (m * z) = xs) :
    Hp w [] (w.drew.alloc (.cells cs t)) [.own (.slice (some ⟨w.heap.size, 0, none⟩) m cap) t z m xs] := by
  have H : Hp w [] (w.drew.alloc (.cells cs t)) [.blk w.heap.size t cs] := (Hp.more (Hp.drew (Keep.refl w)) (Hp.new w.drew t cs) : _)
  exact H.say (i := 0) rfl (own_of_blk hn hc hs hx) (fun _ h => h) rfl
theorem run_app {a : Addr} {m k c by_ : Nat} {zv : Array Value} {xs news : List Value} (H : Hp w [] w []) (ho : (Ent.own v et z m xs).ok w) (hs : slOf P t = some (et, z)) (hz : zeroOf P et = some zv) (hzs : zv.size = z) (hb : szOf P et = some by_)
    (hl : news.length = k * z) (hnews : ∀ j u, news[j]? = some u → w.cell? (a.add j) = some u) (h1 : ∀ u ∈ news, u.oneCell' = true) (hfit : (m + k) * by_ ≤ 140737488355328) (h63 : m + k ≤ maxLen) :
    ∃ v' w', (Builtin.append_ #[t, t] ty #[v, .slice (some a) k c]).run P w = .ok v' w' ∧ Hp w v.ownBlock.toList w' [.own v' et z (m + k) (xs ++ news)] := by
  obtain ⟨hu, i, hi, hsz⟩ := slOf_eq hs
  unfold zeroOf at hz
  rw [hi] at hz
  simp only [szOf, hi, Option.map_some, Option.some.injEq] at hb
  have h63' : m + k ≤ 9223372036854775807 := by simpa [maxLen] using h63
  cases hzz : i.zero with
  | none => simp [hzz] at hz
  | some q =>
    simp [hzz] at hz
    subst hz hsz hb
    have hlen := ho.1
    have tk : ∀ (r : Array Value), ((xs.toArray ++ news.toArray ++ r).toList).take ((m + k) * i.size) = xs ++ news := fun r => by
      rw [Array.toList_append, Array.toList_append]
      exact List.take_left' (by simp [hlen, hl, Nat.add_mul])
    have size_ : ∀ cap, m + k ≤ cap → (xs.toArray ++ news.toArray ++ Builtin.zeroCells q.cells (cap - (m + k))).size = cap * i.size := fun cap hcap => by
      rw [Array.size_append, Array.size_append, size_zeroCells, hzs, List.size_toArray, List.size_toArray, hlen, hl, ← Nat.add_mul, ← Nat.add_mul]
      congr 1; omega
    rcases ho.2 with ⟨rfl, rfl⟩ | ⟨b, cap, cur, rfl, _, hg, hnc, hcm, hcs, htk⟩
    · have hx : xs = [] := List.eq_nil_of_length_eq_zero (by simpa using hlen)
      subst hx
      rcases Nat.eq_zero_or_pos k with rfl | hk
      · have hn : news = [] := List.eq_nil_of_length_eq_zero (by simpa using hl)
        subst hn
        refine ⟨.slice none 0 0, w, ?_, H.nilOwn et i.size⟩
        simp [Builtin.append_, run_underlying hu, sizeOf, typeInfo, hi, Builtin.lenOf, Builtin.firstCells, loadCells, loadCellsFrom]
      · have hr := run_append_nil (P := P) w t ty et i q hu hi hzz a k c news hl hnews hk (by omega) (by simp only [Nat.zero_add] at hfit; omega)
        have h2 := tk (Builtin.zeroCells q.cells (grownCap w k 0 et - k))
        have h3 := size_ (grownCap w k 0 et) (by have := grownCap_ge w k 0 et; omega)
        simp only [Nat.zero_add, List.nil_append, Array.empty_append] at h2 h3 ⊢
        exact ⟨_, _, hr, Hp.fresh w et (grownCap_ge w k 0 et) (grownCap_le_maxLen w k 0 et (by omega)) h3 h2⟩
    · have hlt : ∀ b', (Ent.blk b et cur).foot = some b' → b' < w.heap.size := fun b' hb' => Ent.lt (x := .blk b et cur) hg hb'
      by_cases hroom : m + k ≤ cap
      · have hf : m * i.size + news.length ≤ cur.size := by rw [hl, hcs, ← Nat.add_mul]; exact Nat.mul_le_mul_right _ hroom
        have hr := run_append_room (P := P) w t ty et i hu hi b m cap cur hg a k c news hl hnews h1 hroom hf
        refine ⟨_, _, hr, ?_⟩
        have hb : Hp w [b] w [.blk b et cur] := Hp.blk1 rfl rfl rfl rfl (fun _ _ => rfl) hg
        have hb' := hb.setAll (i := 0) ((cur.toList.take (m * i.size) ++ news ++ cur.toList.drop (m * i.size + news.length)).toArray) rfl rfl
        refine hb'.say (i := 0) rfl (own_of_blk hroom hcm ?_ ?_) (fun _ h => h) rfl
        · rw [List.size_toArray, List.length_append, List.length_append, List.length_take, List.length_drop, Array.length_toList]; omega
        · rw [htk]
          exact List.take_left' (by simp [hlen, hl, Nat.add_mul])
      · have holds : ∀ j u, xs[j]? = some u → w.cell? ((⟨b, 0, none⟩ : Addr).add j) = some u := World.ownsRow.cells (v := .slice (some ⟨b, 0, none⟩) m cap) ho (g := b) rfl
        have hr := run_append_grow (P := P) w t ty et i q hu hi hzz ⟨b, 0, none⟩ m cap xs hlen holds a k c news hl hnews (by omega) (by omega) (growslice_fits (by omega) hfit)
        have hf := Hp.fresh w et (grownCap_ge w (m + k) cap et) (grownCap_le_maxLen w (m + k) cap et h63) (size_ _ (grownCap_ge w (m + k) cap et)) (tk (Builtin.zeroCells q.cells (grownCap w (m + k) cap et - (m + k))))
        exact ⟨_, _, hr, ⟨hf.os, hf.tape, hf.output, hf.size, fun k hk _ => hf.frame k hk (by simp), hf.ok, hf.disj, fun y hy b' hb' => (hf.feet y hy b' hb').imp (fun h => by simp at h) id⟩⟩
/-- append to a row of one's own. -/
theorem Dn_app {a : Addr} {i m k c by_ : Nat} {zv : Array Value} {xs news : List Value} {R : Value → World → Prop} (H : Hp w0 S w l) (hi : l[i]? = some (.own v et z m xs)) (hs : slOf P t = some (et, z)) (hz : zeroOf P et = some zv) (hzs : zv.size = z) (hb : szOf P et = some by_)
    (hx : ev e x = v) (hy : ev e y = .slice (some a) k c) (hl : news.length = k * z) (hnews : ∀ j u, news[j]? = some u → w.cell? (a.add j) = some u) (h1 : ∀ u ∈ news, u.oneCell' = true) (hfit : (m + k) * by_ ≤ 140737488355328) (h63 : m + k ≤ maxLen)
    (hk : ∀ v' w', Hp w0 S w' (l.set i (.own v' et z (m + k) (xs ++ news))) → R v' w') : Dn P ⟨d, .call { callee := .builtin .append, args := #[x, y], argTypes := #[t, t] }, ty, pos, aft, g⟩ e w R := by
  obtain ⟨v', w', hr, H'⟩ := run_app (P := P) (ty := ty) (c := c) (Keep.refl w) (H.get i hi) hs hz hzs hb hl hnews h1 hfit h63
  refine Dn.val (w' := w') (v := v') ?_ (hk _ _ (H.put hi H' (fun b hb => ?_) rfl))
  · simp [execOp, resolve, invoke, builtin, hx, hy, hr]
  · exact Option.mem_toList.1 hb
theorem L_app {a : Addr} {i m k c by_ : Nat} {zv : Array Value} {xs news : List Value} (hd : Nat.blt b0 n = true) (H : Hp w0 S w l) (hi : l[i]? = some (.own v et z m xs)) (hs : slOf P t = some (et, z)) (hz : zeroOf P et = some zv) (hzs : zv.size = z) (hb : szOf P et = some by_)
    (hx : ev e x = v) (hy : ev e y = .slice (some a) k c) (hl : news.length = k * z) (hnews : ∀ j u, news[j]? = some u → w.cell? (a.add j) = some u) (h1 : ∀ u ∈ news, u.oneCell' = true) (hfit : (m + k) * by_ ≤ 140737488355328) (h63 : m + k ≤ maxLen)
    (hk : ∀ v' w', Hp w0 S w' (l.set i (.own v' et z (m + k) (xs ++ news))) → L P n ops Q rest (upd e b0 v') w') : L P n ops Q (⟨some b0, .call { callee := .builtin .append, args := #[x, y], argTypes := #[t, t] }, ty, pos, aft, none⟩ :: rest) e w :=
  L_do rfl hd (R := fun v w' => L P n ops Q rest (upd e b0 v) w') (Dn_app H hi hs hz hzs hb hx hy hl hnews h1 hfit h63 hk) (fun _ _ h => h)

/-- .. of numbers. -/
theorem L_appS {k : IntKind} {b i m q c by_ : Nat} {zv : Array Value} {l1 l2 : List Nat} (hd : Nat.blt b0 n = true) (H : Hp w0 S w l) (hi : l[i]? = some (.own v et 1 m (us k l1))) (hs : slOf P t = some (et, 1)) (hz : zeroOf P et = some zv) (hzs : zv.size = 1) (hb : szOf P et = some by_)
    (hx : ev e x = v) (hy : ev e y = .slice (some ⟨b, 0, none⟩) q c) (hnews : ∀ j u, (us k l2)[j]? = some u → w.cell? ((⟨b, 0, none⟩ : Addr).add j) = some u) (hq : l2.length = q) (hfit : m + q ≤ 4294967296 ∧ by_ ≤ 16)
    (hk : ∀ v' w', Hp w0 S w' (l.set i (.own v' et 1 (m + q) (us k (l1 ++ l2)))) → L P n ops Q rest (upd e b0 v') w') : L P n ops Q (⟨some b0, .call { callee := .builtin .append, args := #[x, y], argTypes := #[t, t] }, ty, pos, aft, none⟩ :: rest) e w := by
  have h16 : (m + q) * by_ ≤ 4294967296 * 16 := Nat.mul_le_mul hfit.1 hfit.2
  refine L_app hd H hi hs hz hzs hb hx hy (by rw [us_length, hq, Nat.mul_one]) hnews (us_one k l2) (by omega) (by have := hfit.1; simp only [maxLen]; omega) (fun v' w' H' => hk v' w' ?_)
  rwa [us_append]
/-- Such a row at a function's end: a block. -/
theorem own_end {k : IntKind} {i m : Nat} {a : List Nat} (H : Hp w0 S w l) (hi : l[i]? = some (.own v t 1 m (us k a))) (hm : 0 < m) :
    ∃ b cap cs, v = .slice (some ⟨b, 0, none⟩) m cap ∧ cs.toList.take m = us k a ∧ Hp w0 S w [.blk b t cs] := by
  rcases (H.only hi).own_blk (i := 0) rfl with ⟨_, h0, _⟩ | ⟨b, cap, cs, rfl, _, _, _, hx, H2⟩
  · omega
  · exact ⟨b, cap, cs, rfl, by rwa [Nat.mul_one] at hx, H2⟩

/-! ### Slices of arrays -/
def arrP (P : Program) (t : TypeId) : Option (Nat × Nat) :=
  match P.underlying t with
  | some (.array n e) => (P.info? e).map fun i => (n, i.size)
  | some (.pointer a) => arrOf P a
  | _ => none
/-- A whole array, by its place. -/
theorem Y_slA {b o m : Nat} (ht : arrOf P t = some (m, z)) (hx : ev e x = .pointer (some ⟨b, o, none⟩)) : Yl P ⟨d, .slice t x none none none, ty, pos, aft, g⟩ e w (.slice (some ⟨b, o, none⟩) m m) := by
  unfold arrOf at ht
  split at ht
  · rename_i n' e' hu
    cases hinf : P.info? e' with
    | none => simp [hinf] at ht
    | some inf =>
      simp [hinf] at ht
      obtain ⟨rfl, rfl⟩ := ht
      simp [Yl, execOp, hx, Instr.sliceAt, run_underlying hu, Instr.sureAddr, Instr.sliceBounds, sizeOf, typeInfo, hinf, add_at]
  · cases ht
end
end Go.Ev
