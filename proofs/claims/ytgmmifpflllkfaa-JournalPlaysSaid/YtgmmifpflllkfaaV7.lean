/- Own words for walks, seventh part: small facts that printed walks name. -/
import Derived.Test.YtgmmifpflllkfaaV6
import GoSem.Extern.MathBitsCarry
namespace Go.Ev

theorem wi {x z : Int} (h : x = z ∧ -9223372036854775808 ≤ z ∧ z ≤ 9223372036854775807) : IntKind.i64.wrap x = z := by
  obtain ⟨rfl, h⟩ := h; exact IntWalk.i64_in _ h
theorem wiq {a b : Nat} (h : a ≤ 9223372036854775807) : IntKind.i64.wrap ((a : Int).tdiv (b : Int)) = ((a / b : Nat) : Int) := by
  rw [show (a : Int).tdiv (b : Int) = ((a / b : Nat) : Int) from rfl]
  have h1 := Nat.div_le_self a b
  generalize a / b = q at *
  exact IntWalk.i64_in _ (by omega)
theorem wrapM {k : IntKind} {n m : Nat} (hk : k.signed = false) (hm : 2 ^ k.bits = m) : k.wrap (n : Int) = ((n % m : Nat) : Int) := by subst hm; exact wrapU k hk n
theorem wrapS {k : IntKind} {n : Nat} (hk : k.signed = false) (h : n < 2 ^ k.bits) : k.wrap (n : Int) = (n : Int) := by rw [wrapU k hk, Nat.mod_eq_of_lt h]
theorem zz1 (j : Nat) : 0 + j * 1 = j := by omega

/-- m numbers below b. -/
def Wd (m b : Nat) (l : List Nat) : Prop := l.length = m ∧ ∀ u ∈ l, u < b
theorem Wd.set {m b i u : Nat} {l : List Nat} (h : Wd m b l) (hu : u < b) : Wd m b (l.set i u) := by
  refine ⟨by simp [h.1], fun x hx => ?_⟩
  rcases List.mem_or_eq_of_mem_set hx with h1 | h1
  · exact h.2 x h1
  · rw [h1]; exact hu
theorem Wd.nil {b : Nat} : Wd 0 b [] := ⟨rfl, by simp⟩
theorem Wd.cons {m b a : Nat} {l : List Nat} (ha : a < b) (h : Wd m b l) : Wd (m + 1) b (a :: l) :=
  ⟨by simp [h.1], fun x hx => by rcases List.mem_cons.1 hx with rfl | hx; exact ha; exact h.2 x hx⟩
theorem Wd.of4 {b a0 a1 a2 a3 : Nat} (h0 : a0 < b) (h1 : a1 < b) (h2 : a2 < b) (h3 : a3 < b) : Wd 4 b [a0, a1, a2, a3] := .cons h0 (.cons h1 (.cons h2 (.cons h3 .nil)))
theorem Wd.of8 {b a0 a1 a2 a3 a4 a5 a6 a7 : Nat} (h0 : a0 < b) (h1 : a1 < b) (h2 : a2 < b) (h3 : a3 < b) (h4 : a4 < b) (h5 : a5 < b) (h6 : a6 < b) (h7 : a7 < b) : Wd 8 b [a0, a1, a2, a3, a4, a5, a6, a7] :=
  .cons h0 (.cons h1 (.cons h2 (.cons h3 (.of4 h4 h5 h6 h7))))

section
variable {P : Program} {e : Env} {w w0 : World} {S : List Nat} {l : List Ent} {d : Option Nat} {ty t t2 : TypeId} {pos : String} {aft : Array Edge} {g : Option (Nat × Bool)} {x y z : Operand} {v : Value}
variable {n : Nat} {ops : Array Oper} {rest : List Oper} {Q : Exit → Env → World → Prop} {op : Op} {b0 : Nat}

/-- A number that gets a name, and its range. -/
theorem L_yr {k : IntKind} {z m : Nat} (hd : Nat.blt b0 n = true) (hy : Yl P ⟨some b0, op, ty, pos, aft, none⟩ e w (.int k (z : Int))) (hm : z < m)
    (hk : ∀ x : Nat, x = z → x < m → L P n ops Q rest (upd e b0 (.int k (x : Int))) w) : L P n ops Q (⟨some b0, op, ty, pos, aft, none⟩ :: rest) e w := L_y hd hy (hk z rfl hm)

theorem Bp1 {i : Nat} {a : Value} (h : ev e x = a) : [(i, x)].map (fun p => (p.1, ev e p.2)) = [(i, a)] := by simp [h]
theorem Bp2 {i j : Nat} {a b : Value} (h : ev e x = a) (h2 : ev e y = b) : [(i, x), (j, y)].map (fun p => (p.1, ev e p.2)) = [(i, a), (j, b)] := by simp [h, h2]
theorem Bp4 {i j i2 j2 : Nat} {x2 y2 : Operand} {a b a2 b2 : Value} (h : ev e x = a) (h2 : ev e y = b) (h3 : ev e x2 = a2) (h4 : ev e y2 = b2) : [(i, x), (j, y), (i2, x2), (j2, y2)].map (fun p => (p.1, ev e p.2)) = [(i, a), (j, b), (i2, a2), (j2, b2)] := by simp [h, h2, h3, h4]

theorem Y_ldb {b o : Nat} {bt : TypeId} {cs : Array Value} (hs : scal P t = true) (hb : w.heap[b]? = some (.cells cs bt (0, 0))) (hx : ev e x = .pointer (some ⟨b, o, none⟩)) (hc : cs[o]? = some v) : Yl P ⟨d, .load t x, ty, pos, aft, g⟩ e w v :=
  Y_ldc hs hx ((cell_of_row w b o cs bt (0, 0) hb).trans hc)
theorem Y_ldrb {b k : Nat} {bt : TypeId} {cs : Array Value} (hs : rowOf P t = some k) (hb : w.heap[b]? = some (.cells cs bt (0, 0))) (hx : ev e x = .pointer (some ⟨b, 0, none⟩)) (hk : cs.size = k) : Yl P ⟨d, .load t x, ty, pos, aft, g⟩ e w (.agg cs) := by
  have h := run_loadRow (P := P) (w := w) (a := ⟨b, 0, none⟩) (cs := cs.toList) hs (by simpa using hk) (fun j u hu => by
    rw [add_at, Nat.zero_add, cell_of_row w b j cs bt (0, 0) hb]
    simpa using hu)
  have h' : (Instr.loadAt t (.pointer (some ⟨b, 0, none⟩))).run P w = .ok (.agg cs) w := by simpa using h
  simp [Yl, execOp, hx, h']

theorem Dn_alloc {cs : Array Value} {R : Value → World → Prop} (H : Hp w0 S w l) (hz : zeroOf P t = some cs) (hk : ∀ b w', Hp w0 S w' (.blk b t cs :: l) → R (.pointer (some ⟨b, 0, none⟩)) w') : Dn P ⟨d, .alloc t, ty, pos, aft, g⟩ e w R := by
  refine Dn.val (w' := w.alloc (.cells cs t)) (v := .pointer (some ⟨w.heap.size, 0, none⟩)) ?_ (hk _ _ (H.more (Hp.new w t cs)))
  unfold zeroOf at hz
  cases hi : P.info? t with
  | none => simp [hi] at hz
  | some i =>
    cases hzz : i.zero with
    | none => simp [hi, hzz] at hz
    | some z =>
      simp [hi, hzz] at hz
      subst hz
      simp [execOp, Instr.alloc, zeroValue, typeInfo, hi, hzz, newVar, newRow]
theorem Dn_st {b i o : Nat} {bt : TypeId} {cs : Array Value} {l' : List Ent} {R : Value → World → Prop} (hs : scal P t = true) (H : Hp w0 S w l) (hi : l[i]? = some (.blk b bt cs)) (hx : ev e x = .pointer (some ⟨b, o, none⟩)) (hy : ev e y = v) (hv : v.oneCell' = true) (ho : o < cs.size)
    (hl : l.set i (.blk b bt (cs.set! o v)) = l') (hk : ∀ w', Hp w0 S w' l' → R undef w') : Dn P ⟨d, .store t x y, ty, pos, aft, g⟩ e w R := by
  have hb := H.get i hi
  obtain ⟨u, hu⟩ : ∃ u, cs[o]? = some u := ⟨_, Array.getElem?_eq_getElem ho⟩
  have hr := run_store1 (P := P) (w := w) (a := ⟨b, o, none⟩) hs hv ((cell_of_row w b o cs bt (0, 0) hb).trans hu) (frozen_of_row w b o cs bt hb)
  exact Dn.skip (w' := w.setCell ⟨b, o, none⟩ v) (by simp [execOp, hx, hy, hr]) (hk _ (H.set v hi hl))
theorem Dn_str {b i k : Nat} {bt : TypeId} {cs ds : Array Value} {l' : List Ent} {R : Value → World → Prop} (hs : rowOf P t = some k) (H : Hp w0 S w l) (hi : l[i]? = some (.blk b bt cs)) (hx : ev e x = .pointer (some ⟨b, 0, none⟩)) (hy : ev e y = .agg ds) (hk1 : cs.size = k) (hk2 : ds.size = k) (h1 : allOne ds)
    (hl : l.set i (.blk b bt ds) = l') (hk : ∀ w', Hp w0 S w' l' → R undef w') : Dn P ⟨d, .store t x y, ty, pos, aft, g⟩ e w R := by
  have hb := H.get i hi
  have hr : (storeCells ⟨b, 0, none⟩ ds.toList 0).run P w = .ok () (w.setRow b ds) := by
    have := run_storeCells_from (P := P) b bt ds.toList 0 cs w hb (by simp; omega) h1
    have h2 : (cs.toList.take 0 ++ ds.toList).toArray = ds := by simp
    simpa [h2] using this
  exact Dn.skip (w' := w.setRow b ds) (by simp [execOp, hx, hy, Instr.storeAt, Instr.sureAddr, storeVar, Value.cells, run_sizeOf_row hs, hk2, hr]) (hk _ (H.setAll ds hi hl))

/-! ### math/bits: Add64, Sub64 -/
abbrev exAdd : Array Value → Sem Value := (Extern.MathBitsCarry.rows[0]'(by decide)).2
abbrev exSub : Array Value → Sem Value := (Extern.MathBitsCarry.rows[1]'(by decide)).2
theorem run_three (nm : String) (a b c : Nat) (hc : c ≤ 1) : (Extern.MathBitsCarry.three nm #[.int .u64 (a : Int), .int .u64 (b : Int), .int .u64 (c : Int)]).run P w = .ok (a, b, c) w := by
  have h : ¬ (((c : Int)).toNat > 1) := by omega
  show (if ((c : Int)).toNat > 1 then (unsupported (.noEntry _) : Sem Unit).bind _ else _ : Sem (Nat × Nat × Nat)).run P w = _
  rw [if_neg h]
  rfl
theorem ev_add64 (a b c : Nat) (hc : c ≤ 1) : (exAdd #[.int .u64 (a : Int), .int .u64 (b : Int), .int .u64 (c : Int)]).run P w =
    .ok (.tuple #[.int .u64 (((a + b + c) % 18446744073709551616 : Nat) : Int), .int .u64 (((a + b + c) / 18446744073709551616 : Nat) : Int)]) w := by
  show ((Extern.MathBitsCarry.three "Add64" _).bind _ : Sem Value).run P w = _
  rw [Sem.run_bind', run_three "Add64" a b c hc]
  rfl
theorem ev_sub64 (a b c : Nat) (hc : c ≤ 1) : (exSub #[.int .u64 (a : Int), .int .u64 (b : Int), .int .u64 (c : Int)]).run P w =
    .ok (.tuple #[.int .u64 (((a + 18446744073709551616 - b - c) % 18446744073709551616 : Nat) : Int), .int .u64 (((if a < b + c then 1 else 0 : Nat)) : Int)]) w := by
  show ((Extern.MathBitsCarry.three "Sub64" _).bind _ : Sem Value).run P w = _
  rw [Sem.run_bind', run_three "Sub64" a b c hc]
  by_cases h : a < b + c
  · simp only [h, if_true]
    show Result.ok _ _ = _
    rw [if_pos h]; rfl
  · simp only [h, if_false]
    show Result.ok _ _ = _
    rw [if_neg h]; rfl
end
end Go.Ev
namespace Go.Ev
theorem Wd.open4 {b : Nat} {l : List Nat} (h : Wd 4 b l) : ∃ a0 a1 a2 a3, l = [a0, a1, a2, a3] ∧ a0 < b ∧ a1 < b ∧ a2 < b ∧ a3 < b := by
  match l, h with
  | [a0, a1, a2, a3], h => exact ⟨a0, a1, a2, a3, rfl, h.2 _ (by simp), h.2 _ (by simp), h.2 _ (by simp), h.2 _ (by simp)⟩
theorem Wd.open8 {b : Nat} {l : List Nat} (h : Wd 8 b l) : ∃ a0 a1 a2 a3 a4 a5 a6 a7, l = [a0, a1, a2, a3, a4, a5, a6, a7] ∧ a0 < b ∧ a1 < b ∧ a2 < b ∧ a3 < b ∧ a4 < b ∧ a5 < b ∧ a6 < b ∧ a7 < b := by
  match l, h with
  | [a0, a1, a2, a3, a4, a5, a6, a7], h => exact ⟨a0, a1, a2, a3, a4, a5, a6, a7, rfl, h.2 _ (by simp), h.2 _ (by simp), h.2 _ (by simp), h.2 _ (by simp), h.2 _ (by simp), h.2 _ (by simp), h.2 _ (by simp), h.2 _ (by simp)⟩
end Go.Ev
namespace Go.Ev
section
variable {P : Program} {e : Env} {w : World} {d : Option Nat} {ty t : TypeId} {pos : String} {aft : Array Edge} {g : Option (Nat × Bool)} {x y : Operand} {v : Value}
theorem Y_idxV {et n j : Nat} {k : IntKind} {cs : Array Value} (ht : P.underlying t = some (.array n et)) (hs : scal P et = true) (hx : ev e x = .agg cs) (hy : ev e y = .int k (j : Int)) (hj : j < n) (hv : cs[j]? = some v) :
    Yl P ⟨d, .index t x y, ty, pos, aft, g⟩ e w v := by
  have hp := run_part (P := P) (w := w) (cs := cs) (i := j) hs hv
  simp [Yl, execOp, hx, hy, Instr.index, asIntOf, run_underlying ht, run_sizeOf_scal hs, hp, hj]
end
end Go.Ev
