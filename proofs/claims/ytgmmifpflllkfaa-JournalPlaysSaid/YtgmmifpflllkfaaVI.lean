/- Own words: a range over a function: regions in which a round is called, a round's body, an activation with a mark on it. -/
import Derived.Test.YtgmmifpflllkfaaV22
import Derived.OrdersIn
import Derived.TacticsIn
import Derived.RangeFuncNested
import Derived.RangeFuncLeaves
namespace Go.Ev
/-- Every function may be entered; in a round, or in none. -/
abbrev Fw (ro : Option Nat) : Fence := { Fence.wide with round := ro }
/-- As Rep, with deferred calls D. -/
structure RepD (D : List Deferred) (n : Nat) (a : Act) (e : Env) : Prop where
  size : a.tmps.size = n
  defers : a.defers = D
  val : ∀ i, a.tmps.getD i undef = e i
theorem RepD.rep {D : List Deferred} {n : Nat} {a : Act} {e : Env} (h : RepD D n a e) : Rep n { a with defers := [] } e := ⟨h.size, rfl, h.val⟩
theorem Rep.repD {D : List Deferred} {n : Nat} {a a' : Act} {e : Env} (h : Rep n a e) (ht : a'.tmps = a.tmps) (hd : a'.defers = D) : RepD D n a' e := ⟨by rw [ht]; exact h.size, hd, fun i => by rw [ht]; exact h.val i⟩
theorem Rep.d {n : Nat} {a : Act} {e : Env} (h : Rep n a e) : RepD [] n a e := h.repD rfl h.defers
theorem RepD.z {n : Nat} {a : Act} {e : Env} (h : RepD [] n a e) : Rep n a e := ⟨h.size, h.defers, h.val⟩
section
variable {D : List Deferred} {n : Nat} {a : Act} {e : Env}
theorem RepD.eval (h : RepD D n a e) : a.eval = ev e := by
  have := h.rep.eval
  rw [← this]; funext x; cases x <;> rfl
theorem RepD.put (h : RepD D n a e) {d : Option Nat} (hd : inside n d = true) (v : Value) : RepD D n (a.put d v) (updo e d v) := by
  refine (h.rep.put hd v).repD ?_ ?_
  · cases d <;> rfl
  · cases d <;> exact h.defers
theorem RepD.wanted (h : RepD D n a e) (ops : Array Oper) (o : Oper) : Region.wanted o (yielded ops a.tmps) = wantedE ops e o.guard := h.rep.wanted ops o
end
def UpD (D : List Deferred) (n : Nat) (Q : Exit → Env → World → Prop) : Exit → Act → World → Prop := fun x a w => ∃ e, RepD D n a e ∧ Q x e w
section
variable {ro : Option Nat} {D : List Deferred} {P : Program} {n : Nat} {e : Env} {w w' : World} {Q : Exit → Env → World → Prop} {ops : Array Oper} {rest : List Oper} {o : Oper} {R : Value → World → Prop} {v : Value}

theorem Dn.wpD {m : Nat} {a : Act} {K : Act → World → Prop} {Q' : Exit → Act → World → Prop} (h : Dn P o e w R) (ha : a.eval = ev e) (hK : ∀ v w', R v w' → K (a.put o.dst v) w') : o.wpIn (Fw ro) m P a w K Q' := by
  refine ⟨fun _ _ => trivial, ?_⟩
  unfold Dn at h
  have hnd : ∀ c, o.op ≠ .defer c := fun c hc => by
    revert h
    simp only [execOp, hc, Sem.run_bind]
    cases (resolve (ev e) c o.type).run P w <;> simp
  rw [Oper.semAt_eq _ _ _ hnd, ha]
  split at h
  · rename_i h1; rw [h1]; exact hK _ _ h
  · rename_i h1; rw [h1]; exact hK _ _ h
  · rename_i h1
    rw [h1]
    refine ⟨fun hd => by simp [Fence.wide] at hd, ?_⟩
    refine (callsIn_wide (n := m - 1)).2 (Calls.mono h ?_)
    rintro x w'' ⟨v, rfl, hR⟩
    exact hK _ _ hR
  · exact h.elim
/-- A list of operations, in which rounds may be called. -/
def LI (ro : Option Nat) (D : List Deferred) (P : Program) (n : Nat) (ops : Array Oper) (Q : Exit → Env → World → Prop) (l : List Oper) (e : Env) (w : World) : Prop := ∀ a, RepD D n a e → wpListIn (Fw ro) 0 P ops (UpD D n Q) l a w
theorem LI_nil (h : Q .normal e w) : LI ro D P n ops Q [] e w := fun _ ha => ⟨e, ha, h⟩
theorem LI_do (hg : wantedE ops e o.guard = true) (hd : inside n o.dst = true) (h : Dn P o e w R) (hk : ∀ v w', R v w' → LI ro D P n ops Q rest (updo e o.dst v) w') : LI ro D P n ops Q (o :: rest) e w := by
  intro a ha
  refine wpListIn_step fun K hK => ?_
  rw [ha.wanted, hg, if_pos rfl]
  exact h.wpD ha.eval fun v w' hr => hK _ _ (hk v w' hr _ (ha.put hd v))
theorem LI_y {op : Op} {ty : TypeId} {pos : String} {aft : Array Edge} {d : Nat} {g : Option (Nat × Bool)} (hg : wantedE ops e g = true) (hd : Nat.blt d n = true) (hy : Yl P ⟨some d, op, ty, pos, aft, g⟩ e w v)
    (hk : LI ro D P n ops Q rest (upd e d v) w) : LI ro D P n ops Q (⟨some d, op, ty, pos, aft, g⟩ :: rest) e w :=
  LI_do hg hd (R := fun v' w' => v' = v ∧ w' = w) (Dn.val hy ⟨rfl, rfl⟩) (by rintro _ _ ⟨rfl, rfl⟩; exact hk)
theorem LI_not (hg : wantedE ops e o.guard = false) (hd : inside n o.dst = true) (hk : LI ro D P n ops Q rest (updo e o.dst undef) w) : LI ro D P n ops Q (o :: rest) e w := by
  intro a ha
  refine wpListIn_step fun K hK => ?_
  rw [ha.wanted, hg, if_neg (by simp)]
  exact ⟨fun _ _ => trivial, hK _ _ (hk _ (ha.put hd undef))⟩
/-- What was walked in none. -/
theorem LI_of_L (hno : ∀ e w, ¬ Q .outgrown e w) (l : List Oper) (hl : l.all (fun o => match o.op with | .defer _ => false | _ => true) = true) (h : L P n ops Q l e w) : LI ro D P n ops Q l e w := by
  have key : ∀ (l : List Oper) (a a' : Act) (w : World), l.all (fun o => match o.op with | .defer _ => false | _ => true) = true → a'.tmps = a.tmps → a'.defers = a.defers ++ D → wpList P ops (Up n Q) l a w → wpListIn (Fw ro) 0 P ops (UpD D n Q) l a' w := by
    have hend : ∀ (x : Exit) (a a' : Act) (w : World), a'.tmps = a.tmps → a'.defers = a.defers ++ D → Up n Q x a w → UpD D n Q x a' w := by
      rintro x a a' w h1 h2 ⟨e', hr, q⟩
      exact ⟨e', hr.repD h1 (by rw [h2, hr.defers]; rfl), q⟩
    intro l
    induction l with
    | nil => exact fun a a' w _ h1 h2 h => hend _ a a' w h1 h2 h
    | cons o l ih =>
      intro a a' w hl h1 h2 h
      simp only [List.all_cons, Bool.and_eq_true] at hl
      have hput : ∀ v w', wpList P ops (Up n Q) l (a.put o.dst v) w' → wpListIn (Fw ro) 0 P ops (UpD D n Q) l (a'.put o.dst v) w' := fun v w' hh => by
        refine ih _ _ w' hl.2 ?_ ?_ hh
        · cases hd : o.dst <;> simp [Act.put, h1]
        · cases hd : o.dst <;> simp [Act.put, h2]
      have hputd : ∀ (d : Deferred) w', wpList P ops (Up n Q) l ({ a with defers := d :: a.defers }.put o.dst undef) w' → wpListIn (Fw ro) 0 P ops (UpD D n Q) l ({ a' with defers := d :: a'.defers }.put o.dst undef) w' := fun d w' hh => by
        refine ih _ _ w' hl.2 ?_ ?_ hh
        · cases hd : o.dst <;> simp [Act.put, h1]
        · cases hd : o.dst <;> simp [Act.put, h2]
      have hev : a'.eval = a.eval := by funext x; cases x <;> simp [Act.eval, h1]
      simp only [wpList, wpListIn, h1] at h ⊢
      split at h
      · rename_i hw
        rw [if_pos hw]
        rcases h with h | ⟨_, a0, w0, e0, _, h0⟩
        · refine ⟨fun _ _ => trivial, ?_⟩
          have hnd : ∀ c, o.op ≠ .defer c := fun c hc => by simp [hc] at hl
          rw [Oper.semAt_eq _ _ _ hnd, hev]
          unfold Oper.wp at h
          have hout : ¬ LetsOut (Up n Q) := fun ⟨a0, w0, e0, _, h0⟩ => hno _ _ h0
          generalize (execOp a.eval o).run P w = r at *
          cases r with
          | ok x w1 =>
            cases x with
            | value v => exact hput _ _ h
            | skip => exact hput _ _ h
            | defer d => exact hputd _ _ h
            | enter f args =>
              refine ⟨fun hd => by simp [Fence.wide] at hd, (callsIn_wide (n := 0 - 1)).2 (Calls.mono h ?_)⟩
              intro x w' hx
              cases x with
              | returned v => exact hput _ _ hx
              | panicked ch => exact hend _ _ _ _ h1 h2 hx
              | outgrown => exact absurd hx hout
            | row nm args =>
              exact ⟨fun hd => by simp [Fence.wide] at hd, fun c cs _ => let ⟨v, w', r, s⟩ := h c cs; ⟨v, w', hput _ _ r, stepsIn_wide.2 s⟩⟩
            | _ => exact h.elim
          | halt x w1 => cases x <;> first | exact hend _ _ _ _ h1 h2 h | exact h.elim
        · exact absurd h0 (hno _ _)
      · rename_i hw
        rw [if_neg hw]
        exact ⟨fun _ _ => trivial, hput _ _ h⟩
  intro a ha
  exact key l { a with defers := [] } a w hl rfl (by simp [ha.defers]) (h _ ha.rep)
/-- A round is called. -/
theorem LI_yield {f : Operand} {l m : Nat} {xs : List Operand} {ts : Array TypeId} {ty : TypeId} {pos : String} {aft : Array Edge} {d : Nat} {g : Option (Nat × Bool)} {vs : List Value} {R' : Ending → World → Prop}
    (hf : ev e f = .func (.yield l) #[] #[]) (hg : wantedE ops e g = true) (hd : Nat.blt d n = true) (hxs : xs.map (ev e) = vs) (hY : YieldAt Fence.wide m P l vs.toArray w R')
    (hk : ∀ x w', R' x w' → ∃ v, x = .returned v ∧ LI none D P n ops Q rest (upd e d v) w') : LI none D P n ops Q (⟨some d, .call { callee := .value f, args := xs.toArray, argTypes := ts }, ty, pos, aft, g⟩ :: rest) e w := by
  intro a ha
  refine wpListIn_step fun K hK => ?_
  rw [ha.wanted, hg, if_pos rfl]
  obtain ⟨fn, tmps, assign, body, hy, hR⟩ := hY
  refine ⟨fun _ _ => trivial, ?_⟩
  rw [show (Fw none).round = none from rfl, Oper.semAt_none, ha.eval]
  subst hxs
  have hrun : (execOp (ev e) ⟨some d, .call { callee := .value f, args := xs.toArray, argTypes := ts }, ty, pos, aft, g⟩).run P w = .ok (.round l fn tmps assign body) w := by
    have hy' := hy
    simp only [← List.map_toArray] at hy'
    simp [execOp, resolve, Deferred.ofValue, hf, invoke]
    simpa using hy
  rw [hrun, Oper.uponIn_round]
  refine ⟨fun hd => by simp [Fence.wide] at hd, ?_⟩
  have hR2 : RoundIn Fence.wide (0 - 1) P l fn tmps assign body w R' := ⟨hR.1, fun c cs _ => hR.2 c cs (room_wide _)⟩
  refine hR2.mono fun x w1 hx => ?_
  obtain ⟨v, rfl, hv⟩ := hk x w1 hx
  exact hK _ _ (hv _ (ha.put (d := some d) hd v))
/-- Code, in a round or in none, with deferred calls. -/
def WI (ro : Option Nat) (D : List Deferred) (P : Program) (n : Nat) (c : Code) (Q : Exit → Env → World → Prop) (e : Env) (w : World) : Prop := ∀ a, RepD D n a e → c.wpIn (Fw ro) 0 P (UpD D n Q) a w
theorem WI_rg {id : Nat} {l : List Oper} (h : LI ro D P n l.toArray Q l e w) : WI ro D P n (.region id l.toArray false) Q e w := fun a ha => wpIn_region_lit (h a ha)
theorem WI_seq {x y : Code} (h : WI ro D P n x (Th (fun e w => WI ro D P n y Q e w) Q) e w) : WI ro D P n (.seq x y) Q e w := by
  intro a ha
  refine wpIn_seq (wpIn_mono (h a ha) ?_)
  rintro x' a' w' ⟨e', hr, q⟩
  cases x' with
  | normal => exact q a' hr
  | exit i => exact ⟨e', hr, q⟩
  | goto l => exact ⟨e', hr, q⟩
  | ret => exact ⟨e', hr, q⟩
  | panic ch => exact ⟨e', hr, q⟩
  | outgrown => exact ⟨e', hr, q⟩
theorem WI_block {id : Nat} {c : Code} (h : WI ro D P n c (InB id Q) e w) : WI ro D P n (.block id c) Q e w := by
  intro a ha
  refine wpIn_block (wpIn_mono (h a ha) ?_)
  rintro x' a' w' ⟨e', hr, q⟩
  cases x' with
  | exit i =>
    simp only [Exit.inBlock]
    by_cases hi : i = id
    · subst hi
      have : Nat.beq i i = true := by simp
      simp only [InB, this] at q
      simp only [if_true]; exact ⟨e', hr, q⟩
    · have : Nat.beq i id = false := by cases hb : Nat.beq i id with
        | false => rfl
        | true => exact absurd (Nat.eq_of_beq_eq_true hb) hi
      simp only [InB, this] at q
      rw [if_neg hi]; exact ⟨e', hr, q⟩
  | normal => exact ⟨e', hr, q⟩
  | goto l => exact ⟨e', hr, q⟩
  | ret => exact ⟨e', hr, q⟩
  | panic ch => exact ⟨e', hr, q⟩
  | outgrown => exact ⟨e', hr, q⟩
theorem WI_ret (h : Q .ret e w) : WI ro D P n .ret Q e w := fun _ ha => wpIn_ret ⟨e, ha, h⟩
theorem WI_w {c : Code} (h : WI none [] P n c Q e w) : W P n c Q e w := fun a ha => wpIn_wide.1 (wpIn_mono (h a ha.d) (fun _ _ _ ⟨e', hr, q⟩ => ⟨e', hr.z, q⟩))
end
section
variable {F : Fence} {m : Nat} {P : Program} {md : Region.Mode} {ops : Array Oper}
theorem wpAnyIn_of_seq {Q' : Exit → Act → World → Prop} : ∀ (l : List Oper) (k : Nat) (listed : Array Bool) (a : Act) (w : World), (∀ j, l[j]? = ops[k + j]?) →
    Region.seqB md ops l.length k listed = true → wpListIn F m P ops Q' l a w → wpAnyIn F m P md ops Q' l.length listed a w
  | [], _, _, _, _, _, hB, h => ⟨by simpa [Region.seqB] using hB, h⟩
  | o :: l, k, listed, a, w, hl, hB, h => by
    have h0 : ops[k]? = some o := by simpa using (hl 0).symm
    simp only [List.length_cons, Region.seqB, Bool.and_eq_true, decide_eq_true_eq] at hB
    refine ⟨fun h1 => (by rw [hB.1] at h1; cases h1), fun i hi => ?_⟩
    rw [hB.1] at hi
    have hik : i = k := by simpa using hi
    subst hik
    have hw : wpOpIn F m P ops Q' i (wpListIn F m P ops Q' l) a w := by unfold wpOpIn; simp only [h0]; exact h
    exact wpOpIn_mono (fun a' w' h' => wpAnyIn_of_seq l (i + 1) _ a' w' (fun j => by have := hl (j + 1); simpa [Nat.add_assoc, Nat.add_comm 1 j] using this) hB.2 h') hw
end
section
variable {ro : Option Nat} {D : List Deferred} {P : Program} {n : Nat} {e : Env} {w : World} {Q : Exit → Env → World → Prop}
def az (a : Act) : Act := { a with defers := [] }
theorem az_put (a : Act) (d : Option Nat) (v : Value) : az (a.put d v) = (az a).put d v := by cases d <;> rfl
theorem put_defers (a : Act) (d : Option Nat) (v : Value) : (a.put d v).defers = a.defers := by cases d <;> rfl
theorem WI_any {id : Nat} {l : List Oper} (nh : Nat) (sp soft slots : List Nat) (V : List Value) (B : World → Prop) (Y : Nat → List Value → World → Prop)
    (hm : P.follows .mixedOrders = true) (hok : anyOk n l nh sp soft slots = true)
    (hB : ∀ M vs w, Y M vs w → B w) (hK : ∀ M vs w w', Keep w w' → Y M vs w → Y M vs w')
    (h0 : Y 0 (slots.map e) w)
    (ho : Owed P l nh sp soft slots (ovl e (l.take nh) V) B Y 0 (l.take nh) V)
    (ht : ∀ e' w', (∀ s, agT l nh soft s = true → e' s = ovl e (l.take nh) V s) → Y (2 ^ sp.length - 1) (slots.map e') w' → LI none D P n l.toArray Q (l.drop nh) e' w') :
    WI none D P n (.region id l.toArray true) Q e w := by
  intro a ha
  simp only [anyOk, Bool.and_eq_true, List.all_eq_true, List.mem_range, Nat.ble_eq] at hok
  obtain ⟨⟨⟨⟨⟨⟨⟨⟨⟨⟨⟨hsel, hnl⟩, hback⟩, hins⟩, hnd⟩, hsn⟩, hsb⟩, hsl⟩, hop⟩, hgd⟩, htl⟩, hseq⟩ := hok
  have hnd' := nodupB_spec hnd
  have hsn' := nodupB_spec hsn
  have hVl : (l.take nh).length = V.length := ho.len
  have htk : ∀ i, i < nh → (l.take nh)[i]? = l[i]? := fun i hi => by rw [List.getElem?_take, if_pos hi]
  -- the values of the head
  have eVat : ∀ j o d, j < nh → l[j]? = some o → o.dst = some d → ovl e (l.take nh) V d = V.getD j undef := fun j o d hj hoj hd =>
    ovl_at (l.take nh) V e j o d hnd' (by omega) (by rw [htk j hj]; exact hoj) hd
  have eVbase : ∀ s, (headDsts l nh).contains s = false → e s = ovl e (l.take nh) V s := fun s hs => by
    rw [ovl_other]
    intro o hm hd
    have : s ∈ headDsts l nh := List.mem_filterMap.2 ⟨o, hm, hd⟩
    simp [this] at hs
  generalize hev : ovl e (l.take nh) V = eV at *
  refine wpIn_region_any hm ?_
  have key : ∀ (c : Nat) (listed : Array Bool) (M : Nat) (a : Act) (e' : Env) (w' : World), a.defers = D → Inv P n l nh sp soft slots eV Y listed M (az a) e' w' → cnt listed nh = c →
      wpAnyIn (Fw none) 0 P .any l.toArray (UpD D n Q) (c + (l.length - nh)) listed a w' := by
    intro c
    induction c with
    | zero =>
      intro listed M a e' w' hD I hc
      have rD : RepD D n a e' := I.rep.repD rfl hD
      have hall := cnt_zero nh hc
      have hdone : listed = headDone l.length nh := by
        refine Array.ext (by simp [headDone, I.size]) fun i h1 h2 => ?_
        have h1' : i < l.length := by rw [← I.size]; exact h1
        simp only [headDone, Array.getElem_map, Array.getElem_range]
        rcases Nat.lt_or_ge i nh with h | h
        · have := hall i h
          simp only [Array.getD_eq_getD_getElem?, Array.getElem?_eq_getElem h1, Option.getD_some] at this
          rw [this, blt_eq.2 h]
        · have := I.tail i h h1'
          simp only [Array.getD_eq_getD_getElem?, Array.getElem?_eq_getElem h1, Option.getD_some] at this
          rw [this]
          cases hb : Nat.blt i nh with
          | false => rfl
          | true => have := blt_eq.1 hb; omega
      have hM : M = 2 ^ sp.length - 1 := by
        apply Nat.eq_of_testBit_eq
        intro t
        rw [Nat.testBit_two_pow_sub_one]
        rcases Nat.lt_or_ge t sp.length with h | h
        · rw [I.mask t sp[t] (List.getElem?_eq_getElem h)]
          have hs := hsb sp[t] (List.getElem_mem h)
          have := hall sp[t] (blt_eq.1 hs)
          simp only [h, decide_true]
          have hlt : sp[t] < listed.size := by rw [I.size]; have := blt_eq.1 hs; omega
          simp only [Array.getD_eq_getD_getElem?, Array.getElem?_eq_getElem hlt, Option.getD_some] at this ⊢
          exact this
        · simp only [decide_eq_false (Nat.not_lt.2 h)]
          exact Nat.testBit_lt_two_pow (Nat.lt_of_lt_of_le I.mlt (Nat.pow_le_pow_right (by omega) h))
      rw [Nat.zero_add]
      have hL := ht e' w' (fun s hs => by
        simp only [agT, Bool.or_eq_true, Bool.not_eq_true', List.any_eq_true, List.mem_range, Bool.and_eq_true, beq_iff_eq] at hs
        rcases hs with hs | ⟨j, hj, hjs, hd⟩
        · exact I.base s hs
        · refine I.fact j s hj ?_ hjs hd
          have := hall j hj
          have hlt : j < listed.size := by rw [I.size]; omega
          simp only [Array.getD_eq_getD_getElem?, Array.getElem?_eq_getElem hlt, Option.getD_some] at this ⊢
          exact this) (hM ▸ I.st) a rD
      have hdl : (l.drop nh).length = l.length - nh := by simp
      have := wpAnyIn_of_seq (md := .any) (Q' := UpD D n Q) (l.drop nh) nh listed a w' (fun j => by simp [List.getElem?_drop]) (by rw [hdl, hdone]; exact hseq) hL
      rwa [hdl] at this
    | succ c ih =>
      intro listed M a e' w' hD I hc
      have rD : RepD D n a e' := I.rep.repD rfl hD
      rw [show c + 1 + (l.length - nh) = (c + (l.length - nh)) + 1 from by omega]
      obtain ⟨i0, hi0, hun0, hmin⟩ := cnt_pos nh (by rw [hc]; omega)
      have hready0 : i0 ∈ Region.ready .any l.toArray listed := by
        have hlt : i0 < l.length := by omega
        refine mem_ready.2 ⟨hun0, l[i0], by simp [hlt], fun x hx hb => ?_⟩
        have hp : x.on ∈ pr l.toArray i0 := mem_pr.2 ⟨l[i0], by simp [hlt], x, hx, hb, rfl⟩
        have hpi := blt_eq.1 (hback i0 hi0 x.on hp)
        have h1 := hmin x.on hpi
        have hlt2 : x.on < listed.size := by rw [I.size]; omega
        simp only [Array.getD_eq_getD_getElem?, Array.getElem?_eq_getElem hlt2, Option.getD_some] at h1 ⊢
        exact h1
      refine ⟨fun h => (by rw [h] at hready0; cases hready0), fun i hi => ?_⟩
      obtain ⟨hun, o, hoi, _⟩ := mem_ready.1 hi
      have hoi' : l[i]? = some o := by simpa using hoi
      have hlt : i < l.length := (List.getElem?_eq_some_iff.1 hoi').1
      have hin : i < nh := by
        rcases Nat.lt_or_ge i nh with h | h
        · exact h
        · exfalso
          have htl' : nh < l.length ∧ Region.sinkB .any l.toArray nh = true ∧ Region.chainB .any l.toArray nh = true := by
            simp only [Bool.or_eq_true, Bool.and_eq_true] at htl
            rcases htl with h1 | ⟨⟨h1, h2⟩, h3⟩
            · have := Nat.eq_of_beq_eq_true h1; omega
            · exact ⟨blt_eq.1 h1, h2, h3⟩
          have hinv : HeadInv .any l.toArray nh listed := ⟨by simp [I.size], fun j oj hj hl x hx hb => I.closed j hl x.on (mem_pr.2 ⟨oj, hj, x, hx, hb, rfl⟩), fun t h1 h2 => I.tail t h1 (by simpa using h2)⟩
          exact tail_waits htl'.2.1 htl'.2.2 (by simpa using htl'.1) hinv _ i0 rfl hi0 hun0 i h hi
      have hpr := ready_pr hi
      have hag : ∀ s, agB l nh soft i s = true → e' s = eV s := fun s hs => by
        simp only [agB, Bool.or_eq_true, Bool.not_eq_true', List.any_eq_true, Bool.and_eq_true, beq_iff_eq] at hs
        rcases hs with hs | ⟨j, hj, ⟨hjn, hjs⟩, hd⟩
        · exact I.base s hs
        · exact I.fact j s (blt_eq.1 hjn) (hpr j hj) hjs hd
      have hselO : ∀ cs b, o.op ≠ .select cs b := fun cs b => Region.noSelect_spec hsel i o cs b hoi
      have hinsO : inside n o.dst = true := hins o (List.mem_of_getElem? hoi')
      have hgO : ∀ j b d, o.guard = some (j, b) → dstOf l.toArray j = some d → e' d = eV d := fun j b d hgj hd => by
        have := hgd i hin
        simp only [hoi', hgj, Bool.and_eq_true, Bool.not_eq_true', List.contains_eq_mem, decide_eq_true_eq] at this
        exact I.fact j d (blt_eq.1 this.1.2) (hpr j this.1.1) (by simpa using this.2) hd
      have hwE : wantedE l.toArray e' o.guard = wantedE l.toArray eV o.guard := wantedE_congr hgO
      have hcnt : cnt (listed.setIfInBounds i true) nh = c := by
        have := cnt_set hun nh
        rw [if_pos hin, hc] at this
        omega
      have hwp : ∀ (K : Act → World → Prop), wpOpIn (Fw none) 0 P l.toArray (UpD D n Q) i K a w' = if Region.wanted o (yielded l.toArray a.tmps) then o.wpIn (Fw none) 0 P a w' K (UpD D n Q) else (∀ f, o.about P w' a.eval = some f → (Fw none).fn f) ∧ K (a.put o.dst undef) w' := fun K => by
        unfold wpOpIn; rw [hoi]
      rw [hwp, rD.wanted, hwE]
      rcases ho.at_ i o (by rw [htk i hin]; exact hoi') with ⟨hns, hpl⟩ | ⟨t, hti, hsp⟩
      · rw [Nat.zero_add] at hns
        have hnsp : ∀ t s, sp[t]? = some s → s ≠ i := fun t s hs h => by
          subst h
          have := List.mem_of_getElem? hs
          simp [this] at hns
        have hvi : ∀ d, o.dst = some d → V.getD i undef = eV d := fun d hd => (eVat i o d hin hoi' hd).symm
        have hsd : ∀ v, slots.map (updo e' o.dst v) = slots.map e' := fun v => by
          cases hd : o.dst with
          | none => rfl
          | some d =>
            refine List.map_congr_left fun s hs => upd_ne e' v fun h => ?_
            subst h
            have := hsl i hin
            have h2 : dstOf l.toArray i = some s := by simp [dstOf, hoi', hd]
            rw [h2] at this
            simp only [hns, Bool.false_or, Bool.not_eq_true', List.contains_eq_mem, decide_eq_false_iff_not] at this
            exact this hs
        have hmk : ∀ t s, sp[t]? = some s → M.testBit t = (M.testBit t || decide (s = i)) := fun t s hs => by simp [hnsp t s hs]
        rcases hpl with ⟨hw, hd⟩ | ⟨hw, hv⟩
        · rw [hw, if_pos rfl]
          have hd' : Dn P o e' w' fun v' w'' => v' = V.getD i undef ∧ Keep w' w'' := Dn_congr hselO (fun s hs => ?_) (hd w' (hB _ _ _ I.st))
          · refine hd'.wpD rD.eval ?_
            rintro v w'' ⟨rfl, hk⟩
            refine ih _ M _ _ w'' ((put_defers _ _ _).trans hD) (az_put a _ _ ▸ I.next hnd' hnl hin hoi' hi hinsO (fun _ => hvi) I.mlt hmk ?_) hcnt
            rw [hsd]; exact hK _ _ _ _ hk I.st
          · have := hop i hin
            simp only [hns, Bool.false_or, hoi', List.all_eq_true] at this
            exact (hag s (this s hs)).symm
        · rw [hw, if_neg (by simp)]
          refine ⟨fun _ _ => trivial, ih _ M _ _ w' ((put_defers _ _ _).trans hD) (az_put a _ _ ▸ I.next hnd' hnl hin hoi' hi hinsO (fun _ d hd => by rw [← hv]; exact hvi d hd) I.mlt hmk ?_) hcnt⟩
          rw [hsd]; exact I.st
      · rw [Nat.zero_add] at hti hsp
        have hun' : M.testBit t = false := by rw [I.mask t i hti]; exact getD_both hun
        obtain ⟨hw, hd⟩ := hsp M e' w' I.mlt hun' (fun t' s hs hp => by rw [I.mask t' s hs]; exact hpr s hp) (fun t' s hs hb hp => by
          rw [I.mask t' s hs] at hb
          have := I.closed s hb i hp
          rw [getD_both hun] at this; cases this) hag I.st
        rw [hw, if_pos rfl]
        refine hd.wpD rD.eval ?_
        rintro v w'' ⟨hvs, hY⟩
        have htlt : t < sp.length := (List.getElem?_eq_some_iff.1 hti).1
        refine ih _ (M ||| 2 ^ t) _ _ w'' ((put_defers _ _ _).trans hD) (az_put a _ _ ▸ I.next hnd' hnl hin hoi' hi hinsO (fun h => by rcases hvs with hvs | hvs; rw [h] at hvs; cases hvs; exact hvs) (Nat.or_lt_two_pow I.mlt (Nat.pow_lt_pow_right (by omega) htlt)) (fun t' s hs => ?_) hY) hcnt
        rw [Nat.testBit_or, Nat.testBit_two_pow]
        congr 1
        rw [decide_eq_decide]
        constructor
        · rintro rfl
          rw [hti] at hs; exact (Option.some.inj hs).symm
        · rintro rfl
          exact (List.getElem?_inj htlt hsn').1 (hti.trans hs.symm)
  have hinv0 : Inv P n l nh sp soft slots eV Y (Array.replicate l.toArray.size false) 0 (az a) e { w with drawn := w.drawn + 1 } := by
    refine ⟨ha.rep, by simp, fun j hj => (by rw [getD_replicate_false] at hj; cases hj), fun t _ h2 => ?_, fun j d _ hl => (by rw [getD_replicate_false] at hl; cases hl), eVbase, Nat.two_pow_pos _, fun t s hs => ?_, ?_⟩
    · have h3 : (Array.replicate l.length false)[t]? = some false := by simp [h2]
      simp [h3]
    · rw [getD_replicate_false]; simp
    · exact hK _ _ _ _ (Keep.drew w) h0
  have := key nh (Array.replicate l.toArray.size false) 0 a e _ ha.defers hinv0 (cnt_new _ nh (by simpa using hnl))
  rwa [show nh + (l.length - nh) = l.toArray.size from by simp; omega] at this
end
section
variable {ro : Option Nat} {D : List Deferred} {P : Program} {n : Nat} {e : Env} {w w0 : World} {S : List Nat} {Q : Exit → Env → World → Prop}
theorem WI_anyS {id : Nat} {l : List Oper} (nh : Nat) (sp soft slots : List Nat) (V : List Value) (B : World → Prop) (Ys : List (List Value → World → Prop))
    (hm : P.follows .mixedOrders = true) (hok : anyOk n l nh sp soft slots = true)
    (hB : AllP (fun y => ∀ vs w, y vs w → B w) Ys) (hK : AllP (fun y => ∀ vs w w', Keep w w' → y vs w → y vs w') Ys)
    (h0 : yOf Ys 0 (slots.map e) w)
    (ho : Owed P l nh sp soft slots (ovl e (l.take nh) V) B (yOf Ys) 0 (l.take nh) V)
    (ht : ∀ e' w', (∀ s, agT l nh soft s = true → e' s = ovl e (l.take nh) V s) → yOf Ys (2 ^ sp.length - 1) (slots.map e') w' → LI none D P n l.toArray Q (l.drop nh) e' w') :
    WI none D P n (.region id l.toArray true) Q e w :=
  WI_any nh sp soft slots V B (yOf Ys) hm hok (fun M => yOf_all (p := fun y => ∀ vs w, y vs w → B w) hB (fun _ _ h => h.elim) M) (fun M => yOf_all (p := fun y => ∀ vs w w', Keep w w' → y vs w → y vs w') hK (fun _ _ _ _ h => h.elim) M) h0 ho ht
theorem WI_quiet {id : Nat} {l : List Oper} {l0 : List Ent} (H : Hp w0 S w l0) (nh : Nat) (V : List Value)
    (hm : P.follows .mixedOrders = true) (hok : anyOk n l nh [] [] [] = true)
    (ho : Owed P l nh [] [] [] (ovl e (l.take nh) V) (fun w => Hp w0 S w l0) (yOf [fun _ w => Hp w0 S w l0]) 0 (l.take nh) V)
    (ht : ∀ e' w', (∀ s, agT l nh [] s = true → e' s = ovl e (l.take nh) V s) → Hp w0 S w' l0 → LI none D P n l.toArray Q (l.drop nh) e' w') :
    WI none D P n (.region id l.toArray true) Q e w :=
  WI_anyS nh [] [] [] V (fun w => Hp w0 S w l0) [fun _ w => Hp w0 S w l0] hm hok ⟨fun _ _ h => h, trivial⟩ ⟨fun _ _ _ hk h => h.keep hk, trivial⟩ H ho ht
end
theorem Seen.blkq {w0 : World} {X : List Ent} {k : IntKind} {l : List Nat} {m b i q : Nat} {bt : TypeId} (hi : X[i]? = some (.blk b bt (ua k l))) (hl : l.length = m) (hq : q ≤ m) : Seen w0 X k (some ⟨b, 0, none⟩) q m (l.take q) :=
  fun _ _ h2 => ua_sl (Hp.self (h2 _ (List.mem_of_getElem? hi))) (i := 0) rfl hl hq
end Go.Ev
