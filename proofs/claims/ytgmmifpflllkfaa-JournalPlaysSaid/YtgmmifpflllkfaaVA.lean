/- Own words for walks: a region that draws its order: a head in whatever order, a tail in the text's order. -/
import Derived.Test.YtgmmifpflllkfaaV4
import Derived.StillTail
namespace Go.Ev

def pr (ops : Array Oper) (i : Nat) : List Nat :=
  match ops[i]? with
  | some o => (o.after.toList.filter (Region.binds .any)).map (·.on)
  | none => []
def dstOf (ops : Array Oper) (i : Nat) : Option Nat := (ops[i]?).bind (·.dst)
def headDsts (l : List Oper) (nh : Nat) : List Nat := (l.take nh).filterMap (·.dst)
/-- Slot t may be asked for by operation i: none of the head writes it, or a plain one that comes before i does. -/
def agB (l : List Oper) (nh : Nat) (sp : List Nat) (i t : Nat) : Bool :=
  !(headDsts l nh).contains t || (pr l.toArray i).any fun j => Nat.blt j nh && !sp.contains j && dstOf l.toArray j == some t
def opTmps (o : Oper) : List Nat := o.op.operands.toList.filterMap fun | .tmp t => some t | _ => none
def headDone (N nh : Nat) : Array Bool := (Array.range N).map fun i => Nat.blt i nh
def nodupB : List Nat → Bool
  | [] => true
  | a :: l => !l.contains a && nodupB l

def anyOk (n : Nat) (l : List Oper) (nh : Nat) (sp soft slots : List Nat) : Bool :=
  Region.noSelect l.toArray && Nat.ble nh l.length &&
  ((List.range nh).all fun i => (pr l.toArray i).all fun p => Nat.blt p i) &&
  (l.all fun o => inside n o.dst) &&
  nodupB (headDsts l nh) && nodupB sp && (sp.all fun s => Nat.blt s nh) &&
  ((List.range nh).all fun i => sp.contains i || match dstOf l.toArray i with | some d => !slots.contains d | none => true) &&
  ((List.range nh).all fun i => sp.contains i || match l[i]? with | some o => (opTmps o).all (agB l nh soft i) | none => true) &&
  ((List.range nh).all fun i => match l[i]? with
    | some o => (match o.guard with | none => true | some (j, _) => (pr l.toArray i).contains j && Nat.blt j nh && !soft.contains j)
    | none => true) &&
  (Nat.beq nh l.length || (Nat.blt nh l.length && Region.sinkB .any l.toArray nh && Region.chainB .any l.toArray nh)) &&
  Region.seqB .any l.toArray (l.length - nh) nh (headDone l.length nh)

/-- The head's values laid into a frame. -/
def ovl (e : Env) : List Oper → List Value → Env
  | o :: ops, v :: vs => ovl (updo e o.dst v) ops vs
  | _, _ => e

theorem ovl_other : ∀ (ops : List Oper) (vs : List Value) (e : Env) (s : Nat), (∀ o ∈ ops, o.dst ≠ some s) → ovl e ops vs s = e s
  | [], _, _, _, _ => by simp [ovl]
  | o :: ops, [], _, _, _ => by simp [ovl]
  | o :: ops, v :: vs, e, s, h => by
    rw [ovl, ovl_other ops vs _ s (fun o' ho' => h o' (by simp [ho']))]
    have h1 := h o (by simp)
    cases hd : o.dst with
    | none => rfl
    | some d => exact upd_ne e v (fun hs => h1 (by rw [hd, hs]))

theorem blt_eq {a b : Nat} : Nat.blt a b = true ↔ a < b := by rw [Nat.blt_eq]
theorem nodupB_spec : ∀ {l : List Nat}, nodupB l = true → l.Nodup
  | [], _ => by simp
  | a :: l, h => by
    simp only [nodupB, Bool.and_eq_true, Bool.not_eq_true', List.contains_eq_mem, decide_eq_false_iff_not] at h
    exact List.nodup_cons.2 ⟨h.1, nodupB_spec h.2⟩

theorem ovl_at : ∀ (ops : List Oper) (vs : List Value) (e : Env) (j : Nat) (o : Oper) (d : Nat), (ops.filterMap (·.dst)).Nodup → ops.length ≤ vs.length → ops[j]? = some o → o.dst = some d → ovl e ops vs d = vs.getD j undef
  | [], _, _, j, _, _, _, _, h, _ => by simp at h
  | o' :: ops, [], _, _, _, _, _, hl, _, _ => by simp at hl
  | o' :: ops, v :: vs, e, j, o, d, hn, hl, h, hd => by
    have hn' : (ops.filterMap (·.dst)).Nodup := by
      cases hd' : o'.dst with
      | none => simpa [hd'] using hn
      | some d' => simp [hd'] at hn; exact hn.2
    cases j with
    | zero =>
      simp at h
      subst h
      rw [ovl, ovl_other]
      · simp [updo, hd, upd_same]
      · intro o'' ho'' hdd
        simp [hd] at hn
        exact hn.1 o'' ho'' hdd
    | succ j =>
      rw [ovl]
      rw [ovl_at ops vs _ j o d hn' (by simpa using hl) (by simpa using h) hd]
      simp

def cnt (listed : Array Bool) : Nat → Nat
  | 0 => 0
  | k + 1 => cnt listed k + (bif listed.getD k true then 0 else 1)
theorem cnt_set {listed : Array Bool} {i : Nat} (h : listed.getD i true = false) : ∀ k, cnt (listed.setIfInBounds i true) k + (if i < k then 1 else 0) = cnt listed k
  | 0 => by simp [cnt]
  | k + 1 => by
    have ih := cnt_set h k
    have hlt : i < listed.size := by
      rcases Nat.lt_or_ge i listed.size with h' | h'
      · exact h'
      · simp [Array.getElem?_eq_none h'] at h
    simp only [cnt]
    by_cases hik : i = k
    · subst hik
      have h1 : (listed.setIfInBounds i true).getD i true = true := by simp [hlt]
      rw [h1, h]
      simp at ih ⊢
      omega
    · rw [getD_set_ne true hik]
      rcases Nat.lt_or_ge i k with h' | h'
      · rw [if_pos h'] at ih; rw [if_pos (by omega)]; omega
      · rw [if_neg (by omega)] at ih; rw [if_neg (by omega)]; omega
theorem cnt_zero {listed : Array Bool} : ∀ k, cnt listed k = 0 → ∀ i, i < k → listed.getD i true = true
  | 0, _, _, h => absurd h (by omega)
  | k + 1, h, i, hi => by
    simp only [cnt] at h
    by_cases hik : i = k
    · subst hik
      cases hb : listed.getD i true with
      | true => rfl
      | false => rw [hb] at h; simp at h
    · exact cnt_zero k (by omega) i (by omega)
theorem cnt_pos {listed : Array Bool} : ∀ k, 0 < cnt listed k → ∃ i, i < k ∧ listed.getD i true = false ∧ ∀ p, p < i → listed.getD p true = true
  | 0, h => by simp [cnt] at h
  | k + 1, h => by
    simp only [cnt] at h
    rcases Nat.eq_zero_or_pos (cnt listed k) with h0 | h0
    · refine ⟨k, by omega, ?_, fun p hp => cnt_zero k h0 p hp⟩
      cases hb : listed.getD k true with
      | false => rfl
      | true => rw [hb, h0] at h; simp at h
    · obtain ⟨i, hi, h1, h2⟩ := cnt_pos k h0
      exact ⟨i, by omega, h1, h2⟩
theorem cnt_new (m : Nat) : ∀ k, k ≤ m → cnt (Array.replicate m false) k = k
  | 0, _ => rfl
  | k + 1, h => by
    simp only [cnt]
    rw [cnt_new m k (by omega)]
    have : (Array.replicate m false).getD k true = false := by
      have h' : k < m := h
      simp [h']
    rw [this]; rfl

section
variable {P : Program} {n : Nat} {Q : Exit → Env → World → Prop} {e : Env} {w : World}

/-- What a plain operation owes: its value, in every world of B. -/
def Plain (P : Program) (ops : Array Oper) (eV : Env) (B : World → Prop) (o : Oper) (v : Value) : Prop :=
  (wantedE ops eV o.guard = true ∧ ∀ w, B w → Dn P o eV w fun v' w' => v' = v ∧ Keep w w') ∨ (wantedE ops eV o.guard = false ∧ v = undef)
/-- What a special one owes: it takes the state of the specials on. -/
def Special (P : Program) (l : List Oper) (nh : Nat) (sp soft slots : List Nat) (eV : Env) (Y : Nat → List Value → World → Prop) (i t : Nat) (o : Oper) : Prop :=
  ∀ M e' w', M < 2 ^ sp.length → M.testBit t = false → (∀ t' s, sp[t']? = some s → s ∈ pr l.toArray i → M.testBit t' = true) → (∀ t' s, sp[t']? = some s → M.testBit t' = true → i ∉ pr l.toArray s) →
    (∀ s, agB l nh soft i s = true → e' s = eV s) → Y M (slots.map e') w' →
    wantedE l.toArray eV o.guard = true ∧ Dn P o e' w' fun v w'' => (soft.contains i = true ∨ ∀ d, o.dst = some d → v = eV d) ∧ Y (M ||| 2 ^ t) (slots.map (updo e' o.dst v)) w''

/-- All operations of the head, in order. -/
inductive Owed (P : Program) (l : List Oper) (nh : Nat) (sp soft slots : List Nat) (eV : Env) (B : World → Prop) (Y : Nat → List Value → World → Prop) : Nat → List Oper → List Value → Prop where
  | nil (k : Nat) : Owed P l nh sp soft slots eV B Y k [] []
  | plain {k : Nat} {o : Oper} {ops : List Oper} {v : Value} {vs : List Value} (hn : sp.contains k = false) (h : Plain P l.toArray eV B o v) (r : Owed P l nh sp soft slots eV B Y (k + 1) ops vs) : Owed P l nh sp soft slots eV B Y k (o :: ops) (v :: vs)
  | special {k : Nat} (t : Nat) {o : Oper} {ops : List Oper} {v : Value} {vs : List Value} (ht : sp[t]? = some k) (h : Special P l nh sp soft slots eV Y k t o) (r : Owed P l nh sp soft slots eV B Y (k + 1) ops vs) : Owed P l nh sp soft slots eV B Y k (o :: ops) (v :: vs)

theorem Owed.len {l : List Oper} {nh : Nat} {sp soft slots : List Nat} {eV : Env} {B : World → Prop} {Y : Nat → List Value → World → Prop} {k : Nat} {ops : List Oper} {vs : List Value} (h : Owed P l nh sp soft slots eV B Y k ops vs) : ops.length = vs.length := by
  induction h with
  | nil => rfl
  | plain _ _ _ ih => simp [ih]
  | special _ _ _ _ ih => simp [ih]
theorem Owed.at_ {l : List Oper} {nh : Nat} {sp soft slots : List Nat} {eV : Env} {B : World → Prop} {Y : Nat → List Value → World → Prop} {k : Nat} {ops : List Oper} {vs : List Value} (h : Owed P l nh sp soft slots eV B Y k ops vs) :
    ∀ i o, ops[i]? = some o → (sp.contains (k + i) = false ∧ Plain P l.toArray eV B o (vs.getD i undef)) ∨ ∃ t, sp[t]? = some (k + i) ∧ Special P l nh sp soft slots eV Y (k + i) t o := by
  induction h with
  | nil => intro i o h; simp at h
  | @plain k o ops v vs hn h r ih =>
    intro i o' hi
    cases i with
    | zero => simp at hi; subst hi; exact .inl ⟨hn, h⟩
    | succ i =>
      have e1 : k + (i + 1) = k + 1 + i := by omega
      rw [e1]
      rcases ih i o' (by simpa using hi) with h1 | h1
      · exact .inl (by simpa using h1)
      · exact .inr h1
  | @special k t o ops v vs ht h r ih =>
    intro i o' hi
    cases i with
    | zero => simp at hi; subst hi; exact .inr ⟨t, ht, h⟩
    | succ i =>
      have e1 : k + (i + 1) = k + 1 + i := by omega
      rw [e1]
      rcases ih i o' (by simpa using hi) with h1 | h1
      · exact .inl (by simpa using h1)
      · exact .inr h1

def agT (l : List Oper) (nh : Nat) (sp : List Nat) (s : Nat) : Bool :=
  !(headDsts l nh).contains s || (List.range nh).any fun j => !sp.contains j && dstOf l.toArray j == some s

structure Inv (P : Program) (n : Nat) (l : List Oper) (nh : Nat) (sp soft slots : List Nat) (eV : Env) (Y : Nat → List Value → World → Prop) (listed : Array Bool) (M : Nat) (a : Act) (e' : Env) (w' : World) : Prop where
  rep : Rep n a e'
  size : listed.size = l.length
  closed : ∀ j, listed.getD j false = true → ∀ p ∈ pr l.toArray j, listed.getD p false = true
  tail : ∀ t, nh ≤ t → t < l.length → listed.getD t true = false
  fact : ∀ j d, j < nh → listed.getD j false = true → soft.contains j = false → dstOf l.toArray j = some d → e' d = eV d
  base : ∀ s, (headDsts l nh).contains s = false → e' s = eV s
  mlt : M < 2 ^ sp.length
  mask : ∀ t s, sp[t]? = some s → M.testBit t = listed.getD s false
  st : Y M (slots.map e') w'

theorem mem_pr {ops : Array Oper} {i p : Nat} : p ∈ pr ops i ↔ ∃ o, ops[i]? = some o ∧ ∃ x ∈ o.after, Region.binds .any x = true ∧ x.on = p := by
  unfold pr
  cases ops[i]? with
  | none => simp
  | some o => simp [and_assoc]

theorem ready_pr {ops : Array Oper} {listed : Array Bool} {i : Nat} (h : i ∈ Region.ready .any ops listed) : ∀ p ∈ pr ops i, listed.getD p false = true := by
  intro p hp
  obtain ⟨_, o, ho, hall⟩ := mem_ready.1 h
  obtain ⟨o', ho', x, hx, hb, rfl⟩ := mem_pr.1 hp
  have : o' = o := Option.some.inj (ho'.symm.trans ho)
  subst this
  exact hall x hx hb

theorem wantedE_congr {ops : Array Oper} {e e' : Env} {g : Option (Nat × Bool)} (h : ∀ j b d, g = some (j, b) → dstOf ops j = some d → e d = e' d) : wantedE ops e g = wantedE ops e' g := by
  unfold wantedE
  cases g with
  | none => rfl
  | some p =>
    obtain ⟨j, b⟩ := p
    simp only []
    cases hd : (ops[j]?).bind (·.dst) with
    | none => rfl
    | some d => simp only [h j b d rfl hd]

theorem Dn_congr {o : Oper} {e e' : Env} {R : Value → World → Prop} (hs : ∀ cs b, o.op ≠ .select cs b) (h : ∀ t ∈ opTmps o, e t = e' t) (hd : Dn P o e w R) : Dn P o e' w R := by
  unfold Dn at *
  have : execOp (ev e') o = execOp (ev e) o := execOp_congr o hs fun x hx => by
    cases x with
    | tmp t => exact (h t (by simp only [opTmps, List.mem_filterMap]; exact ⟨.tmp t, Array.mem_toList_iff.2 hx, rfl⟩)).symm
    | const v => rfl
    | global g => rfl
    | func f => rfl
  rw [this]; exact hd

theorem set_getD {listed : Array Bool} {i j : Nat} (hi : i < listed.size) (d : Bool) : (listed.setIfInBounds i true).getD j d = if j = i then true else listed.getD j d := by
  by_cases h : j = i
  · subst h; simp [hi]
  · rw [if_neg h, getD_set_ne d (Ne.symm h)]

/-- The next state of the invariant but for what the state of the specials says. -/
theorem Inv.next {l : List Oper} {nh : Nat} {sp soft slots : List Nat} {eV : Env} {Y : Nat → List Value → World → Prop} {listed : Array Bool} {M M' : Nat} {a : Act} {e' : Env} {w' w'' : World} {i : Nat} {o : Oper} {v : Value}
    (I : Inv P n l nh sp soft slots eV Y listed M a e' w') (hnd : (headDsts l nh).Nodup) (hnl : nh ≤ l.length) (hi : i < nh) (ho : l[i]? = some o) (hr : i ∈ Region.ready .any l.toArray listed) (hins : inside n o.dst = true)
    (hv : soft.contains i = false → ∀ d, o.dst = some d → v = eV d) (hM : M' < 2 ^ sp.length) (hmask : ∀ t s, sp[t]? = some s → M'.testBit t = (M.testBit t || decide (s = i))) (hY : Y M' (slots.map (updo e' o.dst v)) w'') :
    Inv P n l nh sp soft slots eV Y (listed.setIfInBounds i true) M' (a.put o.dst v) (updo e' o.dst v) w'' := by
  have hsz : i < listed.size := by rw [I.size]; omega
  have hdi : dstOf l.toArray i = o.dst := by simp [dstOf, ho]
  have other : ∀ s, o.dst ≠ some s → updo e' o.dst v s = e' s := fun s hs => by
    cases hd : o.dst with
    | none => rfl
    | some d => exact upd_ne e' v (fun h => hs (by rw [hd, h]))
  have memD : ∀ j d, j < nh → dstOf l.toArray j = some d → d ∈ headDsts l nh := fun j d hj hd => by
    obtain ⟨oj, hoj, hdj⟩ : ∃ oj, l[j]? = some oj ∧ oj.dst = some d := by
      unfold dstOf at hd
      cases hoj : l[j]? with
      | none => simp [hoj] at hd
      | some oj => exact ⟨oj, rfl, by simpa [hoj] using hd⟩
    exact List.mem_filterMap.2 ⟨oj, List.mem_of_getElem? (by rw [List.getElem?_take, if_pos hj]; exact hoj), hdj⟩
  have uniq : ∀ j d, j < nh → dstOf l.toArray j = some d → o.dst = some d → j = i := fun j d hj hd hod => by
    have key : ∀ (l : List Oper) (i j : Nat) (oi oj : Oper), (l.filterMap (·.dst)).Nodup → l[i]? = some oi → l[j]? = some oj → oi.dst = some d → oj.dst = some d → j = i := by
      intro l
      induction l with
      | nil => intro i j oi oj _ h; simp at h
      | cons x l ih =>
        intro i j oi oj hn h1 h2 d1 d2
        have hn' : (l.filterMap (·.dst)).Nodup := by
          cases hd' : x.dst with
          | none => simpa [hd'] using hn
          | some d' => simp [hd'] at hn; exact hn.2
        cases i with
        | zero =>
          cases j with
          | zero => rfl
          | succ j =>
            simp at h1; subst h1
            simp [d1] at hn
            exact absurd d2 (hn.1 oj (List.mem_of_getElem? (by simpa using h2)))
        | succ i =>
          cases j with
          | zero =>
            simp at h2; subst h2
            simp [d2] at hn
            exact absurd d1 (hn.1 oi (List.mem_of_getElem? (by simpa using h1)))
          | succ j => rw [ih i j oi oj hn' (by simpa using h1) (by simpa using h2) d1 d2]
    obtain ⟨oj, hoj, hdj⟩ : ∃ oj, l[j]? = some oj ∧ oj.dst = some d := by
      unfold dstOf at hd
      cases hoj : l[j]? with
      | none => simp [hoj] at hd
      | some oj => exact ⟨oj, rfl, by simpa [hoj] using hd⟩
    exact key (l.take nh) i j o oj hnd (by rw [List.getElem?_take, if_pos hi]; exact ho) (by rw [List.getElem?_take, if_pos hj]; exact hoj) hod hdj
  refine ⟨I.rep.put hins v, by simp [I.size], ?_, ?_, ?_, ?_, hM, ?_, hY⟩
  · intro j hj p hp
    rw [set_getD hsz] at hj ⊢
    split
    · rfl
    · by_cases hji : j = i
      · subst hji; exact ready_pr hr p hp
      · rw [if_neg hji] at hj; exact I.closed j hj p hp
  · intro t h1 h2
    rw [set_getD hsz, if_neg (by omega)]
    exact I.tail t h1 h2
  · intro j d hj hl hs hd
    by_cases hji : j = i
    · subst hji
      have hod : o.dst = some d := hdi.symm.trans hd
      rw [hod]
      show upd e' d v d = eV d
      rw [upd_same]
      exact hv hs d hod
    · rw [set_getD hsz, if_neg hji] at hl
      rw [other d (fun h => hji (uniq j d hj hd h))]
      exact I.fact j d hj hl hs hd
  · intro s hs
    rw [other s (fun h => ?_)]
    · exact I.base s hs
    · have := memD i s hi (hdi.trans h)
      simp [this] at hs
  · intro t s hs
    rw [hmask t s hs, I.mask t s hs, set_getD hsz]
    by_cases h : s = i
    · simp [h]
    · simp [h]

theorem W_any {id : Nat} {l : List Oper} (nh : Nat) (sp soft slots : List Nat) (V : List Value) (B : World → Prop) (Y : Nat → List Value → World → Prop)
    (hm : P.follows .mixedOrders = true) (hok : anyOk n l nh sp soft slots = true)
    (hB : ∀ M vs w, Y M vs w → B w) (hK : ∀ M vs w w', Keep w w' → Y M vs w → Y M vs w')
    (h0 : Y 0 (slots.map e) w)
    (ho : Owed P l nh sp soft slots (ovl e (l.take nh) V) B Y 0 (l.take nh) V)
    (ht : ∀ e' w', (∀ s, agT l nh soft s = true → e' s = ovl e (l.take nh) V s) → Y (2 ^ sp.length - 1) (slots.map e') w' → L P n l.toArray Q (l.drop nh) e' w') :
    W P n (.region id l.toArray true) Q e w := by
  intro a ha
  simp only [anyOk, Bool.and_eq_true, List.all_eq_true, List.mem_range, Nat.ble_eq] at hok
  obtain ⟨⟨⟨⟨⟨⟨⟨⟨⟨⟨⟨hsel, hnl⟩, hback⟩, hins⟩, hnd⟩, hsn⟩, hsb⟩, hsl⟩, hop⟩, hgd⟩, htl⟩, hseq⟩ := hok
  have hnd' := nodupB_spec hnd
  have hsn' := nodupB_spec hsn
  have hVl : (l.take nh).length = V.length := ho.len
  have htk : ∀ i, i < nh → (l.take nh)[i]? = l[i]? := fun i hi => by rw [List.getElem?_take, if_pos hi]
  -- the values of the head
  have eVat : ∀ j o d, j < nh → l[j]? = some o → o.dst = some d → ovl e (l.take nh) V d = V.getD j undef := fun j o d hj hoj hd =>
    ovl_at (l.take nh) V e j o d hnd' (by omega) (by rw [htk j hj]; exact hoj) hd
  have eVbase : ∀ s, (headDsts l nh).contains s = false → e s = ovl e (l.take nh) V s := fun s hs => by
    rw [ovl_other]
    intro o hm hd
    have : s ∈ headDsts l nh := List.mem_filterMap.2 ⟨o, hm, hd⟩
    simp [this] at hs
  generalize hev : ovl e (l.take nh) V = eV at *
  refine wp_region_any hm ?_
  have key : ∀ (c : Nat) (listed : Array Bool) (M : Nat) (a : Act) (e' : Env) (w' : World), Inv P n l nh sp soft slots eV Y listed M a e' w' → cnt listed nh = c →
      wpAny P .any l.toArray (Up n Q) (c + (l.length - nh)) listed a w' := by
    intro c
    induction c with
    | zero =>
      intro listed M a e' w' I hc
      have hall := cnt_zero nh hc
      have hdone : listed = headDone l.length nh := by
        refine Array.ext (by simp [headDone, I.size]) fun i h1 h2 => ?_
        have h1' : i < l.length := by rw [← I.size]; exact h1
        simp only [headDone, Array.getElem_map, Array.getElem_range]
        rcases Nat.lt_or_ge i nh with h | h
        · have := hall i h
          simp only [Array.getD_eq_getD_getElem?, Array.getElem?_eq_getElem h1, Option.getD_some] at this
          rw [this, blt_eq.2 h]
        · have := I.tail i h h1'
          simp only [Array.getD_eq_getD_getElem?, Array.getElem?_eq_getElem h1, Option.getD_some] at this
          rw [this]
          cases hb : Nat.blt i nh with
          | false => rfl
          | true => have := blt_eq.1 hb; omega
      have hM : M = 2 ^ sp.length - 1 := by
        apply Nat.eq_of_testBit_eq
        intro t
        rw [Nat.testBit_two_pow_sub_one]
        rcases Nat.lt_or_ge t sp.length with h | h
        · rw [I.mask t sp[t] (List.getElem?_eq_getElem h)]
          have hs := hsb sp[t] (List.getElem_mem h)
          have := hall sp[t] (blt_eq.1 hs)
          simp only [h, decide_true]
          have hlt : sp[t] < listed.size := by rw [I.size]; have := blt_eq.1 hs; omega
          simp only [Array.getD_eq_getD_getElem?, Array.getElem?_eq_getElem hlt, Option.getD_some] at this ⊢
          exact this
        · simp only [decide_eq_false (Nat.not_lt.2 h)]
          exact Nat.testBit_lt_two_pow (Nat.lt_of_lt_of_le I.mlt (Nat.pow_le_pow_right (by omega) h))
      rw [Nat.zero_add]
      have hL := ht e' w' (fun s hs => by
        simp only [agT, Bool.or_eq_true, Bool.not_eq_true', List.any_eq_true, List.mem_range, Bool.and_eq_true, beq_iff_eq] at hs
        rcases hs with hs | ⟨j, hj, hjs, hd⟩
        · exact I.base s hs
        · refine I.fact j s hj ?_ hjs hd
          have := hall j hj
          have hlt : j < listed.size := by rw [I.size]; omega
          simp only [Array.getD_eq_getD_getElem?, Array.getElem?_eq_getElem hlt, Option.getD_some] at this ⊢
          exact this) (hM ▸ I.st) a I.rep
      have hdl : (l.drop nh).length = l.length - nh := by simp
      have := wpAny_of_seq (md := .any) (Q' := Up n Q) (l.drop nh) nh listed a w' (fun j => by simp [List.getElem?_drop]) (by rw [hdl, hdone]; exact hseq) hL
      rwa [hdl] at this
    | succ c ih =>
      intro listed M a e' w' I hc
      rw [show c + 1 + (l.length - nh) = (c + (l.length - nh)) + 1 from by omega]
      obtain ⟨i0, hi0, hun0, hmin⟩ := cnt_pos nh (by rw [hc]; omega)
      have hready0 : i0 ∈ Region.ready .any l.toArray listed := by
        have hlt : i0 < l.length := by omega
        refine mem_ready.2 ⟨hun0, l[i0], by simp [hlt], fun x hx hb => ?_⟩
        have hp : x.on ∈ pr l.toArray i0 := mem_pr.2 ⟨l[i0], by simp [hlt], x, hx, hb, rfl⟩
        have hpi := blt_eq.1 (hback i0 hi0 x.on hp)
        have h1 := hmin x.on hpi
        have hlt2 : x.on < listed.size := by rw [I.size]; omega
        simp only [Array.getD_eq_getD_getElem?, Array.getElem?_eq_getElem hlt2, Option.getD_some] at h1 ⊢
        exact h1
      refine ⟨fun h => (by rw [h] at hready0; cases hready0), fun i hi => ?_⟩
      obtain ⟨hun, o, hoi, _⟩ := mem_ready.1 hi
      have hoi' : l[i]? = some o := by simpa using hoi
      have hlt : i < l.length := (List.getElem?_eq_some_iff.1 hoi').1
      have hin : i < nh := by
        rcases Nat.lt_or_ge i nh with h | h
        · exact h
        · exfalso
          have htl' : nh < l.length ∧ Region.sinkB .any l.toArray nh = true ∧ Region.chainB .any l.toArray nh = true := by
            simp only [Bool.or_eq_true, Bool.and_eq_true] at htl
            rcases htl with h1 | ⟨⟨h1, h2⟩, h3⟩
            · have := Nat.eq_of_beq_eq_true h1; omega
            · exact ⟨blt_eq.1 h1, h2, h3⟩
          have hinv : HeadInv .any l.toArray nh listed := ⟨by simp [I.size], fun j oj hj hl x hx hb => I.closed j hl x.on (mem_pr.2 ⟨oj, hj, x, hx, hb, rfl⟩), fun t h1 h2 => I.tail t h1 (by simpa using h2)⟩
          exact tail_waits htl'.2.1 htl'.2.2 (by simpa using htl'.1) hinv _ i0 rfl hi0 hun0 i h hi
      have hpr := ready_pr hi
      have hag : ∀ s, agB l nh soft i s = true → e' s = eV s := fun s hs => by
        simp only [agB, Bool.or_eq_true, Bool.not_eq_true', List.any_eq_true, Bool.and_eq_true, beq_iff_eq] at hs
        rcases hs with hs | ⟨j, hj, ⟨hjn, hjs⟩, hd⟩
        · exact I.base s hs
        · exact I.fact j s (blt_eq.1 hjn) (hpr j hj) hjs hd
      have hselO : ∀ cs b, o.op ≠ .select cs b := fun cs b => Region.noSelect_spec hsel i o cs b hoi
      have hinsO : inside n o.dst = true := hins o (List.mem_of_getElem? hoi')
      have hgO : ∀ j b d, o.guard = some (j, b) → dstOf l.toArray j = some d → e' d = eV d := fun j b d hgj hd => by
        have := hgd i hin
        simp only [hoi', hgj, Bool.and_eq_true, Bool.not_eq_true', List.contains_eq_mem, decide_eq_true_eq] at this
        exact I.fact j d (blt_eq.1 this.1.2) (hpr j this.1.1) (by simpa using this.2) hd
      have hwE : wantedE l.toArray e' o.guard = wantedE l.toArray eV o.guard := wantedE_congr hgO
      have hcnt : cnt (listed.setIfInBounds i true) nh = c := by
        have := cnt_set hun nh
        rw [if_pos hin, hc] at this
        omega
      have hwp : ∀ (K : Act → World → Prop), wpOp P l.toArray (Up n Q) i K a w' = if Region.wanted o (yielded l.toArray a.tmps) then o.wp P a w' K (Up n Q) ∨ (o.asks P a w' ∧ LetsOut (Up n Q)) else K (a.put o.dst undef) w' := fun K => by
        unfold wpOp; rw [hoi]
      rw [hwp, I.rep.wanted, hwE]
      rcases ho.at_ i o (by rw [htk i hin]; exact hoi') with ⟨hns, hpl⟩ | ⟨t, hti, hsp⟩
      · rw [Nat.zero_add] at hns
        have hnsp : ∀ t s, sp[t]? = some s → s ≠ i := fun t s hs h => by
          subst h
          have := List.mem_of_getElem? hs
          simp [this] at hns
        have hvi : ∀ d, o.dst = some d → V.getD i undef = eV d := fun d hd => (eVat i o d hin hoi' hd).symm
        have hsd : ∀ v, slots.map (updo e' o.dst v) = slots.map e' := fun v => by
          cases hd : o.dst with
          | none => rfl
          | some d =>
            refine List.map_congr_left fun s hs => upd_ne e' v fun h => ?_
            subst h
            have := hsl i hin
            have h2 : dstOf l.toArray i = some s := by simp [dstOf, hoi', hd]
            rw [h2] at this
            simp only [hns, Bool.false_or, Bool.not_eq_true', List.contains_eq_mem, decide_eq_false_iff_not] at this
            exact this hs
        have hmk : ∀ t s, sp[t]? = some s → M.testBit t = (M.testBit t || decide (s = i)) := fun t s hs => by simp [hnsp t s hs]
        rcases hpl with ⟨hw, hd⟩ | ⟨hw, hv⟩
        · rw [hw, if_pos rfl]
          refine .inl ?_
          have hd' : Dn P o e' w' fun v' w'' => v' = V.getD i undef ∧ Keep w' w'' := Dn_congr hselO (fun s hs => ?_) (hd w' (hB _ _ _ I.st))
          · refine hd'.wp I.rep.eval ?_
            rintro v w'' ⟨rfl, hk⟩
            refine ih _ M _ _ w'' (I.next hnd' hnl hin hoi' hi hinsO (fun _ => hvi) I.mlt hmk ?_) hcnt
            rw [hsd]; exact hK _ _ _ _ hk I.st
          · have := hop i hin
            simp only [hns, Bool.false_or, hoi', List.all_eq_true] at this
            exact (hag s (this s hs)).symm
        · rw [hw, if_neg (by simp)]
          refine ih _ M _ _ w' (I.next hnd' hnl hin hoi' hi hinsO (fun _ d hd => by rw [← hv]; exact hvi d hd) I.mlt hmk ?_) hcnt
          rw [hsd]; exact I.st
      · rw [Nat.zero_add] at hti hsp
        have hun' : M.testBit t = false := by rw [I.mask t i hti]; exact getD_both hun
        obtain ⟨hw, hd⟩ := hsp M e' w' I.mlt hun' (fun t' s hs hp => by rw [I.mask t' s hs]; exact hpr s hp) (fun t' s hs hb hp => by
          rw [I.mask t' s hs] at hb
          have := I.closed s hb i hp
          rw [getD_both hun] at this; cases this) hag I.st
        rw [hw, if_pos rfl]
        refine .inl (hd.wp I.rep.eval ?_)
        rintro v w'' ⟨hvs, hY⟩
        have htlt : t < sp.length := (List.getElem?_eq_some_iff.1 hti).1
        refine ih _ (M ||| 2 ^ t) _ _ w'' (I.next hnd' hnl hin hoi' hi hinsO (fun h => by rcases hvs with hvs | hvs; rw [h] at hvs; cases hvs; exact hvs) (Nat.or_lt_two_pow I.mlt (Nat.pow_lt_pow_right (by omega) htlt)) (fun t' s hs => ?_) hY) hcnt
        rw [Nat.testBit_or, Nat.testBit_two_pow]
        congr 1
        rw [decide_eq_decide]
        constructor
        · rintro rfl
          rw [hti] at hs; exact (Option.some.inj hs).symm
        · rintro rfl
          exact (List.getElem?_inj htlt hsn').1 (hti.trans hs.symm)
  have hinv0 : Inv P n l nh sp soft slots eV Y (Array.replicate l.toArray.size false) 0 a e { w with drawn := w.drawn + 1 } := by
    refine ⟨ha, by simp, fun j hj => (by rw [getD_replicate_false] at hj; cases hj), fun t _ h2 => ?_, fun j d _ hl => (by rw [getD_replicate_false] at hl; cases hl), eVbase, Nat.two_pow_pos _, fun t s hs => ?_, ?_⟩
    · have h3 : (Array.replicate l.length false)[t]? = some false := by simp [h2]
      simp [h3]
    · rw [getD_replicate_false]; simp
    · exact hK _ _ _ _ (Keep.drew w) h0
  have := key nh (Array.replicate l.toArray.size false) 0 a e _ hinv0 (cnt_new _ nh (by simpa using hnl))
  rwa [show nh + (l.length - nh) = l.toArray.size from by simp; omega] at this
end
end Go.Ev
