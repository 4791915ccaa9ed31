/- Own words for walks, fifteenth part: append of noughts (append(s, make(..)...)). -/
import Derived.Test.YtgmmifpflllkfaaV14
namespace Go.Ev

section
variable {P : Program} {e : Env} {w w0 w' : World} {S : List Nat} {es : List Ent} {d : Option Nat} {ty t t2 et : TypeId} {pos : String} {aft : Array Edge} {g : Option (Nat × Bool)} {x y : Operand} {v : Value}
variable {n z : Nat} {ops : Array Oper} {rest : List Oper} {Q : Exit → Env → World → Prop} {op : Op} {b0 : Nat} {k : IntKind} {a : Option Addr} {l : List Nat} {m c : Nat}

theorem zeroCells_ua (k : IntKind) (m : Nat) : Builtin.zeroCells (ua k [0]) m = ua k (List.replicate m 0) := by
  apply Array.ext
  · simp [Builtin.zeroCells, ua]
  · intro i h1 h2
    have : (ua k [0]).size = 1 := rfl
    simp [Builtin.zeroCells, ua, Nat.mod_one]

theorem run_app0 {p q : Nat} {kk kz : IntKind} {l1 : List Nat} (ho : (Ent.own v et 1 p (us k l1)).ok w) (hs : slOf P t = some (et, 1)) (ht2 : P.underlying t2 = some (.int kz)) (hz : zeroOf P et = some (ua k [0])) (hb : szOf P et = some 1)
    (hfit : p + q ≤ 4294967296) :
    ∃ v' w', (Builtin.append_ #[t, t2] ty #[v, .int kk (q : Int)]).run P w = .ok v' w' ∧ Hp w v.ownBlock.toList w' [.own v' et 1 (p + q) (us k (l1 ++ List.replicate q 0))] := by
  obtain ⟨hu, i, hi, hsz⟩ := slOf_eq hs
  unfold zeroOf at hz
  rw [hi] at hz
  simp only [szOf, hi, Option.map_some, Option.some.injEq] at hb
  have hwq : IntKind.i64.wrap (q : Int) = (q : Int) := IntWalk.i64_in _ (by omega)
  have hq0 : ¬ ((q : Int) < 0) := by omega
  cases hzz : i.zero with
  | none => simp [hzz] at hz
  | some zv =>
    simp [hzz] at hz
    have hlen : l1.length = p := by
      have := ho.1
      rwa [us_length, Nat.mul_one] at this
    have hnl : (us k (List.replicate q 0)).length = q := by rw [us_length, List.length_replicate]
    have tk : ∀ (r : Array Value), ((us k l1).toArray ++ ua k (List.replicate q 0) ++ r).toList.take ((p + q) * 1) = us k (l1 ++ List.replicate q 0) := fun r => by
      rw [Nat.mul_one, Array.toList_append, Array.toList_append, us_append]
      refine List.take_left' ?_
      simp [ua, us, hlen]
    have size_ : ∀ cap, p + q ≤ cap → ((us k l1).toArray ++ ua k (List.replicate q 0) ++ Builtin.zeroCells zv.cells (cap - (p + q))).size = cap * 1 := fun cap hcap => by
      rw [Array.size_append, Array.size_append, size_zeroCells, hz, List.size_toArray, us_length, ua_size, List.length_replicate, hlen, ua_size]
      simp; omega
    rcases ho.2 with ⟨rfl, rfl⟩ | ⟨b, cap, cur, rfl, _, hg, hnc, hcm, hcs, htk⟩
    · obtain rfl : l1 = [] := List.eq_nil_of_length_eq_zero hlen
      by_cases hq : q = 0
      · subst hq
        refine ⟨.slice none 0 0, w, ?_, (Keep.refl w).nilOwn et 1⟩
        have hw0 : IntKind.i64.wrap 0 = 0 := by decide
        simp [Builtin.append_, run_underlying hu, run_underlying ht2, sizeOf, typeInfo, hi, asInt, asIntOf, hw0, hsz]
      · have hn : q ≠ 0 := hq
        have h48 : ¬ (281474976710656 < (q : Int)) := by omega
        have h63' : ¬ (9223372036854775807 < (q : Int)) := by omega
        have h48' : ¬ (281474976710656 < Builtin.nextslicecap q 0) := by rw [nextslicecap_zero (by omega)]; omega
        have hr : (Builtin.append_ #[t, t2] ty #[.slice none 0 0, .int kk (q : Int)]).run P w = .ok (.slice (some ⟨w.heap.size, 0, none⟩) q (grownCap w q 0 et)) (w.drew.alloc (.cells (ua k (List.replicate q 0) ++ Builtin.zeroCells zv.cells (grownCap w q 0 et - q)) et)) := by
          simp [Builtin.append_, run_underlying hu, run_underlying ht2, sizeOf, typeInfo, zeroValue, hi, hzz, asInt, asIntOf, hwq, hq0, hb, hsz, hn, h48, h63', h48', Question.forced, run_firstCells_none, newRow, grownCap, hz, zeroCells_ua]
        have h2 := tk (Builtin.zeroCells zv.cells (grownCap w q 0 et - q))
        have h3 := size_ (grownCap w q 0 et) (by have := grownCap_ge w q 0 et; omega)
        simp only [Nat.zero_add] at h2 h3 ⊢
        have e0 : (us k []).toArray ++ ua k (List.replicate q 0) = ua k (List.replicate q 0) := by simp [us]
        rw [e0] at h2 h3
        exact ⟨_, _, hr, Hp.fresh w et (grownCap_ge w q 0 et) (grownCap_le_maxLen w q 0 et (by simp [maxLen]; omega)) h3 h2⟩
    · by_cases hroom : p + q ≤ cap
      · have hst := run_storeCells_at P b p et (us k (List.replicate q 0)) 0 cur w hg (by rw [hnl, hcs]; omega) (us_one k _)
        simp only [Nat.add_zero] at hst
        have h48 : ¬ (281474976710656 < (q : Int)) := by omega
        have hr : (Builtin.append_ #[t, t2] ty #[.slice (some ⟨b, 0, none⟩) p cap, .int kk (q : Int)]).run P w = .ok (.slice (some ⟨b, 0, none⟩) (p + q) cap) (w.setRow b (cur.toList.take p ++ us k (List.replicate q 0) ++ cur.toList.drop (p + (us k (List.replicate q 0)).length)).toArray) := by
          by_cases hq : q = 0
          · subst hq
            have hw0 : IntKind.i64.wrap 0 = 0 := by decide
            have e0 : (cur.toList.take p ++ us k (List.replicate 0 0) ++ cur.toList.drop (p + (us k (List.replicate 0 0)).length)).toArray = cur := by simp [us]
            rw [e0, setRow_self w b cur et (0, 0) hg]
            simp only [Nat.add_zero] at hroom
            simp [Builtin.append_, run_underlying hu, run_underlying ht2, sizeOf, typeInfo, hi, asInt, asIntOf, hw0, hsz, hroom, storeCells]
          · have ht : (ua k (List.replicate q 0)).toList = us k (List.replicate q 0) := rfl
            simp [Builtin.append_, run_underlying hu, run_underlying ht2, sizeOf, typeInfo, zeroValue, hi, hzz, asInt, asIntOf, hwq, hq0, hb, hsz, hq, h48, hroom, hz, zeroCells_ua, Addr.add_lit, ht, hst]
        refine ⟨_, _, hr, ?_⟩
        have hb' : Hp w [b] w [.blk b et cur] := Hp.blk1 rfl rfl rfl rfl (fun _ _ => rfl) hg
        have hb2 := hb'.setAll (i := 0) ((cur.toList.take p ++ us k (List.replicate q 0) ++ cur.toList.drop (p + (us k (List.replicate q 0)).length)).toArray) rfl rfl
        refine hb2.say (i := 0) rfl (own_of_blk hroom hcm ?_ ?_) (fun _ h => h) rfl
        · rw [List.size_toArray, List.length_append, List.length_append, List.length_take, List.length_drop, Array.length_toList, hnl]; omega
        · rw [Nat.mul_one] at htk ⊢
          rw [htk, us_append]
          exact List.take_left' (by rw [List.length_append, us_length, hnl, hlen])
      · have holds : ∀ j u, (us k l1)[j]? = some u → w.drew.cell? ((⟨b, 0, none⟩ : Addr).add j) = some u := fun j u hu' => World.ownsRow.cells (v := .slice (some ⟨b, 0, none⟩) p cap) ho (g := b) rfl j u hu'
        have hn : ¬ (p + q ≤ cap) := hroom
        have hq : q ≠ 0 := by omega
        have h48 : ¬ (281474976710656 < (q : Int)) := by omega
        have h63' : ¬ (9223372036854775807 < ((p : Int) + (q : Int))) := by omega
        have h48' : ¬ (281474976710656 < Builtin.nextslicecap (p + q) cap) := by
          have := growslice_fits (need := p + q) (old := cap) (bytes := 1) (by omega) (by omega)
          omega
        have hfo := run_firstCells_some (P := P) w.drew 1 p ⟨b, 0, none⟩ p cap (us k l1) (by rw [us_length, hlen, Nat.mul_one]) holds
        have hr : (Builtin.append_ #[t, t2] ty #[.slice (some ⟨b, 0, none⟩) p cap, .int kk (q : Int)]).run P w = .ok (.slice (some ⟨w.heap.size, 0, none⟩) (p + q) (grownCap w (p + q) cap et)) (w.drew.alloc (.cells ((us k l1).toArray ++ ua k (List.replicate q 0) ++ Builtin.zeroCells zv.cells (grownCap w (p + q) cap et - (p + q))) et)) := by
          simp [Builtin.append_, run_underlying hu, run_underlying ht2, sizeOf, typeInfo, zeroValue, hi, hzz, asInt, asIntOf, hwq, hq0, hb, hsz, hq, hn, h48, h63', h48', Question.forced, hfo, newRow, grownCap, hz, zeroCells_ua]
        have hf := Hp.fresh w et (grownCap_ge w (p + q) cap et) (grownCap_le_maxLen w (p + q) cap et (by simp [maxLen]; omega)) (size_ _ (grownCap_ge w (p + q) cap et)) (tk (Builtin.zeroCells zv.cells (grownCap w (p + q) cap et - (p + q))))
        exact ⟨_, _, hr, ⟨hf.os, hf.tape, hf.output, hf.size, fun k hk _ => hf.frame k hk (by simp), hf.ok, hf.disj, fun y hy b' hb' => (hf.feet y hy b' hb').imp (fun h => by simp at h) id⟩⟩
theorem L_app0 {i p q : Nat} {kk kz : IntKind} {l1 : List Nat} (hd : Nat.blt b0 n = true) (H : Hp w0 S w es) (hi : es[i]? = some (.own v et 1 p (us k l1))) (hs : slOf P t = some (et, 1)) (ht2 : P.underlying t2 = some (.int kz)) (hz : zeroOf P et = some (ua k [0])) (hb : szOf P et = some 1)
    (hx : ev e x = v) (hy : ev e y = .int kk (q : Int)) (hfit : p + q ≤ 4294967296)
    (hk : ∀ v' w', Hp w0 S w' (es.set i (.own v' et 1 (p + q) (us k (l1 ++ List.replicate q 0)))) → L P n ops Q rest (upd e b0 v') w') : L P n ops Q (⟨some b0, .call { callee := .builtin .append, args := #[x, y], argTypes := #[t, t2] }, ty, pos, aft, none⟩ :: rest) e w := by
  obtain ⟨v', w', hr, H'⟩ := run_app0 (P := P) (ty := ty) (kk := kk) (q := q) (H.get i hi) hs ht2 hz hb hfit
  refine L_do rfl hd (R := fun v2 w2 => v2 = v' ∧ w2 = w') (Dn.val (v := v') (w' := w') ?_ ⟨rfl, rfl⟩) ?_
  · simp [execOp, resolve, invoke, builtin, hx, hy, hr]
  · rintro _ _ ⟨rfl, rfl⟩
    exact hk _ _ (H.put hi H' (fun b hb => Option.mem_toList.1 hb) rfl)
end
end Go.Ev
