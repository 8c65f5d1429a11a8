/- Regions that draw their order: the walk in any order. -/
import Derived.Test.YtmhamnnfcmkcfaaP2
import Derived.Test.YtmhamnnfcmkcfaaP1
import Derived.Laws.StructEq
import Derived.ChangeKeysEq
import Derived.Lib.Bytealg
import Derived.Laws.Externs
import Derived.Laws.Cover3
import Derived.Test.YtmhamnnfcmkcfaaChecked
import Derived.KernelRfl
import Derived.Test.YtmhamnnfcmkcfaaProg
namespace Go.Proofs.Ytmhamnnfcmkcfaa
open Go.RowKit

section
variable {P : Program} {T : Tab} {sh : Nat → Bool} {C : CallF} {ops : Array Oper} {B : Nat} {G0 : Gh} {w0 : World} {N : Nat} {ds : List Deferred}

open Classical in
/-- What the temporaries hold when some operations were carried out. -/
noncomputable def tmL (ops : Array Oper) (v : Nat → AV) (tm : Tm) (listed : Array Bool) : Tm := fun t =>
  if h : ∃ j, listed.getD j false = true ∧ ∃ o, ops[j]? = some o ∧ o.dst = some t then v (Classical.choose h) else tm t

theorem tmL_get (hD : DrawP T sh ops) {v : Nat → AV} {tm : Tm} {listed : Array Bool} {j : Nat} {o : Oper} {t : Nat} (hj : listed.getD j false = true) (ho : ops[j]? = some o) (hd : o.dst = some t) : tmL ops v tm listed t = v j := by
  have h : ∃ j, listed.getD j false = true ∧ ∃ o, ops[j]? = some o ∧ o.dst = some t := ⟨j, hj, o, ho, hd⟩
  unfold tmL
  rw [dif_pos h]
  obtain ⟨-, o', h1, h2⟩ := Classical.choose_spec h
  rw [hD.ssa _ _ _ _ _ h1 ho h2 hd]

theorem tmL_not {v : Nat → AV} {tm : Tm} {listed : Array Bool} {t : Nat} (h : ∀ j o, ops[j]? = some o → o.dst = some t → listed.getD j false = false) : tmL ops v tm listed t = tm t := by
  unfold tmL
  rw [dif_neg]
  rintro ⟨j, h1, o, h2, h3⟩
  rw [h j o h2 h3] at h1
  cases h1

theorem getD_set_same {listed : Array Bool} {i : Nat} (h : i < listed.size) : (listed.setIfInBounds i true).getD i false = true := by simp [h]

theorem tmL_set (hD : DrawP T sh ops) {v : Nat → AV} {tm : Tm} {listed : Array Bool} {i : Nat} {o : Oper} (hs : listed.size = ops.size) (ho : ops[i]? = some o) :
    tmL ops v tm (listed.setIfInBounds i true) = updO (tmL ops v tm listed) o.dst (v i) := by
  have hi : i < listed.size := by rw [hs]; exact (Array.getElem?_eq_some_iff.1 ho).1
  funext t
  by_cases q : o.dst = some t
  · rw [tmL_get hD (getD_set_same hi) ho q, q, updO_eq]
  · rw [updO_ne q]
    by_cases q2 : ∃ j, listed.getD j false = true ∧ ∃ o, ops[j]? = some o ∧ o.dst = some t
    · obtain ⟨j, h1, o', h2, h3⟩ := q2
      rw [tmL_get hD h1 h2 h3, tmL_get hD (getD_set_true h1) h2 h3]
    · have h0 : ∀ j o, ops[j]? = some o → o.dst = some t → listed.getD j false = false := fun j o' h2 h3 => by
        cases e : listed.getD j false with
        | false => rfl
        | true => exact absurd ⟨j, e, o', h2, h3⟩ q2
      rw [tmL_not h0, tmL_not]
      intro j o' h2 h3
      have : i ≠ j := fun e => by subst e; rw [ho] at h2; cases h2; exact q h3
      rw [getD_set_ne false this]
      exact h0 j o' h2 h3

/-- What is so of the operations that were carried out. -/
structure DInv (T : Tab) (sh : Nat → Bool) (ops : Array Oper) (listed : Array Bool) (m : Nat) : Prop where
  size : listed.size = ops.size
  closed : ∀ i o, ops[i]? = some o → listed.getD i false = true → ∀ e ∈ o.after, Region.binds .any e = true → listed.getD e.on false = true
  cnt : ∀ i o, ops[i]? = some o → isM T sh o.op = true → (listed.getD i false = true ↔ cM T sh (ops.toList.take i) 0 < m)
  le : m ≤ cM T sh ops.toList 0

theorem anc_listed (hD : DrawP T sh ops) {listed : Array Bool} {m : Nat} (hI : DInv T sh ops listed m) : ∀ (i : Nat), listed.getD i false = true → ∀ k, Anc ops i k → listed.getD k false = true := by
  intro i
  induction i using Nat.strongRecOn with
  | _ i ih =>
    intro hi k hk
    have hlt : i < ops.size := by
      rcases Nat.lt_or_ge i listed.size with h | h
      · rw [hI.size] at h; exact h
      · simp [Array.getElem?_eq_none h] at hi
    have ho : ops[i]? = some ops[i] := Array.getElem?_eq_getElem hlt
    obtain ⟨e, he, hb, h⟩ := hD.clo i _ k ho hk
    have h1 := hI.closed i _ ho hi e he hb
    rcases h with rfl | h
    · exact h1
    · exact ih e.on (hD.dep i _ e ho he hb) h1 k h

theorem anc_lt (hD : DrawP T sh ops) : ∀ (i : Nat) (o : Oper) (k : Nat), ops[i]? = some o → Anc ops i k → k < i := by
  intro i
  induction i using Nat.strongRecOn with
  | _ i ih =>
    intro o k ho hk
    obtain ⟨e, he, hb, h⟩ := hD.clo i o k ho hk
    have h1 := hD.dep i o e ho he hb
    rcases h with rfl | h
    · exact h1
    · have hlt : e.on < ops.size := by have := (Array.getElem?_eq_some_iff.1 ho).1; omega
      have := ih e.on h1 ops[e.on] k (Array.getElem?_eq_getElem hlt) h
      omega

theorem ready_all (hD : DrawP T sh ops) {listed : Array Bool} (hs : listed.size = ops.size) (hr : Region.ready .any ops listed = []) : ∀ i, i < ops.size → listed.getD i false = true := by
  intro i
  induction i using Nat.strongRecOn with
  | _ i ih =>
    intro hi
    cases e : listed.getD i false with
    | true => rfl
    | false =>
      exfalso
      have ho : ops[i]? = some ops[i] := Array.getElem?_eq_getElem hi
      have h' : i < listed.size := by rw [hs]; exact hi
      have e2 : listed.getD i true = false := by simp [h'] at e ⊢; exact e
      have : i ∈ Region.ready .any ops listed := mem_ready.2 ⟨e2, _, ho, fun e' he hb => by
        have h1 := hD.dep i _ e' ho he hb
        exact ih e'.on h1 (by omega)⟩
      rw [hr] at this
      cases this

/-- A call of a function that is not shared. -/
theorem q_ok (hQ : QOk P sh C) {tm : Tm} {h : Heap} {G : Gh} {a : Act} {w : World} (hr : RepT G tm a.tmps) (hI : Inv B G h w) {o : Oper} {v : AV} {h' : Heap}
    (hq : isQ sh o.op = true) (e : evQ C tm o.op = some (v, h')) {next : Act → World → Prop} {Q : Exit → Act → World → Prop}
    (hn : ∀ cv w' G', Mv B G w G' w' → Inv B G' h w' → Rep G' v cv → next (a.put o.dst cv) w') : o.wp P a w next Q := by
  unfold Oper.wp
  obtain ⟨dst, op, ty, pos, after, guard⟩ := o
  simp only at hq e
  unfold isQ at hq
  split at hq
  · rename_i f xs ts
    simp only [Bool.not_eq_true'] at hq
    simp only [evQ] at e
    have hargs := evList_rep hr xs
    have hrun := hQ f _ _ _ _ _ _ _ _ hq e hargs hI
    have hex : (execOp a.eval ⟨dst, .call { callee := .value (.func f), args := xs, argTypes := ts }, ty, pos, after, guard⟩).run P w = (callFunc f (xs.map a.eval).toList.toArray).run P w := by
      simp [execOp, resolve, Deferred.ofValue, invoke, Act.eval]
      congr 2
      apply Array.ext'
      simp
    rw [hex]
    exact hrun _ a next Q fun cv w' ⟨G', q1, q2, q3⟩ => hn cv w' G' q1 q2 q3
  · cases hq

theorem draw_any (hT : TabOk P T) (hC : FnOk P C) (hQ : QOk P sh C) (hD : DrawP T sh ops) (hd : ∀ (i : Nat) (o : Oper) (t : Nat), ops[i]? = some o → o.dst = some t → t < N) {v : Nat → AV} {hp : Nat → Heap} {tm : Tm}
    (hF : Facts T sh C (Region.before ops) (msOf T sh ops.toList) ops.toList (cM T sh ops.toList 0) v hp ops.toList 0 0 tm) {Q : Exit → Act → World → Prop}
    (hK : ∀ G a w, At B G0 w0 N ds (tmR v ops.toList 0 tm) (hp (cM T sh ops.toList 0)) G a w → Q .normal a w) :
    ∀ (fuel : Nat) (listed : Array Bool) (m : Nat) (G : Gh) (a : Act) (w : World), DInv T sh ops listed m → listed.toList.count true + fuel = ops.size → At B G0 w0 N ds (tmL ops v tm listed) (hp m) G a w → wpAny P .any ops Q fuel listed a w := by
  have ssaL : ∀ (i j : Nat) (oi oj : Oper) (d : Nat), ops.toList[i]? = some oi → ops.toList[j]? = some oj → oi.dst = some d → oj.dst = some d → i = j := fun i j oi oj d h1 h2 => hD.ssa i j oi oj d (by simpa using h1) (by simpa using h2)
  have done : ∀ (listed : Array Bool) (m : Nat) (G : Gh) (a : Act) (w : World), DInv T sh ops listed m → (∀ i, i < ops.size → listed.getD i false = true) → At B G0 w0 N ds (tmL ops v tm listed) (hp m) G a w → Q .normal a w := by
    intro listed m G a w hI hall hA
    have htm : tmL ops v tm listed = tmR v ops.toList 0 tm := by
      funext t
      have ht := tmT_get (v := v) (tm := tm) ssaL t ops.toList.length (Nat.le_refl _)
      rw [List.take_length] at ht
      by_cases q : ∃ (j : Nat) (o : Oper), ops[j]? = some o ∧ o.dst = some t
      · obtain ⟨j, o, h1, h2⟩ := q
        have hj := (Array.getElem?_eq_some_iff.1 h1).1
        rw [tmL_get hD (hall j hj) h1 h2]
        exact (ht.1 j o (by simpa using hj) (by simpa using h1) h2).symm
      · rw [tmL_not fun j o h1 h2 => absurd ⟨j, o, h1, h2⟩ q]
        exact (ht.2 fun j o _ h1 h2 => q ⟨j, o, by simpa using h1, h2⟩).symm
    have hm : m = cM T sh ops.toList 0 := by
      refine Nat.le_antisymm hI.le (Nat.le_of_not_lt fun hlt => ?_)
      obtain ⟨i, o, h1, h2, h3, h4⟩ := rk_ex (T := T) (sh := sh) (l := ops.toList) m ops.toList.length (Nat.le_refl _) (by rw [List.take_length]; exact hlt)
      have := (hI.cnt i o (by simpa using h2) h3).1 (hall i (by simpa using h1))
      omega
    rw [htm, hm] at hA
    exact hK G a w hA
  intro fuel
  induction fuel with
  | zero =>
    intro listed m G a w hI hcnt hA
    have hall : ∀ i, i < ops.size → listed.getD i false = true := by
      intro i hi
      have h1 : listed.toList.count true = listed.toList.length := by rw [Array.length_toList, hI.size]; omega
      have h2 := List.count_eq_length.1 h1
      have h3 : i < listed.size := by rw [hI.size]; exact hi
      have := h2 listed[i] (by simp)
      simp [h3, ← this]
    refine ⟨?_, done listed m G a w hI hall hA⟩
    refine List.eq_nil_iff_forall_not_mem.2 fun i hi => ?_
    obtain ⟨h1, o, h2, -⟩ := mem_ready.1 hi
    have h3 := hall i (Array.getElem?_eq_some_iff.1 h2).1
    have h4 : i < listed.size := by rw [hI.size]; exact (Array.getElem?_eq_some_iff.1 h2).1
    simp [h4] at h1 h3
    rw [h1] at h3
    cases h3
  | succ fuel ih =>
    intro listed m G a w hI hcnt hA
    refine ⟨fun hr => done listed m G a w hI (ready_all hD hI.size hr) hA, fun i hi => ?_⟩
    obtain ⟨hun0, o, ho, hall⟩ := mem_ready.1 hi
    have hlt : i < ops.size := (Array.getElem?_eq_some_iff.1 ho).1
    have hltl : i < listed.size := by rw [hI.size]; exact hlt
    have hun : listed.getD i false = false := by simp [hltl] at hun0 ⊢; exact hun0
    have hoL : ops.toList[i]? = some o := by simpa using ho
    have hanc : ∀ k, Anc ops i k → listed.getD k false = true := by
      intro k hk
      obtain ⟨e, he, hb, h⟩ := hD.clo i _ k ho hk
      rcases h with rfl | h
      · exact hall e he hb
      · exact anc_listed hD hI _ (hall e he hb) k h
    have hdesc : ∀ j, Anc ops j i → listed.getD j false = false := by
      intro j hj
      cases e : listed.getD j false with
      | false => rfl
      | true => rw [anc_listed hD hI j e i hj] at hun; cases hun
    -- what it looks at is what it was in the text's order
    have hlook : ∀ t ∈ o.looksAt ops, tmL ops v tm listed t = tmR v (ops.toList.take i) 0 tm t := by
      intro t ht
      have hT' := tmT_get (v := v) (tm := tm) ssaL t i (by simp; omega)
      by_cases q : ∃ (j : Nat) (oj : Oper), ops[j]? = some oj ∧ oj.dst = some t
      · obtain ⟨j, oj, h1, h2⟩ := q
        have late : i ≤ j → listed.getD j false = false → tmL ops v tm listed t = tmR v (ops.toList.take i) 0 tm t := by
          intro hij hj
          rw [tmL_not fun j' o' k1 k2 => by rw [hD.ssa _ _ _ _ _ k1 h1 k2 h2]; exact hj]
          refine (hT'.2 fun j' o' k0 k1 k2 => ?_).symm
          have := hD.ssa _ _ _ _ _ (show ops[j']? = some o' by simpa using k1) h1 k2 h2
          omega
        rcases hD.look i j o oj t ho h1 ht h2 with ⟨k1, k2⟩ | rfl | ⟨k1, k2⟩
        · rw [tmL_get hD (hanc j k2) h1 h2]
          exact (hT'.1 j oj k1 (by simpa using h1) h2).symm
        · exact late (Nat.le_refl _) hun
        · exact late (Nat.le_of_lt k1) (hdesc j k2)
      · rw [tmL_not fun j o h1 h2 => absurd ⟨j, o, h1, h2⟩ q]
        exact (hT'.2 fun j o _ h1 h2 => q ⟨j, o, by simpa using h1, h2⟩).symm
    have hev : ∀ x ∈ o.op.operands, ev (tmL ops v tm listed) x = ev (tmR v (ops.toList.take i) 0 tm) x := fun x hx => ev_looks hlook hx
    have hguard : guardOf (tmL ops v tm listed) ops.toList o = guardOf (tmR v (ops.toList.take i) 0 tm) ops.toList o := guardOf_looks hlook
    have hFact := Facts_get _ _ _ _ hF i o hoL
    rw [Nat.zero_add] at hFact
    -- what comes behind it
    have hnext : ∀ (m' : Nat) (cv : Value) (w' : World) (G' : Gh), m' = (if isM T sh o.op then m + 1 else m) → (isM T sh o.op = true → cM T sh (ops.toList.take i) 0 = m) → Mv B G w G' w' → Inv B G' (hp m') w' → Rep G' (v i) cv →
        wpAny P .any ops Q fuel (listed.setIfInBounds i true) (a.put o.dst cv) w' := by
      intro m' cv w' G' hm' hrk h1 h2 h3
      refine ih _ m' G' _ w' ⟨?_, ?_, ?_, ?_⟩ ?_ ?_
      · simp [hI.size]
      · intro j oj hj hl e he hb
        by_cases q : i = j
        · subst q
          rw [ho] at hj; cases hj
          exact getD_set_true (hall e he hb)
        · rw [getD_set_ne false q] at hl
          exact getD_set_true (hI.closed j oj hj hl e he hb)
      · intro j oj hj hM
        by_cases q : i = j
        · subst q
          rw [ho] at hj; cases hj
          rw [getD_set_same hltl, hm', if_pos hM, hrk hM]
          simp
        · rw [getD_set_ne false q, hI.cnt j oj hj hM, hm']
          split
          · rename_i hMi
            have hr := hrk hMi
            constructor
            · intro h; omega
            · intro h
              rcases Nat.lt_or_ge (cM T sh (ops.toList.take j) 0) m with h5 | h5
              · exact h5
              · exfalso
                have h6 : cM T sh (ops.toList.take j) 0 = cM T sh (ops.toList.take i) 0 := by omega
                rcases Nat.lt_or_gt_of_ne q with h7 | h7
                · have := rk_lt (T := T) (sh := sh) h7 hoL hMi; omega
                · have := rk_lt (T := T) (sh := sh) (l := ops.toList) h7 (by simpa using hj) hM; omega
          · exact Iff.rfl
      · rw [hm']
        split
        · rename_i hMi
          have h1 := rk_succ (T := T) (sh := sh) hoL
          rw [if_pos hMi, hrk hMi] at h1
          have h2 := rk_le (T := T) (sh := sh) (l := ops.toList) (i := i + 1) (j := ops.toList.length) (by simp; omega)
          rw [List.take_length] at h2
          omega
        · exact hI.le
      · have hi2 : i < listed.toList.length := by simpa using hltl
        have hgi : listed.toList[i] = false := by
          simp [hltl] at hun
          simpa using hun
        rw [Array.toList_setIfInBounds, List.count_set hi2, hgi]
        have h0 : (if (false == true) = true then 1 else 0) = 0 := by decide
        have h1 : (if (true == true) = true then 1 else 0) = 1 := by decide
        rw [h0, h1]
        omega
      · rw [tmL_set hD hI.size ho]
        exact hA.step (fun t ht => hd i o t ho ht) h1 h2 h3
    obtain ⟨g1, g2⟩ := guard_ok hA.rep (ops := ops) (o := o)
    -- an operation with its guard
    have fin : ∀ {α : Type} (x : Option α) (y : α) (res : α), gO (guardOf (tmL ops v tm listed) ops.toList o) x y = some res →
        (x = some res → o.wp P a w (wpAny P .any ops Q fuel (listed.setIfInBounds i true)) Q) → (y = res → wpAny P .any ops Q fuel (listed.setIfInBounds i true) (a.put o.dst undef) w) →
        wpOp P ops Q i (wpAny P .any ops Q fuel (listed.setIfInBounds i true)) a w := by
      intro α x y res e hx hy
      unfold wpOp
      rw [ho]
      simp only
      unfold gO at e
      split at e
      · rename_i hg
        rw [if_pos (g1 hg)]
        exact .inl (hx e)
      · rename_i gv want hg
        obtain ⟨b, hb, e⟩ := Option.bind_eq_some_iff.1 e
        rw [g2 _ _ _ hg hb]
        split at e
        · rename_i hw
          rw [if_pos hw]
          exact .inl (hx e)
        · rename_i hw
          rw [if_neg hw]
          cases e
          exact hy rfl
    unfold Fact at hFact
    rw [← valOf_same hev, ← hguard] at hFact
    cases hval : valOf (tmL ops v tm listed) o with
    | some u =>
      rw [hval] at hFact
      simp only at hFact
      obtain ⟨q1, q2⟩ := valOf_pure (T := T) (h := hp m) hval
      have hMf : isM T sh o.op = false := valOf_notM hval
      have hg0 : guardOf (tmL ops v tm listed) ops.toList o = none := by unfold guardOf; rw [q1]
      unfold wpOp
      rw [ho]
      simp only
      rw [if_pos (g1 hg0)]
      exact .inl (op_ok hT hC hA.rep hA.inv (.inr ⟨q2, rfl⟩) fun cv w' G' k1 k2 k3 => hnext m cv w' G' (by rw [hMf]; rfl) (fun h => by rw [hMf] at h; cases h) k1 k2 (by rw [hFact]; exact k3))
    | none =>
      rw [hval] at hFact
      simp only at hFact
      split at hFact
      · rename_i hM
        have hrk : cM T sh (ops.toList.take i) 0 = m := by
          have h1 : ¬ cM T sh (ops.toList.take i) 0 < m := fun h => by rw [(hI.cnt i o ho hM).2 h] at hun; cases hun
          refine Nat.le_antisymm (Nat.le_of_not_lt fun h2 => ?_) (Nat.le_of_not_lt h1)
          obtain ⟨k, ok, k1, k2, k3, k4⟩ := rk_ex (T := T) (sh := sh) (l := ops.toList) m i (by simp; omega) h2
          have k2' : ops[k]? = some ok := by simpa using k2
          have h3 := hanc k (hD.chain k i ok o k1 k2' ho k3 hM)
          have := (hI.cnt k ok k2' k3).1 h3
          omega
        rw [hrk, ← evAct_same hev] at hFact
        refine fin _ _ _ hFact (fun e => ?_) (fun e => ?_)
        · exact op_ok hT hC hA.rep hA.inv (.inl ⟨isM_act hM, e⟩) fun cv w' G' k1 k2 k3 => hnext (m + 1) cv w' G' (by rw [if_pos hM]) (fun _ => hrk) k1 k2 k3
        · simp only [Prod.mk.injEq] at e
          refine hnext (m + 1) _ w G (by rw [if_pos hM]) (fun _ => hrk) (Mv.refl B G w) (by rw [← e.2]; exact hA.inv) (by rw [← e.1]; exact .dead)
      · rename_i hM
        have hMf : isM T sh o.op = false := by simpa using hM
        have hnext' : ∀ (cv : Value) (w' : World) (G' : Gh), Mv B G w G' w' → Inv B G' (hp m) w' → Rep G' (v i) cv → wpAny P .any ops Q fuel (listed.setIfInBounds i true) (a.put o.dst cv) w' :=
          fun cv w' G' => hnext m cv w' G' (by rw [hMf]; rfl) (fun h => by rw [hMf] at h; cases h)
        have skip : AV.dead = v i → wpAny P .any ops Q fuel (listed.setIfInBounds i true) (a.put o.dst undef) w := fun e => hnext' _ w G (Mv.refl B G w) hA.inv (by rw [← e]; exact .dead)
        split at hFact
        · rename_i hq
          obtain ⟨h', hFact⟩ := hFact
          rw [← evQ_same hev] at hFact
          refine fin _ _ _ hFact (fun e => ?_) (fun e => ?_)
          · exact q_ok hQ hA.rep hA.inv hq e hnext'
          · exact skip (Prod.mk.inj e).1
        · split at hFact
          · rename_i t ad hop
            obtain ⟨z, hz, hFact⟩ := hFact
            have h1 : mBefore (Region.before ops) (msOf T sh ops.toList) i ≤ m := by
              refine mBefore_le fun r x hr hx => ?_
              obtain ⟨k, ok, k1, k2, k3, k4⟩ := ms_get (T := T) (sh := sh) ops.toList 0 0 r x hr
              have k2' : ops[k]? = some ok := by simpa using k2
              rw [Nat.zero_add] at k1
              subst k1
              have := (hI.cnt x ok k2' k3).1 (hanc x hx)
              omega
            have h2 : m ≤ mUpto (Region.before ops) (msOf T sh ops.toList) i := by
              have hlen := ms_len (T := T) (sh := sh) ops.toList 0 0
              rcases mUpto_spec (anc := Region.before ops) i (msOf T sh ops.toList) with h | ⟨x, hx1, hx2⟩
              · rw [h]
                have := hI.le
                rw [hlen] at this
                unfold msOf
                omega
              · refine Nat.le_of_not_lt fun hlt2 => ?_
                obtain ⟨k, ok, k1, k2, k3, k4⟩ := ms_get (T := T) (sh := sh) ops.toList 0 0 _ x hx1
                have k2' : ops[k]? = some ok := by simpa using k2
                rw [Nat.zero_add] at k1 k4
                subst k1
                have := (hI.cnt x ok k2' k3).2 (by omega)
                rw [hdesc x hx2] at this
                cases this
            have hx := hFact m h1 h2 hI.le
            have hev1 : ev (tmR v (ops.toList.take i) 0 tm) ad = ev (tmL ops v tm listed) ad := (hev ad (by rw [hop]; simp [Op.operands])).symm
            rw [hev1] at hx
            refine fin _ _ _ hx (fun e => ?_) skip
            refine op_ok hT hC hA.rep hA.inv (.inr ⟨?_, rfl⟩) hnext'
            rw [hop]
            simp only [evPure, hz, Option.bind_some]
            exact e
          · rename_i hop
            rw [← evPure_same hev] at hFact
            have hheap : ∀ u, evPure T (tmL ops v tm listed) (cutH (Region.before ops) (msOf T sh ops.toList) i o.op (hp (cM T sh (ops.toList.take i) 0))) o.op = some u → evPure T (tmL ops v tm listed) (hp m) o.op = some u := by
              intro u hu
              unfold cutH at hu
              cases hc : isCut o.op with
              | false =>
                rw [hc, if_neg Bool.false_ne_true] at hu
                rw [← evPure_heap (h := hp (cM T sh (ops.toList.take i) 0)) (fun t a => hop t a) hc]
                exact hu
              | true =>
                rw [hc, if_pos rfl] at hu
                split at hu
                · rename_i hcmp
                  have hcut : ∀ (k : Nat) (ok : Oper), ops[k]? = some ok → isM T sh ok.op = true → Anc ops i k ∨ Anc ops k i := by
                    intro k ok k2 k3
                    have hmem : k ∈ msOf T sh ops.toList := by
                      unfold msOf
                      refine List.mem_map.2 ⟨(ok, k), List.mem_filter.2 ⟨List.mem_zipIdx_iff_getElem?.2 (by simpa using k2), k3⟩, rfl⟩
                    have := List.all_eq_true.1 hcmp k hmem
                    rw [Bool.or_eq_true] at this
                    exact this
                  have : cM T sh (ops.toList.take i) 0 = m := by
                    refine Nat.le_antisymm (Nat.le_of_not_lt fun h2 => ?_) (Nat.le_of_not_lt fun h2 => ?_)
                    · obtain ⟨k, ok, k1, k2, k3, k4⟩ := rk_ex (T := T) (sh := sh) (l := ops.toList) m i (by simp; omega) h2
                      have k2' : ops[k]? = some ok := by simpa using k2
                      rcases hcut k ok k2' k3 with h3 | h3
                      · have := (hI.cnt k ok k2' k3).1 (hanc k h3)
                        omega
                      · have := anc_lt hD k ok i k2' h3
                        omega
                    · obtain ⟨k, ok, k1, k2, k3, k4⟩ := rk_ex (T := T) (sh := sh) (l := ops.toList) (cM T sh (ops.toList.take i) 0) ops.toList.length (Nat.le_refl _) (by rw [List.take_length]; have := hI.le; omega)
                      have k2' : ops[k]? = some ok := by simpa using k2
                      have h5 := (hI.cnt k ok k2' k3).2 (by omega)
                      have h6 : i ≤ k := Nat.le_of_not_lt fun h => by have := rk_lt (T := T) (sh := sh) h k2 k3; omega
                      rcases hcut k ok k2' k3 with h3 | h3
                      · have := anc_lt hD i o k ho h3
                        omega
                      · rw [hdesc k h3] at h5; cases h5
                  rw [this] at hu
                  exact hu
                · exact evPure_nil hc hu
            refine fin _ _ _ hFact (fun e => ?_) skip
            exact op_ok hT hC hA.rep hA.inv (.inr ⟨hheap _ e, rfl⟩) hnext'

end
end Go.Proofs.Ytmhamnnfcmkcfaa

/- Regions that draw their order: the check, and what it yields for code. -/
namespace Go.Proofs.Ytmhamnnfcmkcfaa
open Go.RowKit

section
variable {P : Program} {T : Tab} {sh : Nat → Bool} {C : CallF} {ops : Array Oper} {B : Nat} {G0 : Gh} {w0 : World} {N : Nat} {ds : List Deferred}

theorem At.drew {tm : Tm} {h : Heap} {G : Gh} {a : Act} {w : World} (hA : At B G0 w0 N ds tm h G a w) : At B G0 w0 N ds tm h G a { w with drawn := w.drawn + 1 } :=
  ⟨hA.rep, ⟨hA.inv.base, hA.inv.blk, hA.inv.fresh, hA.inv.set, hA.inv.cells, hA.inv.disj, hA.inv.maps, hA.inv.mdisj⟩, ⟨hA.mv.le, hA.mv.below.drew, hA.mv.fresh⟩, hA.size, hA.defers⟩

theorem getD_rep_false (m j : Nat) : (Array.replicate m false).getD j false = false := by
  rcases Nat.lt_or_ge j m with h | h
  · simp [h]
  · simp [h]

theorem draw_region (hm : P.follows .mixedOrders = true) (hT : TabOk P T) (hC : FnOk P C) (hQ : QOk P sh C) (hD : DrawP T sh ops) (hd : ∀ (i : Nat) (o : Oper) (t : Nat), ops[i]? = some o → o.dst = some t → t < N)
    {R : Type} {K : Tm → Heap → Option R} {r : R} {id : Nat} {tm : Tm} {h : Heap} {G : Gh} {a : Act} {w : World} {Q : Exit → Act → World → Prop}
    (e : evDraw optB T sh C ops K tm h = some r) (hA : At B G0 w0 N ds tm h G a w) (hK : ∀ tm h G a w, K tm h = some r → At B G0 w0 N ds tm h G a w → Q .normal a w) : (Code.region id ops true).wp P Q a w := by
  obtain ⟨v, hp, -, q2, q3, -, q5⟩ := evDr_facts _ _ _ _ _ _ e
  refine wp_region_any hm (draw_any hT hC hQ hD hd (v := v) (hp := hp) (tm := tm) q3 (fun G a w hA => hK _ _ G a w q5 hA) ops.size _ 0 G a _ ⟨by simp, ?_, ?_, Nat.zero_le _⟩ ?_ ?_)
  · intro i o _ h
    rw [getD_rep_false] at h
    cases h
  · intro i o _ _
    rw [getD_rep_false]
    simp
  · have : List.count true (List.replicate ops.size false) = 0 := List.count_eq_zero.2 fun h => by simp at h
    simpa using this
  · have h0 : tmL ops v tm (Array.replicate ops.size false) = tm := by
      funext t
      exact tmL_not fun j o _ _ => getD_rep_false _ _
    rw [h0, show hp 0 = h from q2]
    exact hA.drew

def ancFold (anc : Array Nat) (es : List Edge) : Nat := es.foldr (fun e s => (2 ^ e.on ||| anc.getD e.on 0) ||| s) 0

theorem ancFold_spec {anc : Array Nat} {k : Nat} : ∀ (es : List Edge), (ancFold anc es).testBit k = true → ∃ e ∈ es, k = e.on ∨ (anc.getD e.on 0).testBit k = true
  | [], h => by simp [ancFold] at h
  | e :: es, h => by
    simp only [ancFold, List.foldr_cons, Nat.testBit_or, Bool.or_eq_true] at h
    rcases h with (h | h) | h
    · rw [Nat.testBit_two_pow] at h
      exact ⟨e, List.mem_cons_self .., .inl (of_decide_eq_true h).symm⟩
    · exact ⟨e, List.mem_cons_self .., .inr h⟩
    · obtain ⟨e', h1, h2⟩ := ancFold_spec es h
      exact ⟨e', List.mem_cons_of_mem _ h1, h2⟩

def drawChkA (T : Tab) (sh : Nat → Bool) (ops : Array Oper) (anc : Array Nat) (l : List (Oper × Nat)) : Bool :=
  l.all fun p =>
    (l.all fun q => q.2 == p.2 || (match p.1.dst with | some d => q.1.dst != some d | none => true)) &&
    ((p.1.looksAt ops).all fun t => l.all fun q => q.1.dst != some t || ((decide (q.2 < p.2) && (anc.getD p.2 0).testBit q.2) || (p.2 == q.2 || (decide (p.2 < q.2) && (anc.getD q.2 0).testBit p.2)))) &&
    (anc.getD p.2 0 == ancFold anc (p.1.after.toList.filter (Region.binds .any))) &&
    (p.1.after.toList.all fun e => !Region.binds .any e || decide (e.on < p.2)) &&
    (!isM T sh p.1.op || l.all fun q => !decide (p.2 < q.2) || (!isM T sh q.1.op || (anc.getD q.2 0).testBit p.2))

def drawChk (T : Tab) (sh : Nat → Bool) (ops : Array Oper) : Bool := drawChkA T sh ops (Region.before ops) ops.toList.zipIdx

theorem drawChk_spec (h : drawChk T sh ops = true) : DrawP T sh ops := by
  have mem : ∀ (i : Nat) (o : Oper), ops[i]? = some o → (o, i) ∈ ops.toList.zipIdx := fun i o ho => List.mem_zipIdx_iff_getElem?.2 (by simpa using ho)
  have all := List.all_eq_true.1 h
  refine ⟨?_, ?_, ?_, ?_, ?_⟩
  · intro i j oi oj d hi hj di dj
    have h1 := all _ (mem i oi hi)
    simp only [Bool.and_eq_true] at h1
    have h2 := List.all_eq_true.1 h1.1.1.1.1 _ (mem j oj hj)
    simp only [di, dj, Bool.or_eq_true, beq_iff_eq] at h2
    rcases h2 with h2 | h2
    · exact h2.symm
    · simp at h2
  · intro i j oi oj t hi hj ht dj
    have h1 := all _ (mem i oi hi)
    simp only [Bool.and_eq_true] at h1
    have h2 := List.all_eq_true.1 (List.all_eq_true.1 h1.1.1.1.2 t ht) _ (mem j oj hj)
    simp only [dj, Bool.or_eq_true, Bool.and_eq_true, beq_iff_eq, decide_eq_true_eq] at h2
    rcases h2 with h2 | h2 | h2 | h2
    · simp at h2
    · exact .inl h2
    · exact .inr (.inl h2)
    · exact .inr (.inr h2)
  · intro i o k ho hk
    have h1 := all _ (mem i o ho)
    simp only [Bool.and_eq_true] at h1
    have h2 := h1.1.1.2
    simp only [beq_iff_eq] at h2
    unfold Anc at hk
    rw [h2] at hk
    obtain ⟨e, h3, h4⟩ := ancFold_spec _ hk
    obtain ⟨h5, h6⟩ := List.mem_filter.1 h3
    exact ⟨e, by simpa using h5, h6, h4⟩
  · intro i o e ho he hb
    have h1 := all _ (mem i o ho)
    simp only [Bool.and_eq_true] at h1
    have h2 := List.all_eq_true.1 h1.1.2 e (by simpa using he)
    simp only [hb, Bool.not_true, Bool.false_or, decide_eq_true_eq] at h2
    exact h2
  · intro i j oi oj hij hi hj mi mj
    have h1 := all _ (mem i oi hi)
    simp only [Bool.and_eq_true] at h1
    have h2 := h1.2
    simp only [mi, Bool.not_true, Bool.false_or] at h2
    have h3 := List.all_eq_true.1 h2 _ (mem j oj hj)
    simp only [hij, mj, decide_true, Bool.not_true, Bool.false_or] at h3
    exact h3

/-- Every drawn region of the code is so. -/
def drawB (chk : Array Oper → Bool) : Code → Bool
  | .region _ ops true => chk ops
  | .seq a b => drawB chk a && drawB chk b
  | .cond _ a b => drawB chk a && drawB chk b
  | .block _ a => drawB chk a
  | .loop a => drawB chk a
  | .scope a => drawB chk a
  | _ => true

/-- What a check of a region must yield. -/
def ChkOk (P : Program) (T : Tab) (sh : Nat → Bool) (chk : Array Oper → Bool) : Prop := ∀ (ops : Array Oper) (C : CallF) (N : Nat), chk ops = true → FnOk P C → QOk P sh C →
  (∀ (i : Nat) (o : Oper) (t : Nat), ops[i]? = some o → o.dst = some t → t < N) → ∀ (R : Type) (id B : Nat) (G0 : Gh) (w0 : World) (ds : List Deferred) (K : Tm → Heap → Option R) (r : R) (tm : Tm) (h : Heap) (G : Gh) (a : Act) (w : World) (Q : Exit → Act → World → Prop),
  evDraw optB T sh C ops K tm h = some r → At B G0 w0 N ds tm h G a w → (∀ tm h G a w, K tm h = some r → At B G0 w0 N ds tm h G a w → Q .normal a w) → (Code.region id ops true).wp P Q a w

theorem drawChk_ok (hm : P.follows .mixedOrders = true) (hT : TabOk P T) : ChkOk P T sh (drawChk T sh) := fun _ _ _ hc hC hQ hd _ _ _ _ _ _ _ _ _ _ _ _ _ _ e hA hK => draw_region hm hT hC hQ (drawChk_spec hc) hd e hA hK

theorem drawB_ok {chk : Array Oper → Bool} (hk : ChkOk P T sh chk) {L : LoopF} (hC : FnOk P C) (hQ : QOk P sh C) : ∀ c : Code, okDst N c = true → drawB chk c = true → DrawOk P T sh C L noD N c := by
  intro c
  induction c with
  | region id ops draw =>
    intro hd hb
    cases draw with
    | false => exact trivial
    | true =>
      intro R B G0 w0 ds K r tm h G a w Q e hA hK
      refine hk ops C N hb hC hQ ?_ R id B G0 w0 ds (K .normal) r tm h G a w Q e hA hK
      intro i o t ho ht
      have := List.all_eq_true.1 hd o (by simpa using Array.mem_of_getElem? ho)
      rw [ht] at this
      simpa using this
  | seq a b iha ihb => intro hd hb; simp only [okDst, drawB, Bool.and_eq_true] at hd hb; exact ⟨iha hd.1 hb.1, ihb hd.2 hb.2⟩
  | cond c a b iha ihb => intro hd hb; simp only [okDst, drawB, Bool.and_eq_true] at hd hb; exact ⟨iha hd.1 hb.1, ihb hd.2 hb.2⟩
  | block id a ih => intro hd hb; exact ih hd hb
  | loop a ih => intro hd hb; exact ih hd hb
  | scope a ih => intro hd hb; exact ih hd hb
  | _ => intro _ _; trivial

end
end Go.Proofs.Ytmhamnnfcmkcfaa

/- The types that the operations name: printed by wip/tools/gentab.py. -/
namespace Go.Proofs.Ytmhamnnfcmkcfaa

def tabSize : Nat → Option (Nat × Bool)
  | 2 => some (1, false)
  | 3 => some (1, false)
  | 4 => some (1, false)
  | 5 => some (1, false)
  | 9 => some (1, false)
  | 21 => some (1, false)
  | 22 => some (1, false)
  | 25 => some (1, false)
  | 32 => some (1, false)
  | 35 => some (3, true)
  | 37 => some (1, false)
  | 39 => some (4, true)
  | 43 => some (1, false)
  | 47 => some (5, true)
  | 48 => some (1, false)
  | 57 => some (1, false)
  | 58 => some (1, false)
  | 60 => some (2, true)
  | 63 => some (1, false)
  | 64 => some (1, false)
  | 66 => some (5, true)
  | 73 => some (1, false)
  | 79 => some (1, false)
  | 83 => some (1, false)
  | 95 => some (1, false)
  | 98 => some (3, true)
  | 102 => some (1, false)
  | 106 => some (1, false)
  | 107 => some (1, false)
  | 109 => some (2, true)
  | 114 => some (1, false)
  | 121 => some (1, false)
  | 125 => some (1, false)
  | 127 => some (2, true)
  | 134 => some (1, false)
  | 135 => some (3, true)
  | 137 => some (4, true)
  | 140 => some (1, false)
  | 141 => some (3, true)
  | 143 => some (1, false)
  | 146 => some (7, true)
  | 147 => some (1, false)
  | 149 => some (1, true)
  | 151 => some (2, true)
  | 153 => some (4, true)
  | 158 => some (2, true)
  | 163 => some (1, false)
  | 168 => some (1, false)
  | 173 => some (1, false)
  | 174 => some (1, false)
  | 175 => some (1, false)
  | 177 => some (6, true)
  | 178 => some (1, false)
  | 180 => some (2, true)
  | 190 => some (1, false)
  | 194 => some (10, true)
  | 195 => some (1, false)
  | 198 => some (1, false)
  | 200 => some (1, false)
  | 204 => some (6, true)
  | 208 => some (1, false)
  | 218 => some (1, false)
  | 227 => some (1, false)
  | 228 => some (1, false)
  | _ => none

def tabKind : Nat → Option K
  | 2 => some (.int .i64)
  | 3 => some (.int .i64)
  | 4 => some .bool
  | 5 => some (.int .u8)
  | 9 => some .str
  | 21 => some (.int .i32)
  | 22 => some (.slice 35 3 32 false)
  | 25 => some (.int .i64)
  | 32 => some (.slice 22 1 24 false)
  | 35 => some (.struct (some [.int .i64, .str, .int .i64]))
  | 37 => some (.slice 47 5 40 false)
  | 39 => some (.struct none)
  | 47 => some (.struct (some [.int .i64, .int .i64, .int .i64, .int .i64, .int .i64]))
  | 48 => some (.slice 3 1 8 false)
  | 57 => some (.slice 153 4 64 false)
  | 58 => some (.slice 146 7 120 false)
  | 60 => some (.struct none)
  | 63 => some (.slice 9 1 16 false)
  | 64 => some (.slice 66 5 80 false)
  | 66 => some (.struct none)
  | 73 => some (.map (.str) 4)
  | 79 => some (.slice 4 1 1 false)
  | 83 => some (.slice 48 1 24 false)
  | 95 => some (.slice 102 1 24 false)
  | 98 => some (.struct none)
  | 102 => some (.slice 2 1 8 false)
  | 106 => some .ptr
  | 107 => some (.slice 5 1 1 true)
  | 109 => some (.struct none)
  | 125 => some .ptr
  | 127 => some (.struct none)
  | 135 => some (.arr 3 1 false (some [.int .i64, .int .i64, .int .i64]))
  | 137 => some (.struct none)
  | 140 => some .ptr
  | 141 => some (.arr 3 1 false none)
  | 143 => some .ptr
  | 146 => some (.struct none)
  | 147 => some .ptr
  | 149 => some (.struct none)
  | 151 => some (.struct none)
  | 153 => some (.struct none)
  | 158 => some (.struct none)
  | 168 => some .ptr
  | 175 => some (.slice 180 2 16 false)
  | 177 => some (.struct none)
  | 178 => some (.int .u64)
  | 180 => some (.arr 2 1 false (some [.int .u64, .int .u64]))
  | 190 => some .ptr
  | 194 => some (.struct none)
  | 195 => some .ptr
  | 198 => some (.slice 137 4 40 false)
  | 204 => some (.arr 6 1 false (some [.int .i64, .int .i64, .int .i64, .int .i64, .int .i64, .int .i64]))
  | 218 => some (.map (.str) 3)
  | 228 => some (.map (.int .i64) 227)
  | _ => none

def tabField : Nat → Nat → Option (Nat × Nat × Bool)
  | 35, 0 => some (0, 1, false)
  | 35, 1 => some (1, 1, false)
  | 35, 2 => some (2, 1, false)
  | 39, 0 => some (0, 1, false)
  | 39, 1 => some (1, 1, false)
  | 39, 2 => some (2, 1, false)
  | 39, 3 => some (3, 1, false)
  | 47, 0 => some (0, 1, false)
  | 47, 1 => some (1, 1, false)
  | 47, 2 => some (2, 1, false)
  | 47, 3 => some (3, 1, false)
  | 47, 4 => some (4, 1, false)
  | 60, 0 => some (0, 1, false)
  | 60, 1 => some (1, 1, false)
  | 66, 0 => some (0, 1, false)
  | 66, 1 => some (1, 1, false)
  | 66, 2 => some (2, 1, false)
  | 66, 3 => some (3, 1, false)
  | 66, 4 => some (4, 1, false)
  | 98, 0 => some (0, 1, false)
  | 98, 1 => some (1, 1, false)
  | 98, 2 => some (2, 1, false)
  | 109, 0 => some (0, 1, false)
  | 109, 1 => some (1, 1, false)
  | 127, 0 => some (0, 1, false)
  | 127, 1 => some (1, 1, false)
  | 137, 0 => some (0, 1, false)
  | 137, 1 => some (1, 3, true)
  | 146, 0 => some (0, 1, false)
  | 146, 1 => some (1, 1, false)
  | 146, 2 => some (2, 5, true)
  | 149, 0 => some (0, 1, false)
  | 151, 0 => some (0, 1, true)
  | 151, 1 => some (1, 1, false)
  | 153, 0 => some (0, 1, false)
  | 153, 1 => some (1, 1, false)
  | 153, 2 => some (2, 1, false)
  | 153, 3 => some (3, 1, false)
  | 158, 0 => some (0, 1, false)
  | 158, 1 => some (1, 1, false)
  | 177, 0 => some (0, 4, true)
  | 177, 1 => some (4, 1, false)
  | 177, 2 => some (5, 1, false)
  | 194, 0 => some (0, 3, true)
  | 194, 1 => some (3, 1, false)
  | 194, 2 => some (4, 1, false)
  | 194, 3 => some (5, 1, false)
  | 194, 4 => some (6, 1, false)
  | 194, 5 => some (7, 1, false)
  | 194, 6 => some (8, 1, false)
  | 194, 7 => some (9, 1, false)
  | _, _ => none

def tabZero : Nat → Option (List AV)
  | 2 => some [.sv (.int .i64 0)]
  | 3 => some [.sv (.int .i64 0)]
  | 4 => some [.sv (.bool false)]
  | 5 => some [.sv (.int .u8 0)]
  | 9 => some [.sv (.str [])]
  | 21 => some [.sv (.int .i32 0)]
  | 22 => some [.nil]
  | 25 => some [.sv (.int .i64 0)]
  | 32 => some [.nil]
  | 35 => some [.sv (.int .i64 0), .sv (.str []), .sv (.int .i64 0)]
  | 37 => some [.nil]
  | 39 => some [.sv (.int .i64 0), .sv (.int .i64 0), .sv (.int .i64 0), .nil]
  | 47 => some [.sv (.int .i64 0), .sv (.int .i64 0), .sv (.int .i64 0), .sv (.int .i64 0), .sv (.int .i64 0)]
  | 48 => some [.nil]
  | 57 => some [.nil]
  | 58 => some [.nil]
  | 60 => some [.nil, .nil]
  | 63 => some [.nil]
  | 64 => some [.nil]
  | 66 => some [.sv (.int .i64 0), .sv (.int .i64 0), .sv (.str []), .nil, .nil]
  | 79 => some [.nil]
  | 83 => some [.nil]
  | 95 => some [.nil]
  | 98 => some [.nil, .sv (.int .i64 0), .sv (.int .i64 0)]
  | 102 => some [.nil]
  | 106 => some [.sv .nilp]
  | 107 => some [.nil]
  | 109 => some [.sv .nilp, .nil]
  | 125 => some [.sv .nilp]
  | 127 => some [.nil, .sv (.bool false)]
  | 135 => some [.sv (.int .i64 0), .sv (.int .i64 0), .sv (.int .i64 0)]
  | 137 => some [.sv (.str []), .sv (.int .i64 0), .sv (.int .i64 0), .sv (.int .i64 0)]
  | 140 => some [.sv .nilp]
  | 141 => some [.sv .nilp, .sv .nilp, .sv .nilp]
  | 143 => some [.sv .nilp]
  | 146 => some [.sv (.str []), .nil, .sv (.int .i64 0), .sv (.int .i64 0), .sv (.str []), .nil, .nil]
  | 147 => some [.sv .nilp]
  | 149 => some [.nil]
  | 151 => some [.nil, .sv (.bool false)]
  | 153 => some [.sv (.str []), .nil, .sv (.str []), .sv (.int .i64 0)]
  | 158 => some [.nil, .sv (.bool false)]
  | 168 => some [.sv .nilp]
  | 175 => some [.nil]
  | 177 => some [.sv (.int .i64 0), .sv (.int .i64 0), .sv (.int .i64 0), .nil, .nil, .nil]
  | 178 => some [.sv (.int .u64 0)]
  | 180 => some [.sv (.int .u64 0), .sv (.int .u64 0)]
  | 190 => some [.sv .nilp]
  | 194 => some [.nil, .sv (.int .i64 0), .sv (.int .i64 0), .sv (.int .i64 0), .nil, .nil, .sv (.int .i64 0), .sv (.int .i64 0), .sv (.bool false), .nil]
  | 195 => some [.sv .nilp]
  | 198 => some [.nil]
  | 204 => some [.sv (.int .i64 0), .sv (.int .i64 0), .sv (.int .i64 0), .sv (.int .i64 0), .sv (.int .i64 0), .sv (.int .i64 0)]
  | _ => none

def tab : Tab := ⟨fun t => if t < 230 then tabSize t else none, fun t => if t < 230 then tabKind t else none, fun t i => if t < 230 ∧ i < 12 then tabField t i else none, fun t => if t < 230 then tabZero t else none⟩

end Go.Proofs.Ytmhamnnfcmkcfaa

/- The type table tells the truth of a program, if a check says so. -/
namespace Go.Proofs.Ytmhamnnfcmkcfaa
open Go.RowKit

/-! ### The check -/

def sizeB (P : Program) (t : Nat) (x : Nat × Bool) : Bool :=
  match P.info? t, P.underlying t with
  | some i, some d => i.size == x.1 && (d.isRow == x.2 && (x.2 || x.1 == 1))
  | _, _ => false

def ekB (P : Program) (t : Nat) : EK → Bool
  | .bool => match P.underlying t with | some .bool => true | _ => false
  | .int k => match P.underlying t with | some (.int k') => decide (k' = k) | _ => false
  | .str => match P.underlying t with | some .string => true | _ => false

def fitB (P : Program) : List EK → List Field → Nat → Bool
  | [], [], _ => true
  | k :: ks, f :: fs, o => f.name != "_" && (f.offset == o && (ekB P f.type k && fitB P ks fs (o + 1)))
  | _, _, _ => false

def eqStructB (P : Program) (t : Nat) : Option (List EK) → Bool
  | none => true
  | some ks => match P.underlying t with
    | some (.struct fs) => !P.eqGuardType P.depth t && (!P.stoodInHeld t && fitB P ks fs.toList 0)
    | _ => false

def eqArrB (P : Program) (t : Nat) : Option (List EK) → Bool
  | none => true
  | some ks => match P.underlying t with
    | some (.array n e) => !P.eqGuardType P.depth t && (ks.length == n && (P.cellsOf e == 1 && (ks.all (ekB P e) && (P.info? e).isSome)))
    | _ => false

def kindB (P : Program) (t : Nat) : K → Bool
  | .bool => ekB P t .bool
  | .int k => ekB P t (.int k)
  | .str => ekB P t .str
  | .slice elem esz bytes byte => match P.underlying t, P.info? elem with
    | some (.slice e), some i => e == elem && (i.size == esz && (i.bytes == bytes && ((match i.zero with | some zv => zv.cells.size == esz | none => false) && (!byte || ekB P elem (.int .u8)))))
    | _, _ => false
  | .arr n esz agg eq => match P.underlying t with
    | some (.array m e) => m == n && (sizeB P e (esz, agg) && eqArrB P t eq)
    | _ => false
  | .struct eq => match P.underlying t with
    | some (.struct _) => eqStructB P t eq
    | _ => false
  | .ptr => match P.underlying t with | some (.pointer _) => true | _ => false
  | .map key elem => match P.underlying t with
    | some (.map kt e) => e == elem && (ekB P kt key && (match P.info? elem with | some i => (match i.zero with | some (.agg _) => false | some _ => true | none => false) | none => false))
    | _ => false
  | .other => true

def fieldB (P : Program) (t i : Nat) (x : Nat × Nat × Bool) : Bool :=
  match P.underlying t with
  | some (.struct fs) => match fs[i]? with
    | some f => f.offset == x.1 && (decide (0 < x.2.1) && sizeB P f.type (x.2.1, x.2.2))
    | none => false
  | _ => false

def zRep : AV → Value → Bool
  | .sv (.bool a), .bool b => a == b
  | .sv (.int k n), .int k' n' => decide (k = k') && decide (n = n')
  | .sv (.str s), .string b => b.data.toList == s
  | .nil, .slice _ 0 0 => true
  | .sv .nilp, .pointer none => true
  | .sv .nilIface, .nilIface => true
  | _, _ => false

def zRepL : List AV → List Value → Bool
  | [], [] => true
  | c :: cs, v :: vs => zRep c v && zRepL cs vs
  | _, _ => false

def zeroB (P : Program) (t : Nat) (z : List AV) : Bool :=
  (match P.info? t with
  | some i => match i.zero with
    | some v => i.size == z.length && (z.all cell1 && zRepL z v.cells.toList)
    | none => false
  | none => false) &&
  (match P.underlying t with
  | some (.struct fs) => fs.toList.all fun f => (P.info? f.type).isSome
  | _ => true)

def optAll {α : Type} (f : α → Bool) : Option α → Bool
  | some x => f x
  | none => true

def tabB (P : Program) (T : Tab) (n m : Nat) : Bool :=
  (List.range n).all fun t => optAll (sizeB P t) (T.size t) && (optAll (kindB P t) (T.kind t) && (optAll (zeroB P t) (T.zero t) && (List.range m).all fun i => optAll (fieldB P t i) (T.field t i)))

/-! ### What it yields -/

section
variable {P : Program}

theorem sizeB_ok {t : Nat} {x : Nat × Bool} (h : sizeB P t x = true) : SizeOk P t x.1 x.2 := by
  unfold sizeB at h
  split at h
  · rename_i i d hi hd
    simp only [Bool.and_eq_true, beq_iff_eq, Bool.or_eq_true] at h
    refine ⟨i, d, hi, h.1, hd, h.2.1, fun hf => ?_⟩
    rcases h.2.2 with q | q
    · rw [q] at hf; cases hf
    · exact q
  · cases h

theorem ekB_bool {t : Nat} (h : ekB P t .bool = true) : P.underlying t = some .bool := by
  unfold ekB at h; simp only at h; split at h
  · assumption
  · cases h
theorem ekB_str {t : Nat} (h : ekB P t .str = true) : P.underlying t = some .string := by
  unfold ekB at h; simp only at h; split at h
  · assumption
  · cases h
theorem ekB_int {t : Nat} {k : IntKind} (h : ekB P t (.int k) = true) : P.underlying t = some (.int k) := by
  unfold ekB at h; simp only at h; split at h
  · rename_i k' hk; rw [hk, of_decide_eq_true h]
  · cases h

/-- One cell. -/
theorem eq_cell {t : Nat} {k : EK} {ks : List EK} {xs ys : List Value} {b : Bool} (hk : ekB P t k = true) (h : eqVals (k :: ks) xs ys = some b) :
    ∃ x y xs' ys' c r, xs = x :: xs' ∧ ys = y :: ys' ∧ eqVals ks xs' ys' = some r ∧ b = (c && r) ∧ ∀ (d : Nat) (w : World), (Op.equalIn (d + 1) t x y).run P w = .ok c w := by
  cases k with
  | bool =>
    unfold eqVals at h
    split at h <;> first | cases h; done | skip
    · rename_i e3; cases e3
    · rename_i ks' a xs' b' ys' e1
      cases e1
      obtain ⟨r, h1, h2⟩ := Option.bind_eq_some_iff.1 h
      cases h2
      exact ⟨_, _, _, _, _, r, rfl, rfl, h1, rfl, fun d w => run_equalIn_bool w d t _ _ (ekB_bool hk)⟩
    all_goals (rename_i e1; cases e1)
  | int k =>
    unfold eqVals at h
    split at h <;> first | cases h; done | skip
    · rename_i e3; cases e3
    · rename_i e1; cases e1
    · rename_i ks' k' k1 a xs' k2 b' ys' e1
      cases e1
      split at h
      · rename_i q
        obtain ⟨rfl, rfl⟩ := q
        obtain ⟨r, h1, h2⟩ := Option.bind_eq_some_iff.1 h
        cases h2
        exact ⟨_, _, _, _, _, r, rfl, rfl, h1, rfl, fun d w => run_equalIn_int w d t _ _ _ _ (ekB_int hk)⟩
      · cases h
    all_goals (rename_i e1; cases e1)
  | str =>
    unfold eqVals at h
    split at h <;> first | cases h; done | skip
    · rename_i e3; cases e3
    · rename_i e1; cases e1
    · rename_i e1; cases e1
    · rename_i ks' a xs' b' ys' e1
      cases e1
      obtain ⟨r, h1, h2⟩ := Option.bind_eq_some_iff.1 h
      cases h2
      exact ⟨_, _, _, _, _, r, rfl, rfl, h1, rfl, fun d w => by simp [Op.equalIn, run_underlying (ekB_str hk)]⟩

theorem run_part_one {t : Nat} {k : EK} (hk : ekB P t k = true) {xs : Array Value} {off : Nat} {v : Value} (hx : xs[off]? = some v) (w : World) : (part t xs off).run P w = .ok v w := by
  cases k with
  | bool => simp [part, run_isAgg (ekB_bool hk), hx, TypeDesc.isRow]
  | int k => simp [part, run_isAgg (ekB_int hk), hx, TypeDesc.isRow]
  | str => simp [part, run_isAgg (ekB_str hk), hx, TypeDesc.isRow]

theorem fields_eq {X Y : List Value} (d : Nat) : ∀ (ks : List EK) (fs : List Field) (o : Nat) (b : Bool), fitB P ks fs o = true → eqVals ks (X.drop o) (Y.drop o) = some b → ∀ w, (Op.eqFields (d + 1) X.toArray Y.toArray fs).run P w = .ok b w
  | [], [], o, b, _, h, w => by
    have hb : b = true := by
      unfold eqVals at h
      split at h <;> first | (cases h; done) | (cases h; rfl) | contradiction
    subst hb
    simp [Op.eqFields]
  | k :: ks, f :: fs, o, b, hf, h, w => by
    simp only [fitB, Bool.and_eq_true, bne_iff_ne, beq_iff_eq] at hf
    obtain ⟨f1, f2, f3, f4⟩ := hf
    obtain ⟨x, y, xs', ys', c, r, hx, hy, h1, rfl, h2⟩ := eq_cell f3 h
    have hX : X.toArray[f.offset]? = some x := by
      have : (X.drop o)[0]? = some x := by rw [hx]; rfl
      rw [List.getElem?_drop] at this
      simpa [f2] using this
    have hY : Y.toArray[f.offset]? = some y := by
      have : (Y.drop o)[0]? = some y := by rw [hy]; rfl
      rw [List.getElem?_drop] at this
      simpa [f2] using this
    have hxs : xs' = X.drop (o + 1) := by rw [← List.drop_drop, hx]; rfl
    have hys : ys' = Y.drop (o + 1) := by rw [← List.drop_drop, hy]; rfl
    rw [hxs, hys] at h1
    have ih := fields_eq (X := X) (Y := Y) d ks fs (o + 1) r f4 h1 w
    simp only [Op.eqFields, f1, ne_eq, not_false_eq_true, if_true, Sem.run_bind, run_part_one f3 hX, run_part_one f3 hY, Result.andThen_ok, h2]
    cases c
    · simp
    · simp [ih]
  | [], _ :: _, _, _, hf, _, _ => by cases hf
  | _ :: _, [], _, _, hf, _, _ => by cases hf

theorem items_eq {X Y : List Value} {e : Nat} (d : Nat) : ∀ (ks : List EK) (o : Nat) (b : Bool), ks.all (ekB P e) = true → eqVals ks (X.drop o) (Y.drop o) = some b → ∀ w, (Op.eqItems (d + 1) e 1 X.toArray Y.toArray (List.range' o ks.length)).run P w = .ok b w
  | [], o, b, _, h, w => by
    have hb : b = true := by
      unfold eqVals at h
      split at h <;> first | (cases h; done) | (cases h; rfl) | contradiction
    subst hb
    simp [Op.eqItems]
  | k :: ks, o, b, hf, h, w => by
    simp only [List.all_cons, Bool.and_eq_true] at hf
    obtain ⟨x, y, xs', ys', c, r, hx, hy, h1, rfl, h2⟩ := eq_cell hf.1 h
    have hX : X.toArray[o * 1]? = some x := by
      have : (X.drop o)[0]? = some x := by rw [hx]; rfl
      rw [List.getElem?_drop] at this
      simpa using this
    have hY : Y.toArray[o * 1]? = some y := by
      have : (Y.drop o)[0]? = some y := by rw [hy]; rfl
      rw [List.getElem?_drop] at this
      simpa using this
    have hxs : xs' = X.drop (o + 1) := by rw [← List.drop_drop, hx]; rfl
    have hys : ys' = Y.drop (o + 1) := by rw [← List.drop_drop, hy]; rfl
    rw [hxs, hys] at h1
    have ih := items_eq (X := X) (Y := Y) d ks (o + 1) r hf.2 h1 w
    rw [List.length_cons, List.range'_succ]
    simp only [Op.eqItems, Sem.run_bind, run_part_one hf.1 hX, run_part_one hf.1 hY, Result.andThen_ok, h2]
    cases c
    · simp
    · simp [ih]

theorem eqStructB_ok {t : Nat} {e : Option (List EK)} (h : eqStructB P t e = true) : EqOk P t e := by
  intro ks hks
  subst hks
  unfold eqStructB at h
  simp only at h
  split at h
  · rename_i fs hu
    simp only [Bool.and_eq_true, Bool.not_eq_true'] at h
    refine ⟨h.1, fun w xs ys b hb => ?_⟩
    have hfs : P.fieldsOf t = fs := by simp [Program.fieldsOf, hu]
    unfold Op.equal
    rw [show Op.maxDepth = 9999 + 1 from rfl, run_equalIn_struct w 9999 t _ _ (by rw [hfs]; exact hu) h.2.1, hfs]
    exact fields_eq 9998 ks fs.toList 0 b h.2.2 (by simpa using hb) w
  · cases h

theorem eqArrB_ok {t : Nat} {e : Option (List EK)} (h : eqArrB P t e = true) : EqOk P t e := by
  intro ks hks
  subst hks
  unfold eqArrB at h
  simp only at h
  split at h
  · rename_i n el hu
    simp only [Bool.and_eq_true, Bool.not_eq_true', beq_iff_eq] at h
    obtain ⟨h1, h2, h3, h4, h5⟩ := h
    refine ⟨h1, fun w xs ys b hb => ?_⟩
    obtain ⟨i, hi⟩ := Option.isSome_iff_exists.1 h5
    unfold Op.equal
    rw [show Op.maxDepth = 9999 + 1 from rfl, run_equalIn_array w 9999 _ _ hu hi, h3, List.range_eq_range', ← h2]
    exact items_eq 9998 ks 0 b h4 (by simpa using hb) w
  · cases h

theorem kindB_ok {t : Nat} {k : K} (h : kindB P t k = true) : KindOk P t k := by
  cases k with
  | bool => exact ekB_bool h
  | int k => exact ekB_int h
  | str => exact ekB_str h
  | slice elem esz bytes byte =>
    unfold kindB at h
    simp only at h
    split at h
    · rename_i e i hu hi
      simp only [Bool.and_eq_true, beq_iff_eq, Bool.or_eq_true, Bool.not_eq_true'] at h
      obtain ⟨rfl, h2, h3, h4, h5⟩ := h
      split at h4
      · rename_i zv hz
        refine ⟨hu, ⟨i, hi, h2, h3, zv, hz, by simpa using h4⟩, fun hb => ?_⟩
        rcases h5 with q | q
        · rw [q] at hb; cases hb
        · exact ekB_int q
      · cases h4
    · cases h
  | arr n esz agg eq =>
    unfold kindB at h
    simp only at h
    split at h
    · rename_i m e hu
      simp only [Bool.and_eq_true, beq_iff_eq] at h
      obtain ⟨rfl, h2, h3⟩ := h
      exact ⟨⟨e, hu, sizeB_ok h2⟩, eqArrB_ok h3⟩
    · cases h
  | struct eq =>
    unfold kindB at h
    simp only at h
    split at h
    · rename_i fs hu
      exact ⟨⟨fs, hu⟩, eqStructB_ok h⟩
    · cases h
  | ptr =>
    unfold kindB at h
    simp only at h
    split at h
    · rename_i e hu; exact ⟨e, hu⟩
    · cases h
  | map key elem =>
    unfold kindB at h
    simp only at h
    split at h
    · rename_i kt e hu
      simp only [Bool.and_eq_true, beq_iff_eq] at h
      obtain ⟨rfl, h2, h3⟩ := h
      split at h3
      · rename_i i hi
        refine ⟨kt, hu, ?_, i, ?_⟩
        · cases key with
          | int k => exact ekB_int h2
          | str => exact ekB_str h2
          | bool => exact ekB_bool h2
        · split at h3
          · cases h3
          · rename_i zv hn hz
            refine ⟨zv, hi, hz, ?_⟩
            cases zv <;> first | rfl | (exfalso; exact hn _ rfl)
          · cases h3
      · cases h3
    · cases h
  | other => trivial

theorem zRep_ok {c : AV} {v : Value} (h : zRep c v = true) (G : Gh) : Rep G c v := by
  unfold zRep at h
  split at h
  · rw [beq_iff_eq] at h; subst h; exact .sv (.bool _)
  · simp only [Bool.and_eq_true, decide_eq_true_eq] at h; obtain ⟨rfl, rfl⟩ := h; exact .sv (.int _ _)
  · rename_i s b
    rw [beq_iff_eq] at h
    subst h
    exact .sv (.str b.data.toList)
  · exact .nil _
  · exact .sv .nilp
  · exact .sv .nilIface
  · cases h

theorem zRepL_ok (G : Gh) : ∀ (z : List AV) (vs : List Value), zRepL z vs = true → RepL G z vs
  | [], [], _ => RepL.nil G
  | c :: cs, v :: vs, h => by
    simp only [zRepL, Bool.and_eq_true] at h
    exact (zRepL_ok G cs vs h.2).cons (zRep_ok h.1 G)
  | [], _ :: _, h => by cases h
  | _ :: _, [], h => by cases h

theorem optAll_some {α : Type} {f : α → Bool} {o : Option α} (h : optAll f o = true) {x : α} (e : o = some x) : f x = true := by subst e; exact h

theorem tabB_ok {T : Tab} {n m : Nat} (h : tabB P T n m = true) (h1 : ∀ t, n ≤ t → T.size t = none) (h2 : ∀ t, n ≤ t → T.kind t = none) (h3 : ∀ t, n ≤ t → T.zero t = none) (h4 : ∀ t i, ¬ (t < n ∧ i < m) → T.field t i = none) : TabOk P T := by
  have all : ∀ t, t < n → _ := fun t ht => List.all_eq_true.1 h t (List.mem_range.2 ht)
  simp only [Bool.and_eq_true] at all
  have zero : ∀ t z, T.zero t = some z → zeroB P t z = true := fun t z hz => by
    by_cases q : t < n
    · exact optAll_some (all t q).2.2.1 hz
    · rw [h3 t (by omega)] at hz; cases hz
  refine ⟨fun t a b e => ?_, fun t k e => ?_, fun t i off k agg e => ?_, fun t z e => ?_, fun t z fs e hu f hf => ?_⟩
  · by_cases q : t < n
    · exact sizeB_ok (optAll_some (all t q).1 e)
    · rw [h1 t (by omega)] at e; cases e
  · by_cases q : t < n
    · exact kindB_ok (optAll_some (all t q).2.1 e)
    · rw [h2 t (by omega)] at e; cases e
  · by_cases q : t < n ∧ i < m
    · have hb := optAll_some (List.all_eq_true.1 (all t q.1).2.2.2 i (List.mem_range.2 q.2)) e
      unfold fieldB at hb
      split at hb
      · rename_i fs hu
        split at hb
        · rename_i f hf
          simp only [Bool.and_eq_true, beq_iff_eq, decide_eq_true_eq] at hb
          exact ⟨fs, f, hu, hf, hb.1, hb.2.1, sizeB_ok hb.2.2⟩
        · cases hb
      · cases hb
    · rw [h4 t i q] at e; cases e
  · have hb := zero t z e
    unfold zeroB at hb
    rw [Bool.and_eq_true] at hb
    have hb := hb.1
    split at hb
    · rename_i i hi
      split at hb
      · rename_i v hv
        simp only [Bool.and_eq_true, beq_iff_eq] at hb
        have hL : ∀ G, RepL G z v.cells.toList := fun G => zRepL_ok G _ _ hb.2.2
        refine ⟨i, v, hi, hv, hb.1, hb.2.1, hL, fun G hc d hd => ?_⟩
        subst hd
        have := hL G
        rw [hc] at this
        exact this.2 0 d v rfl rfl
      · cases hb
    · cases hb
  · have hb := zero t z e
    unfold zeroB at hb
    rw [Bool.and_eq_true, hu] at hb
    have := List.all_eq_true.1 hb.2 f (by simpa using hf)
    exact Option.isSome_iff_exists.1 this

end

theorem tab_ok {P : Program} (h : tabB P tab 230 12 = true) : TabOk P tab :=
  tabB_ok h (fun t ht => if_neg (by omega)) (fun t ht => if_neg (by omega)) (fun t ht => if_neg (by omega)) (fun t i hn => if_neg hn)

end Go.Proofs.Ytmhamnnfcmkcfaa

/- Two functions told by plain ones: where a byte is first in a string; a slice's clone. -/
namespace Go.Proofs.Ytmhamnnfcmkcfaa
open Go.RowKit

def ibsP : List AV → Option AV
  | [.sv (.str s), .sv (.int .u8 c)] => some (.sv (.int .i64 (Lib.indexByte s c.toNat.toUInt8)))
  | _ => none

def cloneP (esz : Nat) : List AV → Option AV
  | [.sv (.slice xs)] => if xs.length ≤ 1000000000000 ∧ xs.all (fun c => c.length == esz) then some (.sv (.slice xs)) else none
  | _ => none

section
variable {P : Program}

theorem pure_same {S : Settled} {w w' : World} {v : AV} {cv : Value} (hS : ∀ b o u, S b o = some u → w'.cell? ⟨b, o, none⟩ = some u) (hb : Below w.heap.size w w') (hv : ∀ loc, Rep ⟨S, loc⟩ v cv) : Pure S w v cv w' :=
  ⟨S, SLe.refl S, fun b o u h1 h2 => by (rw [h1] at h2; cases h2), hS, hb, hv⟩

theorem ibs_ok {f : Nat} {fn : Func} (hf : P.funcs[f]? = some fn) (hname : (fn.name == "runtime.NumGoroutine") = false) (hb : fn.body.isNone = true) (hn : Extern.findNext fn = none) (he : Extern.find fn = some Extern.BytealgIndexByte.indexByte)
    {args : List AV} {v : AV} {S : Settled} {w : World} {cargs : List Value} (e : ibsP args = some v) (hL : ∀ loc, RepL ⟨S, loc⟩ args cargs) (hS : ∀ b o u, S b o = some u → w.cell? ⟨b, o, none⟩ = some u) : Runs P f cargs.toArray w (Pure S w v) := by
  unfold ibsP at e
  split at e
  · rename_i s c
    cases e
    obtain ⟨v1, vs1, rfl, r1, hL1⟩ := (hL fun _ => none).uncons
    obtain ⟨v2, vs2, rfl, r2, hL2⟩ := hL1.uncons
    obtain rfl : vs2 = [] := List.eq_nil_of_length_eq_zero hL2.1.symm
    cases r1 with | sv r1 =>
    cases r1 with | str s =>
    cases r2 with | sv r2 =>
    cases r2 with | int k n =>
    have hrun := run_callFunc_extern hf hname hb hn he #[.string ⟨s.toArray⟩, .int .u8 c] w
    rw [Lib.run_indexByteString, Result.andThen_ok] at hrun
    exact Runs.of_value hrun (pure_same hS (Below.refl _ _) fun loc => .sv (.int _ _))
  · cases e

def cloneCode (t : Nat) : Code :=
  (Code.region 0 #[{ dst := some 2, op := .assign (.const (.slice none 0 0)), type := t, pos := "slices.go:355", after := #[], guard := none }] false).seq
    (((Code.region 1 #[{ dst := some 3, op := .move (.tmp 0), type := t, pos := "slices.go:357", after := #[], guard := none },
          { dst := some 4, op := .binOp .eql t (.tmp 3) (.const (.slice none 0 0)) t, type := 4, pos := "slices.go:357", after := #[{ on := 0, ground := .data }], guard := none }] false).seq
        (Code.cond (.tmp 4) ((Code.region 2 #[{ dst := some 2, op := .assign (.const (.slice none 0 0)), type := t, pos := "slices.go:358", after := #[], guard := none }] false).seq .ret) .skip)).seq
      ((Code.region 3 #[{ dst := some 5, op := .buildSlice t 0 #[], type := t, pos := "slices.go:362", after := #[], guard := none },
          { dst := some 6, op := .move (.tmp 0), type := t, pos := "slices.go:362", after := #[], guard := none },
          { dst := some 7, op := .call { callee := .builtin .append, args := #[.tmp 5, .tmp 6], argTypes := #[t, t] }, type := t, pos := "slices.go:362", after := #[{ on := 0, ground := .data }, { on := 1, ground := .data }], guard := none },
          { dst := some 2, op := .assign (.tmp 7), type := t, pos := "slices.go:362", after := #[{ on := 2, ground := .data }, { on := 2, ground := .chain }, { on := 0, ground := .phase }, { on := 1, ground := .phase }, { on := 2, ground := .phase }], guard := none }] false).seq .ret))

theorem eql_nil {t e : Nat} (hu : P.underlying t = some (.slice e)) (a : Option Addr) (l c : Nat) (w : World) : (binOp .eql t (.slice a l c) (.slice none 0 0)).run P w = .ok (.bool a.isNone) w := by
  have := run_equal_slice_nil (P := P) w t e a l c hu
  simp [binOp, this]

theorem exec_eql_nil {t e : Nat} (hu : P.underlying t = some (.slice e)) (ac : Act) {a : Option Addr} {l c : Nat} (hv : ac.eval (.tmp 3) = .slice a l c) (d : Option Nat) (ty : Nat) (pos : String) (aft : Array Edge) (g : Option (Nat × Bool)) (w : World) :
    (execOp ac.eval ⟨d, .binOp .eql t (.tmp 3) (.const (.slice none 0 0)) t, ty, pos, aft, g⟩).run P w = .ok (.value (.bool a.isNone)) w := by
  have h2 : ac.eval (.const (.slice none 0 0)) = .slice none 0 0 := rfl
  simp [execOp, hv, h2, eql_nil hu, eqGuard]

theorem repS_slice {S : Settled} {xs : List (List SV)} {v : Value} (h : RepS S (.slice xs) v) : ∃ a cap, v = .slice a xs.length cap ∧ (a = none → xs = []) := by
  cases h with
  | slice0 a cap => exact ⟨a, cap, rfl, fun _ => rfl⟩
  | slice xs b o cap esz vs => exact ⟨_, _, rfl, fun h => by cases h⟩

theorem clone_ok {T : Tab} (hT : TabOk P T) {f t e esz bytes : Nat} {fn : Func} {z : List AV} (hf : P.funcs[f]? = some fn) (hname : (fn.name == "runtime.NumGoroutine") = false) (hb : fn.body = some (cloneCode t)) (hr : fn.results = #[.tmp 2]) (hn : fn.ntmps = 8)
    (hk : T.kind t = some (.slice e esz bytes false)) (hz : T.zero e = some z) (hzl : z.length = esz) (hzc : z.all cell1 = true) (he : 0 < esz) (hby : bytes ≤ 120)
    {args : List AV} {v : AV} {S : Settled} {w : World} {cargs : List Value} (ea : cloneP esz args = some v) (hL : ∀ loc, RepL ⟨S, loc⟩ args cargs) (hS : ∀ b o u, S b o = some u → w.cell? ⟨b, o, none⟩ = some u) : Runs P f cargs.toArray w (Pure S w v) := by
  unfold cloneP at ea
  split at ea
  · rename_i xs
    split at ea
    · rename_i hxs
      cases ea
      obtain ⟨hlen, hsz⟩ := hxs
      have hsz' : ∀ x ∈ xs, x.length = esz := fun x hx => by simpa using List.all_eq_true.1 hsz x hx
      obtain ⟨v1, vs1, rfl, r1, hL1⟩ := (hL fun _ => none).uncons
      obtain rfl : vs1 = [] := List.eq_nil_of_length_eq_zero hL1.1.symm
      have hrS : RepS S (.slice xs) v1 := by cases r1 with | sv h => exact h
      obtain ⟨a, cap, rfl, hnil⟩ := repS_slice hrS
      have hu : P.underlying t = some (.slice e) := (hT.kind t _ hk).1
      refine Runs.of_calls hf hb hname ?_
      refine calls_of_wp hf hb ?_
      let G : Gh := ⟨S, fun _ => none⟩
      let N := 8
      let tm0 : Tm := init [.sv (.slice xs)]
      have hA0 : At w.heap.size G w N [] tm0 [] G { tmps := #[Value.slice a xs.length cap] ++ Array.replicate (fn.ntmps - 1) undef, defers := [] } w :=
        ⟨by rw [hn]; exact init_rep (hL fun _ => none) 7, Inv.bare hS, Mv.refl _ _ _, by simp [hn, N], rfl⟩
      generalize { tmps := #[Value.slice a xs.length cap] ++ Array.replicate (fn.ntmps - 1) undef, defers := [] : Act } = a0 at hA0
      have hC : FnOk P (fun _ _ _ => none) := fun _ _ _ _ _ _ _ _ _ e => by cases e
      -- the end
      have fin : ∀ (r : AV) (h' : Heap), frzR frzDepth h' r = some (.sv (.slice xs)) → ∀ (o : Out) (tm : Tm) (h : Heap) (G2 : Gh) (a2 : Act) (w2 : World), endK optB T [.tmp 2] o tm h = some (r, h') → At w.heap.size G w N [] tm h G2 a2 w2 →
          bodyPost P fn (fun | .returned v, w' => Pure S w (.sv (.slice xs)) v w' | _, _ => False) o.ex a2 w2 := by
        intro r h' hfr o tm h G2 a2 w2 e hA
        obtain ⟨q1, rfl, cv, q2, q3⟩ := results_sound (fn := fn) hT hA.inv hA.rep (by rw [hr]; exact e)
        obtain ⟨S', s1, s2, s3, s4⟩ := res_settle hA.inv q3 hfr
        have hp : Pure S w (.sv (.slice xs)) cv w2 := by
          refine ⟨S', hA.mv.le.S.trans s1, fun b o u q1 q2 => ?_, s3, hA.mv.below, s4⟩
          cases e : G2.S b o with
          | none => exact s2 b o u q1 e
          | some u' => exact hA.mv.fresh b o u' e q2
        cases o with
        | exit i => exact absurd rfl (q1 i)
        | normal => exact ⟨hA.defers, cv, q2, hp⟩
        | ret => exact ⟨hA.defers, cv, q2, hp⟩
      have hdst : ∀ (o : Oper) (d : Nat), o.dst = some d → d < 8 → ∀ t, o.dst = some t → t < N := fun o d h1 h2 t h3 => by rw [h1] at h3; cases h3; exact h2
      unfold cloneCode
      -- the first region
      refine wp_seq (wp_region_list (ops_ok (T := T) (C := fun _ _ _ => none) (K := fun tm h => some (tm, h)) (r := (upd tm0 2 .nil, [])) (N := N) (ds := []) hT hC ?_ _ tm0 [] G a0 w ?_ rfl hA0))
      · intro tm h G1 a1 w1 e1 hA1
        cases e1
        show Code.wp P _ _ a1 w1
        refine wp_seq (wp_seq (wp_region_list (wpList_plain rfl fun K hK => ?_)))
        refine op_ok hT hC hA1.rep hA1.inv (.inr ⟨rfl, rfl⟩) fun cv w2 G2 m1 m2 m3 => hK _ _ ?_
        have hA2 := hA1.step (d := some 3) (fun t ht => by cases ht; decide) m1 m2 m3
        refine wpList_plain rfl fun K2 hK2 => ?_
        have h3 : Rep G2 (.sv (.slice xs)) ((a1.put (some 3) cv).eval (.tmp 3)) := ev_rep hA2.rep (.tmp 3)
        obtain ⟨a', cap', hv3, hnil'⟩ := repS_slice (show RepS G2.S (.slice xs) _ by cases h3 with | sv h => exact h)
        unfold Oper.wp
        rw [exec_eql_nil hu _ hv3, Oper.upon_value]
        refine hK2 _ _ ?_
        have hA3 := hA2.step (d := some 4) (v := .sv (.bool a'.isNone)) (cv := .bool a'.isNone) (fun t ht => by cases ht; decide) (Mv.refl _ _ _) hA2.inv (.sv (.bool _))
        show Code.wp P _ _ _ _
        refine wp_cond (t := a'.isNone) (asB_rep (ev_rep hA3.rep (.tmp 4)) rfl) ?_
        cases ha : a'.isNone with
        | true =>
          rw [ha] at hA3
          have hx : xs = [] := hnil' (by simpa using ha)
          rw [if_pos rfl]
          refine code_ok (T := T) (sh := fun _ => false) (C := fun _ _ _ => none) (D := noD) (n := 0) (N := N) (ds := []) hT hC _ (AV × Heap) (fun o tm h => match o with | .ret => endK optB T [.tmp 2] .ret tm h | _ => none) (.nil, []) _ _ _ _ _ _ rfl (by exact ⟨trivial, trivial⟩) rfl hA3 ?_
          intro o tm h G4 a4 w4 e4 hA4
          cases o with
          | ret => exact fin .nil [] (by subst hx; rfl) .ret tm h G4 a4 w4 e4 hA4
          | normal => cases e4
          | exit i => cases e4
        | false =>
          rw [ha] at hA3
          rw [if_neg Bool.false_ne_true]
          refine wp_skip ?_
          show Code.wp P _ _ _ _
          have hz0 : zElem T (.slice e esz bytes false) = some z := hz
          have hbs : bsA (.slice e esz bytes false) (some z) 0 [] [] = some (.own 0 0 0, [.cells esz [] true]) := by
            simp [bsA, hzl, hzc, fillA]
          have hap : ∃ r, apA (.slice e esz bytes false) (.own 0 0 0) (.sv (.slice xs)) [.cells esz [] true] = some r ∧ frzR frzDepth r.2 r.1 = some (.sv (.slice xs)) := by
            simp only [apA, rows_sv hsz', Option.bind_some]
            by_cases hx : xs.length = 0
            · have : xs = [] := List.eq_nil_of_length_eq_zero hx
              subst this
              refine ⟨_, if_pos rfl, ?_⟩
              simp [frzR, frzV, frzC, frzDepth, he, takeN, frzCells, chunk]
            · rw [if_neg hx]
              have h0 : takeN ([] : List AV) 0 (0 * esz) = some [] := by simp [takeN]
              simp only [List.getElem?_cons_zero, Nat.zero_add, h0, Option.bind_some, List.nil_append]
              rw [if_pos ⟨trivial, hlen, hby, he⟩]
              refine ⟨_, rfl, ?_⟩
              have := frz_own (n := 5) (id := 1) (h := [Ent.cells esz [] true].set 0 .gone ++ [.cells esz (xs.flatten.map .sv) true]) he hsz' rfl
              simp only [frzR, frzV, frzDepth, List.length_cons, List.length_nil]
              rw [this]
              rfl
          obtain ⟨r, hr1, hr2⟩ := hap
          refine code_ok (T := T) (sh := fun _ => false) (C := fun _ _ _ => none) (D := noD) (n := 0) (N := N) (ds := []) hT hC _ (AV × Heap) (endK optB T [.tmp 2]) r _ _ _ _ _ _ rfl (by exact ⟨trivial, trivial⟩) ?_ hA3 ?_
          · have hk2 : rowKind (.slice e esz bytes false) = true := rfl
            simp [evCode, evOps, valOf, isAct, guardOf, gO, gW, evAct, hk, hz0, evParts, hbs, optB, ev, updO, upd, tm0, init, hk2, hr1, endK, resK, tup, outSeq]
          · intro o tm h G4 a4 w4 e4 hA4
            exact fin r.1 r.2 hr2 o tm h G4 a4 w4 e4 hA4
      · intro o ho t ht
        simp at ho
        subst ho
        cases ht
        decide
    · cases ea
  · cases ea

end
end Go.Proofs.Ytmhamnnfcmkcfaa

/- Which functions run on the caller's heap: printed. -/
namespace Go.Proofs.Ytmhamnnfcmkcfaa
def shared : Nat → Bool
  | 40 => true
  | 96 => true
  | 97 => true
  | 100 => true
  | 101 => true
  | 104 => true
  | 106 => true
  | 107 => true
  | 108 => true
  | 109 => true
  | 115 => true
  | 119 => true
  | 120 => true
  | 121 => true
  | 122 => true
  | 123 => true
  | 124 => true
  | 126 => true
  | 127 => true
  | 130 => true
  | 138 => true
  | 145 => true
  | 147 => true
  | 148 => true
  | 149 => true
  | 153 => true
  | 154 => true
  | 155 => true
  | 156 => true
  | 157 => true
  | 158 => true
  | 159 => true
  | 160 => true
  | 170 => true
  | 171 => true
  | 178 => true
  | 179 => true
  | 180 => true
  | 181 => true
  | 183 => true
  | 184 => true
  | 185 => true
  | 186 => true
  | 187 => true
  | 188 => true
  | 189 => true
  | 190 => true
  | 191 => true
  | 192 => true
  | 193 => true
  | 194 => true
  | 195 => true
  | 196 => true
  | 200 => true
  | 204 => true
  | 208 => true
  | 212 => true
  | 215 => true
  | _ => false
end Go.Proofs.Ytmhamnnfcmkcfaa

/- The program's environment: its types, its functions. -/
namespace Go.Proofs.Ytmhamnnfcmkcfaa
open Go.RowKit

theorem tab_prog : TabOk Try.prog tab := tab_ok (by kernel_rfl)

theorem mixed : Try.prog.follows .mixedOrders = true := Try.checked.mixed

/-- The functions that are told by plain ones; J: lexer.Join, where it is. -/
def prims (J : Option (List AV → Option AV)) (f : Nat) : Option (List AV → Option AV) :=
  if f = 198 then some ibsP else if f = 92 then some (cloneP 3) else if f = 177 then some (cloneP 1) else if f = 24 then J else none

def good (fn : Func) : Bool := !(fn.name == "runtime.NumGoroutine") && (match fn.body with | some c => okDst fn.ntmps c && drawB (drawChk tab shared) c | none => false)

noncomputable def env (J : Option (List AV → Option AV)) : Env :=
  { T := tab, M := { prim := prims J, shared := shared }, D := fun _ => noD, fn := fun f => (Try.prog.funcs[f]?).bind fun fn => if good fn = true then some fn else none }

theorem env_plain (J : Option (List AV → Option AV)) : (env J).plain := rfl

/-- What lexer.Join must do, where a plain function tells it. -/
def JoinOk (J : Option (List AV → Option AV)) : Prop := ∀ (g : List AV → Option AV) (args : List AV) (v : AV) (S : Settled) (w : World) (cargs : List Value), J = some g → g args = some v →
  (∀ loc, RepL ⟨S, loc⟩ args cargs) → (∀ b o u, S b o = some u → w.cell? ⟨b, o, none⟩ = some u) → Runs Try.prog 24 cargs.toArray w (Pure S w v)

theorem joinOk_none : JoinOk none := fun g _ _ _ _ _ h => by cases h

set_option maxRecDepth 100000 in
theorem env_ok {J : Option (List AV → Option AV)} (hJ : JoinOk J) : EnvOk Try.prog (env J) := by
  refine ⟨tab_prog, ?_, ?_⟩
  · intro f g args v S w cargs h1 h2 h3 h4
    simp only [env, prims] at h1
    split at h1
    · rename_i q; subst q; cases h1
      exact ibs_ok Try.func198 (by kernel_rfl) (by kernel_rfl) (by kernel_rfl) (by kernel_rfl) h2 h3 h4
    · split at h1
      · rename_i q; subst q; cases h1
        exact clone_ok tab_prog (t := 22) (e := 35) (bytes := 32) (z := [.sv (.int .i64 0), .sv (.str []), .sv (.int .i64 0)]) Try.func92 (by kernel_rfl) rfl rfl rfl rfl rfl rfl rfl (by decide) (by decide) h2 h3 h4
      · split at h1
        · rename_i q; subst q; cases h1
          exact clone_ok tab_prog (t := 63) (e := 9) (bytes := 16) (z := [.sv (.str [])]) Try.func177 (by kernel_rfl) rfl rfl rfl rfl rfl rfl rfl (by decide) (by decide) h2 h3 h4
        · split at h1
          · rename_i q; subst q
            exact hJ g args v S w cargs h1 h2 h3 h4
          · cases h1
  · intro f fn h
    simp only [env] at h
    obtain ⟨fn', h1, h2⟩ := Option.bind_eq_some_iff.1 h
    split at h2
    · rename_i hg
      cases h2
      unfold good at hg
      rw [Bool.and_eq_true] at hg
      obtain ⟨g1, g2⟩ := hg
      split at g2
      · rename_i c hc
        rw [Bool.and_eq_true] at g2
        refine ⟨h1, by simpa using g1, c, hc, g2.1, fun C n N hC hQ hN => ?_⟩
        exact drawB_ok (drawChk_ok mixed tab_prog) hC hQ c (okDst_mono hN c g2.1) g2.2
      · cases g2
    · cases h2

set_option maxRecDepth 100000 in
theorem env_fn {J : Option (List AV → Option AV)} {f : Nat} {fn : Func} (h : Try.prog.funcs[f]? = some fn) (hg : good fn = true) : (env J).fn f = some fn := by
  simp only [env, h, Option.bind_some, if_pos hg]

end Go.Proofs.Ytmhamnnfcmkcfaa

/- Equations of the interpreter's operations on plain values; calls of functions that work on memory of their own; loops. -/
namespace Go.Proofs.Ytmhamnnfcmkcfaa
open Go.RowKit

/-! ### Values -/

abbrev I (n : Int) : AV := .sv (.int .i64 n)
abbrev U8 (b : UInt8) : AV := .sv (.int .u8 b.toNat)
abbrev Bo (b : Bool) : AV := .sv (.bool b)
abbrev Sr (s : List UInt8) : AV := .sv (.str s)
abbrev NIL : AV := .sv .nilp

theorem wrapI {n : Int} (h1 : -9223372036854775808 ≤ n) (h2 : n ≤ 9223372036854775807) : IntKind.i64.wrap n = n := by
  simp only [IntKind.wrap, IntKind.bits]
  simp only [IntKind.signed]; simp; omega

theorem wrapU {n : Int} (h1 : 0 ≤ n) (h2 : n ≤ 255) : IntKind.u8.wrap n = n := by
  simp only [IntKind.wrap, IntKind.bits]
  simp only [IntKind.signed]; simp; omega

/-! ### Operations -/

@[simp] theorem optB_b {α β : Type} (x : Option α) (f : α → Option β) : optB.b x f = x.bind f := rfl
@[simp] theorem asB_bo (b : Bool) : asB (.sv (.bool b)) = some b := rfl
@[simp] theorem gO_none {α : Type} (x : Option α) (y : α) : gO none x y = x := rfl
@[simp] theorem gO_tt {α : Type} (b : Bool) (x : Option α) (y : α) : gO (some (.sv (.bool b), true)) x y = if b then x else some y := by cases b <;> rfl
@[simp] theorem gO_dead {α : Type} (w : Bool) (x : Option α) (y : α) : gO (some (.dead, w)) x y = some y := rfl
@[simp] theorem gO_ff {α : Type} (b : Bool) (x : Option α) (y : α) : gO (some (.sv (.bool b), false)) x y = if b then some y else x := by cases b <;> rfl

section
variable (k : IntKind) (K0 : K) (a b : Int)
@[simp] theorem bin_add : bin .add K0 (.sv (.int k a)) (.sv (.int k b)) = some (.sv (.int k (k.wrap (a + b)))) := by simp [bin, binI]
@[simp] theorem bin_sub : bin .sub K0 (.sv (.int k a)) (.sv (.int k b)) = some (.sv (.int k (k.wrap (a - b)))) := by simp [bin, binI]
@[simp] theorem bin_mul : bin .mul K0 (.sv (.int k a)) (.sv (.int k b)) = some (.sv (.int k (k.wrap (a * b)))) := by simp [bin, binI]
@[simp] theorem bin_eql : bin .eql K0 (.sv (.int k a)) (.sv (.int k b)) = some (.sv (.bool (decide (a = b)))) := by simp [bin, binI]; rfl
@[simp] theorem bin_neq : bin .neq K0 (.sv (.int k a)) (.sv (.int k b)) = some (.sv (.bool (!decide (a = b)))) := by simp [bin, binI]; rfl
@[simp] theorem bin_lss : bin .lss K0 (.sv (.int k a)) (.sv (.int k b)) = some (.sv (.bool (decide (a < b)))) := by simp [bin, binI]
@[simp] theorem bin_leq : bin .leq K0 (.sv (.int k a)) (.sv (.int k b)) = some (.sv (.bool (decide (a ≤ b)))) := by simp [bin, binI]
@[simp] theorem bin_gtr : bin .gtr K0 (.sv (.int k a)) (.sv (.int k b)) = some (.sv (.bool (decide (b < a)))) := by simp [bin, binI]
@[simp] theorem bin_geq : bin .geq K0 (.sv (.int k a)) (.sv (.int k b)) = some (.sv (.bool (decide (b ≤ a)))) := by simp [bin, binI]
end
@[simp] theorem bin_eqlS (K0 : K) (a b : List UInt8) : bin .eql K0 (.sv (.str a)) (.sv (.str b)) = some (.sv (.bool (decide (a = b)))) := by simp [bin, binS]; rw [Bool.eq_iff_iff]; simp
@[simp] theorem bin_neqS (K0 : K) (a b : List UInt8) : bin .neq K0 (.sv (.str a)) (.sv (.str b)) = some (.sv (.bool (!decide (a = b)))) := by simp [bin, binS]; rw [Bool.eq_iff_iff]; simp
@[simp] theorem bin_eqlB (a b : Bool) : bin .eql .bool (.sv (.bool a)) (.sv (.bool b)) = some (.sv (.bool (a == b))) := rfl
@[simp] theorem bin_neqB (a b : Bool) : bin .neq .bool (.sv (.bool a)) (.sv (.bool b)) = some (.sv (.bool (!(a == b)))) := rfl
@[simp] theorem un_not (b : Bool) : un .not (.sv (.bool b)) = some (.sv (.bool (!b))) := rfl
@[simp] theorem un_neg (k : IntKind) (n : Int) : un .neg (.sv (.int k n)) = some (.sv (.int k (k.wrap (0 - n)))) := rfl
@[simp] theorem cv_int (k k' : IntKind) (n : Int) : cv (.int k) (.sv (.int k' n)) = some (.sv (.int k (k.wrap n))) := rfl
@[simp] theorem ln_str (s : List UInt8) : ln .str (.sv (.str s)) = some (.sv (.int .i64 s.length)) := rfl
@[simp] theorem ln_slice (e n b : Nat) (y : Bool) (xs : List (List SV)) : ln (.slice e n b y) (.sv (.slice xs)) = some (.sv (.int .i64 xs.length)) := rfl
@[simp] theorem ln_nil (e n b : Nat) (y : Bool) : ln (.slice e n b y) .nil = some (.sv (.int .i64 0)) := rfl
@[simp] theorem ln_own (e n b : Nat) (y : Bool) (id off len : Nat) : ln (.slice e n b y) (.own id off len) = some (.sv (.int .i64 len)) := rfl
@[simp] theorem ex_tuple (i : Nat) (vs : List AV) : ex i (.tuple vs) = vs[i]? := rfl
@[simp] theorem fa_ptr (off id o : Nat) : fa off (.ptr id o) = some (.ptr id (o + off)) := rfl
@[simp] theorem fa_ref (off : Nat) (cs : List SV) : fa off (.ref cs) = some (.ref (cs.drop off)) := rfl
@[simp] theorem nc_ptr (id o : Nat) : nc (.ptr id o) = some (.ptr id o) := rfl
@[simp] theorem nc_ref (cs : List SV) : nc (.ref cs) = some (.ref cs) := rfl
@[simp] theorem nc_func (f : Nat) (a b : List AV) : nc (.func f a b) = some (.func f a b) := rfl
@[simp] theorem callV_func (f : Nat) (a b : List AV) : callV (.func f a b) = some (f, a, b) := rfl

theorem ix_str {s : List UInt8} {n : Int} {i : Nat} {c : UInt8} (hn : n = i) (h : s[i]? = some c) : ix .str (.sv (.str s)) (.sv (.int .i64 n)) = some (.sv (.int .u8 c.toNat)) := by
  subst hn
  simp [ix, h]

@[simp] theorem ix_cons (c : UInt8) (r : List UInt8) : ix .str (.sv (.str (c :: r))) (.sv (.int .i64 0)) = some (.sv (.int .u8 c.toNat)) := by simp [ix]

theorem ia_sv {e esz b : Nat} {y : Bool} {xs : List (List SV)} {n : Int} {i : Nat} {c : List SV} (hn : n = i) (h : xs[i]? = some c) (hc : c.length = esz) : ia (.slice e esz b y) (.sv (.slice xs)) (.sv (.int .i64 n)) = some (.ref c) := by
  subst hn
  have hi := (List.getElem?_eq_some_iff.1 h).1
  simp [ia, h, hc]
  omega

theorem ia_own {e esz b : Nat} {y : Bool} {id off len : Nat} {n : Int} {i : Nat} (hn : n = i) (h : i < len) : ia (.slice e esz b y) (.own id off len) (.sv (.int .i64 n)) = some (.ptr id (off + i * esz)) := by
  subst hn
  simp [ia]
  omega

theorem ia_ptr {m esz id off : Nat} {g : Bool} {eq : Option (List EK)} {n : Int} {i : Nat} (hn : n = i) (h : i < m) : ia (.arr m esz g eq) (.ptr id off) (.sv (.int .i64 n)) = some (.ptr id (off + i * esz)) := by
  subst hn
  simp [ia]
  omega

theorem ld_ref {n : Nat} {agg : Bool} {cs : List SV} {h : Heap} (hn : n ≤ cs.length) : ld n agg (.ref cs) h = some (pack agg ((cs.take n).map .sv)) := by
  simp [ld, takeN, Nat.min_eq_left hn]

theorem ld_ptr {n id off esz : Nat} {agg wr : Bool} {cs : List AV} {h : Heap} (hid : h[id]? = some (.cells esz cs wr)) (hn : off + n ≤ cs.length) : ld n agg (.ptr id off) h = some (pack agg ((cs.drop off).take n)) := by
  have : min n (cs.length - off) = n := by omega
  simp [ld, hid, takeN, this]

theorem alloc_eq {z : List AV} {h : Heap} (hz : z.all cell1 = true) : alloc z h = some (.ptr h.length 0, h ++ [.cells 0 z true]) := by simp [alloc, hz]

theorem store_eq {n id off esz : Nat} {x : AV} {cs vs : List AV} {h : Heap} (hid : h[id]? = some (.cells esz cs true)) (hx : cellsOf x = some vs) (hn : vs.length = n) (hb : off + n ≤ cs.length) :
    storeA n (.ptr id off) x h = some (.undef, h.set id (.cells esz (splice cs off vs) true)) := by
  simp [storeA, hid, hx, hn, hb]

theorem box_eq {n : Nat} {x : AV} {cs : List AV} {h : Heap} (hx : cellsOf x = some cs) (hn : cs.length = n) (hc : cs.all cell1 = true) : boxA n x h = some (.ptr h.length 0, h ++ [.cells 0 cs true]) := by
  simp only [boxA, hx, Option.bind_some, hn, if_true, alloc, hc]

theorem cells_all : ∀ (l : List SV), (l.map AV.sv).all cell1 = true
  | [] => rfl
  | s :: l => by rw [List.map_cons, List.all_cons, cells_all l]; rfl

@[simp] theorem cellsOf_sv (s : SV) : cellsOf (.sv s) = some [.sv s] := rfl
@[simp] theorem cellsOf_agg (l : List SV) : cellsOf (.agg (l.map .sv)) = some (l.map .sv) := by simp only [cellsOf, cells_all, if_true]
@[simp] theorem heap_last (h : Heap) (e : Ent) : (h ++ [e])[h.length]? = some e := by simp
@[simp] theorem heap_set_last (h : Heap) (e e' : Ent) : (h ++ [e]).set h.length e' = h ++ [e'] := by simp

@[simp] theorem upd_eq (tm : Tm) (d : Nat) (v : AV) : upd tm d v d = v := by simp [upd]
theorem upd_ne {tm : Tm} {d t : Nat} {v : AV} (h : t ≠ d) : upd tm d v t = tm t := by simp [upd, h]
@[simp] theorem init_nil (t : Nat) : init [] t = .undef := rfl
@[simp] theorem init_zero (a : AV) (l : List AV) : init (a :: l) 0 = a := rfl
@[simp] theorem init_succ (a : AV) (l : List AV) (t : Nat) : init (a :: l) (t + 1) = init l t := rfl

@[simp] theorem outBlock_normal {R : Type} (id : Nat) (K : Out → Tm → Heap → Option R) (tm : Tm) (h : Heap) : outBlock id K .normal tm h = K .normal tm h := rfl
@[simp] theorem outBlock_ret {R : Type} (id : Nat) (K : Out → Tm → Heap → Option R) (tm : Tm) (h : Heap) : outBlock id K .ret tm h = K .ret tm h := rfl
@[simp] theorem outBlock_exit {R : Type} (id i : Nat) (K : Out → Tm → Heap → Option R) (tm : Tm) (h : Heap) : outBlock id K (.exit i) tm h = if i = id then K .normal tm h else K (.exit i) tm h := rfl
@[simp] theorem outSeq_normal {R : Type} (N : Tm → Heap → Option R) (K : Out → Tm → Heap → Option R) (tm : Tm) (h : Heap) : outSeq N K .normal tm h = N tm h := rfl
@[simp] theorem outSeq_ret {R : Type} (N : Tm → Heap → Option R) (K : Out → Tm → Heap → Option R) (tm : Tm) (h : Heap) : outSeq N K .ret tm h = K .ret tm h := rfl
@[simp] theorem outSeq_exit {R : Type} (N : Tm → Heap → Option R) (K : Out → Tm → Heap → Option R) (i : Nat) (tm : Tm) (h : Heap) : outSeq N K (.exit i) tm h = K (.exit i) tm h := rfl
@[simp] theorem outK_eq (o : Out) (tm : Tm) (h : Heap) : outK o tm h = some (o, ⟨tm, h⟩) := rfl
@[simp] theorem endK_ret (rs : List ResultVar) (tm : Tm) (h : Heap) : endK optB tab rs .ret tm h = resK optB tab tm h rs fun vs => some (tup vs, h) := rfl
@[simp] theorem endK_normal (rs : List ResultVar) (tm : Tm) (h : Heap) : endK optB tab rs .normal tm h = resK optB tab tm h rs fun vs => some (tup vs, h) := rfl
@[simp] theorem resK_nil {R : Type} (tm : Tm) (h : Heap) (k : List AV → Option R) : resK optB tab tm h [] k = k [] := rfl
@[simp] theorem resK_tmp {R : Type} (t : Nat) (rs : List ResultVar) (tm : Tm) (h : Heap) (k : List AV → Option R) : resK optB tab tm h (.tmp t :: rs) k = resK optB tab tm h rs fun vs => k (tm t :: vs) := rfl
@[simp] theorem tup_one (v : AV) : tup [v] = v := rfl
@[simp] theorem tup_two (u v : AV) (l : List AV) : tup (u :: v :: l) = .tuple (u :: v :: l) := rfl
@[simp] theorem tup_nil : tup [] = .tuple [] := rfl

/-! ### Settled values -/

def isSv : AV → Bool
  | .sv _ => true
  | _ => false

def setV : AV → Bool
  | .sv _ => true
  | .agg cs => cs.all isSv
  | .ref _ => true
  | .func _ [] [] => true
  | _ => false

theorem isSv_map : ∀ (cs : List AV), cs.all isSv = true → ∃ l : List SV, cs = l.map .sv
  | [], _ => ⟨[], rfl⟩
  | c :: cs, h => by
    rw [List.all_cons, Bool.and_eq_true] at h
    obtain ⟨l, rfl⟩ := isSv_map cs h.2
    cases c <;> first | (cases h.1; done) | skip
    rename_i s
    exact ⟨s :: l, rfl⟩

theorem frzV_set {h : Heap} {a : AV} (hs : setV a = true) : frzV frzDepth h a = some (a, []) := by
  unfold setV at hs
  split at hs
  · rfl
  · obtain ⟨l, rfl⟩ := isSv_map _ hs
    simp only [frzV, frzCells_svs, Option.bind_some]
  · rfl
  · rfl
  · cases hs

theorem frzVs_set {h : Heap} : ∀ {args : List AV}, args.all setV = true → frzVs frzDepth h args = some (args, [])
  | [], _ => rfl
  | a :: args, hs => by
    rw [List.all_cons, Bool.and_eq_true] at hs
    simp only [frzVs, frzV_set hs.1, frzVs_set hs.2, Option.bind_some, List.nil_append]

theorem frzR_set {h : Heap} {a : AV} (hs : setV a = true) : frzR frzDepth h a = some a := by
  unfold frzR
  split
  · cases hs
  · rw [frzV_set hs]; rfl

theorem frzR_tup {h : Heap} {vs : List AV} (hs : vs.all setV = true) : frzR frzDepth h (.tuple vs) = some (.tuple vs) := by
  simp only [frzR, frzVs_set hs, Option.bind_some]

/-! ### Calls -/

section
variable {J : Option (List AV → Option AV)}

noncomputable abbrev Cw (J : Option (List AV → Option AV)) : CallF := callW (env J)

/-- A call on a heap of its own: the answer's settled form. -/
theorem call_own {f : Nat} {fn : Func} (hfn : Try.prog.funcs[f]? = some fn) (hg : good fn = true) (hs : shared f = false) (hm : prims J f = none) {args args' : List AV} {ids : List Nat} {h hr : Heap} {r v : AV}
    (ha : frzVs frzDepth h args = some (args', ids)) (e : evFunc optB tab shared (Cw J) loopW noD fn args' [] = some (r, hr)) (hv : frzR frzDepth hr r = some v) : Cw J f args h = some (v, settle h ids) :=
  callW_pure (env_plain J) (env_fn hfn hg) hs hm ha e hv

theorem call_sv {f : Nat} {fn : Func} (hfn : Try.prog.funcs[f]? = some fn) (hg : good fn = true) (hs : shared f = false) (hm : prims J f = none) {args : List AV} {h hr : Heap} {r v : AV}
    (ha : args.all setV = true) (e : evFunc optB tab shared (Cw J) loopW noD fn args [] = some (r, hr)) (hv : frzR frzDepth hr r = some v) : Cw J f args h = some (v, h) :=
  call_own hfn hg hs hm (frzVs_set ha) e hv

theorem call_sh {f : Nat} {fn : Func} (hfn : Try.prog.funcs[f]? = some fn) (hg : good fn = true) (hs : shared f = true) {args : List AV} {h : Heap} {r : AV × Heap}
    (e : evFunc optB tab shared (Cw J) loopW noD fn args h = some r) : Cw J f args h = some r :=
  callW_shared (env_plain J) (env_fn hfn hg) hs e

theorem call_prim {f : Nat} {g : List AV → Option AV} (hs : shared f = false) (hm : prims J f = some g) {args args' : List AV} {ids : List Nat} {h : Heap} {v : AV} (ha : frzVs frzDepth h args = some (args', ids)) (e : g args' = some v) : Cw J f args h = some (v, settle h ids) :=
  callW_prim (env_plain J) hs hm ha e
end

/-! ### Answers that are there -/

def Ok {α : Type} (x : Option α) (Q : α → Prop) : Prop := ∃ r, x = some r ∧ Q r

@[simp] theorem ok_some {α : Type} (r : α) (Q : α → Prop) : Ok (some r) Q ↔ Q r := by simp [Ok]
theorem Ok.mono {α : Type} {x : Option α} {P Q : α → Prop} (h : Ok x P) (k : ∀ r, P r → Q r) : Ok x Q := by
  obtain ⟨r, h1, h2⟩ := h
  exact ⟨r, h1, k r h2⟩
theorem Ok.bind {α β : Type} {x : Option α} {f : α → Option β} {P : α → Prop} {Q : β → Prop} (h : Ok x P) (k : ∀ r, P r → Ok (f r) Q) : Ok (x.bind f) Q := by
  obtain ⟨r, h1, h2⟩ := h
  subst h1
  exact k r h2
theorem Ok.eq {α : Type} {x : Option α} {r : α} (h : Ok x fun r' => r' = r) : x = some r := by
  obtain ⟨r', h1, rfl⟩ := h
  exact h1

/-! ### Loops -/

theorem loop_inv {f : St → Option (Out × St)} (Inv : Nat → St → Prop) (Post : Out × St → Prop)
    (step : ∀ n s, Inv n s → (∃ s' m, m < n ∧ f s = some (.normal, s') ∧ Inv m s') ∨ (∃ o s', f s = some (o, s') ∧ o ≠ .normal ∧ Post (o, s'))) :
    ∀ n s, Inv n s → ∃ r, loopW f s = some r ∧ Post r := by
  intro n
  induction n using Nat.strongRecOn with
  | _ n ih =>
    intro s hI
    rcases step n s hI with ⟨s', m, hm, h1, h2⟩ | ⟨o, s', h1, h2, h3⟩
    · obtain ⟨r, h3, h4⟩ := ih m hm s' h2
      exact ⟨r, loopW_step h1 h3, h4⟩
    · cases o with
      | normal => exact absurd rfl h2
      | exit i => exact ⟨_, loopW_exit h1, h3⟩
      | ret => exact ⟨_, loopW_ret h1, h3⟩

/-- What must be so behind a round. -/
def Nxt (Inv : Nat → St → Prop) (Post : Out × St → Prop) (n : Nat) (r : Out × St) : Prop := (r.1 = .normal ∧ ∃ m, m < n ∧ Inv m r.2) ∨ (r.1 ≠ .normal ∧ Post r)

theorem nxt_n {Inv : Nat → St → Prop} {Post : Out × St → Prop} {n : Nat} {s : St} (m : Nat) (hm : m < n) (h : Inv m s) : Nxt Inv Post n (.normal, s) := .inl ⟨rfl, m, hm, h⟩
theorem nxt_e {Inv : Nat → St → Prop} {Post : Out × St → Prop} {n i : Nat} {s : St} (h : Post (.exit i, s)) : Nxt Inv Post n (.exit i, s) := .inr ⟨by simp, h⟩
theorem nxt_r {Inv : Nat → St → Prop} {Post : Out × St → Prop} {n : Nat} {s : St} (h : Post (.ret, s)) : Nxt Inv Post n (.ret, s) := .inr ⟨by simp, h⟩

theorem loop_go {f : St → Option (Out × St)} (Inv : Nat → St → Prop) (Post : Out × St → Prop) (step : ∀ n s, Inv n s → ∃ r, f s = some r ∧ Nxt Inv Post n r) {n : Nat} {s : St} (h : Inv n s) : ∃ r, loopW f s = some r ∧ Post r := by
  refine loop_inv Inv Post (fun n s hI => ?_) n s h
  obtain ⟨⟨o, s'⟩, h1, h2⟩ := step n s hI
  rcases h2 with ⟨h2, m, h3, h4⟩ | ⟨h2, h3⟩
  · simp only at h2; subst h2; exact .inl ⟨s', m, h3, h1, h4⟩
  · exact .inr ⟨o, s', h1, h2, h3⟩

/-- A loop and what comes behind it. -/
theorem loop_ok {f : St → Option (Out × St)} (Inv : Nat → St → Prop) (Post : Out × St → Prop) {n : Nat} {s : St} (h : Inv n s) (step : ∀ n s, Inv n s → Ok (f s) (Nxt Inv Post n)) {R : Type} {K : Out × St → Option R} {Q : R → Prop} (k : ∀ r, Post r → Ok (K r) Q) :
    Ok ((loopW f s).bind K) Q := Ok.bind (loop_go Inv Post step h) k

end Go.Proofs.Ytmhamnnfcmkcfaa

/- Functions as the abstract interpreter comes to them: printed by wip/tools/gensh.py. -/
set_option linter.unusedVariables false
set_option maxRecDepth 100000
namespace Go.Proofs.Ytmhamnnfcmkcfaa

/-! strings.IndexByte -/

noncomputable def f87_sh (B : BindS) (C : CallF) (L : LoopF) (v0 : AV) (v1 : AV) (h : Heap) : Option (AV × Heap) :=
  B.b (C 140 [v0, v1] h) fun r1 =>
  some (r1.1, r1.2)
theorem f87_eq (B : BindS) (C : CallF) (L : LoopF) (v0 : AV) (v1 : AV) (h : Heap) : evFunc B tab shared C L noD Try.f87 [v0, v1] h = f87_sh B C L v0 v1 h := by kernel_rfl

/-! internal/stringslite.IndexByte -/

noncomputable def f140_sh (B : BindS) (C : CallF) (L : LoopF) (v0 : AV) (v1 : AV) (h : Heap) : Option (AV × Heap) :=
  B.b (C 198 [v0, v1] h) fun r1 =>
  some (r1.1, r1.2)
theorem f140_eq (B : BindS) (C : CallF) (L : LoopF) (v0 : AV) (v1 : AV) (h : Heap) : evFunc B tab shared C L noD Try.f140 [v0, v1] h = f140_sh B C L v0 v1 h := by kernel_rfl

/-! purfle/lexer.kind -/

noncomputable def f86_sh (B : BindS) (C : CallF) (L : LoopF) (v0 : AV) (h : Heap) : Option (AV × Heap) :=
  B.b (bin .or (.int .u8) v0 (.sv (.int .u8 32))) fun w1 =>
  B.b (bin .geq (.int .u8) w1 (.sv (.int .u8 97))) fun w2 =>
  B.b (gO (some (w2, true)) (some v0) .dead) fun w3 =>
  B.b (gO (some (w2, true)) (bin .or (.int .u8) w3 (.sv (.int .u8 32))) .dead) fun w4 =>
  B.b (gO (some (w2, true)) (bin .leq (.int .u8) w4 (.sv (.int .u8 122))) .dead) fun w5 =>
  B.b ((asB w2).bind fun t => some (if t then w5 else (.sv (.bool false)))) fun w6 =>
  B.b (asB w6) fun t7 =>
  if t7 then (some ((.sv (.int .i64 1)), h)) else
  B.b (bin .geq (.int .u8) v0 (.sv (.int .u8 48))) fun w8 =>
  B.b (gO (some (w8, true)) (some v0) .dead) fun w9 =>
  B.b (gO (some (w8, true)) (bin .leq (.int .u8) w9 (.sv (.int .u8 57))) .dead) fun w10 =>
  B.b ((asB w8).bind fun t => some (if t then w10 else (.sv (.bool false)))) fun w11 =>
  B.b (asB w11) fun t12 =>
  if t12 then (some ((.sv (.int .i64 2)), h)) else
  B.b (C 87 [(.sv (.str [43, 45, 42, 40, 41, 91, 93, 44, 61, 58])), v0] h) fun r13 =>
  B.b (bin .geq (.int .i64) r13.1 (.sv (.int .i64 0))) fun w14 =>
  B.b (asB w14) fun t15 =>
  if t15 then (some ((.sv (.int .i64 3)), r13.2)) else
  B.b (bin .eql (.int .u8) v0 (.sv (.int .u8 32))) fun w16 =>
  B.b (gO (some (w16, false)) (some v0) .dead) fun w17 =>
  B.b (gO (some (w16, false)) (bin .eql (.int .u8) w17 (.sv (.int .u8 9))) .dead) fun w18 =>
  B.b ((asB w16).bind fun t => some (if t then (.sv (.bool true)) else w18)) fun w19 =>
  B.b (asB w19) fun t20 =>
  if t20 then (some ((.sv (.int .i64 4)), r13.2)) else
  B.b (bin .eql (.int .u8) v0 (.sv (.int .u8 10))) fun w21 =>
  B.b (asB w21) fun t22 =>
  if t22 then (some ((.sv (.int .i64 5)), r13.2)) else
  B.b (bin .eql (.int .u8) v0 (.sv (.int .u8 35))) fun w23 =>
  B.b (asB w23) fun t24 =>
  if t24 then (some ((.sv (.int .i64 6)), r13.2)) else
  some ((.sv (.int .i64 0)), r13.2)
theorem f86_eq (B : BindS) (C : CallF) (L : LoopF) (v0 : AV) (h : Heap) : evFunc B tab shared C L noD Try.f86 [v0] h = f86_sh B C L v0 h := by kernel_rfl

/-! purfle/lexer.run -/
noncomputable def f88_b0 (B : BindS) (C : CallF) (L : LoopF) (tm : Tm) (h : Heap) : Option (Out × St) :=
  B.b (ln .str (tm 0)) fun w1 =>
  B.b (bin .lss (.int .i64) (tm 3) w1) fun w2 =>
  B.b (gO (some (w2, true)) (some (tm 0)) .dead) fun w3 =>
  B.b (gO (some (w2, true)) (some (tm 3)) .dead) fun w4 =>
  B.b (gO (some (w2, true)) (ix .str w3 w4) .dead) fun w5 =>
  B.b (gO (some (w2, true)) (C 86 [w5] h) (.dead, h)) fun r6 =>
  B.b (gO (some (w2, true)) (bin .eql (.int .i64) r6.1 (.sv (.int .i64 1))) .dead) fun w7 =>
  B.b (gO (some (w2, true)) (some w7) .dead) fun w8 =>
  B.b (gO (some (w8, false)) (some (tm 0)) .dead) fun w9 =>
  B.b (gO (some (w8, false)) (some (tm 3)) .dead) fun w10 =>
  B.b (gO (some (w8, false)) (ix .str w9 w10) .dead) fun w11 =>
  B.b (gO (some (w8, false)) (C 86 [w11] r6.2) (.dead, r6.2)) fun r12 =>
  B.b (gO (some (w8, false)) (bin .eql (.int .i64) r12.1 (.sv (.int .i64 2))) .dead) fun w13 =>
  B.b (gO (some (w2, true)) ((asB w8).bind fun t => some (if t then (.sv (.bool true)) else w13)) .dead) fun w14 =>
  B.b ((asB w2).bind fun t => some (if t then w14 else (.sv (.bool false)))) fun w15 =>
  B.b (asB w15) fun t16 =>
  if t16 then (B.b (bin .add (.int .i64) (tm 3) (.sv (.int .i64 1))) fun w17 =>
  some (.normal, ⟨(upd (upd (upd (upd (upd (upd (upd (upd (upd (upd (upd (upd (upd (upd (upd (upd (upd (upd (upd (upd (upd tm 4 (tm 3)) 5 (tm 0)) 6 w1) 7 w2) 8 w2) 9 w3) 10 w4) 11 w5) 12 r6.1) 13 w7) 14 w8) 15 w9) 16 w10) 17 w11) 18 r12.1) 19 w13) 20 w14) 21 w15) 22 (tm 3)) 23 w17) 3 w17), r12.2⟩)) else
  some (.exit 0, ⟨(upd (upd (upd (upd (upd (upd (upd (upd (upd (upd (upd (upd (upd (upd (upd (upd (upd (upd tm 4 (tm 3)) 5 (tm 0)) 6 w1) 7 w2) 8 w2) 9 w3) 10 w4) 11 w5) 12 r6.1) 13 w7) 14 w8) 15 w9) 16 w10) 17 w11) 18 r12.1) 19 w13) 20 w14) 21 w15), r12.2⟩)

noncomputable def f88_k0 (B : BindS) (C : CallF) (L : LoopF) (tm : Tm) (h : Heap) : Option (AV × Heap) :=
  some ((tm 3), h)

noncomputable def f88_sh (B : BindS) (C : CallF) (L : LoopF) (v0 : AV) (h : Heap) : Option (AV × Heap) :=
  B.b (L (fun s => f88_b0 B C L s.tm s.h) ⟨(upd (upd (init [v0]) 2 (.sv (.int .i64 0))) 3 (.sv (.int .i64 0))), h⟩) fun r18 => (outBlock 0 (outSeq (f88_k0 B C L) (endK B tab [.tmp 2]))) r18.1 r18.2.tm r18.2.h
theorem f88_eq (B : BindS) (C : CallF) (L : LoopF) (v0 : AV) (h : Heap) : evFunc B tab shared C L noD Try.f88 [v0] h = f88_sh B C L v0 h := by kernel_rfl

/-! purfle/lexer.Word -/

noncomputable def f141_sh (B : BindS) (C : CallF) (L : LoopF) (v0 : AV) (h : Heap) : Option (AV × Heap) :=
  B.b (bin .neq .str v0 (.sv (.str []))) fun w1 =>
  B.b (gO (some (w1, true)) (some v0) .dead) fun w2 =>
  B.b (gO (some (w1, true)) (ln .str w2) .dead) fun w3 =>
  B.b (gO (some (w1, true)) (bin .leq (.int .i64) w3 (.sv (.int .i64 16))) .dead) fun w4 =>
  B.b ((asB w1).bind fun t => some (if t then w4 else (.sv (.bool false)))) fun w5 =>
  B.b (gO (some (w5, true)) (some v0) .dead) fun w6 =>
  B.b (gO (some (w5, true)) (ix .str w6 (.sv (.int .i64 0))) .dead) fun w7 =>
  B.b (gO (some (w5, true)) (C 86 [w7] h) (.dead, h)) fun r8 =>
  B.b (gO (some (w5, true)) (bin .eql (.int .i64) r8.1 (.sv (.int .i64 1))) .dead) fun w9 =>
  B.b ((asB w5).bind fun t => some (if t then w9 else (.sv (.bool false)))) fun w10 =>
  B.b (gO (some (w10, true)) (some v0) .dead) fun w11 =>
  B.b (gO (some (w10, true)) (C 88 [w11] r8.2) (.dead, r8.2)) fun r12 =>
  B.b (gO (some (w10, true)) (some v0) .dead) fun w13 =>
  B.b (gO (some (w10, true)) (ln .str w13) .dead) fun w14 =>
  B.b (gO (some (w10, true)) (bin .eql (.int .i64) r12.1 w14) .dead) fun w15 =>
  B.b ((asB w10).bind fun t => some (if t then w15 else (.sv (.bool false)))) fun w16 =>
  some (w16, r12.2)
theorem f141_eq (B : BindS) (C : CallF) (L : LoopF) (v0 : AV) (h : Heap) : evFunc B tab shared C L noD Try.f141 [v0] h = f141_sh B C L v0 h := by kernel_rfl

/-! purfle/lexer.Number -/
noncomputable def f142_b0 (B : BindS) (C : CallF) (L : LoopF) (tm : Tm) (h : Heap) : Option (Out × St) :=
  B.b (bin .lss (.int .i64) (tm 24) (tm 23)) fun w17 =>
  B.b (asB w17) fun t18 =>
  if t18 then (B.b (ix .str (tm 0) (tm 24)) fun w19 =>
  B.b (C 86 [w19] h) fun r20 =>
  B.b (bin .neq (.int .i64) r20.1 (.sv (.int .i64 2))) fun w21 =>
  B.b (asB w21) fun t22 =>
  if t22 then (some (.ret, ⟨(upd (upd (upd (upd (upd (upd (upd (upd (upd (upd tm 25 w17) 26 (tm 24)) 4 (tm 24)) 27 (tm 0)) 28 (tm 24)) 29 w19) 30 r20.1) 31 w21) 2 (.sv (.int .i64 0))) 3 (.sv (.bool false))), r20.2⟩)) else
  B.b (bin .mul (.int .i64) (.sv (.int .i64 10)) (tm 2)) fun w23 =>
  B.b (ix .str (tm 0) (tm 24)) fun w24 =>
  B.b (bin .sub (.int .u8) w24 (.sv (.int .u8 48))) fun w25 =>
  B.b (cv (.int .i64) w25) fun w26 =>
  B.b (bin .add (.int .i64) w23 w26) fun w27 =>
  B.b (bin .add (.int .i64) (tm 24) (.sv (.int .i64 1))) fun w28 =>
  some (.normal, ⟨(upd (upd (upd (upd (upd (upd (upd (upd (upd (upd (upd (upd (upd (upd (upd (upd (upd (upd (upd tm 25 w17) 26 (tm 24)) 4 (tm 24)) 27 (tm 0)) 28 (tm 24)) 29 w19) 30 r20.1) 31 w21) 32 (tm 2)) 33 w23) 34 (tm 0)) 35 (tm 24)) 36 w24) 37 w25) 38 w26) 39 w27) 2 w27) 40 w28) 24 w28), r20.2⟩)) else
  some (.exit 0, ⟨(upd tm 25 w17), h⟩)

noncomputable def f142_k0 (B : BindS) (C : CallF) (L : LoopF) (tm : Tm) (h : Heap) : Option (AV × Heap) :=
  some (.tuple [(tm 2), (.sv (.bool true))], h)

noncomputable def f142_sh (B : BindS) (C : CallF) (L : LoopF) (v0 : AV) (h : Heap) : Option (AV × Heap) :=
  B.b (bin .eql .str v0 (.sv (.str []))) fun w1 =>
  B.b (gO (some (w1, false)) (some v0) .dead) fun w2 =>
  B.b (gO (some (w1, false)) (ln .str w2) .dead) fun w3 =>
  B.b (gO (some (w1, false)) (bin .gtr (.int .i64) w3 (.sv (.int .i64 18))) .dead) fun w4 =>
  B.b ((asB w1).bind fun t => some (if t then (.sv (.bool true)) else w4)) fun w5 =>
  B.b (gO (some (w5, false)) (some v0) .dead) fun w6 =>
  B.b (gO (some (w5, false)) (ln .str w6) .dead) fun w7 =>
  B.b (gO (some (w5, false)) (bin .gtr (.int .i64) w7 (.sv (.int .i64 1))) .dead) fun w8 =>
  B.b (gO (some (w5, false)) (some w8) .dead) fun w9 =>
  B.b (gO (some (w9, true)) (some v0) .dead) fun w10 =>
  B.b (gO (some (w9, true)) (ix .str w10 (.sv (.int .i64 0))) .dead) fun w11 =>
  B.b (gO (some (w9, true)) (bin .eql (.int .u8) w11 (.sv (.int .u8 48))) .dead) fun w12 =>
  B.b (gO (some (w5, false)) ((asB w9).bind fun t => some (if t then w12 else (.sv (.bool false)))) .dead) fun w13 =>
  B.b ((asB w5).bind fun t => some (if t then (.sv (.bool true)) else w13)) fun w14 =>
  B.b (asB w14) fun t15 =>
  if t15 then (some (.tuple [(.sv (.int .i64 0)), (.sv (.bool false))], h)) else
  B.b (ln .str v0) fun w16 =>
  B.b (L (fun s => f142_b0 B C L s.tm s.h) ⟨(upd (upd (upd (upd (upd (upd (upd (upd (upd (upd (upd (upd (upd (upd (upd (upd (upd (upd (upd (upd (upd (upd (init [v0]) 2 (.sv (.int .i64 0))) 3 (.sv (.bool false))) 5 v0) 6 w1) 7 w1) 8 w2) 9 w3) 10 w4) 11 w5) 12 w5) 13 w6) 14 w7) 15 w8) 16 w9) 17 w10) 18 w11) 19 w12) 20 w13) 21 w14) 22 v0) 23 w16) 24 (.sv (.int .i64 0))), h⟩) fun r29 => (outBlock 0 (outSeq (f142_k0 B C L) (endK B tab [.tmp 2, .tmp 3]))) r29.1 r29.2.tm r29.2.h
theorem f142_eq (B : BindS) (C : CallF) (L : LoopF) (v0 : AV) (h : Heap) : evFunc B tab shared C L noD Try.f142 [v0] h = f142_sh B C L v0 h := by kernel_rfl

/-! purfle/lexer.read -/

noncomputable def f89_sh (B : BindS) (C : CallF) (L : LoopF) (v0 : AV) (h : Heap) : Option (AV × Heap) :=
  B.b (alloc [.sv (.int .i64 0), .sv (.str []), .sv (.int .i64 0)] h) fun r1 =>
  B.b (fa 1 r1.1) fun w2 =>
  B.b (storeA 1 w2 v0 r1.2) fun r3 =>
  B.b (C 141 [v0] r3.2) fun r4 =>
  B.b (asB r4.1) fun t5 =>
  if t5 then (B.b (fa 0 r1.1) fun w6 =>
  B.b (storeA 1 w6 (.sv (.int .i64 1)) r4.2) fun r7 =>
  B.b (ld 3 true r1.1 r7.2) fun w8 =>
  B.b (storeA 3 r1.1 w8 r7.2) fun r9 =>
  B.b (ld 3 true r1.1 r9.2) fun w10 =>
  some (.tuple [w10, (.sv (.bool true))], r9.2)) else
  B.b (ln .str v0) fun w11 =>
  B.b (bin .eql (.int .i64) w11 (.sv (.int .i64 1))) fun w12 =>
  B.b (gO (some (w12, true)) (some v0) .dead) fun w13 =>
  B.b (gO (some (w12, true)) (ix .str w13 (.sv (.int .i64 0))) .dead) fun w14 =>
  B.b (gO (some (w12, true)) (C 86 [w14] r4.2) (.dead, r4.2)) fun r15 =>
  B.b (gO (some (w12, true)) (bin .eql (.int .i64) r15.1 (.sv (.int .i64 3))) .dead) fun w16 =>
  B.b ((asB w12).bind fun t => some (if t then w16 else (.sv (.bool false)))) fun w17 =>
  B.b (asB w17) fun t18 =>
  if t18 then (B.b (fa 0 r1.1) fun w19 =>
  B.b (storeA 1 w19 (.sv (.int .i64 3)) r15.2) fun r20 =>
  B.b (ld 3 true r1.1 r20.2) fun w21 =>
  B.b (storeA 3 r1.1 w21 r20.2) fun r22 =>
  B.b (ld 3 true r1.1 r22.2) fun w23 =>
  some (.tuple [w23, (.sv (.bool true))], r22.2)) else
  B.b (fa 0 r1.1) fun w24 =>
  B.b (storeA 1 w24 (.sv (.int .i64 2)) r15.2) fun r25 =>
  B.b (C 142 [v0] r25.2) fun r26 =>
  B.b (ex 0 r26.1) fun w27 =>
  B.b (ex 1 r26.1) fun w28 =>
  B.b (fa 2 r1.1) fun w29 =>
  B.b (storeA 1 w29 w27 r26.2) fun r30 =>
  B.b (ld 3 true r1.1 r30.2) fun w31 =>
  B.b (storeA 3 r1.1 w31 r30.2) fun r32 =>
  B.b (ld 3 true r1.1 r32.2) fun w33 =>
  some (.tuple [w33, w28], r32.2)
theorem f89_eq (B : BindS) (C : CallF) (L : LoopF) (v0 : AV) (h : Heap) : evFunc B tab shared C L noD Try.f89 [v0] h = f89_sh B C L v0 h := by kernel_rfl

/-! purfle/lexer.Cut -/
noncomputable def f25_k1 (B : BindS) (C : CallF) (L : LoopF) (tm : Tm) (h : Heap) : Option (Out × St) :=
  B.b (ld 3 true (tm 9) h) fun w42 =>
  B.b (bsA (.slice 35 3 32 false) (some [.sv (.int .i64 0), .sv (.str []), .sv (.int .i64 0)]) 1 [(0, w42)] h) fun r43 =>
  B.b (apA (.slice 35 3 32 false) (tm 5) r43.1 r43.2) fun r44 =>
  B.b (bin .add (.int .i64) (tm 7) (tm 8)) fun w45 =>
  some (.normal, ⟨(upd (upd (upd (upd (upd (upd (upd (upd (upd (upd tm 69 (tm 5)) 70 w42) 71 r43.1) 72 r44.1) 5 r44.1) 6 (.sv (.bool false))) 73 (tm 7)) 74 (tm 8)) 75 w45) 7 w45), r44.2⟩)

noncomputable def f25_k0 (B : BindS) (C : CallF) (L : LoopF) (tm : Tm) (h : Heap) : Option (Out × St) :=
  B.b (bin .add (.int .i64) (tm 7) (tm 8)) fun w29 =>
  B.b (sl .str (tm 0) (some (tm 7)) (some w29) h) fun w30 =>
  B.b (C 89 [w30] h) fun r31 =>
  B.b (ex 0 r31.1) fun w32 =>
  B.b (ex 1 r31.1) fun w33 =>
  B.b (alloc [.sv (.int .i64 0), .sv (.str []), .sv (.int .i64 0)] r31.2) fun r34 =>
  B.b (storeA 3 r34.1 w32 r34.2) fun r35 =>
  B.b (un .not w33) fun w36 =>
  B.b (asB w36) fun t37 =>
  if t37 then (some (.ret, ⟨(upd (upd (upd (upd (upd (upd (upd (upd (upd (upd (upd (upd (upd (upd (upd (upd (upd (upd tm 52 (tm 0)) 53 (tm 7)) 54 (tm 7)) 55 (tm 8)) 56 w29) 57 w30) 58 r31.1) 51 r31.1) 59 w32) 60 w33) 9 r34.1) 10 w33) 61 w33) 62 w36) 63 (tm 7)) 2 .nil) 3 (tm 7)) 4 (.sv (.int .i64 6))), r35.2⟩)) else
  B.b (asB (tm 6)) fun t38 =>
  if t38 then (B.b (bdA tab 35 [(0, (.sv (.int .i64 4)))]) fun w39 =>
  B.b (bsA (.slice 35 3 32 false) (some [.sv (.int .i64 0), .sv (.str []), .sv (.int .i64 0)]) 1 [(0, w39)] r35.2) fun r40 =>
  B.b (apA (.slice 35 3 32 false) (tm 5) r40.1 r40.2) fun r41 =>
  f25_k1 B C L (upd (upd (upd (upd (upd (upd (upd (upd (upd (upd (upd (upd (upd (upd (upd (upd (upd (upd (upd (upd tm 52 (tm 0)) 53 (tm 7)) 54 (tm 7)) 55 (tm 8)) 56 w29) 57 w30) 58 r31.1) 51 r31.1) 59 w32) 60 w33) 9 r34.1) 10 w33) 61 w33) 62 w36) 64 (tm 6)) 65 (tm 5)) 66 w39) 67 r40.1) 68 r41.1) 5 r41.1) r41.2) else
  f25_k1 B C L (upd (upd (upd (upd (upd (upd (upd (upd (upd (upd (upd (upd (upd (upd (upd tm 52 (tm 0)) 53 (tm 7)) 54 (tm 7)) 55 (tm 8)) 56 w29) 57 w30) 58 r31.1) 51 r31.1) 59 w32) 60 w33) 9 r34.1) 10 w33) 61 w33) 62 w36) 64 (tm 6)) r35.2

noncomputable def f25_b0 (B : BindS) (C : CallF) (L : LoopF) (tm : Tm) (h : Heap) : Option (Out × St) :=
  B.b (ln .str (tm 0)) fun w4 =>
  B.b (bin .lss (.int .i64) (tm 7) w4) fun w5 =>
  B.b (asB w5) fun t6 =>
  if t6 then (B.b (ix .str (tm 0) (tm 7)) fun w7 =>
  B.b (C 86 [w7] h) fun r8 =>
  B.b (bin .eql (.int .i64) r8.1 (.sv (.int .i64 5))) fun w9 =>
  B.b (asB w9) fun t10 =>
  if t10 then (B.b (ln (.slice 35 3 32 false) (tm 5)) fun w11 =>
  B.b (bin .gtr (.int .i64) w11 (.sv (.int .i64 0))) fun w12 =>
  B.b (bin .add (.int .i64) (tm 7) (.sv (.int .i64 1))) fun w13 =>
  some (.normal, ⟨(upd (upd (upd (upd (upd (upd (upd (upd (upd (upd (upd (upd (upd (upd (upd (upd (upd (upd tm 14 (tm 7)) 15 (tm 0)) 16 w4) 17 w5) 8 (.sv (.int .i64 1))) 18 (tm 0)) 19 (tm 7)) 20 w7) 21 r8.1) 23 w9) 22 w9) 24 (tm 5)) 25 w11) 26 w12) 6 w12) 27 (tm 7)) 28 w13) 7 w13), r8.2⟩)) else
  B.b (bin .eql (.int .i64) r8.1 (.sv (.int .i64 4))) fun w14 =>
  B.b (asB w14) fun t15 =>
  if t15 then (B.b (bin .add (.int .i64) (tm 7) (.sv (.int .i64 1))) fun w16 =>
  some (.normal, ⟨(upd (upd (upd (upd (upd (upd (upd (upd (upd (upd (upd (upd (upd (upd (upd (upd tm 14 (tm 7)) 15 (tm 0)) 16 w4) 17 w5) 8 (.sv (.int .i64 1))) 18 (tm 0)) 19 (tm 7)) 20 w7) 21 r8.1) 23 w9) 22 w9) 30 w14) 29 w14) 31 (tm 7)) 32 w16) 7 w16), r8.2⟩)) else
  B.b (bin .eql (.int .i64) r8.1 (.sv (.int .i64 6))) fun w17 =>
  B.b (asB w17) fun t18 =>
  if t18 then (B.b (sl .str (tm 0) (some (tm 7)) none r8.2) fun w19 =>
  B.b (C 87 [w19, (.sv (.int .u8 10))] r8.2) fun r20 =>
  B.b (bin .lss (.int .i64) r20.1 (.sv (.int .i64 0))) fun w21 =>
  B.b (asB w21) fun t22 =>
  if t22 then (some (.exit 0, ⟨(upd (upd (upd (upd (upd (upd (upd (upd (upd (upd (upd (upd (upd (upd (upd (upd (upd (upd (upd (upd (upd (upd tm 14 (tm 7)) 15 (tm 0)) 16 w4) 17 w5) 8 (.sv (.int .i64 1))) 18 (tm 0)) 19 (tm 7)) 20 w7) 21 r8.1) 23 w9) 22 w9) 30 w14) 29 w14) 34 w17) 33 w17) 35 (tm 0)) 36 (tm 7)) 37 w19) 38 r20.1) 8 r20.1) 39 r20.1) 40 w21), r20.2⟩)) else
  B.b (bin .add (.int .i64) (tm 7) r20.1) fun w23 =>
  some (.normal, ⟨(upd (upd (upd (upd (upd (upd (upd (upd (upd (upd (upd (upd (upd (upd (upd (upd (upd (upd (upd (upd (upd (upd (upd (upd (upd (upd tm 14 (tm 7)) 15 (tm 0)) 16 w4) 17 w5) 8 (.sv (.int .i64 1))) 18 (tm 0)) 19 (tm 7)) 20 w7) 21 r8.1) 23 w9) 22 w9) 30 w14) 29 w14) 34 w17) 33 w17) 35 (tm 0)) 36 (tm 7)) 37 w19) 38 r20.1) 8 r20.1) 39 r20.1) 40 w21) 41 (tm 7)) 42 r20.1) 43 w23) 7 w23), r20.2⟩)) else
  B.b (bin .eql (.int .i64) r8.1 (.sv (.int .i64 1))) fun w24 =>
  B.b (asB w24) fun t25 =>
  if t25 then (B.b (asB w24) fun t26 =>
  if t26 then (B.b (sl .str (tm 0) (some (tm 7)) none r8.2) fun w27 =>
  B.b (C 88 [w27] r8.2) fun r28 =>
  f25_k0 B C L (upd (upd (upd (upd (upd (upd (upd (upd (upd (upd (upd (upd (upd (upd (upd (upd (upd (upd (upd (upd (upd (upd tm 14 (tm 7)) 15 (tm 0)) 16 w4) 17 w5) 8 (.sv (.int .i64 1))) 18 (tm 0)) 19 (tm 7)) 20 w7) 21 r8.1) 23 w9) 22 w9) 30 w14) 29 w14) 34 w17) 33 w17) 45 w24) 44 w24) 47 (tm 0)) 48 (tm 7)) 49 w27) 50 r28.1) 8 r28.1) r28.2) else
  f25_k0 B C L (upd (upd (upd (upd (upd (upd (upd (upd (upd (upd (upd (upd (upd (upd (upd (upd (upd tm 14 (tm 7)) 15 (tm 0)) 16 w4) 17 w5) 8 (.sv (.int .i64 1))) 18 (tm 0)) 19 (tm 7)) 20 w7) 21 r8.1) 23 w9) 22 w9) 30 w14) 29 w14) 34 w17) 33 w17) 45 w24) 44 w24) r8.2) else
  B.b (bin .eql (.int .i64) r8.1 (.sv (.int .i64 2))) fun w46 =>
  B.b (asB w46) fun t47 =>
  if t47 then (B.b (sl .str (tm 0) (some (tm 7)) none r8.2) fun w48 =>
  B.b (C 88 [w48] r8.2) fun r49 =>
  f25_k0 B C L (upd (upd (upd (upd (upd (upd (upd (upd (upd (upd (upd (upd (upd (upd (upd (upd (upd (upd (upd (upd (upd (upd (upd (upd tm 14 (tm 7)) 15 (tm 0)) 16 w4) 17 w5) 8 (.sv (.int .i64 1))) 18 (tm 0)) 19 (tm 7)) 20 w7) 21 r8.1) 23 w9) 22 w9) 30 w14) 29 w14) 34 w17) 33 w17) 45 w24) 44 w24) 46 w46) 44 w46) 47 (tm 0)) 48 (tm 7)) 49 w48) 50 r49.1) 8 r49.1) r49.2) else
  f25_k0 B C L (upd (upd (upd (upd (upd (upd (upd (upd (upd (upd (upd (upd (upd (upd (upd (upd (upd (upd (upd tm 14 (tm 7)) 15 (tm 0)) 16 w4) 17 w5) 8 (.sv (.int .i64 1))) 18 (tm 0)) 19 (tm 7)) 20 w7) 21 r8.1) 23 w9) 22 w9) 30 w14) 29 w14) 34 w17) 33 w17) 45 w24) 44 w24) 46 w46) 44 w46) r8.2) else
  some (.exit 0, ⟨(upd (upd (upd (upd tm 14 (tm 7)) 15 (tm 0)) 16 w4) 17 w5), h⟩)

noncomputable def f25_k2 (B : BindS) (C : CallF) (L : LoopF) (tm : Tm) (h : Heap) : Option (AV × Heap) :=
  B.b (ln (.slice 35 3 32 false) (tm 5)) fun w51 =>
  B.b (bin .gtr (.int .i64) w51 (.sv (.int .i64 4096))) fun w52 =>
  B.b (asB w52) fun t53 =>
  if t53 then (some (.tuple [.nil, (.sv (.int .i64 0)), (.sv (.int .i64 2))], h)) else
  B.b (ln .str (tm 0)) fun w54 =>
  some (.tuple [(tm 5), w54, (.sv (.int .i64 0))], h)

noncomputable def f25_sh (B : BindS) (C : CallF) (L : LoopF) (v0 : AV) (h : Heap) : Option (AV × Heap) :=
  B.b (ln .str v0) fun w1 =>
  B.b (bin .gtr (.int .i64) w1 (.sv (.int .i64 65536))) fun w2 =>
  B.b (asB w2) fun t3 =>
  if t3 then (some (.tuple [.nil, (.sv (.int .i64 0)), (.sv (.int .i64 2))], h)) else
  B.b (L (fun s => f25_b0 B C L s.tm s.h) ⟨(upd (upd (upd (upd (upd (upd (upd (upd (upd (init [v0]) 2 .nil) 3 (.sv (.int .i64 0))) 4 (.sv (.int .i64 0))) 11 v0) 12 w1) 13 w2) 5 .nil) 6 (.sv (.bool false))) 7 (.sv (.int .i64 0))), h⟩) fun r50 => (outBlock 0 (outSeq (f25_k2 B C L) (endK B tab [.tmp 2, .tmp 3, .tmp 4]))) r50.1 r50.2.tm r50.2.h
theorem f25_eq (B : BindS) (C : CallF) (L : LoopF) (v0 : AV) (h : Heap) : evFunc B tab shared C L noD Try.f25 [v0] h = f25_sh B C L v0 h := by kernel_rfl

/-! slices.IndexFunc[[]purfle/api.Token,purfle/api.Token] -/
noncomputable def f90_b0 (B : BindS) (C : CallF) (L : LoopF) (tm : Tm) (h : Heap) : Option (Out × St) :=
  B.b (bin .lss (.int .i64) (tm 8) (tm 7)) fun w2 =>
  B.b (asB w2) fun t3 =>
  if t3 then (B.b (ia (.slice 35 3 32 false) (tm 0) (tm 8)) fun w4 =>
  B.b (ld 3 true w4 h) fun w5 =>
  B.b ((callV (tm 1)).bind fun c => C c.1 (c.2.1 ++ [w5] ++ c.2.2) h) fun r6 =>
  B.b (asB r6.1) fun t7 =>
  if t7 then (some (.ret, ⟨(upd (upd (upd (upd (upd (upd (upd (upd (upd (upd (upd tm 9 w2) 10 (tm 8)) 5 (tm 8)) 11 (tm 1)) 12 (tm 0)) 13 (tm 8)) 14 w4) 15 w5) 16 r6.1) 17 (tm 8)) 4 (tm 8)), r6.2⟩)) else
  B.b (bin .add (.int .i64) (tm 8) (.sv (.int .i64 1))) fun w8 =>
  some (.normal, ⟨(upd (upd (upd (upd (upd (upd (upd (upd (upd (upd (upd tm 9 w2) 10 (tm 8)) 5 (tm 8)) 11 (tm 1)) 12 (tm 0)) 13 (tm 8)) 14 w4) 15 w5) 16 r6.1) 18 w8) 8 w8), r6.2⟩)) else
  some (.exit 0, ⟨(upd tm 9 w2), h⟩)

noncomputable def f90_k0 (B : BindS) (C : CallF) (L : LoopF) (tm : Tm) (h : Heap) : Option (AV × Heap) :=
  some ((.sv (.int .i64 (-1))), h)

noncomputable def f90_sh (B : BindS) (C : CallF) (L : LoopF) (v0 : AV) (v1 : AV) (h : Heap) : Option (AV × Heap) :=
  B.b (ln (.slice 35 3 32 false) v0) fun w1 =>
  B.b (L (fun s => f90_b0 B C L s.tm s.h) ⟨(upd (upd (upd (upd (init [v0, v1]) 4 (.sv (.int .i64 0))) 6 v0) 7 w1) 8 (.sv (.int .i64 0))), h⟩) fun r9 => (outBlock 0 (outSeq (f90_k0 B C L) (endK B tab [.tmp 4]))) r9.1 r9.2.tm r9.2.h
theorem f90_eq (B : BindS) (C : CallF) (L : LoopF) (v0 : AV) (v1 : AV) (h : Heap) : evFunc B tab shared C L noD Try.f90 [v0, v1] h = f90_sh B C L v0 v1 h := by kernel_rfl

/-! purfle/lexer.Lines$1 -/

noncomputable def f91_sh (B : BindS) (C : CallF) (L : LoopF) (v0 : AV) (h : Heap) : Option (AV × Heap) :=
  B.b (boxA 3 v0 h) fun r1 =>
  B.b (fa 0 r1.1) fun w2 =>
  B.b (ld 1 false w2 r1.2) fun w3 =>
  B.b (bin .eql (.int .i64) w3 (.sv (.int .i64 4))) fun w4 =>
  some (w4, r1.2)
theorem f91_eq (B : BindS) (C : CallF) (L : LoopF) (v0 : AV) (h : Heap) : evFunc B tab shared C L noD Try.f91 [v0] h = f91_sh B C L v0 h := by kernel_rfl

/-! purfle/lexer.Lines -/
noncomputable def f28_b0 (B : BindS) (C : CallF) (L : LoopF) (tm : Tm) (h : Heap) : Option (Out × St) :=
  B.b (ln (.slice 35 3 32 false) (tm 0)) fun w1 =>
  B.b (bin .gtr (.int .i64) w1 (.sv (.int .i64 0))) fun w2 =>
  B.b (asB w2) fun t3 =>
  if t3 then (B.b (C 90 [(tm 0), (.func 91 [] [])] h) fun r4 =>
  B.b (bin .lss (.int .i64) r4.1 (.sv (.int .i64 0))) fun w5 =>
  B.b (asB w5) fun t6 =>
  if t6 then (B.b (C 92 [(tm 0)] r4.2) fun r7 =>
  B.b (bsA (.slice 22 1 24 false) (some [.nil]) 1 [(0, r7.1)] r7.2) fun r8 =>
  B.b (apA (.slice 22 1 24 false) (tm 3) r8.1 r8.2) fun r9 =>
  some (.ret, ⟨(upd (upd (upd (upd (upd (upd (upd (upd (upd (upd (upd (upd (upd (upd tm 5 (tm 0)) 6 w1) 7 w2) 8 (tm 0)) 9 r4.1) 4 r4.1) 10 r4.1) 11 w5) 12 (tm 3)) 13 (tm 0)) 14 r7.1) 15 r8.1) 16 r9.1) 2 r9.1), r9.2⟩)) else
  B.b (sl (.slice 35 3 32 false) (tm 0) none (some r4.1) r4.2) fun w10 =>
  B.b (C 92 [w10] r4.2) fun r11 =>
  B.b (bsA (.slice 22 1 24 false) (some [.nil]) 1 [(0, r11.1)] r11.2) fun r12 =>
  B.b (apA (.slice 22 1 24 false) (tm 3) r12.1 r12.2) fun r13 =>
  B.b (bin .add (.int .i64) r4.1 (.sv (.int .i64 1))) fun w14 =>
  B.b (sl (.slice 35 3 32 false) (tm 0) (some w14) none r13.2) fun w15 =>
  B.b (ln (.slice 35 3 32 false) w15) fun w16 =>
  B.b (bin .eql (.int .i64) w16 (.sv (.int .i64 0))) fun w17 =>
  B.b (asB w17) fun t18 =>
  if t18 then (B.b (bsA (.slice 22 1 24 false) (some [.nil]) 1 [(0, .nil)] r13.2) fun r19 =>
  B.b (apA (.slice 22 1 24 false) r13.1 r19.1 r19.2) fun r20 =>
  some (.normal, ⟨(upd (upd (upd (upd (upd (upd (upd (upd (upd (upd (upd (upd (upd (upd (upd (upd (upd (upd (upd (upd (upd (upd (upd (upd (upd (upd (upd (upd tm 5 (tm 0)) 6 w1) 7 w2) 8 (tm 0)) 9 r4.1) 4 r4.1) 10 r4.1) 11 w5) 17 (tm 3)) 18 (tm 0)) 19 r4.1) 20 w10) 21 r11.1) 22 r12.1) 23 r13.1) 3 r13.1) 24 (tm 0)) 25 r4.1) 26 w14) 27 w15) 0 w15) 28 w15) 29 w16) 30 w17) 31 r13.1) 32 r19.1) 33 r20.1) 3 r20.1), r20.2⟩)) else
  some (.normal, ⟨(upd (upd (upd (upd (upd (upd (upd (upd (upd (upd (upd (upd (upd (upd (upd (upd (upd (upd (upd (upd (upd (upd (upd (upd tm 5 (tm 0)) 6 w1) 7 w2) 8 (tm 0)) 9 r4.1) 4 r4.1) 10 r4.1) 11 w5) 17 (tm 3)) 18 (tm 0)) 19 r4.1) 20 w10) 21 r11.1) 22 r12.1) 23 r13.1) 3 r13.1) 24 (tm 0)) 25 r4.1) 26 w14) 27 w15) 0 w15) 28 w15) 29 w16) 30 w17), r13.2⟩)) else
  some (.exit 0, ⟨(upd (upd (upd tm 5 (tm 0)) 6 w1) 7 w2), h⟩)

noncomputable def f28_k0 (B : BindS) (C : CallF) (L : LoopF) (tm : Tm) (h : Heap) : Option (AV × Heap) :=
  some ((tm 3), h)

noncomputable def f28_sh (B : BindS) (C : CallF) (L : LoopF) (v0 : AV) (h : Heap) : Option (AV × Heap) :=
  B.b (L (fun s => f28_b0 B C L s.tm s.h) ⟨(upd (upd (init [v0]) 2 .nil) 3 .nil), h⟩) fun r21 => (outBlock 0 (outSeq (f28_k0 B C L) (endK B tab [.tmp 2]))) r21.1 r21.2.tm r21.2.h
theorem f28_eq (B : BindS) (C : CallF) (L : LoopF) (v0 : AV) (h : Heap) : evFunc B tab shared C L noD Try.f28 [v0] h = f28_sh B C L v0 h := by kernel_rfl

/-! purfle/lexer.Check -/

noncomputable def f30_sh (B : BindS) (C : CallF) (L : LoopF) (v0 : AV) (h : Heap) : Option (AV × Heap) :=
  B.b (boxA 3 v0 h) fun r1 =>
  B.b (fa 1 r1.1) fun w2 =>
  B.b (ld 1 false w2 r1.2) fun w3 =>
  B.b (C 89 [w3] r1.2) fun r4 =>
  B.b (ex 0 r4.1) fun w5 =>
  B.b (ex 1 r4.1) fun w6 =>
  B.b (alloc [.sv (.int .i64 0), .sv (.str []), .sv (.int .i64 0)] r4.2) fun r7 =>
  B.b (storeA 3 r7.1 w5 r7.2) fun r8 =>
  B.b (ld 3 true r1.1 r8.2) fun w9 =>
  B.b (bdA tab 35 [(0, (.sv (.int .i64 4)))]) fun w10 =>
  B.b (bin .eql (.struct (some [.int .i64, .str, .int .i64])) w9 w10) fun w11 =>
  B.b (gO (some (w11, false)) (some w6) .dead) fun w12 =>
  B.b (gO (some (w11, false)) (some w12) .dead) fun w13 =>
  B.b (gO (some (w13, true)) (ld 3 true r1.1 r8.2) .dead) fun w14 =>
  B.b (gO (some (w13, true)) (ld 3 true r7.1 r8.2) .dead) fun w15 =>
  B.b (gO (some (w13, true)) (bin .eql (.struct (some [.int .i64, .str, .int .i64])) w14 w15) .dead) fun w16 =>
  B.b (gO (some (w11, false)) ((asB w13).bind fun t => some (if t then w16 else (.sv (.bool false)))) .dead) fun w17 =>
  B.b ((asB w11).bind fun t => some (if t then (.sv (.bool true)) else w17)) fun w18 =>
  B.b (asB w18) fun t19 =>
  if t19 then (some ((.sv (.int .i64 0)), r8.2)) else
  some ((.sv (.int .i64 1)), r8.2)
theorem f30_eq (B : BindS) (C : CallF) (L : LoopF) (v0 : AV) (h : Heap) : evFunc B tab shared C L noD Try.f30 [v0] h = f30_sh B C L v0 h := by kernel_rfl

/-! purfle/lexer.Digits -/
noncomputable def f128_b0 (B : BindS) (C : CallF) (L : LoopF) (tm : Tm) (h : Heap) : Option (Out × St) :=
  B.b (bin .rem (.int .u64) (tm 4) (.sv (.int .u64 10))) fun w5 =>
  B.b (bin .add (.int .u64) (.sv (.int .u64 48)) w5) fun w6 =>
  B.b (cv (.int .u8) w6) fun w7 =>
  B.b (bsA (.slice 5 1 1 true) (some [.sv (.int .u8 0)]) 1 [(0, w7)] h) fun r8 =>
  B.b (apA (.slice 5 1 1 true) (tm 3) r8.1 r8.2) fun r9 =>
  B.b (bin .quo (.int .u64) (tm 4) (.sv (.int .u64 10))) fun w10 =>
  B.b (bin .eql (.int .u64) w10 (.sv (.int .u64 0))) fun w11 =>
  B.b (asB w11) fun t12 =>
  if t12 then (some (.exit 0, ⟨(upd (upd (upd (upd (upd (upd (upd (upd (upd (upd (upd (upd (upd tm 11 (tm 3)) 12 (tm 4)) 13 w5) 14 w6) 15 w7) 16 r8.1) 17 r9.1) 3 r9.1) 18 (tm 4)) 19 w10) 4 w10) 20 w10) 21 w11), r9.2⟩)) else
  some (.normal, ⟨(upd (upd (upd (upd (upd (upd (upd (upd (upd (upd (upd (upd (upd tm 11 (tm 3)) 12 (tm 4)) 13 w5) 14 w6) 15 w7) 16 r8.1) 17 r9.1) 3 r9.1) 18 (tm 4)) 19 w10) 4 w10) 20 w10) 21 w11), r9.2⟩)

noncomputable def f128_k1 (B : BindS) (C : CallF) (L : LoopF) (tm : Tm) (h : Heap) : Option (AV × Heap) :=
  B.b (bin .lss (.int .i64) (tm 0) (.sv (.int .i64 0))) fun w14 =>
  B.b (asB w14) fun t15 =>
  if t15 then (B.b (bsA (.slice 5 1 1 true) (some [.sv (.int .u8 0)]) 1 [(0, (.sv (.int .u8 45)))] h) fun r16 =>
  B.b (apA (.slice 5 1 1 true) (tm 3) r16.1 r16.2) fun r17 =>
  B.b (C 180 [r17.1] r17.2) fun r18 =>
  B.b (bsStr r17.1 r18.2) fun r19 =>
  some (r19.1, r19.2)) else
  B.b (C 180 [(tm 3)] h) fun r20 =>
  B.b (bsStr (tm 3) r20.2) fun r21 =>
  some (r21.1, r21.2)

noncomputable def f128_k0 (B : BindS) (C : CallF) (L : LoopF) (tm : Tm) (h : Heap) : Option (AV × Heap) :=
  B.b (L (fun s => f128_b0 B C L s.tm s.h) ⟨tm, h⟩) fun r13 => (outBlock 0 (outSeq (f128_k1 B C L) (endK B tab [.tmp 2]))) r13.1 r13.2.tm r13.2.h

noncomputable def f128_sh (B : BindS) (C : CallF) (L : LoopF) (v0 : AV) (h : Heap) : Option (AV × Heap) :=
  B.b (cv (.int .u64) v0) fun w1 =>
  B.b (bin .lss (.int .i64) v0 (.sv (.int .i64 0))) fun w2 =>
  B.b (asB w2) fun t3 =>
  if t3 then (B.b (un .neg w1) fun w4 =>
  f128_k0 B C L (upd (upd (upd (upd (upd (upd (upd (upd (upd (upd (init [v0]) 2 (.sv (.str []))) 3 .nil) 5 v0) 6 w1) 4 w1) 7 v0) 8 w2) 9 w1) 10 w4) 4 w4) h) else
  f128_k0 B C L (upd (upd (upd (upd (upd (upd (upd (init [v0]) 2 (.sv (.str []))) 3 .nil) 5 v0) 6 w1) 4 w1) 7 v0) 8 w2) h
theorem f128_eq (B : BindS) (C : CallF) (L : LoopF) (v0 : AV) (h : Heap) : evFunc B tab shared C L noD Try.f128 [v0] h = f128_sh B C L v0 h := by kernel_rfl

/-! slices.Reverse[[]byte,byte] -/
noncomputable def f180_b0 (B : BindS) (C : CallF) (L : LoopF) (tm : Tm) (h : Heap) : Option (Out × St) :=
  B.b (bin .lss (.int .i64) (tm 2) (tm 3)) fun w3 =>
  B.b (asB w3) fun t4 =>
  if t4 then (B.b (ia (.slice 5 1 1 true) (tm 0) (tm 3)) fun w5 =>
  B.b (ld 1 false w5 h) fun w6 =>
  B.b (ia (.slice 5 1 1 true) (tm 0) (tm 2)) fun w7 =>
  B.b (ld 1 false w7 h) fun w8 =>
  B.b (ia (.slice 5 1 1 true) (tm 0) (tm 2)) fun w9 =>
  B.b (storeA 1 w9 w6 h) fun r10 =>
  B.b (ia (.slice 5 1 1 true) (tm 0) (tm 3)) fun w11 =>
  B.b (storeA 1 w11 w8 r10.2) fun r12 =>
  B.b (bin .add (.int .i64) (tm 2) (.sv (.int .i64 1))) fun w13 =>
  B.b (bin .sub (.int .i64) (tm 3) (.sv (.int .i64 1))) fun w14 =>
  some (.normal, ⟨(upd (upd (upd (upd (upd (upd (upd (upd (upd (upd (upd (upd (upd (upd (upd (upd (upd (upd (upd (upd (upd (upd (upd tm 7 (tm 2)) 8 (tm 3)) 9 w3) 14 (tm 0)) 15 (tm 2)) 16 (tm 0)) 17 (tm 3)) 18 (tm 0)) 19 (tm 3)) 20 w5) 21 w6) 22 (tm 0)) 23 (tm 2)) 24 w7) 25 w8) 26 w9) 27 w11) 10 (tm 2)) 11 w13) 12 (tm 3)) 13 w14) 2 w13) 3 w14), r12.2⟩)) else
  some (.exit 0, ⟨(upd (upd (upd tm 7 (tm 2)) 8 (tm 3)) 9 w3), h⟩)

noncomputable def f180_sh (B : BindS) (C : CallF) (L : LoopF) (v0 : AV) (h : Heap) : Option (AV × Heap) :=
  B.b (ln (.slice 5 1 1 true) v0) fun w1 =>
  B.b (bin .sub (.int .i64) w1 (.sv (.int .i64 1))) fun w2 =>
  B.b (L (fun s => f180_b0 B C L s.tm s.h) ⟨(upd (upd (upd (upd (upd (init [v0]) 4 v0) 5 w1) 6 w2) 2 (.sv (.int .i64 0))) 3 w2), h⟩) fun r15 => (outBlock 0 (endK B tab [])) r15.1 r15.2.tm r15.2.h
theorem f180_eq (B : BindS) (C : CallF) (L : LoopF) (v0 : AV) (h : Heap) : evFunc B tab shared C L noD Try.f180 [v0] h = f180_sh B C L v0 h := by kernel_rfl

end Go.Proofs.Ytmhamnnfcmkcfaa

/- The lexer, plainly. -/
namespace Go.Proofs.Ytmhamnnfcmkcfaa

structure Tok where
  kind : Int
  s : List UInt8
  n : Int
  deriving DecidableEq, Inhabited

def Tok.sv (t : Tok) : List SV := [.int .i64 t.kind, .str t.s, .int .i64 t.n]
def toksSV (l : List Tok) : SV := .slice (l.map Tok.sv)

theorem byAll {p : UInt8 → Bool} (h : (List.range 256).all (fun n => p (UInt8.ofNat n)) = true) (c : UInt8) : p c = true := by
  have h1 := List.all_eq_true.1 h c.toNat (List.mem_range.2 c.toNat_lt)
  simpa using h1

def signs : List UInt8 := [43, 45, 42, 40, 41, 91, 93, 44, 61, 58]

def kindI (x y i : Int) : Int :=
  if 97 ≤ x ∧ x ≤ 122 then 1 else if 48 ≤ y ∧ y ≤ 57 then 2 else if 0 ≤ i then 3 else if y = 32 ∨ y = 9 then 4 else if y = 10 then 5 else if y = 35 then 6 else 0

def kindS (c : UInt8) : Int := kindI (c ||| 32).toNat c.toNat (Lib.indexByte signs c)

def alnum (c : UInt8) : Bool := kindS c == 1 || kindS c == 2
def digitB (c : UInt8) : Bool := kindS c == 2
def runS (s : List UInt8) : Nat := (s.takeWhile alnum).length
def headKind (s : List UInt8) : Int := match s with | [] => -1 | c :: _ => kindS c
def wordS (s : List UInt8) : Bool := s != [] && decide (s.length ≤ 16) && headKind s == 1 && runS s == s.length
def valS (s : List UInt8) (n : Int) : Int := s.foldl (fun n c => 10 * n + (c.toNat - 48)) n
def numS (s : List UInt8) : Option Int :=
  if s = [] ∨ 18 < s.length ∨ (1 < s.length ∧ s.head? = some 48) then none else if s.all digitB then some (valS s 0) else none
def readS (s : List UInt8) : Tok × Bool :=
  if wordS s then (⟨1, s, 0⟩, true) else if s.length == 1 && headKind s == 3 then (⟨3, s, 0⟩, true) else (⟨2, s, (numS s).getD 0⟩, (numS s).isSome)

def lineT : Tok := ⟨4, [], 0⟩

/-- How many bytes a token has. -/
def tokLen (s : List UInt8) : Nat := if headKind s = 1 ∨ headKind s = 2 then runS s else 1

/-- The cut, step by step: the rest, its place, whether a line ended, what was cut. -/
def cutF : Nat → List UInt8 → Nat → Bool → List Tok → Except Nat (List Tok)
  | 0, _, _, _, out => .ok out
  | _ + 1, [], _, _, out => .ok out
  | f + 1, c :: r, i, ends, out =>
    if kindS c = 5 then cutF f r (i + 1) (decide (0 < out.length)) out
    else if kindS c = 4 then cutF f r (i + 1) ends out
    else if kindS c = 6 then
      (if Lib.indexByte (c :: r) 10 < 0 then .ok out else cutF f ((c :: r).drop (Lib.indexByte (c :: r) 10).toNat) (i + (Lib.indexByte (c :: r) 10).toNat) ends out)
    else if (readS ((c :: r).take (tokLen (c :: r)))).2 then
      cutF f ((c :: r).drop (tokLen (c :: r))) (i + tokLen (c :: r)) false ((if ends then out ++ [lineT] else out) ++ [(readS ((c :: r).take (tokLen (c :: r)))).1])
    else .error i

def cutS (s : List UInt8) : List Tok × Int × Int :=
  if 65536 < s.length then ([], 0, 2) else match cutF s.length s 0 false [] with
    | .error i => ([], i, 6)
    | .ok out => if 4096 < out.length then ([], 0, 2) else (out, s.length, 0)

def checkT (t : Tok) : Int := if t = lineT ∨ ((readS t.s).2 = true ∧ t = (readS t.s).1) then 0 else 1

/-- Tokens cut at ends of lines. -/
def linesF : Nat → List Tok → List (List Tok)
  | 0, _ => []
  | _ + 1, [] => []
  | f + 1, l => match l.findIdx? (fun t => t.kind == 4) with
    | none => [l]
    | some i => l.take i :: (if l.drop (i + 1) = [] then [[]] else linesF f (l.drop (i + 1)))

def linesS (l : List Tok) : List (List Tok) := linesF l.length l

end Go.Proofs.Ytmhamnnfcmkcfaa

/- The lexer's functions come to the plain ones. -/
set_option maxRecDepth 100000
namespace Go.Proofs.Ytmhamnnfcmkcfaa
open Go.RowKit

section
variable {J : Option (List AV → Option AV)}

theorem c198 (s : List UInt8) (c : UInt8) (h : Heap) : Cw J 198 [Sr s, U8 c] h = some (I (Lib.indexByte s c), h) := by
  refine call_prim (g := ibsP) (by rfl) (by rfl) (args' := [Sr s, U8 c]) (ids := []) (frzVs_set rfl) ?_
  simp [ibsP]

theorem c140 (s : List UInt8) (c : UInt8) (h : Heap) : Cw J 140 [Sr s, U8 c] h = some (I (Lib.indexByte s c), h) := by
  refine call_sv Try.func140 (by kernel_rfl) (by rfl) (by rfl) (by rfl) (hr := []) ?_ (frzR_set (by rfl))
  rw [f140_eq]; simp [f140_sh, c198]

theorem c87 (s : List UInt8) (c : UInt8) (h : Heap) : Cw J 87 [Sr s, U8 c] h = some (I (Lib.indexByte s c), h) := by
  refine call_sv Try.func87 (by kernel_rfl) (by rfl) (by rfl) (by rfl) (hr := []) ?_ (frzR_set (by rfl))
  rw [f87_eq]; simp [f87_sh, c140]

theorem bin_or32 (K0 : K) (c : UInt8) : bin .or K0 (U8 c) (.sv (.int .u8 32)) = some (U8 (c ||| 32)) := by
  have h : IntKind.u8.wrap (BitVec.ofInt IntKind.u8.bits c.toNat ||| BitVec.ofInt IntKind.u8.bits 32).toNat = ((c ||| 32).toNat : Int) := by
    have := byAll (p := fun c => IntKind.u8.wrap (BitVec.ofInt IntKind.u8.bits c.toNat ||| BitVec.ofInt IntKind.u8.bits 32).toNat == ((c ||| 32).toNat : Int)) (by decide +kernel) c
    simpa using this
  simp only [bin, binI, if_true, h]

theorem c86 (c : UInt8) (h : Heap) : Cw J 86 [U8 c] h = some (I (kindS c), h) := by
  refine call_sv Try.func86 (by kernel_rfl) (by rfl) (by rfl) (by rfl) (hr := []) (r := I (kindS c)) ?_ (frzR_set (by rfl))
  rw [f86_eq]
  have h87 : ∀ h, Cw J 87 [Sr [43, 45, 42, 40, 41, 91, 93, 44, 61, 58], U8 c] h = some (I (Lib.indexByte signs c), h) := fun h => c87 signs c h
  unfold kindS
  have hor : ∀ K0, bin .or K0 (U8 c) (.sv (.int .u8 32)) = some (.sv (.int .u8 (c ||| 32).toNat)) := fun K0 => bin_or32 K0 c
  simp only [U8] at hor h87 ⊢
  generalize ((c ||| 32).toNat : Int) = x at *
  generalize hy : (c.toNat : Int) = y at *
  generalize Lib.indexByte signs c = i at *
  unfold kindI
  by_cases a1 : 97 ≤ x <;> by_cases a2 : x ≤ 122 <;> by_cases a3 : 48 ≤ y <;> by_cases a4 : y ≤ 57 <;> by_cases a5 : 0 ≤ i <;> simp [f86_sh, hor, h87, a1, a2, a3, a4, a5]
  all_goals by_cases a6 : y = 32 <;> by_cases a7 : y = 9 <;> by_cases a8 : y = 10 <;> by_cases a9 : y = 35 <;> simp [a6, a7, a8, a9]
theorem runS_cons {c : UInt8} {r : List UInt8} : runS (c :: r) = if alnum c then runS r + 1 else 0 := by
  unfold runS
  rw [List.takeWhile_cons]
  split <;> simp

theorem drop_at {α : Type} {s : List α} {i : Nat} (h : i < s.length) : s.drop i = s[i] :: s.drop (i + 1) := List.drop_eq_getElem_cons h

end
end Go.Proofs.Ytmhamnnfcmkcfaa

/- The lexer's functions come to the plain ones: runs of letters and digits, words, numbers. -/
set_option maxRecDepth 100000
namespace Go.Proofs.Ytmhamnnfcmkcfaa
open Go.RowKit

section
variable {J : Option (List AV → Option AV)}

theorem c88 (s : List UInt8) (hs : s.length ≤ 9223372036854775806) (h : Heap) : Cw J 88 [Sr s] h = some (I (runS s), h) := by
  refine call_sv Try.func88 (by kernel_rfl) (by rfl) (by rfl) (by rfl) (hr := []) ?_ (frzR_set (by rfl))
  rw [f88_eq]
  let Inv : Nat → St → Prop := fun n st => ∃ i : Nat, st.tm 0 = Sr s ∧ st.tm 3 = I i ∧ i ≤ s.length ∧ n = s.length - i ∧ st.h = [] ∧ i + runS (s.drop i) = runS s
  let Post : Out × St → Prop := fun r => r.1 = .exit 0 ∧ r.2.tm 3 = I (runS s) ∧ r.2.h = []
  obtain ⟨⟨o, st⟩, h1, h2, h3, h4⟩ := loop_go (f := fun s => f88_b0 optB (Cw J) loopW s.tm s.h) Inv Post (by
    rintro n ⟨tm, hp⟩ ⟨i, e0, e3, hi, rfl, e4, hr⟩
    simp only at e0 e3 e4
    subst e4
    by_cases hlt : i < s.length
    · have hix : ∀ K0, K0 = K.str → ix K0 (Sr s) (I i) = some (U8 s[i]) := fun K0 hK => by subst hK; exact ix_str rfl (List.getElem?_eq_getElem hlt)
      rw [drop_at hlt, runS_cons] at hr
      have hw : IntKind.i64.wrap ((i : Int) + 1) = ((i + 1 : Nat) : Int) := by rw [wrapI (by omega) (by omega)]; omega
      have hlt' : (i : Int) < s.length := by omega
      by_cases k1 : kindS s[i] = 1 <;> by_cases k2 : kindS s[i] = 2 <;> simp -implicitDefEqProofs [f88_b0, e0, e3, hix, hlt', c86, k1, k2, hw, alnum] at hr ⊢
      all_goals first
        | (refine nxt_n (Inv := Inv) (s.length - (i + 1)) (by omega) ⟨i + 1, ?_, ?_, by omega, rfl, rfl, by omega⟩ <;> simp -implicitDefEqProofs [upd, e0, e3])
        | (refine nxt_e ?_; refine (⟨rfl, ?_, rfl⟩ : _ ∧ _ ∧ _); simp -implicitDefEqProofs [upd, e0, e3]; omega)
    · have : i = s.length := by omega
      have hlt' : ¬ (i : Int) < s.length := by omega
      simp -implicitDefEqProofs [f88_b0, e0, e3, hlt']
      refine nxt_e ?_
      refine (⟨rfl, ?_, rfl⟩ : _ ∧ _ ∧ _)
      subst this
      simp -implicitDefEqProofs [upd, e3, runS] at hr ⊢
      omega) (n := s.length) (s := ⟨upd (upd (init [Sr s]) 2 (I 0)) 3 (I 0), []⟩) ⟨0, by simp -implicitDefEqProofs [upd], by simp [upd], by omega, by omega, rfl, by simp⟩
  simp only at h2 h3 h4
  subst h2
  simp only [f88_sh, optB_b]
  rw [h1]
  simp -implicitDefEqProofs [f88_k0, h3, h4]

theorem runS_le : ∀ (s : List UInt8), runS s ≤ s.length
  | [] => Nat.le_refl _
  | c :: r => by
    rw [runS_cons]
    have := runS_le r
    split <;> simp <;> omega

theorem head_some {s : List UInt8} (h : s ≠ []) : ∃ c, s[0]? = some c ∧ headKind s = kindS c ∧ s.head? = some c := by
  cases s with
  | nil => exact absurd rfl h
  | cons c r => exact ⟨c, rfl, rfl, rfl⟩

theorem c141 (s : List UInt8) (hs : s.length ≤ 9223372036854775806) (h : Heap) : Cw J 141 [Sr s] h = some (Bo (wordS s), h) := by
  refine call_sv Try.func141 (by kernel_rfl) (by rfl) (by rfl) (by rfl) (hr := []) (r := Bo (wordS s)) ?_ (frzR_set (by rfl))
  rw [f141_eq]
  have h88 : ∀ h, Cw J 88 [Sr s] h = some (I (runS s), h) := fun h => c88 s hs h
  unfold wordS
  by_cases hne : s = []
  · subst hne; simp -implicitDefEqProofs [f141_sh]
  · obtain ⟨c, hc, hk, -⟩ := head_some hne
    have hix : ix .str (Sr s) (I 0) = some (U8 c) := ix_str rfl hc
    by_cases h16 : s.length ≤ 16
    · have h16' : (s.length : Int) ≤ 16 := by omega
      by_cases k1 : kindS c = 1
      · by_cases hr : runS s = s.length
        · simp -implicitDefEqProofs [f141_sh, hne, hix, h16, h16', c86, k1, h88, hr, hk]
        · have hr' : ¬ (runS s : Int) = s.length := by omega
          simp -implicitDefEqProofs [f141_sh, hne, hix, h16, h16', c86, k1, h88, hr, hr', hk]
      · simp -implicitDefEqProofs [f141_sh, hne, hix, h16, h16', c86, k1, h88, hk]
    · have h16' : ¬ (s.length : Int) ≤ 16 := by omega
      simp -implicitDefEqProofs [f141_sh, hne, h16, h16']

theorem kindI_two {x y i : Int} (h : kindI x y i = 2) : 48 ≤ y ∧ y ≤ 57 := by
  unfold kindI at h
  split at h
  · cases h
  · split at h
    · assumption
    · repeat (split at h; · cases h)
      cases h

theorem digit_val {c : UInt8} (h : kindS c = 2) : (48 : Int) ≤ c.toNat ∧ (c.toNat : Int) ≤ 57 := kindI_two h

theorem valS_snoc (s : List UInt8) (c : UInt8) (n : Int) : valS (s ++ [c]) n = 10 * valS s n + (c.toNat - 48) := by simp [valS]

theorem pow10 (n : Nat) : (10 : Int) ^ (n + 1) = 10 * 10 ^ n := by rw [Int.pow_succ]; omega

theorem pow10_le {i j : Nat} (h : i ≤ j) : (10 : Int) ^ i ≤ 10 ^ j := by
  induction j with
  | zero => rw [Nat.le_zero.1 h]; exact Int.le_refl _
  | succ j ih =>
    by_cases q : i = j + 1
    · subst q; exact Int.le_refl _
    · have h1 := ih (by omega)
      have h2 : (0 : Int) < 10 ^ j := Int.pow_pos (by omega)
      rw [pow10]
      omega

theorem valS_le : ∀ (n : Nat) (s : List UInt8), n ≤ s.length → s.all digitB = true → 0 ≤ valS (s.take n) 0 ∧ valS (s.take n) 0 < 10 ^ n
  | 0, s, _, _ => by simp [valS]
  | n + 1, s, h, hd => by
    have ih := valS_le n s (by omega) hd
    have hlt : n < s.length := h
    rw [List.take_succ_eq_append_getElem hlt, valS_snoc, pow10]
    have h1 := List.all_eq_true.1 hd s[n] (List.getElem_mem hlt)
    have h2 := digit_val (by simpa [digitB] using h1)
    omega

theorem take_succ_get {α : Type} {s : List α} {i : Nat} (h : i < s.length) : s.take (i + 1) = s.take i ++ [s[i]] := List.take_succ_eq_append_getElem h

theorem c142 (s : List UInt8) (hs : s.length ≤ 9223372036854775806) (h : Heap) : Cw J 142 [Sr s] h = some (.tuple [I ((numS s).getD 0), Bo (numS s).isSome], h) := by
  refine call_sv Try.func142 (by kernel_rfl) (by rfl) (by rfl) (by rfl) (hr := []) (r := .tuple [I ((numS s).getD 0), Bo (numS s).isSome]) ?_ (frzR_tup (by rfl))
  rw [f142_eq]
  by_cases hne : s = []
  · subst hne; simp -implicitDefEqProofs [f142_sh, numS]
  obtain ⟨c, hc, hk, hh⟩ := head_some hne
  have hix : ix .str (Sr s) (I 0) = some (U8 c) := ix_str rfl hc
  by_cases h18 : 18 < s.length
  · have h18' : (18 : Int) < s.length := by omega
    have hN : numS s = none := by simp [numS, h18]
    simp -implicitDefEqProofs [f142_sh, hne, h18, h18', hN]
  have h18' : ¬ (18 : Int) < s.length := by omega
  -- behind the first test
  let Inv : Nat → St → Prop := fun n st => ∃ i : Nat, st.tm 0 = Sr s ∧ st.tm 24 = I i ∧ st.tm 23 = I s.length ∧ st.tm 2 = I (valS (s.take i) 0) ∧ i ≤ s.length ∧ n = s.length - i ∧ st.h = [] ∧ (s.take i).all digitB = true
  let Post : Out × St → Prop := fun r => r.2.h = [] ∧ ((r.1 = .exit 0 ∧ r.2.tm 2 = I (valS s 0) ∧ s.all digitB = true) ∨ (r.1 = .ret ∧ r.2.tm 2 = I 0 ∧ r.2.tm 3 = Bo false ∧ s.all digitB = false))
  have hloop : ∀ tm : Tm, tm 0 = Sr s → tm 24 = I 0 → tm 23 = I s.length → tm 2 = I 0 → ∃ r, loopW (fun s => f142_b0 optB (Cw J) loopW s.tm s.h) ⟨tm, []⟩ = some r ∧ Post r := by
    intro tm t0 t24 t23 t2
    refine loop_go Inv Post ?_ (n := s.length) ⟨0, t0, t24, t23, by simpa [valS] using t2, by omega, by omega, rfl, rfl⟩
    rintro n ⟨tm, hp⟩ ⟨i, e0, e24, e23, e2, hi, rfl, e4, hall⟩
    simp only at e0 e24 e23 e2 e4
    subst e4
    by_cases hlt : i < s.length
    · have hixi : ix .str (Sr s) (I i) = some (U8 s[i]) := ix_str rfl (List.getElem?_eq_getElem hlt)
      have hlt' : (i : Int) < s.length := by omega
      by_cases k2 : kindS s[i] = 2
      · have hv := valS_le i (s.take i) (by simp; omega) hall
        rw [List.take_take, Nat.min_self] at hv
        have h10 : (10 : Int) ^ i ≤ 10 ^ 17 := pow10_le (by omega)
        have hd := digit_val k2
        have w1 : IntKind.i64.wrap (10 * valS (s.take i) 0) = 10 * valS (s.take i) 0 := wrapI (by omega) (by omega)
        have w2 : IntKind.u8.wrap ((s[i].toNat : Int) - 48) = (s[i].toNat : Int) - 48 := wrapU (by omega) (by omega)
        have w3 : IntKind.i64.wrap ((s[i].toNat : Int) - 48) = (s[i].toNat : Int) - 48 := wrapI (by omega) (by omega)
        have w4 : IntKind.i64.wrap (10 * valS (s.take i) 0 + ((s[i].toNat : Int) - 48)) = 10 * valS (s.take i) 0 + ((s[i].toNat : Int) - 48) := wrapI (by omega) (by omega)
        have w5 : IntKind.i64.wrap ((i : Int) + 1) = ((i + 1 : Nat) : Int) := by rw [wrapI (by omega) (by omega)]; omega
        have hb : (s.take (i + 1)).all digitB = true := by rw [take_succ_get hlt, List.all_append, hall]; simp [digitB, k2]
        have hval : valS (s.take (i + 1)) 0 = 10 * valS (s.take i) 0 + ((s[i].toNat : Int) - 48) := by rw [take_succ_get hlt, valS_snoc]
        simp -implicitDefEqProofs only [f142_b0, optB_b, e0, e24, e23, e2, hlt', bin_lss, Option.bind_some, decide_true, asB_bo, if_true, hixi, c86, k2, bin_neq, Bool.not_true, Bool.false_eq_true, if_false, bin_mul, bin_sub, cv_int, bin_add, w1, w2, w3, w4, w5, Option.some.injEq, exists_eq_left']
        refine nxt_n (Inv := Inv) (s.length - (i + 1)) (by omega) ⟨i + 1, ?_, ?_, ?_, ?_, by omega, rfl, rfl, hb⟩
        · simp [upd, e0]
        · simp [upd]
        · simp [upd, e23]
        · simp [upd, hval]
      · simp -implicitDefEqProofs only [f142_b0, optB_b, e0, e24, e23, e2, hlt', bin_lss, Option.bind_some, decide_true, asB_bo, if_true, hixi, c86, k2, bin_neq, decide_false, Bool.not_false, Option.some.injEq, exists_eq_left']
        refine nxt_r (Post := Post) ⟨rfl, .inr ⟨rfl, ?_, ?_, ?_⟩⟩
        · simp [upd]
        · simp [upd]
        · rw [Bool.eq_false_iff]
          intro hall2
          have := List.all_eq_true.1 hall2 s[i] (List.getElem_mem hlt)
          simp [digitB, k2] at this
    · have : i = s.length := by omega
      have hlt' : ¬ (i : Int) < s.length := by omega
      subst this
      rw [List.take_length] at hall e2
      simp -implicitDefEqProofs [f142_b0, e0, e24, e23]
      refine nxt_e (Post := Post) ⟨rfl, .inl ⟨rfl, ?_, hall⟩⟩
      simp [upd, e2]
  have hfin : ∀ tm : Tm, tm 0 = Sr s → tm 24 = I 0 → tm 23 = I s.length → tm 2 = I 0 → ((loopW (fun s => f142_b0 optB (Cw J) loopW s.tm s.h) ⟨tm, []⟩).bind fun r => outBlock 0 (outSeq (f142_k0 optB (Cw J) loopW) (endK optB tab [.tmp 2, .tmp 3])) r.1 r.2.tm r.2.h) =
      some (.tuple [I ((if s.all digitB = true then some (valS s 0) else none).getD 0), Bo (if s.all digitB = true then some (valS s 0) else none).isSome], []) := by
    intro tm t0 t24 t23 t2
    obtain ⟨⟨o, st⟩, h1, h2, h3⟩ := hloop tm t0 t24 t23 t2
    rw [h1]
    simp only at h2 h3
    rcases h3 with ⟨rfl, h4, h5⟩ | ⟨rfl, h4, h5, h6⟩
    · simp -implicitDefEqProofs [f142_k0, h4, h5, h2]
    · simp -implicitDefEqProofs [h4, h5, h6, h2]
  by_cases h1 : 1 < s.length
  · have h1' : (1 : Int) < s.length := by omega
    by_cases h0 : c = 48
    · subst h0
      have hN : numS s = none := by simp [numS, h1, hh]
      simp -implicitDefEqProofs [f142_sh, hne, h18, h18', h1, h1', hix, hN]
    · have h0' : ¬ (c.toNat : Int) = 48 := fun e => h0 (UInt8.toNat_inj.1 (by have : (48 : UInt8).toNat = 48 := rfl; omega))
      have hN : numS s = if s.all digitB = true then some (valS s 0) else none := if_neg (by simp [hne, h18, hh, h0])
      rw [← hN] at hfin
      simp -implicitDefEqProofs [f142_sh, hne, h18, h18', h1, h1', hix, h0, h0']
      refine hfin _ ?_ ?_ ?_ ?_ <;> simp [upd]
  · have h1' : ¬ (1 : Int) < s.length := by omega
    have hN : numS s = if s.all digitB = true then some (valS s 0) else none := if_neg (by simp [hne, h18, h1])
    rw [← hN] at hfin
    simp -implicitDefEqProofs [f142_sh, hne, h18, h18', h1, h1', hix]
    refine hfin _ ?_ ?_ ?_ ?_ <;> simp [upd]

end
end Go.Proofs.Ytmhamnnfcmkcfaa
