/- What a call of a function must do, and how the modes carry it. -/
import Derived.Test.YtmhamnnfcmkcfaaP1
import Derived.Tactics
import Derived.Scope
import Derived.Orders
import Derived.Laws.StructEq
import Derived.ChangeKeysEq
import Derived.Lib.Bytealg
import Derived.Laws.Externs
import Derived.Laws.Cover3
import Derived.Test.YtmhamnnfcmkcfaaChecked
import Derived.KernelRfl
namespace Go.Proofs.Ytmhamnnfcmkcfaa
open Go.RowKit

/-- A call, however the model carries it out (in a frame, or outright), yields what R tells. -/
def Runs (P : Program) (f : Nat) (cargs : Array Value) (w : World) (R : Value → World → Prop) : Prop :=
  ∀ (o : Oper) (a : Act) (next : Act → World → Prop) (Q : Exit → Act → World → Prop), (∀ cv w', R cv w' → next (a.put o.dst cv) w') → o.upon P a next Q ((callFunc f cargs).run P w)

theorem Runs.mono {P : Program} {f : Nat} {cargs : Array Value} {w : World} {R R' : Value → World → Prop} (h : Runs P f cargs w R) (hr : ∀ v w', R v w' → R' v w') : Runs P f cargs w R' :=
  fun o a next Q hn => h o a next Q fun cv w' q => hn cv w' (hr _ _ q)

theorem Runs.of_calls {P : Program} {f : Nat} {fn : Func} {c : Code} {cargs : Array Value} {w : World} {R : Value → World → Prop} (hf : P.funcs[f]? = some fn) (hb : fn.body = some c) (hname : (fn.name == "runtime.NumGoroutine") = false)
    (h : Calls P f cargs w fun | .returned v, w' => R v w' | _, _ => False) : Runs P f cargs w R := by
  intro o a next Q hn
  have hrun : (callFunc f cargs).run P w = .ok (.enter f cargs) w := by
    have h1 : ¬ fn.name = "runtime.NumGoroutine" := by simpa using hname
    simp [callFunc, hf, hb, h1]
  rw [hrun, Oper.upon_enter]
  refine h.mono fun e w' q => ?_
  cases e with
  | returned v => exact hn _ _ q
  | panicked c => exact q.elim
  | outgrown => exact q.elim

theorem Runs.of_value {P : Program} {f : Nat} {cargs : Array Value} {w w' : World} {R : Value → World → Prop} {v : Value} (h : (callFunc f cargs).run P w = .ok (.value v) w') (hr : R v w') : Runs P f cargs w R := by
  intro o a next Q hn
  rw [h, Oper.upon_value]
  exact hn _ _ hr

/-- A raw function's call on a heap. -/
def FnOk (P : Program) (E : CallF) : Prop := ∀ (f : Nat) (args : List AV) (h : Heap) (v : AV) (h' : Heap) (B : Nat) (G : Gh) (w : World) (cargs : List Value), E f args h = some (v, h') → RepL G args cargs → Inv B G h w →
  Runs P f cargs.toArray w fun cv w' => ∃ G', Mv B G w G' w' ∧ Inv B G' h' w' ∧ Rep G' v cv

/-- What a call that works on memory of its own leaves. -/
def Pure (S : Settled) (w : World) (v : AV) (cv : Value) (w' : World) : Prop :=
  ∃ S', SLe S S' ∧ (∀ b o u, S' b o = some u → S b o = none → w.heap.size ≤ b) ∧ (∀ b o u, S' b o = some u → w'.cell? ⟨b, o, none⟩ = some u) ∧ Below w.heap.size w w' ∧ ∀ loc, Rep ⟨S', loc⟩ v cv

def PrimOk (P : Program) (M : Modes) : Prop := ∀ (f : Nat) (g : List AV → Option AV) (args : List AV) (v : AV) (S : Settled) (w : World) (cargs : List Value), M.prim f = some g → g args = some v →
  (∀ loc, RepL ⟨S, loc⟩ args cargs) → (∀ b o u, S b o = some u → w.cell? ⟨b, o, none⟩ = some u) → Runs P f cargs.toArray w (Pure S w v)

theorem callBy_ok {P : Program} {M : Modes} {E : CallF} (hE : FnOk P E) (hM : PrimOk P M) : FnOk P (callBy M E) := by
  intro f args h v h' B G w cargs e hL hI
  unfold callBy at e
  split at e
  · exact hE f args h v h' B G w cargs e hL hI
  · obtain ⟨⟨args', ids⟩, h1, e⟩ := Option.bind_eq_some_iff.1 e
    obtain ⟨G1, m1, i1, hr1⟩ := args_settle hI hL h1
    have fin : ∀ u, v = u → h' = settle h ids → Runs P f cargs.toArray w (Pure G1.S w u) → Runs P f cargs.toArray w fun cv w' => ∃ G', Mv B G w G' w' ∧ Inv B G' h' w' ∧ Rep G' v cv := by
      rintro u rfl rfl hp
      refine hp.mono ?_
      rintro cv w' ⟨S', s1, s2, s3, s4, s5⟩
      obtain ⟨k1, k2⟩ := i1.past s4 s1 s2 s3
      exact ⟨_, m1.trans k2, k1, s5 _⟩
    split at e
    · rename_i g hg
      obtain ⟨u, hu, e⟩ := Option.bind_eq_some_iff.1 e
      cases e
      exact fin _ rfl rfl (hM f g args' _ G1.S w cargs hg hu hr1 i1.set)
    · obtain ⟨⟨r, hr⟩, h2, e⟩ := Option.bind_eq_some_iff.1 e
      obtain ⟨u, hu, e⟩ := Option.bind_eq_some_iff.1 e
      cases e
      refine fin _ rfl rfl ((hE f args' [] r hr w.heap.size ⟨G1.S, fun _ => none⟩ w cargs h2 (hr1 _) (Inv.bare i1.set)).mono ?_)
      rintro cv w' ⟨G', m2, i2, hrep⟩
      obtain ⟨S', s1, s2, s3, s4⟩ := res_settle i2 hrep hu
      refine ⟨S', m2.le.S.trans s1, fun b o u q1 q2 => ?_, s3, m2.below, s4⟩
      cases e : G'.S b o with
      | none => exact s2 b o u q1 e
      | some u' => exact m2.fresh b o u' e q2

end Go.Proofs.Ytmhamnnfcmkcfaa

/- Regions in the text's order. -/
namespace Go.Proofs.Ytmhamnnfcmkcfaa
open Go.RowKit

/-- Where the walk stands. -/
structure At (B : Nat) (G0 : Gh) (w0 : World) (N : Nat) (ds : List Deferred) (tm : Tm) (h : Heap) (G : Gh) (a : Act) (w : World) : Prop where
  rep : RepT G tm a.tmps
  inv : Inv B G h w
  mv : Mv B G0 w0 G w
  size : a.tmps.size = N
  defers : a.defers = ds

section
variable {P : Program} {T : Tab} {B : Nat} {G0 : Gh} {w0 : World} {N : Nat} {ds : List Deferred}

theorem put_size (a : Act) (d : Option Nat) (v : Value) : (a.put d v).tmps.size = a.tmps.size := by
  cases d <;> simp [Act.put]

theorem put_defers (a : Act) (d : Option Nat) (v : Value) : (a.put d v).defers = a.defers := by
  cases d <;> simp [Act.put]

theorem At.step {tm : Tm} {h h' : Heap} {G G' : Gh} {a : Act} {w w' : World} (hA : At B G0 w0 N ds tm h G a w) {d : Option Nat} (hd : ∀ t, d = some t → t < N) {v : AV} {cv : Value} (hm : Mv B G w G' w') (hi : Inv B G' h' w') (hv : Rep G' v cv) :
    At B G0 w0 N ds (updO tm d v) h' G' (a.put d cv) w' :=
  ⟨(hA.rep.mono hm.le).put d hv (fun t ht => by rw [hA.size]; exact hd t ht), hi, hA.mv.trans hm, by rw [put_size]; exact hA.size, by rw [put_defers]; exact hA.defers⟩

/-- One operation that is carried out. -/
theorem op_ok (hT : TabOk P T) {C : CallF} (hC : FnOk P C) {tm : Tm} {h : Heap} {G : Gh} {a : Act} {w : World} (hr : RepT G tm a.tmps) (hI : Inv B G h w) {o : Oper} {v : AV} {h' : Heap}
    (e : (isAct T o.op = true ∧ evAct T C tm h o.op = some (v, h')) ∨ (evPure T tm h o.op = some v ∧ h' = h)) {next : Act → World → Prop} {Q : Exit → Act → World → Prop}
    (hn : ∀ cv w' G', Mv B G w G' w' → Inv B G' h' w' → Rep G' v cv → next (a.put o.dst cv) w') : o.wp P a w next Q := by
  unfold Oper.wp
  rcases e with ⟨-, e⟩ | ⟨e, rfl⟩
  · cases hc : isCall o.op with
    | false =>
      obtain ⟨cv, w', G', h1 | ⟨h1, rfl⟩, h2, h3, h4⟩ := evAct_sound hT hr hI hc e
      · rw [h1]; exact hn cv w' G' h2 h3 h4
      · rw [h1]; exact hn _ w' G' h2 h3 h4
    | true =>
      obtain ⟨dst, op, ty, pos, after, guard⟩ := o
      simp only at hc e
      unfold isCall at hc
      split at hc
      · rename_i f xs ts
        simp only [evAct] at e
        obtain ⟨⟨fid, first, caps⟩, h1, e⟩ := Option.bind_eq_some_iff.1 e
        have hf := ev_rep hr f
        unfold callV at h1
        split at h1
        · rename_i f0 first0 caps0 hev
          cases h1
          rw [hev] at hf
          generalize hcf : a.eval f = cf at hf
          cases hf with
          | func _ _ _ vf vc l1 l2 hf hc2 =>
          have hargs := evList_rep hr xs
          have hall : RepL G (first ++ xs.toList.map (ev tm) ++ caps) (vf ++ (xs.map a.eval).toList ++ vc) := (RepL.append (RepL.append ⟨l1, hf⟩ hargs) ⟨l2, hc2⟩)
          have hrun := hC _ _ _ _ _ _ _ _ _ e hall hI
          have hex : (execOp a.eval ⟨dst, .call { callee := .value f, args := xs, argTypes := ts }, ty, pos, after, guard⟩).run P w = (callFunc fid (vf ++ (xs.map a.eval).toList ++ vc).toArray).run P w := by
            simp [execOp, resolve, hcf, Deferred.ofValue, invoke]
            congr 2
            apply Array.ext'
            simp
          rw [hex]
          exact hrun _ a next Q fun cv w' ⟨G', q1, q2, q3⟩ => hn cv w' G' q1 q2 q3
        · cases h1
      · cases hc
  · obtain ⟨cv, h1, h2⟩ := evPure_sound hT hr hI e
    rw [h1]
    exact hn cv w G (Mv.refl B G w) hI h2

theorem valOf_pure {tm : Tm} {h : Heap} {o : Oper} {v : AV} (e : valOf tm o = some v) : o.guard = none ∧ evPure T tm h o.op = some v := by
  obtain ⟨dst, op, ty, pos, after, guard⟩ := o
  unfold valOf at e
  simp only at e ⊢
  split at e
  · cases e
  · refine ⟨rfl, ?_⟩
    split at e
    · cases e; rfl
    · cases e; rfl
    · cases e; rfl
    · cases e

/-- An operation's guard, as the model has it. -/
theorem guard_ok {G : Gh} {tm : Tm} {a : Act} (hr : RepT G tm a.tmps) {ops : Array Oper} {o : Oper} :
    (guardOf tm ops.toList o = none → Region.wanted o (yielded ops a.tmps) = true) ∧
    ∀ gv want b, guardOf tm ops.toList o = some (gv, want) → gW gv want = some b → Region.wanted o (yielded ops a.tmps) = b := by
  unfold guardOf Region.wanted
  cases o.guard with
  | none => exact ⟨fun _ => rfl, fun _ _ _ h => by cases h⟩
  | some p =>
    obtain ⟨j, want⟩ := p
    refine ⟨fun h => (by cases h), fun gv w2 b h hb => ?_⟩
    simp only [Option.some.injEq, Prod.mk.injEq] at h
    obtain ⟨h1, rfl⟩ := h
    simp only [Array.getElem?_toList] at h1
    simp only [yielded]
    cases hj : ops[j]? with
    | none => rw [hj] at h1; simp only at h1; subst h1; cases hb
    | some g =>
      rw [hj] at h1
      simp only at h1
      cases hd : g.dst with
      | none => rw [hd] at h1; simp only at h1; subst h1; cases hb
      | some d =>
        rw [hd] at h1
        simp only at h1
        subst h1
        unfold gW at hb
        split at hb
        · rename_i hdead
          cases hb
          have hv := hr d
          rw [hdead] at hv
          generalize hx : a.tmps.getD d undef = x at hv
          cases hv
          rw [Array.getD_eq_getD_getElem?] at hx
          cases hx2 : a.tmps[d]? with
          | none => simp [hd, hx2]
          | some x => rw [hx2] at hx; simp at hx; subst hx; simp [hd, hx2, undef]
        · obtain ⟨b', hb', hb⟩ := Option.bind_eq_some_iff.1 hb
          cases hb
          have hv := asB_rep (hr d) hb'
          have : a.tmps[d]? = some (.bool b') := by
            rw [Array.getD_eq_getD_getElem?] at hv
            cases hx : a.tmps[d]? with
            | none => rw [hx] at hv; cases hv
            | some x => rw [hx] at hv; simp at hv; rw [hv]
          simp [hd, this]

theorem ops_ok (hT : TabOk P T) {C : CallF} (hC : FnOk P C) {R : Type} {K : Tm → Heap → Option R} {r : R} {ops : Array Oper} {Q : Exit → Act → World → Prop}
    (hQ : ∀ tm h G a w, K tm h = some r → At B G0 w0 N ds tm h G a w → Q .normal a w) :
    ∀ (rest : List Oper) (tm : Tm) (h : Heap) (G : Gh) (a : Act) (w : World), (∀ o ∈ rest, ∀ t, o.dst = some t → t < N) → evOps optB T C ops.toList K rest tm h = some r → At B G0 w0 N ds tm h G a w → wpList P ops Q rest a w := by
  intro rest
  induction rest with
  | nil => intro tm h G a w _ e hA; exact hQ tm h G a w e hA
  | cons o rest ih =>
    intro tm h G a w hd e hA
    have hdo := hd o (List.mem_cons_self ..)
    have hd' := fun o' ho' => hd o' (List.mem_cons_of_mem _ ho')
    obtain ⟨g1, g2⟩ := guard_ok hA.rep (ops := ops) (o := o)
    have skip : ∀ h', h' = h → evOps optB T C ops.toList K rest (updO tm o.dst .dead) h' = some r → wpList P ops Q rest (a.put o.dst undef) w := by
      rintro h' rfl e
      exact ih _ _ G _ _ hd' e (hA.step hdo (Mv.refl B G w) hA.inv .dead)
    simp only [evOps] at e
    split at e
    · rename_i v hv
      obtain ⟨q1, q2⟩ := valOf_pure (T := T) (h := h) hv
      refine wpList_plain q1 fun K' hK => ?_
      refine op_ok hT hC hA.rep hA.inv (.inr ⟨q2, rfl⟩) fun cv w' G' m1 m2 m3 => hK _ _ ?_
      exact ih _ _ G' _ _ hd' e (hA.step hdo m1 m2 m3)
    · unfold wpList
      split at e
      · rename_i hact
        obtain ⟨⟨v, h'⟩, e1, e⟩ := Option.bind_eq_some_iff.1 e
        unfold gO at e1
        split at e1
        · rename_i hg
          rw [if_pos (g1 hg)]
          refine .inl (op_ok hT hC hA.rep hA.inv (.inl ⟨hact, e1⟩) fun cv w' G' m1 m2 m3 => ?_)
          exact ih _ _ G' _ _ hd' e (hA.step hdo m1 m2 m3)
        · rename_i gv want hg
          obtain ⟨b, hb, e1⟩ := Option.bind_eq_some_iff.1 e1
          rw [g2 _ _ _ hg hb]
          split at e1
          · rename_i hw
            rw [if_pos hw]
            refine .inl (op_ok hT hC hA.rep hA.inv (.inl ⟨hact, e1⟩) fun cv w' G' m1 m2 m3 => ?_)
            exact ih _ _ G' _ _ hd' e (hA.step hdo m1 m2 m3)
          · rename_i hw
            rw [if_neg hw]
            cases e1
            exact skip h rfl e
      · obtain ⟨v, e1, e⟩ := Option.bind_eq_some_iff.1 e
        unfold gO at e1
        split at e1
        · rename_i hg
          rw [if_pos (g1 hg)]
          refine .inl (op_ok hT hC hA.rep hA.inv (.inr ⟨e1, rfl⟩) fun cv w' G' m1 m2 m3 => ?_)
          exact ih _ _ G' _ _ hd' e (hA.step hdo m1 m2 m3)
        · rename_i gv want hg
          obtain ⟨b, hb, e1⟩ := Option.bind_eq_some_iff.1 e1
          rw [g2 _ _ _ hg hb]
          split at e1
          · rename_i hw
            rw [if_pos hw]
            refine .inl (op_ok hT hC hA.rep hA.inv (.inr ⟨e1, rfl⟩) fun cv w' G' m1 m2 m3 => ?_)
            exact ih _ _ G' _ _ hd' e (hA.step hdo m1 m2 m3)
          · rename_i hw
            rw [if_neg hw]
            cases e1
            exact skip h rfl e

end
end Go.Proofs.Ytmhamnnfcmkcfaa

/- Code. -/
namespace Go.Proofs.Ytmhamnnfcmkcfaa
open Go.RowKit

def Out.ex : Out → Exit
  | .normal => .normal
  | .exit i => .exit i
  | .ret => .ret

/-- Every place that code writes is one of the frame's. -/
def okDst (N : Nat) : Code → Bool
  | .region _ ops _ => ops.toList.all fun o => match o.dst with | some t => decide (t < N) | none => true
  | .seq a b => okDst N a && okDst N b
  | .cond _ a b => okDst N a && okDst N b
  | .block _ a => okDst N a
  | .loop a => okDst N a
  | .scope a => okDst N a
  | _ => true

section
variable {P : Program} {T : Tab} {sh : Nat → Bool} {B : Nat} {G0 : Gh} {w0 : World} {N : Nat} {ds : List Deferred}

/-- A drawn region of the code is carried out as it is told. -/
def DrawOk (P : Program) (T : Tab) (sh : Nat → Bool) (C : CallF) (L : LoopF) (D : DrawF) (N : Nat) : Code → Prop
  | .region id ops true => ∀ (R : Type) (B : Nat) (G0 : Gh) (w0 : World) (ds : List Deferred) (K : Out → Tm → Heap → Option R) (r : R) (tm : Tm) (h : Heap) (G : Gh) (a : Act) (w : World) (Q : Exit → Act → World → Prop),
      evCode optB T sh C L D (.region id ops true) tm h K = some r → At B G0 w0 N ds tm h G a w → (∀ tm h G a w, K .normal tm h = some r → At B G0 w0 N ds tm h G a w → Q .normal a w) → (Code.region id ops true).wp P Q a w
  | .seq a b => DrawOk P T sh C L D N a ∧ DrawOk P T sh C L D N b
  | .cond _ a b => DrawOk P T sh C L D N a ∧ DrawOk P T sh C L D N b
  | .block _ a => DrawOk P T sh C L D N a
  | .loop a => DrawOk P T sh C L D N a
  | .scope a => DrawOk P T sh C L D N a
  | _ => True

theorem least {p : Nat → Prop} (h : ∃ n, p n) : ∃ m, p m ∧ ∀ k, p k → m ≤ k := by
  obtain ⟨n, hn⟩ := h
  induction n using Nat.strongRecOn with
  | _ n ih =>
    by_cases q : ∃ k, k < n ∧ p k
    · obtain ⟨k, hk, hp⟩ := q
      exact ih k hk hp
    · exact ⟨n, hn, fun k hk => Nat.le_of_not_lt fun hlt => q ⟨k, hlt, hk⟩⟩

open Classical in
theorem code_ok (hT : TabOk P T) {C : CallF} (hC : FnOk P C) {n : Nat} {D : DrawF} : ∀ (c : Code) (R : Type) (K : Out → Tm → Heap → Option R) (r : R) (tm : Tm) (h : Heap) (G : Gh) (a : Act) (w : World) (Q : Exit → Act → World → Prop),
    okDst N c = true → DrawOk P T sh C (loopN n) D N c → evCode optB T sh C (loopN n) D c tm h K = some r → At B G0 w0 N ds tm h G a w →
    (∀ o tm h G a w, K o tm h = some r → At B G0 w0 N ds tm h G a w → Q o.ex a w) → c.wp P Q a w := by
  intro c
  induction c with
  | skip => intro R K r tm h G a w Q _ _ e hA hQ; exact wp_skip (hQ .normal _ _ _ _ _ e hA)
  | label l => intro R K r tm h G a w Q _ _ e hA hQ; exact wp_label (hQ .normal _ _ _ _ _ e hA)
  | exit id => intro R K r tm h G a w Q _ _ e hA hQ; exact wp_exit (hQ (.exit id) _ _ _ _ _ e hA)
  | ret => intro R K r tm h G a w Q _ _ e hA hQ; exact wp_ret (hQ .ret _ _ _ _ _ e hA)
  | goto l => intro R K r tm h G a w Q _ _ e hA hQ; cases e
  | rangeFunc f p x y => intro R K r tm h G a w Q _ _ e hA hQ; cases e
  | refuse => intro R K r tm h G a w Q _ _ e hA hQ; cases e
  | region id ops draw =>
    intro R K r tm h G a w Q hd hdr e hA hQ
    cases draw with
    | true => exact hdr R B G0 w0 ds K r tm h G a w Q e hA (fun tm h G a w => hQ .normal tm h G a w)
    | false =>
      refine wp_region_list (ops_ok (K := K .normal) (r := r) hT hC (fun tm h G a w => hQ .normal tm h G a w) ops.toList tm h G a w ?_ e hA)
      intro o ho t ht
      have := List.all_eq_true.1 hd o ho
      rw [ht] at this
      simpa using this
  | seq x y ihx ihy =>
    intro R K r tm h G a w Q hd hdr e hA hQ
    simp only [okDst, Bool.and_eq_true] at hd
    refine wp_seq (ihx R _ r tm h G a w _ hd.1 hdr.1 e hA ?_)
    intro o tm h G a w e hA
    cases o with
    | normal => exact ihy R K r tm h G a w Q hd.2 hdr.2 e hA hQ
    | exit i => exact hQ (.exit i) _ _ _ _ _ e hA
    | ret => exact hQ .ret _ _ _ _ _ e hA
  | cond c x y ihx ihy =>
    intro R K r tm h G a w Q hd hdr e hA hQ
    simp only [okDst, Bool.and_eq_true] at hd
    simp only [evCode] at e
    obtain ⟨t, ht, e⟩ := Option.bind_eq_some_iff.1 e
    refine wp_cond (asB_rep (ev_rep hA.rep c) ht) ?_
    cases t with
    | true => exact ihx R K r tm h G a w Q hd.1 hdr.1 e hA hQ
    | false => exact ihy R K r tm h G a w Q hd.2 hdr.2 e hA hQ
  | block id x ih =>
    intro R K r tm h G a w Q hd hdr e hA hQ
    refine wp_block (ih R _ r tm h G a w _ hd hdr e hA ?_)
    intro o tm h G a w e hA
    cases o with
    | normal => exact hQ .normal _ _ _ _ _ e hA
    | ret => exact hQ .ret _ _ _ _ _ e hA
    | exit i =>
      simp only [outBlock] at e
      split at e
      · rename_i hi
        have := hQ .normal _ _ _ _ _ e hA
        simpa [Exit.inBlock, Out.ex, hi] using this
      · rename_i hi
        have := hQ (.exit i) _ _ _ _ _ e hA
        simpa [Exit.inBlock, Out.ex, hi] using this
  | scope x ih =>
    intro R K r tm h G a w Q hd hdr e hA hQ
    refine wp_scope_straight (ih R K r tm h G a w _ hd hdr e hA ?_)
    intro o tm h G a w e hA
    have := hQ o _ _ _ _ _ e hA
    cases o <;> exact this
  | loop x ih =>
    intro R K r tm h G a w Q hd hdr e hA hQ
    simp only [evCode] at e
    obtain ⟨res, e1, e⟩ := Option.bind_eq_some_iff.1 e
    generalize hf : (fun s : St => evCode optB T sh C (loopN n) D x s.tm s.h outK) = f at e1
    let I : Nat → Act → World → Prop := fun m a w => ∃ s G, loopN m f s = some res ∧ At B G0 w0 N ds s.tm s.h G a w
    have h0 : ∃ m, I m a w := ⟨n, ⟨tm, h⟩, G, e1, hA⟩
    refine wp_loop (fun a w => ∃ m, I m a w) (fun a w => if hx : ∃ m, I m a w then Classical.choose (least hx) else 0) h0 ?_
    intro a w hx
    rw [dif_pos hx]
    obtain ⟨s, G, hl, hA⟩ := (Classical.choose_spec (least hx)).1
    generalize hm : Classical.choose (least hx) = m at hl ⊢
    cases m with
    | zero => cases hl
    | succ k =>
    simp only [loopN] at hl
    cases hfs : f s with
    | none => rw [hfs] at hl; cases hl
    | some q =>
    obtain ⟨o, s'⟩ := q
    rw [hfs] at hl
    rw [← hf] at hfs
    refine ih (Out × St) outK (o, s') s.tm s.h G a w _ hd hdr hfs hA ?_
    intro o' tm' h' G' a' w' e' hA'
    simp only [outK, Option.some.injEq, Prod.mk.injEq] at e'
    obtain ⟨rfl, rfl⟩ := e'
    cases o' with
    | normal =>
      have hI : I k a' w' := ⟨⟨tm', h'⟩, G', hl, hA'⟩
      refine ⟨⟨k, hI⟩, ?_⟩
      rw [dif_pos ⟨k, hI⟩]
      have := (Classical.choose_spec (least (p := fun m => I m a' w') ⟨k, hI⟩)).2 k hI
      omega
    | exit i =>
      cases hl
      exact hQ (.exit i) _ _ _ _ _ e hA'
    | ret =>
      cases hl
      exact hQ .ret _ _ _ _ _ e hA'

end
end Go.Proofs.Ytmhamnnfcmkcfaa

/- Functions. -/
namespace Go.Proofs.Ytmhamnnfcmkcfaa
open Go.RowKit

section
variable {P : Program} {T : Tab} {B : Nat} {G : Gh} {h : Heap} {w : World}

theorem loadVar_of_loadAt {t : Nat} {x : Value} {cv : Value} {a : Addr} (hx : x = .pointer (some a)) (e : (Instr.loadAt t x).run P w = .ok cv w) : (do loadVar t (← asAddr x) : Sem Value).run P w = .ok cv w := by
  subst hx
  simpa [Instr.loadAt, Instr.sureAddr, asAddr] using e

theorem ld_pointer {n : Nat} {agg : Bool} {a v : AV} {ca : Value} (ha : Rep G a ca) (e : ld n agg a h = some v) : ∃ ad, ca = .pointer (some ad) := by
  unfold ld at e
  split at e
  · cases ha; exact ⟨_, rfl⟩
  · cases ha; exact ⟨_, rfl⟩
  · cases e

def resOne (tmps : Array Value) : ResultVar → Sem Value
  | .tmp t => pure (tmps.getD t undef)
  | .cell a t => do loadVar t (← asAddr (tmps.getD a undef))

theorem results_eq (fn : Func) (tmps : Array Value) : results fn tmps = (do
    let vs ← fn.results.mapM (resOne tmps)
    pure (if h : vs.size = 1 then vs[0] else .tuple vs)) := rfl

/-- The results, one by one. -/
theorem resK_sound (hT : TabOk P T) (hI : Inv B G h w) {tm : Tm} {tmps : Array Value} (hr : RepT G tm tmps) {R : Type} {r : R} : ∀ (rs : List ResultVar) (k : List AV → Option R), resK optB T tm h rs k = some r →
    ∃ vs avs, (rs.mapM (resOne tmps)).run P w = .ok vs w ∧ RepL G avs vs ∧ k avs = some r
  | [], k, e => ⟨[], [], by simp, RepL.nil G, e⟩
  | .tmp t :: rs, k, e => by
    simp only [resK] at e
    obtain ⟨vs, avs, h1, h2, h3⟩ := resK_sound hT hI hr rs _ e
    exact ⟨tmps.getD t undef :: vs, tm t :: avs, by rw [List.mapM_cons, Sem.run_bind, show resOne tmps (.tmp t) = pure (tmps.getD t undef) from rfl, Sem.run_pure, Result.andThen_ok, Sem.run_bind, h1]; rfl, h2.cons (hr t), h3⟩
  | .cell a t :: rs, k, e => by
    simp only [resK] at e
    split at e
    · cases e
    · rename_i z hz
      obtain ⟨v, hv, e⟩ := Option.bind_eq_some_iff.1 e
      obtain ⟨vs, avs, h1, h2, h3⟩ := resK_sound hT hI hr rs _ e
      obtain ⟨cv, h4, h5⟩ := ld_sound hI (hT.size _ _ _ hz) (hr a) hv
      obtain ⟨ad, had⟩ := ld_pointer (hr a) hv
      have h6 := loadVar_of_loadAt had h4
      refine ⟨cv :: vs, v :: avs, ?_, h2.cons h5, h3⟩
      rw [List.mapM_cons, Sem.run_bind, show (resOne tmps (.cell a t)).run P w = .ok cv w from h6, Result.andThen_ok, Sem.run_bind, h1]
      rfl

theorem tup_rep {avs : List AV} {vs : List Value} (hL : RepL G avs vs) : Rep G (tup avs) (if hx : vs.toArray.size = 1 then vs.toArray[0] else .tuple vs.toArray) := by
  rcases avs with _ | ⟨v, _ | ⟨v2, avs⟩⟩
  · have : vs = [] := List.eq_nil_of_length_eq_zero hL.1.symm
    subst this
    exact .tuple [] [] hL.1 hL.2
  · obtain ⟨u, us, rfl, h1, h2⟩ := hL.uncons
    have : us = [] := List.eq_nil_of_length_eq_zero h2.1.symm
    subst this
    exact h1
  · have h2 : ¬ vs.toArray.size = 1 := by have := hL.1; simp at this ⊢; omega
    rw [dif_neg h2]
    exact .tuple _ vs hL.1 hL.2

theorem results_sound (hT : TabOk P T) (hI : Inv B G h w) {tm : Tm} {tmps : Array Value} (hr : RepT G tm tmps) {fn : Func} {o : Out} {v : AV} {h' : Heap} (e : endK optB T fn.results.toList o tm h = some (v, h')) :
    (∀ i, o ≠ .exit i) ∧ h' = h ∧ ∃ cv, (results fn tmps).run P w = .ok cv w ∧ Rep G v cv := by
  have key : (resK optB T tm h fn.results.toList fun vs => some (tup vs, h)) = some (v, h') → h' = h ∧ ∃ cv, (results fn tmps).run P w = .ok cv w ∧ Rep G v cv := by
    intro e
    obtain ⟨vs, avs, h1, h2, h3⟩ := resK_sound hT hI hr _ _ e
    cases h3
    refine ⟨rfl, _, ?_, tup_rep h2⟩
    rw [results_eq, Sem.run_bind, Array.mapM_eq_mapM_toList, Sem.run_map, h1]
    rfl
  cases o with
  | exit i => cases e
  | normal => exact ⟨fun _ q => (by cases q), key e⟩
  | ret => exact ⟨fun _ q => (by cases q), key e⟩

theorem init_rep {args : List AV} {cargs : List Value} (hL : RepL G args cargs) (n : Nat) : RepT G (init args) (cargs.toArray ++ Array.replicate n undef) := by
  intro t
  unfold init
  rw [List.getD_eq_getElem?_getD]
  cases e : args[t]? with
  | none => exact .undef _
  | some c =>
    obtain ⟨v, hv, hr⟩ := hL.get e
    rw [Array.getD_eq_getD_getElem?]
    have hlt := (List.getElem?_eq_some_iff.1 hv).1
    rw [Array.getElem?_append_left (by simpa using hlt)]
    simp [hv]
    exact hr

/-- A function's body, carried out. -/
theorem func_ok (hT : TabOk P T) {sh : Nat → Bool} {C : CallF} (hC : FnOk P C) {n : Nat} {D : DrawF} {f : Nat} {fn : Func} {c : Code} (hf : P.funcs[f]? = some fn) (hb : fn.body = some c) {args : List AV} {cargs : List Value}
    (hd : okDst (cargs.length + (fn.ntmps - cargs.length)) c = true) (hdr : DrawOk P T sh C (loopN n) D (cargs.length + (fn.ntmps - cargs.length)) c) {v : AV} {h' : Heap} (e : evFunc optB T sh C (loopN n) D fn args h = some (v, h')) (hL : RepL G args cargs) (hI : Inv B G h w) :
    Calls P f cargs.toArray w fun
      | .returned cv, w' => ∃ G', Mv B G w G' w' ∧ Inv B G' h' w' ∧ Rep G' v cv
      | _, _ => False := by
  unfold evFunc at e
  rw [hb] at e
  simp only at e
  refine calls_of_wp hf hb ?_
  have hA : At B G w (cargs.length + (fn.ntmps - cargs.length)) [] (init args) h G { tmps := cargs.toArray ++ Array.replicate (fn.ntmps - cargs.toArray.size) undef, defers := [] } w :=
    ⟨init_rep hL _, hI, Mv.refl B G w, by simp, rfl⟩
  refine code_ok hT hC c _ _ _ _ _ _ _ _ _ hd hdr e hA ?_
  intro o tm h2 G2 a w2 e2 hA2
  obtain ⟨q1, rfl, cv, q2, q3⟩ := results_sound hT hA2.inv hA2.rep e2
  cases o with
  | exit i => exact absurd rfl (q1 i)
  | normal => exact ⟨hA2.defers, cv, q2, G2, hA2.mv, hA2.inv, q3⟩
  | ret => exact ⟨hA2.defers, cv, q2, G2, hA2.mv, hA2.inv, q3⟩

end
end Go.Proofs.Ytmhamnnfcmkcfaa

/- Calls that work on memory of their own leave the caller's heap as it is, whatever it is. -/
namespace Go.Proofs.Ytmhamnnfcmkcfaa
open Go.RowKit

/-- A call of a function that is not shared, told on no heap: on any heap it comes to the same, and leaves the heap. -/
def QOk (P : Program) (sh : Nat → Bool) (C : CallF) : Prop := ∀ (f : Nat) (args : List AV) (v : AV) (h' : Heap) (B : Nat) (G : Gh) (h : Heap) (w : World) (cargs : List Value), sh f = false → C f args [] = some (v, h') →
  RepL G args cargs → Inv B G h w → Runs P f cargs.toArray w fun cv w' => ∃ G', Mv B G w G' w' ∧ Inv B G' h w' ∧ Rep G' v cv

theorem setAt_nil {G G' : Gh} {ids : List Nat} : SetAt G G' [] ids := fun id _ esz cs wr h => by simp at h

theorem callBy_quiet {P : Program} {M : Modes} {E : CallF} (hE : FnOk P E) (hM : PrimOk P M) : QOk P M.shared (callBy M E) := by
  intro f args v h' B G h w cargs hs e hL hI
  unfold callBy at e
  rw [if_neg (by rw [hs]; exact Bool.false_ne_true)] at e
  obtain ⟨⟨args', ids⟩, h1, e⟩ := Option.bind_eq_some_iff.1 e
  have hr1 : ∀ loc, RepL ⟨G.S, loc⟩ args' cargs := fun loc => frzVs_rep loc _ _ _ _ hL h1 setAt_nil
  have fin : ∀ u, v = u → Runs P f cargs.toArray w (Pure G.S w u) → Runs P f cargs.toArray w fun cv w' => ∃ G', Mv B G w G' w' ∧ Inv B G' h w' ∧ Rep G' v cv := by
    rintro u rfl hp
    refine hp.mono ?_
    rintro cv w' ⟨S', s1, s2, s3, s4, s5⟩
    obtain ⟨k1, k2⟩ := hI.past s4 s1 s2 s3
    exact ⟨_, k2, k1, s5 _⟩
  split at e
  · rename_i g hg
    obtain ⟨u, hu, e⟩ := Option.bind_eq_some_iff.1 e
    cases e
    exact fin _ rfl (hM f g args' _ G.S w cargs hg hu hr1 hI.set)
  · obtain ⟨⟨r, hr⟩, h2, e⟩ := Option.bind_eq_some_iff.1 e
    obtain ⟨u, hu, e⟩ := Option.bind_eq_some_iff.1 e
    cases e
    refine fin _ rfl ((hE f args' [] r hr w.heap.size ⟨G.S, fun _ => none⟩ w cargs h2 (hr1 _) (Inv.bare hI.set)).mono ?_)
    rintro cv w' ⟨G', m2, i2, hrep⟩
    obtain ⟨S', s1, s2, s3, s4⟩ := res_settle i2 hrep hu
    refine ⟨S', m2.le.S.trans s1, fun b o u q1 q2 => ?_, s3, m2.below, s4⟩
    cases e : G'.S b o with
    | none => exact s2 b o u q1 e
    | some u' => exact m2.fresh b o u' e q2

end Go.Proofs.Ytmhamnnfcmkcfaa

/- All functions. -/
namespace Go.Proofs.Ytmhamnnfcmkcfaa
open Go.RowKit

theorem okDst_mono {N M : Nat} (h : N ≤ M) : ∀ c : Code, okDst N c = true → okDst M c = true := by
  intro c
  induction c with
  | region id ops draw =>
    intro e
    refine List.all_eq_true.2 fun o ho => ?_
    have := List.all_eq_true.1 e o ho
    cases hd : o.dst with
    | none => rfl
    | some t =>
      rw [hd] at this
      exact decide_eq_true (Nat.lt_of_lt_of_le (of_decide_eq_true this) h)
  | seq a b iha ihb => intro e; simp only [okDst, Bool.and_eq_true] at e ⊢; exact ⟨iha e.1, ihb e.2⟩
  | cond c a b iha ihb => intro e; simp only [okDst, Bool.and_eq_true] at e ⊢; exact ⟨iha e.1, ihb e.2⟩
  | block id a ih => exact ih
  | loop a ih => exact ih
  | scope a ih => exact ih
  | _ => intro _; rfl

/-- What must be so of the program for the interpreter to tell the truth of it. -/
structure EnvOk (P : Program) (E : Env) : Prop where
  tab : TabOk P E.T
  prim : PrimOk P E.M
  fn : ∀ f fn, E.fn f = some fn → P.funcs[f]? = some fn ∧ (fn.name == "runtime.NumGoroutine") = false ∧ ∃ c, fn.body = some c ∧ okDst fn.ntmps c = true ∧
    ∀ (C : CallF) (n N : Nat), FnOk P C → QOk P E.M.shared C → fn.ntmps ≤ N → DrawOk P E.T E.M.shared C (loopN n) (E.D f) N c

theorem callN_both {P : Program} {E : Env} (hE : EnvOk P E) : ∀ n, FnOk P (callN E n) ∧ QOk P E.M.shared (callN E n)
  | 0 => ⟨fun f args h v h' B G w cargs e => by (cases e), fun f args v h' B G h w cargs _ e => by (cases e)⟩
  | n + 1 => by
    have key : FnOk P fun f args h => (E.fn f).bind fun fn => evFunc optB E.T E.M.shared (callN E n) (loopN n) (E.D f) fn args h := by
      intro f args h v h' B G w cargs e hL hI
      obtain ⟨fn, hf, e⟩ := Option.bind_eq_some_iff.1 e
      obtain ⟨h1, h2, c, h3, h4, h5⟩ := hE.fn f fn hf
      have hN : fn.ntmps ≤ cargs.length + (fn.ntmps - cargs.length) := by omega
      obtain ⟨k1, k2⟩ := callN_both hE n
      exact Runs.of_calls h1 h3 h2 (func_ok hE.tab k1 h1 h3 (okDst_mono hN c h4) (h5 _ n _ k1 k2 hN) e hL hI)
    exact ⟨callBy_ok key hE.prim, callBy_quiet key hE.prim⟩

theorem callN_ok {P : Program} {E : Env} (hE : EnvOk P E) (n : Nat) : FnOk P (callN E n) := (callN_both hE n).1

/-- What a program's entry needs: a function that is told apart from the caller's memory, as `Calls` has it. -/
theorem calls_of_callN {P : Program} {E : Env} (hE : EnvOk P E) {n f : Nat} {fn : Func} {args : List AV} {v : AV} {h' : Heap} (hf : E.fn f = some fn) (e : evFunc optB E.T E.M.shared (callN E n) (loopN n) (E.D f) fn args [] = some (v, h'))
    {S : Settled} {w : World} {cargs : List Value} (hL : RepL ⟨S, fun _ => none⟩ args cargs) (hS : ∀ b o u, S b o = some u → w.cell? ⟨b, o, none⟩ = some u) :
    Calls P f cargs.toArray w fun
      | .returned cv, w' => Below w.heap.size w w' ∧ ∃ G', SLe S G'.S ∧ Inv w.heap.size G' h' w' ∧ Rep G' v cv
      | _, _ => False := by
  obtain ⟨h1, h2, c, h3, h4, h5⟩ := hE.fn f fn hf
  have hN : fn.ntmps ≤ cargs.length + (fn.ntmps - cargs.length) := by omega
  refine (func_ok hE.tab (callN_ok hE n) h1 h3 (okDst_mono hN c h4) (h5 _ n _ (callN_ok hE n) (callN_both hE n).2 hN) e hL (Inv.bare hS)).mono ?_
  intro en w' q
  cases en with
  | returned cv => obtain ⟨G', m, i, r⟩ := q; exact ⟨m.below, G', m.le.S, i, r⟩
  | panicked ch => exact q
  | outgrown => exact q

end Go.Proofs.Ytmhamnnfcmkcfaa

/- More fuel: the same answer. -/
namespace Go.Proofs.Ytmhamnnfcmkcfaa
open Go.RowKit

def CLe (C C' : CallF) : Prop := ∀ f a h r, C f a h = some r → C' f a h = some r
def FLe (f f' : St → Option (Out × St)) : Prop := ∀ s r, f s = some r → f' s = some r
def LLe (L L' : LoopF) : Prop := ∀ f f' s r, FLe f f' → L f s = some r → L' f' s = some r

section
variable {T : Tab} {sh : Nat → Bool}

theorem evAct_mono {C C' : CallF} (hC : CLe C C') {tm : Tm} {h : Heap} {op : Op} {r : AV × Heap} (e : evAct T C tm h op = some r) : evAct T C' tm h op = some r := by
  cases hc : isCall op with
  | true =>
    unfold isCall at hc
    split at hc
    · simp only [evAct] at e ⊢
      obtain ⟨c, h1, e⟩ := Option.bind_eq_some_iff.1 e
      rw [h1]
      exact hC _ _ _ _ e
    · cases hc
  | false =>
    rw [← e]
    unfold evAct
    split <;> first
      | rfl
      | (cases hc; done)

theorem gO_mono {α : Type} {g : Option (AV × Bool)} {x x' : Option α} {y r : α} (hx : ∀ r, x = some r → x' = some r) (e : gO g x y = some r) : gO g x' y = some r := by
  unfold gO at e ⊢
  split at e
  · exact hx _ e
  · obtain ⟨b, h1, e⟩ := Option.bind_eq_some_iff.1 e
    rw [h1]
    simp only [Option.bind_some]
    split at e
    · rename_i q; rw [if_pos q]; exact hx _ e
    · rename_i q; rw [if_neg q]; exact e

theorem optB_some {α β : Type} {x : Option α} {f : α → Option β} {a : α} {r : β} (h : x = some a) (k : f a = some r) : optB.b x f = some r := by subst h; exact k

theorem evOps_mono {C C' : CallF} (hC : CLe C C') {R : Type} {K K' : Tm → Heap → Option R} {r : R} (hK : ∀ tm h, K tm h = some r → K' tm h = some r) {all : List Oper} : ∀ (rest : List Oper) (tm : Tm) (h : Heap),
    evOps optB T C all K rest tm h = some r → evOps optB T C' all K' rest tm h = some r
  | [], tm, h, e => hK tm h e
  | o :: rest, tm, h, e => by
    simp only [evOps] at e ⊢
    split at e
    · exact evOps_mono hC hK rest _ _ e
    · split at e
      · rename_i hact
        rw [if_pos hact]
        obtain ⟨x, h1, e⟩ := Option.bind_eq_some_iff.1 e
        refine optB_some (gO_mono (fun r => evAct_mono hC) h1) ?_
        exact evOps_mono hC hK rest _ _ e
      · rename_i hact
        rw [if_neg hact]
        obtain ⟨x, h1, e⟩ := Option.bind_eq_some_iff.1 e
        refine optB_some h1 ?_
        exact evOps_mono hC hK rest _ _ e

theorem gChk_mono {R : Type} {x x' : Option R} {r : R} (hx : x = some r → x' = some r) : ∀ (ps : List Pend) (h : Heap), gChk ps h x = some r → gChk ps h x' = some r
  | [], _, e => hx e
  | p :: ps, h, e => by
    unfold gChk at e ⊢
    split at e
    · rename_i q; rw [if_pos q]; exact gChk_mono hx ps h e
    · cases e

theorem gPast_mono {R : Type} {g : Option (AV × Bool)} {n : Nat} {agg : Bool} {a v : AV} {x x' : Option R} {r : R} (hx : x = some r → x' = some r) : ∀ (hs : List Heap), gPast g n agg a v hs x = some r → gPast g n agg a v hs x' = some r
  | [], e => hx e
  | h :: hs, e => by
    unfold gPast at e ⊢
    split at e
    · rename_i q; rw [if_pos q]; exact gPast_mono hx hs e
    · cases e

theorem evQ_mono {C C' : CallF} (hC : CLe C C') {tm : Tm} {op : Op} {r : AV × Heap} (e : evQ C tm op = some r) : evQ C' tm op = some r := by
  unfold evQ at e ⊢
  split at e
  · exact hC _ _ _ _ e
  · cases e

theorem evDr_mono {C C' : CallF} (hC : CLe C C') {R : Type} {K K' : Tm → Heap → Option R} {r : R} (hK : ∀ tm h, K tm h = some r → K' tm h = some r) {anc : Array Nat} {ms : List Nat} {all : List Oper} :
    ∀ (rest : List Oper) (i : Nat) (hs : List Heap) (pd : List Pend) (tm : Tm) (h : Heap), evDr optB T sh C anc ms all K rest i hs pd tm h = some r → evDr optB T sh C' anc ms all K' rest i hs pd tm h = some r
  | [], i, hs, pd, tm, h, e => hK tm h e
  | o :: rest, i, hs, pd, tm, h, e => by
    simp only [evDr] at e ⊢
    split at e
    · exact evDr_mono hC hK rest _ _ _ _ _ e
    · split at e
      · rename_i hm
        rw [if_pos hm]
        obtain ⟨x, h1, e⟩ := Option.bind_eq_some_iff.1 e
        refine optB_some (gO_mono (fun r => evAct_mono hC) h1) ?_
        exact gChk_mono (evDr_mono hC hK rest _ _ _ _ _) _ _ e
      · rename_i hm
        rw [if_neg hm]
        split at e
        · rename_i hq
          rw [if_pos hq]
          obtain ⟨x, h1, e⟩ := Option.bind_eq_some_iff.1 e
          refine optB_some (gO_mono (fun r => evQ_mono hC) h1) ?_
          exact evDr_mono hC hK rest _ _ _ _ _ e
        · rename_i hq
          rw [if_neg hq]
          split at e
          · split at e
            · cases e
            · rename_i hz
              try simp only [hz]
              obtain ⟨x, h1, e⟩ := Option.bind_eq_some_iff.1 e
              refine optB_some h1 ?_
              exact gPast_mono (evDr_mono hC hK rest _ _ _ _ _) _ e
          · obtain ⟨x, h1, e⟩ := Option.bind_eq_some_iff.1 e
            refine optB_some h1 ?_
            exact evDr_mono hC hK rest _ _ _ _ _ e

theorem evCode_mono {C C' : CallF} (hC : CLe C C') {L L' : LoopF} (hL : LLe L L') : ∀ (c : Code) (R : Type) (K K' : Out → Tm → Heap → Option R) (r : R) (tm : Tm) (h : Heap), (∀ o tm h, K o tm h = some r → K' o tm h = some r) →
    evCode optB T sh C L noD c tm h K = some r → evCode optB T sh C' L' noD c tm h K' = some r := by
  intro c
  induction c with
  | skip => intro R K K' r tm h hK e; exact hK _ _ _ e
  | label l => intro R K K' r tm h hK e; exact hK _ _ _ e
  | exit id => intro R K K' r tm h hK e; exact hK _ _ _ e
  | ret => intro R K K' r tm h hK e; exact hK _ _ _ e
  | goto l => intro R K K' r tm h hK e; cases e
  | refuse => intro R K K' r tm h hK e; cases e
  | rangeFunc f p x y => intro R K K' r tm h hK e; cases e
  | region id ops draw =>
    intro R K K' r tm h hK e
    cases draw with
    | true => exact evDr_mono hC (fun tm h => hK .normal tm h) _ _ _ _ _ _ e
    | false => exact evOps_mono hC (fun tm h => hK .normal tm h) _ _ _ e
  | seq x y ihx ihy =>
    intro R K K' r tm h hK e
    refine ihx R _ _ r tm h ?_ e
    intro o tm h e
    cases o with
    | normal => exact ihy R K K' r tm h hK e
    | exit i => exact hK _ _ _ e
    | ret => exact hK _ _ _ e
  | cond c x y ihx ihy =>
    intro R K K' r tm h hK e
    obtain ⟨t, h1, e⟩ := Option.bind_eq_some_iff.1 e
    refine optB_some h1 ?_
    cases t with
    | true => exact ihx R K K' r tm h hK e
    | false => exact ihy R K K' r tm h hK e
  | block id x ih =>
    intro R K K' r tm h hK e
    refine ih R _ _ r tm h ?_ e
    intro o tm h e
    cases o with
    | normal => exact hK _ _ _ e
    | ret => exact hK _ _ _ e
    | exit i =>
      simp only [outBlock] at e ⊢
      split at e
      · rename_i q; rw [if_pos q]; exact hK _ _ _ e
      · rename_i q; rw [if_neg q]; exact hK _ _ _ e
  | scope x ih => intro R K K' r tm h hK e; exact ih R K K' r tm h hK e
  | loop x ih =>
    intro R K K' r tm h hK e
    obtain ⟨q, h1, e⟩ := Option.bind_eq_some_iff.1 e
    refine optB_some (hL _ _ _ _ ?_ h1) (hK _ _ _ e)
    intro s r e
    exact ih (Out × St) outK outK r s.tm s.h (fun _ _ _ h => h) e

theorem loopN_mono : ∀ n m, n ≤ m → LLe (loopN n) (loopN m)
  | 0, m, _ => fun f f' s r hf e => by cases e
  | n + 1, 0, h => by omega
  | n + 1, m + 1, h => fun f f' s r hf e => by
    simp only [loopN] at e ⊢
    cases hs : f s with
    | none => rw [hs] at e; cases e
    | some q =>
      rw [hs] at e
      rw [hf _ _ hs]
      obtain ⟨o, s'⟩ := q
      cases o with
      | normal => exact loopN_mono n m (by omega) f f' s' r hf e
      | exit i => exact e
      | ret => exact e

end
end Go.Proofs.Ytmhamnnfcmkcfaa

/- The limit: calls without fuel. -/
namespace Go.Proofs.Ytmhamnnfcmkcfaa
open Go.RowKit

theorem evFunc_mono {T : Tab} {sh : Nat → Bool} {C C' : CallF} (hC : CLe C C') {L L' : LoopF} (hL : LLe L L') {fn : Func} {args : List AV} {h : Heap} {r : AV × Heap} (e : evFunc optB T sh C L noD fn args h = some r) : evFunc optB T sh C' L' noD fn args h = some r := by
  unfold evFunc at e ⊢
  cases hb : fn.body with
  | none => rw [hb] at e; cases e
  | some c => rw [hb] at e; exact evCode_mono hC hL c _ _ _ _ _ _ (fun _ _ _ h => h) e

theorem callBy_mono {M : Modes} {E E' : CallF} (hE : CLe E E') : CLe (callBy M E) (callBy M E') := by
  intro f a h r e
  unfold callBy at e ⊢
  split at e
  · rename_i q; rw [if_pos q]; exact hE _ _ _ _ e
  · rename_i q
    rw [if_neg q]
    obtain ⟨x, h1, e⟩ := Option.bind_eq_some_iff.1 e
    rw [h1, Option.bind_some]
    cases hp : M.prim f with
    | some g => rw [hp] at e; exact e
    | none =>
      rw [hp] at e
      obtain ⟨y, h2, e⟩ := Option.bind_eq_some_iff.1 e
      simp only [hE _ _ _ _ h2, Option.bind_some]
      exact e

/-- An environment with no region told apart. -/
abbrev Env.plain (E : Env) : Prop := E.D = fun _ => noD

theorem callN_step {E : Env} (hp : E.plain) : ∀ n, CLe (callN E n) (callN E (n + 1))
  | 0 => fun f a h r e => by cases e
  | n + 1 => by
    refine callBy_mono ?_
    intro f a h r e
    obtain ⟨fn, h1, e⟩ := Option.bind_eq_some_iff.1 e
    have hD : E.D f = noD := by rw [hp]
    refine Option.bind_eq_some_iff.2 ⟨fn, h1, ?_⟩
    rw [hD] at e ⊢
    exact evFunc_mono (callN_step hp n) (loopN_mono n (n + 1) (by omega)) e

theorem callN_mono {E : Env} (hp : E.plain) {n m : Nat} (h : n ≤ m) : CLe (callN E n) (callN E m) := by
  induction m with
  | zero => have : n = 0 := by omega
            subst this
            exact fun _ _ _ _ e => e
  | succ m ih =>
    rcases Nat.lt_or_ge m n with q | q
    · have : n = m + 1 := by omega
      subst this
      exact fun _ _ _ _ e => e
    · exact fun f a h r e => callN_step hp m f a h r (ih q f a h r e)

end Go.Proofs.Ytmhamnnfcmkcfaa

/- Continuity: what the limits tell, enough fuel tells. -/
namespace Go.Proofs.Ytmhamnnfcmkcfaa
open Go.RowKit

/-- A rising family of calls and their limit. -/
structure Rises (Cn : Nat → CallF) (C : CallF) : Prop where
  up : ∀ n m, n ≤ m → CLe (Cn n) (Cn m)
  lim : ∀ f a h r, C f a h = some r → ∃ n, Cn n f a h = some r

section
variable {T : Tab} {sh : Nat → Bool} {Cn : Nat → CallF} {C : CallF}

theorem evAct_lim (hC : Rises Cn C) {tm : Tm} {h : Heap} {op : Op} {r : AV × Heap} (e : evAct T C tm h op = some r) : ∃ n, evAct T (Cn n) tm h op = some r := by
  cases hc : isCall op with
  | true =>
    unfold isCall at hc
    split at hc
    · simp only [evAct] at e ⊢
      obtain ⟨c, h1, e⟩ := Option.bind_eq_some_iff.1 e
      rw [h1]
      exact hC.lim _ _ _ _ e
    · cases hc
  | false =>
    refine ⟨0, ?_⟩
    rw [← e]
    unfold evAct
    split <;> first
      | rfl
      | (cases hc; done)

theorem evQ_lim (hC : Rises Cn C) {tm : Tm} {op : Op} {r : AV × Heap} (e : evQ C tm op = some r) : ∃ n, evQ (Cn n) tm op = some r := by
  unfold evQ at e ⊢
  split at e
  · exact hC.lim _ _ _ _ e
  · cases e

theorem gO_lim {α : Type} {g : Option (AV × Bool)} {x : Option α} {xn : Nat → Option α} {y r : α} (hx : ∀ r, x = some r → ∃ n, xn n = some r) (e : gO g x y = some r) : ∃ n, gO g (xn n) y = some r := by
  unfold gO at e ⊢
  split at e
  · exact hx _ e
  · obtain ⟨b, h1, e⟩ := Option.bind_eq_some_iff.1 e
    rw [h1]
    simp only [Option.bind_some]
    split at e
    · rename_i q; simp only [if_pos q]; exact hx _ e
    · rename_i q; simp only [if_neg q]; exact ⟨0, e⟩

theorem evOps_lim (hC : Rises Cn C) {R : Type} {K : Tm → Heap → Option R} {Kn : Nat → Tm → Heap → Option R} {r : R} (hup : ∀ n m, n ≤ m → ∀ tm h, Kn n tm h = some r → Kn m tm h = some r)
    (hK : ∀ tm h, K tm h = some r → ∃ n, Kn n tm h = some r) {all : List Oper} : ∀ (rest : List Oper) (tm : Tm) (h : Heap), evOps optB T C all K rest tm h = some r → ∃ n, evOps optB T (Cn n) all (Kn n) rest tm h = some r
  | [], tm, h, e => hK tm h e
  | o :: rest, tm, h, e => by
    simp only [evOps] at e ⊢
    split at e
    · exact evOps_lim hC hup hK rest _ _ e
    · split at e
      · rename_i hact
        simp only [if_pos hact]
        obtain ⟨x, h1, e⟩ := Option.bind_eq_some_iff.1 e
        obtain ⟨n1, h1⟩ := gO_lim (xn := fun n => evAct T (Cn n) tm h o.op) (fun r e => evAct_lim hC e) h1
        obtain ⟨n2, h2⟩ := evOps_lim hC hup hK rest _ _ e
        refine ⟨max n1 n2, ?_⟩
        refine optB_some (gO_mono (fun r => evAct_mono (hC.up _ _ (Nat.le_max_left n1 n2))) h1) ?_
        exact evOps_mono (hC.up _ _ (Nat.le_max_right n1 n2)) (hup _ _ (Nat.le_max_right n1 n2)) _ _ _ h2
      · rename_i hact
        simp only [if_neg hact]
        obtain ⟨x, h1, e⟩ := Option.bind_eq_some_iff.1 e
        obtain ⟨n2, h2⟩ := evOps_lim hC hup hK rest _ _ e
        refine ⟨n2, optB_some h1 ?_⟩
        exact h2

theorem gChk_lim {R : Type} {x : Option R} {xn : Nat → Option R} {r : R} (hx : x = some r → ∃ n, xn n = some r) : ∀ (ps : List Pend) (h : Heap), gChk ps h x = some r → ∃ n, gChk ps h (xn n) = some r
  | [], _, e => hx e
  | p :: ps, h, e => by
    unfold gChk at e ⊢
    split at e
    · rename_i q; simp only [if_pos q]; exact gChk_lim hx ps h e
    · cases e

theorem gPast_lim {R : Type} {g : Option (AV × Bool)} {k : Nat} {agg : Bool} {a v : AV} {x : Option R} {xn : Nat → Option R} {r : R} (hx : x = some r → ∃ n, xn n = some r) : ∀ (hs : List Heap), gPast g k agg a v hs x = some r → ∃ n, gPast g k agg a v hs (xn n) = some r
  | [], e => hx e
  | h :: hs, e => by
    unfold gPast at e ⊢
    split at e
    · rename_i q; simp only [if_pos q]; exact gPast_lim hx hs e
    · cases e

theorem evDr_lim (hC : Rises Cn C) {R : Type} {K : Tm → Heap → Option R} {Kn : Nat → Tm → Heap → Option R} {r : R} (hup : ∀ n m, n ≤ m → ∀ tm h, Kn n tm h = some r → Kn m tm h = some r)
    (hK : ∀ tm h, K tm h = some r → ∃ n, Kn n tm h = some r) {anc : Array Nat} {ms : List Nat} {all : List Oper} :
    ∀ (rest : List Oper) (i : Nat) (hs : List Heap) (pd : List Pend) (tm : Tm) (h : Heap), evDr optB T sh C anc ms all K rest i hs pd tm h = some r → ∃ n, evDr optB T sh (Cn n) anc ms all (Kn n) rest i hs pd tm h = some r
  | [], i, hs, pd, tm, h, e => hK tm h e
  | o :: rest, i, hs, pd, tm, h, e => by
    simp only [evDr] at e ⊢
    split at e
    · exact evDr_lim hC hup hK rest _ _ _ _ _ e
    · split at e
      · rename_i hm
        simp only [if_pos hm]
        obtain ⟨x, h1, e⟩ := Option.bind_eq_some_iff.1 e
        obtain ⟨n1, h1⟩ := gO_lim (xn := fun n => evAct T (Cn n) tm h o.op) (fun r e => evAct_lim hC e) h1
        obtain ⟨n2, h2⟩ := gChk_lim (evDr_lim hC hup hK rest _ _ _ _ _) _ _ e
        refine ⟨max n1 n2, ?_⟩
        refine optB_some (gO_mono (fun r => evAct_mono (hC.up _ _ (Nat.le_max_left n1 n2))) h1) ?_
        exact gChk_mono (evDr_mono (hC.up _ _ (Nat.le_max_right n1 n2)) (hup _ _ (Nat.le_max_right n1 n2)) _ _ _ _ _ _) _ _ h2
      · rename_i hm
        simp only [if_neg hm]
        split at e
        · rename_i hq
          simp only [if_pos hq]
          obtain ⟨x, h1, e⟩ := Option.bind_eq_some_iff.1 e
          obtain ⟨n1, h1⟩ := gO_lim (xn := fun n => evQ (Cn n) tm o.op) (fun r e => evQ_lim hC e) h1
          obtain ⟨n2, h2⟩ := evDr_lim hC hup hK rest _ _ _ _ _ e
          refine ⟨max n1 n2, ?_⟩
          refine optB_some (gO_mono (fun r => evQ_mono (hC.up _ _ (Nat.le_max_left n1 n2))) h1) ?_
          exact evDr_mono (hC.up _ _ (Nat.le_max_right n1 n2)) (hup _ _ (Nat.le_max_right n1 n2)) _ _ _ _ _ _ h2
        · rename_i hq
          simp only [if_neg hq]
          split at e
          · split at e
            · cases e
            · rename_i hz
              try simp only [hz]
              obtain ⟨x, h1, e⟩ := Option.bind_eq_some_iff.1 e
              obtain ⟨n2, h2⟩ := gPast_lim (evDr_lim hC hup hK rest _ _ _ _ _) _ e
              refine ⟨n2, optB_some h1 ?_⟩
              exact h2
          · obtain ⟨x, h1, e⟩ := Option.bind_eq_some_iff.1 e
            obtain ⟨n2, h2⟩ := evDr_lim hC hup hK rest _ _ _ _ _ e
            refine ⟨n2, optB_some h1 ?_⟩
            exact h2

end
end Go.Proofs.Ytmhamnnfcmkcfaa

/- The limits themselves. -/
namespace Go.Proofs.Ytmhamnnfcmkcfaa
open Go.RowKit

open Classical in
noncomputable def limO {α : Type} (x : Nat → Option α) : Option α := if h : ∃ n, (x n).isSome = true then x (Classical.choose h) else none

theorem limO_some {α : Type} {x : Nat → Option α} {r : α} (hup : ∀ n m, n ≤ m → ∀ r, x n = some r → x m = some r) : limO x = some r ↔ ∃ n, x n = some r := by
  unfold limO
  constructor
  · intro e
    split at e
    · exact ⟨_, e⟩
    · cases e
  · rintro ⟨n, hn⟩
    have h : ∃ n, (x n).isSome = true := ⟨n, by rw [hn]; rfl⟩
    rw [dif_pos h]
    obtain ⟨u, hu⟩ := Option.isSome_iff_exists.1 (Classical.choose_spec h)
    have h1 := hup _ _ (Nat.le_max_left n (Classical.choose h)) _ hn
    have h2 := hup _ _ (Nat.le_max_right n (Classical.choose h)) _ hu
    rw [h1] at h2
    cases h2
    exact hu

noncomputable def loopW : LoopF := fun f s => limO fun n => loopN n f s
noncomputable def callW (E : Env) : CallF := fun f a h => limO fun n => callN E n f a h

theorem loopW_some {f : St → Option (Out × St)} {s : St} {r : Out × St} : loopW f s = some r ↔ ∃ n, loopN n f s = some r :=
  limO_some fun n m h r e => loopN_mono n m h f f s r (fun _ _ h => h) e

theorem callW_some {E : Env} (hp : E.plain) {f : Nat} {a : List AV} {h : Heap} {r : AV × Heap} : callW E f a h = some r ↔ ∃ n, callN E n f a h = some r :=
  limO_some fun _ _ hnm r e => callN_mono hp hnm f a h r e

theorem loopN_lim {F : St → Option (Out × St)} {Fn : Nat → St → Option (Out × St)} (hup : ∀ n m, n ≤ m → FLe (Fn n) (Fn m)) (hF : ∀ s r, F s = some r → ∃ n, Fn n s = some r) : ∀ (k : Nat) (s : St) (r : Out × St), loopN k F s = some r → ∃ n, loopN k (Fn n) s = some r
  | 0, s, r, e => by cases e
  | k + 1, s, r, e => by
    simp only [loopN] at e
    cases hs : F s with
    | none => rw [hs] at e; cases e
    | some q =>
      rw [hs] at e
      obtain ⟨n1, h1⟩ := hF _ _ hs
      obtain ⟨o, s'⟩ := q
      cases o with
      | normal =>
        obtain ⟨n2, h2⟩ := loopN_lim hup hF k s' r e
        refine ⟨max n1 n2, ?_⟩
        simp only [loopN]
        rw [hup _ _ (Nat.le_max_left n1 n2) _ _ h1]
        exact loopN_mono k k (Nat.le_refl _) _ _ _ _ (hup _ _ (Nat.le_max_right n1 n2)) h2
      | exit i => exact ⟨n1, by simp only [loopN]; rw [h1]; exact e⟩
      | ret => exact ⟨n1, by simp only [loopN]; rw [h1]; exact e⟩

section
variable {T : Tab} {sh : Nat → Bool} {Cn : Nat → CallF} {C : CallF}

theorem evCode_lim (hC : Rises Cn C) : ∀ (c : Code) (R : Type) (K : Out → Tm → Heap → Option R) (Kn : Nat → Out → Tm → Heap → Option R) (r : R) (tm : Tm) (h : Heap),
    (∀ n m, n ≤ m → ∀ o tm h, Kn n o tm h = some r → Kn m o tm h = some r) → (∀ o tm h, K o tm h = some r → ∃ n, Kn n o tm h = some r) →
    evCode optB T sh C loopW noD c tm h K = some r → ∃ n, evCode optB T sh (Cn n) (loopN n) noD c tm h (Kn n) = some r := by
  intro c
  induction c with
  | skip => intro R K Kn r tm h hup hK e; exact hK _ _ _ e
  | label l => intro R K Kn r tm h hup hK e; exact hK _ _ _ e
  | exit id => intro R K Kn r tm h hup hK e; exact hK _ _ _ e
  | ret => intro R K Kn r tm h hup hK e; exact hK _ _ _ e
  | goto l => intro R K Kn r tm h hup hK e; cases e
  | refuse => intro R K Kn r tm h hup hK e; cases e
  | rangeFunc f p x y => intro R K Kn r tm h hup hK e; cases e
  | region id ops draw =>
    intro R K Kn r tm h hup hK e
    cases draw with
    | true => exact evDr_lim hC (Kn := fun n => Kn n .normal) (fun n m hnm => hup n m hnm .normal) (fun tm h => hK .normal tm h) _ _ _ _ _ _ e
    | false => exact evOps_lim hC (Kn := fun n => Kn n .normal) (fun n m hnm => hup n m hnm .normal) (fun tm h => hK .normal tm h) _ _ _ e
  | seq x y ihx ihy =>
    intro R K Kn r tm h hup hK e
    refine ihx R _ (fun n => outSeq (fun tm h => evCode optB T sh (Cn n) (loopN n) noD y tm h (Kn n)) (Kn n)) r tm h ?_ ?_ e
    · intro n m hnm o tm h e
      cases o with
      | normal => exact evCode_mono (hC.up n m hnm) (loopN_mono n m hnm) y R _ _ r tm h (hup n m hnm) e
      | exit i => exact hup n m hnm _ _ _ e
      | ret => exact hup n m hnm _ _ _ e
    · intro o tm h e
      cases o with
      | normal => exact ihy R K Kn r tm h hup hK e
      | exit i => exact hK _ _ _ e
      | ret => exact hK _ _ _ e
  | cond c x y ihx ihy =>
    intro R K Kn r tm h hup hK e
    obtain ⟨t, h1, e⟩ := Option.bind_eq_some_iff.1 e
    cases t with
    | true =>
      obtain ⟨n, hn⟩ := ihx R K Kn r tm h hup hK e
      exact ⟨n, optB_some h1 hn⟩
    | false =>
      obtain ⟨n, hn⟩ := ihy R K Kn r tm h hup hK e
      exact ⟨n, optB_some h1 hn⟩
  | block id x ih =>
    intro R K Kn r tm h hup hK e
    refine ih R _ (fun n => outBlock id (Kn n)) r tm h ?_ ?_ e
    · intro n m hnm o tm h e
      cases o with
      | normal => exact hup n m hnm _ _ _ e
      | ret => exact hup n m hnm _ _ _ e
      | exit i =>
        simp only [outBlock] at e ⊢
        split at e
        · rename_i q; rw [if_pos q]; exact hup n m hnm _ _ _ e
        · rename_i q; rw [if_neg q]; exact hup n m hnm _ _ _ e
    · intro o tm h e
      cases o with
      | normal => exact hK _ _ _ e
      | ret => exact hK _ _ _ e
      | exit i =>
        simp only [outBlock] at e ⊢
        split at e
        · rename_i q; simp only [if_pos q]; exact hK _ _ _ e
        · rename_i q; simp only [if_neg q]; exact hK _ _ _ e
  | scope x ih => intro R K Kn r tm h hup hK e; exact ih R K Kn r tm h hup hK e
  | loop x ih =>
    intro R K Kn r tm h hup hK e
    obtain ⟨q, h1, e⟩ := Option.bind_eq_some_iff.1 e
    obtain ⟨k, hk⟩ := loopW_some.1 h1
    have hFup : ∀ n m, n ≤ m → FLe (fun s => evCode optB T sh (Cn n) (loopN n) noD x s.tm s.h outK) (fun s => evCode optB T sh (Cn m) (loopN m) noD x s.tm s.h outK) :=
      fun n m hnm s r e => evCode_mono (hC.up n m hnm) (loopN_mono n m hnm) x _ _ _ r s.tm s.h (fun _ _ _ h => h) e
    obtain ⟨n1, h2⟩ := loopN_lim (Fn := fun n s => evCode optB T sh (Cn n) (loopN n) noD x s.tm s.h outK) hFup (fun s r e => ih (Out × St) outK (fun _ => outK) r s.tm s.h (fun _ _ _ _ _ _ h => h) (fun _ _ _ h => ⟨0, h⟩) e) k _ _ hk
    obtain ⟨n2, h3⟩ := hK _ _ _ e
    refine ⟨max k (max n1 n2), ?_⟩
    refine optB_some (loopN_mono k _ (Nat.le_max_left _ _) _ _ _ _ (hFup n1 _ (Nat.le_trans (Nat.le_max_left n1 n2) (Nat.le_max_right _ _))) h2) ?_
    exact hup n2 _ (Nat.le_trans (Nat.le_max_right n1 n2) (Nat.le_max_right _ _)) _ _ _ h3

end
end Go.Proofs.Ytmhamnnfcmkcfaa

/- The equations of calls, without fuel. -/
namespace Go.Proofs.Ytmhamnnfcmkcfaa
open Go.RowKit

theorem rises {E : Env} (hp : E.plain) : Rises (callN E) (callW E) := ⟨fun _ _ h => callN_mono hp h, fun _ _ _ _ e => (callW_some hp).1 e⟩

theorem evFunc_lim {E : Env} (hp : E.plain) {fn : Func} {args : List AV} {h : Heap} {r : AV × Heap} (e : evFunc optB E.T E.M.shared (callW E) loopW noD fn args h = some r) :
    ∃ n, evFunc optB E.T E.M.shared (callN E n) (loopN n) noD fn args h = some r := by
  unfold evFunc at e ⊢
  cases hb : fn.body with
  | none => rw [hb] at e; cases e
  | some c =>
    rw [hb] at e
    exact evCode_lim (rises hp) c _ _ (fun _ => endK optB E.T fn.results.toList) _ _ _ (fun _ _ _ _ _ _ h => h) (fun _ _ _ h => ⟨0, h⟩) e

/-- A call on the caller's own heap. -/
theorem callW_shared {E : Env} (hp : E.plain) {f : Nat} {fn : Func} (hf : E.fn f = some fn) (hs : E.M.shared f = true) {args : List AV} {h : Heap} {r : AV × Heap}
    (e : evFunc optB E.T E.M.shared (callW E) loopW noD fn args h = some r) : callW E f args h = some r := by
  obtain ⟨n, hn⟩ := evFunc_lim hp e
  refine (callW_some hp).2 ⟨n + 1, ?_⟩
  have hD : E.D f = noD := by rw [hp]
  simp only [callN, callBy]
  rw [if_pos hs, hf, Option.bind_some, hD]
  exact hn

/-- A call on a heap of its own. -/
theorem callW_pure {E : Env} (hp : E.plain) {f : Nat} {fn : Func} (hf : E.fn f = some fn) (hs : E.M.shared f = false) (hm : E.M.prim f = none) {args args' : List AV} {ids : List Nat} {h hr : Heap} {r v : AV}
    (ha : frzVs frzDepth h args = some (args', ids)) (e : evFunc optB E.T E.M.shared (callW E) loopW noD fn args' [] = some (r, hr)) (hv : frzR frzDepth hr r = some v) : callW E f args h = some (v, settle h ids) := by
  obtain ⟨n, hn⟩ := evFunc_lim hp e
  refine (callW_some hp).2 ⟨n + 1, ?_⟩
  have hD : E.D f = noD := by rw [hp]
  simp only [callN, callBy]
  rw [if_neg (by rw [hs]; exact Bool.false_ne_true), ha, Option.bind_some, hm]
  simp only [hf, Option.bind_some, hD, hn, hv]

/-- A call that a plain function tells. -/
theorem callW_prim {E : Env} (hp : E.plain) {f : Nat} {g : List AV → Option AV} (hs : E.M.shared f = false) (hm : E.M.prim f = some g) {args args' : List AV} {ids : List Nat} {h : Heap} {v : AV}
    (ha : frzVs frzDepth h args = some (args', ids)) (e : g args' = some v) : callW E f args h = some (v, settle h ids) := by
  refine (callW_some hp).2 ⟨1, ?_⟩
  simp only [callN, callBy]
  rw [if_neg (by rw [hs]; exact Bool.false_ne_true), ha, Option.bind_some, hm]
  simp only [e, Option.bind_some]

/-- The entry: what a row needs. -/
theorem calls_of_ev {P : Program} {E : Env} (hE : EnvOk P E) (hp : E.plain) {f : Nat} {fn : Func} {args : List AV} {v : AV} {h' : Heap} (hf : E.fn f = some fn) (e : evFunc optB E.T E.M.shared (callW E) loopW noD fn args [] = some (v, h'))
    {S : Settled} {w : World} {cargs : List Value} (hL : RepL ⟨S, fun _ => none⟩ args cargs) (hS : ∀ b o u, S b o = some u → w.cell? ⟨b, o, none⟩ = some u) :
    Calls P f cargs.toArray w fun
      | .returned cv, w' => Below w.heap.size w w' ∧ ∃ G', SLe S G'.S ∧ Inv w.heap.size G' h' w' ∧ Rep G' v cv
      | _, _ => False := by
  obtain ⟨n, hn⟩ := evFunc_lim hp e
  have hD : E.D f = noD := by rw [hp]
  exact calls_of_callN hE (n := n) hf (by rw [hD]; exact hn) hL hS

/-! ### Loops, round by round -/

theorem loopW_step {f : St → Option (Out × St)} {s s' : St} {r : Out × St} (h1 : f s = some (.normal, s')) (h2 : loopW f s' = some r) : loopW f s = some r := by
  obtain ⟨n, hn⟩ := loopW_some.1 h2
  refine loopW_some.2 ⟨n + 1, ?_⟩
  simp only [loopN]
  rw [h1]
  exact hn

theorem loopW_exit {f : St → Option (Out × St)} {s s' : St} {i : Nat} (h1 : f s = some (.exit i, s')) : loopW f s = some (.exit i, s') := by
  refine loopW_some.2 ⟨1, ?_⟩
  simp only [loopN]
  rw [h1]

theorem loopW_ret {f : St → Option (Out × St)} {s s' : St} (h1 : f s = some (.ret, s')) : loopW f s = some (.ret, s') := by
  refine loopW_some.2 ⟨1, ?_⟩
  simp only [loopN]
  rw [h1]

end Go.Proofs.Ytmhamnnfcmkcfaa

/- Settled lists, taken apart and put together. -/
namespace Go.Proofs.Ytmhamnnfcmkcfaa
open Go.RowKit

theorem frzCells_sv (F : AV → Option (SV × List Nat)) (hF : ∀ s, F (.sv s) = some (s, [])) : ∀ (l : List SV), frzCells F (l.map .sv) = some (l, [])
  | [] => rfl
  | s :: l => by
    simp only [List.map_cons, frzCells, hF, frzCells_sv F hF l, Option.bind_some, List.nil_append]

theorem frzC_sv (n : Nat) (h : Heap) (s : SV) : frzC n h (.sv s) = some (s, []) := by cases n <;> rfl

theorem frzCells_svs (n : Nat) (h : Heap) (l : List SV) : frzCells (frzC n h) (l.map .sv) = some (l, []) := frzCells_sv _ (frzC_sv n h) l

theorem chunk_flatten {α : Type} {esz : Nat} : ∀ (xs : List (List α)), (∀ x ∈ xs, x.length = esz) → chunk esz xs.length xs.flatten = xs
  | [], _ => rfl
  | x :: xs, h => by
    have hx := h x (List.mem_cons_self ..)
    simp only [List.length_cons, List.flatten_cons, chunk]
    rw [List.take_append_of_le_length (by omega), List.drop_append_of_le_length (by omega), List.take_of_length_le (by omega), List.drop_of_length_le (by omega), List.nil_append, chunk_flatten xs fun y hy => h y (List.mem_cons_of_mem _ hy)]

theorem takeN_all {α : Type} {cs : List α} {n : Nat} (h : cs.length = n) : takeN cs 0 n = some cs := by
  unfold takeN
  simp [h, List.take_of_length_le (Nat.le_of_eq h)]

theorem rows_sv {esz : Nat} {xs : List (List SV)} (hs : ∀ x ∈ xs, x.length = esz) (h : Heap) : rowsOf esz (.sv (.slice xs)) h = some (xs.length, xs.flatten.map .sv) := by
  simp only [rowsOf]
  rw [if_pos (List.all_eq_true.2 fun c hc => by simpa using hs c hc)]

/-- A slice of settled rows, settled. -/
theorem frz_own {n id esz : Nat} {h : Heap} {xs : List (List SV)} {wr : Bool} (he : 0 < esz) (hs : ∀ x ∈ xs, x.length = esz) (hid : h[id]? = some (.cells esz (xs.flatten.map .sv) wr)) : frzC (n + 1) h (.own id 0 xs.length) = some (.slice xs, [id]) := by
  simp only [frzC, hid]
  rw [if_pos he, takeN_all (by rw [List.length_map, flatten_len xs hs])]
  simp only [Option.bind_some, frzCells_svs, chunk_flatten xs hs]

end Go.Proofs.Ytmhamnnfcmkcfaa

/- Regions that draw their order: what the text's order comes to, as facts of each operation. -/
namespace Go.Proofs.Ytmhamnnfcmkcfaa
open Go.RowKit

/-! ### What an operation looks at -/

theorem map_ev {tm tm' : Tm} {xs : Array Operand} (h : ∀ x ∈ xs, ev tm x = ev tm' x) : xs.toList.map (ev tm) = xs.toList.map (ev tm') := List.map_congr_left fun x hx => h x (by simpa using hx)

theorem evParts_same {tm tm' : Tm} {ps : Array (Nat × Operand)} (h : ∀ x ∈ (ps.toList.map (·.2)).toArray, ev tm x = ev tm' x) : evParts tm ps = evParts tm' ps :=
  List.map_congr_left fun p hp => by rw [h p.2 (by simp only [List.mem_toArray, List.mem_map]; exact ⟨p, hp, rfl⟩)]

theorem one_ev {tm tm' : Tm} {xs : Array Operand} (h : ∀ x ∈ xs, ev tm x = ev tm' x) {α : Type} {F : AV → α} {x : Operand} (e : xs.toList = [x]) : F (ev tm x) = F (ev tm' x) := by
  rw [h x (by have : x ∈ xs.toList := by rw [e]; simp
              simpa using this)]

theorem two_ev {tm tm' : Tm} {xs : Array Operand} (h : ∀ x ∈ xs, ev tm x = ev tm' x) {α : Type} {F : AV → AV → α} {x y : Operand} (e : xs.toList = [x, y]) : F (ev tm x) (ev tm y) = F (ev tm' x) (ev tm' y) := by
  rw [h x (by have : x ∈ xs.toList := by rw [e]; simp
              simpa using this), h y (by have : y ∈ xs.toList := by rw [e]; simp
                                         simpa using this)]

theorem evPure_same {T : Tab} {tm tm' : Tm} {hp : Heap} {op : Op} (h : ∀ x ∈ op.operands, ev tm x = ev tm' x) : evPure T tm hp op = evPure T tm' hp op := by
  cases op <;> simp only [Op.operands] at h <;> simp only [evPure] <;> try rfl
  case move x => rw [h _ (by simp)]
  case assign x => rw [h _ (by simp)]
  case pick c a b => rw [h c (by simp), h a (by simp), h b (by simp)]
  case build t ps => rw [evParts_same h]
  case load t x => rw [h _ (by simp)]
  case nilCheck x => rw [h _ (by simp)]
  case binOp op t x y yt => rw [h x (by simp), h y (by simp)]
  case unOp op t x => rw [h _ (by simp)]
  case convert a b x => rw [h _ (by simp)]
  case makeFunc f first caps =>
    cases f <;> simp only [] <;> try rfl
    rw [map_ev (xs := first) fun x hx => h x (by simp [hx]), map_ev (xs := caps) fun x hx => h x (by simp [hx])]
  case slice t x lo hi m =>
    cases m with
    | some m => rfl
    | none =>
      have e1 : lo.map (ev tm) = lo.map (ev tm') := by cases lo with | none => rfl | some y => simp only [Option.map_some]; rw [h y (by simp)]
      have e2 : hi.map (ev tm) = hi.map (ev tm') := by cases hi with | none => rfl | some y => simp only [Option.map_some]; rw [h y (by simp)]
      simp only [h x (by simp), e1, e2]
  case fieldAddr t x i => rw [h _ (by simp)]
  case field t x i => rw [h _ (by simp)]
  case indexAddr t x i => rw [h x (by simp), h i (by simp)]
  case index t x i => rw [h x (by simp), h i (by simp)]
  case extract x i => rw [h _ (by simp)]
  case call c =>
    obtain ⟨callee, xs, ts⟩ := c
    have hx : ∀ x ∈ xs, ev tm x = ev tm' x := fun x q => h x (by simp [Call.operands, q])
    cases callee with
    | builtin b =>
      cases b <;> try rfl
      simp only
      split
      · rename_i x t e1 e2
        exact one_ev hx (F := fun v => (T.kind t).bind fun k => ln k v) e1
      · rfl
    | _ => rfl

theorem evAct_same {T : Tab} {C : CallF} {tm tm' : Tm} {hp : Heap} {op : Op} (h : ∀ x ∈ op.operands, ev tm x = ev tm' x) : evAct T C tm hp op = evAct T C tm' hp op := by
  cases op <;> simp only [Op.operands] at h <;> simp only [evAct] <;> try rfl
  case box t x => rw [h _ (by simp)]
  case store t a x => rw [h a (by simp), h x (by simp)]
  case buildSlice t n ps => rw [evParts_same h]
  case makeSlice t a b => rw [h a (by simp), h b (by simp)]
  case makeMap t r => cases r <;> rfl
  case insert t m k v => rw [h m (by simp), h k (by simp), h v (by simp)]
  case mapUpdate t m k v => rw [h m (by simp), h k (by simp), h v (by simp)]
  case lookup t m k ok => rw [h m (by simp), h k (by simp)]
  case convert a b x => simp only [h x (by simp)]
  case call c =>
    obtain ⟨callee, xs, ts⟩ := c
    have hx : ∀ x ∈ xs, ev tm x = ev tm' x := fun x q => h x (by simp [Call.operands, q])
    cases callee with
    | builtin b =>
      cases b <;> try rfl
      · simp only
        split
        · rename_i x y t u e1 e2
          exact two_ev hx (F := fun v v' => (T.kind t).bind fun k => (T.kind u).bind fun k2 => if rowKind k2 then apA k v v' hp else none) e1
        · rfl
      · simp only
        split
        · rename_i x y t u e1 e2
          exact two_ev hx (F := fun v v' => (T.kind t).bind fun k => (T.kind u).bind fun k2 => if rowKind k2 then cpA k v v' hp else none) e1
        · rfl
    | value f =>
      simp only
      rw [h f (by simp [Call.operands]), map_ev hx]
    | _ => rfl

theorem evQ_same {C : CallF} {tm tm' : Tm} {op : Op} (h : ∀ x ∈ op.operands, ev tm x = ev tm' x) : evQ C tm op = evQ C tm' op := by
  unfold evQ
  split
  · rename_i f xs ts
    rw [map_ev fun x hx => h x (by simp [Op.operands, Call.operands, hx])]
  · rfl

theorem valOf_same {tm tm' : Tm} {o : Oper} (h : ∀ x ∈ o.op.operands, ev tm x = ev tm' x) : valOf tm o = valOf tm' o := by
  obtain ⟨dst, op, ty, pos, after, guard⟩ := o
  simp only at h
  unfold valOf
  cases guard with
  | some g => rfl
  | none =>
    cases op <;> simp only [Op.operands] at h <;> simp only <;> try rfl
    case move x => rw [h _ (by simp)]
    case assign x => rw [h _ (by simp)]
    case makeFunc f first caps =>
      cases f <;> simp only [] <;> try rfl
      rw [map_ev (xs := first) fun x hx => h x (by simp [hx]), map_ev (xs := caps) fun x hx => h x (by simp [hx])]

/-- What a temporary that is looked at holds alone matters. -/
theorem ev_looks {ops : Array Oper} {o : Oper} {tm tm' : Tm} (h : ∀ t ∈ o.looksAt ops, tm t = tm' t) {x : Operand} (hx : x ∈ o.op.operands) : ev tm x = ev tm' x := by
  cases x with
  | tmp t => exact h t (List.mem_append_left _ (List.mem_filterMap.2 ⟨.tmp t, by simpa using hx, rfl⟩))
  | _ => rfl

theorem guardOf_looks {ops : Array Oper} {o : Oper} {tm tm' : Tm} (h : ∀ t ∈ o.looksAt ops, tm t = tm' t) : guardOf tm ops.toList o = guardOf tm' ops.toList o := by
  unfold guardOf
  cases hg : o.guard with
  | none => rfl
  | some p =>
    obtain ⟨j, want⟩ := p
    simp only [Array.getElem?_toList]
    cases hj : ops[j]? with
    | none => rfl
    | some g =>
      simp only
      cases hd : g.dst with
      | none => rfl
      | some d =>
        simp only
        rw [h d (List.mem_append_right _ (by simp [hg, hj, hd]))]

/-! ### What the text's order comes to -/

theorem valOf_notM {T : Tab} {sh : Nat → Bool} {tm : Tm} {o : Oper} {u : AV} (h : valOf tm o = some u) : isM T sh o.op = false := by
  obtain ⟨dst, op, ty, pos, after, guard⟩ := o
  unfold valOf at h
  simp only at h ⊢
  split at h
  · cases h
  · split at h <;> first
      | rfl
      | cases h

theorem isM_act {T : Tab} {sh : Nat → Bool} {op : Op} (h : isM T sh op = true) : isAct T op = true := by
  unfold isM at h
  split at h
  · rfl
  · exact h

section
variable (T : Tab) (sh : Nat → Bool) (C : CallF) (anc : Array Nat) (ms : List Nat) (all : List Oper)

def Fact (N : Nat) (o : Oper) (i m : Nat) (v : AV) (hp : Nat → Heap) (tm : Tm) : Prop :=
  match valOf tm o with
  | some u => v = u
  | none =>
    if isM T sh o.op then gO (guardOf tm all o) (evAct T C tm (hp m) o.op) (.dead, hp m) = some (v, hp (m + 1))
    else if isQ sh o.op then ∃ h', gO (guardOf tm all o) (evQ C tm o.op) (.dead, []) = some (v, h')
    else
      match o.op with
      | .load t a => ∃ z, T.size t = some z ∧ ∀ k, mBefore anc ms i ≤ k → k ≤ mUpto anc ms i → k ≤ N → gO (guardOf tm all o) (ld z.1 z.2 (ev tm a) (hp k)) .dead = some v
      | op => gO (guardOf tm all o) (evPure T tm (cutH anc ms i op (hp m)) op) .dead = some v

def Facts (N : Nat) (v : Nat → AV) (hp : Nat → Heap) : List Oper → Nat → Nat → Tm → Prop
  | [], _, _, _ => True
  | o :: rest, i, m, tm => Fact T sh C anc ms all N o i m (v i) hp tm ∧ Facts N v hp rest (i + 1) (if isM T sh o.op then m + 1 else m) (updO tm o.dst (v i))

def tmR (v : Nat → AV) : List Oper → Nat → Tm → Tm
  | [], _, tm => tm
  | o :: rest, i, tm => tmR v rest (i + 1) (updO tm o.dst (v i))

def cM : List Oper → Nat → Nat
  | [], m => m
  | o :: rest, m => cM rest (if isM T sh o.op then m + 1 else m)
end

section
variable {T : Tab} {sh : Nat → Bool} {C : CallF} {anc : Array Nat} {ms : List Nat} {all : List Oper}

theorem cM_ge : ∀ (l : List Oper) (m : Nat), m ≤ cM T sh l m
  | [], m => Nat.le_refl _
  | o :: rest, m => by
    have := cM_ge rest (if isM T sh o.op then m + 1 else m)
    simp only [cM]
    split at this <;> simp_all <;> omega

theorem Facts_congr {N : Nat} {v v' : Nat → AV} {hp : Nat → Heap} : ∀ (l : List Oper) (i m : Nat) (tm : Tm), (∀ k, i ≤ k → v k = v' k) → Facts T sh C anc ms all N v hp l i m tm → Facts T sh C anc ms all N v' hp l i m tm
  | [], i, m, tm, _, _ => trivial
  | o :: rest, i, m, tm, hv, h => by
    obtain ⟨h1, h2⟩ := h
    refine ⟨by rw [← hv i (Nat.le_refl _)]; exact h1, ?_⟩
    rw [← hv i (Nat.le_refl _)]
    exact Facts_congr rest (i + 1) _ _ (fun k hk => hv k (by omega)) h2

theorem tmR_congr {v v' : Nat → AV} : ∀ (l : List Oper) (i : Nat) (tm : Tm), (∀ k, i ≤ k → v k = v' k) → tmR v l i tm = tmR v' l i tm
  | [], i, tm, _ => rfl
  | o :: rest, i, tm, hv => by
    simp only [tmR]
    rw [← hv i (Nat.le_refl _)]
    exact tmR_congr rest (i + 1) _ fun k hk => hv k (by omega)

theorem gChk_some {R : Type} {x : Option R} {r : R} : ∀ (ps : List Pend) (h : Heap), gChk ps h x = some r → (∀ p ∈ ps, gO p.g (ld p.n p.agg p.a h) .dead = some p.v) ∧ x = some r
  | [], _, e => ⟨fun p hp => by simp at hp, e⟩
  | p :: ps, h, e => by
    unfold gChk at e
    split at e
    · rename_i q
      obtain ⟨h1, h2⟩ := gChk_some ps h e
      exact ⟨fun p' hp => by rcases List.mem_cons.1 hp with rfl | hp; exact q; exact h1 p' hp, h2⟩
    · cases e

theorem gPast_some {R : Type} {g : Option (AV × Bool)} {n : Nat} {agg : Bool} {a v : AV} {x : Option R} {r : R} : ∀ (hs : List Heap), gPast g n agg a v hs x = some r → (∀ h ∈ hs, gO g (ld n agg a h) .dead = some v) ∧ x = some r
  | [], e => ⟨fun p hp => by simp at hp, e⟩
  | h :: hs, e => by
    unfold gPast at e
    split at e
    · rename_i q
      obtain ⟨h1, h2⟩ := gPast_some hs e
      exact ⟨fun p' hp => by rcases List.mem_cons.1 hp with rfl | hp; exact q; exact h1 p' hp, h2⟩
    · cases e

theorem evDr_facts {R : Type} {K : Tm → Heap → Option R} {r : R} : ∀ (rest : List Oper) (i : Nat) (hs : List Heap) (pd : List Pend) (tm : Tm) (h : Heap), evDr optB T sh C anc ms all K rest i hs pd tm h = some r →
    ∃ (v : Nat → AV) (hp : Nat → Heap), (∀ k x, hs[k]? = some x → hp k = x) ∧ hp hs.length = h ∧ Facts T sh C anc ms all (cM T sh rest hs.length) v hp rest i hs.length tm ∧
      (∀ p ∈ pd, ∀ k, hs.length < k → k ≤ p.last → k ≤ cM T sh rest hs.length → gO p.g (ld p.n p.agg p.a (hp k)) .dead = some p.v) ∧ K (tmR v rest i tm) (hp (cM T sh rest hs.length)) = some r
  | [], i, hs, pd, tm, h, e => by
    refine ⟨fun _ => .undef, fun k => (hs[k]?).getD h, fun k x hx => by simp [hx], by simp, trivial, fun p _ k h1 _ h2 => ?_, ?_⟩
    · simp only [cM] at h2; omega
    · simp only [cM, tmR, List.getElem?_eq_none (Nat.le_refl _), Option.getD_none]; exact e
  | o :: rest, i, hs, pd, tm, h, e => by
    -- an operation that leaves the heap
    have step : ∀ (u : AV) (pd' : List Pend), isM T sh o.op = false → evDr optB T sh C anc ms all K rest (i + 1) hs pd' (updO tm o.dst u) h = some r → (∀ p ∈ pd, p ∈ pd') →
        (∀ hp : Nat → Heap, (∀ k x, hs[k]? = some x → hp k = x) → hp hs.length = h → (∀ p ∈ pd', ∀ k, hs.length < k → k ≤ p.last → k ≤ cM T sh rest hs.length → gO p.g (ld p.n p.agg p.a (hp k)) .dead = some p.v) →
          Fact T sh C anc ms all (cM T sh rest hs.length) o i hs.length u hp tm) →
        ∃ (v : Nat → AV) (hp : Nat → Heap), (∀ k x, hs[k]? = some x → hp k = x) ∧ hp hs.length = h ∧ Facts T sh C anc ms all (cM T sh (o :: rest) hs.length) v hp (o :: rest) i hs.length tm ∧
          (∀ p ∈ pd, ∀ k, hs.length < k → k ≤ p.last → k ≤ cM T sh (o :: rest) hs.length → gO p.g (ld p.n p.agg p.a (hp k)) .dead = some p.v) ∧ K (tmR v (o :: rest) i tm) (hp (cM T sh (o :: rest) hs.length)) = some r := by
      intro u pd' hM e hpd hF
      obtain ⟨v, hp, q1, q2, q3, q4, q5⟩ := evDr_facts rest (i + 1) hs pd' _ h e
      have hc : cM T sh (o :: rest) hs.length = cM T sh rest hs.length := by simp only [cM, hM]; rfl
      have hvv : ∀ k, i + 1 ≤ k → v k = (fun k => if k = i then u else v k) k := fun k hk => by simp only; rw [if_neg (by omega)]
      refine ⟨fun k => if k = i then u else v k, hp, q1, q2, ?_, ?_, ?_⟩
      · rw [hc]
        refine ⟨?_, ?_⟩
        · simp only [if_true]; exact hF hp q1 q2 q4
        · simp only [if_true, hM]
          exact Facts_congr rest (i + 1) _ _ hvv q3
      · rw [hc]; exact fun p hp => q4 p (hpd p hp)
      · rw [hc]
        simp only [tmR, if_true]
        rw [← tmR_congr rest (i + 1) _ hvv]
        exact q5
    simp only [evDr] at e
    split at e
    · rename_i u hu
      refine step u pd (valOf_notM hu) e (fun p hp => hp) fun hp _ _ _ => ?_
      unfold Fact
      rw [hu]
    · rename_i hval
      split at e
      · rename_i hM
        obtain ⟨⟨u, h'⟩, h1, e⟩ := Option.bind_eq_some_iff.1 e
        obtain ⟨hpd, e⟩ := gChk_some _ _ e
        obtain ⟨v, hp, q1, q2, q3, q4, q5⟩ := evDr_facts rest (i + 1) (hs ++ [h]) pd _ h' e
        simp only [List.length_append, List.length_cons, List.length_nil, Nat.zero_add] at q2 q3 q4 q5
        have hc : cM T sh (o :: rest) hs.length = cM T sh rest (hs.length + 1) := by simp only [cM, hM, if_true]
        have hvv : ∀ k, i + 1 ≤ k → v k = (fun k => if k = i then u else v k) k := fun k hk => by simp only; rw [if_neg (by omega)]
        have hh : hp hs.length = h := q1 _ _ (by simp)
        refine ⟨fun k => if k = i then u else v k, hp, fun k x hx => q1 k x (by rw [List.getElem?_append_left (List.getElem?_eq_some_iff.1 hx).1]; exact hx), hh, ?_, ?_, ?_⟩
        · rw [hc]
          refine ⟨?_, ?_⟩
          · simp only [if_true]
            unfold Fact
            rw [hval]
            simp only [hM, if_true]
            rw [hh, q2]
            exact h1
          · simp only [if_true, hM]
            exact Facts_congr rest (i + 1) _ _ hvv q3
        · rw [hc]
          intro p hpp k k1 k2 k3
          by_cases hk : k = hs.length + 1
          · subst hk
            rw [q2]
            exact hpd p (List.mem_filter.2 ⟨hpp, by simpa using k2⟩)
          · exact q4 p hpp k (by omega) k2 k3
        · rw [hc]
          simp only [tmR, if_true]
          rw [← tmR_congr rest (i + 1) _ hvv]
          exact q5
      · rename_i hM
        have hM' : isM T sh o.op = false := by simpa using hM
        split at e
        · rename_i hQ
          obtain ⟨⟨u, h'⟩, h1, e⟩ := Option.bind_eq_some_iff.1 e
          refine step u pd hM' e (fun p hp => hp) fun hp _ _ _ => ?_
          unfold Fact
          rw [hval]
          simp only [hM', hQ, if_true]
          exact ⟨h', h1⟩
        · rename_i hQ
          have hQ' : isQ sh o.op = false := by simpa using hQ
          split at e
          · rename_i t a hop
            split at e
            · cases e
            · rename_i z hz
              obtain ⟨u, h1, e⟩ := Option.bind_eq_some_iff.1 e
              obtain ⟨hpast, e⟩ := gPast_some _ e
              refine step u _ hM' e (fun p hp => List.mem_cons_of_mem _ hp) fun hp p1 p2 p3 => ?_
              unfold Fact
              rw [hval]
              simp only [hM', hQ', hop]
              refine ⟨z, hz, fun k k1 k2 k3 => ?_⟩
              rcases Nat.lt_trichotomy k hs.length with q | q | q
              · rw [p1 k hs[k] (List.getElem?_eq_getElem q)]
                refine hpast _ ?_
                rw [List.mem_iff_getElem?]
                refine ⟨k - mBefore anc ms i, ?_⟩
                rw [List.getElem?_drop, show mBefore anc ms i + (k - mBefore anc ms i) = k by omega]
                exact List.getElem?_eq_getElem q
              · subst q; rw [p2]; exact h1
              · exact p3 _ (List.mem_cons_self ..) k q k2 k3
          · rename_i hop
            obtain ⟨u, h1, e⟩ := Option.bind_eq_some_iff.1 e
            refine step u pd hM' e (fun p hp => hp) fun hp _ p2 _ => ?_
            unfold Fact
            rw [hval]
            simp only [hM', hQ']
            rw [if_neg Bool.false_ne_true, if_neg Bool.false_ne_true]
            rw [p2]
            exact h1

end
end Go.Proofs.Ytmhamnnfcmkcfaa

/- Regions that draw their order: any order comes to what the text's order comes to. -/
namespace Go.Proofs.Ytmhamnnfcmkcfaa
open Go.RowKit

def Anc (ops : Array Oper) (i k : Nat) : Prop := ((Region.before ops).getD i 0).testBit k = true

/-- What is checked of a region. -/
structure DrawP (T : Tab) (sh : Nat → Bool) (ops : Array Oper) : Prop where
  ssa : ∀ (i j : Nat) (oi oj : Oper) (d : Nat), ops[i]? = some oi → ops[j]? = some oj → oi.dst = some d → oj.dst = some d → i = j
  look : ∀ (i j : Nat) (oi oj : Oper) (t : Nat), ops[i]? = some oi → ops[j]? = some oj → t ∈ oi.looksAt ops → oj.dst = some t → (j < i ∧ Anc ops i j) ∨ i = j ∨ (i < j ∧ Anc ops j i)
  clo : ∀ (i : Nat) (o : Oper) (k : Nat), ops[i]? = some o → Anc ops i k → ∃ e ∈ o.after, Region.binds .any e = true ∧ (k = e.on ∨ Anc ops e.on k)
  dep : ∀ (i : Nat) (o : Oper) (e : Edge), ops[i]? = some o → e ∈ o.after → Region.binds .any e = true → e.on < i
  chain : ∀ (i j : Nat) (oi oj : Oper), i < j → ops[i]? = some oi → ops[j]? = some oj → isM T sh oi.op = true → isM T sh oj.op = true → Anc ops j i

/-! ### Numbers of operations -/

section
variable {T : Tab} {sh : Nat → Bool} {C : CallF} {anc : Array Nat} {ms : List Nat} {all : List Oper}

theorem Facts_get {N : Nat} {v : Nat → AV} {hp : Nat → Heap} : ∀ (l : List Oper) (i m : Nat) (tm : Tm), Facts T sh C anc ms all N v hp l i m tm → ∀ (k : Nat) (o : Oper), l[k]? = some o →
    Fact T sh C anc ms all N o (i + k) (cM T sh (l.take k) m) (v (i + k)) hp (tmR v (l.take k) i tm)
  | [], i, m, tm, h, k, o, e => by simp at e
  | o' :: rest, i, m, tm, h, 0, o, e => by
    simp only [List.getElem?_cons_zero, Option.some.injEq] at e
    subst e
    exact h.1
  | o' :: rest, i, m, tm, h, k + 1, o, e => by
    have := Facts_get rest (i + 1) _ _ h.2 k o (by simpa using e)
    rw [show i + 1 + k = i + (k + 1) by omega] at this
    exact this

theorem tmR_append {v : Nat → AV} : ∀ (a b : List Oper) (i : Nat) (tm : Tm), tmR v (a ++ b) i tm = tmR v b (i + a.length) (tmR v a i tm)
  | [], b, i, tm => rfl
  | o :: a, b, i, tm => by
    simp only [List.cons_append, tmR, List.length_cons]
    rw [tmR_append a b (i + 1), show i + 1 + a.length = i + (a.length + 1) by omega]

theorem cM_append : ∀ (a b : List Oper) (m : Nat), cM T sh (a ++ b) m = cM T sh b (cM T sh a m)
  | [], b, m => rfl
  | o :: a, b, m => by simp only [List.cons_append, cM]; rw [cM_append a b]

theorem take_succ_some {α : Type} {l : List α} {i : Nat} {o : α} (h : l[i]? = some o) : l.take (i + 1) = l.take i ++ [o] := by
  rw [List.take_add_one, h]; rfl

theorem rk_succ {l : List Oper} {i : Nat} {o : Oper} (h : l[i]? = some o) : cM T sh (l.take (i + 1)) 0 = if isM T sh o.op then cM T sh (l.take i) 0 + 1 else cM T sh (l.take i) 0 := by
  rw [take_succ_some h, cM_append]; rfl

theorem tmT_succ {v : Nat → AV} {l : List Oper} {i : Nat} {o : Oper} {tm : Tm} (h : l[i]? = some o) : tmR v (l.take (i + 1)) 0 tm = updO (tmR v (l.take i) 0 tm) o.dst (v i) := by
  have hl : (l.take i).length = i := by
    have := (List.getElem?_eq_some_iff.1 h).1
    rw [List.length_take]; omega
  rw [take_succ_some h, tmR_append, hl, Nat.zero_add]
  rfl

theorem updO_ne {tm : Tm} {d : Option Nat} {v : AV} {t : Nat} (h : d ≠ some t) : updO tm d v t = tm t := by
  cases d with
  | none => rfl
  | some d =>
    simp only [updO, upd]
    rw [if_neg fun q => h (by rw [q])]

theorem updO_eq {tm : Tm} {v : AV} {t : Nat} : updO tm (some t) v t = v := by simp [updO, upd]

theorem tmT_get {v : Nat → AV} {l : List Oper} {tm : Tm} (ssa : ∀ (i j : Nat) (oi oj : Oper) (d : Nat), l[i]? = some oi → l[j]? = some oj → oi.dst = some d → oj.dst = some d → i = j) (t : Nat) : ∀ (i : Nat), i ≤ l.length →
    (∀ j o, j < i → l[j]? = some o → o.dst = some t → tmR v (l.take i) 0 tm t = v j) ∧ ((∀ j o, j < i → l[j]? = some o → o.dst ≠ some t) → tmR v (l.take i) 0 tm t = tm t)
  | 0, _ => ⟨fun j o h => by omega, fun _ => by simp [tmR]⟩
  | i + 1, hi => by
    obtain ⟨h1, h2⟩ := tmT_get (v := v) (tm := tm) ssa t i (by omega)
    have hl : l[i]? = some l[i] := List.getElem?_eq_getElem (by omega)
    rw [tmT_succ hl]
    refine ⟨fun j o hj hjo hd => ?_, fun hn => ?_⟩
    · by_cases q : j = i
      · subst q
        rw [hl] at hjo
        cases hjo
        rw [hd, updO_eq]
      · rw [updO_ne fun q2 => q (ssa _ _ _ _ _ hjo hl hd q2)]
        exact h1 j o (by omega) hjo hd
    · rw [updO_ne (hn i _ (by omega) hl)]
      exact h2 fun j o hj => hn j o (by omega)

theorem rk_le {l : List Oper} {i j : Nat} (h : i ≤ j) : cM T sh (l.take i) 0 ≤ cM T sh (l.take j) 0 := by
  rw [show l.take i = (l.take j).take i by rw [List.take_take, Nat.min_eq_left h]]
  generalize l.take j = l
  rw [← List.take_append_drop i l, cM_append]
  simp only [List.take_append_drop]
  exact cM_ge _ _

theorem rk_lt {l : List Oper} {i j : Nat} {o : Oper} (h : i < j) (hi : l[i]? = some o) (hM : isM T sh o.op = true) : cM T sh (l.take i) 0 < cM T sh (l.take j) 0 := by
  have h1 := rk_succ (T := T) (sh := sh) hi
  rw [if_pos hM] at h1
  have := rk_le (T := T) (sh := sh) (l := l) (i := i + 1) (j := j) h
  omega

theorem rk_ex {l : List Oper} (m : Nat) : ∀ (j : Nat), j ≤ l.length → m < cM T sh (l.take j) 0 → ∃ i o, i < j ∧ l[i]? = some o ∧ isM T sh o.op = true ∧ cM T sh (l.take i) 0 = m
  | 0, _, h => by simp [cM] at h
  | j + 1, hj, h => by
    have hl : l[j]? = some l[j] := List.getElem?_eq_getElem (by omega)
    have h1 := rk_succ (T := T) (sh := sh) hl
    by_cases q : m < cM T sh (l.take j) 0
    · obtain ⟨i, o, h2, h3⟩ := rk_ex m j (by omega) q
      exact ⟨i, o, by omega, h3⟩
    · split at h1
      · rename_i hM
        exact ⟨j, _, by omega, hl, hM, by omega⟩
      · omega

theorem ms_get : ∀ (l : List Oper) (i m r j : Nat), (((l.zipIdx i).filter fun p => isM T sh p.1.op).map (·.2))[r]? = some j → ∃ k o, j = i + k ∧ l[k]? = some o ∧ isM T sh o.op = true ∧ cM T sh (l.take k) m = m + r
  | [], i, m, r, j, h => by simp at h
  | o :: l, i, m, r, j, h => by
    rw [List.zipIdx_cons, List.filter_cons] at h
    split at h
    · rename_i hM
      simp only at hM
      cases r with
      | zero =>
        simp at h
        exact ⟨0, o, by omega, by simp, hM, by simp [cM]⟩
      | succ r =>
        simp only [List.map_cons, List.getElem?_cons_succ] at h
        obtain ⟨k, o', h1, h2, h3, h4⟩ := ms_get l (i + 1) (m + 1) r j h
        refine ⟨k + 1, o', by omega, by simpa using h2, h3, ?_⟩
        simp only [List.take_succ_cons, cM, hM, if_true]
        omega
    · rename_i hM
      simp only at hM
      obtain ⟨k, o', h1, h2, h3, h4⟩ := ms_get l (i + 1) m r j h
      refine ⟨k + 1, o', by omega, by simpa using h2, h3, ?_⟩
      simp only [List.take_succ_cons, cM, if_neg hM]
      exact h4

theorem ms_len : ∀ (l : List Oper) (i m : Nat), cM T sh l m = m + (((l.zipIdx i).filter fun p => isM T sh p.1.op).map (·.2)).length
  | [], i, m => by simp [cM]
  | o :: l, i, m => by
    rw [List.zipIdx_cons, List.filter_cons]
    simp only [cM]
    rw [ms_len l (i + 1)]
    split
    · simp only [List.map_cons, List.length_cons]; omega
    · rfl

theorem mUpto_spec (i : Nat) : ∀ (ms : List Nat), mUpto anc ms i = ms.length ∨ ∃ x, ms[mUpto anc ms i]? = some x ∧ (anc.getD x 0).testBit i = true
  | [] => .inl rfl
  | x :: ms => by
    simp only [mUpto]
    split
    · rename_i h; exact .inr ⟨x, by simp, h⟩
    · rcases mUpto_spec i ms with h | ⟨y, h1, h2⟩
      · exact .inl (by rw [h]; rfl)
      · exact .inr ⟨y, by simpa using h1, h2⟩

theorem mBefore_le {i m : Nat} {ms : List Nat} (h : ∀ r x, ms[r]? = some x → (anc.getD i 0).testBit x = true → r < m) : mBefore anc ms i ≤ m := by
  unfold mBefore
  rw [← List.take_append_drop m ms, List.filter_append, List.length_append]
  have : (ms.drop m).filter (fun x => (anc.getD i 0).testBit x) = [] := by
    rw [List.filter_eq_nil_iff]
    intro x hx hb
    obtain ⟨r, hr⟩ := List.mem_iff_getElem?.1 hx
    rw [List.getElem?_drop] at hr
    have := h _ _ hr hb
    omega
  rw [this, List.length_nil, Nat.add_zero]
  exact Nat.le_trans (List.length_filter_le _ _) (by rw [List.length_take]; omega)

theorem evPure_heap {tm : Tm} {h h' : Heap} {op : Op} (hl : ∀ t a, op ≠ .load t a) (hc : isCut op = false) : evPure T tm h op = evPure T tm h' op := by
  cases op <;> first
    | rfl
    | (exfalso; exact hl _ _ rfl)
    | (cases hc; done)
    | skip
  all_goals (unfold evPure; split <;> first | rfl | (rename_i q; cases q) | (rename_i q; cases hc))

theorem sl_nil {k : K} {x : AV} {lo hi : Option AV} {h : Heap} {v : AV} (e : sl k x lo hi [] = some v) : sl k x lo hi h = some v := by
  unfold sl at e ⊢
  split at e
  · exact e
  · exact e
  · exact e
  · obtain ⟨a, h1, e⟩ := Option.bind_eq_some_iff.1 e
    obtain ⟨b, h2, e⟩ := Option.bind_eq_some_iff.1 e
    simp only [h1, h2, Option.bind_some]
    split at e
    · rename_i q; rw [if_pos q]; exact e
    · rename_i q
      rw [if_neg q]
      split at e
      · simp at e
      · rename_i q2; rw [if_neg q2]; exact e
  · cases e

theorem evPure_nil {tm : Tm} {h : Heap} {op : Op} {v : AV} (hc : isCut op = true) (e : evPure T tm [] op = some v) : evPure T tm h op = some v := by
  unfold isCut at hc
  split at hc
  · rename_i t x lo hi m
    cases m with
    | some m => cases e
    | none =>
      simp only [evPure] at e ⊢
      obtain ⟨k, h1, e⟩ := Option.bind_eq_some_iff.1 e
      rw [h1, Option.bind_some]
      exact sl_nil e
  · cases hc

end
end Go.Proofs.Ytmhamnnfcmkcfaa

/- Regions that draw their order: the walk in any order. -/
namespace Go.Proofs.Ytmhamnnfcmkcfaa
open Go.RowKit

section
variable {P : Program} {T : Tab} {sh : Nat → Bool} {C : CallF} {ops : Array Oper} {B : Nat} {G0 : Gh} {w0 : World} {N : Nat} {ds : List Deferred}

open Classical in
/-- What the temporaries hold when some operations were carried out. -/
noncomputable def tmL (ops : Array Oper) (v : Nat → AV) (tm : Tm) (listed : Array Bool) : Tm := fun t =>
  if h : ∃ j, listed.getD j false = true ∧ ∃ o, ops[j]? = some o ∧ o.dst = some t then v (Classical.choose h) else tm t

theorem tmL_get (hD : DrawP T sh ops) {v : Nat → AV} {tm : Tm} {listed : Array Bool} {j : Nat} {o : Oper} {t : Nat} (hj : listed.getD j false = true) (ho : ops[j]? = some o) (hd : o.dst = some t) : tmL ops v tm listed t = v j := by
  have h : ∃ j, listed.getD j false = true ∧ ∃ o, ops[j]? = some o ∧ o.dst = some t := ⟨j, hj, o, ho, hd⟩
  unfold tmL
  rw [dif_pos h]
  obtain ⟨-, o', h1, h2⟩ := Classical.choose_spec h
  rw [hD.ssa _ _ _ _ _ h1 ho h2 hd]

theorem tmL_not {v : Nat → AV} {tm : Tm} {listed : Array Bool} {t : Nat} (h : ∀ j o, ops[j]? = some o → o.dst = some t → listed.getD j false = false) : tmL ops v tm listed t = tm t := by
  unfold tmL
  rw [dif_neg]
  rintro ⟨j, h1, o, h2, h3⟩
  rw [h j o h2 h3] at h1
  cases h1

theorem getD_set_same {listed : Array Bool} {i : Nat} (h : i < listed.size) : (listed.setIfInBounds i true).getD i false = true := by simp [h]

theorem tmL_set (hD : DrawP T sh ops) {v : Nat → AV} {tm : Tm} {listed : Array Bool} {i : Nat} {o : Oper} (hs : listed.size = ops.size) (ho : ops[i]? = some o) :
    tmL ops v tm (listed.setIfInBounds i true) = updO (tmL ops v tm listed) o.dst (v i) := by
  have hi : i < listed.size := by rw [hs]; exact (Array.getElem?_eq_some_iff.1 ho).1
  funext t
  by_cases q : o.dst = some t
  · rw [tmL_get hD (getD_set_same hi) ho q, q, updO_eq]
  · rw [updO_ne q]
    by_cases q2 : ∃ j, listed.getD j false = true ∧ ∃ o, ops[j]? = some o ∧ o.dst = some t
    · obtain ⟨j, h1, o', h2, h3⟩ := q2
      rw [tmL_get hD h1 h2 h3, tmL_get hD (getD_set_true h1) h2 h3]
    · have h0 : ∀ j o, ops[j]? = some o → o.dst = some t → listed.getD j false = false := fun j o' h2 h3 => by
        cases e : listed.getD j false with
        | false => rfl
        | true => exact absurd ⟨j, e, o', h2, h3⟩ q2
      rw [tmL_not h0, tmL_not]
      intro j o' h2 h3
      have : i ≠ j := fun e => by subst e; rw [ho] at h2; cases h2; exact q h3
      rw [getD_set_ne false this]
      exact h0 j o' h2 h3

/-- What is so of the operations that were carried out. -/
structure DInv (T : Tab) (sh : Nat → Bool) (ops : Array Oper) (listed : Array Bool) (m : Nat) : Prop where
  size : listed.size = ops.size
  closed : ∀ i o, ops[i]? = some o → listed.getD i false = true → ∀ e ∈ o.after, Region.binds .any e = true → listed.getD e.on false = true
  cnt : ∀ i o, ops[i]? = some o → isM T sh o.op = true → (listed.getD i false = true ↔ cM T sh (ops.toList.take i) 0 < m)
  le : m ≤ cM T sh ops.toList 0

theorem anc_listed (hD : DrawP T sh ops) {listed : Array Bool} {m : Nat} (hI : DInv T sh ops listed m) : ∀ (i : Nat), listed.getD i false = true → ∀ k, Anc ops i k → listed.getD k false = true := by
  intro i
  induction i using Nat.strongRecOn with
  | _ i ih =>
    intro hi k hk
    have hlt : i < ops.size := by
      rcases Nat.lt_or_ge i listed.size with h | h
      · rw [hI.size] at h; exact h
      · simp [Array.getElem?_eq_none h] at hi
    have ho : ops[i]? = some ops[i] := Array.getElem?_eq_getElem hlt
    obtain ⟨e, he, hb, h⟩ := hD.clo i _ k ho hk
    have h1 := hI.closed i _ ho hi e he hb
    rcases h with rfl | h
    · exact h1
    · exact ih e.on (hD.dep i _ e ho he hb) h1 k h

theorem anc_lt (hD : DrawP T sh ops) : ∀ (i : Nat) (o : Oper) (k : Nat), ops[i]? = some o → Anc ops i k → k < i := by
  intro i
  induction i using Nat.strongRecOn with
  | _ i ih =>
    intro o k ho hk
    obtain ⟨e, he, hb, h⟩ := hD.clo i o k ho hk
    have h1 := hD.dep i o e ho he hb
    rcases h with rfl | h
    · exact h1
    · have hlt : e.on < ops.size := by have := (Array.getElem?_eq_some_iff.1 ho).1; omega
      have := ih e.on h1 ops[e.on] k (Array.getElem?_eq_getElem hlt) h
      omega

theorem ready_all (hD : DrawP T sh ops) {listed : Array Bool} (hs : listed.size = ops.size) (hr : Region.ready .any ops listed = []) : ∀ i, i < ops.size → listed.getD i false = true := by
  intro i
  induction i using Nat.strongRecOn with
  | _ i ih =>
    intro hi
    cases e : listed.getD i false with
    | true => rfl
    | false =>
      exfalso
      have ho : ops[i]? = some ops[i] := Array.getElem?_eq_getElem hi
      have h' : i < listed.size := by rw [hs]; exact hi
      have e2 : listed.getD i true = false := by simp [h'] at e ⊢; exact e
      have : i ∈ Region.ready .any ops listed := mem_ready.2 ⟨e2, _, ho, fun e' he hb => by
        have h1 := hD.dep i _ e' ho he hb
        exact ih e'.on h1 (by omega)⟩
      rw [hr] at this
      cases this

/-- A call of a function that is not shared. -/
theorem q_ok (hQ : QOk P sh C) {tm : Tm} {h : Heap} {G : Gh} {a : Act} {w : World} (hr : RepT G tm a.tmps) (hI : Inv B G h w) {o : Oper} {v : AV} {h' : Heap}
    (hq : isQ sh o.op = true) (e : evQ C tm o.op = some (v, h')) {next : Act → World → Prop} {Q : Exit → Act → World → Prop}
    (hn : ∀ cv w' G', Mv B G w G' w' → Inv B G' h w' → Rep G' v cv → next (a.put o.dst cv) w') : o.wp P a w next Q := by
  unfold Oper.wp
  obtain ⟨dst, op, ty, pos, after, guard⟩ := o
  simp only at hq e
  unfold isQ at hq
  split at hq
  · rename_i f xs ts
    simp only [Bool.not_eq_true'] at hq
    simp only [evQ] at e
    have hargs := evList_rep hr xs
    have hrun := hQ f _ _ _ _ _ _ _ _ hq e hargs hI
    have hex : (execOp a.eval ⟨dst, .call { callee := .value (.func f), args := xs, argTypes := ts }, ty, pos, after, guard⟩).run P w = (callFunc f (xs.map a.eval).toList.toArray).run P w := by
      simp [execOp, resolve, Deferred.ofValue, invoke, Act.eval]
      congr 2
      apply Array.ext'
      simp
    rw [hex]
    exact hrun _ a next Q fun cv w' ⟨G', q1, q2, q3⟩ => hn cv w' G' q1 q2 q3
  · cases hq

theorem draw_any (hT : TabOk P T) (hC : FnOk P C) (hQ : QOk P sh C) (hD : DrawP T sh ops) (hd : ∀ (i : Nat) (o : Oper) (t : Nat), ops[i]? = some o → o.dst = some t → t < N) {v : Nat → AV} {hp : Nat → Heap} {tm : Tm}
    (hF : Facts T sh C (Region.before ops) (msOf T sh ops.toList) ops.toList (cM T sh ops.toList 0) v hp ops.toList 0 0 tm) {Q : Exit → Act → World → Prop}
    (hK : ∀ G a w, At B G0 w0 N ds (tmR v ops.toList 0 tm) (hp (cM T sh ops.toList 0)) G a w → Q .normal a w) :
    ∀ (fuel : Nat) (listed : Array Bool) (m : Nat) (G : Gh) (a : Act) (w : World), DInv T sh ops listed m → listed.toList.count true + fuel = ops.size → At B G0 w0 N ds (tmL ops v tm listed) (hp m) G a w → wpAny P .any ops Q fuel listed a w := by
  have ssaL : ∀ (i j : Nat) (oi oj : Oper) (d : Nat), ops.toList[i]? = some oi → ops.toList[j]? = some oj → oi.dst = some d → oj.dst = some d → i = j := fun i j oi oj d h1 h2 => hD.ssa i j oi oj d (by simpa using h1) (by simpa using h2)
  have done : ∀ (listed : Array Bool) (m : Nat) (G : Gh) (a : Act) (w : World), DInv T sh ops listed m → (∀ i, i < ops.size → listed.getD i false = true) → At B G0 w0 N ds (tmL ops v tm listed) (hp m) G a w → Q .normal a w := by
    intro listed m G a w hI hall hA
    have htm : tmL ops v tm listed = tmR v ops.toList 0 tm := by
      funext t
      have ht := tmT_get (v := v) (tm := tm) ssaL t ops.toList.length (Nat.le_refl _)
      rw [List.take_length] at ht
      by_cases q : ∃ (j : Nat) (o : Oper), ops[j]? = some o ∧ o.dst = some t
      · obtain ⟨j, o, h1, h2⟩ := q
        have hj := (Array.getElem?_eq_some_iff.1 h1).1
        rw [tmL_get hD (hall j hj) h1 h2]
        exact (ht.1 j o (by simpa using hj) (by simpa using h1) h2).symm
      · rw [tmL_not fun j o h1 h2 => absurd ⟨j, o, h1, h2⟩ q]
        exact (ht.2 fun j o _ h1 h2 => q ⟨j, o, by simpa using h1, h2⟩).symm
    have hm : m = cM T sh ops.toList 0 := by
      refine Nat.le_antisymm hI.le (Nat.le_of_not_lt fun hlt => ?_)
      obtain ⟨i, o, h1, h2, h3, h4⟩ := rk_ex (T := T) (sh := sh) (l := ops.toList) m ops.toList.length (Nat.le_refl _) (by rw [List.take_length]; exact hlt)
      have := (hI.cnt i o (by simpa using h2) h3).1 (hall i (by simpa using h1))
      omega
    rw [htm, hm] at hA
    exact hK G a w hA
  intro fuel
  induction fuel with
  | zero =>
    intro listed m G a w hI hcnt hA
    have hall : ∀ i, i < ops.size → listed.getD i false = true := by
      intro i hi
      have h1 : listed.toList.count true = listed.toList.length := by rw [Array.length_toList, hI.size]; omega
      have h2 := List.count_eq_length.1 h1
      have h3 : i < listed.size := by rw [hI.size]; exact hi
      have := h2 listed[i] (by simp)
      simp [h3, ← this]
    refine ⟨?_, done listed m G a w hI hall hA⟩
    refine List.eq_nil_iff_forall_not_mem.2 fun i hi => ?_
    obtain ⟨h1, o, h2, -⟩ := mem_ready.1 hi
    have h3 := hall i (Array.getElem?_eq_some_iff.1 h2).1
    have h4 : i < listed.size := by rw [hI.size]; exact (Array.getElem?_eq_some_iff.1 h2).1
    simp [h4] at h1 h3
    rw [h1] at h3
    cases h3
  | succ fuel ih =>
    intro listed m G a w hI hcnt hA
    refine ⟨fun hr => done listed m G a w hI (ready_all hD hI.size hr) hA, fun i hi => ?_⟩
    obtain ⟨hun0, o, ho, hall⟩ := mem_ready.1 hi
    have hlt : i < ops.size := (Array.getElem?_eq_some_iff.1 ho).1
    have hltl : i < listed.size := by rw [hI.size]; exact hlt
    have hun : listed.getD i false = false := by simp [hltl] at hun0 ⊢; exact hun0
    have hoL : ops.toList[i]? = some o := by simpa using ho
    have hanc : ∀ k, Anc ops i k → listed.getD k false = true := by
      intro k hk
      obtain ⟨e, he, hb, h⟩ := hD.clo i _ k ho hk
      rcases h with rfl | h
      · exact hall e he hb
      · exact anc_listed hD hI _ (hall e he hb) k h
    have hdesc : ∀ j, Anc ops j i → listed.getD j false = false := by
      intro j hj
      cases e : listed.getD j false with
      | false => rfl
      | true => rw [anc_listed hD hI j e i hj] at hun; cases hun
    -- what it looks at is what it was in the text's order
    have hlook : ∀ t ∈ o.looksAt ops, tmL ops v tm listed t = tmR v (ops.toList.take i) 0 tm t := by
      intro t ht
      have hT' := tmT_get (v := v) (tm := tm) ssaL t i (by simp; omega)
      by_cases q : ∃ (j : Nat) (oj : Oper), ops[j]? = some oj ∧ oj.dst = some t
      · obtain ⟨j, oj, h1, h2⟩ := q
        have late : i ≤ j → listed.getD j false = false → tmL ops v tm listed t = tmR v (ops.toList.take i) 0 tm t := by
          intro hij hj
          rw [tmL_not fun j' o' k1 k2 => by rw [hD.ssa _ _ _ _ _ k1 h1 k2 h2]; exact hj]
          refine (hT'.2 fun j' o' k0 k1 k2 => ?_).symm
          have := hD.ssa _ _ _ _ _ (show ops[j']? = some o' by simpa using k1) h1 k2 h2
          omega
        rcases hD.look i j o oj t ho h1 ht h2 with ⟨k1, k2⟩ | rfl | ⟨k1, k2⟩
        · rw [tmL_get hD (hanc j k2) h1 h2]
          exact (hT'.1 j oj k1 (by simpa using h1) h2).symm
        · exact late (Nat.le_refl _) hun
        · exact late (Nat.le_of_lt k1) (hdesc j k2)
      · rw [tmL_not fun j o h1 h2 => absurd ⟨j, o, h1, h2⟩ q]
        exact (hT'.2 fun j o _ h1 h2 => q ⟨j, o, by simpa using h1, h2⟩).symm
    have hev : ∀ x ∈ o.op.operands, ev (tmL ops v tm listed) x = ev (tmR v (ops.toList.take i) 0 tm) x := fun x hx => ev_looks hlook hx
    have hguard : guardOf (tmL ops v tm listed) ops.toList o = guardOf (tmR v (ops.toList.take i) 0 tm) ops.toList o := guardOf_looks hlook
    have hFact := Facts_get _ _ _ _ hF i o hoL
    rw [Nat.zero_add] at hFact
    -- what comes behind it
    have hnext : ∀ (m' : Nat) (cv : Value) (w' : World) (G' : Gh), m' = (if isM T sh o.op then m + 1 else m) → (isM T sh o.op = true → cM T sh (ops.toList.take i) 0 = m) → Mv B G w G' w' → Inv B G' (hp m') w' → Rep G' (v i) cv →
        wpAny P .any ops Q fuel (listed.setIfInBounds i true) (a.put o.dst cv) w' := by
      intro m' cv w' G' hm' hrk h1 h2 h3
      refine ih _ m' G' _ w' ⟨?_, ?_, ?_, ?_⟩ ?_ ?_
      · simp [hI.size]
      · intro j oj hj hl e he hb
        by_cases q : i = j
        · subst q
          rw [ho] at hj; cases hj
          exact getD_set_true (hall e he hb)
        · rw [getD_set_ne false q] at hl
          exact getD_set_true (hI.closed j oj hj hl e he hb)
      · intro j oj hj hM
        by_cases q : i = j
        · subst q
          rw [ho] at hj; cases hj
          rw [getD_set_same hltl, hm', if_pos hM, hrk hM]
          simp
        · rw [getD_set_ne false q, hI.cnt j oj hj hM, hm']
          split
          · rename_i hMi
            have hr := hrk hMi
            constructor
            · intro h; omega
            · intro h
              rcases Nat.lt_or_ge (cM T sh (ops.toList.take j) 0) m with h5 | h5
              · exact h5
              · exfalso
                have h6 : cM T sh (ops.toList.take j) 0 = cM T sh (ops.toList.take i) 0 := by omega
                rcases Nat.lt_or_gt_of_ne q with h7 | h7
                · have := rk_lt (T := T) (sh := sh) h7 hoL hMi; omega
                · have := rk_lt (T := T) (sh := sh) (l := ops.toList) h7 (by simpa using hj) hM; omega
          · exact Iff.rfl
      · rw [hm']
        split
        · rename_i hMi
          have h1 := rk_succ (T := T) (sh := sh) hoL
          rw [if_pos hMi, hrk hMi] at h1
          have h2 := rk_le (T := T) (sh := sh) (l := ops.toList) (i := i + 1) (j := ops.toList.length) (by simp; omega)
          rw [List.take_length] at h2
          omega
        · exact hI.le
      · have hi2 : i < listed.toList.length := by simpa using hltl
        have hgi : listed.toList[i] = false := by
          simp [hltl] at hun
          simpa using hun
        rw [Array.toList_setIfInBounds, List.count_set hi2, hgi]
        have h0 : (if (false == true) = true then 1 else 0) = 0 := by decide
        have h1 : (if (true == true) = true then 1 else 0) = 1 := by decide
        rw [h0, h1]
        omega
      · rw [tmL_set hD hI.size ho]
        exact hA.step (fun t ht => hd i o t ho ht) h1 h2 h3
    obtain ⟨g1, g2⟩ := guard_ok hA.rep (ops := ops) (o := o)
    -- an operation with its guard
    have fin : ∀ {α : Type} (x : Option α) (y : α) (res : α), gO (guardOf (tmL ops v tm listed) ops.toList o) x y = some res →
        (x = some res → o.wp P a w (wpAny P .any ops Q fuel (listed.setIfInBounds i true)) Q) → (y = res → wpAny P .any ops Q fuel (listed.setIfInBounds i true) (a.put o.dst undef) w) →
        wpOp P ops Q i (wpAny P .any ops Q fuel (listed.setIfInBounds i true)) a w := by
      intro α x y res e hx hy
      unfold wpOp
      rw [ho]
      simp only
      unfold gO at e
      split at e
      · rename_i hg
        rw [if_pos (g1 hg)]
        exact .inl (hx e)
      · rename_i gv want hg
        obtain ⟨b, hb, e⟩ := Option.bind_eq_some_iff.1 e
        rw [g2 _ _ _ hg hb]
        split at e
        · rename_i hw
          rw [if_pos hw]
          exact .inl (hx e)
        · rename_i hw
          rw [if_neg hw]
          cases e
          exact hy rfl
    unfold Fact at hFact
    rw [← valOf_same hev, ← hguard] at hFact
    cases hval : valOf (tmL ops v tm listed) o with
    | some u =>
      rw [hval] at hFact
      simp only at hFact
      obtain ⟨q1, q2⟩ := valOf_pure (T := T) (h := hp m) hval
      have hMf : isM T sh o.op = false := valOf_notM hval
      have hg0 : guardOf (tmL ops v tm listed) ops.toList o = none := by unfold guardOf; rw [q1]
      unfold wpOp
      rw [ho]
      simp only
      rw [if_pos (g1 hg0)]
      exact .inl (op_ok hT hC hA.rep hA.inv (.inr ⟨q2, rfl⟩) fun cv w' G' k1 k2 k3 => hnext m cv w' G' (by rw [hMf]; rfl) (fun h => by rw [hMf] at h; cases h) k1 k2 (by rw [hFact]; exact k3))
    | none =>
      rw [hval] at hFact
      simp only at hFact
      split at hFact
      · rename_i hM
        have hrk : cM T sh (ops.toList.take i) 0 = m := by
          have h1 : ¬ cM T sh (ops.toList.take i) 0 < m := fun h => by rw [(hI.cnt i o ho hM).2 h] at hun; cases hun
          refine Nat.le_antisymm (Nat.le_of_not_lt fun h2 => ?_) (Nat.le_of_not_lt h1)
          obtain ⟨k, ok, k1, k2, k3, k4⟩ := rk_ex (T := T) (sh := sh) (l := ops.toList) m i (by simp; omega) h2
          have k2' : ops[k]? = some ok := by simpa using k2
          have h3 := hanc k (hD.chain k i ok o k1 k2' ho k3 hM)
          have := (hI.cnt k ok k2' k3).1 h3
          omega
        rw [hrk, ← evAct_same hev] at hFact
        refine fin _ _ _ hFact (fun e => ?_) (fun e => ?_)
        · exact op_ok hT hC hA.rep hA.inv (.inl ⟨isM_act hM, e⟩) fun cv w' G' k1 k2 k3 => hnext (m + 1) cv w' G' (by rw [if_pos hM]) (fun _ => hrk) k1 k2 k3
        · simp only [Prod.mk.injEq] at e
          refine hnext (m + 1) _ w G (by rw [if_pos hM]) (fun _ => hrk) (Mv.refl B G w) (by rw [← e.2]; exact hA.inv) (by rw [← e.1]; exact .dead)
      · rename_i hM
        have hMf : isM T sh o.op = false := by simpa using hM
        have hnext' : ∀ (cv : Value) (w' : World) (G' : Gh), Mv B G w G' w' → Inv B G' (hp m) w' → Rep G' (v i) cv → wpAny P .any ops Q fuel (listed.setIfInBounds i true) (a.put o.dst cv) w' :=
          fun cv w' G' => hnext m cv w' G' (by rw [hMf]; rfl) (fun h => by rw [hMf] at h; cases h)
        have skip : AV.dead = v i → wpAny P .any ops Q fuel (listed.setIfInBounds i true) (a.put o.dst undef) w := fun e => hnext' _ w G (Mv.refl B G w) hA.inv (by rw [← e]; exact .dead)
        split at hFact
        · rename_i hq
          obtain ⟨h', hFact⟩ := hFact
          rw [← evQ_same hev] at hFact
          refine fin _ _ _ hFact (fun e => ?_) (fun e => ?_)
          · exact q_ok hQ hA.rep hA.inv hq e hnext'
          · exact skip (Prod.mk.inj e).1
        · split at hFact
          · rename_i t ad hop
            obtain ⟨z, hz, hFact⟩ := hFact
            have h1 : mBefore (Region.before ops) (msOf T sh ops.toList) i ≤ m := by
              refine mBefore_le fun r x hr hx => ?_
              obtain ⟨k, ok, k1, k2, k3, k4⟩ := ms_get (T := T) (sh := sh) ops.toList 0 0 r x hr
              have k2' : ops[k]? = some ok := by simpa using k2
              rw [Nat.zero_add] at k1
              subst k1
              have := (hI.cnt x ok k2' k3).1 (hanc x hx)
              omega
            have h2 : m ≤ mUpto (Region.before ops) (msOf T sh ops.toList) i := by
              have hlen := ms_len (T := T) (sh := sh) ops.toList 0 0
              rcases mUpto_spec (anc := Region.before ops) i (msOf T sh ops.toList) with h | ⟨x, hx1, hx2⟩
              · rw [h]
                have := hI.le
                rw [hlen] at this
                unfold msOf
                omega
              · refine Nat.le_of_not_lt fun hlt2 => ?_
                obtain ⟨k, ok, k1, k2, k3, k4⟩ := ms_get (T := T) (sh := sh) ops.toList 0 0 _ x hx1
                have k2' : ops[k]? = some ok := by simpa using k2
                rw [Nat.zero_add] at k1 k4
                subst k1
                have := (hI.cnt x ok k2' k3).2 (by omega)
                rw [hdesc x hx2] at this
                cases this
            have hx := hFact m h1 h2 hI.le
            have hev1 : ev (tmR v (ops.toList.take i) 0 tm) ad = ev (tmL ops v tm listed) ad := (hev ad (by rw [hop]; simp [Op.operands])).symm
            rw [hev1] at hx
            refine fin _ _ _ hx (fun e => ?_) skip
            refine op_ok hT hC hA.rep hA.inv (.inr ⟨?_, rfl⟩) hnext'
            rw [hop]
            simp only [evPure, hz, Option.bind_some]
            exact e
          · rename_i hop
            rw [← evPure_same hev] at hFact
            have hheap : ∀ u, evPure T (tmL ops v tm listed) (cutH (Region.before ops) (msOf T sh ops.toList) i o.op (hp (cM T sh (ops.toList.take i) 0))) o.op = some u → evPure T (tmL ops v tm listed) (hp m) o.op = some u := by
              intro u hu
              unfold cutH at hu
              cases hc : isCut o.op with
              | false =>
                rw [hc, if_neg Bool.false_ne_true] at hu
                rw [← evPure_heap (h := hp (cM T sh (ops.toList.take i) 0)) (fun t a => hop t a) hc]
                exact hu
              | true =>
                rw [hc, if_pos rfl] at hu
                split at hu
                · rename_i hcmp
                  have hcut : ∀ (k : Nat) (ok : Oper), ops[k]? = some ok → isM T sh ok.op = true → Anc ops i k ∨ Anc ops k i := by
                    intro k ok k2 k3
                    have hmem : k ∈ msOf T sh ops.toList := by
                      unfold msOf
                      refine List.mem_map.2 ⟨(ok, k), List.mem_filter.2 ⟨List.mem_zipIdx_iff_getElem?.2 (by simpa using k2), k3⟩, rfl⟩
                    have := List.all_eq_true.1 hcmp k hmem
                    rw [Bool.or_eq_true] at this
                    exact this
                  have : cM T sh (ops.toList.take i) 0 = m := by
                    refine Nat.le_antisymm (Nat.le_of_not_lt fun h2 => ?_) (Nat.le_of_not_lt fun h2 => ?_)
                    · obtain ⟨k, ok, k1, k2, k3, k4⟩ := rk_ex (T := T) (sh := sh) (l := ops.toList) m i (by simp; omega) h2
                      have k2' : ops[k]? = some ok := by simpa using k2
                      rcases hcut k ok k2' k3 with h3 | h3
                      · have := (hI.cnt k ok k2' k3).1 (hanc k h3)
                        omega
                      · have := anc_lt hD k ok i k2' h3
                        omega
                    · obtain ⟨k, ok, k1, k2, k3, k4⟩ := rk_ex (T := T) (sh := sh) (l := ops.toList) (cM T sh (ops.toList.take i) 0) ops.toList.length (Nat.le_refl _) (by rw [List.take_length]; have := hI.le; omega)
                      have k2' : ops[k]? = some ok := by simpa using k2
                      have h5 := (hI.cnt k ok k2' k3).2 (by omega)
                      have h6 : i ≤ k := Nat.le_of_not_lt fun h => by have := rk_lt (T := T) (sh := sh) h k2 k3; omega
                      rcases hcut k ok k2' k3 with h3 | h3
                      · have := anc_lt hD i o k ho h3
                        omega
                      · rw [hdesc k h3] at h5; cases h5
                  rw [this] at hu
                  exact hu
                · exact evPure_nil hc hu
            refine fin _ _ _ hFact (fun e => ?_) skip
            exact op_ok hT hC hA.rep hA.inv (.inr ⟨hheap _ e, rfl⟩) hnext'

end
end Go.Proofs.Ytmhamnnfcmkcfaa

/- Regions that draw their order: the check, and what it yields for code. -/
namespace Go.Proofs.Ytmhamnnfcmkcfaa
open Go.RowKit

section
variable {P : Program} {T : Tab} {sh : Nat → Bool} {C : CallF} {ops : Array Oper} {B : Nat} {G0 : Gh} {w0 : World} {N : Nat} {ds : List Deferred}

theorem At.drew {tm : Tm} {h : Heap} {G : Gh} {a : Act} {w : World} (hA : At B G0 w0 N ds tm h G a w) : At B G0 w0 N ds tm h G a { w with drawn := w.drawn + 1 } :=
  ⟨hA.rep, ⟨hA.inv.base, hA.inv.blk, hA.inv.fresh, hA.inv.set, hA.inv.cells, hA.inv.disj, hA.inv.maps, hA.inv.mdisj⟩, ⟨hA.mv.le, hA.mv.below.drew, hA.mv.fresh⟩, hA.size, hA.defers⟩

theorem getD_rep_false (m j : Nat) : (Array.replicate m false).getD j false = false := by
  rcases Nat.lt_or_ge j m with h | h
  · simp [h]
  · simp [h]

theorem draw_region (hm : P.follows .mixedOrders = true) (hT : TabOk P T) (hC : FnOk P C) (hQ : QOk P sh C) (hD : DrawP T sh ops) (hd : ∀ (i : Nat) (o : Oper) (t : Nat), ops[i]? = some o → o.dst = some t → t < N)
    {R : Type} {K : Tm → Heap → Option R} {r : R} {id : Nat} {tm : Tm} {h : Heap} {G : Gh} {a : Act} {w : World} {Q : Exit → Act → World → Prop}
    (e : evDraw optB T sh C ops K tm h = some r) (hA : At B G0 w0 N ds tm h G a w) (hK : ∀ tm h G a w, K tm h = some r → At B G0 w0 N ds tm h G a w → Q .normal a w) : (Code.region id ops true).wp P Q a w := by
  obtain ⟨v, hp, -, q2, q3, -, q5⟩ := evDr_facts _ _ _ _ _ _ e
  refine wp_region_any hm (draw_any hT hC hQ hD hd (v := v) (hp := hp) (tm := tm) q3 (fun G a w hA => hK _ _ G a w q5 hA) ops.size _ 0 G a _ ⟨by simp, ?_, ?_, Nat.zero_le _⟩ ?_ ?_)
  · intro i o _ h
    rw [getD_rep_false] at h
    cases h
  · intro i o _ _
    rw [getD_rep_false]
    simp
  · have : List.count true (List.replicate ops.size false) = 0 := List.count_eq_zero.2 fun h => by simp at h
    simpa using this
  · have h0 : tmL ops v tm (Array.replicate ops.size false) = tm := by
      funext t
      exact tmL_not fun j o _ _ => getD_rep_false _ _
    rw [h0, show hp 0 = h from q2]
    exact hA.drew

def ancFold (anc : Array Nat) (es : List Edge) : Nat := es.foldr (fun e s => (2 ^ e.on ||| anc.getD e.on 0) ||| s) 0

theorem ancFold_spec {anc : Array Nat} {k : Nat} : ∀ (es : List Edge), (ancFold anc es).testBit k = true → ∃ e ∈ es, k = e.on ∨ (anc.getD e.on 0).testBit k = true
  | [], h => by simp [ancFold] at h
  | e :: es, h => by
    simp only [ancFold, List.foldr_cons, Nat.testBit_or, Bool.or_eq_true] at h
    rcases h with (h | h) | h
    · rw [Nat.testBit_two_pow] at h
      exact ⟨e, List.mem_cons_self .., .inl (of_decide_eq_true h).symm⟩
    · exact ⟨e, List.mem_cons_self .., .inr h⟩
    · obtain ⟨e', h1, h2⟩ := ancFold_spec es h
      exact ⟨e', List.mem_cons_of_mem _ h1, h2⟩

def drawChkA (T : Tab) (sh : Nat → Bool) (ops : Array Oper) (anc : Array Nat) (l : List (Oper × Nat)) : Bool :=
  l.all fun p =>
    (l.all fun q => q.2 == p.2 || (match p.1.dst with | some d => q.1.dst != some d | none => true)) &&
    ((p.1.looksAt ops).all fun t => l.all fun q => q.1.dst != some t || ((decide (q.2 < p.2) && (anc.getD p.2 0).testBit q.2) || (p.2 == q.2 || (decide (p.2 < q.2) && (anc.getD q.2 0).testBit p.2)))) &&
    (anc.getD p.2 0 == ancFold anc (p.1.after.toList.filter (Region.binds .any))) &&
    (p.1.after.toList.all fun e => !Region.binds .any e || decide (e.on < p.2)) &&
    (!isM T sh p.1.op || l.all fun q => !decide (p.2 < q.2) || (!isM T sh q.1.op || (anc.getD q.2 0).testBit p.2))

def drawChk (T : Tab) (sh : Nat → Bool) (ops : Array Oper) : Bool := drawChkA T sh ops (Region.before ops) ops.toList.zipIdx

theorem drawChk_spec (h : drawChk T sh ops = true) : DrawP T sh ops := by
  have mem : ∀ (i : Nat) (o : Oper), ops[i]? = some o → (o, i) ∈ ops.toList.zipIdx := fun i o ho => List.mem_zipIdx_iff_getElem?.2 (by simpa using ho)
  have all := List.all_eq_true.1 h
  refine ⟨?_, ?_, ?_, ?_, ?_⟩
  · intro i j oi oj d hi hj di dj
    have h1 := all _ (mem i oi hi)
    simp only [Bool.and_eq_true] at h1
    have h2 := List.all_eq_true.1 h1.1.1.1.1 _ (mem j oj hj)
    simp only [di, dj, Bool.or_eq_true, beq_iff_eq] at h2
    rcases h2 with h2 | h2
    · exact h2.symm
    · simp at h2
  · intro i j oi oj t hi hj ht dj
    have h1 := all _ (mem i oi hi)
    simp only [Bool.and_eq_true] at h1
    have h2 := List.all_eq_true.1 (List.all_eq_true.1 h1.1.1.1.2 t ht) _ (mem j oj hj)
    simp only [dj, Bool.or_eq_true, Bool.and_eq_true, beq_iff_eq, decide_eq_true_eq] at h2
    rcases h2 with h2 | h2 | h2 | h2
    · simp at h2
    · exact .inl h2
    · exact .inr (.inl h2)
    · exact .inr (.inr h2)
  · intro i o k ho hk
    have h1 := all _ (mem i o ho)
    simp only [Bool.and_eq_true] at h1
    have h2 := h1.1.1.2
    simp only [beq_iff_eq] at h2
    unfold Anc at hk
    rw [h2] at hk
    obtain ⟨e, h3, h4⟩ := ancFold_spec _ hk
    obtain ⟨h5, h6⟩ := List.mem_filter.1 h3
    exact ⟨e, by simpa using h5, h6, h4⟩
  · intro i o e ho he hb
    have h1 := all _ (mem i o ho)
    simp only [Bool.and_eq_true] at h1
    have h2 := List.all_eq_true.1 h1.1.2 e (by simpa using he)
    simp only [hb, Bool.not_true, Bool.false_or, decide_eq_true_eq] at h2
    exact h2
  · intro i j oi oj hij hi hj mi mj
    have h1 := all _ (mem i oi hi)
    simp only [Bool.and_eq_true] at h1
    have h2 := h1.2
    simp only [mi, Bool.not_true, Bool.false_or] at h2
    have h3 := List.all_eq_true.1 h2 _ (mem j oj hj)
    simp only [hij, mj, decide_true, Bool.not_true, Bool.false_or] at h3
    exact h3

/-- Every drawn region of the code is so. -/
def drawB (chk : Array Oper → Bool) : Code → Bool
  | .region _ ops true => chk ops
  | .seq a b => drawB chk a && drawB chk b
  | .cond _ a b => drawB chk a && drawB chk b
  | .block _ a => drawB chk a
  | .loop a => drawB chk a
  | .scope a => drawB chk a
  | _ => true

/-- What a check of a region must yield. -/
def ChkOk (P : Program) (T : Tab) (sh : Nat → Bool) (chk : Array Oper → Bool) : Prop := ∀ (ops : Array Oper) (C : CallF) (N : Nat), chk ops = true → FnOk P C → QOk P sh C →
  (∀ (i : Nat) (o : Oper) (t : Nat), ops[i]? = some o → o.dst = some t → t < N) → ∀ (R : Type) (id B : Nat) (G0 : Gh) (w0 : World) (ds : List Deferred) (K : Tm → Heap → Option R) (r : R) (tm : Tm) (h : Heap) (G : Gh) (a : Act) (w : World) (Q : Exit → Act → World → Prop),
  evDraw optB T sh C ops K tm h = some r → At B G0 w0 N ds tm h G a w → (∀ tm h G a w, K tm h = some r → At B G0 w0 N ds tm h G a w → Q .normal a w) → (Code.region id ops true).wp P Q a w

theorem drawChk_ok (hm : P.follows .mixedOrders = true) (hT : TabOk P T) : ChkOk P T sh (drawChk T sh) := fun _ _ _ hc hC hQ hd _ _ _ _ _ _ _ _ _ _ _ _ _ _ e hA hK => draw_region hm hT hC hQ (drawChk_spec hc) hd e hA hK

theorem drawB_ok {chk : Array Oper → Bool} (hk : ChkOk P T sh chk) {L : LoopF} (hC : FnOk P C) (hQ : QOk P sh C) : ∀ c : Code, okDst N c = true → drawB chk c = true → DrawOk P T sh C L noD N c := by
  intro c
  induction c with
  | region id ops draw =>
    intro hd hb
    cases draw with
    | false => exact trivial
    | true =>
      intro R B G0 w0 ds K r tm h G a w Q e hA hK
      refine hk ops C N hb hC hQ ?_ R id B G0 w0 ds (K .normal) r tm h G a w Q e hA hK
      intro i o t ho ht
      have := List.all_eq_true.1 hd o (by simpa using Array.mem_of_getElem? ho)
      rw [ht] at this
      simpa using this
  | seq a b iha ihb => intro hd hb; simp only [okDst, drawB, Bool.and_eq_true] at hd hb; exact ⟨iha hd.1 hb.1, ihb hd.2 hb.2⟩
  | cond c a b iha ihb => intro hd hb; simp only [okDst, drawB, Bool.and_eq_true] at hd hb; exact ⟨iha hd.1 hb.1, ihb hd.2 hb.2⟩
  | block id a ih => intro hd hb; exact ih hd hb
  | loop a ih => intro hd hb; exact ih hd hb
  | scope a ih => intro hd hb; exact ih hd hb
  | _ => intro _ _; trivial

end
end Go.Proofs.Ytmhamnnfcmkcfaa

/- The types that the operations name: printed by wip/tools/gentab.py. -/
namespace Go.Proofs.Ytmhamnnfcmkcfaa

def tabSize : Nat → Option (Nat × Bool)
  | 2 => some (1, false)
  | 3 => some (1, false)
  | 4 => some (1, false)
  | 5 => some (1, false)
  | 9 => some (1, false)
  | 21 => some (1, false)
  | 22 => some (1, false)
  | 25 => some (1, false)
  | 32 => some (1, false)
  | 35 => some (3, true)
  | 37 => some (1, false)
  | 39 => some (4, true)
  | 43 => some (1, false)
  | 47 => some (5, true)
  | 48 => some (1, false)
  | 57 => some (1, false)
  | 58 => some (1, false)
  | 60 => some (2, true)
  | 63 => some (1, false)
  | 64 => some (1, false)
  | 66 => some (5, true)
  | 73 => some (1, false)
  | 79 => some (1, false)
  | 83 => some (1, false)
  | 95 => some (1, false)
  | 98 => some (3, true)
  | 102 => some (1, false)
  | 106 => some (1, false)
  | 107 => some (1, false)
  | 109 => some (2, true)
  | 114 => some (1, false)
  | 121 => some (1, false)
  | 125 => some (1, false)
  | 127 => some (2, true)
  | 134 => some (1, false)
  | 135 => some (3, true)
  | 137 => some (4, true)
  | 140 => some (1, false)
  | 141 => some (3, true)
  | 143 => some (1, false)
  | 146 => some (7, true)
  | 147 => some (1, false)
  | 149 => some (1, true)
  | 151 => some (2, true)
  | 153 => some (4, true)
  | 158 => some (2, true)
  | 163 => some (1, false)
  | 168 => some (1, false)
  | 173 => some (1, false)
  | 174 => some (1, false)
  | 175 => some (1, false)
  | 177 => some (6, true)
  | 178 => some (1, false)
  | 180 => some (2, true)
  | 190 => some (1, false)
  | 194 => some (10, true)
  | 195 => some (1, false)
  | 198 => some (1, false)
  | 200 => some (1, false)
  | 204 => some (6, true)
  | 208 => some (1, false)
  | 218 => some (1, false)
  | 227 => some (1, false)
  | 228 => some (1, false)
  | _ => none

def tabKind : Nat → Option K
  | 2 => some (.int .i64)
  | 3 => some (.int .i64)
  | 4 => some .bool
  | 5 => some (.int .u8)
  | 9 => some .str
  | 21 => some (.int .i32)
  | 22 => some (.slice 35 3 32 false)
  | 25 => some (.int .i64)
  | 32 => some (.slice 22 1 24 false)
  | 35 => some (.struct (some [.int .i64, .str, .int .i64]))
  | 37 => some (.slice 47 5 40 false)
  | 39 => some (.struct none)
  | 47 => some (.struct (some [.int .i64, .int .i64, .int .i64, .int .i64, .int .i64]))
  | 48 => some (.slice 3 1 8 false)
  | 57 => some (.slice 153 4 64 false)
  | 58 => some (.slice 146 7 120 false)
  | 60 => some (.struct none)
  | 63 => some (.slice 9 1 16 false)
  | 64 => some (.slice 66 5 80 false)
  | 66 => some (.struct none)
  | 73 => some (.map (.str) 4)
  | 79 => some (.slice 4 1 1 false)
  | 83 => some (.slice 48 1 24 false)
  | 95 => some (.slice 102 1 24 false)
  | 98 => some (.struct none)
  | 102 => some (.slice 2 1 8 false)
  | 106 => some .ptr
  | 107 => some (.slice 5 1 1 true)
  | 109 => some (.struct none)
  | 125 => some .ptr
  | 127 => some (.struct none)
  | 135 => some (.arr 3 1 false (some [.int .i64, .int .i64, .int .i64]))
  | 137 => some (.struct none)
  | 140 => some .ptr
  | 141 => some (.arr 3 1 false none)
  | 143 => some .ptr
  | 146 => some (.struct none)
  | 147 => some .ptr
  | 149 => some (.struct none)
  | 151 => some (.struct none)
  | 153 => some (.struct none)
  | 158 => some (.struct none)
  | 168 => some .ptr
  | 175 => some (.slice 180 2 16 false)
  | 177 => some (.struct none)
  | 178 => some (.int .u64)
  | 180 => some (.arr 2 1 false (some [.int .u64, .int .u64]))
  | 190 => some .ptr
  | 194 => some (.struct none)
  | 195 => some .ptr
  | 198 => some (.slice 137 4 40 false)
  | 204 => some (.arr 6 1 false (some [.int .i64, .int .i64, .int .i64, .int .i64, .int .i64, .int .i64]))
  | 218 => some (.map (.str) 3)
  | 228 => some (.map (.int .i64) 227)
  | _ => none

def tabField : Nat → Nat → Option (Nat × Nat × Bool)
  | 35, 0 => some (0, 1, false)
  | 35, 1 => some (1, 1, false)
  | 35, 2 => some (2, 1, false)
  | 39, 0 => some (0, 1, false)
  | 39, 1 => some (1, 1, false)
  | 39, 2 => some (2, 1, false)
  | 39, 3 => some (3, 1, false)
  | 47, 0 => some (0, 1, false)
  | 47, 1 => some (1, 1, false)
  | 47, 2 => some (2, 1, false)
  | 47, 3 => some (3, 1, false)
  | 47, 4 => some (4, 1, false)
  | 60, 0 => some (0, 1, false)
  | 60, 1 => some (1, 1, false)
  | 66, 0 => some (0, 1, false)
  | 66, 1 => some (1, 1, false)
  | 66, 2 => some (2, 1, false)
  | 66, 3 => some (3, 1, false)
  | 66, 4 => some (4, 1, false)
  | 98, 0 => some (0, 1, false)
  | 98, 1 => some (1, 1, false)
  | 98, 2 => some (2, 1, false)
  | 109, 0 => some (0, 1, false)
  | 109, 1 => some (1, 1, false)
  | 127, 0 => some (0, 1, false)
  | 127, 1 => some (1, 1, false)
  | 137, 0 => some (0, 1, false)
  | 137, 1 => some (1, 3, true)
  | 146, 0 => some (0, 1, false)
  | 146, 1 => some (1, 1, false)
  | 146, 2 => some (2, 5, true)
  | 149, 0 => some (0, 1, false)
  | 151, 0 => some (0, 1, true)
  | 151, 1 => some (1, 1, false)
  | 153, 0 => some (0, 1, false)
  | 153, 1 => some (1, 1, false)
  | 153, 2 => some (2, 1, false)
  | 153, 3 => some (3, 1, false)
  | 158, 0 => some (0, 1, false)
  | 158, 1 => some (1, 1, false)
  | 177, 0 => some (0, 4, true)
  | 177, 1 => some (4, 1, false)
  | 177, 2 => some (5, 1, false)
  | 194, 0 => some (0, 3, true)
  | 194, 1 => some (3, 1, false)
  | 194, 2 => some (4, 1, false)
  | 194, 3 => some (5, 1, false)
  | 194, 4 => some (6, 1, false)
  | 194, 5 => some (7, 1, false)
  | 194, 6 => some (8, 1, false)
  | 194, 7 => some (9, 1, false)
  | _, _ => none

def tabZero : Nat → Option (List AV)
  | 2 => some [.sv (.int .i64 0)]
  | 3 => some [.sv (.int .i64 0)]
  | 4 => some [.sv (.bool false)]
  | 5 => some [.sv (.int .u8 0)]
  | 9 => some [.sv (.str [])]
  | 21 => some [.sv (.int .i32 0)]
  | 22 => some [.nil]
  | 25 => some [.sv (.int .i64 0)]
  | 32 => some [.nil]
  | 35 => some [.sv (.int .i64 0), .sv (.str []), .sv (.int .i64 0)]
  | 37 => some [.nil]
  | 39 => some [.sv (.int .i64 0), .sv (.int .i64 0), .sv (.int .i64 0), .nil]
  | 47 => some [.sv (.int .i64 0), .sv (.int .i64 0), .sv (.int .i64 0), .sv (.int .i64 0), .sv (.int .i64 0)]
  | 48 => some [.nil]
  | 57 => some [.nil]
  | 58 => some [.nil]
  | 60 => some [.nil, .nil]
  | 63 => some [.nil]
  | 64 => some [.nil]
  | 66 => some [.sv (.int .i64 0), .sv (.int .i64 0), .sv (.str []), .nil, .nil]
  | 79 => some [.nil]
  | 83 => some [.nil]
  | 95 => some [.nil]
  | 98 => some [.nil, .sv (.int .i64 0), .sv (.int .i64 0)]
  | 102 => some [.nil]
  | 106 => some [.sv .nilp]
  | 107 => some [.nil]
  | 109 => some [.sv .nilp, .nil]
  | 125 => some [.sv .nilp]
  | 127 => some [.nil, .sv (.bool false)]
  | 135 => some [.sv (.int .i64 0), .sv (.int .i64 0), .sv (.int .i64 0)]
  | 137 => some [.sv (.str []), .sv (.int .i64 0), .sv (.int .i64 0), .sv (.int .i64 0)]
  | 140 => some [.sv .nilp]
  | 141 => some [.sv .nilp, .sv .nilp, .sv .nilp]
  | 143 => some [.sv .nilp]
  | 146 => some [.sv (.str []), .nil, .sv (.int .i64 0), .sv (.int .i64 0), .sv (.str []), .nil, .nil]
  | 147 => some [.sv .nilp]
  | 149 => some [.nil]
  | 151 => some [.nil, .sv (.bool false)]
  | 153 => some [.sv (.str []), .nil, .sv (.str []), .sv (.int .i64 0)]
  | 158 => some [.nil, .sv (.bool false)]
  | 168 => some [.sv .nilp]
  | 175 => some [.nil]
  | 177 => some [.sv (.int .i64 0), .sv (.int .i64 0), .sv (.int .i64 0), .nil, .nil, .nil]
  | 178 => some [.sv (.int .u64 0)]
  | 180 => some [.sv (.int .u64 0), .sv (.int .u64 0)]
  | 190 => some [.sv .nilp]
  | 194 => some [.nil, .sv (.int .i64 0), .sv (.int .i64 0), .sv (.int .i64 0), .nil, .nil, .sv (.int .i64 0), .sv (.int .i64 0), .sv (.bool false), .nil]
  | 195 => some [.sv .nilp]
  | 198 => some [.nil]
  | 204 => some [.sv (.int .i64 0), .sv (.int .i64 0), .sv (.int .i64 0), .sv (.int .i64 0), .sv (.int .i64 0), .sv (.int .i64 0)]
  | _ => none

def tab : Tab := ⟨fun t => if t < 230 then tabSize t else none, fun t => if t < 230 then tabKind t else none, fun t i => if t < 230 ∧ i < 12 then tabField t i else none, fun t => if t < 230 then tabZero t else none⟩

end Go.Proofs.Ytmhamnnfcmkcfaa

/- The type table tells the truth of a program, if a check says so. -/
namespace Go.Proofs.Ytmhamnnfcmkcfaa
open Go.RowKit

/-! ### The check -/

def sizeB (P : Program) (t : Nat) (x : Nat × Bool) : Bool :=
  match P.info? t, P.underlying t with
  | some i, some d => i.size == x.1 && (d.isRow == x.2 && (x.2 || x.1 == 1))
  | _, _ => false

def ekB (P : Program) (t : Nat) : EK → Bool
  | .bool => match P.underlying t with | some .bool => true | _ => false
  | .int k => match P.underlying t with | some (.int k') => decide (k' = k) | _ => false
  | .str => match P.underlying t with | some .string => true | _ => false

def fitB (P : Program) : List EK → List Field → Nat → Bool
  | [], [], _ => true
  | k :: ks, f :: fs, o => f.name != "_" && (f.offset == o && (ekB P f.type k && fitB P ks fs (o + 1)))
  | _, _, _ => false

def eqStructB (P : Program) (t : Nat) : Option (List EK) → Bool
  | none => true
  | some ks => match P.underlying t with
    | some (.struct fs) => !P.eqGuardType P.depth t && (!P.stoodInHeld t && fitB P ks fs.toList 0)
    | _ => false

def eqArrB (P : Program) (t : Nat) : Option (List EK) → Bool
  | none => true
  | some ks => match P.underlying t with
    | some (.array n e) => !P.eqGuardType P.depth t && (ks.length == n && (P.cellsOf e == 1 && (ks.all (ekB P e) && (P.info? e).isSome)))
    | _ => false

def kindB (P : Program) (t : Nat) : K → Bool
  | .bool => ekB P t .bool
  | .int k => ekB P t (.int k)
  | .str => ekB P t .str
  | .slice elem esz bytes byte => match P.underlying t, P.info? elem with
    | some (.slice e), some i => e == elem && (i.size == esz && (i.bytes == bytes && ((match i.zero with | some zv => zv.cells.size == esz | none => false) && (!byte || ekB P elem (.int .u8)))))
    | _, _ => false
  | .arr n esz agg eq => match P.underlying t with
    | some (.array m e) => m == n && (sizeB P e (esz, agg) && eqArrB P t eq)
    | _ => false
  | .struct eq => match P.underlying t with
    | some (.struct _) => eqStructB P t eq
    | _ => false
  | .ptr => match P.underlying t with | some (.pointer _) => true | _ => false
  | .map key elem => match P.underlying t with
    | some (.map kt e) => e == elem && (ekB P kt key && (match P.info? elem with | some i => (match i.zero with | some (.agg _) => false | some _ => true | none => false) | none => false))
    | _ => false
  | .other => true

def fieldB (P : Program) (t i : Nat) (x : Nat × Nat × Bool) : Bool :=
  match P.underlying t with
  | some (.struct fs) => match fs[i]? with
    | some f => f.offset == x.1 && (decide (0 < x.2.1) && sizeB P f.type (x.2.1, x.2.2))
    | none => false
  | _ => false

def zRep : AV → Value → Bool
  | .sv (.bool a), .bool b => a == b
  | .sv (.int k n), .int k' n' => decide (k = k') && decide (n = n')
  | .sv (.str s), .string b => b.data.toList == s
  | .nil, .slice _ 0 0 => true
  | .sv .nilp, .pointer none => true
  | .sv .nilIface, .nilIface => true
  | _, _ => false

def zRepL : List AV → List Value → Bool
  | [], [] => true
  | c :: cs, v :: vs => zRep c v && zRepL cs vs
  | _, _ => false

def zeroB (P : Program) (t : Nat) (z : List AV) : Bool :=
  (match P.info? t with
  | some i => match i.zero with
    | some v => i.size == z.length && (z.all cell1 && zRepL z v.cells.toList)
    | none => false
  | none => false) &&
  (match P.underlying t with
  | some (.struct fs) => fs.toList.all fun f => (P.info? f.type).isSome
  | _ => true)

def optAll {α : Type} (f : α → Bool) : Option α → Bool
  | some x => f x
  | none => true

def tabB (P : Program) (T : Tab) (n m : Nat) : Bool :=
  (List.range n).all fun t => optAll (sizeB P t) (T.size t) && (optAll (kindB P t) (T.kind t) && (optAll (zeroB P t) (T.zero t) && (List.range m).all fun i => optAll (fieldB P t i) (T.field t i)))

/-! ### What it yields -/

section
variable {P : Program}

theorem sizeB_ok {t : Nat} {x : Nat × Bool} (h : sizeB P t x = true) : SizeOk P t x.1 x.2 := by
  unfold sizeB at h
  split at h
  · rename_i i d hi hd
    simp only [Bool.and_eq_true, beq_iff_eq, Bool.or_eq_true] at h
    refine ⟨i, d, hi, h.1, hd, h.2.1, fun hf => ?_⟩
    rcases h.2.2 with q | q
    · rw [q] at hf; cases hf
    · exact q
  · cases h

theorem ekB_bool {t : Nat} (h : ekB P t .bool = true) : P.underlying t = some .bool := by
  unfold ekB at h; simp only at h; split at h
  · assumption
  · cases h
theorem ekB_str {t : Nat} (h : ekB P t .str = true) : P.underlying t = some .string := by
  unfold ekB at h; simp only at h; split at h
  · assumption
  · cases h
theorem ekB_int {t : Nat} {k : IntKind} (h : ekB P t (.int k) = true) : P.underlying t = some (.int k) := by
  unfold ekB at h; simp only at h; split at h
  · rename_i k' hk; rw [hk, of_decide_eq_true h]
  · cases h

/-- One cell. -/
theorem eq_cell {t : Nat} {k : EK} {ks : List EK} {xs ys : List Value} {b : Bool} (hk : ekB P t k = true) (h : eqVals (k :: ks) xs ys = some b) :
    ∃ x y xs' ys' c r, xs = x :: xs' ∧ ys = y :: ys' ∧ eqVals ks xs' ys' = some r ∧ b = (c && r) ∧ ∀ (d : Nat) (w : World), (Op.equalIn (d + 1) t x y).run P w = .ok c w := by
  cases k with
  | bool =>
    unfold eqVals at h
    split at h <;> first | cases h; done | skip
    · rename_i e3; cases e3
    · rename_i ks' a xs' b' ys' e1
      cases e1
      obtain ⟨r, h1, h2⟩ := Option.bind_eq_some_iff.1 h
      cases h2
      exact ⟨_, _, _, _, _, r, rfl, rfl, h1, rfl, fun d w => run_equalIn_bool w d t _ _ (ekB_bool hk)⟩
    all_goals (rename_i e1; cases e1)
  | int k =>
    unfold eqVals at h
    split at h <;> first | cases h; done | skip
    · rename_i e3; cases e3
    · rename_i e1; cases e1
    · rename_i ks' k' k1 a xs' k2 b' ys' e1
      cases e1
      split at h
      · rename_i q
        obtain ⟨rfl, rfl⟩ := q
        obtain ⟨r, h1, h2⟩ := Option.bind_eq_some_iff.1 h
        cases h2
        exact ⟨_, _, _, _, _, r, rfl, rfl, h1, rfl, fun d w => run_equalIn_int w d t _ _ _ _ (ekB_int hk)⟩
      · cases h
    all_goals (rename_i e1; cases e1)
  | str =>
    unfold eqVals at h
    split at h <;> first | cases h; done | skip
    · rename_i e3; cases e3
    · rename_i e1; cases e1
    · rename_i e1; cases e1
    · rename_i ks' a xs' b' ys' e1
      cases e1
      obtain ⟨r, h1, h2⟩ := Option.bind_eq_some_iff.1 h
      cases h2
      exact ⟨_, _, _, _, _, r, rfl, rfl, h1, rfl, fun d w => by simp [Op.equalIn, run_underlying (ekB_str hk)]⟩

theorem run_part_one {t : Nat} {k : EK} (hk : ekB P t k = true) {xs : Array Value} {off : Nat} {v : Value} (hx : xs[off]? = some v) (w : World) : (part t xs off).run P w = .ok v w := by
  cases k with
  | bool => simp [part, run_isAgg (ekB_bool hk), hx, TypeDesc.isRow]
  | int k => simp [part, run_isAgg (ekB_int hk), hx, TypeDesc.isRow]
  | str => simp [part, run_isAgg (ekB_str hk), hx, TypeDesc.isRow]

theorem fields_eq {X Y : List Value} (d : Nat) : ∀ (ks : List EK) (fs : List Field) (o : Nat) (b : Bool), fitB P ks fs o = true → eqVals ks (X.drop o) (Y.drop o) = some b → ∀ w, (Op.eqFields (d + 1) X.toArray Y.toArray fs).run P w = .ok b w
  | [], [], o, b, _, h, w => by
    have hb : b = true := by
      unfold eqVals at h
      split at h <;> first | (cases h; done) | (cases h; rfl) | contradiction
    subst hb
    simp [Op.eqFields]
  | k :: ks, f :: fs, o, b, hf, h, w => by
    simp only [fitB, Bool.and_eq_true, bne_iff_ne, beq_iff_eq] at hf
    obtain ⟨f1, f2, f3, f4⟩ := hf
    obtain ⟨x, y, xs', ys', c, r, hx, hy, h1, rfl, h2⟩ := eq_cell f3 h
    have hX : X.toArray[f.offset]? = some x := by
      have : (X.drop o)[0]? = some x := by rw [hx]; rfl
      rw [List.getElem?_drop] at this
      simpa [f2] using this
    have hY : Y.toArray[f.offset]? = some y := by
      have : (Y.drop o)[0]? = some y := by rw [hy]; rfl
      rw [List.getElem?_drop] at this
      simpa [f2] using this
    have hxs : xs' = X.drop (o + 1) := by rw [← List.drop_drop, hx]; rfl
    have hys : ys' = Y.drop (o + 1) := by rw [← List.drop_drop, hy]; rfl
    rw [hxs, hys] at h1
    have ih := fields_eq (X := X) (Y := Y) d ks fs (o + 1) r f4 h1 w
    simp only [Op.eqFields, f1, ne_eq, not_false_eq_true, if_true, Sem.run_bind, run_part_one f3 hX, run_part_one f3 hY, Result.andThen_ok, h2]
    cases c
    · simp
    · simp [ih]
  | [], _ :: _, _, _, hf, _, _ => by cases hf
  | _ :: _, [], _, _, hf, _, _ => by cases hf

theorem items_eq {X Y : List Value} {e : Nat} (d : Nat) : ∀ (ks : List EK) (o : Nat) (b : Bool), ks.all (ekB P e) = true → eqVals ks (X.drop o) (Y.drop o) = some b → ∀ w, (Op.eqItems (d + 1) e 1 X.toArray Y.toArray (List.range' o ks.length)).run P w = .ok b w
  | [], o, b, _, h, w => by
    have hb : b = true := by
      unfold eqVals at h
      split at h <;> first | (cases h; done) | (cases h; rfl) | contradiction
    subst hb
    simp [Op.eqItems]
  | k :: ks, o, b, hf, h, w => by
    simp only [List.all_cons, Bool.and_eq_true] at hf
    obtain ⟨x, y, xs', ys', c, r, hx, hy, h1, rfl, h2⟩ := eq_cell hf.1 h
    have hX : X.toArray[o * 1]? = some x := by
      have : (X.drop o)[0]? = some x := by rw [hx]; rfl
      rw [List.getElem?_drop] at this
      simpa using this
    have hY : Y.toArray[o * 1]? = some y := by
      have : (Y.drop o)[0]? = some y := by rw [hy]; rfl
      rw [List.getElem?_drop] at this
      simpa using this
    have hxs : xs' = X.drop (o + 1) := by rw [← List.drop_drop, hx]; rfl
    have hys : ys' = Y.drop (o + 1) := by rw [← List.drop_drop, hy]; rfl
    rw [hxs, hys] at h1
    have ih := items_eq (X := X) (Y := Y) d ks (o + 1) r hf.2 h1 w
    rw [List.length_cons, List.range'_succ]
    simp only [Op.eqItems, Sem.run_bind, run_part_one hf.1 hX, run_part_one hf.1 hY, Result.andThen_ok, h2]
    cases c
    · simp
    · simp [ih]

theorem eqStructB_ok {t : Nat} {e : Option (List EK)} (h : eqStructB P t e = true) : EqOk P t e := by
  intro ks hks
  subst hks
  unfold eqStructB at h
  simp only at h
  split at h
  · rename_i fs hu
    simp only [Bool.and_eq_true, Bool.not_eq_true'] at h
    refine ⟨h.1, fun w xs ys b hb => ?_⟩
    have hfs : P.fieldsOf t = fs := by simp [Program.fieldsOf, hu]
    unfold Op.equal
    rw [show Op.maxDepth = 9999 + 1 from rfl, run_equalIn_struct w 9999 t _ _ (by rw [hfs]; exact hu) h.2.1, hfs]
    exact fields_eq 9998 ks fs.toList 0 b h.2.2 (by simpa using hb) w
  · cases h

theorem eqArrB_ok {t : Nat} {e : Option (List EK)} (h : eqArrB P t e = true) : EqOk P t e := by
  intro ks hks
  subst hks
  unfold eqArrB at h
  simp only at h
  split at h
  · rename_i n el hu
    simp only [Bool.and_eq_true, Bool.not_eq_true', beq_iff_eq] at h
    obtain ⟨h1, h2, h3, h4, h5⟩ := h
    refine ⟨h1, fun w xs ys b hb => ?_⟩
    obtain ⟨i, hi⟩ := Option.isSome_iff_exists.1 h5
    unfold Op.equal
    rw [show Op.maxDepth = 9999 + 1 from rfl, run_equalIn_array w 9999 _ _ hu hi, h3, List.range_eq_range', ← h2]
    exact items_eq 9998 ks 0 b h4 (by simpa using hb) w
  · cases h

theorem kindB_ok {t : Nat} {k : K} (h : kindB P t k = true) : KindOk P t k := by
  cases k with
  | bool => exact ekB_bool h
  | int k => exact ekB_int h
  | str => exact ekB_str h
  | slice elem esz bytes byte =>
    unfold kindB at h
    simp only at h
    split at h
    · rename_i e i hu hi
      simp only [Bool.and_eq_true, beq_iff_eq, Bool.or_eq_true, Bool.not_eq_true'] at h
      obtain ⟨rfl, h2, h3, h4, h5⟩ := h
      split at h4
      · rename_i zv hz
        refine ⟨hu, ⟨i, hi, h2, h3, zv, hz, by simpa using h4⟩, fun hb => ?_⟩
        rcases h5 with q | q
        · rw [q] at hb; cases hb
        · exact ekB_int q
      · cases h4
    · cases h
  | arr n esz agg eq =>
    unfold kindB at h
    simp only at h
    split at h
    · rename_i m e hu
      simp only [Bool.and_eq_true, beq_iff_eq] at h
      obtain ⟨rfl, h2, h3⟩ := h
      exact ⟨⟨e, hu, sizeB_ok h2⟩, eqArrB_ok h3⟩
    · cases h
  | struct eq =>
    unfold kindB at h
    simp only at h
    split at h
    · rename_i fs hu
      exact ⟨⟨fs, hu⟩, eqStructB_ok h⟩
    · cases h
  | ptr =>
    unfold kindB at h
    simp only at h
    split at h
    · rename_i e hu; exact ⟨e, hu⟩
    · cases h
  | map key elem =>
    unfold kindB at h
    simp only at h
    split at h
    · rename_i kt e hu
      simp only [Bool.and_eq_true, beq_iff_eq] at h
      obtain ⟨rfl, h2, h3⟩ := h
      split at h3
      · rename_i i hi
        refine ⟨kt, hu, ?_, i, ?_⟩
        · cases key with
          | int k => exact ekB_int h2
          | str => exact ekB_str h2
          | bool => exact ekB_bool h2
        · split at h3
          · cases h3
          · rename_i zv hn hz
            refine ⟨zv, hi, hz, ?_⟩
            cases zv <;> first | rfl | (exfalso; exact hn _ rfl)
          · cases h3
      · cases h3
    · cases h
  | other => trivial

theorem zRep_ok {c : AV} {v : Value} (h : zRep c v = true) (G : Gh) : Rep G c v := by
  unfold zRep at h
  split at h
  · rw [beq_iff_eq] at h; subst h; exact .sv (.bool _)
  · simp only [Bool.and_eq_true, decide_eq_true_eq] at h; obtain ⟨rfl, rfl⟩ := h; exact .sv (.int _ _)
  · rename_i s b
    rw [beq_iff_eq] at h
    subst h
    exact .sv (.str b.data.toList)
  · exact .nil _
  · exact .sv .nilp
  · exact .sv .nilIface
  · cases h

theorem zRepL_ok (G : Gh) : ∀ (z : List AV) (vs : List Value), zRepL z vs = true → RepL G z vs
  | [], [], _ => RepL.nil G
  | c :: cs, v :: vs, h => by
    simp only [zRepL, Bool.and_eq_true] at h
    exact (zRepL_ok G cs vs h.2).cons (zRep_ok h.1 G)
  | [], _ :: _, h => by cases h
  | _ :: _, [], h => by cases h

theorem optAll_some {α : Type} {f : α → Bool} {o : Option α} (h : optAll f o = true) {x : α} (e : o = some x) : f x = true := by subst e; exact h

theorem tabB_ok {T : Tab} {n m : Nat} (h : tabB P T n m = true) (h1 : ∀ t, n ≤ t → T.size t = none) (h2 : ∀ t, n ≤ t → T.kind t = none) (h3 : ∀ t, n ≤ t → T.zero t = none) (h4 : ∀ t i, ¬ (t < n ∧ i < m) → T.field t i = none) : TabOk P T := by
  have all : ∀ t, t < n → _ := fun t ht => List.all_eq_true.1 h t (List.mem_range.2 ht)
  simp only [Bool.and_eq_true] at all
  have zero : ∀ t z, T.zero t = some z → zeroB P t z = true := fun t z hz => by
    by_cases q : t < n
    · exact optAll_some (all t q).2.2.1 hz
    · rw [h3 t (by omega)] at hz; cases hz
  refine ⟨fun t a b e => ?_, fun t k e => ?_, fun t i off k agg e => ?_, fun t z e => ?_, fun t z fs e hu f hf => ?_⟩
  · by_cases q : t < n
    · exact sizeB_ok (optAll_some (all t q).1 e)
    · rw [h1 t (by omega)] at e; cases e
  · by_cases q : t < n
    · exact kindB_ok (optAll_some (all t q).2.1 e)
    · rw [h2 t (by omega)] at e; cases e
  · by_cases q : t < n ∧ i < m
    · have hb := optAll_some (List.all_eq_true.1 (all t q.1).2.2.2 i (List.mem_range.2 q.2)) e
      unfold fieldB at hb
      split at hb
      · rename_i fs hu
        split at hb
        · rename_i f hf
          simp only [Bool.and_eq_true, beq_iff_eq, decide_eq_true_eq] at hb
          exact ⟨fs, f, hu, hf, hb.1, hb.2.1, sizeB_ok hb.2.2⟩
        · cases hb
      · cases hb
    · rw [h4 t i q] at e; cases e
  · have hb := zero t z e
    unfold zeroB at hb
    rw [Bool.and_eq_true] at hb
    have hb := hb.1
    split at hb
    · rename_i i hi
      split at hb
      · rename_i v hv
        simp only [Bool.and_eq_true, beq_iff_eq] at hb
        have hL : ∀ G, RepL G z v.cells.toList := fun G => zRepL_ok G _ _ hb.2.2
        refine ⟨i, v, hi, hv, hb.1, hb.2.1, hL, fun G hc d hd => ?_⟩
        subst hd
        have := hL G
        rw [hc] at this
        exact this.2 0 d v rfl rfl
      · cases hb
    · cases hb
  · have hb := zero t z e
    unfold zeroB at hb
    rw [Bool.and_eq_true, hu] at hb
    have := List.all_eq_true.1 hb.2 f (by simpa using hf)
    exact Option.isSome_iff_exists.1 this

end

theorem tab_ok {P : Program} (h : tabB P tab 230 12 = true) : TabOk P tab :=
  tabB_ok h (fun t ht => if_neg (by omega)) (fun t ht => if_neg (by omega)) (fun t ht => if_neg (by omega)) (fun t i hn => if_neg hn)

end Go.Proofs.Ytmhamnnfcmkcfaa

/- Two functions told by plain ones: where a byte is first in a string; a slice's clone. -/
namespace Go.Proofs.Ytmhamnnfcmkcfaa
open Go.RowKit

def ibsP : List AV → Option AV
  | [.sv (.str s), .sv (.int .u8 c)] => some (.sv (.int .i64 (Lib.indexByte s c.toNat.toUInt8)))
  | _ => none

def cloneP (esz : Nat) : List AV → Option AV
  | [.sv (.slice xs)] => if xs.length ≤ 1000000000000 ∧ xs.all (fun c => c.length == esz) then some (.sv (.slice xs)) else none
  | _ => none

section
variable {P : Program}

theorem pure_same {S : Settled} {w w' : World} {v : AV} {cv : Value} (hS : ∀ b o u, S b o = some u → w'.cell? ⟨b, o, none⟩ = some u) (hb : Below w.heap.size w w') (hv : ∀ loc, Rep ⟨S, loc⟩ v cv) : Pure S w v cv w' :=
  ⟨S, SLe.refl S, fun b o u h1 h2 => by (rw [h1] at h2; cases h2), hS, hb, hv⟩

theorem ibs_ok {f : Nat} {fn : Func} (hf : P.funcs[f]? = some fn) (hname : (fn.name == "runtime.NumGoroutine") = false) (hb : fn.body.isNone = true) (hn : Extern.findNext fn = none) (he : Extern.find fn = some Extern.BytealgIndexByte.indexByte)
    {args : List AV} {v : AV} {S : Settled} {w : World} {cargs : List Value} (e : ibsP args = some v) (hL : ∀ loc, RepL ⟨S, loc⟩ args cargs) (hS : ∀ b o u, S b o = some u → w.cell? ⟨b, o, none⟩ = some u) : Runs P f cargs.toArray w (Pure S w v) := by
  unfold ibsP at e
  split at e
  · rename_i s c
    cases e
    obtain ⟨v1, vs1, rfl, r1, hL1⟩ := (hL fun _ => none).uncons
    obtain ⟨v2, vs2, rfl, r2, hL2⟩ := hL1.uncons
    obtain rfl : vs2 = [] := List.eq_nil_of_length_eq_zero hL2.1.symm
    cases r1 with | sv r1 =>
    cases r1 with | str s =>
    cases r2 with | sv r2 =>
    cases r2 with | int k n =>
    have hrun := run_callFunc_extern hf hname hb hn he #[.string ⟨s.toArray⟩, .int .u8 c] w
    rw [Lib.run_indexByteString, Result.andThen_ok] at hrun
    exact Runs.of_value hrun (pure_same hS (Below.refl _ _) fun loc => .sv (.int _ _))
  · cases e

def cloneCode (t : Nat) : Code :=
  (Code.region 0 #[{ dst := some 2, op := .assign (.const (.slice none 0 0)), type := t, pos := "slices.go:355", after := #[], guard := none }] false).seq
    (((Code.region 1 #[{ dst := some 3, op := .move (.tmp 0), type := t, pos := "slices.go:357", after := #[], guard := none },
          { dst := some 4, op := .binOp .eql t (.tmp 3) (.const (.slice none 0 0)) t, type := 4, pos := "slices.go:357", after := #[{ on := 0, ground := .data }], guard := none }] false).seq
        (Code.cond (.tmp 4) ((Code.region 2 #[{ dst := some 2, op := .assign (.const (.slice none 0 0)), type := t, pos := "slices.go:358", after := #[], guard := none }] false).seq .ret) .skip)).seq
      ((Code.region 3 #[{ dst := some 5, op := .buildSlice t 0 #[], type := t, pos := "slices.go:362", after := #[], guard := none },
          { dst := some 6, op := .move (.tmp 0), type := t, pos := "slices.go:362", after := #[], guard := none },
          { dst := some 7, op := .call { callee := .builtin .append, args := #[.tmp 5, .tmp 6], argTypes := #[t, t] }, type := t, pos := "slices.go:362", after := #[{ on := 0, ground := .data }, { on := 1, ground := .data }], guard := none },
          { dst := some 2, op := .assign (.tmp 7), type := t, pos := "slices.go:362", after := #[{ on := 2, ground := .data }, { on := 2, ground := .chain }, { on := 0, ground := .phase }, { on := 1, ground := .phase }, { on := 2, ground := .phase }], guard := none }] false).seq .ret))

theorem eql_nil {t e : Nat} (hu : P.underlying t = some (.slice e)) (a : Option Addr) (l c : Nat) (w : World) : (binOp .eql t (.slice a l c) (.slice none 0 0)).run P w = .ok (.bool a.isNone) w := by
  have := run_equal_slice_nil (P := P) w t e a l c hu
  simp [binOp, this]

theorem exec_eql_nil {t e : Nat} (hu : P.underlying t = some (.slice e)) (ac : Act) {a : Option Addr} {l c : Nat} (hv : ac.eval (.tmp 3) = .slice a l c) (d : Option Nat) (ty : Nat) (pos : String) (aft : Array Edge) (g : Option (Nat × Bool)) (w : World) :
    (execOp ac.eval ⟨d, .binOp .eql t (.tmp 3) (.const (.slice none 0 0)) t, ty, pos, aft, g⟩).run P w = .ok (.value (.bool a.isNone)) w := by
  have h2 : ac.eval (.const (.slice none 0 0)) = .slice none 0 0 := rfl
  simp [execOp, hv, h2, eql_nil hu, eqGuard]

theorem repS_slice {S : Settled} {xs : List (List SV)} {v : Value} (h : RepS S (.slice xs) v) : ∃ a cap, v = .slice a xs.length cap ∧ (a = none → xs = []) := by
  cases h with
  | slice0 a cap => exact ⟨a, cap, rfl, fun _ => rfl⟩
  | slice xs b o cap esz vs => exact ⟨_, _, rfl, fun h => by cases h⟩

theorem clone_ok {T : Tab} (hT : TabOk P T) {f t e esz bytes : Nat} {fn : Func} {z : List AV} (hf : P.funcs[f]? = some fn) (hname : (fn.name == "runtime.NumGoroutine") = false) (hb : fn.body = some (cloneCode t)) (hr : fn.results = #[.tmp 2]) (hn : fn.ntmps = 8)
    (hk : T.kind t = some (.slice e esz bytes false)) (hz : T.zero e = some z) (hzl : z.length = esz) (hzc : z.all cell1 = true) (he : 0 < esz) (hby : bytes ≤ 120)
    {args : List AV} {v : AV} {S : Settled} {w : World} {cargs : List Value} (ea : cloneP esz args = some v) (hL : ∀ loc, RepL ⟨S, loc⟩ args cargs) (hS : ∀ b o u, S b o = some u → w.cell? ⟨b, o, none⟩ = some u) : Runs P f cargs.toArray w (Pure S w v) := by
  unfold cloneP at ea
  split at ea
  · rename_i xs
    split at ea
    · rename_i hxs
      cases ea
      obtain ⟨hlen, hsz⟩ := hxs
      have hsz' : ∀ x ∈ xs, x.length = esz := fun x hx => by simpa using List.all_eq_true.1 hsz x hx
      obtain ⟨v1, vs1, rfl, r1, hL1⟩ := (hL fun _ => none).uncons
      obtain rfl : vs1 = [] := List.eq_nil_of_length_eq_zero hL1.1.symm
      have hrS : RepS S (.slice xs) v1 := by cases r1 with | sv h => exact h
      obtain ⟨a, cap, rfl, hnil⟩ := repS_slice hrS
      have hu : P.underlying t = some (.slice e) := (hT.kind t _ hk).1
      refine Runs.of_calls hf hb hname ?_
      refine calls_of_wp hf hb ?_
      let G : Gh := ⟨S, fun _ => none⟩
      let N := 8
      let tm0 : Tm := init [.sv (.slice xs)]
      have hA0 : At w.heap.size G w N [] tm0 [] G { tmps := #[Value.slice a xs.length cap] ++ Array.replicate (fn.ntmps - 1) undef, defers := [] } w :=
        ⟨by rw [hn]; exact init_rep (hL fun _ => none) 7, Inv.bare hS, Mv.refl _ _ _, by simp [hn, N], rfl⟩
      generalize { tmps := #[Value.slice a xs.length cap] ++ Array.replicate (fn.ntmps - 1) undef, defers := [] : Act } = a0 at hA0
      have hC : FnOk P (fun _ _ _ => none) := fun _ _ _ _ _ _ _ _ _ e => by cases e
      -- the end
      have fin : ∀ (r : AV) (h' : Heap), frzR frzDepth h' r = some (.sv (.slice xs)) → ∀ (o : Out) (tm : Tm) (h : Heap) (G2 : Gh) (a2 : Act) (w2 : World), endK optB T [.tmp 2] o tm h = some (r, h') → At w.heap.size G w N [] tm h G2 a2 w2 →
          bodyPost P fn (fun | .returned v, w' => Pure S w (.sv (.slice xs)) v w' | _, _ => False) o.ex a2 w2 := by
        intro r h' hfr o tm h G2 a2 w2 e hA
        obtain ⟨q1, rfl, cv, q2, q3⟩ := results_sound (fn := fn) hT hA.inv hA.rep (by rw [hr]; exact e)
        obtain ⟨S', s1, s2, s3, s4⟩ := res_settle hA.inv q3 hfr
        have hp : Pure S w (.sv (.slice xs)) cv w2 := by
          refine ⟨S', hA.mv.le.S.trans s1, fun b o u q1 q2 => ?_, s3, hA.mv.below, s4⟩
          cases e : G2.S b o with
          | none => exact s2 b o u q1 e
          | some u' => exact hA.mv.fresh b o u' e q2
        cases o with
        | exit i => exact absurd rfl (q1 i)
        | normal => exact ⟨hA.defers, cv, q2, hp⟩
        | ret => exact ⟨hA.defers, cv, q2, hp⟩
      have hdst : ∀ (o : Oper) (d : Nat), o.dst = some d → d < 8 → ∀ t, o.dst = some t → t < N := fun o d h1 h2 t h3 => by rw [h1] at h3; cases h3; exact h2
      unfold cloneCode
      -- the first region
      refine wp_seq (wp_region_list (ops_ok (T := T) (C := fun _ _ _ => none) (K := fun tm h => some (tm, h)) (r := (upd tm0 2 .nil, [])) (N := N) (ds := []) hT hC ?_ _ tm0 [] G a0 w ?_ rfl hA0))
      · intro tm h G1 a1 w1 e1 hA1
        cases e1
        show Code.wp P _ _ a1 w1
        refine wp_seq (wp_seq (wp_region_list (wpList_plain rfl fun K hK => ?_)))
        refine op_ok hT hC hA1.rep hA1.inv (.inr ⟨rfl, rfl⟩) fun cv w2 G2 m1 m2 m3 => hK _ _ ?_
        have hA2 := hA1.step (d := some 3) (fun t ht => by cases ht; decide) m1 m2 m3
        refine wpList_plain rfl fun K2 hK2 => ?_
        have h3 : Rep G2 (.sv (.slice xs)) ((a1.put (some 3) cv).eval (.tmp 3)) := ev_rep hA2.rep (.tmp 3)
        obtain ⟨a', cap', hv3, hnil'⟩ := repS_slice (show RepS G2.S (.slice xs) _ by cases h3 with | sv h => exact h)
        unfold Oper.wp
        rw [exec_eql_nil hu _ hv3, Oper.upon_value]
        refine hK2 _ _ ?_
        have hA3 := hA2.step (d := some 4) (v := .sv (.bool a'.isNone)) (cv := .bool a'.isNone) (fun t ht => by cases ht; decide) (Mv.refl _ _ _) hA2.inv (.sv (.bool _))
        show Code.wp P _ _ _ _
        refine wp_cond (t := a'.isNone) (asB_rep (ev_rep hA3.rep (.tmp 4)) rfl) ?_
        cases ha : a'.isNone with
        | true =>
          rw [ha] at hA3
          have hx : xs = [] := hnil' (by simpa using ha)
          rw [if_pos rfl]
          refine code_ok (T := T) (sh := fun _ => false) (C := fun _ _ _ => none) (D := noD) (n := 0) (N := N) (ds := []) hT hC _ (AV × Heap) (fun o tm h => match o with | .ret => endK optB T [.tmp 2] .ret tm h | _ => none) (.nil, []) _ _ _ _ _ _ rfl (by exact ⟨trivial, trivial⟩) rfl hA3 ?_
          intro o tm h G4 a4 w4 e4 hA4
          cases o with
          | ret => exact fin .nil [] (by subst hx; rfl) .ret tm h G4 a4 w4 e4 hA4
          | normal => cases e4
          | exit i => cases e4
        | false =>
          rw [ha] at hA3
          rw [if_neg Bool.false_ne_true]
          refine wp_skip ?_
          show Code.wp P _ _ _ _
          have hz0 : zElem T (.slice e esz bytes false) = some z := hz
          have hbs : bsA (.slice e esz bytes false) (some z) 0 [] [] = some (.own 0 0 0, [.cells esz [] true]) := by
            simp [bsA, hzl, hzc, fillA]
          have hap : ∃ r, apA (.slice e esz bytes false) (.own 0 0 0) (.sv (.slice xs)) [.cells esz [] true] = some r ∧ frzR frzDepth r.2 r.1 = some (.sv (.slice xs)) := by
            simp only [apA, rows_sv hsz', Option.bind_some]
            by_cases hx : xs.length = 0
            · have : xs = [] := List.eq_nil_of_length_eq_zero hx
              subst this
              refine ⟨_, if_pos rfl, ?_⟩
              simp [frzR, frzV, frzC, frzDepth, he, takeN, frzCells, chunk]
            · rw [if_neg hx]
              have h0 : takeN ([] : List AV) 0 (0 * esz) = some [] := by simp [takeN]
              simp only [List.getElem?_cons_zero, Nat.zero_add, h0, Option.bind_some, List.nil_append]
              rw [if_pos ⟨trivial, hlen, hby, he⟩]
              refine ⟨_, rfl, ?_⟩
              have := frz_own (n := 5) (id := 1) (h := [Ent.cells esz [] true].set 0 .gone ++ [.cells esz (xs.flatten.map .sv) true]) he hsz' rfl
              simp only [frzR, frzV, frzDepth, List.length_cons, List.length_nil]
              rw [this]
              rfl
          obtain ⟨r, hr1, hr2⟩ := hap
          refine code_ok (T := T) (sh := fun _ => false) (C := fun _ _ _ => none) (D := noD) (n := 0) (N := N) (ds := []) hT hC _ (AV × Heap) (endK optB T [.tmp 2]) r _ _ _ _ _ _ rfl (by exact ⟨trivial, trivial⟩) ?_ hA3 ?_
          · have hk2 : rowKind (.slice e esz bytes false) = true := rfl
            simp [evCode, evOps, valOf, isAct, guardOf, gO, gW, evAct, hk, hz0, evParts, hbs, optB, ev, updO, upd, tm0, init, hk2, hr1, endK, resK, tup, outSeq]
          · intro o tm h G4 a4 w4 e4 hA4
            exact fin r.1 r.2 hr2 o tm h G4 a4 w4 e4 hA4
      · intro o ho t ht
        simp at ho
        subst ho
        cases ht
        decide
    · cases ea
  · cases ea

end
end Go.Proofs.Ytmhamnnfcmkcfaa

/- Which functions run on the caller's heap: printed. -/
namespace Go.Proofs.Ytmhamnnfcmkcfaa
def shared : Nat → Bool
  | 38 => true
  | 96 => true
  | 97 => true
  | 100 => true
  | 101 => true
  | 104 => true
  | 106 => true
  | 107 => true
  | 108 => true
  | 109 => true
  | 115 => true
  | 119 => true
  | 120 => true
  | 121 => true
  | 122 => true
  | 123 => true
  | 124 => true
  | 126 => true
  | 127 => true
  | 130 => true
  | 138 => true
  | 145 => true
  | 147 => true
  | 148 => true
  | 149 => true
  | 153 => true
  | 154 => true
  | 155 => true
  | 156 => true
  | 157 => true
  | 158 => true
  | 159 => true
  | 160 => true
  | 170 => true
  | 171 => true
  | 178 => true
  | 179 => true
  | 180 => true
  | 181 => true
  | 183 => true
  | 184 => true
  | 185 => true
  | 186 => true
  | 187 => true
  | 188 => true
  | 189 => true
  | 190 => true
  | 191 => true
  | 192 => true
  | 193 => true
  | 194 => true
  | 195 => true
  | 196 => true
  | 200 => true
  | 204 => true
  | 208 => true
  | 212 => true
  | 215 => true
  | _ => false
end Go.Proofs.Ytmhamnnfcmkcfaa

/- The program's environment: its types, its functions. -/
namespace Go.Proofs.Ytmhamnnfcmkcfaa
open Go.RowKit

theorem tab_prog : TabOk Try.prog tab := tab_ok (by kernel_rfl)

theorem mixed : Try.prog.follows .mixedOrders = true := Try.checked.mixed

/-- The functions that are told by plain ones; J: lexer.Join, where it is. -/
def prims (J : Option (List AV → Option AV)) (f : Nat) : Option (List AV → Option AV) :=
  if f = 198 then some ibsP else if f = 92 then some (cloneP 3) else if f = 177 then some (cloneP 1) else if f = 24 then J else none

def good (fn : Func) : Bool := !(fn.name == "runtime.NumGoroutine") && (match fn.body with | some c => okDst fn.ntmps c && drawB (drawChk tab shared) c | none => false)

noncomputable def env (J : Option (List AV → Option AV)) : Env :=
  { T := tab, M := { prim := prims J, shared := shared }, D := fun _ => noD, fn := fun f => (Try.prog.funcs[f]?).bind fun fn => if good fn = true then some fn else none }

theorem env_plain (J : Option (List AV → Option AV)) : (env J).plain := rfl

/-- What lexer.Join must do, where a plain function tells it. -/
def JoinOk (J : Option (List AV → Option AV)) : Prop := ∀ (g : List AV → Option AV) (args : List AV) (v : AV) (S : Settled) (w : World) (cargs : List Value), J = some g → g args = some v →
  (∀ loc, RepL ⟨S, loc⟩ args cargs) → (∀ b o u, S b o = some u → w.cell? ⟨b, o, none⟩ = some u) → Runs Try.prog 24 cargs.toArray w (Pure S w v)

theorem joinOk_none : JoinOk none := fun g _ _ _ _ _ h => by cases h

set_option maxRecDepth 100000 in
theorem env_ok {J : Option (List AV → Option AV)} (hJ : JoinOk J) : EnvOk Try.prog (env J) := by
  refine ⟨tab_prog, ?_, ?_⟩
  · intro f g args v S w cargs h1 h2 h3 h4
    simp only [env, prims] at h1
    split at h1
    · rename_i q; subst q; cases h1
      exact ibs_ok Try.func198 (by kernel_rfl) (by kernel_rfl) (by kernel_rfl) (by kernel_rfl) h2 h3 h4
    · split at h1
      · rename_i q; subst q; cases h1
        exact clone_ok tab_prog (t := 22) (e := 35) (bytes := 32) (z := [.sv (.int .i64 0), .sv (.str []), .sv (.int .i64 0)]) Try.func92 (by kernel_rfl) rfl rfl rfl rfl rfl rfl rfl (by decide) (by decide) h2 h3 h4
      · split at h1
        · rename_i q; subst q; cases h1
          exact clone_ok tab_prog (t := 63) (e := 9) (bytes := 16) (z := [.sv (.str [])]) Try.func177 (by kernel_rfl) rfl rfl rfl rfl rfl rfl rfl (by decide) (by decide) h2 h3 h4
        · split at h1
          · rename_i q; subst q
            exact hJ g args v S w cargs h1 h2 h3 h4
          · cases h1
  · intro f fn h
    simp only [env] at h
    obtain ⟨fn', h1, h2⟩ := Option.bind_eq_some_iff.1 h
    split at h2
    · rename_i hg
      cases h2
      unfold good at hg
      rw [Bool.and_eq_true] at hg
      obtain ⟨g1, g2⟩ := hg
      split at g2
      · rename_i c hc
        rw [Bool.and_eq_true] at g2
        refine ⟨h1, by simpa using g1, c, hc, g2.1, fun C n N hC hQ hN => ?_⟩
        exact drawB_ok (drawChk_ok mixed tab_prog) hC hQ c (okDst_mono hN c g2.1) g2.2
      · cases g2
    · cases h2

set_option maxRecDepth 100000 in
theorem env_fn {J : Option (List AV → Option AV)} {f : Nat} {fn : Func} (h : Try.prog.funcs[f]? = some fn) (hg : good fn = true) : (env J).fn f = some fn := by
  simp only [env, h, Option.bind_some, if_pos hg]

end Go.Proofs.Ytmhamnnfcmkcfaa

/- Equations of the interpreter's operations on plain values; calls of functions that work on memory of their own; loops. -/
namespace Go.Proofs.Ytmhamnnfcmkcfaa
open Go.RowKit

/-! ### Values -/

abbrev I (n : Int) : AV := .sv (.int .i64 n)
abbrev U8 (b : UInt8) : AV := .sv (.int .u8 b.toNat)
abbrev Bo (b : Bool) : AV := .sv (.bool b)
abbrev Sr (s : List UInt8) : AV := .sv (.str s)
abbrev NIL : AV := .sv .nilp

theorem wrapI {n : Int} (h1 : -9223372036854775808 ≤ n) (h2 : n ≤ 9223372036854775807) : IntKind.i64.wrap n = n := by
  simp only [IntKind.wrap, IntKind.bits]
  simp only [IntKind.signed]; simp; omega

theorem wrapU {n : Int} (h1 : 0 ≤ n) (h2 : n ≤ 255) : IntKind.u8.wrap n = n := by
  simp only [IntKind.wrap, IntKind.bits]
  simp only [IntKind.signed]; simp; omega

/-! ### Operations -/

@[simp] theorem optB_b {α β : Type} (x : Option α) (f : α → Option β) : optB.b x f = x.bind f := rfl
@[simp] theorem asB_bo (b : Bool) : asB (.sv (.bool b)) = some b := rfl
@[simp] theorem gO_none {α : Type} (x : Option α) (y : α) : gO none x y = x := rfl
@[simp] theorem gO_tt {α : Type} (b : Bool) (x : Option α) (y : α) : gO (some (.sv (.bool b), true)) x y = if b then x else some y := by cases b <;> rfl
@[simp] theorem gO_dead {α : Type} (w : Bool) (x : Option α) (y : α) : gO (some (.dead, w)) x y = some y := rfl
@[simp] theorem gO_ff {α : Type} (b : Bool) (x : Option α) (y : α) : gO (some (.sv (.bool b), false)) x y = if b then some y else x := by cases b <;> rfl

section
variable (k : IntKind) (K0 : K) (a b : Int)
@[simp] theorem bin_add : bin .add K0 (.sv (.int k a)) (.sv (.int k b)) = some (.sv (.int k (k.wrap (a + b)))) := by simp [bin, binI]
@[simp] theorem bin_sub : bin .sub K0 (.sv (.int k a)) (.sv (.int k b)) = some (.sv (.int k (k.wrap (a - b)))) := by simp [bin, binI]
@[simp] theorem bin_mul : bin .mul K0 (.sv (.int k a)) (.sv (.int k b)) = some (.sv (.int k (k.wrap (a * b)))) := by simp [bin, binI]
@[simp] theorem bin_eql : bin .eql K0 (.sv (.int k a)) (.sv (.int k b)) = some (.sv (.bool (decide (a = b)))) := by simp [bin, binI]; rfl
@[simp] theorem bin_neq : bin .neq K0 (.sv (.int k a)) (.sv (.int k b)) = some (.sv (.bool (!decide (a = b)))) := by simp [bin, binI]; rfl
@[simp] theorem bin_lss : bin .lss K0 (.sv (.int k a)) (.sv (.int k b)) = some (.sv (.bool (decide (a < b)))) := by simp [bin, binI]
@[simp] theorem bin_leq : bin .leq K0 (.sv (.int k a)) (.sv (.int k b)) = some (.sv (.bool (decide (a ≤ b)))) := by simp [bin, binI]
@[simp] theorem bin_gtr : bin .gtr K0 (.sv (.int k a)) (.sv (.int k b)) = some (.sv (.bool (decide (b < a)))) := by simp [bin, binI]
@[simp] theorem bin_geq : bin .geq K0 (.sv (.int k a)) (.sv (.int k b)) = some (.sv (.bool (decide (b ≤ a)))) := by simp [bin, binI]
end
@[simp] theorem bin_eqlS (K0 : K) (a b : List UInt8) : bin .eql K0 (.sv (.str a)) (.sv (.str b)) = some (.sv (.bool (decide (a = b)))) := by simp [bin, binS]; rw [Bool.eq_iff_iff]; simp
@[simp] theorem bin_neqS (K0 : K) (a b : List UInt8) : bin .neq K0 (.sv (.str a)) (.sv (.str b)) = some (.sv (.bool (!decide (a = b)))) := by simp [bin, binS]; rw [Bool.eq_iff_iff]; simp
@[simp] theorem bin_eqlB (a b : Bool) : bin .eql .bool (.sv (.bool a)) (.sv (.bool b)) = some (.sv (.bool (a == b))) := rfl
@[simp] theorem bin_neqB (a b : Bool) : bin .neq .bool (.sv (.bool a)) (.sv (.bool b)) = some (.sv (.bool (!(a == b)))) := rfl
@[simp] theorem un_not (b : Bool) : un .not (.sv (.bool b)) = some (.sv (.bool (!b))) := rfl
@[simp] theorem un_neg (k : IntKind) (n : Int) : un .neg (.sv (.int k n)) = some (.sv (.int k (k.wrap (0 - n)))) := rfl
@[simp] theorem cv_int (k k' : IntKind) (n : Int) : cv (.int k) (.sv (.int k' n)) = some (.sv (.int k (k.wrap n))) := rfl
@[simp] theorem ln_str (s : List UInt8) : ln .str (.sv (.str s)) = some (.sv (.int .i64 s.length)) := rfl
@[simp] theorem ln_slice (e n b : Nat) (y : Bool) (xs : List (List SV)) : ln (.slice e n b y) (.sv (.slice xs)) = some (.sv (.int .i64 xs.length)) := rfl
@[simp] theorem ln_nil (e n b : Nat) (y : Bool) : ln (.slice e n b y) .nil = some (.sv (.int .i64 0)) := rfl
@[simp] theorem ln_own (e n b : Nat) (y : Bool) (id off len : Nat) : ln (.slice e n b y) (.own id off len) = some (.sv (.int .i64 len)) := rfl
@[simp] theorem ex_tuple (i : Nat) (vs : List AV) : ex i (.tuple vs) = vs[i]? := rfl
@[simp] theorem fa_ptr (off id o : Nat) : fa off (.ptr id o) = some (.ptr id (o + off)) := rfl
@[simp] theorem fa_ref (off : Nat) (cs : List SV) : fa off (.ref cs) = some (.ref (cs.drop off)) := rfl
@[simp] theorem nc_ptr (id o : Nat) : nc (.ptr id o) = some (.ptr id o) := rfl
@[simp] theorem nc_ref (cs : List SV) : nc (.ref cs) = some (.ref cs) := rfl
@[simp] theorem nc_func (f : Nat) (a b : List AV) : nc (.func f a b) = some (.func f a b) := rfl
@[simp] theorem callV_func (f : Nat) (a b : List AV) : callV (.func f a b) = some (f, a, b) := rfl

theorem ix_str {s : List UInt8} {n : Int} {i : Nat} {c : UInt8} (hn : n = i) (h : s[i]? = some c) : ix .str (.sv (.str s)) (.sv (.int .i64 n)) = some (.sv (.int .u8 c.toNat)) := by
  subst hn
  simp [ix, h]

@[simp] theorem ix_cons (c : UInt8) (r : List UInt8) : ix .str (.sv (.str (c :: r))) (.sv (.int .i64 0)) = some (.sv (.int .u8 c.toNat)) := by simp [ix]

theorem ia_sv {e esz b : Nat} {y : Bool} {xs : List (List SV)} {n : Int} {i : Nat} {c : List SV} (hn : n = i) (h : xs[i]? = some c) (hc : c.length = esz) : ia (.slice e esz b y) (.sv (.slice xs)) (.sv (.int .i64 n)) = some (.ref c) := by
  subst hn
  have hi := (List.getElem?_eq_some_iff.1 h).1
  simp [ia, h, hc]
  omega

theorem ia_own {e esz b : Nat} {y : Bool} {id off len : Nat} {n : Int} {i : Nat} (hn : n = i) (h : i < len) : ia (.slice e esz b y) (.own id off len) (.sv (.int .i64 n)) = some (.ptr id (off + i * esz)) := by
  subst hn
  simp [ia]
  omega

theorem ia_ptr {m esz id off : Nat} {g : Bool} {eq : Option (List EK)} {n : Int} {i : Nat} (hn : n = i) (h : i < m) : ia (.arr m esz g eq) (.ptr id off) (.sv (.int .i64 n)) = some (.ptr id (off + i * esz)) := by
  subst hn
  simp [ia]
  omega

theorem ld_ref {n : Nat} {agg : Bool} {cs : List SV} {h : Heap} (hn : n ≤ cs.length) : ld n agg (.ref cs) h = some (pack agg ((cs.take n).map .sv)) := by
  simp [ld, takeN, Nat.min_eq_left hn]

theorem ld_ptr {n id off esz : Nat} {agg wr : Bool} {cs : List AV} {h : Heap} (hid : h[id]? = some (.cells esz cs wr)) (hn : off + n ≤ cs.length) : ld n agg (.ptr id off) h = some (pack agg ((cs.drop off).take n)) := by
  have : min n (cs.length - off) = n := by omega
  simp [ld, hid, takeN, this]

theorem alloc_eq {z : List AV} {h : Heap} (hz : z.all cell1 = true) : alloc z h = some (.ptr h.length 0, h ++ [.cells 0 z true]) := by simp [alloc, hz]

theorem store_eq {n id off esz : Nat} {x : AV} {cs vs : List AV} {h : Heap} (hid : h[id]? = some (.cells esz cs true)) (hx : cellsOf x = some vs) (hn : vs.length = n) (hb : off + n ≤ cs.length) :
    storeA n (.ptr id off) x h = some (.undef, h.set id (.cells esz (splice cs off vs) true)) := by
  simp [storeA, hid, hx, hn, hb]

theorem box_eq {n : Nat} {x : AV} {cs : List AV} {h : Heap} (hx : cellsOf x = some cs) (hn : cs.length = n) (hc : cs.all cell1 = true) : boxA n x h = some (.ptr h.length 0, h ++ [.cells 0 cs true]) := by
  simp only [boxA, hx, Option.bind_some, hn, if_true, alloc, hc]

theorem cells_all : ∀ (l : List SV), (l.map AV.sv).all cell1 = true
  | [] => rfl
  | s :: l => by rw [List.map_cons, List.all_cons, cells_all l]; rfl

@[simp] theorem cellsOf_sv (s : SV) : cellsOf (.sv s) = some [.sv s] := rfl
@[simp] theorem cellsOf_agg (l : List SV) : cellsOf (.agg (l.map .sv)) = some (l.map .sv) := by simp only [cellsOf, cells_all, if_true]
@[simp] theorem heap_last (h : Heap) (e : Ent) : (h ++ [e])[h.length]? = some e := by simp
@[simp] theorem heap_set_last (h : Heap) (e e' : Ent) : (h ++ [e]).set h.length e' = h ++ [e'] := by simp

@[simp] theorem upd_eq (tm : Tm) (d : Nat) (v : AV) : upd tm d v d = v := by simp [upd]
theorem upd_ne {tm : Tm} {d t : Nat} {v : AV} (h : t ≠ d) : upd tm d v t = tm t := by simp [upd, h]
@[simp] theorem init_nil (t : Nat) : init [] t = .undef := rfl
@[simp] theorem init_zero (a : AV) (l : List AV) : init (a :: l) 0 = a := rfl
@[simp] theorem init_succ (a : AV) (l : List AV) (t : Nat) : init (a :: l) (t + 1) = init l t := rfl

@[simp] theorem outBlock_normal {R : Type} (id : Nat) (K : Out → Tm → Heap → Option R) (tm : Tm) (h : Heap) : outBlock id K .normal tm h = K .normal tm h := rfl
@[simp] theorem outBlock_ret {R : Type} (id : Nat) (K : Out → Tm → Heap → Option R) (tm : Tm) (h : Heap) : outBlock id K .ret tm h = K .ret tm h := rfl
@[simp] theorem outBlock_exit {R : Type} (id i : Nat) (K : Out → Tm → Heap → Option R) (tm : Tm) (h : Heap) : outBlock id K (.exit i) tm h = if i = id then K .normal tm h else K (.exit i) tm h := rfl
@[simp] theorem outSeq_normal {R : Type} (N : Tm → Heap → Option R) (K : Out → Tm → Heap → Option R) (tm : Tm) (h : Heap) : outSeq N K .normal tm h = N tm h := rfl
@[simp] theorem outSeq_ret {R : Type} (N : Tm → Heap → Option R) (K : Out → Tm → Heap → Option R) (tm : Tm) (h : Heap) : outSeq N K .ret tm h = K .ret tm h := rfl
@[simp] theorem outSeq_exit {R : Type} (N : Tm → Heap → Option R) (K : Out → Tm → Heap → Option R) (i : Nat) (tm : Tm) (h : Heap) : outSeq N K (.exit i) tm h = K (.exit i) tm h := rfl
@[simp] theorem outK_eq (o : Out) (tm : Tm) (h : Heap) : outK o tm h = some (o, ⟨tm, h⟩) := rfl
@[simp] theorem endK_ret (rs : List ResultVar) (tm : Tm) (h : Heap) : endK optB tab rs .ret tm h = resK optB tab tm h rs fun vs => some (tup vs, h) := rfl
@[simp] theorem endK_normal (rs : List ResultVar) (tm : Tm) (h : Heap) : endK optB tab rs .normal tm h = resK optB tab tm h rs fun vs => some (tup vs, h) := rfl
@[simp] theorem resK_nil {R : Type} (tm : Tm) (h : Heap) (k : List AV → Option R) : resK optB tab tm h [] k = k [] := rfl
@[simp] theorem resK_tmp {R : Type} (t : Nat) (rs : List ResultVar) (tm : Tm) (h : Heap) (k : List AV → Option R) : resK optB tab tm h (.tmp t :: rs) k = resK optB tab tm h rs fun vs => k (tm t :: vs) := rfl
@[simp] theorem tup_one (v : AV) : tup [v] = v := rfl
@[simp] theorem tup_two (u v : AV) (l : List AV) : tup (u :: v :: l) = .tuple (u :: v :: l) := rfl
@[simp] theorem tup_nil : tup [] = .tuple [] := rfl

/-! ### Settled values -/

def isSv : AV → Bool
  | .sv _ => true
  | _ => false

def setV : AV → Bool
  | .sv _ => true
  | .agg cs => cs.all isSv
  | .ref _ => true
  | .func _ [] [] => true
  | _ => false

theorem isSv_map : ∀ (cs : List AV), cs.all isSv = true → ∃ l : List SV, cs = l.map .sv
  | [], _ => ⟨[], rfl⟩
  | c :: cs, h => by
    rw [List.all_cons, Bool.and_eq_true] at h
    obtain ⟨l, rfl⟩ := isSv_map cs h.2
    cases c <;> first | (cases h.1; done) | skip
    rename_i s
    exact ⟨s :: l, rfl⟩

theorem frzV_set {h : Heap} {a : AV} (hs : setV a = true) : frzV frzDepth h a = some (a, []) := by
  unfold setV at hs
  split at hs
  · rfl
  · obtain ⟨l, rfl⟩ := isSv_map _ hs
    simp only [frzV, frzCells_svs, Option.bind_some]
  · rfl
  · rfl
  · cases hs

theorem frzVs_set {h : Heap} : ∀ {args : List AV}, args.all setV = true → frzVs frzDepth h args = some (args, [])
  | [], _ => rfl
  | a :: args, hs => by
    rw [List.all_cons, Bool.and_eq_true] at hs
    simp only [frzVs, frzV_set hs.1, frzVs_set hs.2, Option.bind_some, List.nil_append]

theorem frzR_set {h : Heap} {a : AV} (hs : setV a = true) : frzR frzDepth h a = some a := by
  unfold frzR
  split
  · cases hs
  · rw [frzV_set hs]; rfl

theorem frzR_tup {h : Heap} {vs : List AV} (hs : vs.all setV = true) : frzR frzDepth h (.tuple vs) = some (.tuple vs) := by
  simp only [frzR, frzVs_set hs, Option.bind_some]

/-! ### Calls -/

section
variable {J : Option (List AV → Option AV)}

noncomputable abbrev Cw (J : Option (List AV → Option AV)) : CallF := callW (env J)

/-- A call on a heap of its own: the answer's settled form. -/
theorem call_own {f : Nat} {fn : Func} (hfn : Try.prog.funcs[f]? = some fn) (hg : good fn = true) (hs : shared f = false) (hm : prims J f = none) {args args' : List AV} {ids : List Nat} {h hr : Heap} {r v : AV}
    (ha : frzVs frzDepth h args = some (args', ids)) (e : evFunc optB tab shared (Cw J) loopW noD fn args' [] = some (r, hr)) (hv : frzR frzDepth hr r = some v) : Cw J f args h = some (v, settle h ids) :=
  callW_pure (env_plain J) (env_fn hfn hg) hs hm ha e hv

theorem call_sv {f : Nat} {fn : Func} (hfn : Try.prog.funcs[f]? = some fn) (hg : good fn = true) (hs : shared f = false) (hm : prims J f = none) {args : List AV} {h hr : Heap} {r v : AV}
    (ha : args.all setV = true) (e : evFunc optB tab shared (Cw J) loopW noD fn args [] = some (r, hr)) (hv : frzR frzDepth hr r = some v) : Cw J f args h = some (v, h) :=
  call_own hfn hg hs hm (frzVs_set ha) e hv

theorem call_sh {f : Nat} {fn : Func} (hfn : Try.prog.funcs[f]? = some fn) (hg : good fn = true) (hs : shared f = true) {args : List AV} {h : Heap} {r : AV × Heap}
    (e : evFunc optB tab shared (Cw J) loopW noD fn args h = some r) : Cw J f args h = some r :=
  callW_shared (env_plain J) (env_fn hfn hg) hs e

theorem call_prim {f : Nat} {g : List AV → Option AV} (hs : shared f = false) (hm : prims J f = some g) {args args' : List AV} {ids : List Nat} {h : Heap} {v : AV} (ha : frzVs frzDepth h args = some (args', ids)) (e : g args' = some v) : Cw J f args h = some (v, settle h ids) :=
  callW_prim (env_plain J) hs hm ha e
end

/-! ### Answers that are there -/

def Ok {α : Type} (x : Option α) (Q : α → Prop) : Prop := ∃ r, x = some r ∧ Q r

@[simp] theorem ok_some {α : Type} (r : α) (Q : α → Prop) : Ok (some r) Q ↔ Q r := by simp [Ok]
theorem Ok.mono {α : Type} {x : Option α} {P Q : α → Prop} (h : Ok x P) (k : ∀ r, P r → Q r) : Ok x Q := by
  obtain ⟨r, h1, h2⟩ := h
  exact ⟨r, h1, k r h2⟩
theorem Ok.bind {α β : Type} {x : Option α} {f : α → Option β} {P : α → Prop} {Q : β → Prop} (h : Ok x P) (k : ∀ r, P r → Ok (f r) Q) : Ok (x.bind f) Q := by
  obtain ⟨r, h1, h2⟩ := h
  subst h1
  exact k r h2
theorem Ok.eq {α : Type} {x : Option α} {r : α} (h : Ok x fun r' => r' = r) : x = some r := by
  obtain ⟨r', h1, rfl⟩ := h
  exact h1

/-! ### Loops -/

theorem loop_inv {f : St → Option (Out × St)} (Inv : Nat → St → Prop) (Post : Out × St → Prop)
    (step : ∀ n s, Inv n s → (∃ s' m, m < n ∧ f s = some (.normal, s') ∧ Inv m s') ∨ (∃ o s', f s = some (o, s') ∧ o ≠ .normal ∧ Post (o, s'))) :
    ∀ n s, Inv n s → ∃ r, loopW f s = some r ∧ Post r := by
  intro n
  induction n using Nat.strongRecOn with
  | _ n ih =>
    intro s hI
    rcases step n s hI with ⟨s', m, hm, h1, h2⟩ | ⟨o, s', h1, h2, h3⟩
    · obtain ⟨r, h3, h4⟩ := ih m hm s' h2
      exact ⟨r, loopW_step h1 h3, h4⟩
    · cases o with
      | normal => exact absurd rfl h2
      | exit i => exact ⟨_, loopW_exit h1, h3⟩
      | ret => exact ⟨_, loopW_ret h1, h3⟩

/-- What must be so behind a round. -/
def Nxt (Inv : Nat → St → Prop) (Post : Out × St → Prop) (n : Nat) (r : Out × St) : Prop := (r.1 = .normal ∧ ∃ m, m < n ∧ Inv m r.2) ∨ (r.1 ≠ .normal ∧ Post r)

theorem nxt_n {Inv : Nat → St → Prop} {Post : Out × St → Prop} {n : Nat} {s : St} (m : Nat) (hm : m < n) (h : Inv m s) : Nxt Inv Post n (.normal, s) := .inl ⟨rfl, m, hm, h⟩
theorem nxt_e {Inv : Nat → St → Prop} {Post : Out × St → Prop} {n i : Nat} {s : St} (h : Post (.exit i, s)) : Nxt Inv Post n (.exit i, s) := .inr ⟨by simp, h⟩
theorem nxt_r {Inv : Nat → St → Prop} {Post : Out × St → Prop} {n : Nat} {s : St} (h : Post (.ret, s)) : Nxt Inv Post n (.ret, s) := .inr ⟨by simp, h⟩

theorem loop_go {f : St → Option (Out × St)} (Inv : Nat → St → Prop) (Post : Out × St → Prop) (step : ∀ n s, Inv n s → ∃ r, f s = some r ∧ Nxt Inv Post n r) {n : Nat} {s : St} (h : Inv n s) : ∃ r, loopW f s = some r ∧ Post r := by
  refine loop_inv Inv Post (fun n s hI => ?_) n s h
  obtain ⟨⟨o, s'⟩, h1, h2⟩ := step n s hI
  rcases h2 with ⟨h2, m, h3, h4⟩ | ⟨h2, h3⟩
  · simp only at h2; subst h2; exact .inl ⟨s', m, h3, h1, h4⟩
  · exact .inr ⟨o, s', h1, h2, h3⟩

/-- A loop and what comes behind it. -/
theorem loop_ok {f : St → Option (Out × St)} (Inv : Nat → St → Prop) (Post : Out × St → Prop) {n : Nat} {s : St} (h : Inv n s) (step : ∀ n s, Inv n s → Ok (f s) (Nxt Inv Post n)) {R : Type} {K : Out × St → Option R} {Q : R → Prop} (k : ∀ r, Post r → Ok (K r) Q) :
    Ok ((loopW f s).bind K) Q := Ok.bind (loop_go Inv Post step h) k

end Go.Proofs.Ytmhamnnfcmkcfaa

/- Code with one register fewer, plainly. -/
namespace Go.Proofs.Ytmhamnnfcmkcfaa

def allS (x : Ins) : List Int := readsS x ++ (if (writesS x).2 then [(writesS x).1] else [])
def lessC (c : Cod) : Cod := { c with regs := c.regs - 1 }
def lastS (c : Cod) (l : List Ins) : Bool := l.any fun x => (allS x).any (· == c.regs - 1)

theorem kd_not1 (op : Int) : kd1 op ≠ 1 ∧ kd2 op ≠ 1 := by
  unfold kd1 kd2 shp
  split
  · rename_i h
    simp only [inR, decide_eq_true_eq] at h
    obtain ⟨n, rfl⟩ : ∃ n : Nat, op = n := ⟨op.toNat, by omega⟩
    have hn : n < 13 := by omega
    have := List.all_eq_true.1 (show (List.range 13).all (fun n => let t := (tbl[n]?).getD ([], 0, 0, 0); decide (t.2.2.1 ≠ 1) && decide (t.2.2.2 ≠ 1)) = true by decide) n (List.mem_range.2 hn)
    simp only [Bool.and_eq_true, decide_eq_true_eq] at this
    simp only [Int.toNat_natCast]
    exact this
  · simp

theorem may_fits {x : Ins} {c : Cod} (h : mayS x c = true) : inR x.op = true ∧ (0 ≤ x.a ∧ x.a < limS c (kd0 x.op)) ∧ (0 ≤ x.b ∧ x.b < limS c (kd1 x.op)) ∧ (0 ≤ x.c ∧ x.c < limS c (kd2 x.op)) := by
  simp only [mayS, fitS, Bool.and_eq_true, decide_eq_true_eq] at h
  exact ⟨h.1.1.1.1, h.1.1.1.2, h.1.1.2, h.1.2⟩

theorem allS_in {x : Ins} {c : Cod} (h : mayS x c = true) : ∀ r ∈ allS x, 0 ≤ r ∧ r < c.regs := by
  obtain ⟨-, h0, h1, h2⟩ := may_fits h
  intro r hr
  simp only [allS, readsS, writesS, List.mem_append] at hr
  unfold limS at h0 h1 h2
  rcases hr with ((hr | hr) | hr) | hr
  · by_cases q : kd0 x.op = 2
    · simp only [q, if_true, List.mem_singleton] at hr; subst hr; simpa [q] using h0
    · simp [q] at hr
  · by_cases q : kd1 x.op = 2
    · simp only [q, if_true, List.mem_singleton] at hr; subst hr; simpa [q] using h1
    · simp [q] at hr
  · by_cases q : kd2 x.op = 2
    · simp only [q, if_true, List.mem_singleton] at hr; subst hr; simpa [q] using h2
    · simp [q] at hr
  · by_cases q : kd0 x.op = 1
    · simp only [q, if_true, List.mem_singleton] at hr; subst hr; simpa [q] using h0
    · simp [q] at hr

theorem kd_places {x : Ins} (h : inR x.op = true) : (x.op = 10 → kd0 x.op = 4) ∧ (x.op = 11 ∨ x.op = 12 → kd2 x.op = 4) := by
  constructor
  · intro q; rw [q]; rfl
  · rintro (q | q) <;> rw [q] <;> rfl

theorem nextS_in {x : Ins} {c : Cod} (h : mayS x c = true) {i : Nat} (hi : i < c.l.length) (hlen : c.l.length ≤ 100000) (hlast : i + 1 = c.l.length → x.op = 0 ∨ x.op = 10) : ∀ n ∈ nextS x i, 0 ≤ n ∧ n < c.l.length := by
  obtain ⟨hr, h0, -, h2⟩ := may_fits h
  obtain ⟨k1, k2⟩ := kd_places hr
  have w : IntKind.i64.wrap ((i : Int) + 1) = (i : Int) + 1 := wrapI (by omega) (by omega)
  intro n hn
  unfold nextS at hn
  split at hn
  · simp at hn
  · rename_i q0
    simp only [hr, not_or, Bool.true_eq_false, not_false_eq_true, true_and] at q0
    split at hn
    · rename_i q1
      simp only [List.mem_singleton] at hn
      subst hn
      simpa [limS, k1 q1] using h0
    · rename_i q1
      have hi2 : i + 1 < c.l.length := by
        rcases Nat.lt_or_ge (i + 1) c.l.length with g | g
        · exact g
        · exact absurd (hlast (by omega)) (by simp [q0, q1])
      split at hn
      · rename_i q2
        simp only [List.mem_cons, List.not_mem_nil, or_false] at hn
        rcases hn with rfl | rfl
        · rw [w]; omega
        · simpa [limS, k2 q2] using h2
      · simp only [List.mem_singleton] at hn
        subst hn
        rw [w]; omega

theorem fit_less (c : Cod) (k f : Int) : fitS (lessC c) k f = (fitS c k f && !(decide (k = 1 ∨ k = 2) && (f == c.regs - 1))) := by
  rw [Bool.eq_iff_iff]
  by_cases hk : k = 1 ∨ k = 2
  · simp only [fitS, limS, hk, if_true, lessC, Bool.and_eq_true, decide_eq_true_eq, Bool.not_eq_true', decide_true, Bool.true_and, beq_eq_false_iff_ne]
    omega
  · simp only [fitS, limS, hk, if_false, lessC, decide_false, Bool.false_and, Bool.not_false, Bool.and_true]

theorem may_less {x : Ins} {c : Cod} (h : mayS x c = true) : mayS x (lessC c) = !((allS x).any (· == c.regs - 1)) := by
  have hsplit : mayS x (lessC c) = (mayS x c && (!(decide (kd0 x.op = 1 ∨ kd0 x.op = 2) && (x.a == c.regs - 1)) && !(decide (kd1 x.op = 1 ∨ kd1 x.op = 2) && (x.b == c.regs - 1)) && !(decide (kd2 x.op = 1 ∨ kd2 x.op = 2) && (x.c == c.regs - 1)))) := by
    unfold mayS
    simp only [fit_less]
    ac_rfl
  obtain ⟨n1, n2⟩ := kd_not1 x.op
  rw [hsplit, h, Bool.true_and]
  simp only [allS, readsS, writesS, n1, n2, false_or, List.any_append]
  by_cases q0 : kd0 x.op = 2
  · have q1 : kd0 x.op ≠ 1 := by omega
    simp only [q0, show ¬ (2 : Int) = 1 by omega, false_or, decide_true, Bool.true_and, if_true, if_false, Bool.false_eq_true, List.any_cons, List.any_nil, Bool.or_false, Bool.not_or]
    by_cases q2 : kd1 x.op = 2 <;> by_cases q3 : kd2 x.op = 2 <;> simp [q2, q3]
  · by_cases q1 : kd0 x.op = 1
    · simp only [q1, show ¬ (1 : Int) = 2 by omega, true_or, decide_true, Bool.true_and, if_true, if_false, List.any_cons, List.any_nil, Bool.or_false, Bool.not_or]
      by_cases q2 : kd1 x.op = 2 <;> by_cases q3 : kd2 x.op = 2 <;> simp only [q2, q3, decide_true, decide_false, Bool.true_and, Bool.false_and, if_true, if_false, List.any_cons, List.any_nil, Bool.or_false, Bool.not_or, Bool.not_false, Bool.and_true, n1, or_true, or_self] <;> ac_rfl
    · simp only [q0, q1, or_self, decide_false, Bool.false_and, Bool.not_false, Bool.true_and, if_false, Bool.false_eq_true, List.any_nil, Bool.or_false, Bool.false_or, Bool.not_or]
      by_cases q2 : kd1 x.op = 2 <;> by_cases q3 : kd2 x.op = 2 <;> simp [q2, q3]

theorem less_law {c : Cod} (h : checkOk c = true) : decide (checkC (lessC c) = 0) = (!(lastS c c.l) && decide (0 ≤ c.regs - 1)) := by
  have h' := h
  simp only [checkOk, Bool.and_eq_true] at h'
  obtain ⟨⟨⟨⟨hh, h1⟩, h2⟩, hm⟩, h3⟩ := h'
  have e0 : decide (checkC (lessC c) = 0) = checkOk (lessC c) := by
    unfold checkC; cases checkOk (lessC c) <;> simp
  have e1 : (lessC c).l = c.l := rfl
  have e2 : c.l.all (mayS · (lessC c)) = !(lastS c c.l) := by
    unfold lastS
    rw [Bool.eq_iff_iff]
    simp only [List.all_eq_true, Bool.not_eq_true', List.any_eq_false (p := fun x => (allS x).any (· == c.regs - 1))]
    constructor
    · intro q x hx
      have := q x hx
      rw [may_less (List.all_eq_true.1 hm x hx), Bool.not_eq_true'] at this
      rw [this]; exact Bool.false_ne_true
    · intro q x hx
      rw [may_less (List.all_eq_true.1 hm x hx), Bool.not_eq_true']
      exact Bool.eq_false_iff.2 (q x hx)
  rw [e0]
  have e3 : headOk (lessC c) = decide (0 ≤ c.regs - 1) := by
    have r1 : (lessC c).regs = c.regs - 1 := rfl
    have r2 : (lessC c).arrs = c.arrs := rfl
    have r3 : (lessC c).inn = c.inn := rfl
    rw [Bool.eq_iff_iff]
    simp only [headOk, r1, r2, r3, Bool.and_eq_true, decide_eq_true_eq] at hh ⊢
    constructor
    · intro q; omega
    · intro q; refine ⟨⟨⟨⟨⟨?_, ?_⟩, ?_⟩, ?_⟩, ?_⟩, ?_⟩ <;> omega
  simp only [checkOk, e1, e2, e3, h1, h2, lastOp, Bool.and_true]
  have h3' : (decide ((c.l.getLast?.map (·.op)).getD 0 = 0) || decide ((c.l.getLast?.map (·.op)).getD 0 = 10)) = true := h3
  rw [h3', Bool.and_true, Bool.and_comm]

end Go.Proofs.Ytmhamnnfcmkcfaa
