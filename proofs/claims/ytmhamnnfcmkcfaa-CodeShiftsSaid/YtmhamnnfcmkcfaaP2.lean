/- Maps. -/
import Derived.Test.YtmhamnnfcmkcfaaP1
import Derived.MapKept
import Derived.Carry
import Derived.Tactics
import Derived.Scope
import Derived.Orders
namespace Go.Proofs.Ytmhamnnfcmkcfaa
open Go.RowKit

section
variable {P : Program} {T : Tab} {B : Nat} {G : Gh} {h : Heap} {w : World}

theorem Inv.allocMap (hI : Inv B G h w) :
    Inv B (G.put h.length ⟨w.heap.size, 0, 0, 0⟩) (h ++ [.map []]) (w.alloc (.map #[] 0)) ∧
    Mv B G w (G.put h.length ⟨w.heap.size, 0, 0, 0⟩) (w.alloc (.map #[] 0)) := by
  have hnone := hI.fresh h.length (Nat.le_refl _)
  have hle := Gh.put_le (L := ⟨w.heap.size, 0, 0, 0⟩) hnone
  have hsz : (w.alloc (.map #[] 0)).heap.size = w.heap.size + 1 := by simp
  have hold : ∀ (id : Nat) (x : Ent), (h ++ [Ent.map []])[id]? = some x → (id < h.length ∧ id ≠ h.length ∧ h[id]? = some x) ∨ (id = h.length ∧ x = .map []) := by
    intro id x hx
    rw [List.getElem?_append] at hx
    split at hx
    · exact .inl ⟨by assumption, by omega, hx⟩
    · rename_i q
      have : id - h.length = 0 := by
        rcases Nat.lt_or_ge (id - h.length) 1 with q2 | q2
        · omega
        · rw [List.getElem?_eq_none (by simpa using q2)] at hx; cases hx
      rw [this] at hx
      simp at hx
      exact .inr ⟨by omega, hx.symm⟩
  have hfz : ∀ b o, b < w.heap.size → (w.alloc (.map #[] 0)).frozen? ⟨b, o, none⟩ = w.frozen? ⟨b, o, none⟩ := fun b o hb => World.frozen?_of_block (Below.heap_alloc _ _ _ hb)
  refine ⟨⟨?_, ?_, ?_, ?_, ?_, ?_, ?_, ?_⟩, ?_⟩
  · rw [hsz]; have := hI.base; omega
  · intro id L hL
    rw [hsz]
    by_cases q : id = h.length
    · subst q; rw [Gh.put_same] at hL; cases hL; exact Nat.lt_succ_self _
    · rw [Gh.put_other _ _ q] at hL; have := hI.blk _ _ hL; omega
  · intro id hid
    simp at hid
    rw [Gh.put_other _ _ (by omega)]
    exact hI.fresh _ (by omega)
  · intro b o v hv
    exact cell_alloc (hI.set b o v hv) _
  · intro id esz' cs' wr hx
    rcases hold id _ hx with ⟨h1, h2, h3⟩ | ⟨rfl, h2⟩
    · obtain ⟨L, hL, e1, e2, e3, e4⟩ := hI.cells _ _ _ _ h3
      refine ⟨L, by rw [Gh.put_other _ _ h2]; exact hL, e1, e2, ?_, ?_⟩
      · intro j c hj
        obtain ⟨g1, v, g2, g3, g4⟩ := e3 j c hj
        exact ⟨g1, v, cell_alloc g2 _, g3.mono hle, g4⟩
      · intro hw
        obtain ⟨g1, g2⟩ := e4 hw
        refine ⟨g1, fun j hj => ?_⟩
        obtain ⟨k1, k2, k3⟩ := g2 j hj
        obtain ⟨u, hu⟩ := Option.isSome_iff_exists.1 k1
        exact ⟨by rw [cell_alloc hu]; rfl, by rw [hfz _ _ (cell_lt hu)]; exact k2, k3⟩
    · cases h2
  · intro id id' e1 e2 c1 c2 L L' h1 h2 hne hL hL'
    rcases hold id _ h1 with ⟨a1, a2, a3⟩ | ⟨_, a2⟩
    · rcases hold id' _ h2 with ⟨b1, b2, b3⟩ | ⟨_, b2⟩
      · rw [Gh.put_other _ _ a2] at hL
        rw [Gh.put_other _ _ b2] at hL'
        exact hI.disj _ _ _ _ _ _ _ _ a3 b3 hne hL hL'
      · cases b2
    · cases a2
  · intro id es hx
    rcases hold id _ hx with ⟨a1, a2, a3⟩ | ⟨rfl, a2⟩
    · obtain ⟨L, ces, clock, hL, hB, hb, hl, hr⟩ := hI.maps _ _ a3
      refine ⟨L, ces, clock, by rw [Gh.put_other _ _ a2]; exact hL, hB, ?_, hl, fun j s v en q1 q2 => ?_⟩
      · rw [Below.heap_alloc _ _ _ (hI.blk _ _ hL)]; exact hb
      · obtain ⟨k1, k2, k3⟩ := hr j s v en q1 q2
        exact ⟨k1, k2, k3.mono hle⟩
    · cases a2
      refine ⟨_, #[], 0, Gh.put_same _ _ _, hI.base, ?_, rfl, fun j s v e q => by simp at q⟩
      show (w.heap.push _)[w.heap.size]? = _
      simp
  · intro id id' es es' L L' h1 h2 hne hL hL'
    rcases hold id _ h1 with ⟨a1, a2, a3⟩ | ⟨rfl, a2⟩
    · rw [Gh.put_other _ _ a2] at hL
      rcases hold id' _ h2 with ⟨b1, b2, b3⟩ | ⟨rfl, b2⟩
      · rw [Gh.put_other _ _ b2] at hL'
        exact hI.mdisj _ _ _ _ _ _ a3 b3 hne hL hL'
      · rw [Gh.put_same] at hL'; cases hL'
        have := hI.blk _ _ hL
        exact Nat.ne_of_lt this
    · rw [Gh.put_same] at hL; cases hL
      rcases hold id' _ h2 with ⟨b1, b2, b3⟩ | ⟨rfl, b2⟩
      · rw [Gh.put_other _ _ b2] at hL'
        have := hI.blk _ _ hL'
        exact (Nat.ne_of_lt this).symm
      · exact absurd rfl hne
  · exact ⟨hle, (Below.refl B w).alloc hI.base _, fun _ _ _ q1 q2 => by rw [show G.S _ _ = _ from q1] at q2; cases q2⟩

/-- A map's entries. -/
def RepM (G : Gh) (es : List (SV × AV)) (ces : List MapEntry) : Prop := es.length = ces.length ∧
  ∀ (j : Nat) (s : SV) (v : AV) (e : MapEntry), es[j]? = some (s, v) → ces[j]? = some e → RepS G.S s e.key ∧ cell1 v = true ∧ Rep G v e.val

theorem RepM.uncons {G : Gh} {x : SV × AV} {es : List (SV × AV)} {ces : List MapEntry} (hm : RepM G (x :: es) ces) : ∃ e r, ces = e :: r ∧ (RepS G.S x.1 e.key ∧ cell1 x.2 = true ∧ Rep G x.2 e.val) ∧ RepM G es r := by
  cases ces with
  | nil => have := hm.1; simp at this
  | cons e r => exact ⟨e, r, rfl, hm.2 0 x.1 x.2 e rfl rfl, by have := hm.1; simpa using this, fun j s v e' q1 q2 => hm.2 (j + 1) s v e' (by simpa using q1) (by simpa using q2)⟩

theorem Inv.setMap (hI : Inv B G h w) {id : Nat} {es es' : List (SV × AV)} {L : Loc} (hid : h[id]? = some (.map es)) (hL : G.loc id = some L) {ces' : Array MapEntry} (clock' : Nat) (hm : RepM G es' ces'.toList) :
    Inv B G (h.set id (.map es')) { w with heap := w.heap.setIfInBounds L.b (.map ces' clock') } ∧ Mv B G w G { w with heap := w.heap.setIfInBounds L.b (.map ces' clock') } := by
  obtain ⟨L', ces, clock, hL', hB, hb, hl, hr⟩ := hI.maps _ _ hid
  rw [hL] at hL'
  cases hL'
  have hbl : ∀ k, k ≠ L.b → (w.heap.setIfInBounds L.b (.map ces' clock'))[k]? = w.heap[k]? := fun k hk => Array.getElem?_setIfInBounds_ne (Ne.symm hk)
  have hcell : ∀ b o v, w.cell? ⟨b, o, none⟩ = some v → ({ w with heap := w.heap.setIfInBounds L.b (.map ces' clock') } : World).cell? ⟨b, o, none⟩ = some v ∧ b ≠ L.b := by
    intro b o v hv
    have hne : b ≠ L.b := by
      rintro rfl
      simp [World.cell?, hb] at hv
    refine ⟨?_, hne⟩
    rw [World.cell?_of_block (w := w) (a := ⟨b, o, none⟩) (hbl b hne)]
    exact hv
  have hold : ∀ (i : Nat) (x : Ent), (h.set id (.map es'))[i]? = some x → (i = id ∧ x = .map es') ∨ (i ≠ id ∧ h[i]? = some x) := by
    intro i x hx
    rw [List.getElem?_set] at hx
    split at hx
    · split at hx
      · cases hx; exact .inl ⟨by omega, rfl⟩
      · cases hx
    · exact .inr ⟨by omega, hx⟩
  refine ⟨⟨by simpa using hI.base, fun i L2 h2 => by simpa using hI.blk i L2 h2, fun i hi => hI.fresh i (by simpa using hi), fun b o v hv => (hcell _ _ _ (hI.set b o v hv)).1, ?_, ?_, ?_, ?_⟩,
    ⟨GLe.refl G, ⟨rfl, rfl, rfl, by simp, fun k hk => hbl k (by omega)⟩, fun _ _ _ q1 q2 => by rw [q1] at q2; cases q2⟩⟩
  · intro i esz cs wr hx
    rcases hold _ _ hx with ⟨_, q⟩ | ⟨hne, q⟩
    · cases q
    · obtain ⟨L2, g1, g2, g3, g4, g5⟩ := hI.cells _ _ _ _ q
      refine ⟨L2, g1, g2, g3, fun j c hj => ?_, fun hw => ⟨(g5 hw).1, fun j hj => ?_⟩⟩
      · obtain ⟨k1, v, k2, k3, k4⟩ := g4 j c hj
        exact ⟨k1, v, (hcell _ _ _ k2).1, k3, k4⟩
      · obtain ⟨k1, k2, k3⟩ := (g5 hw).2 j hj
        obtain ⟨u, hu⟩ := Option.isSome_iff_exists.1 k1
        refine ⟨by rw [(hcell _ _ _ hu).1]; rfl, ?_, k3⟩
        rw [World.frozen?_of_block (w := w) (a := ⟨L2.b, L2.o + j, none⟩) (hbl _ (hcell _ _ _ hu).2)]
        exact k2
  · intro i i' x x' c c' L1 L2 q1 q2 hne g1 g2
    rcases hold _ _ q1 with ⟨_, p1⟩ | ⟨n1, p1⟩
    · cases p1
    · rcases hold _ _ q2 with ⟨_, p2⟩ | ⟨n2, p2⟩
      · cases p2
      · exact hI.disj _ _ _ _ _ _ _ _ p1 p2 hne g1 g2
  · intro i es2 hx
    rcases hold _ _ hx with ⟨rfl, q⟩ | ⟨hne, q⟩
    · cases q
      refine ⟨L, ces', clock', hL, hB, ?_, by simpa using hm.1, fun j s v e q1 q2 => hm.2 j s v e q1 (by simpa using q2)⟩
      have := hI.blk _ _ hL
      simp [this]
    · obtain ⟨L2, ces2, clock2, g1, g2, g3, g4, g5⟩ := hI.maps _ _ q
      refine ⟨L2, ces2, clock2, g1, g2, ?_, g4, g5⟩
      have := hI.mdisj _ _ _ _ _ _ q hid hne g1 hL
      rw [← g3]
      exact hbl _ this
  · intro i i' e1 e2 L1 L2 q1 q2 hne g1 g2
    have m1 : ∃ e, h[i]? = some (.map e) := by
      rcases hold _ _ q1 with ⟨rfl, _⟩ | ⟨_, p⟩
      · exact ⟨_, hid⟩
      · exact ⟨_, p⟩
    have m2 : ∃ e, h[i']? = some (.map e) := by
      rcases hold _ _ q2 with ⟨rfl, _⟩ | ⟨_, p⟩
      · exact ⟨_, hid⟩
      · exact ⟨_, p⟩
    obtain ⟨_, m1⟩ := m1
    obtain ⟨_, m2⟩ := m2
    exact hI.mdisj _ _ _ _ _ _ m1 m2 hne g1 g2

/-- A map's key's kind, as the model has it. -/
def keyDesc : EK → TypeDesc
  | .bool => .bool
  | .int k => .int k
  | .str => .string

theorem keyEq_sound {e : EK} {a b : SV} {ca cb : Value} {t : Bool} (ha : RepS G.S a ca) (hb : RepS G.S b cb) (q : keyEq e a b = some t) :
    Instr.sameNow (keyDesc e) ca cb = some t ∧ MapKept.IsKey (keyDesc e) ca ∧ (t = true → Instr.sameBits 10000 cb ca = true) := by
  unfold keyEq at q
  split at q
  · split at q
    · rename_i hk
      obtain ⟨rfl, rfl⟩ := hk
      cases q
      cases ha; cases hb
      refine ⟨by simp [Instr.sameNow, keyDesc], by simp [MapKept.IsKey, keyDesc], fun h => ?_⟩
      have := eq_of_beq h
      simp [Instr.sameBits, this]
    · cases q
  · cases q
    cases ha; cases hb
    refine ⟨by simp [Instr.sameNow, keyDesc, ba_beq], by simp [MapKept.IsKey, keyDesc], fun h => ?_⟩
    have := eq_of_beq h
    subst this
    simp [Instr.sameBits, ba_beq]
  · cases q

theorem find_sound {e : EK} {key : SV} {ck : Value} (hk : RepS G.S key ck) : ∀ (es : List (SV × AV)) (ces : List MapEntry) (i : Nat) (r : Option AV), RepM G es ces → mapFind e key es = some r →
    (r = none ∧ Instr.findNow (keyDesc e) ck ces i = some none) ∨ ∃ v j cv, r = some v ∧ Instr.findNow (keyDesc e) ck ces i = some (some (j, cv)) ∧ Rep G v cv
  | [], ces, i, r, hm, q => by
    have : ces = [] := List.eq_nil_of_length_eq_zero hm.1.symm
    subst this
    simp only [mapFind, Option.some.injEq] at q
    exact .inl ⟨q.symm, rfl⟩
  | (k, v) :: es, ces, i, r, hm, q => by
    obtain ⟨en, rest, rfl, ⟨h1, h2, h3⟩, hm'⟩ := hm.uncons
    simp only [mapFind] at q
    obtain ⟨t, ht, q⟩ := Option.bind_eq_some_iff.1 q
    obtain ⟨s1, -, -⟩ := keyEq_sound hk h1 ht
    cases t with
    | true =>
      simp only [if_true, Option.some.injEq] at q
      exact .inr ⟨v, i, en.val, q.symm, by simp [Instr.findNow, s1], h3⟩
    | false =>
      simp only [Bool.false_eq_true, if_false] at q
      rcases find_sound hk es rest (i + 1) r hm' q with ⟨a1, a2⟩ | ⟨v', j, cv, a1, a2, a3⟩
      · exact .inl ⟨a1, by simp [Instr.findNow, s1, a2]⟩
      · exact .inr ⟨v', j, cv, a1, by simp [Instr.findNow, s1, a2], a3⟩

theorem put_sound {e : EK} {key : SV} {ck cv : Value} {v : AV} (hk : RepS G.S key ck) (hv : Rep G v cv) (h1 : cell1 v = true) (born : Nat) : ∀ (es : List (SV × AV)) (ces : List MapEntry) (i : Nat) (r : List (SV × AV)), RepM G es ces → mapPutIn e key v es = some r →
    MapKept.IsKey (keyDesc e) ck ∧
    ((Instr.findNow (keyDesc e) ck ces i = some none ∧ RepM G r (ces ++ [{ key := ck, val := cv, born := born }])) ∨
     ∃ j u en, Instr.findNow (keyDesc e) ck ces i = some (some (i + j, u)) ∧ ces[j]? = some en ∧ Instr.sameBits 10000 en.key ck = true ∧ RepM G r (ces.set j { en with key := ck, val := cv }))
  | [], ces, i, r, hm, q => by
    have : ces = [] := List.eq_nil_of_length_eq_zero hm.1.symm
    subst this
    simp only [mapPutIn] at q
    obtain ⟨t, ht, q⟩ := Option.bind_eq_some_iff.1 q
    cases q
    obtain ⟨-, s2, -⟩ := keyEq_sound hk hk ht
    refine ⟨s2, .inl ⟨rfl, rfl, fun j s u en q1 q2 => ?_⟩⟩
    rcases j with _ | j
    · simp at q1 q2
      obtain ⟨rfl, rfl⟩ := q1
      subst q2
      exact ⟨hk, h1, hv⟩
    · simp at q1
  | (k, u) :: es, ces, i, r, hm, q => by
    obtain ⟨en, rest, rfl, ⟨g1, g2, g3⟩, hm'⟩ := hm.uncons
    simp only [mapPutIn] at q
    obtain ⟨t, ht, q⟩ := Option.bind_eq_some_iff.1 q
    obtain ⟨s1, s2, s3⟩ := keyEq_sound hk g1 ht
    refine ⟨s2, ?_⟩
    cases t with
    | true =>
      simp only [if_true, Option.some.injEq] at q
      subst q
      refine .inr ⟨0, en.val, en, by simp [Instr.findNow, s1], rfl, s3 rfl, by simpa using hm'.1, fun j s u' en' q1 q2 => ?_⟩
      rcases j with _ | j
      · simp at q1 q2
        obtain ⟨rfl, rfl⟩ := q1
        subst q2
        exact ⟨hk, h1, hv⟩
      · exact hm'.2 j s u' en' (by simpa using q1) (by simpa using q2)
    | false =>
      simp only [Bool.false_eq_true, if_false] at q
      obtain ⟨r', hr', q⟩ := Option.bind_eq_some_iff.1 q
      cases q
      have lift : ∀ (cs : List MapEntry), RepM G r' cs → RepM G ((k, u) :: r') (en :: cs) := fun cs hc => ⟨by simpa using hc.1, fun j s u' en' q1 q2 => by
        rcases j with _ | j
        · simp at q1 q2
          obtain ⟨rfl, rfl⟩ := q1
          subst q2
          exact ⟨g1, g2, g3⟩
        · exact hc.2 j s u' en' (by simpa using q1) (by simpa using q2)⟩
      obtain ⟨-, ⟨a1, a2⟩ | ⟨j, u', en', a1, a2, a3, a4⟩⟩ := put_sound hk hv h1 born es rest (i + 1) r' hm' hr'
      · exact .inl ⟨by simp [Instr.findNow, s1, a1], lift _ a2⟩
      · refine .inr ⟨j + 1, u', en', ?_, by simpa using a2, a3, lift _ a4⟩
        simp [Instr.findNow, s1, a1]
        omega

theorem mapPut_sound (hI : Inv B G h w) {t : Nat} {k : K} (hk : KindOk P t k) {m key v r : AV} {cm ck cv : Value} {h' : Heap} (hm : Rep G m cm) (hkey : Rep G key ck) (hv : Rep G v cv) (e : mapPut k m key v h = some (r, h')) :
    r = .undef ∧ ∃ w', (Instr.mapUpdate t cm ck cv).run P w = .ok () w' ∧ Mv B G w G w' ∧ Inv B G h' w' := by
  unfold mapPut at e
  split at e
  · rename_i ek el id key
    split at e
    · rename_i es hid
      split at e
      · rename_i h1
        obtain ⟨es', he, e⟩ := Option.bind_eq_some_iff.1 e
        cases e
        refine ⟨rfl, ?_⟩
        cases hm with | map _ L hL =>
        cases hkey with | sv hkey =>
        obtain ⟨kt, hu, hkt, -⟩ := hk
        have hd : P.underlying kt = some (keyDesc ek) := by cases ek <;> exact hkt
        obtain ⟨L', ces, clock, hL', hB, hb, hl, hr⟩ := hI.maps _ _ hid
        rw [hL] at hL'
        cases hL'
        have hM : RepM G es ces.toList := ⟨by simpa using hl, fun j s u en q1 q2 => hr j s u en q1 (by simpa using q2)⟩
        obtain ⟨hik, ⟨a1, a2⟩ | ⟨j, u, en, a1, a2, a3, a4⟩⟩ := put_sound hkey hv h1 clock es ces.toList 0 es' hM he
        · obtain ⟨k1, k2⟩ := hI.setMap (ces' := ces.push { key := ck, val := cv, born := clock }) hid hL (clock + 1) (by simpa using a2)
          refine ⟨_, ?_, k2, k1⟩
          simp [Instr.mapUpdate, run_underlying hu, MapKept.run_getObj_map hb, MapKept.run_checkKey hd hik, MapKept.run_findKey hd a1, MapKept.run_setObj_map _ hb]
        · have hset : ces.modify j (fun e => { e with key := ck, val := cv }) = (ces.toList.set j { en with key := ck, val := cv }).toArray := by
            apply Array.ext_getElem?
            intro q
            have hjl : j < ces.toList.length := (List.getElem?_eq_some_iff.1 a2).1
            rw [Array.getElem?_modify]
            by_cases hq : j = q
            · subst hq
              have a2' : ces[j]? = some en := by simpa using a2
              have hjl' : j < ces.size := by simpa using hjl
              rw [if_pos rfl, a2']
              simp [hjl']
            · rw [if_neg hq]
              simp [hq]
          obtain ⟨k1, k2⟩ := hI.setMap (ces' := ces.modify j (fun e => { e with key := ck, val := cv })) hid hL clock (by rw [hset]; exact a4)
          refine ⟨_, ?_, k2, k1⟩
          rw [Nat.zero_add] at a1
          have a2' : ces[j]? = some en := by simpa using a2
          simp [Instr.mapUpdate, run_underlying hu, MapKept.run_getObj_map hb, MapKept.run_checkKey hd hik, MapKept.run_findKey hd a1, MapKept.run_setObj_map _ hb, a2', Instr.keyThatStays, a3]
      · cases e
    · cases e
  · cases e

theorem mapGet_sound (hT : TabOk P T) (hI : Inv B G h w) {t : Nat} {k : K} (hk : KindOk P t k) {m key r : AV} {ok : Bool} {cm ck : Value} {h' : Heap} (hm : Rep G m cm) (hkey : Rep G key ck)
    (e : mapGet k (zElem T k) m key ok h = some (r, h')) :
    GivesV B G w ((Instr.lookup t cm ck ok).run P w) r h' := by
  unfold mapGet at e
  split at e
  · rename_i ek el id key
    split at e
    · rename_i es hid
      obtain ⟨b, hb0, e⟩ := Option.bind_eq_some_iff.1 e
      obtain ⟨r0, hr0, e⟩ := Option.bind_eq_some_iff.1 e
      cases hm with | map _ L hL =>
      cases hkey with | sv hkey =>
      obtain ⟨kt, hu, hkt, ie, zv, hie, hzv, hone⟩ := hk
      have hd : P.underlying kt = some (keyDesc ek) := by cases ek <;> exact hkt
      obtain ⟨L', ces, clock, hL', hB, hb, hl, hr⟩ := hI.maps _ _ hid
      rw [hL] at hL'
      cases hL'
      have hM : RepM G es ces.toList := ⟨by simpa using hl, fun j s u en q1 q2 => hr j s u en q1 (by simpa using q2)⟩
      obtain ⟨-, hik, -⟩ := keyEq_sound hkey hkey hb0
      rcases find_sound hkey es ces.toList 0 r0 hM hr0 with ⟨rfl, a1⟩ | ⟨v, j, cv, rfl, a1, a2⟩
      · simp only [zElem] at e
        rcases hz : T.zero el with _ | z
        · rw [hz] at e; cases e
        rw [hz] at e
        rcases z with _ | ⟨d, _ | ⟨d2, z⟩⟩
        · cases e
        · cases e
          obtain ⟨i, zv', hi, hzv', -, -, -, hrep⟩ := hT.zero _ _ hz
          rw [hie] at hi
          cases hi
          rw [hzv] at hzv'
          cases hzv'
          have hd' := hrep G hone d rfl
          have hrun : (Instr.lookup t (.map (some L.b)) ck ok).run P w = .ok (if ok then .tuple #[zv, .bool false] else zv) w := by
            simp [Instr.lookup, run_underlying hu, MapKept.run_getObj_map hb, MapKept.run_checkKey hd hik, MapKept.run_findKey hd a1, zeroValue, typeInfo, hie, hzv]
          refine ⟨_, w, G, hrun, Mv.refl B G w, hI, ?_⟩
          cases ok
          · exact hd'
          · have := (RepL.nil G).cons (Rep.sv (G := G) (.bool false))
            have h2 := this.cons hd'
            exact .tuple _ [zv, .bool false] h2.1 h2.2
        · cases e
      · simp only at e
        cases e
        have hrun : (Instr.lookup t (.map (some L.b)) ck ok).run P w = .ok (if ok then .tuple #[cv, .bool true] else cv) w := by
          simp [Instr.lookup, run_underlying hu, MapKept.run_getObj_map hb, MapKept.run_checkKey hd hik, MapKept.run_findKey hd a1]
        refine ⟨_, w, G, hrun, Mv.refl B G w, hI, ?_⟩
        cases ok
        · exact a2
        · have := (RepL.nil G).cons (Rep.sv (G := G) (.bool true))
          have h2 := this.cons a2
          exact .tuple _ [cv, .bool true] h2.1 h2.2
    · cases e
  · cases e

end
end Go.Proofs.Ytmhamnnfcmkcfaa

/- copy; all operations that act and are no calls of functions. -/
namespace Go.Proofs.Ytmhamnnfcmkcfaa
open Go.RowKit

section
variable {P : Program} {T : Tab} {B : Nat} {G : Gh} {h : Heap} {w : World}

theorem cp_sound (hI : Inv B G h w) {t u ty : Nat} {k k2 : K} (hk : KindOk P t k) (hk2 : KindOk P u k2) (hrk : rowKind k2 = true)
    {x y v : AV} {cx cy : Value} {h' : Heap} (hx : Rep G x cx) (hy : Rep G y cy) (e : cpA k x y h = some (v, h')) :
    GivesV B G w ((Builtin.copy_ #[t, u] ty #[cx, cy]).run P w) v h' := by
  unfold cpA at e
  split at e
  · rename_i el esz bytes byte id off len
    obtain ⟨hu, ⟨ti, hti, hsz, -⟩, -⟩ := hk
    subst hsz
    obtain ⟨⟨n, news⟩, hr, e⟩ := Option.bind_eq_some_iff.1 e
    obtain ⟨vs, hsrc, hnL, hn1⟩ := rows_sound hI hk2 hrk hy hr
    simp only at e
    split at e
    · rename_i es cs hid
      split at e
      · rename_i hb
        obtain ⟨hes, hlim, hle⟩ := hb
        cases e
        cases hx with | own _ _ _ cap L hL hcap hext =>
        have hnl := hsrc.newsLen
        have hnl2 := hnL.1
        obtain ⟨k1, k2, k3⟩ := hI.store (off := off) hid hL hnL hn1 (by omega)
        refine ⟨_, _, G, ?_, k2, k1, .sv (.int .i64 n)⟩
        have hst := run_storeCells_cells (P := P) L.b (L.o + off) vs 0 w (fun j hj => (k3 j hj).1) (fun j hj => (k3 j hj).2) hsrc.one
        simp only [Nat.add_zero] at hst
        have hmin : Nat.min n len = n := Nat.min_eq_left hle
        simp [Builtin.copy_, run_underlying hu, hsrc.len, hmin, sizeOf, typeInfo, hti, hsrc.cells, hst, goInt]
      · cases e
    · cases e
  · cases e

/-- What an operation gives: a value or none, and the world goes on. -/
def GivesN (B : Nat) (G : Gh) (w : World) (s : Result Next) (v : AV) (h' : Heap) : Prop :=
  ∃ cv w' G', (s = .ok (.value cv) w' ∨ (s = .ok .skip w' ∧ cv = undef)) ∧ Mv B G w G' w' ∧ Inv B G' h' w' ∧ Rep G' v cv

theorem GivesV.next {s : Sem Value} {v : AV} {h' : Heap} (hs : GivesV B G w (s.run P w) v h') : GivesN B G w ((do let x ← s; pure (.value x) : Sem Next).run P w) v h' := by
  obtain ⟨cv, w', G', h1, h2, h3, h4⟩ := hs
  refine ⟨cv, w', G', .inl ?_, h2, h3, h4⟩
  rw [Sem.run_bind, h1]
  rfl

/-- An operation that calls a function? -/
def isCall : Op → Bool
  | .call { callee := .value _, .. } => true
  | _ => false

theorem evAct_sound (hT : TabOk P T) {C : CallF} {tm : Tm} {a : Act} (ht : RepT G tm a.tmps) (hI : Inv B G h w) {o : Oper} (hn : isCall o.op = false) {v : AV} {h' : Heap} (e : evAct T C tm h o.op = some (v, h')) :
    GivesN B G w ((execOp a.eval o).run P w) v h' := by
  obtain ⟨dst, op, ty, pos, after, guard⟩ := o
  simp only at e hn
  unfold evAct at e
  split at e
  · obtain ⟨z, e1, e⟩ := Option.bind_eq_some_iff.1 e
    exact (alloc_sound hT hI e1 e).next
  · obtain ⟨z, e1, e⟩ := Option.bind_eq_some_iff.1 e
    exact (box_sound hI (ev_rep ht _) e).next
  · obtain ⟨z, e1, e⟩ := Option.bind_eq_some_iff.1 e
    obtain ⟨rfl, w', q1, q2, q3⟩ := store_sound hI (hT.size _ _ _ e1) (ev_rep ht _) (ev_rep ht _) e
    refine ⟨undef, w', G, .inr ⟨?_, rfl⟩, q2, q3, .undef _⟩
    simp [execOp, q1]
  · obtain ⟨k, e1, e⟩ := Option.bind_eq_some_iff.1 e
    exact (bs_sound hT hI (hT.kind _ _ e1) (evParts_rep ht _) e).next
  · obtain ⟨k, e1, e⟩ := Option.bind_eq_some_iff.1 e
    exact (make_sound hT hI (hT.kind _ _ e1) (ev_rep ht _) (ev_rep ht _) e).next
  · unfold mapNew at e
    cases e
    obtain ⟨k1, k2⟩ := hI.allocMap
    exact GivesV.next ⟨_, _, _, run_makeMap _ w, k2, k1, .map _ _ (Gh.put_same _ _ _)⟩
  · obtain ⟨k, e1, e⟩ := Option.bind_eq_some_iff.1 e
    obtain ⟨rfl, w', q1, q2, q3⟩ := mapPut_sound hI (hT.kind _ _ e1) (ev_rep ht _) (ev_rep ht _) (ev_rep ht _) e
    refine ⟨undef, w', G, .inr ⟨?_, rfl⟩, q2, q3, .undef _⟩
    simp [execOp, q1]
  · obtain ⟨k, e1, e⟩ := Option.bind_eq_some_iff.1 e
    obtain ⟨rfl, w', q1, q2, q3⟩ := mapPut_sound hI (hT.kind _ _ e1) (ev_rep ht _) (ev_rep ht _) (ev_rep ht _) e
    refine ⟨undef, w', G, .inr ⟨?_, rfl⟩, q2, q3, .undef _⟩
    simp [execOp, q1]
  · obtain ⟨k, e1, e⟩ := Option.bind_eq_some_iff.1 e
    exact (mapGet_sound hT hI (hT.kind _ _ e1) (ev_rep ht _) (ev_rep ht _) e).next
  · obtain ⟨k, e1, e⟩ := Option.bind_eq_some_iff.1 e
    obtain ⟨d, e2, e⟩ := Option.bind_eq_some_iff.1 e
    split at e
    · exact (bsStr_sound hI (hT.kind _ _ e1) (hT.kind _ _ e2) (ev_rep ht _) e).next
    · cases e
  · cases hn
  · rename_i xs ts
    split at e
    · rename_i x y t u hx hts
      obtain ⟨k, e1, e⟩ := Option.bind_eq_some_iff.1 e
      obtain ⟨k2, e2, e⟩ := Option.bind_eq_some_iff.1 e
      split at e
      · rename_i hrk
        have hxs : xs = #[x, y] := by rw [← Array.toArray_toList (xs := xs), hx]
        have htt : ts = #[t, u] := by rw [← Array.toArray_toList (xs := ts), hts]
        subst hxs; subst htt
        have := (ap_sound (ty := ty) hI (hT.kind _ _ e1) (hT.kind _ _ e2) hrk (ev_rep ht x) (ev_rep ht y) e).next
        simpa [execOp, resolve, invoke, builtin] using this
      · cases e
    · cases e
  · rename_i xs ts
    split at e
    · rename_i x y t u hx hts
      obtain ⟨k, e1, e⟩ := Option.bind_eq_some_iff.1 e
      obtain ⟨k2, e2, e⟩ := Option.bind_eq_some_iff.1 e
      split at e
      · rename_i hrk
        have hxs : xs = #[x, y] := by rw [← Array.toArray_toList (xs := xs), hx]
        have htt : ts = #[t, u] := by rw [← Array.toArray_toList (xs := ts), hts]
        subst hxs; subst htt
        have := (cp_sound (ty := ty) hI (hT.kind _ _ e1) (hT.kind _ _ e2) hrk (ev_rep ht x) (ev_rep ht y) e).next
        simpa [execOp, resolve, invoke, builtin] using this
      · cases e
    · cases e
  · cases e

end
end Go.Proofs.Ytmhamnnfcmkcfaa

/- Settling: objects that nobody writes again. -/
namespace Go.Proofs.Ytmhamnnfcmkcfaa
open Go.RowKit

section
variable {P : Program} {B : Nat} {G : Gh} {h : Heap} {w : World}

theorem modify_get {α : Type} (l : List α) (f : α → α) (i j : Nat) : (l.modify i f)[j]? = if i = j then l[j]?.map f else l[j]? := by
  rw [List.getElem?_modify]
  by_cases q : i = j
  · subst q
    cases l[i]? <;> simp
  · cases l[j]? <;> simp [q]

theorem Inv.settle1 (hI : Inv B G h w) (id : Nat) : ∃ G', Mv B G w G' w ∧ Inv B G' (h.modify id Ent.settled) w ∧ (∀ i, G'.loc i = G.loc i) := by
  have same : (∀ x, h[id]? = some x → x.settled = x) → ∃ G', Mv B G w G' w ∧ Inv B G' (h.modify id Ent.settled) w ∧ (∀ i, G'.loc i = G.loc i) := by
    intro hx
    have : h.modify id Ent.settled = h := by
      apply List.ext_getElem?
      intro i
      rw [modify_get]
      by_cases q : id = i
      · subst q
        rw [if_pos rfl]
        cases e : h[id]? with
        | none => rfl
        | some x => rw [Option.map_some, hx x e]
      · rw [if_neg q]
    rw [this]
    exact ⟨G, Mv.refl B G w, hI, fun _ => rfl⟩
  cases e : h[id]? with
  | none => exact same (fun x hx => by rw [e] at hx; cases hx)
  | some x =>
  cases x with
  | map es => exact same (fun x hx => by rw [e] at hx; cases hx; rfl)
  | gone => exact same (fun x hx => by rw [e] at hx; cases hx; rfl)
  | cells esz cs wr =>
  cases wr with
  | false => exact same (fun x hx => by rw [e] at hx; cases hx; rfl)
  | true =>
  obtain ⟨L, hL, e1, e2, e3, e4⟩ := hI.cells _ _ _ _ e
  obtain ⟨hB, hfree⟩ := e4 rfl
  let S' : Settled := fun b o => if b = L.b ∧ L.o ≤ o ∧ o < L.o + cs.length then w.cell? ⟨b, o, none⟩ else G.S b o
  have hS : SLe G.S S' := by
    intro b o v hv
    simp only [S']
    split
    · exact hI.set b o v hv
    · exact hv
  have hin : ∀ j v, j < cs.length → w.cell? ⟨L.b, L.o + j, none⟩ = some v → S' L.b (L.o + j) = some v := by
    intro j v hj hv
    simp only [S']
    rw [if_pos ⟨trivial, by omega, by omega⟩]
    exact hv
  have hle : GLe G ⟨S', G.loc⟩ := ⟨hS, fun _ _ h => h⟩
  have hold : ∀ (i : Nat) (x : Ent), (h.modify id Ent.settled)[i]? = some x → (i = id ∧ x = .cells esz cs false) ∨ (i ≠ id ∧ h[i]? = some x) := by
    intro i x hx
    rw [modify_get] at hx
    by_cases q : id = i
    · subst q
      rw [if_pos rfl, e] at hx
      cases hx
      exact .inl ⟨rfl, rfl⟩
    · rw [if_neg q] at hx
      exact .inr ⟨fun p => q p.symm, hx⟩
  refine ⟨⟨S', G.loc⟩, ⟨hle, Below.refl B w, fun b o v h1 h2 => ?_⟩, ⟨hI.base, hI.blk, fun i hi => hI.fresh i (by simpa using hi), ?_, ?_, ?_, ?_, ?_⟩, fun _ => rfl⟩
  · simp only [S'] at h1
    split at h1
    · rename_i q; rw [q.1]; exact hB
    · rw [h2] at h1; cases h1
  · intro b o v h1
    simp only [S'] at h1
    split at h1
    · exact h1
    · exact hI.set b o v h1
  · intro i esz2 cs2 wr hx
    rcases hold _ _ hx with ⟨rfl, q⟩ | ⟨hne, q⟩
    · cases q
      refine ⟨L, hL, e1, e2, fun j c hj => ?_, fun q => by cases q⟩
      obtain ⟨k1, v, k2, k3, k4⟩ := e3 j c hj
      exact ⟨k1, v, k2, k3.mono hle, fun _ => hin j v (List.getElem?_eq_some_iff.1 hj).1 k2⟩
    · obtain ⟨L2, g1, g2, g3, g4, g5⟩ := hI.cells _ _ _ _ q
      refine ⟨L2, g1, g2, g3, fun j c hj => ?_, fun hw => ⟨(g5 hw).1, fun j hj => ?_⟩⟩
      · obtain ⟨k1, v, k2, k3, k4⟩ := g4 j c hj
        exact ⟨k1, v, k2, k3.mono hle, fun q => hS _ _ _ (k4 q)⟩
      · obtain ⟨k1, k2, k3⟩ := (g5 hw).2 j hj
        refine ⟨k1, k2, ?_⟩
        simp only [S']
        rw [if_neg, k3]
        rintro ⟨p1, p2, p3⟩
        subst hw
        rcases hI.disj _ _ _ _ _ _ _ _ q e hne g1 hL with d | d | d
        · exact d p1
        · omega
        · omega
  · intro i i' x x' c c' L1 L2 q1 q2 hne g1 g2
    rcases hold _ _ q1 with ⟨_, p1⟩ | ⟨n1, p1⟩
    · cases p1
    · rcases hold _ _ q2 with ⟨_, p2⟩ | ⟨n2, p2⟩
      · cases p2
      · exact hI.disj _ _ _ _ _ _ _ _ p1 p2 hne g1 g2
  · intro i es hx
    rcases hold _ _ hx with ⟨_, q⟩ | ⟨hne, q⟩
    · cases q
    · obtain ⟨L2, ces, clock, g1, g2, g3, g4, g5⟩ := hI.maps _ _ q
      refine ⟨L2, ces, clock, g1, g2, g3, g4, fun j s v en q1 q2 => ?_⟩
      obtain ⟨m1, m2, m3⟩ := g5 j s v en q1 q2
      exact ⟨m1.mono hS, m2, m3.mono hle⟩
  · intro i i' es es' L1 L2 q1 q2 hne g1 g2
    rcases hold _ _ q1 with ⟨_, p1⟩ | ⟨n1, p1⟩
    · cases p1
    · rcases hold _ _ q2 with ⟨_, p2⟩ | ⟨n2, p2⟩
      · cases p2
      · exact hI.mdisj _ _ _ _ _ _ p1 p2 hne g1 g2

theorem settle_get : ∀ (ids : List Nat) (h : Heap) (i : Nat) (x : Ent), h[i]? = some x → (settle h ids)[i]? = some (if i ∈ ids then x.settled else x)
  | [], h, i, x, hx => by simpa [settle] using hx
  | id :: ids, h, i, x, hx => by
    have hs : settle h (id :: ids) = settle (h.modify id Ent.settled) ids := rfl
    have hidem : x.settled.settled = x.settled := by cases x <;> rfl
    rw [hs]
    by_cases q : id = i
    · subst q
      rw [settle_get ids _ id x.settled (by rw [modify_get, if_pos rfl, hx]; rfl)]
      rw [if_pos (List.mem_cons_self ..)]
      split
      · rw [hidem]
      · rfl
    · rw [settle_get ids _ i x (by rw [modify_get, if_neg q, hx])]
      by_cases m : i ∈ ids
      · rw [if_pos m, if_pos (List.mem_cons_of_mem _ m)]
      · rw [if_neg m, if_neg (by simp [m, Ne.symm q])]

theorem Inv.settle : ∀ (ids : List Nat) {G : Gh} {h : Heap}, Inv B G h w → ∃ G', Mv B G w G' w ∧ Inv B G' (settle h ids) w ∧ (∀ i, G'.loc i = G.loc i)
  | [], G, h, hI => ⟨G, Mv.refl B G w, hI, fun _ => rfl⟩
  | id :: ids, G, h, hI => by
    obtain ⟨G1, m1, i1, l1⟩ := hI.settle1 id
    obtain ⟨G2, m2, i2, l2⟩ := Inv.settle ids i1
    exact ⟨G2, m1.trans m2, i2, fun i => (l2 i).trans (l1 i)⟩

theorem frzCells_get {F : AV → Option (SV × List Nat)} : ∀ (cs : List AV) (ss : List SV) (ids : List Nat), frzCells F cs = some (ss, ids) →
    ss.length = cs.length ∧ ∀ (j : Nat) (s : SV), ss[j]? = some s → ∃ c ids', cs[j]? = some c ∧ F c = some (s, ids') ∧ ∀ i ∈ ids', i ∈ ids
  | [], ss, ids, e => by
    simp only [frzCells, Option.some.injEq, Prod.mk.injEq] at e
    obtain ⟨rfl, rfl⟩ := e
    exact ⟨rfl, fun j s h => by simp at h⟩
  | c :: cs, ss, ids, e => by
    simp only [frzCells] at e
    obtain ⟨⟨s0, i0⟩, h0, e⟩ := Option.bind_eq_some_iff.1 e
    obtain ⟨⟨ss0, is0⟩, h1, e⟩ := Option.bind_eq_some_iff.1 e
    cases e
    obtain ⟨g1, g2⟩ := frzCells_get cs ss0 is0 h1
    refine ⟨by simp [g1], fun j s hj => ?_⟩
    rcases j with _ | j
    · simp at hj
      subst hj
      exact ⟨c, i0, rfl, h0, fun i hi => List.mem_append_left _ hi⟩
    · obtain ⟨c', ids', k1, k2, k3⟩ := g2 j s (by simpa using hj)
      exact ⟨c', ids', by simpa using k1, k2, fun i hi => List.mem_append_right _ (k3 i hi)⟩

theorem chunk_get {α : Type} {esz : Nat} : ∀ (n : Nat) (l : List α), l.length = n * esz → (chunk esz n l).length = n ∧ ∀ (i : Nat) (c : List α), (chunk esz n l)[i]? = some c → i < n ∧ c.length = esz ∧ ∀ (j : Nat) (s : α), c[j]? = some s → j < esz ∧ l[i * esz + j]? = some s
  | 0, l, _ => ⟨rfl, fun i c h => by simp [chunk] at h⟩
  | n + 1, l, hl => by
    have hl' : l.length = n * esz + esz := by rw [hl, Nat.succ_mul]
    obtain ⟨h1, h2⟩ := chunk_get (esz := esz) n (l.drop esz) (by simp; omega)
    refine ⟨by simp [chunk, h1], fun i c hc => ?_⟩
    rcases i with _ | i
    · simp [chunk] at hc
      subst hc
      refine ⟨by omega, by simp; omega, fun j s hj => ?_⟩
      rw [List.getElem?_take] at hj
      split at hj
      · exact ⟨by assumption, by simpa using hj⟩
      · cases hj
    · obtain ⟨k1, k2, k3⟩ := h2 i c (by simpa [chunk] using hc)
      refine ⟨by omega, k2, fun j s hj => ?_⟩
      obtain ⟨q1, q2⟩ := k3 j s hj
      refine ⟨q1, ?_⟩
      rw [List.getElem?_drop] at q2
      rw [← q2]
      congr 1
      rw [Nat.succ_mul]
      omega

/-- What it is that these objects are settled. -/
def SetAt (G G' : Gh) (h : Heap) (ids : List Nat) : Prop := ∀ id ∈ ids, ∀ esz cs wr, h[id]? = some (.cells esz cs wr) → ∃ L, G.loc id = some L ∧ L.esz = esz ∧
  ∀ (j : Nat) (c : AV), cs[j]? = some c → ∃ v, G'.S L.b (L.o + j) = some v ∧ Rep G c v

theorem frzC_rep {G' : Gh} (hS : SLe G.S G'.S) : ∀ (n : Nat) (a : AV) (v : Value) (s : SV) (ids : List Nat), Rep G a v → frzC n h a = some (s, ids) → SetAt G G' h ids → RepS G'.S s v := by
  intro n
  induction n with
  | zero =>
    intro a v s ids ha e hs
    unfold frzC at e
    split at e
    · cases e; cases ha with | sv ha => exact ha.mono hS
    · cases e; cases ha; exact .slice0 _ _
    · exact absurd ‹0 = Nat.succ _› (by simp)
    · cases e
  | succ n ih =>
    intro a v s ids ha e hs
    unfold frzC at e
    split at e
    · cases e; cases ha with | sv ha => exact ha.mono hS
    · cases e; cases ha; exact .slice0 _ _
    · rename_i n' id off len q
      cases q
      split at e
      · rename_i esz cs wr hid
        split at e
        · rename_i hpos
          obtain ⟨r, hr, e⟩ := Option.bind_eq_some_iff.1 e
          obtain ⟨⟨ss, is⟩, hq, e⟩ := Option.bind_eq_some_iff.1 e
          cases e
          cases ha with | own _ _ _ cap L hL hcap hext =>
          obtain ⟨L', hL', hesz, hcs⟩ := hs id (List.mem_cons_self ..) _ _ _ hid
          rw [hL] at hL'
          cases hL'
          obtain ⟨hrl, hrg⟩ := takeN_get hr
          obtain ⟨f1, f2⟩ := frzCells_get r ss is hq
          obtain ⟨c1, c2⟩ := chunk_get (esz := esz) len ss (by omega)
          have key := RepS.slice (S := G'.S) (chunk esz len ss) L.b (L.o + off) cap esz (fun i j => (G'.S L.b (L.o + off + i * esz + j)).getD undef) (by omega)
            (fun c hc => by
              obtain ⟨i, hi⟩ := List.mem_iff_getElem?.1 hc
              exact (c2 i c hi).2.1)
            (fun i j hi hj => by
              rw [c1] at hi
              have hlt : i * esz + j < r.length := by
                rw [hrl]
                have : (i + 1) * esz ≤ len * esz := Nat.mul_le_mul_right _ hi
                rw [Nat.succ_mul] at this
                omega
              obtain ⟨v, hv, -⟩ := hcs _ _ (hrg _ _ (List.getElem?_eq_getElem hlt))
              rw [show L.o + off + i * esz + j = L.o + (off + (i * esz + j)) by omega, hv]
              rfl)
            (fun i j c s hi hj => by
              obtain ⟨q1, q2, q3⟩ := c2 i c hi
              obtain ⟨q4, q5⟩ := q3 j s hj
              obtain ⟨a', ids', p1, p2, p3⟩ := f2 _ _ q5
              obtain ⟨v, hv, hrep⟩ := hcs _ _ (hrg _ _ p1)
              rw [show L.o + off + i * esz + j = L.o + (off + (i * esz + j)) by omega, hv]
              exact ih a' v s ids' hrep p2 (fun i hi => hs i (List.mem_cons_of_mem _ (p3 i hi))))
          rw [c1] at key
          exact key
        · cases e
      · cases e
    · cases e

end
end Go.Proofs.Ytmhamnnfcmkcfaa

/- Settled values stand whatever heap. -/
namespace Go.Proofs.Ytmhamnnfcmkcfaa
open Go.RowKit

section
variable {P : Program} {B : Nat} {G : Gh} {h : Heap} {w : World}

theorem SetAt.sub {G G' : Gh} {ids ids' : List Nat} (hs : SetAt G G' h ids) (hi : ∀ i ∈ ids', i ∈ ids) : SetAt G G' h ids' := fun id hid => hs id (hi id hid)

theorem setAt_of {ids : List Nat} (hI : Inv B G (settle h ids) w) : SetAt G G h ids := by
  intro id hid esz cs wr hx
  have := settle_get ids h id _ hx
  rw [if_pos hid] at this
  obtain ⟨L, hL, e1, -, e3, -⟩ := hI.cells _ _ _ _ this
  refine ⟨L, hL, e1, fun j c hj => ?_⟩
  obtain ⟨-, v, -, k3, k4⟩ := e3 j c hj
  exact ⟨v, k4 rfl, k3⟩

theorem frzV_rep {n : Nat} {a a' : AV} {v : Value} {ids : List Nat} (ha : Rep G a v) (e : frzV n h a = some (a', ids)) (hs : SetAt G G h ids) (loc : Nat → Option Loc) : Rep ⟨G.S, loc⟩ a' v := by
  unfold frzV at e
  split at e
  · obtain ⟨⟨ss, is⟩, h1, e⟩ := Option.bind_eq_some_iff.1 e
    cases e
    cases ha with | agg _ vs hl hc =>
    obtain ⟨f1, f2⟩ := frzCells_get _ _ _ h1
    refine .agg _ vs (by simp [f1, hl]) (fun j c v q1 q2 => ?_)
    rw [List.getElem?_map] at q1
    obtain ⟨s, hj, rfl⟩ := Option.map_eq_some_iff.1 q1
    obtain ⟨c', ids', k1, k2, k3⟩ := f2 j s hj
    exact .sv (frzC_rep (G := G) (G' := G) (SLe.refl _) _ _ _ _ _ (hc j c' v k1 q2) k2 (hs.sub k3))
  · cases e
    cases ha with | ref _ b o vs hS hr => exact .ref _ b o vs hS hr
  · cases e
    cases ha with | func _ _ _ vf vc h1 h2 hf hc =>
    have e1 : vf = [] := List.eq_nil_of_length_eq_zero h1.symm
    have e2 : vc = [] := List.eq_nil_of_length_eq_zero h2.symm
    subst e1; subst e2
    exact .func _ [] [] [] [] rfl rfl (fun _ _ _ h => by simp at h) (fun _ _ _ h => by simp at h)
  · obtain ⟨⟨s, is⟩, h1, e⟩ := Option.bind_eq_some_iff.1 e
    cases e
    exact .sv (frzC_rep (G := G) (G' := G) (SLe.refl _) _ _ _ _ _ ha h1 hs)

theorem frzVs_rep {n : Nat} (loc : Nat → Option Loc) : ∀ (as as' : List AV) (vs : List Value) (ids : List Nat), RepL G as vs → frzVs n h as = some (as', ids) → SetAt G G h ids → RepL ⟨G.S, loc⟩ as' vs
  | [], as', vs, ids, hL, e, _ => by
    simp only [frzVs, Option.some.injEq, Prod.mk.injEq] at e
    obtain ⟨rfl, rfl⟩ := e
    have : vs = [] := List.eq_nil_of_length_eq_zero hL.1.symm
    subst this
    exact RepL.nil _
  | a :: as, as', vs, ids, hL, e, hs => by
    obtain ⟨v, vs, rfl, hv, hL'⟩ := hL.uncons
    simp only [frzVs] at e
    obtain ⟨⟨a', i1⟩, h1, e⟩ := Option.bind_eq_some_iff.1 e
    obtain ⟨⟨as1, i2⟩, h2, e⟩ := Option.bind_eq_some_iff.1 e
    cases e
    exact (frzVs_rep loc as as1 vs i2 hL' h2 (hs.sub fun i hi => List.mem_append_right _ hi)).cons (frzV_rep hv h1 (hs.sub fun i hi => List.mem_append_left _ hi) loc)

/-- Arguments settled. -/
theorem args_settle (hI : Inv B G h w) {n : Nat} {as as' : List AV} {vs : List Value} {ids : List Nat} (hL : RepL G as vs) (e : frzVs n h as = some (as', ids)) :
    ∃ G', Mv B G w G' w ∧ Inv B G' (settle h ids) w ∧ ∀ loc, RepL ⟨G'.S, loc⟩ as' vs := by
  obtain ⟨G', m, i, -⟩ := hI.settle ids
  exact ⟨G', m, i, fun loc => frzVs_rep loc as as' vs ids (hL.mono m.le) e (setAt_of i)⟩

/-- A result settled. -/
theorem res_settle (hI : Inv B G h w) {n : Nat} {a a' : AV} {v : Value} (ha : Rep G a v) (e : frzR n h a = some a') :
    ∃ S', SLe G.S S' ∧ (∀ b o u, S' b o = some u → G.S b o = none → B ≤ b) ∧ (∀ b o u, S' b o = some u → w.cell? ⟨b, o, none⟩ = some u) ∧ ∀ loc, Rep ⟨S', loc⟩ a' v := by
  unfold frzR at e
  split at e
  · obtain ⟨⟨as, ids⟩, h1, e⟩ := Option.bind_eq_some_iff.1 e
    cases e
    cases ha with | tuple _ vs hl hc =>
    obtain ⟨G', m, i, hr⟩ := args_settle hI (as := _) (vs := vs) ⟨hl, hc⟩ h1
    exact ⟨G'.S, m.le.S, m.fresh, i.set, fun loc => .tuple _ vs (hr loc).1 (hr loc).2⟩
  · obtain ⟨⟨a2, ids⟩, h1, e⟩ := Option.bind_eq_some_iff.1 e
    cases e
    obtain ⟨G', m, i, -⟩ := hI.settle ids
    exact ⟨G'.S, m.le.S, m.fresh, i.set, fun loc => frzV_rep (ha.mono m.le) h1 (setAt_of i) loc⟩

/-- Behind a call that works on memory of its own, the caller's memory stands. -/
theorem Inv.past (hI : Inv B G h w) {S' : Settled} {w' : World} (hb : Below w.heap.size w w') (hS : SLe G.S S') (hf : ∀ b o u, S' b o = some u → G.S b o = none → w.heap.size ≤ b)
    (hc : ∀ b o u, S' b o = some u → w'.cell? ⟨b, o, none⟩ = some u) : Inv B ⟨S', G.loc⟩ h w' ∧ Mv B G w ⟨S', G.loc⟩ w' := by
  have hle : GLe G ⟨S', G.loc⟩ := ⟨hS, fun _ _ h => h⟩
  have hcell : ∀ b o v, w.cell? ⟨b, o, none⟩ = some v → w'.cell? ⟨b, o, none⟩ = some v := fun b o v hv => by rw [hb.cell (p := ⟨b, o, none⟩) (cell_lt hv)]; exact hv
  refine ⟨⟨Nat.le_trans hI.base hb.size, fun id L hL => Nat.lt_of_lt_of_le (hI.blk id L hL) hb.size, hI.fresh, hc, ?_, hI.disj, ?_, hI.mdisj⟩, hle, hb.mono hI.base, fun b o v q1 q2 => Nat.le_trans hI.base (hf b o v q1 q2)⟩
  · intro id esz cs wr hx
    obtain ⟨L, g1, g2, g3, g4, g5⟩ := hI.cells _ _ _ _ hx
    refine ⟨L, g1, g2, g3, fun j c hj => ?_, fun hw => ⟨(g5 hw).1, fun j hj => ?_⟩⟩
    · obtain ⟨k1, v, k2, k3, k4⟩ := g4 j c hj
      exact ⟨k1, v, hcell _ _ _ k2, k3.mono hle, fun q => hS _ _ _ (k4 q)⟩
    · obtain ⟨k1, k2, k3⟩ := (g5 hw).2 j hj
      obtain ⟨u, hu⟩ := Option.isSome_iff_exists.1 k1
      refine ⟨by rw [hcell _ _ _ hu]; rfl, by rw [hb.frozen (p := ⟨L.b, L.o + j, none⟩) (cell_lt hu)]; exact k2, ?_⟩
      cases e : S' L.b (L.o + j) with
      | none => exact e
      | some v => exact absurd (cell_lt hu) (Nat.not_lt.2 (hf _ _ _ e k3))
  · intro id es hx
    obtain ⟨L, ces, clock, g1, g2, g3, g4, g5⟩ := hI.maps _ _ hx
    refine ⟨L, ces, clock, g1, g2, by rw [hb.block _ (hI.blk _ _ g1)]; exact g3, g4, fun j s v en q1 q2 => ?_⟩
    obtain ⟨m1, m2, m3⟩ := g5 j s v en q1 q2
    exact ⟨m1.mono hS, m2, m3.mono hle⟩

/-- A function's own heap, at the begin. -/
theorem Inv.bare {S : Settled} (hS : ∀ b o u, S b o = some u → w.cell? ⟨b, o, none⟩ = some u) : Inv w.heap.size ⟨S, fun _ => none⟩ [] w where
  base := Nat.le_refl _
  blk := fun _ _ h => by cases h
  fresh := fun _ _ => rfl
  set := hS
  cells := fun _ _ _ _ h => by simp at h
  disj := fun _ _ _ _ _ _ _ _ h => by simp at h
  maps := fun _ _ h => by simp at h
  mdisj := fun _ _ _ _ _ _ h => by simp at h

end
end Go.Proofs.Ytmhamnnfcmkcfaa

/- What a call of a function must do, and how the modes carry it. -/
namespace Go.Proofs.Ytmhamnnfcmkcfaa
open Go.RowKit

/-- A call, however the model carries it out (in a frame, or outright), yields what R tells. -/
def Runs (P : Program) (f : Nat) (cargs : Array Value) (w : World) (R : Value → World → Prop) : Prop :=
  ∀ (o : Oper) (a : Act) (next : Act → World → Prop) (Q : Exit → Act → World → Prop), (∀ cv w', R cv w' → next (a.put o.dst cv) w') → o.upon P a next Q ((callFunc f cargs).run P w)

theorem Runs.mono {P : Program} {f : Nat} {cargs : Array Value} {w : World} {R R' : Value → World → Prop} (h : Runs P f cargs w R) (hr : ∀ v w', R v w' → R' v w') : Runs P f cargs w R' :=
  fun o a next Q hn => h o a next Q fun cv w' q => hn cv w' (hr _ _ q)

theorem Runs.of_calls {P : Program} {f : Nat} {fn : Func} {c : Code} {cargs : Array Value} {w : World} {R : Value → World → Prop} (hf : P.funcs[f]? = some fn) (hb : fn.body = some c) (hname : (fn.name == "runtime.NumGoroutine") = false)
    (h : Calls P f cargs w fun | .returned v, w' => R v w' | _, _ => False) : Runs P f cargs w R := by
  intro o a next Q hn
  have hrun : (callFunc f cargs).run P w = .ok (.enter f cargs) w := by
    have h1 : ¬ fn.name = "runtime.NumGoroutine" := by simpa using hname
    simp [callFunc, hf, hb, h1]
  rw [hrun, Oper.upon_enter]
  refine h.mono fun e w' q => ?_
  cases e with
  | returned v => exact hn _ _ q
  | panicked c => exact q.elim
  | outgrown => exact q.elim

theorem Runs.of_value {P : Program} {f : Nat} {cargs : Array Value} {w w' : World} {R : Value → World → Prop} {v : Value} (h : (callFunc f cargs).run P w = .ok (.value v) w') (hr : R v w') : Runs P f cargs w R := by
  intro o a next Q hn
  rw [h, Oper.upon_value]
  exact hn _ _ hr

/-- A raw function's call on a heap. -/
def FnOk (P : Program) (E : CallF) : Prop := ∀ (f : Nat) (args : List AV) (h : Heap) (v : AV) (h' : Heap) (B : Nat) (G : Gh) (w : World) (cargs : List Value), E f args h = some (v, h') → RepL G args cargs → Inv B G h w →
  Runs P f cargs.toArray w fun cv w' => ∃ G', Mv B G w G' w' ∧ Inv B G' h' w' ∧ Rep G' v cv

/-- What a call that works on memory of its own leaves. -/
def Pure (S : Settled) (w : World) (v : AV) (cv : Value) (w' : World) : Prop :=
  ∃ S', SLe S S' ∧ (∀ b o u, S' b o = some u → S b o = none → w.heap.size ≤ b) ∧ (∀ b o u, S' b o = some u → w'.cell? ⟨b, o, none⟩ = some u) ∧ Below w.heap.size w w' ∧ ∀ loc, Rep ⟨S', loc⟩ v cv

def PrimOk (P : Program) (M : Modes) : Prop := ∀ (f : Nat) (g : List AV → Option AV) (args : List AV) (v : AV) (S : Settled) (w : World) (cargs : List Value), M.prim f = some g → g args = some v →
  (∀ loc, RepL ⟨S, loc⟩ args cargs) → (∀ b o u, S b o = some u → w.cell? ⟨b, o, none⟩ = some u) → Runs P f cargs.toArray w (Pure S w v)

theorem callBy_ok {P : Program} {M : Modes} {E : CallF} (hE : FnOk P E) (hM : PrimOk P M) : FnOk P (callBy M E) := by
  intro f args h v h' B G w cargs e hL hI
  unfold callBy at e
  split at e
  · exact hE f args h v h' B G w cargs e hL hI
  · obtain ⟨⟨args', ids⟩, h1, e⟩ := Option.bind_eq_some_iff.1 e
    obtain ⟨G1, m1, i1, hr1⟩ := args_settle hI hL h1
    have fin : ∀ u, v = u → h' = settle h ids → Runs P f cargs.toArray w (Pure G1.S w u) → Runs P f cargs.toArray w fun cv w' => ∃ G', Mv B G w G' w' ∧ Inv B G' h' w' ∧ Rep G' v cv := by
      rintro u rfl rfl hp
      refine hp.mono ?_
      rintro cv w' ⟨S', s1, s2, s3, s4, s5⟩
      obtain ⟨k1, k2⟩ := i1.past s4 s1 s2 s3
      exact ⟨_, m1.trans k2, k1, s5 _⟩
    split at e
    · rename_i g hg
      obtain ⟨u, hu, e⟩ := Option.bind_eq_some_iff.1 e
      cases e
      exact fin _ rfl rfl (hM f g args' _ G1.S w cargs hg hu hr1 i1.set)
    · obtain ⟨⟨r, hr⟩, h2, e⟩ := Option.bind_eq_some_iff.1 e
      obtain ⟨u, hu, e⟩ := Option.bind_eq_some_iff.1 e
      cases e
      refine fin _ rfl rfl ((hE f args' [] r hr w.heap.size ⟨G1.S, fun _ => none⟩ w cargs h2 (hr1 _) (Inv.bare i1.set)).mono ?_)
      rintro cv w' ⟨G', m2, i2, hrep⟩
      obtain ⟨S', s1, s2, s3, s4⟩ := res_settle i2 hrep hu
      refine ⟨S', m2.le.S.trans s1, fun b o u q1 q2 => ?_, s3, m2.below, s4⟩
      cases e : G'.S b o with
      | none => exact s2 b o u q1 e
      | some u' => exact m2.fresh b o u' e q2

end Go.Proofs.Ytmhamnnfcmkcfaa

/- Regions in the text's order. -/
namespace Go.Proofs.Ytmhamnnfcmkcfaa
open Go.RowKit

/-- Where the walk stands. -/
structure At (B : Nat) (G0 : Gh) (w0 : World) (N : Nat) (ds : List Deferred) (tm : Tm) (h : Heap) (G : Gh) (a : Act) (w : World) : Prop where
  rep : RepT G tm a.tmps
  inv : Inv B G h w
  mv : Mv B G0 w0 G w
  size : a.tmps.size = N
  defers : a.defers = ds

section
variable {P : Program} {T : Tab} {B : Nat} {G0 : Gh} {w0 : World} {N : Nat} {ds : List Deferred}

theorem put_size (a : Act) (d : Option Nat) (v : Value) : (a.put d v).tmps.size = a.tmps.size := by
  cases d <;> simp [Act.put]

theorem put_defers (a : Act) (d : Option Nat) (v : Value) : (a.put d v).defers = a.defers := by
  cases d <;> simp [Act.put]

theorem At.step {tm : Tm} {h h' : Heap} {G G' : Gh} {a : Act} {w w' : World} (hA : At B G0 w0 N ds tm h G a w) {d : Option Nat} (hd : ∀ t, d = some t → t < N) {v : AV} {cv : Value} (hm : Mv B G w G' w') (hi : Inv B G' h' w') (hv : Rep G' v cv) :
    At B G0 w0 N ds (updO tm d v) h' G' (a.put d cv) w' :=
  ⟨(hA.rep.mono hm.le).put d hv (fun t ht => by rw [hA.size]; exact hd t ht), hi, hA.mv.trans hm, by rw [put_size]; exact hA.size, by rw [put_defers]; exact hA.defers⟩

/-- One operation that is carried out. -/
theorem op_ok (hT : TabOk P T) {C : CallF} (hC : FnOk P C) {tm : Tm} {h : Heap} {G : Gh} {a : Act} {w : World} (hr : RepT G tm a.tmps) (hI : Inv B G h w) {o : Oper} {v : AV} {h' : Heap}
    (e : (isAct T o.op = true ∧ evAct T C tm h o.op = some (v, h')) ∨ (evPure T tm h o.op = some v ∧ h' = h)) {next : Act → World → Prop} {Q : Exit → Act → World → Prop}
    (hn : ∀ cv w' G', Mv B G w G' w' → Inv B G' h' w' → Rep G' v cv → next (a.put o.dst cv) w') : o.wp P a w next Q := by
  unfold Oper.wp
  rcases e with ⟨-, e⟩ | ⟨e, rfl⟩
  · cases hc : isCall o.op with
    | false =>
      obtain ⟨cv, w', G', h1 | ⟨h1, rfl⟩, h2, h3, h4⟩ := evAct_sound hT hr hI hc e
      · rw [h1]; exact hn cv w' G' h2 h3 h4
      · rw [h1]; exact hn _ w' G' h2 h3 h4
    | true =>
      obtain ⟨dst, op, ty, pos, after, guard⟩ := o
      simp only at hc e
      unfold isCall at hc
      split at hc
      · rename_i f xs ts
        simp only [evAct] at e
        obtain ⟨⟨fid, first, caps⟩, h1, e⟩ := Option.bind_eq_some_iff.1 e
        have hf := ev_rep hr f
        unfold callV at h1
        split at h1
        · rename_i f0 first0 caps0 hev
          cases h1
          rw [hev] at hf
          generalize hcf : a.eval f = cf at hf
          cases hf with
          | func _ _ _ vf vc l1 l2 hf hc2 =>
          have hargs := evList_rep hr xs
          have hall : RepL G (first ++ xs.toList.map (ev tm) ++ caps) (vf ++ (xs.map a.eval).toList ++ vc) := (RepL.append (RepL.append ⟨l1, hf⟩ hargs) ⟨l2, hc2⟩)
          have hrun := hC _ _ _ _ _ _ _ _ _ e hall hI
          have hex : (execOp a.eval ⟨dst, .call { callee := .value f, args := xs, argTypes := ts }, ty, pos, after, guard⟩).run P w = (callFunc fid (vf ++ (xs.map a.eval).toList ++ vc).toArray).run P w := by
            simp [execOp, resolve, hcf, Deferred.ofValue, invoke]
            congr 2
            apply Array.ext'
            simp
          rw [hex]
          exact hrun _ a next Q fun cv w' ⟨G', q1, q2, q3⟩ => hn cv w' G' q1 q2 q3
        · cases h1
      · cases hc
  · obtain ⟨cv, h1, h2⟩ := evPure_sound hT hr hI e
    rw [h1]
    exact hn cv w G (Mv.refl B G w) hI h2

theorem valOf_pure {tm : Tm} {h : Heap} {o : Oper} {v : AV} (e : valOf tm o = some v) : o.guard = none ∧ evPure T tm h o.op = some v := by
  obtain ⟨dst, op, ty, pos, after, guard⟩ := o
  unfold valOf at e
  simp only at e ⊢
  split at e
  · cases e
  · refine ⟨rfl, ?_⟩
    split at e
    · cases e; rfl
    · cases e; rfl
    · cases e; rfl
    · cases e

/-- An operation's guard, as the model has it. -/
theorem guard_ok {G : Gh} {tm : Tm} {a : Act} (hr : RepT G tm a.tmps) {ops : Array Oper} {o : Oper} :
    (guardOf tm ops.toList o = none → Region.wanted o (yielded ops a.tmps) = true) ∧
    ∀ gv want b, guardOf tm ops.toList o = some (gv, want) → gW gv want = some b → Region.wanted o (yielded ops a.tmps) = b := by
  unfold guardOf Region.wanted
  cases o.guard with
  | none => exact ⟨fun _ => rfl, fun _ _ _ h => by cases h⟩
  | some p =>
    obtain ⟨j, want⟩ := p
    refine ⟨fun h => (by cases h), fun gv w2 b h hb => ?_⟩
    simp only [Option.some.injEq, Prod.mk.injEq] at h
    obtain ⟨h1, rfl⟩ := h
    simp only [Array.getElem?_toList] at h1
    simp only [yielded]
    cases hj : ops[j]? with
    | none => rw [hj] at h1; simp only at h1; subst h1; cases hb
    | some g =>
      rw [hj] at h1
      simp only at h1
      cases hd : g.dst with
      | none => rw [hd] at h1; simp only at h1; subst h1; cases hb
      | some d =>
        rw [hd] at h1
        simp only at h1
        subst h1
        unfold gW at hb
        split at hb
        · rename_i hdead
          cases hb
          have hv := hr d
          rw [hdead] at hv
          generalize hx : a.tmps.getD d undef = x at hv
          cases hv
          rw [Array.getD_eq_getD_getElem?] at hx
          cases hx2 : a.tmps[d]? with
          | none => simp [hd, hx2]
          | some x => rw [hx2] at hx; simp at hx; subst hx; simp [hd, hx2, undef]
        · obtain ⟨b', hb', hb⟩ := Option.bind_eq_some_iff.1 hb
          cases hb
          have hv := asB_rep (hr d) hb'
          have : a.tmps[d]? = some (.bool b') := by
            rw [Array.getD_eq_getD_getElem?] at hv
            cases hx : a.tmps[d]? with
            | none => rw [hx] at hv; cases hv
            | some x => rw [hx] at hv; simp at hv; rw [hv]
          simp [hd, this]

theorem ops_ok (hT : TabOk P T) {C : CallF} (hC : FnOk P C) {R : Type} {K : Tm → Heap → Option R} {r : R} {ops : Array Oper} {Q : Exit → Act → World → Prop}
    (hQ : ∀ tm h G a w, K tm h = some r → At B G0 w0 N ds tm h G a w → Q .normal a w) :
    ∀ (rest : List Oper) (tm : Tm) (h : Heap) (G : Gh) (a : Act) (w : World), (∀ o ∈ rest, ∀ t, o.dst = some t → t < N) → evOps optB T C ops.toList K rest tm h = some r → At B G0 w0 N ds tm h G a w → wpList P ops Q rest a w := by
  intro rest
  induction rest with
  | nil => intro tm h G a w _ e hA; exact hQ tm h G a w e hA
  | cons o rest ih =>
    intro tm h G a w hd e hA
    have hdo := hd o (List.mem_cons_self ..)
    have hd' := fun o' ho' => hd o' (List.mem_cons_of_mem _ ho')
    obtain ⟨g1, g2⟩ := guard_ok hA.rep (ops := ops) (o := o)
    have skip : ∀ h', h' = h → evOps optB T C ops.toList K rest (updO tm o.dst .dead) h' = some r → wpList P ops Q rest (a.put o.dst undef) w := by
      rintro h' rfl e
      exact ih _ _ G _ _ hd' e (hA.step hdo (Mv.refl B G w) hA.inv .dead)
    simp only [evOps] at e
    split at e
    · rename_i v hv
      obtain ⟨q1, q2⟩ := valOf_pure (T := T) (h := h) hv
      refine wpList_plain q1 fun K' hK => ?_
      refine op_ok hT hC hA.rep hA.inv (.inr ⟨q2, rfl⟩) fun cv w' G' m1 m2 m3 => hK _ _ ?_
      exact ih _ _ G' _ _ hd' e (hA.step hdo m1 m2 m3)
    · unfold wpList
      split at e
      · rename_i hact
        obtain ⟨⟨v, h'⟩, e1, e⟩ := Option.bind_eq_some_iff.1 e
        unfold gO at e1
        split at e1
        · rename_i hg
          rw [if_pos (g1 hg)]
          refine .inl (op_ok hT hC hA.rep hA.inv (.inl ⟨hact, e1⟩) fun cv w' G' m1 m2 m3 => ?_)
          exact ih _ _ G' _ _ hd' e (hA.step hdo m1 m2 m3)
        · rename_i gv want hg
          obtain ⟨b, hb, e1⟩ := Option.bind_eq_some_iff.1 e1
          rw [g2 _ _ _ hg hb]
          split at e1
          · rename_i hw
            rw [if_pos hw]
            refine .inl (op_ok hT hC hA.rep hA.inv (.inl ⟨hact, e1⟩) fun cv w' G' m1 m2 m3 => ?_)
            exact ih _ _ G' _ _ hd' e (hA.step hdo m1 m2 m3)
          · rename_i hw
            rw [if_neg hw]
            cases e1
            exact skip h rfl e
      · obtain ⟨v, e1, e⟩ := Option.bind_eq_some_iff.1 e
        unfold gO at e1
        split at e1
        · rename_i hg
          rw [if_pos (g1 hg)]
          refine .inl (op_ok hT hC hA.rep hA.inv (.inr ⟨e1, rfl⟩) fun cv w' G' m1 m2 m3 => ?_)
          exact ih _ _ G' _ _ hd' e (hA.step hdo m1 m2 m3)
        · rename_i gv want hg
          obtain ⟨b, hb, e1⟩ := Option.bind_eq_some_iff.1 e1
          rw [g2 _ _ _ hg hb]
          split at e1
          · rename_i hw
            rw [if_pos hw]
            refine .inl (op_ok hT hC hA.rep hA.inv (.inr ⟨e1, rfl⟩) fun cv w' G' m1 m2 m3 => ?_)
            exact ih _ _ G' _ _ hd' e (hA.step hdo m1 m2 m3)
          · rename_i hw
            rw [if_neg hw]
            cases e1
            exact skip h rfl e

end
end Go.Proofs.Ytmhamnnfcmkcfaa

/- Code. -/
namespace Go.Proofs.Ytmhamnnfcmkcfaa
open Go.RowKit

def Out.ex : Out → Exit
  | .normal => .normal
  | .exit i => .exit i
  | .ret => .ret

/-- Every place that code writes is one of the frame's. -/
def okDst (N : Nat) : Code → Bool
  | .region _ ops _ => ops.toList.all fun o => match o.dst with | some t => decide (t < N) | none => true
  | .seq a b => okDst N a && okDst N b
  | .cond _ a b => okDst N a && okDst N b
  | .block _ a => okDst N a
  | .loop a => okDst N a
  | .scope a => okDst N a
  | _ => true

section
variable {P : Program} {T : Tab} {sh : Nat → Bool} {B : Nat} {G0 : Gh} {w0 : World} {N : Nat} {ds : List Deferred}

/-- A drawn region of the code is carried out as it is told. -/
def DrawOk (P : Program) (T : Tab) (sh : Nat → Bool) (C : CallF) (L : LoopF) (D : DrawF) (N : Nat) : Code → Prop
  | .region id ops true => ∀ (R : Type) (B : Nat) (G0 : Gh) (w0 : World) (ds : List Deferred) (K : Out → Tm → Heap → Option R) (r : R) (tm : Tm) (h : Heap) (G : Gh) (a : Act) (w : World) (Q : Exit → Act → World → Prop),
      evCode optB T sh C L D (.region id ops true) tm h K = some r → At B G0 w0 N ds tm h G a w → (∀ tm h G a w, K .normal tm h = some r → At B G0 w0 N ds tm h G a w → Q .normal a w) → (Code.region id ops true).wp P Q a w
  | .seq a b => DrawOk P T sh C L D N a ∧ DrawOk P T sh C L D N b
  | .cond _ a b => DrawOk P T sh C L D N a ∧ DrawOk P T sh C L D N b
  | .block _ a => DrawOk P T sh C L D N a
  | .loop a => DrawOk P T sh C L D N a
  | .scope a => DrawOk P T sh C L D N a
  | _ => True

theorem least {p : Nat → Prop} (h : ∃ n, p n) : ∃ m, p m ∧ ∀ k, p k → m ≤ k := by
  obtain ⟨n, hn⟩ := h
  induction n using Nat.strongRecOn with
  | _ n ih =>
    by_cases q : ∃ k, k < n ∧ p k
    · obtain ⟨k, hk, hp⟩ := q
      exact ih k hk hp
    · exact ⟨n, hn, fun k hk => Nat.le_of_not_lt fun hlt => q ⟨k, hlt, hk⟩⟩

open Classical in
theorem code_ok (hT : TabOk P T) {C : CallF} (hC : FnOk P C) {n : Nat} {D : DrawF} : ∀ (c : Code) (R : Type) (K : Out → Tm → Heap → Option R) (r : R) (tm : Tm) (h : Heap) (G : Gh) (a : Act) (w : World) (Q : Exit → Act → World → Prop),
    okDst N c = true → DrawOk P T sh C (loopN n) D N c → evCode optB T sh C (loopN n) D c tm h K = some r → At B G0 w0 N ds tm h G a w →
    (∀ o tm h G a w, K o tm h = some r → At B G0 w0 N ds tm h G a w → Q o.ex a w) → c.wp P Q a w := by
  intro c
  induction c with
  | skip => intro R K r tm h G a w Q _ _ e hA hQ; exact wp_skip (hQ .normal _ _ _ _ _ e hA)
  | label l => intro R K r tm h G a w Q _ _ e hA hQ; exact wp_label (hQ .normal _ _ _ _ _ e hA)
  | exit id => intro R K r tm h G a w Q _ _ e hA hQ; exact wp_exit (hQ (.exit id) _ _ _ _ _ e hA)
  | ret => intro R K r tm h G a w Q _ _ e hA hQ; exact wp_ret (hQ .ret _ _ _ _ _ e hA)
  | goto l => intro R K r tm h G a w Q _ _ e hA hQ; cases e
  | rangeFunc f p x y => intro R K r tm h G a w Q _ _ e hA hQ; cases e
  | refuse => intro R K r tm h G a w Q _ _ e hA hQ; cases e
  | region id ops draw =>
    intro R K r tm h G a w Q hd hdr e hA hQ
    cases draw with
    | true => exact hdr R B G0 w0 ds K r tm h G a w Q e hA (fun tm h G a w => hQ .normal tm h G a w)
    | false =>
      refine wp_region_list (ops_ok (K := K .normal) (r := r) hT hC (fun tm h G a w => hQ .normal tm h G a w) ops.toList tm h G a w ?_ e hA)
      intro o ho t ht
      have := List.all_eq_true.1 hd o ho
      rw [ht] at this
      simpa using this
  | seq x y ihx ihy =>
    intro R K r tm h G a w Q hd hdr e hA hQ
    simp only [okDst, Bool.and_eq_true] at hd
    refine wp_seq (ihx R _ r tm h G a w _ hd.1 hdr.1 e hA ?_)
    intro o tm h G a w e hA
    cases o with
    | normal => exact ihy R K r tm h G a w Q hd.2 hdr.2 e hA hQ
    | exit i => exact hQ (.exit i) _ _ _ _ _ e hA
    | ret => exact hQ .ret _ _ _ _ _ e hA
  | cond c x y ihx ihy =>
    intro R K r tm h G a w Q hd hdr e hA hQ
    simp only [okDst, Bool.and_eq_true] at hd
    simp only [evCode] at e
    obtain ⟨t, ht, e⟩ := Option.bind_eq_some_iff.1 e
    refine wp_cond (asB_rep (ev_rep hA.rep c) ht) ?_
    cases t with
    | true => exact ihx R K r tm h G a w Q hd.1 hdr.1 e hA hQ
    | false => exact ihy R K r tm h G a w Q hd.2 hdr.2 e hA hQ
  | block id x ih =>
    intro R K r tm h G a w Q hd hdr e hA hQ
    refine wp_block (ih R _ r tm h G a w _ hd hdr e hA ?_)
    intro o tm h G a w e hA
    cases o with
    | normal => exact hQ .normal _ _ _ _ _ e hA
    | ret => exact hQ .ret _ _ _ _ _ e hA
    | exit i =>
      simp only [outBlock] at e
      split at e
      · rename_i hi
        have := hQ .normal _ _ _ _ _ e hA
        simpa [Exit.inBlock, Out.ex, hi] using this
      · rename_i hi
        have := hQ (.exit i) _ _ _ _ _ e hA
        simpa [Exit.inBlock, Out.ex, hi] using this
  | scope x ih =>
    intro R K r tm h G a w Q hd hdr e hA hQ
    refine wp_scope_straight (ih R K r tm h G a w _ hd hdr e hA ?_)
    intro o tm h G a w e hA
    have := hQ o _ _ _ _ _ e hA
    cases o <;> exact this
  | loop x ih =>
    intro R K r tm h G a w Q hd hdr e hA hQ
    simp only [evCode] at e
    obtain ⟨res, e1, e⟩ := Option.bind_eq_some_iff.1 e
    generalize hf : (fun s : St => evCode optB T sh C (loopN n) D x s.tm s.h outK) = f at e1
    let I : Nat → Act → World → Prop := fun m a w => ∃ s G, loopN m f s = some res ∧ At B G0 w0 N ds s.tm s.h G a w
    have h0 : ∃ m, I m a w := ⟨n, ⟨tm, h⟩, G, e1, hA⟩
    refine wp_loop (fun a w => ∃ m, I m a w) (fun a w => if hx : ∃ m, I m a w then Classical.choose (least hx) else 0) h0 ?_
    intro a w hx
    rw [dif_pos hx]
    obtain ⟨s, G, hl, hA⟩ := (Classical.choose_spec (least hx)).1
    generalize hm : Classical.choose (least hx) = m at hl ⊢
    cases m with
    | zero => cases hl
    | succ k =>
    simp only [loopN] at hl
    cases hfs : f s with
    | none => rw [hfs] at hl; cases hl
    | some q =>
    obtain ⟨o, s'⟩ := q
    rw [hfs] at hl
    rw [← hf] at hfs
    refine ih (Out × St) outK (o, s') s.tm s.h G a w _ hd hdr hfs hA ?_
    intro o' tm' h' G' a' w' e' hA'
    simp only [outK, Option.some.injEq, Prod.mk.injEq] at e'
    obtain ⟨rfl, rfl⟩ := e'
    cases o' with
    | normal =>
      have hI : I k a' w' := ⟨⟨tm', h'⟩, G', hl, hA'⟩
      refine ⟨⟨k, hI⟩, ?_⟩
      rw [dif_pos ⟨k, hI⟩]
      have := (Classical.choose_spec (least (p := fun m => I m a' w') ⟨k, hI⟩)).2 k hI
      omega
    | exit i =>
      cases hl
      exact hQ (.exit i) _ _ _ _ _ e hA'
    | ret =>
      cases hl
      exact hQ .ret _ _ _ _ _ e hA'

end
end Go.Proofs.Ytmhamnnfcmkcfaa

/- Functions. -/
namespace Go.Proofs.Ytmhamnnfcmkcfaa
open Go.RowKit

section
variable {P : Program} {T : Tab} {B : Nat} {G : Gh} {h : Heap} {w : World}

theorem loadVar_of_loadAt {t : Nat} {x : Value} {cv : Value} {a : Addr} (hx : x = .pointer (some a)) (e : (Instr.loadAt t x).run P w = .ok cv w) : (do loadVar t (← asAddr x) : Sem Value).run P w = .ok cv w := by
  subst hx
  simpa [Instr.loadAt, Instr.sureAddr, asAddr] using e

theorem ld_pointer {n : Nat} {agg : Bool} {a v : AV} {ca : Value} (ha : Rep G a ca) (e : ld n agg a h = some v) : ∃ ad, ca = .pointer (some ad) := by
  unfold ld at e
  split at e
  · cases ha; exact ⟨_, rfl⟩
  · cases ha; exact ⟨_, rfl⟩
  · cases e

def resOne (tmps : Array Value) : ResultVar → Sem Value
  | .tmp t => pure (tmps.getD t undef)
  | .cell a t => do loadVar t (← asAddr (tmps.getD a undef))

theorem results_eq (fn : Func) (tmps : Array Value) : results fn tmps = (do
    let vs ← fn.results.mapM (resOne tmps)
    pure (if h : vs.size = 1 then vs[0] else .tuple vs)) := rfl

/-- The results, one by one. -/
theorem resK_sound (hT : TabOk P T) (hI : Inv B G h w) {tm : Tm} {tmps : Array Value} (hr : RepT G tm tmps) {R : Type} {r : R} : ∀ (rs : List ResultVar) (k : List AV → Option R), resK optB T tm h rs k = some r →
    ∃ vs avs, (rs.mapM (resOne tmps)).run P w = .ok vs w ∧ RepL G avs vs ∧ k avs = some r
  | [], k, e => ⟨[], [], by simp, RepL.nil G, e⟩
  | .tmp t :: rs, k, e => by
    simp only [resK] at e
    obtain ⟨vs, avs, h1, h2, h3⟩ := resK_sound hT hI hr rs _ e
    exact ⟨tmps.getD t undef :: vs, tm t :: avs, by rw [List.mapM_cons, Sem.run_bind, show resOne tmps (.tmp t) = pure (tmps.getD t undef) from rfl, Sem.run_pure, Result.andThen_ok, Sem.run_bind, h1]; rfl, h2.cons (hr t), h3⟩
  | .cell a t :: rs, k, e => by
    simp only [resK] at e
    split at e
    · cases e
    · rename_i z hz
      obtain ⟨v, hv, e⟩ := Option.bind_eq_some_iff.1 e
      obtain ⟨vs, avs, h1, h2, h3⟩ := resK_sound hT hI hr rs _ e
      obtain ⟨cv, h4, h5⟩ := ld_sound hI (hT.size _ _ _ hz) (hr a) hv
      obtain ⟨ad, had⟩ := ld_pointer (hr a) hv
      have h6 := loadVar_of_loadAt had h4
      refine ⟨cv :: vs, v :: avs, ?_, h2.cons h5, h3⟩
      rw [List.mapM_cons, Sem.run_bind, show (resOne tmps (.cell a t)).run P w = .ok cv w from h6, Result.andThen_ok, Sem.run_bind, h1]
      rfl

theorem tup_rep {avs : List AV} {vs : List Value} (hL : RepL G avs vs) : Rep G (tup avs) (if hx : vs.toArray.size = 1 then vs.toArray[0] else .tuple vs.toArray) := by
  rcases avs with _ | ⟨v, _ | ⟨v2, avs⟩⟩
  · have : vs = [] := List.eq_nil_of_length_eq_zero hL.1.symm
    subst this
    exact .tuple [] [] hL.1 hL.2
  · obtain ⟨u, us, rfl, h1, h2⟩ := hL.uncons
    have : us = [] := List.eq_nil_of_length_eq_zero h2.1.symm
    subst this
    exact h1
  · have h2 : ¬ vs.toArray.size = 1 := by have := hL.1; simp at this ⊢; omega
    rw [dif_neg h2]
    exact .tuple _ vs hL.1 hL.2

theorem results_sound (hT : TabOk P T) (hI : Inv B G h w) {tm : Tm} {tmps : Array Value} (hr : RepT G tm tmps) {fn : Func} {o : Out} {v : AV} {h' : Heap} (e : endK optB T fn.results.toList o tm h = some (v, h')) :
    (∀ i, o ≠ .exit i) ∧ h' = h ∧ ∃ cv, (results fn tmps).run P w = .ok cv w ∧ Rep G v cv := by
  have key : (resK optB T tm h fn.results.toList fun vs => some (tup vs, h)) = some (v, h') → h' = h ∧ ∃ cv, (results fn tmps).run P w = .ok cv w ∧ Rep G v cv := by
    intro e
    obtain ⟨vs, avs, h1, h2, h3⟩ := resK_sound hT hI hr _ _ e
    cases h3
    refine ⟨rfl, _, ?_, tup_rep h2⟩
    rw [results_eq, Sem.run_bind, Array.mapM_eq_mapM_toList, Sem.run_map, h1]
    rfl
  cases o with
  | exit i => cases e
  | normal => exact ⟨fun _ q => (by cases q), key e⟩
  | ret => exact ⟨fun _ q => (by cases q), key e⟩

theorem init_rep {args : List AV} {cargs : List Value} (hL : RepL G args cargs) (n : Nat) : RepT G (init args) (cargs.toArray ++ Array.replicate n undef) := by
  intro t
  unfold init
  rw [List.getD_eq_getElem?_getD]
  cases e : args[t]? with
  | none => exact .undef _
  | some c =>
    obtain ⟨v, hv, hr⟩ := hL.get e
    rw [Array.getD_eq_getD_getElem?]
    have hlt := (List.getElem?_eq_some_iff.1 hv).1
    rw [Array.getElem?_append_left (by simpa using hlt)]
    simp [hv]
    exact hr

/-- A function's body, carried out. -/
theorem func_ok (hT : TabOk P T) {sh : Nat → Bool} {C : CallF} (hC : FnOk P C) {n : Nat} {D : DrawF} {f : Nat} {fn : Func} {c : Code} (hf : P.funcs[f]? = some fn) (hb : fn.body = some c) {args : List AV} {cargs : List Value}
    (hd : okDst (cargs.length + (fn.ntmps - cargs.length)) c = true) (hdr : DrawOk P T sh C (loopN n) D (cargs.length + (fn.ntmps - cargs.length)) c) {v : AV} {h' : Heap} (e : evFunc optB T sh C (loopN n) D fn args h = some (v, h')) (hL : RepL G args cargs) (hI : Inv B G h w) :
    Calls P f cargs.toArray w fun
      | .returned cv, w' => ∃ G', Mv B G w G' w' ∧ Inv B G' h' w' ∧ Rep G' v cv
      | _, _ => False := by
  unfold evFunc at e
  rw [hb] at e
  simp only at e
  refine calls_of_wp hf hb ?_
  have hA : At B G w (cargs.length + (fn.ntmps - cargs.length)) [] (init args) h G { tmps := cargs.toArray ++ Array.replicate (fn.ntmps - cargs.toArray.size) undef, defers := [] } w :=
    ⟨init_rep hL _, hI, Mv.refl B G w, by simp, rfl⟩
  refine code_ok hT hC c _ _ _ _ _ _ _ _ _ hd hdr e hA ?_
  intro o tm h2 G2 a w2 e2 hA2
  obtain ⟨q1, rfl, cv, q2, q3⟩ := results_sound hT hA2.inv hA2.rep e2
  cases o with
  | exit i => exact absurd rfl (q1 i)
  | normal => exact ⟨hA2.defers, cv, q2, G2, hA2.mv, hA2.inv, q3⟩
  | ret => exact ⟨hA2.defers, cv, q2, G2, hA2.mv, hA2.inv, q3⟩

end
end Go.Proofs.Ytmhamnnfcmkcfaa

/- Calls that work on memory of their own leave the caller's heap as it is, whatever it is. -/
namespace Go.Proofs.Ytmhamnnfcmkcfaa
open Go.RowKit

/-- A call of a function that is not shared, told on no heap: on any heap it comes to the same, and leaves the heap. -/
def QOk (P : Program) (sh : Nat → Bool) (C : CallF) : Prop := ∀ (f : Nat) (args : List AV) (v : AV) (h' : Heap) (B : Nat) (G : Gh) (h : Heap) (w : World) (cargs : List Value), sh f = false → C f args [] = some (v, h') →
  RepL G args cargs → Inv B G h w → Runs P f cargs.toArray w fun cv w' => ∃ G', Mv B G w G' w' ∧ Inv B G' h w' ∧ Rep G' v cv

theorem setAt_nil {G G' : Gh} {ids : List Nat} : SetAt G G' [] ids := fun id _ esz cs wr h => by simp at h

theorem callBy_quiet {P : Program} {M : Modes} {E : CallF} (hE : FnOk P E) (hM : PrimOk P M) : QOk P M.shared (callBy M E) := by
  intro f args v h' B G h w cargs hs e hL hI
  unfold callBy at e
  rw [if_neg (by rw [hs]; exact Bool.false_ne_true)] at e
  obtain ⟨⟨args', ids⟩, h1, e⟩ := Option.bind_eq_some_iff.1 e
  have hr1 : ∀ loc, RepL ⟨G.S, loc⟩ args' cargs := fun loc => frzVs_rep loc _ _ _ _ hL h1 setAt_nil
  have fin : ∀ u, v = u → Runs P f cargs.toArray w (Pure G.S w u) → Runs P f cargs.toArray w fun cv w' => ∃ G', Mv B G w G' w' ∧ Inv B G' h w' ∧ Rep G' v cv := by
    rintro u rfl hp
    refine hp.mono ?_
    rintro cv w' ⟨S', s1, s2, s3, s4, s5⟩
    obtain ⟨k1, k2⟩ := hI.past s4 s1 s2 s3
    exact ⟨_, k2, k1, s5 _⟩
  split at e
  · rename_i g hg
    obtain ⟨u, hu, e⟩ := Option.bind_eq_some_iff.1 e
    cases e
    exact fin _ rfl (hM f g args' _ G.S w cargs hg hu hr1 hI.set)
  · obtain ⟨⟨r, hr⟩, h2, e⟩ := Option.bind_eq_some_iff.1 e
    obtain ⟨u, hu, e⟩ := Option.bind_eq_some_iff.1 e
    cases e
    refine fin _ rfl ((hE f args' [] r hr w.heap.size ⟨G.S, fun _ => none⟩ w cargs h2 (hr1 _) (Inv.bare hI.set)).mono ?_)
    rintro cv w' ⟨G', m2, i2, hrep⟩
    obtain ⟨S', s1, s2, s3, s4⟩ := res_settle i2 hrep hu
    refine ⟨S', m2.le.S.trans s1, fun b o u q1 q2 => ?_, s3, m2.below, s4⟩
    cases e : G'.S b o with
    | none => exact s2 b o u q1 e
    | some u' => exact m2.fresh b o u' e q2

end Go.Proofs.Ytmhamnnfcmkcfaa

/- All functions. -/
namespace Go.Proofs.Ytmhamnnfcmkcfaa
open Go.RowKit

theorem okDst_mono {N M : Nat} (h : N ≤ M) : ∀ c : Code, okDst N c = true → okDst M c = true := by
  intro c
  induction c with
  | region id ops draw =>
    intro e
    refine List.all_eq_true.2 fun o ho => ?_
    have := List.all_eq_true.1 e o ho
    cases hd : o.dst with
    | none => rfl
    | some t =>
      rw [hd] at this
      exact decide_eq_true (Nat.lt_of_lt_of_le (of_decide_eq_true this) h)
  | seq a b iha ihb => intro e; simp only [okDst, Bool.and_eq_true] at e ⊢; exact ⟨iha e.1, ihb e.2⟩
  | cond c a b iha ihb => intro e; simp only [okDst, Bool.and_eq_true] at e ⊢; exact ⟨iha e.1, ihb e.2⟩
  | block id a ih => exact ih
  | loop a ih => exact ih
  | scope a ih => exact ih
  | _ => intro _; rfl

/-- What must be so of the program for the interpreter to tell the truth of it. -/
structure EnvOk (P : Program) (E : Env) : Prop where
  tab : TabOk P E.T
  prim : PrimOk P E.M
  fn : ∀ f fn, E.fn f = some fn → P.funcs[f]? = some fn ∧ (fn.name == "runtime.NumGoroutine") = false ∧ ∃ c, fn.body = some c ∧ okDst fn.ntmps c = true ∧
    ∀ (C : CallF) (n N : Nat), FnOk P C → QOk P E.M.shared C → fn.ntmps ≤ N → DrawOk P E.T E.M.shared C (loopN n) (E.D f) N c

theorem callN_both {P : Program} {E : Env} (hE : EnvOk P E) : ∀ n, FnOk P (callN E n) ∧ QOk P E.M.shared (callN E n)
  | 0 => ⟨fun f args h v h' B G w cargs e => by (cases e), fun f args v h' B G h w cargs _ e => by (cases e)⟩
  | n + 1 => by
    have key : FnOk P fun f args h => (E.fn f).bind fun fn => evFunc optB E.T E.M.shared (callN E n) (loopN n) (E.D f) fn args h := by
      intro f args h v h' B G w cargs e hL hI
      obtain ⟨fn, hf, e⟩ := Option.bind_eq_some_iff.1 e
      obtain ⟨h1, h2, c, h3, h4, h5⟩ := hE.fn f fn hf
      have hN : fn.ntmps ≤ cargs.length + (fn.ntmps - cargs.length) := by omega
      obtain ⟨k1, k2⟩ := callN_both hE n
      exact Runs.of_calls h1 h3 h2 (func_ok hE.tab k1 h1 h3 (okDst_mono hN c h4) (h5 _ n _ k1 k2 hN) e hL hI)
    exact ⟨callBy_ok key hE.prim, callBy_quiet key hE.prim⟩

theorem callN_ok {P : Program} {E : Env} (hE : EnvOk P E) (n : Nat) : FnOk P (callN E n) := (callN_both hE n).1

/-- What a program's entry needs: a function that is told apart from the caller's memory, as `Calls` has it. -/
theorem calls_of_callN {P : Program} {E : Env} (hE : EnvOk P E) {n f : Nat} {fn : Func} {args : List AV} {v : AV} {h' : Heap} (hf : E.fn f = some fn) (e : evFunc optB E.T E.M.shared (callN E n) (loopN n) (E.D f) fn args [] = some (v, h'))
    {S : Settled} {w : World} {cargs : List Value} (hL : RepL ⟨S, fun _ => none⟩ args cargs) (hS : ∀ b o u, S b o = some u → w.cell? ⟨b, o, none⟩ = some u) :
    Calls P f cargs.toArray w fun
      | .returned cv, w' => Below w.heap.size w w' ∧ ∃ G', SLe S G'.S ∧ Inv w.heap.size G' h' w' ∧ Rep G' v cv
      | _, _ => False := by
  obtain ⟨h1, h2, c, h3, h4, h5⟩ := hE.fn f fn hf
  have hN : fn.ntmps ≤ cargs.length + (fn.ntmps - cargs.length) := by omega
  refine (func_ok hE.tab (callN_ok hE n) h1 h3 (okDst_mono hN c h4) (h5 _ n _ (callN_ok hE n) (callN_both hE n).2 hN) e hL (Inv.bare hS)).mono ?_
  intro en w' q
  cases en with
  | returned cv => obtain ⟨G', m, i, r⟩ := q; exact ⟨m.below, G', m.le.S, i, r⟩
  | panicked ch => exact q
  | outgrown => exact q

end Go.Proofs.Ytmhamnnfcmkcfaa

/- More fuel: the same answer. -/
namespace Go.Proofs.Ytmhamnnfcmkcfaa
open Go.RowKit

def CLe (C C' : CallF) : Prop := ∀ f a h r, C f a h = some r → C' f a h = some r
def FLe (f f' : St → Option (Out × St)) : Prop := ∀ s r, f s = some r → f' s = some r
def LLe (L L' : LoopF) : Prop := ∀ f f' s r, FLe f f' → L f s = some r → L' f' s = some r

section
variable {T : Tab} {sh : Nat → Bool}

theorem evAct_mono {C C' : CallF} (hC : CLe C C') {tm : Tm} {h : Heap} {op : Op} {r : AV × Heap} (e : evAct T C tm h op = some r) : evAct T C' tm h op = some r := by
  cases hc : isCall op with
  | true =>
    unfold isCall at hc
    split at hc
    · simp only [evAct] at e ⊢
      obtain ⟨c, h1, e⟩ := Option.bind_eq_some_iff.1 e
      rw [h1]
      exact hC _ _ _ _ e
    · cases hc
  | false =>
    rw [← e]
    unfold evAct
    split <;> first
      | rfl
      | (cases hc; done)

theorem gO_mono {α : Type} {g : Option (AV × Bool)} {x x' : Option α} {y r : α} (hx : ∀ r, x = some r → x' = some r) (e : gO g x y = some r) : gO g x' y = some r := by
  unfold gO at e ⊢
  split at e
  · exact hx _ e
  · obtain ⟨b, h1, e⟩ := Option.bind_eq_some_iff.1 e
    rw [h1]
    simp only [Option.bind_some]
    split at e
    · rename_i q; rw [if_pos q]; exact hx _ e
    · rename_i q; rw [if_neg q]; exact e

theorem optB_some {α β : Type} {x : Option α} {f : α → Option β} {a : α} {r : β} (h : x = some a) (k : f a = some r) : optB.b x f = some r := by subst h; exact k

theorem evOps_mono {C C' : CallF} (hC : CLe C C') {R : Type} {K K' : Tm → Heap → Option R} {r : R} (hK : ∀ tm h, K tm h = some r → K' tm h = some r) {all : List Oper} : ∀ (rest : List Oper) (tm : Tm) (h : Heap),
    evOps optB T C all K rest tm h = some r → evOps optB T C' all K' rest tm h = some r
  | [], tm, h, e => hK tm h e
  | o :: rest, tm, h, e => by
    simp only [evOps] at e ⊢
    split at e
    · exact evOps_mono hC hK rest _ _ e
    · split at e
      · rename_i hact
        rw [if_pos hact]
        obtain ⟨x, h1, e⟩ := Option.bind_eq_some_iff.1 e
        refine optB_some (gO_mono (fun r => evAct_mono hC) h1) ?_
        exact evOps_mono hC hK rest _ _ e
      · rename_i hact
        rw [if_neg hact]
        obtain ⟨x, h1, e⟩ := Option.bind_eq_some_iff.1 e
        refine optB_some h1 ?_
        exact evOps_mono hC hK rest _ _ e

theorem gChk_mono {R : Type} {x x' : Option R} {r : R} (hx : x = some r → x' = some r) : ∀ (ps : List Pend) (h : Heap), gChk ps h x = some r → gChk ps h x' = some r
  | [], _, e => hx e
  | p :: ps, h, e => by
    unfold gChk at e ⊢
    split at e
    · rename_i q; rw [if_pos q]; exact gChk_mono hx ps h e
    · cases e

theorem gPast_mono {R : Type} {g : Option (AV × Bool)} {n : Nat} {agg : Bool} {a v : AV} {x x' : Option R} {r : R} (hx : x = some r → x' = some r) : ∀ (hs : List Heap), gPast g n agg a v hs x = some r → gPast g n agg a v hs x' = some r
  | [], e => hx e
  | h :: hs, e => by
    unfold gPast at e ⊢
    split at e
    · rename_i q; rw [if_pos q]; exact gPast_mono hx hs e
    · cases e

theorem evQ_mono {C C' : CallF} (hC : CLe C C') {tm : Tm} {op : Op} {r : AV × Heap} (e : evQ C tm op = some r) : evQ C' tm op = some r := by
  unfold evQ at e ⊢
  split at e
  · exact hC _ _ _ _ e
  · cases e

theorem evDr_mono {C C' : CallF} (hC : CLe C C') {R : Type} {K K' : Tm → Heap → Option R} {r : R} (hK : ∀ tm h, K tm h = some r → K' tm h = some r) {anc : Array Nat} {ms : List Nat} {all : List Oper} :
    ∀ (rest : List Oper) (i : Nat) (hs : List Heap) (pd : List Pend) (tm : Tm) (h : Heap), evDr optB T sh C anc ms all K rest i hs pd tm h = some r → evDr optB T sh C' anc ms all K' rest i hs pd tm h = some r
  | [], i, hs, pd, tm, h, e => hK tm h e
  | o :: rest, i, hs, pd, tm, h, e => by
    simp only [evDr] at e ⊢
    split at e
    · exact evDr_mono hC hK rest _ _ _ _ _ e
    · split at e
      · rename_i hm
        rw [if_pos hm]
        obtain ⟨x, h1, e⟩ := Option.bind_eq_some_iff.1 e
        refine optB_some (gO_mono (fun r => evAct_mono hC) h1) ?_
        exact gChk_mono (evDr_mono hC hK rest _ _ _ _ _) _ _ e
      · rename_i hm
        rw [if_neg hm]
        split at e
        · rename_i hq
          rw [if_pos hq]
          obtain ⟨x, h1, e⟩ := Option.bind_eq_some_iff.1 e
          refine optB_some (gO_mono (fun r => evQ_mono hC) h1) ?_
          exact evDr_mono hC hK rest _ _ _ _ _ e
        · rename_i hq
          rw [if_neg hq]
          split at e
          · split at e
            · cases e
            · rename_i hz
              try simp only [hz]
              obtain ⟨x, h1, e⟩ := Option.bind_eq_some_iff.1 e
              refine optB_some h1 ?_
              exact gPast_mono (evDr_mono hC hK rest _ _ _ _ _) _ e
          · obtain ⟨x, h1, e⟩ := Option.bind_eq_some_iff.1 e
            refine optB_some h1 ?_
            exact evDr_mono hC hK rest _ _ _ _ _ e

theorem evCode_mono {C C' : CallF} (hC : CLe C C') {L L' : LoopF} (hL : LLe L L') : ∀ (c : Code) (R : Type) (K K' : Out → Tm → Heap → Option R) (r : R) (tm : Tm) (h : Heap), (∀ o tm h, K o tm h = some r → K' o tm h = some r) →
    evCode optB T sh C L noD c tm h K = some r → evCode optB T sh C' L' noD c tm h K' = some r := by
  intro c
  induction c with
  | skip => intro R K K' r tm h hK e; exact hK _ _ _ e
  | label l => intro R K K' r tm h hK e; exact hK _ _ _ e
  | exit id => intro R K K' r tm h hK e; exact hK _ _ _ e
  | ret => intro R K K' r tm h hK e; exact hK _ _ _ e
  | goto l => intro R K K' r tm h hK e; cases e
  | refuse => intro R K K' r tm h hK e; cases e
  | rangeFunc f p x y => intro R K K' r tm h hK e; cases e
  | region id ops draw =>
    intro R K K' r tm h hK e
    cases draw with
    | true => exact evDr_mono hC (fun tm h => hK .normal tm h) _ _ _ _ _ _ e
    | false => exact evOps_mono hC (fun tm h => hK .normal tm h) _ _ _ e
  | seq x y ihx ihy =>
    intro R K K' r tm h hK e
    refine ihx R _ _ r tm h ?_ e
    intro o tm h e
    cases o with
    | normal => exact ihy R K K' r tm h hK e
    | exit i => exact hK _ _ _ e
    | ret => exact hK _ _ _ e
  | cond c x y ihx ihy =>
    intro R K K' r tm h hK e
    obtain ⟨t, h1, e⟩ := Option.bind_eq_some_iff.1 e
    refine optB_some h1 ?_
    cases t with
    | true => exact ihx R K K' r tm h hK e
    | false => exact ihy R K K' r tm h hK e
  | block id x ih =>
    intro R K K' r tm h hK e
    refine ih R _ _ r tm h ?_ e
    intro o tm h e
    cases o with
    | normal => exact hK _ _ _ e
    | ret => exact hK _ _ _ e
    | exit i =>
      simp only [outBlock] at e ⊢
      split at e
      · rename_i q; rw [if_pos q]; exact hK _ _ _ e
      · rename_i q; rw [if_neg q]; exact hK _ _ _ e
  | scope x ih => intro R K K' r tm h hK e; exact ih R K K' r tm h hK e
  | loop x ih =>
    intro R K K' r tm h hK e
    obtain ⟨q, h1, e⟩ := Option.bind_eq_some_iff.1 e
    refine optB_some (hL _ _ _ _ ?_ h1) (hK _ _ _ e)
    intro s r e
    exact ih (Out × St) outK outK r s.tm s.h (fun _ _ _ h => h) e

theorem loopN_mono : ∀ n m, n ≤ m → LLe (loopN n) (loopN m)
  | 0, m, _ => fun f f' s r hf e => by cases e
  | n + 1, 0, h => by omega
  | n + 1, m + 1, h => fun f f' s r hf e => by
    simp only [loopN] at e ⊢
    cases hs : f s with
    | none => rw [hs] at e; cases e
    | some q =>
      rw [hs] at e
      rw [hf _ _ hs]
      obtain ⟨o, s'⟩ := q
      cases o with
      | normal => exact loopN_mono n m (by omega) f f' s' r hf e
      | exit i => exact e
      | ret => exact e

end
end Go.Proofs.Ytmhamnnfcmkcfaa

/- The limit: calls without fuel. -/
namespace Go.Proofs.Ytmhamnnfcmkcfaa
open Go.RowKit

theorem evFunc_mono {T : Tab} {sh : Nat → Bool} {C C' : CallF} (hC : CLe C C') {L L' : LoopF} (hL : LLe L L') {fn : Func} {args : List AV} {h : Heap} {r : AV × Heap} (e : evFunc optB T sh C L noD fn args h = some r) : evFunc optB T sh C' L' noD fn args h = some r := by
  unfold evFunc at e ⊢
  cases hb : fn.body with
  | none => rw [hb] at e; cases e
  | some c => rw [hb] at e; exact evCode_mono hC hL c _ _ _ _ _ _ (fun _ _ _ h => h) e

theorem callBy_mono {M : Modes} {E E' : CallF} (hE : CLe E E') : CLe (callBy M E) (callBy M E') := by
  intro f a h r e
  unfold callBy at e ⊢
  split at e
  · rename_i q; rw [if_pos q]; exact hE _ _ _ _ e
  · rename_i q
    rw [if_neg q]
    obtain ⟨x, h1, e⟩ := Option.bind_eq_some_iff.1 e
    rw [h1, Option.bind_some]
    cases hp : M.prim f with
    | some g => rw [hp] at e; exact e
    | none =>
      rw [hp] at e
      obtain ⟨y, h2, e⟩ := Option.bind_eq_some_iff.1 e
      simp only [hE _ _ _ _ h2, Option.bind_some]
      exact e

/-- An environment with no region told apart. -/
abbrev Env.plain (E : Env) : Prop := E.D = fun _ => noD

theorem callN_step {E : Env} (hp : E.plain) : ∀ n, CLe (callN E n) (callN E (n + 1))
  | 0 => fun f a h r e => by cases e
  | n + 1 => by
    refine callBy_mono ?_
    intro f a h r e
    obtain ⟨fn, h1, e⟩ := Option.bind_eq_some_iff.1 e
    have hD : E.D f = noD := by rw [hp]
    refine Option.bind_eq_some_iff.2 ⟨fn, h1, ?_⟩
    rw [hD] at e ⊢
    exact evFunc_mono (callN_step hp n) (loopN_mono n (n + 1) (by omega)) e

theorem callN_mono {E : Env} (hp : E.plain) {n m : Nat} (h : n ≤ m) : CLe (callN E n) (callN E m) := by
  induction m with
  | zero => have : n = 0 := by omega
            subst this
            exact fun _ _ _ _ e => e
  | succ m ih =>
    rcases Nat.lt_or_ge m n with q | q
    · have : n = m + 1 := by omega
      subst this
      exact fun _ _ _ _ e => e
    · exact fun f a h r e => callN_step hp m f a h r (ih q f a h r e)

end Go.Proofs.Ytmhamnnfcmkcfaa

/- Continuity: what the limits tell, enough fuel tells. -/
namespace Go.Proofs.Ytmhamnnfcmkcfaa
open Go.RowKit

/-- A rising family of calls and their limit. -/
structure Rises (Cn : Nat → CallF) (C : CallF) : Prop where
  up : ∀ n m, n ≤ m → CLe (Cn n) (Cn m)
  lim : ∀ f a h r, C f a h = some r → ∃ n, Cn n f a h = some r

section
variable {T : Tab} {sh : Nat → Bool} {Cn : Nat → CallF} {C : CallF}

theorem evAct_lim (hC : Rises Cn C) {tm : Tm} {h : Heap} {op : Op} {r : AV × Heap} (e : evAct T C tm h op = some r) : ∃ n, evAct T (Cn n) tm h op = some r := by
  cases hc : isCall op with
  | true =>
    unfold isCall at hc
    split at hc
    · simp only [evAct] at e ⊢
      obtain ⟨c, h1, e⟩ := Option.bind_eq_some_iff.1 e
      rw [h1]
      exact hC.lim _ _ _ _ e
    · cases hc
  | false =>
    refine ⟨0, ?_⟩
    rw [← e]
    unfold evAct
    split <;> first
      | rfl
      | (cases hc; done)

theorem evQ_lim (hC : Rises Cn C) {tm : Tm} {op : Op} {r : AV × Heap} (e : evQ C tm op = some r) : ∃ n, evQ (Cn n) tm op = some r := by
  unfold evQ at e ⊢
  split at e
  · exact hC.lim _ _ _ _ e
  · cases e

theorem gO_lim {α : Type} {g : Option (AV × Bool)} {x : Option α} {xn : Nat → Option α} {y r : α} (hx : ∀ r, x = some r → ∃ n, xn n = some r) (e : gO g x y = some r) : ∃ n, gO g (xn n) y = some r := by
  unfold gO at e ⊢
  split at e
  · exact hx _ e
  · obtain ⟨b, h1, e⟩ := Option.bind_eq_some_iff.1 e
    rw [h1]
    simp only [Option.bind_some]
    split at e
    · rename_i q; simp only [if_pos q]; exact hx _ e
    · rename_i q; simp only [if_neg q]; exact ⟨0, e⟩

theorem evOps_lim (hC : Rises Cn C) {R : Type} {K : Tm → Heap → Option R} {Kn : Nat → Tm → Heap → Option R} {r : R} (hup : ∀ n m, n ≤ m → ∀ tm h, Kn n tm h = some r → Kn m tm h = some r)
    (hK : ∀ tm h, K tm h = some r → ∃ n, Kn n tm h = some r) {all : List Oper} : ∀ (rest : List Oper) (tm : Tm) (h : Heap), evOps optB T C all K rest tm h = some r → ∃ n, evOps optB T (Cn n) all (Kn n) rest tm h = some r
  | [], tm, h, e => hK tm h e
  | o :: rest, tm, h, e => by
    simp only [evOps] at e ⊢
    split at e
    · exact evOps_lim hC hup hK rest _ _ e
    · split at e
      · rename_i hact
        simp only [if_pos hact]
        obtain ⟨x, h1, e⟩ := Option.bind_eq_some_iff.1 e
        obtain ⟨n1, h1⟩ := gO_lim (xn := fun n => evAct T (Cn n) tm h o.op) (fun r e => evAct_lim hC e) h1
        obtain ⟨n2, h2⟩ := evOps_lim hC hup hK rest _ _ e
        refine ⟨max n1 n2, ?_⟩
        refine optB_some (gO_mono (fun r => evAct_mono (hC.up _ _ (Nat.le_max_left n1 n2))) h1) ?_
        exact evOps_mono (hC.up _ _ (Nat.le_max_right n1 n2)) (hup _ _ (Nat.le_max_right n1 n2)) _ _ _ h2
      · rename_i hact
        simp only [if_neg hact]
        obtain ⟨x, h1, e⟩ := Option.bind_eq_some_iff.1 e
        obtain ⟨n2, h2⟩ := evOps_lim hC hup hK rest _ _ e
        refine ⟨n2, optB_some h1 ?_⟩
        exact h2

theorem gChk_lim {R : Type} {x : Option R} {xn : Nat → Option R} {r : R} (hx : x = some r → ∃ n, xn n = some r) : ∀ (ps : List Pend) (h : Heap), gChk ps h x = some r → ∃ n, gChk ps h (xn n) = some r
  | [], _, e => hx e
  | p :: ps, h, e => by
    unfold gChk at e ⊢
    split at e
    · rename_i q; simp only [if_pos q]; exact gChk_lim hx ps h e
    · cases e

theorem gPast_lim {R : Type} {g : Option (AV × Bool)} {k : Nat} {agg : Bool} {a v : AV} {x : Option R} {xn : Nat → Option R} {r : R} (hx : x = some r → ∃ n, xn n = some r) : ∀ (hs : List Heap), gPast g k agg a v hs x = some r → ∃ n, gPast g k agg a v hs (xn n) = some r
  | [], e => hx e
  | h :: hs, e => by
    unfold gPast at e ⊢
    split at e
    · rename_i q; simp only [if_pos q]; exact gPast_lim hx hs e
    · cases e

theorem evDr_lim (hC : Rises Cn C) {R : Type} {K : Tm → Heap → Option R} {Kn : Nat → Tm → Heap → Option R} {r : R} (hup : ∀ n m, n ≤ m → ∀ tm h, Kn n tm h = some r → Kn m tm h = some r)
    (hK : ∀ tm h, K tm h = some r → ∃ n, Kn n tm h = some r) {anc : Array Nat} {ms : List Nat} {all : List Oper} :
    ∀ (rest : List Oper) (i : Nat) (hs : List Heap) (pd : List Pend) (tm : Tm) (h : Heap), evDr optB T sh C anc ms all K rest i hs pd tm h = some r → ∃ n, evDr optB T sh (Cn n) anc ms all (Kn n) rest i hs pd tm h = some r
  | [], i, hs, pd, tm, h, e => hK tm h e
  | o :: rest, i, hs, pd, tm, h, e => by
    simp only [evDr] at e ⊢
    split at e
    · exact evDr_lim hC hup hK rest _ _ _ _ _ e
    · split at e
      · rename_i hm
        simp only [if_pos hm]
        obtain ⟨x, h1, e⟩ := Option.bind_eq_some_iff.1 e
        obtain ⟨n1, h1⟩ := gO_lim (xn := fun n => evAct T (Cn n) tm h o.op) (fun r e => evAct_lim hC e) h1
        obtain ⟨n2, h2⟩ := gChk_lim (evDr_lim hC hup hK rest _ _ _ _ _) _ _ e
        refine ⟨max n1 n2, ?_⟩
        refine optB_some (gO_mono (fun r => evAct_mono (hC.up _ _ (Nat.le_max_left n1 n2))) h1) ?_
        exact gChk_mono (evDr_mono (hC.up _ _ (Nat.le_max_right n1 n2)) (hup _ _ (Nat.le_max_right n1 n2)) _ _ _ _ _ _) _ _ h2
      · rename_i hm
        simp only [if_neg hm]
        split at e
        · rename_i hq
          simp only [if_pos hq]
          obtain ⟨x, h1, e⟩ := Option.bind_eq_some_iff.1 e
          obtain ⟨n1, h1⟩ := gO_lim (xn := fun n => evQ (Cn n) tm o.op) (fun r e => evQ_lim hC e) h1
          obtain ⟨n2, h2⟩ := evDr_lim hC hup hK rest _ _ _ _ _ e
          refine ⟨max n1 n2, ?_⟩
          refine optB_some (gO_mono (fun r => evQ_mono (hC.up _ _ (Nat.le_max_left n1 n2))) h1) ?_
          exact evDr_mono (hC.up _ _ (Nat.le_max_right n1 n2)) (hup _ _ (Nat.le_max_right n1 n2)) _ _ _ _ _ _ h2
        · rename_i hq
          simp only [if_neg hq]
          split at e
          · split at e
            · cases e
            · rename_i hz
              try simp only [hz]
              obtain ⟨x, h1, e⟩ := Option.bind_eq_some_iff.1 e
              obtain ⟨n2, h2⟩ := gPast_lim (evDr_lim hC hup hK rest _ _ _ _ _) _ e
              refine ⟨n2, optB_some h1 ?_⟩
              exact h2
          · obtain ⟨x, h1, e⟩ := Option.bind_eq_some_iff.1 e
            obtain ⟨n2, h2⟩ := evDr_lim hC hup hK rest _ _ _ _ _ e
            refine ⟨n2, optB_some h1 ?_⟩
            exact h2

end
end Go.Proofs.Ytmhamnnfcmkcfaa

/- The limits themselves. -/
namespace Go.Proofs.Ytmhamnnfcmkcfaa
open Go.RowKit

open Classical in
noncomputable def limO {α : Type} (x : Nat → Option α) : Option α := if h : ∃ n, (x n).isSome = true then x (Classical.choose h) else none

theorem limO_some {α : Type} {x : Nat → Option α} {r : α} (hup : ∀ n m, n ≤ m → ∀ r, x n = some r → x m = some r) : limO x = some r ↔ ∃ n, x n = some r := by
  unfold limO
  constructor
  · intro e
    split at e
    · exact ⟨_, e⟩
    · cases e
  · rintro ⟨n, hn⟩
    have h : ∃ n, (x n).isSome = true := ⟨n, by rw [hn]; rfl⟩
    rw [dif_pos h]
    obtain ⟨u, hu⟩ := Option.isSome_iff_exists.1 (Classical.choose_spec h)
    have h1 := hup _ _ (Nat.le_max_left n (Classical.choose h)) _ hn
    have h2 := hup _ _ (Nat.le_max_right n (Classical.choose h)) _ hu
    rw [h1] at h2
    cases h2
    exact hu

noncomputable def loopW : LoopF := fun f s => limO fun n => loopN n f s
noncomputable def callW (E : Env) : CallF := fun f a h => limO fun n => callN E n f a h

theorem loopW_some {f : St → Option (Out × St)} {s : St} {r : Out × St} : loopW f s = some r ↔ ∃ n, loopN n f s = some r :=
  limO_some fun n m h r e => loopN_mono n m h f f s r (fun _ _ h => h) e

theorem callW_some {E : Env} (hp : E.plain) {f : Nat} {a : List AV} {h : Heap} {r : AV × Heap} : callW E f a h = some r ↔ ∃ n, callN E n f a h = some r :=
  limO_some fun _ _ hnm r e => callN_mono hp hnm f a h r e

theorem loopN_lim {F : St → Option (Out × St)} {Fn : Nat → St → Option (Out × St)} (hup : ∀ n m, n ≤ m → FLe (Fn n) (Fn m)) (hF : ∀ s r, F s = some r → ∃ n, Fn n s = some r) : ∀ (k : Nat) (s : St) (r : Out × St), loopN k F s = some r → ∃ n, loopN k (Fn n) s = some r
  | 0, s, r, e => by cases e
  | k + 1, s, r, e => by
    simp only [loopN] at e
    cases hs : F s with
    | none => rw [hs] at e; cases e
    | some q =>
      rw [hs] at e
      obtain ⟨n1, h1⟩ := hF _ _ hs
      obtain ⟨o, s'⟩ := q
      cases o with
      | normal =>
        obtain ⟨n2, h2⟩ := loopN_lim hup hF k s' r e
        refine ⟨max n1 n2, ?_⟩
        simp only [loopN]
        rw [hup _ _ (Nat.le_max_left n1 n2) _ _ h1]
        exact loopN_mono k k (Nat.le_refl _) _ _ _ _ (hup _ _ (Nat.le_max_right n1 n2)) h2
      | exit i => exact ⟨n1, by simp only [loopN]; rw [h1]; exact e⟩
      | ret => exact ⟨n1, by simp only [loopN]; rw [h1]; exact e⟩

section
variable {T : Tab} {sh : Nat → Bool} {Cn : Nat → CallF} {C : CallF}

theorem evCode_lim (hC : Rises Cn C) : ∀ (c : Code) (R : Type) (K : Out → Tm → Heap → Option R) (Kn : Nat → Out → Tm → Heap → Option R) (r : R) (tm : Tm) (h : Heap),
    (∀ n m, n ≤ m → ∀ o tm h, Kn n o tm h = some r → Kn m o tm h = some r) → (∀ o tm h, K o tm h = some r → ∃ n, Kn n o tm h = some r) →
    evCode optB T sh C loopW noD c tm h K = some r → ∃ n, evCode optB T sh (Cn n) (loopN n) noD c tm h (Kn n) = some r := by
  intro c
  induction c with
  | skip => intro R K Kn r tm h hup hK e; exact hK _ _ _ e
  | label l => intro R K Kn r tm h hup hK e; exact hK _ _ _ e
  | exit id => intro R K Kn r tm h hup hK e; exact hK _ _ _ e
  | ret => intro R K Kn r tm h hup hK e; exact hK _ _ _ e
  | goto l => intro R K Kn r tm h hup hK e; cases e
  | refuse => intro R K Kn r tm h hup hK e; cases e
  | rangeFunc f p x y => intro R K Kn r tm h hup hK e; cases e
  | region id ops draw =>
    intro R K Kn r tm h hup hK e
    cases draw with
    | true => exact evDr_lim hC (Kn := fun n => Kn n .normal) (fun n m hnm => hup n m hnm .normal) (fun tm h => hK .normal tm h) _ _ _ _ _ _ e
    | false => exact evOps_lim hC (Kn := fun n => Kn n .normal) (fun n m hnm => hup n m hnm .normal) (fun tm h => hK .normal tm h) _ _ _ e
  | seq x y ihx ihy =>
    intro R K Kn r tm h hup hK e
    refine ihx R _ (fun n => outSeq (fun tm h => evCode optB T sh (Cn n) (loopN n) noD y tm h (Kn n)) (Kn n)) r tm h ?_ ?_ e
    · intro n m hnm o tm h e
      cases o with
      | normal => exact evCode_mono (hC.up n m hnm) (loopN_mono n m hnm) y R _ _ r tm h (hup n m hnm) e
      | exit i => exact hup n m hnm _ _ _ e
      | ret => exact hup n m hnm _ _ _ e
    · intro o tm h e
      cases o with
      | normal => exact ihy R K Kn r tm h hup hK e
      | exit i => exact hK _ _ _ e
      | ret => exact hK _ _ _ e
  | cond c x y ihx ihy =>
    intro R K Kn r tm h hup hK e
    obtain ⟨t, h1, e⟩ := Option.bind_eq_some_iff.1 e
    cases t with
    | true =>
      obtain ⟨n, hn⟩ := ihx R K Kn r tm h hup hK e
      exact ⟨n, optB_some h1 hn⟩
    | false =>
      obtain ⟨n, hn⟩ := ihy R K Kn r tm h hup hK e
      exact ⟨n, optB_some h1 hn⟩
  | block id x ih =>
    intro R K Kn r tm h hup hK e
    refine ih R _ (fun n => outBlock id (Kn n)) r tm h ?_ ?_ e
    · intro n m hnm o tm h e
      cases o with
      | normal => exact hup n m hnm _ _ _ e
      | ret => exact hup n m hnm _ _ _ e
      | exit i =>
        simp only [outBlock] at e ⊢
        split at e
        · rename_i q; rw [if_pos q]; exact hup n m hnm _ _ _ e
        · rename_i q; rw [if_neg q]; exact hup n m hnm _ _ _ e
    · intro o tm h e
      cases o with
      | normal => exact hK _ _ _ e
      | ret => exact hK _ _ _ e
      | exit i =>
        simp only [outBlock] at e ⊢
        split at e
        · rename_i q; simp only [if_pos q]; exact hK _ _ _ e
        · rename_i q; simp only [if_neg q]; exact hK _ _ _ e
  | scope x ih => intro R K Kn r tm h hup hK e; exact ih R K Kn r tm h hup hK e
  | loop x ih =>
    intro R K Kn r tm h hup hK e
    obtain ⟨q, h1, e⟩ := Option.bind_eq_some_iff.1 e
    obtain ⟨k, hk⟩ := loopW_some.1 h1
    have hFup : ∀ n m, n ≤ m → FLe (fun s => evCode optB T sh (Cn n) (loopN n) noD x s.tm s.h outK) (fun s => evCode optB T sh (Cn m) (loopN m) noD x s.tm s.h outK) :=
      fun n m hnm s r e => evCode_mono (hC.up n m hnm) (loopN_mono n m hnm) x _ _ _ r s.tm s.h (fun _ _ _ h => h) e
    obtain ⟨n1, h2⟩ := loopN_lim (Fn := fun n s => evCode optB T sh (Cn n) (loopN n) noD x s.tm s.h outK) hFup (fun s r e => ih (Out × St) outK (fun _ => outK) r s.tm s.h (fun _ _ _ _ _ _ h => h) (fun _ _ _ h => ⟨0, h⟩) e) k _ _ hk
    obtain ⟨n2, h3⟩ := hK _ _ _ e
    refine ⟨max k (max n1 n2), ?_⟩
    refine optB_some (loopN_mono k _ (Nat.le_max_left _ _) _ _ _ _ (hFup n1 _ (Nat.le_trans (Nat.le_max_left n1 n2) (Nat.le_max_right _ _))) h2) ?_
    exact hup n2 _ (Nat.le_trans (Nat.le_max_right n1 n2) (Nat.le_max_right _ _)) _ _ _ h3

end
end Go.Proofs.Ytmhamnnfcmkcfaa

/- The equations of calls, without fuel. -/
namespace Go.Proofs.Ytmhamnnfcmkcfaa
open Go.RowKit

theorem rises {E : Env} (hp : E.plain) : Rises (callN E) (callW E) := ⟨fun _ _ h => callN_mono hp h, fun _ _ _ _ e => (callW_some hp).1 e⟩

theorem evFunc_lim {E : Env} (hp : E.plain) {fn : Func} {args : List AV} {h : Heap} {r : AV × Heap} (e : evFunc optB E.T E.M.shared (callW E) loopW noD fn args h = some r) :
    ∃ n, evFunc optB E.T E.M.shared (callN E n) (loopN n) noD fn args h = some r := by
  unfold evFunc at e ⊢
  cases hb : fn.body with
  | none => rw [hb] at e; cases e
  | some c =>
    rw [hb] at e
    exact evCode_lim (rises hp) c _ _ (fun _ => endK optB E.T fn.results.toList) _ _ _ (fun _ _ _ _ _ _ h => h) (fun _ _ _ h => ⟨0, h⟩) e

/-- A call on the caller's own heap. -/
theorem callW_shared {E : Env} (hp : E.plain) {f : Nat} {fn : Func} (hf : E.fn f = some fn) (hs : E.M.shared f = true) {args : List AV} {h : Heap} {r : AV × Heap}
    (e : evFunc optB E.T E.M.shared (callW E) loopW noD fn args h = some r) : callW E f args h = some r := by
  obtain ⟨n, hn⟩ := evFunc_lim hp e
  refine (callW_some hp).2 ⟨n + 1, ?_⟩
  have hD : E.D f = noD := by rw [hp]
  simp only [callN, callBy]
  rw [if_pos hs, hf, Option.bind_some, hD]
  exact hn

/-- A call on a heap of its own. -/
theorem callW_pure {E : Env} (hp : E.plain) {f : Nat} {fn : Func} (hf : E.fn f = some fn) (hs : E.M.shared f = false) (hm : E.M.prim f = none) {args args' : List AV} {ids : List Nat} {h hr : Heap} {r v : AV}
    (ha : frzVs frzDepth h args = some (args', ids)) (e : evFunc optB E.T E.M.shared (callW E) loopW noD fn args' [] = some (r, hr)) (hv : frzR frzDepth hr r = some v) : callW E f args h = some (v, settle h ids) := by
  obtain ⟨n, hn⟩ := evFunc_lim hp e
  refine (callW_some hp).2 ⟨n + 1, ?_⟩
  have hD : E.D f = noD := by rw [hp]
  simp only [callN, callBy]
  rw [if_neg (by rw [hs]; exact Bool.false_ne_true), ha, Option.bind_some, hm]
  simp only [hf, Option.bind_some, hD, hn, hv]

/-- A call that a plain function tells. -/
theorem callW_prim {E : Env} (hp : E.plain) {f : Nat} {g : List AV → Option AV} (hs : E.M.shared f = false) (hm : E.M.prim f = some g) {args args' : List AV} {ids : List Nat} {h : Heap} {v : AV}
    (ha : frzVs frzDepth h args = some (args', ids)) (e : g args' = some v) : callW E f args h = some (v, settle h ids) := by
  refine (callW_some hp).2 ⟨1, ?_⟩
  simp only [callN, callBy]
  rw [if_neg (by rw [hs]; exact Bool.false_ne_true), ha, Option.bind_some, hm]
  simp only [e, Option.bind_some]

/-- The entry: what a row needs. -/
theorem calls_of_ev {P : Program} {E : Env} (hE : EnvOk P E) (hp : E.plain) {f : Nat} {fn : Func} {args : List AV} {v : AV} {h' : Heap} (hf : E.fn f = some fn) (e : evFunc optB E.T E.M.shared (callW E) loopW noD fn args [] = some (v, h'))
    {S : Settled} {w : World} {cargs : List Value} (hL : RepL ⟨S, fun _ => none⟩ args cargs) (hS : ∀ b o u, S b o = some u → w.cell? ⟨b, o, none⟩ = some u) :
    Calls P f cargs.toArray w fun
      | .returned cv, w' => Below w.heap.size w w' ∧ ∃ G', SLe S G'.S ∧ Inv w.heap.size G' h' w' ∧ Rep G' v cv
      | _, _ => False := by
  obtain ⟨n, hn⟩ := evFunc_lim hp e
  have hD : E.D f = noD := by rw [hp]
  exact calls_of_callN hE (n := n) hf (by rw [hD]; exact hn) hL hS

/-! ### Loops, round by round -/

theorem loopW_step {f : St → Option (Out × St)} {s s' : St} {r : Out × St} (h1 : f s = some (.normal, s')) (h2 : loopW f s' = some r) : loopW f s = some r := by
  obtain ⟨n, hn⟩ := loopW_some.1 h2
  refine loopW_some.2 ⟨n + 1, ?_⟩
  simp only [loopN]
  rw [h1]
  exact hn

theorem loopW_exit {f : St → Option (Out × St)} {s s' : St} {i : Nat} (h1 : f s = some (.exit i, s')) : loopW f s = some (.exit i, s') := by
  refine loopW_some.2 ⟨1, ?_⟩
  simp only [loopN]
  rw [h1]

theorem loopW_ret {f : St → Option (Out × St)} {s s' : St} (h1 : f s = some (.ret, s')) : loopW f s = some (.ret, s') := by
  refine loopW_some.2 ⟨1, ?_⟩
  simp only [loopN]
  rw [h1]

end Go.Proofs.Ytmhamnnfcmkcfaa

/- Settled lists, taken apart and put together. -/
namespace Go.Proofs.Ytmhamnnfcmkcfaa
open Go.RowKit

theorem frzCells_sv (F : AV → Option (SV × List Nat)) (hF : ∀ s, F (.sv s) = some (s, [])) : ∀ (l : List SV), frzCells F (l.map .sv) = some (l, [])
  | [] => rfl
  | s :: l => by
    simp only [List.map_cons, frzCells, hF, frzCells_sv F hF l, Option.bind_some, List.nil_append]

theorem frzC_sv (n : Nat) (h : Heap) (s : SV) : frzC n h (.sv s) = some (s, []) := by cases n <;> rfl

theorem frzCells_svs (n : Nat) (h : Heap) (l : List SV) : frzCells (frzC n h) (l.map .sv) = some (l, []) := frzCells_sv _ (frzC_sv n h) l

theorem chunk_flatten {α : Type} {esz : Nat} : ∀ (xs : List (List α)), (∀ x ∈ xs, x.length = esz) → chunk esz xs.length xs.flatten = xs
  | [], _ => rfl
  | x :: xs, h => by
    have hx := h x (List.mem_cons_self ..)
    simp only [List.length_cons, List.flatten_cons, chunk]
    rw [List.take_append_of_le_length (by omega), List.drop_append_of_le_length (by omega), List.take_of_length_le (by omega), List.drop_of_length_le (by omega), List.nil_append, chunk_flatten xs fun y hy => h y (List.mem_cons_of_mem _ hy)]

theorem takeN_all {α : Type} {cs : List α} {n : Nat} (h : cs.length = n) : takeN cs 0 n = some cs := by
  unfold takeN
  simp [h, List.take_of_length_le (Nat.le_of_eq h)]

theorem rows_sv {esz : Nat} {xs : List (List SV)} (hs : ∀ x ∈ xs, x.length = esz) (h : Heap) : rowsOf esz (.sv (.slice xs)) h = some (xs.length, xs.flatten.map .sv) := by
  simp only [rowsOf]
  rw [if_pos (List.all_eq_true.2 fun c hc => by simpa using hs c hc)]

/-- A slice of settled rows, settled. -/
theorem frz_own {n id esz : Nat} {h : Heap} {xs : List (List SV)} {wr : Bool} (he : 0 < esz) (hs : ∀ x ∈ xs, x.length = esz) (hid : h[id]? = some (.cells esz (xs.flatten.map .sv) wr)) : frzC (n + 1) h (.own id 0 xs.length) = some (.slice xs, [id]) := by
  simp only [frzC, hid]
  rw [if_pos he, takeN_all (by rw [List.length_map, flatten_len xs hs])]
  simp only [Option.bind_some, frzCells_svs, chunk_flatten xs hs]

end Go.Proofs.Ytmhamnnfcmkcfaa

/- Regions that draw their order: what the text's order comes to, as facts of each operation. -/
namespace Go.Proofs.Ytmhamnnfcmkcfaa
open Go.RowKit

/-! ### What an operation looks at -/

theorem map_ev {tm tm' : Tm} {xs : Array Operand} (h : ∀ x ∈ xs, ev tm x = ev tm' x) : xs.toList.map (ev tm) = xs.toList.map (ev tm') := List.map_congr_left fun x hx => h x (by simpa using hx)

theorem evParts_same {tm tm' : Tm} {ps : Array (Nat × Operand)} (h : ∀ x ∈ (ps.toList.map (·.2)).toArray, ev tm x = ev tm' x) : evParts tm ps = evParts tm' ps :=
  List.map_congr_left fun p hp => by rw [h p.2 (by simp only [List.mem_toArray, List.mem_map]; exact ⟨p, hp, rfl⟩)]

theorem one_ev {tm tm' : Tm} {xs : Array Operand} (h : ∀ x ∈ xs, ev tm x = ev tm' x) {α : Type} {F : AV → α} {x : Operand} (e : xs.toList = [x]) : F (ev tm x) = F (ev tm' x) := by
  rw [h x (by have : x ∈ xs.toList := by rw [e]; simp
              simpa using this)]

theorem two_ev {tm tm' : Tm} {xs : Array Operand} (h : ∀ x ∈ xs, ev tm x = ev tm' x) {α : Type} {F : AV → AV → α} {x y : Operand} (e : xs.toList = [x, y]) : F (ev tm x) (ev tm y) = F (ev tm' x) (ev tm' y) := by
  rw [h x (by have : x ∈ xs.toList := by rw [e]; simp
              simpa using this), h y (by have : y ∈ xs.toList := by rw [e]; simp
                                         simpa using this)]

theorem evPure_same {T : Tab} {tm tm' : Tm} {hp : Heap} {op : Op} (h : ∀ x ∈ op.operands, ev tm x = ev tm' x) : evPure T tm hp op = evPure T tm' hp op := by
  cases op <;> simp only [Op.operands] at h <;> simp only [evPure] <;> try rfl
  case move x => rw [h _ (by simp)]
  case assign x => rw [h _ (by simp)]
  case pick c a b => rw [h c (by simp), h a (by simp), h b (by simp)]
  case build t ps => rw [evParts_same h]
  case load t x => rw [h _ (by simp)]
  case nilCheck x => rw [h _ (by simp)]
  case binOp op t x y yt => rw [h x (by simp), h y (by simp)]
  case unOp op t x => rw [h _ (by simp)]
  case convert a b x => rw [h _ (by simp)]
  case makeFunc f first caps =>
    cases f <;> simp only [] <;> try rfl
    rw [map_ev (xs := first) fun x hx => h x (by simp [hx]), map_ev (xs := caps) fun x hx => h x (by simp [hx])]
  case slice t x lo hi m =>
    cases m with
    | some m => rfl
    | none =>
      have e1 : lo.map (ev tm) = lo.map (ev tm') := by cases lo with | none => rfl | some y => simp only [Option.map_some]; rw [h y (by simp)]
      have e2 : hi.map (ev tm) = hi.map (ev tm') := by cases hi with | none => rfl | some y => simp only [Option.map_some]; rw [h y (by simp)]
      simp only [h x (by simp), e1, e2]
  case fieldAddr t x i => rw [h _ (by simp)]
  case field t x i => rw [h _ (by simp)]
  case indexAddr t x i => rw [h x (by simp), h i (by simp)]
  case index t x i => rw [h x (by simp), h i (by simp)]
  case extract x i => rw [h _ (by simp)]
  case call c =>
    obtain ⟨callee, xs, ts⟩ := c
    have hx : ∀ x ∈ xs, ev tm x = ev tm' x := fun x q => h x (by simp [Call.operands, q])
    cases callee with
    | builtin b =>
      cases b <;> try rfl
      simp only
      split
      · rename_i x t e1 e2
        exact one_ev hx (F := fun v => (T.kind t).bind fun k => ln k v) e1
      · rfl
    | _ => rfl

theorem evAct_same {T : Tab} {C : CallF} {tm tm' : Tm} {hp : Heap} {op : Op} (h : ∀ x ∈ op.operands, ev tm x = ev tm' x) : evAct T C tm hp op = evAct T C tm' hp op := by
  cases op <;> simp only [Op.operands] at h <;> simp only [evAct] <;> try rfl
  case box t x => rw [h _ (by simp)]
  case store t a x => rw [h a (by simp), h x (by simp)]
  case buildSlice t n ps => rw [evParts_same h]
  case makeSlice t a b => rw [h a (by simp), h b (by simp)]
  case makeMap t r => cases r <;> rfl
  case insert t m k v => rw [h m (by simp), h k (by simp), h v (by simp)]
  case mapUpdate t m k v => rw [h m (by simp), h k (by simp), h v (by simp)]
  case lookup t m k ok => rw [h m (by simp), h k (by simp)]
  case convert a b x => simp only [h x (by simp)]
  case call c =>
    obtain ⟨callee, xs, ts⟩ := c
    have hx : ∀ x ∈ xs, ev tm x = ev tm' x := fun x q => h x (by simp [Call.operands, q])
    cases callee with
    | builtin b =>
      cases b <;> try rfl
      · simp only
        split
        · rename_i x y t u e1 e2
          exact two_ev hx (F := fun v v' => (T.kind t).bind fun k => (T.kind u).bind fun k2 => if rowKind k2 then apA k v v' hp else none) e1
        · rfl
      · simp only
        split
        · rename_i x y t u e1 e2
          exact two_ev hx (F := fun v v' => (T.kind t).bind fun k => (T.kind u).bind fun k2 => if rowKind k2 then cpA k v v' hp else none) e1
        · rfl
    | value f =>
      simp only
      rw [h f (by simp [Call.operands]), map_ev hx]
    | _ => rfl

theorem evQ_same {C : CallF} {tm tm' : Tm} {op : Op} (h : ∀ x ∈ op.operands, ev tm x = ev tm' x) : evQ C tm op = evQ C tm' op := by
  unfold evQ
  split
  · rename_i f xs ts
    rw [map_ev fun x hx => h x (by simp [Op.operands, Call.operands, hx])]
  · rfl

theorem valOf_same {tm tm' : Tm} {o : Oper} (h : ∀ x ∈ o.op.operands, ev tm x = ev tm' x) : valOf tm o = valOf tm' o := by
  obtain ⟨dst, op, ty, pos, after, guard⟩ := o
  simp only at h
  unfold valOf
  cases guard with
  | some g => rfl
  | none =>
    cases op <;> simp only [Op.operands] at h <;> simp only <;> try rfl
    case move x => rw [h _ (by simp)]
    case assign x => rw [h _ (by simp)]
    case makeFunc f first caps =>
      cases f <;> simp only [] <;> try rfl
      rw [map_ev (xs := first) fun x hx => h x (by simp [hx]), map_ev (xs := caps) fun x hx => h x (by simp [hx])]

/-- What a temporary that is looked at holds alone matters. -/
theorem ev_looks {ops : Array Oper} {o : Oper} {tm tm' : Tm} (h : ∀ t ∈ o.looksAt ops, tm t = tm' t) {x : Operand} (hx : x ∈ o.op.operands) : ev tm x = ev tm' x := by
  cases x with
  | tmp t => exact h t (List.mem_append_left _ (List.mem_filterMap.2 ⟨.tmp t, by simpa using hx, rfl⟩))
  | _ => rfl

theorem guardOf_looks {ops : Array Oper} {o : Oper} {tm tm' : Tm} (h : ∀ t ∈ o.looksAt ops, tm t = tm' t) : guardOf tm ops.toList o = guardOf tm' ops.toList o := by
  unfold guardOf
  cases hg : o.guard with
  | none => rfl
  | some p =>
    obtain ⟨j, want⟩ := p
    simp only [Array.getElem?_toList]
    cases hj : ops[j]? with
    | none => rfl
    | some g =>
      simp only
      cases hd : g.dst with
      | none => rfl
      | some d =>
        simp only
        rw [h d (List.mem_append_right _ (by simp [hg, hj, hd]))]

/-! ### What the text's order comes to -/

theorem valOf_notM {T : Tab} {sh : Nat → Bool} {tm : Tm} {o : Oper} {u : AV} (h : valOf tm o = some u) : isM T sh o.op = false := by
  obtain ⟨dst, op, ty, pos, after, guard⟩ := o
  unfold valOf at h
  simp only at h ⊢
  split at h
  · cases h
  · split at h <;> first
      | rfl
      | cases h

theorem isM_act {T : Tab} {sh : Nat → Bool} {op : Op} (h : isM T sh op = true) : isAct T op = true := by
  unfold isM at h
  split at h
  · rfl
  · exact h

section
variable (T : Tab) (sh : Nat → Bool) (C : CallF) (anc : Array Nat) (ms : List Nat) (all : List Oper)

def Fact (N : Nat) (o : Oper) (i m : Nat) (v : AV) (hp : Nat → Heap) (tm : Tm) : Prop :=
  match valOf tm o with
  | some u => v = u
  | none =>
    if isM T sh o.op then gO (guardOf tm all o) (evAct T C tm (hp m) o.op) (.dead, hp m) = some (v, hp (m + 1))
    else if isQ sh o.op then ∃ h', gO (guardOf tm all o) (evQ C tm o.op) (.dead, []) = some (v, h')
    else
      match o.op with
      | .load t a => ∃ z, T.size t = some z ∧ ∀ k, mBefore anc ms i ≤ k → k ≤ mUpto anc ms i → k ≤ N → gO (guardOf tm all o) (ld z.1 z.2 (ev tm a) (hp k)) .dead = some v
      | op => gO (guardOf tm all o) (evPure T tm (cutH anc ms i op (hp m)) op) .dead = some v

def Facts (N : Nat) (v : Nat → AV) (hp : Nat → Heap) : List Oper → Nat → Nat → Tm → Prop
  | [], _, _, _ => True
  | o :: rest, i, m, tm => Fact T sh C anc ms all N o i m (v i) hp tm ∧ Facts N v hp rest (i + 1) (if isM T sh o.op then m + 1 else m) (updO tm o.dst (v i))

def tmR (v : Nat → AV) : List Oper → Nat → Tm → Tm
  | [], _, tm => tm
  | o :: rest, i, tm => tmR v rest (i + 1) (updO tm o.dst (v i))

def cM : List Oper → Nat → Nat
  | [], m => m
  | o :: rest, m => cM rest (if isM T sh o.op then m + 1 else m)
end

section
variable {T : Tab} {sh : Nat → Bool} {C : CallF} {anc : Array Nat} {ms : List Nat} {all : List Oper}

theorem cM_ge : ∀ (l : List Oper) (m : Nat), m ≤ cM T sh l m
  | [], m => Nat.le_refl _
  | o :: rest, m => by
    have := cM_ge rest (if isM T sh o.op then m + 1 else m)
    simp only [cM]
    split at this <;> simp_all <;> omega

theorem Facts_congr {N : Nat} {v v' : Nat → AV} {hp : Nat → Heap} : ∀ (l : List Oper) (i m : Nat) (tm : Tm), (∀ k, i ≤ k → v k = v' k) → Facts T sh C anc ms all N v hp l i m tm → Facts T sh C anc ms all N v' hp l i m tm
  | [], i, m, tm, _, _ => trivial
  | o :: rest, i, m, tm, hv, h => by
    obtain ⟨h1, h2⟩ := h
    refine ⟨by rw [← hv i (Nat.le_refl _)]; exact h1, ?_⟩
    rw [← hv i (Nat.le_refl _)]
    exact Facts_congr rest (i + 1) _ _ (fun k hk => hv k (by omega)) h2

theorem tmR_congr {v v' : Nat → AV} : ∀ (l : List Oper) (i : Nat) (tm : Tm), (∀ k, i ≤ k → v k = v' k) → tmR v l i tm = tmR v' l i tm
  | [], i, tm, _ => rfl
  | o :: rest, i, tm, hv => by
    simp only [tmR]
    rw [← hv i (Nat.le_refl _)]
    exact tmR_congr rest (i + 1) _ fun k hk => hv k (by omega)

theorem gChk_some {R : Type} {x : Option R} {r : R} : ∀ (ps : List Pend) (h : Heap), gChk ps h x = some r → (∀ p ∈ ps, gO p.g (ld p.n p.agg p.a h) .dead = some p.v) ∧ x = some r
  | [], _, e => ⟨fun p hp => by simp at hp, e⟩
  | p :: ps, h, e => by
    unfold gChk at e
    split at e
    · rename_i q
      obtain ⟨h1, h2⟩ := gChk_some ps h e
      exact ⟨fun p' hp => by rcases List.mem_cons.1 hp with rfl | hp; exact q; exact h1 p' hp, h2⟩
    · cases e

theorem gPast_some {R : Type} {g : Option (AV × Bool)} {n : Nat} {agg : Bool} {a v : AV} {x : Option R} {r : R} : ∀ (hs : List Heap), gPast g n agg a v hs x = some r → (∀ h ∈ hs, gO g (ld n agg a h) .dead = some v) ∧ x = some r
  | [], e => ⟨fun p hp => by simp at hp, e⟩
  | h :: hs, e => by
    unfold gPast at e
    split at e
    · rename_i q
      obtain ⟨h1, h2⟩ := gPast_some hs e
      exact ⟨fun p' hp => by rcases List.mem_cons.1 hp with rfl | hp; exact q; exact h1 p' hp, h2⟩
    · cases e

theorem evDr_facts {R : Type} {K : Tm → Heap → Option R} {r : R} : ∀ (rest : List Oper) (i : Nat) (hs : List Heap) (pd : List Pend) (tm : Tm) (h : Heap), evDr optB T sh C anc ms all K rest i hs pd tm h = some r →
    ∃ (v : Nat → AV) (hp : Nat → Heap), (∀ k x, hs[k]? = some x → hp k = x) ∧ hp hs.length = h ∧ Facts T sh C anc ms all (cM T sh rest hs.length) v hp rest i hs.length tm ∧
      (∀ p ∈ pd, ∀ k, hs.length < k → k ≤ p.last → k ≤ cM T sh rest hs.length → gO p.g (ld p.n p.agg p.a (hp k)) .dead = some p.v) ∧ K (tmR v rest i tm) (hp (cM T sh rest hs.length)) = some r
  | [], i, hs, pd, tm, h, e => by
    refine ⟨fun _ => .undef, fun k => (hs[k]?).getD h, fun k x hx => by simp [hx], by simp, trivial, fun p _ k h1 _ h2 => ?_, ?_⟩
    · simp only [cM] at h2; omega
    · simp only [cM, tmR, List.getElem?_eq_none (Nat.le_refl _), Option.getD_none]; exact e
  | o :: rest, i, hs, pd, tm, h, e => by
    -- an operation that leaves the heap
    have step : ∀ (u : AV) (pd' : List Pend), isM T sh o.op = false → evDr optB T sh C anc ms all K rest (i + 1) hs pd' (updO tm o.dst u) h = some r → (∀ p ∈ pd, p ∈ pd') →
        (∀ hp : Nat → Heap, (∀ k x, hs[k]? = some x → hp k = x) → hp hs.length = h → (∀ p ∈ pd', ∀ k, hs.length < k → k ≤ p.last → k ≤ cM T sh rest hs.length → gO p.g (ld p.n p.agg p.a (hp k)) .dead = some p.v) →
          Fact T sh C anc ms all (cM T sh rest hs.length) o i hs.length u hp tm) →
        ∃ (v : Nat → AV) (hp : Nat → Heap), (∀ k x, hs[k]? = some x → hp k = x) ∧ hp hs.length = h ∧ Facts T sh C anc ms all (cM T sh (o :: rest) hs.length) v hp (o :: rest) i hs.length tm ∧
          (∀ p ∈ pd, ∀ k, hs.length < k → k ≤ p.last → k ≤ cM T sh (o :: rest) hs.length → gO p.g (ld p.n p.agg p.a (hp k)) .dead = some p.v) ∧ K (tmR v (o :: rest) i tm) (hp (cM T sh (o :: rest) hs.length)) = some r := by
      intro u pd' hM e hpd hF
      obtain ⟨v, hp, q1, q2, q3, q4, q5⟩ := evDr_facts rest (i + 1) hs pd' _ h e
      have hc : cM T sh (o :: rest) hs.length = cM T sh rest hs.length := by simp only [cM, hM]; rfl
      have hvv : ∀ k, i + 1 ≤ k → v k = (fun k => if k = i then u else v k) k := fun k hk => by simp only; rw [if_neg (by omega)]
      refine ⟨fun k => if k = i then u else v k, hp, q1, q2, ?_, ?_, ?_⟩
      · rw [hc]
        refine ⟨?_, ?_⟩
        · simp only [if_true]; exact hF hp q1 q2 q4
        · simp only [if_true, hM]
          exact Facts_congr rest (i + 1) _ _ hvv q3
      · rw [hc]; exact fun p hp => q4 p (hpd p hp)
      · rw [hc]
        simp only [tmR, if_true]
        rw [← tmR_congr rest (i + 1) _ hvv]
        exact q5
    simp only [evDr] at e
    split at e
    · rename_i u hu
      refine step u pd (valOf_notM hu) e (fun p hp => hp) fun hp _ _ _ => ?_
      unfold Fact
      rw [hu]
    · rename_i hval
      split at e
      · rename_i hM
        obtain ⟨⟨u, h'⟩, h1, e⟩ := Option.bind_eq_some_iff.1 e
        obtain ⟨hpd, e⟩ := gChk_some _ _ e
        obtain ⟨v, hp, q1, q2, q3, q4, q5⟩ := evDr_facts rest (i + 1) (hs ++ [h]) pd _ h' e
        simp only [List.length_append, List.length_cons, List.length_nil, Nat.zero_add] at q2 q3 q4 q5
        have hc : cM T sh (o :: rest) hs.length = cM T sh rest (hs.length + 1) := by simp only [cM, hM, if_true]
        have hvv : ∀ k, i + 1 ≤ k → v k = (fun k => if k = i then u else v k) k := fun k hk => by simp only; rw [if_neg (by omega)]
        have hh : hp hs.length = h := q1 _ _ (by simp)
        refine ⟨fun k => if k = i then u else v k, hp, fun k x hx => q1 k x (by rw [List.getElem?_append_left (List.getElem?_eq_some_iff.1 hx).1]; exact hx), hh, ?_, ?_, ?_⟩
        · rw [hc]
          refine ⟨?_, ?_⟩
          · simp only [if_true]
            unfold Fact
            rw [hval]
            simp only [hM, if_true]
            rw [hh, q2]
            exact h1
          · simp only [if_true, hM]
            exact Facts_congr rest (i + 1) _ _ hvv q3
        · rw [hc]
          intro p hpp k k1 k2 k3
          by_cases hk : k = hs.length + 1
          · subst hk
            rw [q2]
            exact hpd p (List.mem_filter.2 ⟨hpp, by simpa using k2⟩)
          · exact q4 p hpp k (by omega) k2 k3
        · rw [hc]
          simp only [tmR, if_true]
          rw [← tmR_congr rest (i + 1) _ hvv]
          exact q5
      · rename_i hM
        have hM' : isM T sh o.op = false := by simpa using hM
        split at e
        · rename_i hQ
          obtain ⟨⟨u, h'⟩, h1, e⟩ := Option.bind_eq_some_iff.1 e
          refine step u pd hM' e (fun p hp => hp) fun hp _ _ _ => ?_
          unfold Fact
          rw [hval]
          simp only [hM', hQ, if_true]
          exact ⟨h', h1⟩
        · rename_i hQ
          have hQ' : isQ sh o.op = false := by simpa using hQ
          split at e
          · rename_i t a hop
            split at e
            · cases e
            · rename_i z hz
              obtain ⟨u, h1, e⟩ := Option.bind_eq_some_iff.1 e
              obtain ⟨hpast, e⟩ := gPast_some _ e
              refine step u _ hM' e (fun p hp => List.mem_cons_of_mem _ hp) fun hp p1 p2 p3 => ?_
              unfold Fact
              rw [hval]
              simp only [hM', hQ', hop]
              refine ⟨z, hz, fun k k1 k2 k3 => ?_⟩
              rcases Nat.lt_trichotomy k hs.length with q | q | q
              · rw [p1 k hs[k] (List.getElem?_eq_getElem q)]
                refine hpast _ ?_
                rw [List.mem_iff_getElem?]
                refine ⟨k - mBefore anc ms i, ?_⟩
                rw [List.getElem?_drop, show mBefore anc ms i + (k - mBefore anc ms i) = k by omega]
                exact List.getElem?_eq_getElem q
              · subst q; rw [p2]; exact h1
              · exact p3 _ (List.mem_cons_self ..) k q k2 k3
          · rename_i hop
            obtain ⟨u, h1, e⟩ := Option.bind_eq_some_iff.1 e
            refine step u pd hM' e (fun p hp => hp) fun hp _ p2 _ => ?_
            unfold Fact
            rw [hval]
            simp only [hM', hQ']
            rw [if_neg Bool.false_ne_true, if_neg Bool.false_ne_true]
            rw [p2]
            exact h1

end
end Go.Proofs.Ytmhamnnfcmkcfaa

/- Regions that draw their order: any order comes to what the text's order comes to. -/
namespace Go.Proofs.Ytmhamnnfcmkcfaa
open Go.RowKit

def Anc (ops : Array Oper) (i k : Nat) : Prop := ((Region.before ops).getD i 0).testBit k = true

/-- What is checked of a region. -/
structure DrawP (T : Tab) (sh : Nat → Bool) (ops : Array Oper) : Prop where
  ssa : ∀ (i j : Nat) (oi oj : Oper) (d : Nat), ops[i]? = some oi → ops[j]? = some oj → oi.dst = some d → oj.dst = some d → i = j
  look : ∀ (i j : Nat) (oi oj : Oper) (t : Nat), ops[i]? = some oi → ops[j]? = some oj → t ∈ oi.looksAt ops → oj.dst = some t → (j < i ∧ Anc ops i j) ∨ i = j ∨ (i < j ∧ Anc ops j i)
  clo : ∀ (i : Nat) (o : Oper) (k : Nat), ops[i]? = some o → Anc ops i k → ∃ e ∈ o.after, Region.binds .any e = true ∧ (k = e.on ∨ Anc ops e.on k)
  dep : ∀ (i : Nat) (o : Oper) (e : Edge), ops[i]? = some o → e ∈ o.after → Region.binds .any e = true → e.on < i
  chain : ∀ (i j : Nat) (oi oj : Oper), i < j → ops[i]? = some oi → ops[j]? = some oj → isM T sh oi.op = true → isM T sh oj.op = true → Anc ops j i

/-! ### Numbers of operations -/

section
variable {T : Tab} {sh : Nat → Bool} {C : CallF} {anc : Array Nat} {ms : List Nat} {all : List Oper}

theorem Facts_get {N : Nat} {v : Nat → AV} {hp : Nat → Heap} : ∀ (l : List Oper) (i m : Nat) (tm : Tm), Facts T sh C anc ms all N v hp l i m tm → ∀ (k : Nat) (o : Oper), l[k]? = some o →
    Fact T sh C anc ms all N o (i + k) (cM T sh (l.take k) m) (v (i + k)) hp (tmR v (l.take k) i tm)
  | [], i, m, tm, h, k, o, e => by simp at e
  | o' :: rest, i, m, tm, h, 0, o, e => by
    simp only [List.getElem?_cons_zero, Option.some.injEq] at e
    subst e
    exact h.1
  | o' :: rest, i, m, tm, h, k + 1, o, e => by
    have := Facts_get rest (i + 1) _ _ h.2 k o (by simpa using e)
    rw [show i + 1 + k = i + (k + 1) by omega] at this
    exact this

theorem tmR_append {v : Nat → AV} : ∀ (a b : List Oper) (i : Nat) (tm : Tm), tmR v (a ++ b) i tm = tmR v b (i + a.length) (tmR v a i tm)
  | [], b, i, tm => rfl
  | o :: a, b, i, tm => by
    simp only [List.cons_append, tmR, List.length_cons]
    rw [tmR_append a b (i + 1), show i + 1 + a.length = i + (a.length + 1) by omega]

theorem cM_append : ∀ (a b : List Oper) (m : Nat), cM T sh (a ++ b) m = cM T sh b (cM T sh a m)
  | [], b, m => rfl
  | o :: a, b, m => by simp only [List.cons_append, cM]; rw [cM_append a b]

theorem take_succ_some {α : Type} {l : List α} {i : Nat} {o : α} (h : l[i]? = some o) : l.take (i + 1) = l.take i ++ [o] := by
  rw [List.take_add_one, h]; rfl

theorem rk_succ {l : List Oper} {i : Nat} {o : Oper} (h : l[i]? = some o) : cM T sh (l.take (i + 1)) 0 = if isM T sh o.op then cM T sh (l.take i) 0 + 1 else cM T sh (l.take i) 0 := by
  rw [take_succ_some h, cM_append]; rfl

theorem tmT_succ {v : Nat → AV} {l : List Oper} {i : Nat} {o : Oper} {tm : Tm} (h : l[i]? = some o) : tmR v (l.take (i + 1)) 0 tm = updO (tmR v (l.take i) 0 tm) o.dst (v i) := by
  have hl : (l.take i).length = i := by
    have := (List.getElem?_eq_some_iff.1 h).1
    rw [List.length_take]; omega
  rw [take_succ_some h, tmR_append, hl, Nat.zero_add]
  rfl

theorem updO_ne {tm : Tm} {d : Option Nat} {v : AV} {t : Nat} (h : d ≠ some t) : updO tm d v t = tm t := by
  cases d with
  | none => rfl
  | some d =>
    simp only [updO, upd]
    rw [if_neg fun q => h (by rw [q])]

theorem updO_eq {tm : Tm} {v : AV} {t : Nat} : updO tm (some t) v t = v := by simp [updO, upd]

theorem tmT_get {v : Nat → AV} {l : List Oper} {tm : Tm} (ssa : ∀ (i j : Nat) (oi oj : Oper) (d : Nat), l[i]? = some oi → l[j]? = some oj → oi.dst = some d → oj.dst = some d → i = j) (t : Nat) : ∀ (i : Nat), i ≤ l.length →
    (∀ j o, j < i → l[j]? = some o → o.dst = some t → tmR v (l.take i) 0 tm t = v j) ∧ ((∀ j o, j < i → l[j]? = some o → o.dst ≠ some t) → tmR v (l.take i) 0 tm t = tm t)
  | 0, _ => ⟨fun j o h => by omega, fun _ => by simp [tmR]⟩
  | i + 1, hi => by
    obtain ⟨h1, h2⟩ := tmT_get (v := v) (tm := tm) ssa t i (by omega)
    have hl : l[i]? = some l[i] := List.getElem?_eq_getElem (by omega)
    rw [tmT_succ hl]
    refine ⟨fun j o hj hjo hd => ?_, fun hn => ?_⟩
    · by_cases q : j = i
      · subst q
        rw [hl] at hjo
        cases hjo
        rw [hd, updO_eq]
      · rw [updO_ne fun q2 => q (ssa _ _ _ _ _ hjo hl hd q2)]
        exact h1 j o (by omega) hjo hd
    · rw [updO_ne (hn i _ (by omega) hl)]
      exact h2 fun j o hj => hn j o (by omega)

theorem rk_le {l : List Oper} {i j : Nat} (h : i ≤ j) : cM T sh (l.take i) 0 ≤ cM T sh (l.take j) 0 := by
  rw [show l.take i = (l.take j).take i by rw [List.take_take, Nat.min_eq_left h]]
  generalize l.take j = l
  rw [← List.take_append_drop i l, cM_append]
  simp only [List.take_append_drop]
  exact cM_ge _ _

theorem rk_lt {l : List Oper} {i j : Nat} {o : Oper} (h : i < j) (hi : l[i]? = some o) (hM : isM T sh o.op = true) : cM T sh (l.take i) 0 < cM T sh (l.take j) 0 := by
  have h1 := rk_succ (T := T) (sh := sh) hi
  rw [if_pos hM] at h1
  have := rk_le (T := T) (sh := sh) (l := l) (i := i + 1) (j := j) h
  omega

theorem rk_ex {l : List Oper} (m : Nat) : ∀ (j : Nat), j ≤ l.length → m < cM T sh (l.take j) 0 → ∃ i o, i < j ∧ l[i]? = some o ∧ isM T sh o.op = true ∧ cM T sh (l.take i) 0 = m
  | 0, _, h => by simp [cM] at h
  | j + 1, hj, h => by
    have hl : l[j]? = some l[j] := List.getElem?_eq_getElem (by omega)
    have h1 := rk_succ (T := T) (sh := sh) hl
    by_cases q : m < cM T sh (l.take j) 0
    · obtain ⟨i, o, h2, h3⟩ := rk_ex m j (by omega) q
      exact ⟨i, o, by omega, h3⟩
    · split at h1
      · rename_i hM
        exact ⟨j, _, by omega, hl, hM, by omega⟩
      · omega

theorem ms_get : ∀ (l : List Oper) (i m r j : Nat), (((l.zipIdx i).filter fun p => isM T sh p.1.op).map (·.2))[r]? = some j → ∃ k o, j = i + k ∧ l[k]? = some o ∧ isM T sh o.op = true ∧ cM T sh (l.take k) m = m + r
  | [], i, m, r, j, h => by simp at h
  | o :: l, i, m, r, j, h => by
    rw [List.zipIdx_cons, List.filter_cons] at h
    split at h
    · rename_i hM
      simp only at hM
      cases r with
      | zero =>
        simp at h
        exact ⟨0, o, by omega, by simp, hM, by simp [cM]⟩
      | succ r =>
        simp only [List.map_cons, List.getElem?_cons_succ] at h
        obtain ⟨k, o', h1, h2, h3, h4⟩ := ms_get l (i + 1) (m + 1) r j h
        refine ⟨k + 1, o', by omega, by simpa using h2, h3, ?_⟩
        simp only [List.take_succ_cons, cM, hM, if_true]
        omega
    · rename_i hM
      simp only at hM
      obtain ⟨k, o', h1, h2, h3, h4⟩ := ms_get l (i + 1) m r j h
      refine ⟨k + 1, o', by omega, by simpa using h2, h3, ?_⟩
      simp only [List.take_succ_cons, cM, if_neg hM]
      exact h4

theorem ms_len : ∀ (l : List Oper) (i m : Nat), cM T sh l m = m + (((l.zipIdx i).filter fun p => isM T sh p.1.op).map (·.2)).length
  | [], i, m => by simp [cM]
  | o :: l, i, m => by
    rw [List.zipIdx_cons, List.filter_cons]
    simp only [cM]
    rw [ms_len l (i + 1)]
    split
    · simp only [List.map_cons, List.length_cons]; omega
    · rfl

theorem mUpto_spec (i : Nat) : ∀ (ms : List Nat), mUpto anc ms i = ms.length ∨ ∃ x, ms[mUpto anc ms i]? = some x ∧ (anc.getD x 0).testBit i = true
  | [] => .inl rfl
  | x :: ms => by
    simp only [mUpto]
    split
    · rename_i h; exact .inr ⟨x, by simp, h⟩
    · rcases mUpto_spec i ms with h | ⟨y, h1, h2⟩
      · exact .inl (by rw [h]; rfl)
      · exact .inr ⟨y, by simpa using h1, h2⟩

theorem mBefore_le {i m : Nat} {ms : List Nat} (h : ∀ r x, ms[r]? = some x → (anc.getD i 0).testBit x = true → r < m) : mBefore anc ms i ≤ m := by
  unfold mBefore
  rw [← List.take_append_drop m ms, List.filter_append, List.length_append]
  have : (ms.drop m).filter (fun x => (anc.getD i 0).testBit x) = [] := by
    rw [List.filter_eq_nil_iff]
    intro x hx hb
    obtain ⟨r, hr⟩ := List.mem_iff_getElem?.1 hx
    rw [List.getElem?_drop] at hr
    have := h _ _ hr hb
    omega
  rw [this, List.length_nil, Nat.add_zero]
  exact Nat.le_trans (List.length_filter_le _ _) (by rw [List.length_take]; omega)

theorem evPure_heap {tm : Tm} {h h' : Heap} {op : Op} (hl : ∀ t a, op ≠ .load t a) (hc : isCut op = false) : evPure T tm h op = evPure T tm h' op := by
  cases op <;> first
    | rfl
    | (exfalso; exact hl _ _ rfl)
    | (cases hc; done)
    | skip
  all_goals (unfold evPure; split <;> first | rfl | (rename_i q; cases q) | (rename_i q; cases hc))

theorem sl_nil {k : K} {x : AV} {lo hi : Option AV} {h : Heap} {v : AV} (e : sl k x lo hi [] = some v) : sl k x lo hi h = some v := by
  unfold sl at e ⊢
  split at e
  · exact e
  · exact e
  · exact e
  · obtain ⟨a, h1, e⟩ := Option.bind_eq_some_iff.1 e
    obtain ⟨b, h2, e⟩ := Option.bind_eq_some_iff.1 e
    simp only [h1, h2, Option.bind_some]
    split at e
    · rename_i q; rw [if_pos q]; exact e
    · rename_i q
      rw [if_neg q]
      split at e
      · simp at e
      · rename_i q2; rw [if_neg q2]; exact e
  · cases e

theorem evPure_nil {tm : Tm} {h : Heap} {op : Op} {v : AV} (hc : isCut op = true) (e : evPure T tm [] op = some v) : evPure T tm h op = some v := by
  unfold isCut at hc
  split at hc
  · rename_i t x lo hi m
    cases m with
    | some m => cases e
    | none =>
      simp only [evPure] at e ⊢
      obtain ⟨k, h1, e⟩ := Option.bind_eq_some_iff.1 e
      rw [h1, Option.bind_some]
      exact sl_nil e
  · cases hc

end
end Go.Proofs.Ytmhamnnfcmkcfaa
