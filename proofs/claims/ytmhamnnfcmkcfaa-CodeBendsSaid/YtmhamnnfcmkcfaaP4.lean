/- The lexer's functions come to the plain ones: lines; whether a token may be. -/
import Derived.Test.YtmhamnnfcmkcfaaP3
import Derived.KernelRfl
import Derived.Test.YtmhamnnfcmkcfaaProg
import Derived.Test.YtmhamnnfcmkcfaaP2
set_option maxRecDepth 100000
namespace Go.Proofs.Ytmhamnnfcmkcfaa
open Go.RowKit

section
variable {J : Option (List AV → Option AV)}

theorem tok_rows' (l : List Tok) : ∀ x ∈ l.map Tok.sv, x.length = 3 := by
  intro x hx
  obtain ⟨t, -, rfl⟩ := List.mem_map.1 hx
  rfl

theorem c92 (l : List Tok) (hl : l.length ≤ 1000000000000) (h : Heap) : Cw J 92 [.sv (toksSV l)] h = some (.sv (toksSV l), h) := by
  refine call_prim (g := cloneP 3) (by rfl) (by rfl) (args' := [.sv (toksSV l)]) (ids := []) (frzVs_set rfl) ?_
  have h2 : (l.map Tok.sv).all (fun c => c.length == 3) = true := List.all_eq_true.2 fun c hc => by simpa using tok_rows' l c hc
  simp only [cloneP, toksSV]
  rw [if_pos ⟨by simpa using hl, h2⟩]

def isLine (t : Tok) : Bool := t.kind == 4

theorem c90 (l : List Tok) (hl : l.length ≤ 1000000000000) (h : Heap) : Cw J 90 [.sv (toksSV l), .func 91 [] []] h = some (I (idxP l isLine), h) := by
  have key := l90 (J := J) (tok_rows' l) (by simp; omega) (f := 91) (first := []) (caps := []) (p := fun x => match x with | [.int _ k, _, _] => k == 4 | _ => false) (Good := fun h => h = []) (h := []) (by
    intro x hx h hg
    obtain ⟨t, -, rfl⟩ := List.mem_map.1 hx
    have := c91 (J := J) t h
    refine ⟨(Bo (decide (t.kind = 4)), h), this, ?_, hg⟩
    simp only [Tok.sv, Bo]
    congr 2) rfl
  obtain ⟨⟨r, hr⟩, h1, h2, h3⟩ := key
  refine call_sv Try.func90 (by kernel_rfl) (by rfl) (by rfl) (by rfl) (hr := hr) (r := I (idxP l isLine)) ?_ (frzR_set (by rfl))
  rw [f90_eq]
  refine h1.trans ?_
  simp only at h2
  rw [h2, idxP_map]
  rfl

def cellS : AV → SV
  | .sv s => s
  | _ => .slice []

def LRows (rows : List (List AV)) (acc : List (List Tok)) : Prop := (∀ r ∈ rows, ∃ c, r = [c] ∧ (c = .nil ∨ ∃ s, c = .sv s)) ∧ rows.map (·.map cellS) = acc.map fun l => [toksSV l]

theorem LRows.snoc {rows : List (List AV)} {acc : List (List Tok)} (h : LRows rows acc) {c : AV} {l : List Tok} (hc : c = .nil ∨ ∃ s, c = .sv s) (hl : cellS c = toksSV l) : LRows (rows ++ [[c]]) (acc ++ [l]) := by
  refine ⟨fun r hr => ?_, ?_⟩
  · rcases List.mem_append.1 hr with q | q
    · exact h.1 r q
    · simp at q; exact ⟨c, q, hc⟩
  · rw [List.map_append, List.map_append, h.2]
    simp [hl]

theorem LRows.len {rows : List (List AV)} {acc : List (List Tok)} (h : LRows rows acc) : rows.length = acc.length := by
  have := congrArg List.length h.2
  simpa using this

def LinInv (RES : List (List Tok)) (n : Nat) (st : St) : Prop :=
  ∃ (f : Nat) (l : List Tok) (acc : List (List Tok)) (rows : List (List AV)), st.tm 0 = .sv (toksSV l) ∧ IsRowA st.h 1 (st.tm 3) rows ∧ LRows rows acc ∧ acc ++ linesF f l = RES ∧ l.length ≤ f ∧ n = l.length ∧ 2 * l.length + acc.length ≤ 1000000000

def LinPost (RES : List (List Tok)) (r : Out × St) : Prop :=
  ∃ rows v, IsRowA r.2.h 1 v rows ∧ LRows rows RES ∧ ((r.1 = .exit 0 ∧ r.2.tm 3 = v) ∨ (r.1 = .ret ∧ r.2.tm 2 = v))

theorem idxP_pos {l : List Tok} {m : Nat} (h : idxP l isLine = m) : l.findIdx? isLine = some m ∧ m < l.length := by
  unfold idxP at h
  cases e : l.findIdx? isLine with
  | none => rw [e] at h; simp only at h; omega
  | some i =>
    rw [e] at h
    simp only at h
    have : i = m := by omega
    subst this
    exact ⟨rfl, (List.findIdx?_eq_some_iff_getElem.1 e).1⟩

theorem l28_b0 {RES : List (List Tok)} (n : Nat) (st : St) (hI : LinInv RES n st) : Ok (f28_b0 optB (Cw J) loopW st.tm st.h) (Nxt (LinInv RES) (LinPost RES) n) := by
  obtain ⟨tm, h⟩ := st
  obtain ⟨f, l, acc, rows, e0, hr, hL, hRES, hf, rfl, hb⟩ := hI
  simp only at e0 hr ⊢
  have hrl := hL.len
  by_cases hne : l = []
  · subst hne
    simp -implicitDefEqProofs [f28_b0, e0, toksSV]
    refine nxt_e ⟨rows, tm 3, hr, ?_, .inl ⟨rfl, by simp [upd]⟩⟩
    have : linesF f ([] : List Tok) = [] := by cases f <;> rfl
    rw [this, List.append_nil] at hRES
    rw [← hRES]; exact hL
  · have hpos : (0 : Int) < ((l.map Tok.sv).length : Int) := by
      have : 0 < l.length := List.length_pos_iff.2 hne
      simp; omega
    have h90 := c90 (J := J) l (by omega) h
    have hz : ([AV.nil] : List AV).length = 1 := rfl
    by_cases hneg : idxP l isLine < 0
    · obtain ⟨v', h', q1, q2, q3, -, -, -⟩ := push_oneA (e := 22) (b := 24) (y := false) (z := [.nil]) (x := .sv (toksSV l)) (c := [.sv (toksSV l)]) hr rfl rfl (by decide) rfl rfl rfl (by decide) (by decide) (by omega)
      have hln0 : ln (.slice 35 3 32 false) (.sv (toksSV l)) = some (I ((l.map Tok.sv).length : Int)) := rfl
      simp -implicitDefEqProofs only [f28_b0, optB_b, e0, hln0, Option.bind_some, bin_gtr, hpos, decide_true, asB_bo, if_true, h90, bin_lss, hneg, c92 l (by omega), q1, q2, ok_some]
      have hRES2 : acc ++ [l] = RES := by
        rw [← hRES]
        have hp0 : 0 < l.length := List.length_pos_iff.2 hne
        obtain ⟨f, rfl⟩ : ∃ g, f = g + 1 := ⟨f - 1, by omega⟩
        have hn : l.findIdx? (fun t => t.kind == 4) = none := by
          rw [List.findIdx?_eq_none_iff]
          exact idxP_neg.1 hneg
        cases l with
        | nil => exact absurd rfl hne
        | cons t r => simp only [linesF, hn]
      refine nxt_r ⟨_, v', q3, ?_, .inr ⟨rfl, by simp [upd]⟩⟩
      rw [← hRES2]
      exact hL.snoc (.inr ⟨_, rfl⟩) rfl
    · obtain ⟨m, hm⟩ : ∃ m : Nat, idxP l isLine = m := ⟨(idxP l isLine).toNat, by omega⟩
      obtain ⟨hfi, hml⟩ := idxP_pos hm
      rw [hm] at h90 hneg
      have hsl0 : ∀ h, sl (.slice 35 3 32 false) (.sv (toksSV l)) none (some (I m)) h = some (.sv (toksSV (l.take m))) := fun h => by
        unfold toksSV
        rw [sl_sv0 (tok_rows' l) (by simp; omega), List.map_take]
      have w1 : IntKind.i64.wrap ((m : Int) + 1) = ((m + 1 : Nat) : Int) := by rw [wrapI (by omega) (by omega)]; omega
      have hsl1 : ∀ h, sl (.slice 35 3 32 false) (.sv (toksSV l)) (some (I ((m + 1 : Nat) : Int))) none h = some (.sv (toksSV (l.drop (m + 1)))) := fun h => by
        unfold toksSV
        rw [sl_sv1 (tok_rows' l) (by simp; omega), List.map_drop]
      obtain ⟨v', h', q1, q2, q3, q4, -, -⟩ := push_oneA (e := 22) (b := 24) (y := false) (z := [.nil]) (x := .sv (toksSV (l.take m))) (c := [.sv (toksSV (l.take m))]) hr rfl rfl (by decide) rfl rfl rfl (by decide) (by decide) (by omega)
      have hL1 : LRows (rows ++ [[.sv (toksSV (l.take m))]]) (acc ++ [l.take m]) := hL.snoc (.inr ⟨_, rfl⟩) rfl
      have hlend : ((l.drop (m + 1)).map Tok.sv).length = l.length - (m + 1) := by simp
      have hRES2 : acc ++ l.take m :: (if l.drop (m + 1) = [] then [[]] else linesF (f - 1) (l.drop (m + 1))) = RES := by
        rw [← hRES]
        obtain ⟨f, rfl⟩ : ∃ g, f = g + 1 := ⟨f - 1, by omega⟩
        have hfi' : l.findIdx? (fun t => t.kind == 4) = some m := hfi
        cases l with
        | nil => exact absurd rfl hne
        | cons t r => simp only [linesF, hfi']; rfl
      have hln : ln (.slice 35 3 32 false) (.sv (toksSV (l.drop (m + 1)))) = some (I ((l.length - (m + 1) : Nat) : Int)) := by
        unfold toksSV; rw [ln_slice, hlend]
      have hln0 : ln (.slice 35 3 32 false) (.sv (toksSV l)) = some (I ((l.map Tok.sv).length : Int)) := rfl
      by_cases hlast : l.length - (m + 1) = 0
      · have hdn : l.drop (m + 1) = [] := List.drop_eq_nil_of_le (by omega)
        have hz0 : (((l.length - (m + 1) : Nat) : Int) = 0) := by omega
        obtain ⟨v2, h2, p1, p2, p3, -, -, -⟩ := push_oneA (e := 22) (b := 24) (y := false) (z := [.nil]) (x := .nil) (c := [.nil]) q3 rfl rfl (by decide) rfl rfl rfl (by decide) (by decide) (by simp; omega)
        simp -implicitDefEqProofs only [f28_b0, optB_b, e0, hln0, Option.bind_some, bin_gtr, hpos, decide_true, asB_bo, if_true, h90, bin_lss, hneg, decide_false, Bool.false_eq_true, if_false, hsl0, c92 (l.take m) (by simp; omega), q1, q2, bin_add, w1, hsl1, hln, bin_eql, hz0, p1, p2, ok_some]
        refine nxt_n 0 (List.length_pos_iff.2 hne) ⟨0, [], acc ++ [l.take m] ++ [[]], _, ?_, ?_, hL1.snoc (c := .nil) (.inl rfl) rfl, ?_, Nat.le_refl _, rfl, ?_⟩
        · simp [upd, hdn]
        · simpa [upd] using p3
        · rw [← hRES2, if_pos hdn]; simp [linesF]
        · simp; omega
      · have hdn : ¬ l.drop (m + 1) = [] := fun e => by have := congrArg List.length e; simp at this; omega
        have hz0 : ¬ (((l.length - (m + 1) : Nat) : Int) = 0) := by omega
        simp -implicitDefEqProofs only [f28_b0, optB_b, e0, hln0, Option.bind_some, bin_gtr, hpos, decide_true, asB_bo, if_true, h90, bin_lss, hneg, decide_false, Bool.false_eq_true, if_false, hsl0, c92 (l.take m) (by simp; omega), q1, q2, bin_add, w1, hsl1, hln, bin_eql, hz0, ok_some]
        refine nxt_n (l.drop (m + 1)).length (by simp; omega) ⟨f - 1, l.drop (m + 1), acc ++ [l.take m], _, ?_, ?_, hL1, ?_, ?_, rfl, ?_⟩
        · simp [upd]
        · simpa [upd] using q3
        · rw [← hRES2, if_neg hdn]; simp
        · simp; omega
        · simp; omega

def linesSV (l : List (List Tok)) : SV := .slice (l.map fun l => [toksSV l])

theorem c28 (l : List Tok) (hl : l.length ≤ 100000000) (h : Heap) : Cw J 28 [.sv (toksSV l)] h = some (.sv (linesSV (linesS l)), h) := by
  have key : Ok (evFunc optB tab shared (Cw J) loopW noD Try.f28 [.sv (toksSV l)] []) fun r => frzR frzDepth r.2 r.1 = some (.sv (linesSV (linesS l))) := by
    rw [f28_eq]
    simp -implicitDefEqProofs only [f28_sh, optB_b]
    refine loop_ok (LinInv (linesS l)) (LinPost (linesS l)) (n := l.length) ⟨l.length, l, [], [], ?_, ?_, ⟨by simp, rfl⟩, rfl, Nat.le_refl _, rfl, by simp; omega⟩ (fun n st hI => l28_b0 n st hI) ?_
    · simp [upd]
    · simpa [upd] using IsRowA.nil [] 1
    · rintro ⟨o, st⟩ ⟨rows, v, hr, hL, hv⟩
      have hfz : ∃ ids, frzV frzDepth st.h v = some (.sv (linesSV (linesS l)), ids) := by
        obtain ⟨ids, e⟩ := frz_rowA (n := 5) cellS (fun _ => []) hr (by decide) (by
          intro r hr1 c hc
          obtain ⟨c', rfl, hc'⟩ := hL.1 r hr1
          simp at hc
          subst hc
          rcases hc' with rfl | ⟨s, rfl⟩
          · rfl
          · rfl)
        rw [hL.2] at e
        rcases hr.2 with ⟨rfl, -⟩ | ⟨id, rfl, -⟩
        · exact ⟨_, by simp only [frzV, frzDepth]; rw [e]; rfl⟩
        · exact ⟨_, by simp only [frzV, frzDepth]; rw [e]; rfl⟩
      obtain ⟨ids, hfz⟩ := hfz
      have hfr : frzR frzDepth st.h v = some (.sv (linesSV (linesS l))) := by
        rcases hr.2 with ⟨rfl, -⟩ | ⟨id, rfl, -⟩
        · simp only [frzR, hfz, Option.bind_some]
        · simp only [frzR, hfz, Option.bind_some]
      simp only at hv ⊢
      rcases hv with ⟨rfl, h2⟩ | ⟨rfl, h2⟩
      · simp -implicitDefEqProofs only [outBlock_exit, if_true, outSeq_normal, f28_k0, ok_some, h2]
        exact hfr
      · simp -implicitDefEqProofs only [outBlock_ret, outSeq_ret, endK_ret, resK_tmp, resK_nil, tup_one, ok_some, h2]
        exact hfr
  obtain ⟨⟨r, hr⟩, h1, h2⟩ := key
  exact call_sv Try.func28 (by kernel_rfl) (by rfl) (by rfl) (by rfl) h1 h2

end
end Go.Proofs.Ytmhamnnfcmkcfaa

/- Code's functions come to the plain ones: reading tokens. -/
set_option maxRecDepth 100000
namespace Go.Proofs.Ytmhamnnfcmkcfaa
open Go.RowKit

section
variable {J : Option (List AV → Option AV)}

/-- A reader. -/
def Rd (h : Heap) (id : Nat) (l : List Tok) (bad : Bool) : Prop := h[id]? = some (.cells 0 [.sv (toksSV l), Bo bad] true)

/-- All objects stand but one. -/
def KeepO (id : Nat) (h h' : Heap) : Prop := h.length ≤ h'.length ∧ ∀ i e, i ≠ id → h[i]? = some e → h'[i]? = some e

theorem KeepO.refl (id : Nat) (h : Heap) : KeepO id h h := ⟨Nat.le_refl _, fun _ _ _ h => h⟩
theorem KeepO.trans {id : Nat} {h h1 h2 : Heap} (a : KeepO id h h1) (b : KeepO id h1 h2) : KeepO id h h2 := ⟨Nat.le_trans a.1 b.1, fun i e hi he => b.2 i e hi (a.2 i e hi he)⟩
theorem KeepO.app (id : Nat) (h : Heap) (e : Ent) : KeepO id h (h ++ [e]) := ⟨by simp, fun i x _ hx => by rw [List.getElem?_append_left (List.getElem?_eq_some_iff.1 hx).1]; exact hx⟩
theorem KeepO.set (id : Nat) (h : Heap) (e : Ent) : KeepO id h (h.set id e) := ⟨by simp, fun i x hi hx => by rw [List.getElem?_set_ne (Ne.symm hi)]; exact hx⟩

theorem app_get {h : Heap} {i : Nat} {x : Ent} (hx : h[i]? = some x) (e : Ent) : (h ++ [e])[i]? = some x := by rw [List.getElem?_append_left (List.getElem?_eq_some_iff.1 hx).1]; exact hx

theorem rd_l {h : Heap} {id : Nat} {l : List Tok} {bad : Bool} (hr : Rd h id l bad) : ld 1 false (.ptr id (0 + 0)) h = some (.sv (toksSV l)) := by rw [ld_ptr hr (by simp)]; rfl
theorem rd_b {h : Heap} {id : Nat} {l : List Tok} {bad : Bool} (hr : Rd h id l bad) : ld 1 false (.ptr id (0 + 1)) h = some (Bo bad) := by rw [ld_ptr hr (by simp)]; rfl
theorem rd_setb {h : Heap} {id : Nat} {l : List Tok} {bad : Bool} (hr : Rd h id l bad) (b : Bool) : storeA 1 (.ptr id (0 + 1)) (Bo b) h = some (.undef, h.set id (.cells 0 [.sv (toksSV l), Bo b] true)) := by
  rw [store_eq (n := 1) (vs := [Bo b]) hr rfl rfl (by simp)]; rfl
theorem rd_setl {h : Heap} {id : Nat} {l : List Tok} {bad : Bool} (hr : Rd h id l bad) (l' : List Tok) : storeA 1 (.ptr id (0 + 0)) (.sv (toksSV l')) h = some (.undef, h.set id (.cells 0 [.sv (toksSV l'), Bo bad] true)) := by
  rw [store_eq (n := 1) (vs := [.sv (toksSV l')]) hr rfl rfl (by simp)]; rfl
theorem rd_of_set {h : Heap} {id : Nat} {l : List Tok} {bad : Bool} (hlt : id < h.length) : Rd (h.set id (.cells 0 [.sv (toksSV l), Bo bad] true)) id l bad := by simp [Rd, hlt]

theorem ln_toks (l : List Tok) : ln (.slice 35 3 32 false) (.sv (toksSV l)) = some (I l.length) := by simp [toksSV]

theorem c96 (k : Int) {id : Nat} {h : Heap} {l : List Tok} {bad : Bool} (hr : Rd h id l bad) (hl : l.length ≤ 1000000000) :
    Ok (Cw J 96 [.ptr id 0, I k] h) fun r => r.1 = tokA (takeS k l bad).1 ∧ Rd r.2 id (takeS k l bad).2.1 (takeS k l bad).2.2 ∧ KeepO id h r.2 := by
  have hlt : id < h.length := (List.getElem?_eq_some_iff.1 hr).1
  have key : Ok (f96_sh optB (Cw J) loopW (.ptr id 0) (I k) h) fun r => r.1 = tokA (takeS k l bad).1 ∧ Rd r.2 id (takeS k l bad).2.1 (takeS k l bad).2.2 ∧ KeepO id h r.2 := by
    have hal : alloc [.sv (.int .i64 0), .sv (.str []), .sv (.int .i64 0)] h = some (.ptr h.length 0, h ++ [.cells 0 (noTok.sv.map .sv) true]) := alloc_eq rfl
    have hr1 : Rd (h ++ [.cells 0 (noTok.sv.map .sv) true]) id l bad := app_get hr _
    have e0 := rd_l hr1
    have e1 := rd_b hr1
    -- something is wrong
    have hset : ∀ b, (h ++ [Ent.cells 0 (noTok.sv.map .sv) true]).set id (.cells 0 [.sv (toksSV l), Bo b] true) = h.set id (.cells 0 [.sv (toksSV l), Bo b] true) ++ [.cells 0 (noTok.sv.map .sv) true] := fun b => List.set_append_left _ _ hlt
    have hwr : storeA 1 (.ptr id (0 + 1)) (Bo true) (h ++ [.cells 0 (noTok.sv.map .sv) true]) = some (.undef, h.set id (.cells 0 [.sv (toksSV l), Bo true] true) ++ [.cells 0 (noTok.sv.map .sv) true]) := by rw [rd_setb hr1, hset]
    have hN : ∀ (h' : Heap) (t : Tok), h'.length = h.length → ld 3 true (.ptr h.length 0) (h' ++ [.cells 0 (t.sv.map .sv) true]) = some (tokA t) := fun h' t e => by
      rw [← e, ld_ptr (heap_last _ _) (by simp [Tok.sv])]; rfl
    have hS : ∀ (h' : Heap) (t u : Tok), h'.length = h.length → storeA 3 (.ptr h.length 0) (tokA u) (h' ++ [.cells 0 (t.sv.map .sv) true]) = some (.undef, h' ++ [.cells 0 (u.sv.map .sv) true]) := fun h' t u e => by
      rw [← e, store_eq (heap_last _ _) (cellsOf_agg _) (by rfl) (by simp [Tok.sv]), heap_set_last]; rfl
    have hlen : ∀ x, (h.set id x).length = h.length := fun x => by simp
    have hbadend : ∀ (P : AV × Heap → Prop), P (tokA noTok, h.set id (.cells 0 [.sv (toksSV l), Bo true] true) ++ [.cells 0 (noTok.sv.map .sv) true]) →
        Ok ((nc (.ptr id 0)).bind fun w23 => (fa 1 w23).bind fun w24 => (storeA 1 w24 (Bo true) (h ++ [.cells 0 (noTok.sv.map .sv) true])).bind fun r25 => (ld 3 true (.ptr h.length 0) r25.2).bind fun w26 => (storeA 3 (.ptr h.length 0) w26 r25.2).bind fun r27 => (ld 3 true (.ptr h.length 0) r27.2).bind fun w28 => some (w28, r27.2)) P := by
      intro P hP
      simp -implicitDefEqProofs only [nc_ptr, Option.bind_some, fa_ptr, hwr, hN _ _ (hlen _), hS _ _ _ (hlen _), ok_some]
      exact hP
    have hPbad : (takeS k l bad) = (noTok, l, true) → (fun r : AV × Heap => r.1 = tokA (takeS k l bad).1 ∧ Rd r.2 id (takeS k l bad).2.1 (takeS k l bad).2.2 ∧ KeepO id h r.2) (tokA noTok, h.set id (.cells 0 [.sv (toksSV l), Bo true] true) ++ [.cells 0 (noTok.sv.map .sv) true]) := by
      intro e
      simp only [e]
      refine ⟨trivial, ?_, (KeepO.set id h _).trans (KeepO.app id _ _)⟩
      exact app_get (rd_of_set hlt) _
    cases bad with
    | true =>
      simp -implicitDefEqProofs only [f96_sh, optB_b, hal, Option.bind_some, nc_ptr, fa_ptr, e1, gO_ff, if_true, asB_bo]
      refine Ok.mono (hbadend _ (hPbad ?_)) (fun r h => h)
      cases l <;> rfl
    | false =>
      cases l with
      | nil =>
        have hln := ln_toks []
        simp -implicitDefEqProofs only [f96_sh, optB_b, hal, Option.bind_some, nc_ptr, fa_ptr, e1, e0, hln, gO_ff, if_true, if_false, Bool.false_eq_true, asB_bo, bin_eql, List.length_nil, show (((0 : Nat) : Int) = 0) by rfl, decide_true]
        exact Ok.mono (hbadend _ (hPbad rfl)) (fun r h => h)
      | cons t rest =>
        have hln := ln_toks (t :: rest)
        have hne : ¬ (((t :: rest).length : Nat) : Int) = 0 := by simp; omega
        have hia : ia (.slice 35 3 32 false) (.sv (toksSV (t :: rest))) (I 0) = some (.ref t.sv) := ia_sv (i := 0) rfl rfl rfl
        have hk0 : ∀ h, ld 1 false (.ref (t.sv.drop 0)) h = some (I t.kind) := fun h => rfl
        have hk3 : ∀ h, ld 3 true (.ref t.sv) h = some (tokA t) := fun h => rfl
        by_cases hk : t.kind = k
        · have hsl : ∀ h, sl (.slice 35 3 32 false) (.sv (toksSV (t :: rest))) (some (I 1)) none h = some (.sv (toksSV rest)) := fun h => by
            have := sl_sv1 (e := 35) (b := 32) (y := false) (tok_rows' (t :: rest)) (i := 1) (by simp) h
            simpa [toksSV] using this
          have hr2 : Rd (h ++ [.cells 0 (t.sv.map .sv) true]) id (t :: rest) false := app_get hr _
          have hs2 : storeA 1 (.ptr id (0 + 0)) (.sv (toksSV rest)) (h ++ [.cells 0 (t.sv.map .sv) true]) = some (.undef, h.set id (.cells 0 [.sv (toksSV rest), Bo false] true) ++ [.cells 0 (t.sv.map .sv) true]) := by
            rw [rd_setl hr2, List.set_append_left _ _ hlt]
          have e2 := rd_l hr2
          simp -implicitDefEqProofs only [f96_sh, optB_b, hal, Option.bind_some, nc_ptr, fa_ptr, fa_ref, e1, e0, hln, gO_ff, if_true, if_false, Bool.false_eq_true, asB_bo, bin_eql, hne, decide_false, hia, hk0, bin_neq, hk, decide_true, Bool.not_true, hk3, hS h _ _ rfl, e2, hsl, hs2, hN _ _ (hlen _), hS _ _ _ (hlen _), ok_some]
          have ht : takeS k (t :: rest) false = (t, rest, false) := by simp [takeS, hk]
          rw [ht]
          exact ⟨rfl, app_get (rd_of_set hlt) _, (KeepO.set id h _).trans (KeepO.app id _ _)⟩
        · simp -implicitDefEqProofs only [f96_sh, optB_b, hal, Option.bind_some, nc_ptr, fa_ptr, fa_ref, e1, e0, hln, gO_ff, if_true, if_false, Bool.false_eq_true, asB_bo, bin_eql, hne, decide_false, hia, hk0, bin_neq, hk, Bool.not_false]
          exact Ok.mono (hbadend _ (hPbad (by simp [takeS, hk]))) (fun r h => h)
  obtain ⟨r, h1, h2⟩ := key
  exact ⟨r, call_sh Try.func96 (by kernel_rfl) (by rfl) ((f96_eq _ _ _ _ _ _).trans h1), h2⟩

end
end Go.Proofs.Ytmhamnnfcmkcfaa

/- Code's functions come to the plain ones: numbers behind letters, signed ones. -/
set_option maxRecDepth 100000
namespace Go.Proofs.Ytmhamnnfcmkcfaa
open Go.RowKit

section
variable {J : Option (List AV → Option AV)}

theorem c216 (s p : List UInt8) (h : Heap) : Cw J 216 [Sr s, Sr p] h = some (Bo (decide (p.length ≤ s.length ∧ s.take p.length = p)), h) := by
  refine call_sv Try.func216 (by kernel_rfl) (by rfl) (by rfl) (by rfl) (hr := []) ?_ (frzR_set (by rfl))
  rw [f216_eq]
  by_cases hle : p.length ≤ s.length
  · have hle' : (p.length : Int) ≤ s.length := by omega
    simp -implicitDefEqProofs only [f216_sh, optB_b, ln_str, Option.bind_some, bin_geq, hle', decide_true, gO_tt, if_true, sl_str0 hle, bin_eqlS, asB_bo, hle, true_and]
  · have hle' : ¬ (p.length : Int) ≤ s.length := by omega
    simp -implicitDefEqProofs only [f216_sh, optB_b, ln_str, Option.bind_some, bin_geq, hle', decide_false, gO_tt, if_false, Bool.false_eq_true, asB_bo, hle, false_and]

theorem c213 (s p : List UInt8) (h : Heap) : Cw J 213 [Sr s, Sr p] h = some (.tuple [Sr (cutPre s p).1, Bo (cutPre s p).2], h) := by
  refine call_sv Try.func213 (by kernel_rfl) (by rfl) (by rfl) (by rfl) (hr := []) (r := .tuple [Sr (cutPre s p).1, Bo (cutPre s p).2]) ?_ (frzR_tup (by rfl))
  rw [f213_eq]
  unfold cutPre
  by_cases hc : p.length ≤ s.length ∧ s.take p.length = p
  · rw [if_pos hc]
    simp -implicitDefEqProofs only [f213_sh, optB_b, c216, Option.bind_some, hc, and_self, decide_true, un_not, Bool.not_true, asB_bo, Bool.false_eq_true, if_false, ln_str, sl_str1 hc.1]
  · rw [if_neg hc]
    simp -implicitDefEqProofs only [f213_sh, optB_b, c216, Option.bind_some, hc, decide_false, un_not, Bool.not_false, asB_bo, if_true]

theorem c199 (s p : List UInt8) (h : Heap) : Cw J 199 [Sr s, Sr p] h = some (.tuple [Sr (cutPre s p).1, Bo (cutPre s p).2], h) := by
  refine call_sv Try.func199 (by kernel_rfl) (by rfl) (by rfl) (by rfl) (hr := []) (r := .tuple [Sr (cutPre s p).1, Bo (cutPre s p).2]) ?_ (frzR_tup (by rfl))
  rw [f199_eq]
  simp -implicitDefEqProofs only [f199_sh, optB_b, c213, Option.bind_some, ex_tuple, List.getElem?_cons_zero, List.getElem?_cons_succ]

theorem fl1 (t : Tok) : fl 1 1 false (tokA t) = some (Sr t.s) := by cases t; rfl
theorem fl2 (t : Tok) : fl 2 1 false (tokA t) = some (I t.n) := by cases t; rfl

theorem takeS_len {k : Int} {l : List Tok} {bad : Bool} : (takeS k l bad).2.1.length ≤ l.length := by
  unfold takeS
  split
  · simp
  · split
    · simp
    · split <;> simp

theorem takeS_str {k : Int} {l : List Tok} {bad : Bool} {m : Nat} (h : ∀ t ∈ l, t.s.length ≤ m) : (takeS k l bad).1.s.length ≤ m := by
  unfold takeS
  split
  · simp [noTok]
  · split
    · simp [noTok]
    · split
      · exact h _ (List.mem_cons_self ..)
      · simp [noTok]

theorem takeS_mem {k : Int} {l : List Tok} {bad : Bool} : ∀ t ∈ (takeS k l bad).2.1, t ∈ l := by
  unfold takeS
  split
  · intro t h; exact h
  · split
    · intro t h; exact h
    · split
      · intro t h; exact List.mem_cons_of_mem _ h
      · intro t h; exact h

/-- Tokens that are few and short. -/
def Few (l : List Tok) : Prop := l.length ≤ 1000000000 ∧ ∀ t ∈ l, t.s.length ≤ 1000000000

theorem Few.take {k : Int} {l : List Tok} {bad : Bool} (h : Few l) : Few (takeS k l bad).2.1 := ⟨Nat.le_trans takeS_len h.1, fun t ht => h.2 t (takeS_mem t ht)⟩

theorem c148 (letter : List UInt8) {id : Nat} {h : Heap} {l : List Tok} {bad : Bool} (hr : Rd h id l bad) (hl : Few l) :
    Ok (Cw J 148 [.ptr id 0, Sr letter] h) fun r => r.1 = I (behindS letter l bad).1 ∧ Rd r.2 id (behindS letter l bad).2.1 (behindS letter l bad).2.2 ∧ KeepO id h r.2 := by
  have key : Ok (f148_sh optB (Cw J) loopW (.ptr id 0) (Sr letter) h) fun r => r.1 = I (behindS letter l bad).1 ∧ Rd r.2 id (behindS letter l bad).2.1 (behindS letter l bad).2.2 ∧ KeepO id h r.2 := by
    simp -implicitDefEqProofs only [f148_sh, optB_b]
    refine Ok.bind (c96 1 hr hl.1) ?_
    rintro ⟨v, h1⟩ ⟨hv, q1, q2⟩
    simp only at hv q1 q2
    subst hv
    unfold behindS
    have hs := takeS_str (k := 1) (l := l) (bad := bad) hl.2
    generalize takeS 1 l bad = t at *
    obtain ⟨tok, l', b'⟩ := t
    simp only at q1 hs ⊢
    have hs2 : (cutPre tok.s letter).1.length ≤ 9223372036854775806 := by
      unfold cutPre
      split
      · simp; omega
      · simp; omega
    have h142 : ∀ h, Cw J 142 [Sr (cutPre tok.s letter).1] h = some (.tuple [I ((numS (cutPre tok.s letter).1).getD 0), Bo (numS (cutPre tok.s letter).1).isSome], h) := fun h => c142 _ hs2 h
    have h199 : ∀ h, Cw J 199 [Sr tok.s, Sr letter] h = some (.tuple [Sr (cutPre tok.s letter).1, Bo (cutPre tok.s letter).2], h) := fun h => c199 _ _ h
    generalize cutPre tok.s letter = cp at *
    obtain ⟨u, cb⟩ := cp
    simp only at h142 h199 ⊢
    have hlt : id < h1.length := (List.getElem?_eq_some_iff.1 q1).1
    have hbad : ∀ (P : AV × Heap → Prop), P (I ((numS u).getD 0), h1.set id (.cells 0 [.sv (toksSV l'), Bo true] true)) →
        Ok ((nc (.ptr id 0)).bind fun w14 => (fa 1 w14).bind fun w15 => (storeA 1 w15 (Bo true) h1).bind fun r16 => some (I ((numS u).getD 0), r16.2)) P := by
      intro P hP
      simp -implicitDefEqProofs only [nc_ptr, Option.bind_some, fa_ptr, rd_setb q1, ok_some]
      exact hP
    cases cb with
    | false =>
      simp -implicitDefEqProofs only [fl1, Option.bind_some, h199, ex_tuple, List.getElem?_cons_zero, List.getElem?_cons_succ, h142, un_not, Bool.not_false, gO_ff, if_true, asB_bo]
      refine Ok.mono (hbad _ ⟨rfl, ?_, q2.trans (KeepO.set id _ _)⟩) (fun r h => h)
      simp only [Bool.true_or, Bool.or_true]
      exact rd_of_set hlt
    | true =>
      cases hn : numS u with
      | none =>
        rw [hn] at h142 hbad
        simp -implicitDefEqProofs only [fl1, Option.bind_some, h199, ex_tuple, List.getElem?_cons_zero, List.getElem?_cons_succ, h142, un_not, Bool.not_true, gO_ff, if_false, Bool.false_eq_true, asB_bo, Option.isSome_none, Bool.not_false, if_true]
        refine Ok.mono (hbad _ ⟨rfl, ?_, q2.trans (KeepO.set id _ _)⟩) (fun r h => h)
        simp only [Option.isNone_none, Bool.or_true]
        exact rd_of_set hlt
      | some n =>
        rw [hn] at h142
        simp -implicitDefEqProofs only [fl1, Option.bind_some, h199, ex_tuple, List.getElem?_cons_zero, List.getElem?_cons_succ, h142, un_not, Bool.not_true, gO_ff, if_false, Bool.false_eq_true, asB_bo, Option.isSome_some, ok_some]
        refine ⟨trivial, ?_, q2⟩
        simpa using q1
  obtain ⟨r, h1, h2⟩ := key
  exact ⟨r, call_sh Try.func148 (by kernel_rfl) (by rfl) ((f148_eq _ _ _ _ _ _).trans h1), h2⟩

theorem toks_head {t : Tok} {r : List Tok} : ia (.slice 35 3 32 false) (.sv (toksSV (t :: r))) (I 0) = some (.ref t.sv) := ia_sv (i := 0) rfl rfl rfl

theorem c149 {id : Nat} {h : Heap} {l : List Tok} {bad : Bool} (hr : Rd h id l bad) (hl : Few l) :
    Ok (Cw J 149 [.ptr id 0] h) fun r => r.1 = I (signedS l bad).1 ∧ Rd r.2 id (signedS l bad).2.1 (signedS l bad).2.2 ∧ KeepO id h r.2 := by
  have key : Ok (f149_sh optB (Cw J) loopW (.ptr id 0) h) fun r => r.1 = I (signedS l bad).1 ∧ Rd r.2 id (signedS l bad).2.1 (signedS l bad).2.2 ∧ KeepO id h r.2 := by
    have e0 := rd_l hr
    have hln := ln_toks l
    have plain : Ok ((Cw J 96 [.ptr id 0, I 2] h).bind fun r16 => (fl 2 1 false r16.1).bind fun w17 => some (w17, r16.2)) fun r => r.1 = I (takeS 2 l bad).1.n ∧ Rd r.2 id (takeS 2 l bad).2.1 (takeS 2 l bad).2.2 ∧ KeepO id h r.2 := by
      refine Ok.bind (c96 2 hr hl.1) ?_
      rintro ⟨v, h1⟩ ⟨hv, q1, q2⟩
      simp only at hv q1 q2
      subst hv
      simp -implicitDefEqProofs only [fl2, Option.bind_some, ok_some]
      exact ⟨trivial, q1, q2⟩
    cases l with
    | nil =>
      simp -implicitDefEqProofs only [f149_sh, optB_b, nc_ptr, Option.bind_some, fa_ptr, e0, hln, List.length_nil, bin_eql, show (((0 : Nat) : Int) = 0) by rfl, decide_true, gO_ff, if_true, asB_bo]
      exact plain
    | cons t r =>
      have hne : ¬ (((t :: r).length : Nat) : Int) = 0 := by simp; omega
      have hs : ∀ h, ld 1 false (.ref (t.sv.drop 1)) h = some (Sr t.s) := fun h => rfl
      by_cases hm : t.s = [45]
      · simp -implicitDefEqProofs only [f149_sh, optB_b, nc_ptr, Option.bind_some, fa_ptr, fa_ref, e0, hln, bin_eql, hne, decide_false, gO_ff, if_false, Bool.false_eq_true, asB_bo, toks_head, hs, bin_neqS, hm, decide_true, Bool.not_true]
        simp only [signedS, hm, if_true]
        refine Ok.bind (c96 3 hr hl.1) ?_
        rintro ⟨v, h1⟩ ⟨hv, q1, q2⟩
        simp only at hv q1 q2
        subst hv
        have hl1 : Few (takeS 3 (t :: r) bad).2.1 := hl.take
        generalize takeS 3 (t :: r) bad = tk at *
        obtain ⟨tok, l1, b1⟩ := tk
        simp only at q1 hl1 ⊢
        refine Ok.bind (c96 2 q1 hl1.1) ?_
        rintro ⟨v, h2⟩ ⟨hv, q3, q4⟩
        simp only at hv q3 q4
        subst hv
        generalize takeS 2 l1 b1 = tk at *
        obtain ⟨tok2, l2, b2⟩ := tk
        simp only at q3 ⊢
        have hlt : id < h2.length := (List.getElem?_eq_some_iff.1 q3).1
        by_cases hz : tok2.n = 0
        · simp -implicitDefEqProofs only [fl2, Option.bind_some, bin_eql, hz, decide_true, if_true, asB_bo, nc_ptr, fa_ptr, rd_setb q3, un_neg, ok_some, Bool.or_true]
          exact ⟨trivial, rd_of_set hlt, q2.trans (q4.trans (KeepO.set id _ _))⟩
        · simp -implicitDefEqProofs only [fl2, Option.bind_some, bin_eql, hz, decide_false, if_false, Bool.false_eq_true, asB_bo, un_neg, ok_some, Bool.or_false]
          exact ⟨trivial, q3, q2.trans q4⟩
      · simp -implicitDefEqProofs only [f149_sh, optB_b, nc_ptr, Option.bind_some, fa_ptr, fa_ref, e0, hln, bin_eql, hne, decide_false, gO_ff, if_false, Bool.false_eq_true, asB_bo, toks_head, hs, bin_neqS, hm, Bool.not_false, if_true]
        simp only [signedS, hm, if_false]
        exact plain
  obtain ⟨r, h1, h2⟩ := key
  exact ⟨r, call_sh Try.func149 (by kernel_rfl) (by rfl) ((f149_eq _ _ _ _ _).trans h1), h2⟩

end
end Go.Proofs.Ytmhamnnfcmkcfaa

/- Code's functions come to the plain ones: an instruction, read. -/
set_option maxRecDepth 100000
namespace Go.Proofs.Ytmhamnnfcmkcfaa
open Go.RowKit

section
variable {J : Option (List AV → Option AV)}

def Ext (h h' : Heap) : Prop := ∀ (i : Nat) (e : Ent), h[i]? = some e → h'[i]? = some e
theorem Ext.refl (h : Heap) : Ext h h := fun _ _ h => h
theorem Ext.trans {a b c : Heap} (x : Ext a b) (y : Ext b c) : Ext a c := fun i e h => y i e (x i e h)
theorem Ext.app (h : Heap) (e : Ent) : Ext h (h ++ [e]) := fun _ _ hx => app_get hx e
theorem Ext.len {h h' : Heap} (x : Ext h h') : h.length ≤ h'.length := by
  rcases Nat.eq_zero_or_pos h.length with q | q
  · omega
  · have h1 : h[h.length - 1]? = some (h[h.length - 1]'(by omega)) := List.getElem?_eq_getElem _
    have := (List.getElem?_eq_some_iff.1 (x _ _ h1)).1
    omega
theorem Ext.keep {h h' : Heap} (x : Ext h h') (id : Nat) : KeepO id h h' := ⟨x.len, fun i e _ hx => x i e hx⟩

theorem c147 (t : List UInt8 × Int × Int × Int) {w : List UInt8} {wid : Nat} {h : Heap} (hw : h[wid]? = some (.cells 0 [Sr w] true)) : Cw J 147 [.agg ((rowS t).map .sv), .ptr wid 0] h = some (Bo (decide (t.1 = w)), h ++ [.cells 0 ((rowS t).map .sv) true]) := by
  refine call_sh Try.func147 (by kernel_rfl) (by rfl) ?_
  rw [f147_eq]
  have b1 : boxA 4 (.agg ((rowS t).map .sv)) h = some (.ptr h.length 0, h ++ [.cells 0 ((rowS t).map .sv) true]) := box_eq (cellsOf_agg _) rfl (cells_all _)
  have g1 : ld 1 false (.ptr h.length (0 + 0)) (h ++ [.cells 0 ((rowS t).map .sv) true]) = some (Sr t.1) := by
    rw [ld_ptr (heap_last _ _) (by simp [rowS])]; rfl
  have g2 : ld 1 false (.ptr wid 0) (h ++ [.cells 0 ((rowS t).map .sv) true]) = some (Sr w) := by
    rw [ld_ptr (app_get hw _) (by simp)]; rfl
  simp -implicitDefEqProofs only [f147_sh, optB_b, b1, Option.bind_some, fa_ptr, g1, g2, bin_eqlS]

theorem c145 {w : List UInt8} {wid : Nat} {h : Heap} (hw : h[wid]? = some (.cells 0 [Sr w] true)) : Ok (Cw J 145 [.sv (.slice (tbl.map rowS)), .func 147 [] [.ptr wid 0]] h) fun r => r.1 = I (opOf w) ∧ Ext h r.2 := by
  have key := l145 (J := J) (xs := tbl.map rowS) (by intro x hx; obtain ⟨t, -, rfl⟩ := List.mem_map.1 hx; rfl) (by simp [tbl]) (f := 147) (first := []) (caps := [.ptr wid 0]) (p := fun x => match x with | [.str s, _, _, _] => s == w | _ => false)
    (Good := fun h' => Ext h h') (h := h) (by
      intro x hx h' hg
      obtain ⟨t, -, rfl⟩ := List.mem_map.1 hx
      refine ⟨_, c147 t (hg _ _ hw), ?_, hg.trans (Ext.app _ _)⟩
      simp only [rowS, Bo]
      congr 2
      rw [Bool.eq_iff_iff]
      simp) (Ext.refl h)
  obtain ⟨r, h1, h2, h3⟩ := key
  refine ⟨r, call_sh Try.func145 (by kernel_rfl) (by rfl) ((f145_eq _ _ _ _ _ _).trans h1), ?_, h3⟩
  rw [h2, idxP_map]
  rfl

/-- All objects stand but two. -/
def Keep2 (id id2 : Nat) (h h' : Heap) : Prop := h.length ≤ h'.length ∧ ∀ i e, i ≠ id → i ≠ id2 → h[i]? = some e → h'[i]? = some e

theorem KeepO.two {id : Nat} {h h' : Heap} (k : KeepO id h h') (id2 : Nat) : Keep2 id id2 h h' := ⟨k.1, fun i e h1 _ h3 => k.2 i e h1 h3⟩
theorem Keep2.trans {id id2 : Nat} {h h1 h2 : Heap} (a : Keep2 id id2 h h1) (b : Keep2 id id2 h1 h2) : Keep2 id id2 h h2 := ⟨Nat.le_trans a.1 b.1, fun i e hi hj he => b.2 i e hi hj (a.2 i e hi hj he)⟩
theorem Keep2.set2 (id id2 : Nat) (h : Heap) (e : Ent) : Keep2 id id2 h (h.set id2 e) := ⟨by simp, fun i x _ hi hx => by rw [List.getElem?_set_ne (Ne.symm hi)]; exact hx⟩

def InsAt (id X S : Nat) (h : Heap) (s : Ins × List Tok × Bool) : Prop :=
  Rd h id s.2.1 s.2.2 ∧ h[X]? = some (.cells 0 (s.1.sv.map .sv) true) ∧ h[S]? = some (.cells 0 ((rowS (shp s.1.op)).map .sv) true) ∧ X ≠ id ∧ S ≠ id ∧ S ≠ X ∧ Few s.2.1

theorem putP_op (i : Nat) (k v : Int) (x : Ins) : (putP i k v x).op = x.op := by
  unfold putP
  repeat' split
  all_goals rfl

theorem partS_few {k : Int} {l : List Tok} {bad : Bool} (h : Few l) : Few (partS k l bad).2.1 := by
  unfold partS behindS signedS
  split
  · exact h.take
  · split
    · exact h.take
    · split
      · exact h.take
      · split
        · split
          · exact Few.take (k := 2) (bad := bad) h
          · split
            · exact h.take.take
            · exact h.take
        · exact h

/-- A field's store. -/
theorem put_field {X i : Nat} {h : Heap} {x : Ins} {k v : Int} (hX : h[X]? = some (.cells 0 (x.sv.map .sv) true)) (hi : i < 3) (h5 : k ≠ 5) (h0 : k ≠ 0) : storeA 1 (.ptr X (1 + i)) (I v) h = some (.undef, h.set X (.cells 0 ((putP i k v x).sv.map .sv) true)) := by
  rw [store_eq (n := 1) (vs := [I v]) hX rfl rfl (by simp [Ins.sv]; omega)]
  rcases (by omega : i = 0 ∨ i = 1 ∨ i = 2) with rfl | rfl | rfl <;> simp [putP, h5, h0, Ins.sv, splice]

theorem put_n {X i : Nat} {h : Heap} {x : Ins} {v : Int} (hX : h[X]? = some (.cells 0 (x.sv.map .sv) true)) : storeA 1 (.ptr X (0 + 4)) (I v) h = some (.undef, h.set X (.cells 0 ((putP i 5 v x).sv.map .sv) true)) := by
  rw [store_eq (n := 1) (vs := [I v]) hX rfl rfl (by simp [Ins.sv])]
  simp [putP, Ins.sv, splice]

theorem l97_k1 {id X S i : Nat} {tm : Tm} {h : Heap} {s : Ins × List Tok × Bool} {k : Int} (hs : InsAt id X S h s) (hi : i < 3) (hk : kAt s.1.op i = k) (e0 : tm 0 = .ptr id 0) (e2 : tm 2 = .ptr X 0) (e7 : tm 7 = .ptr X (1 + i)) (e27 : tm 27 = I i) (e34 : tm 34 = I k) (e35 : tm 35 = Bo (decide (k = 1 ∨ k = 2))) :
    Ok (f97_k1 optB (Cw J) loopW tm h) fun r => r.1 = .normal ∧ r.2.tm 0 = tm 0 ∧ r.2.tm 2 = tm 2 ∧ r.2.tm 4 = tm 4 ∧ r.2.tm 26 = tm 26 ∧ r.2.tm 27 = I ((i + 1 : Nat) : Int) ∧ InsAt id X S r.2.h (stepI s.1.op i s) ∧ Keep2 id X h r.2.h := by
  obtain ⟨hr, hX, hS, n1, n2, n3, hf⟩ := hs
  have w1 : IntKind.i64.wrap ((i : Int) + 1) = ((i + 1 : Nat) : Int) := by rw [wrapI (by omega) (by omega)]; omega
  obtain ⟨x, l, bad⟩ := s
  simp only at hr hX hS hk hf ⊢
  -- behind a part that is put in its place
  have fin : ∀ (h1 : Heap) (p : Int × List Tok × Bool), partS k l bad = p → Rd h1 id p.2.1 p.2.2 → KeepO id h h1 →
      InsAt id X S (h1.set X (.cells 0 ((putP i k p.1 x).sv.map .sv) true)) (stepI x.op i (x, l, bad)) ∧ Keep2 id X h (h1.set X (.cells 0 ((putP i k p.1 x).sv.map .sv) true)) ∧ h1[X]? = some (.cells 0 (x.sv.map .sv) true) := by
    intro h1 p hp q1 q2
    have hX1 := q2.2 X _ n1 hX
    have hS1 := q2.2 S _ n2 hS
    have hlt := (List.getElem?_eq_some_iff.1 hX1).1
    refine ⟨⟨?_, ?_, ?_, n1, n2, n3, ?_⟩, (q2.two X).trans (Keep2.set2 id X h1 _), hX1⟩
    · unfold Rd
      rw [List.getElem?_set_ne n1]
      simp only [stepI, hk, hp]
      exact q1
    · simp only [stepI, hk, hp]
      simp [hlt]
    · rw [List.getElem?_set_ne (Ne.symm n3)]
      simp only [stepI, putP_op]
      exact hS1
    · simp only [stepI, hk]
      exact partS_few hf
  by_cases h12 : k = 1 ∨ k = 2
  · have hp : partS k l bad = behindS [114] l bad := if_pos h12
    simp -implicitDefEqProofs only [f97_k1, optB_b, e35, h12, decide_true, asB_bo, Option.bind_some, if_true, e0]
    refine Ok.bind (c148 [114] hr hf) ?_
    rintro ⟨v, h1⟩ ⟨hv, q1, q2⟩
    simp only at hv q1 q2
    subst hv
    obtain ⟨r1, r2, r3⟩ := fin h1 _ hp q1 q2
    simp -implicitDefEqProofs only [e7, nc_ptr, Option.bind_some, put_field r3 hi (show k ≠ 5 by omega) (show k ≠ 0 by omega), e27, bin_add, w1, ok_some]
    refine ⟨trivial, ?_, ?_, ?_, ?_, ?_, r1, r2⟩ <;> simp [upd, e0]
  · by_cases h3 : k = 3
    · have hp : partS k l bad = behindS [97] l bad := by subst h3; rfl
      simp -implicitDefEqProofs only [f97_k1, optB_b, e34, e35, h12, h3, decide_false, decide_true, asB_bo, Option.bind_some, if_true, Bool.false_eq_true, if_false, bin_eql, e0]
      refine Ok.bind (c148 [97] hr hf) ?_
      rintro ⟨v, h1⟩ ⟨hv, q1, q2⟩
      simp only at hv q1 q2
      subst hv
      obtain ⟨r1, r2, r3⟩ := fin h1 _ hp q1 q2
      simp -implicitDefEqProofs only [e7, nc_ptr, Option.bind_some, put_field r3 hi (show k ≠ 5 by omega) (show k ≠ 0 by omega), e27, bin_add, w1, ok_some]
      refine ⟨trivial, ?_, ?_, ?_, ?_, ?_, r1, r2⟩ <;> simp [upd, e0]
    · by_cases h4 : k = 4
      · have hp : partS k l bad = ((takeS 2 l bad).1.n, (takeS 2 l bad).2) := by subst h4; rfl
        simp -implicitDefEqProofs only [f97_k1, optB_b, e34, e35, h12, h3, h4, show ¬ ((4 : Int) = 3) by decide, decide_false, decide_true, asB_bo, Option.bind_some, if_true, Bool.false_eq_true, if_false, bin_eql, e0]
        refine Ok.bind (c96 2 hr hf.1) ?_
        rintro ⟨v, h1⟩ ⟨hv, q1, q2⟩
        simp only at hv q1 q2
        subst hv
        obtain ⟨r1, r2, r3⟩ := fin h1 _ hp q1 q2
        simp -implicitDefEqProofs only [fl2, e7, nc_ptr, Option.bind_some, put_field r3 hi (show k ≠ 5 by omega) (show k ≠ 0 by omega), e27, bin_add, w1, ok_some]
        refine ⟨trivial, ?_, ?_, ?_, ?_, ?_, r1, r2⟩ <;> simp [upd, e0]
      · by_cases h5 : k = 5
        · have hp : partS k l bad = signedS l bad := by subst h5; rfl
          simp -implicitDefEqProofs only [f97_k1, optB_b, e34, e35, h12, h3, h4, h5, show ¬ ((5 : Int) = 3) by decide, show ¬ ((5 : Int) = 4) by decide, decide_false, decide_true, asB_bo, Option.bind_some, if_true, Bool.false_eq_true, if_false, bin_eql, e0]
          refine Ok.bind (c149 hr hf) ?_
          rintro ⟨v, h1⟩ ⟨hv, q1, q2⟩
          simp only at hv q1 q2
          subst hv
          obtain ⟨r1, r2, r3⟩ := fin h1 _ hp q1 q2
          rw [h5] at r1 r2
          simp -implicitDefEqProofs only [e2, fa_ptr, Option.bind_some, put_n (i := i) r3, e27, bin_add, w1, ok_some]
          refine ⟨trivial, ?_, ?_, ?_, ?_, ?_, r1, r2⟩ <;> simp [upd, e0, e2]
        · have hk0 : k = 0 := by
            have := kd_range x.op
            have : 0 ≤ k ∧ k ≤ 5 := by
              rw [← hk]
              unfold kAt
              split
              · exact this.1
              · split
                · exact this.2.1
                · exact this.2.2
            omega
          have hp : partS k l bad = (0, l, bad) := by subst hk0; rfl
          simp -implicitDefEqProofs only [f97_k1, optB_b, e34, e35, h12, h3, h4, h5, decide_false, asB_bo, Option.bind_some, Bool.false_eq_true, if_false, bin_eql, e27, bin_add, w1, ok_some]
          have hst : stepI x.op i (x, l, bad) = (x, l, bad) := by
            subst hk0
            simp [stepI, hk, hp, putP]
          rw [hst]
          refine ⟨trivial, ?_, ?_, ?_, ?_, ?_, ⟨hr, hX, hS, n1, n2, n3, hf⟩, (KeepO.refl id h).two X⟩ <;> simp [upd, e0]

end
end Go.Proofs.Ytmhamnnfcmkcfaa

/- Code's functions come to the plain ones: an instruction, read, whole. -/
set_option maxRecDepth 100000
namespace Go.Proofs.Ytmhamnnfcmkcfaa
open Go.RowKit

section
variable {J : Option (List AV → Option AV)}

def chainI (op : Int) (s : Ins × List Tok × Bool) : Nat → Ins × List Tok × Bool
  | 0 => s
  | i + 1 => stepI op i (chainI op s i)

theorem chainI_op (op : Int) (s : Ins × List Tok × Bool) : ∀ i, (chainI op s i).1.op = s.1.op
  | 0 => rfl
  | i + 1 => by simp only [chainI, stepI, putP_op]; exact chainI_op op s i

def InsInv (id X S : Nat) (h0 : Heap) (s : Ins × List Tok × Bool) (n : Nat) (st : St) : Prop :=
  ∃ i : Nat, st.tm 0 = .ptr id 0 ∧ st.tm 2 = .ptr X 0 ∧ st.tm 4 = .ptr S 0 ∧ st.tm 26 = .agg [.ptr X 1, .ptr X 2, .ptr X 3] ∧ st.tm 27 = I i ∧ i ≤ 3 ∧ InsAt id X S st.h (chainI s.1.op s i) ∧ Keep2 id X h0 st.h ∧ n = 3 - i

def InsPost (id X S : Nat) (h0 : Heap) (s : Ins × List Tok × Bool) (r : Out × St) : Prop :=
  r.1 = .exit 0 ∧ r.2.tm 2 = .ptr X 0 ∧ InsAt id X S r.2.h (chainI s.1.op s 3) ∧ Keep2 id X h0 r.2.h

theorem l97_b0 {id X S : Nat} {h0 : Heap} {s : Ins × List Tok × Bool} (n : Nat) (st : St) (hI : InsInv id X S h0 s n st) : Ok (f97_b0 optB (Cw J) loopW st.tm st.h) (Nxt (InsInv id X S h0 s) (InsPost id X S h0 s) n) := by
  obtain ⟨tm, h⟩ := st
  obtain ⟨i, e0, e2, e4, e26, e27, hi, hA, hK, rfl⟩ := hI
  simp only at e0 e2 e4 e26 e27 hA hK ⊢
  by_cases hlt : i < 3
  · have h3 : (i : Int) < 3 := by omega
    have hop : (chainI s.1.op s i).1.op = s.1.op := chainI_op _ _ _
    have hix : ix (.arr 3 1 false none) (.agg [.ptr X 1, .ptr X 2, .ptr X 3]) (I i) = some (.ptr X (1 + i)) := by
      rw [arr3 hlt]
      rcases (by omega : i = 0 ∨ i = 1 ∨ i = 2) with rfl | rfl | rfl <;> rfl
    have hia : ia (.arr 3 1 false (some [.int .i64, .int .i64, .int .i64])) (.ptr S (0 + 1)) (I i) = some (.ptr S (1 + i)) := by
      rw [ia_ptr (i := i) rfl hlt]; simp
    have hk : ld 1 false (.ptr S (1 + i)) h = some (I (kAt s.1.op i)) := by
      rw [ld_ptr hA.2.2.1 (by simp [rowS]; omega), hop]
      rcases (by omega : i = 0 ∨ i = 1 ∨ i = 2) with rfl | rfl | rfl <;> rfl
    have after : ∀ (r : Out × St), (r.1 = .normal ∧ r.2.tm 0 = .ptr id 0 ∧ r.2.tm 2 = .ptr X 0 ∧ r.2.tm 4 = .ptr S 0 ∧ r.2.tm 26 = .agg [.ptr X 1, .ptr X 2, .ptr X 3] ∧ r.2.tm 27 = I ((i + 1 : Nat) : Int) ∧ InsAt id X S r.2.h (stepI (chainI s.1.op s i).1.op i (chainI s.1.op s i)) ∧ Keep2 id X h r.2.h) →
        Nxt (InsInv id X S h0 s) (InsPost id X S h0 s) (3 - i) r := by
      rintro ⟨o, st⟩ ⟨q1, q2, q3, q4, q5, q6, q7, q8⟩
      simp only at q1 q2 q3 q4 q5 q6 q7 q8
      subst q1
      rw [hop] at q7
      exact nxt_n (3 - (i + 1)) (by omega) ⟨i + 1, q2, q3, q4, q5, q6, by omega, q7, hK.trans q8, rfl⟩
    generalize hkk : kAt s.1.op i = k at *
    by_cases k1 : k = 1
    · have hd : decide (k = 1 ∨ k = 2) = true := decide_eq_true (.inl k1)
      simp -implicitDefEqProofs only [f97_b0, optB_b, e27, h3, bin_lss, Option.bind_some, decide_true, asB_bo, if_true, e26, hix, e4, fa_ptr, hia, hk, bin_eql, k1]
      refine (l97_k1 (k := k) hA hlt (by rw [hop]; exact hkk) ?_ ?_ ?_ ?_ ?_ ?_).mono fun r q => after r ?_
      · simp [upd, e0]
      · simp [upd, e2]
      · simp [upd]
      · simp [upd, e27]
      · simp [upd, k1]
      · simp [upd, hd]
      · obtain ⟨q1, q2, q3, q4, q5, q6, q7, q8⟩ := q
        exact ⟨q1, by rw [q2]; simp [upd, e0], by rw [q3]; simp [upd, e2], by rw [q4]; simp [upd, e4], by rw [q5]; simp [upd, e26], q6, q7, q8⟩
    · have hd : decide (k = 1 ∨ k = 2) = decide (k = 2) := by simp [k1]
      simp -implicitDefEqProofs only [f97_b0, optB_b, e27, h3, bin_lss, Option.bind_some, decide_true, asB_bo, if_true, e26, hix, e4, fa_ptr, hia, hk, bin_eql, k1, decide_false, Bool.false_eq_true, if_false]
      refine (l97_k1 (k := k) hA hlt (by rw [hop]; exact hkk) ?_ ?_ ?_ ?_ ?_ ?_).mono fun r q => after r ?_
      · simp [upd, e0]
      · simp [upd, e2]
      · simp [upd]
      · simp [upd, e27]
      · simp [upd]
      · simp [upd, hd]
      · obtain ⟨q1, q2, q3, q4, q5, q6, q7, q8⟩ := q
        exact ⟨q1, by rw [q2]; simp [upd, e0], by rw [q3]; simp [upd, e2], by rw [q4]; simp [upd, e4], by rw [q5]; simp [upd, e26], q6, q7, q8⟩
  · have : i = 3 := by omega
    subst this
    simp -implicitDefEqProofs only [f97_b0, optB_b, e27, bin_lss, Option.bind_some, show ¬ (((3 : Nat) : Int) < 3) by decide, decide_false, asB_bo, Bool.false_eq_true, if_false, ok_some]
    exact nxt_e ⟨rfl, by simp [upd, e2], hA, hK⟩

theorem l97_k0 {id X S : Nat} {tm : Tm} {h : Heap} {s : Ins × List Tok × Bool} (e0 : tm 0 = .ptr id 0) (e2 : tm 2 = .ptr X 0) (e4 : tm 4 = .ptr S 0) (hA : InsAt id X S h s) :
    Ok (f97_k0 optB (Cw J) loopW tm h) fun r => r.1 = .agg ((chainI s.1.op s 3).1.sv.map .sv) ∧ Rd r.2 id (chainI s.1.op s 3).2.1 (chainI s.1.op s 3).2.2 ∧ Keep2 id X h r.2 := by
  simp -implicitDefEqProofs only [f97_k0, optB_b, e2, c104, Option.bind_some]
  obtain ⟨a1, a2, a3, a4, a5, a6, a7⟩ := hA
  have hK0 : Keep2 id X h (h ++ [.cells 0 [.ptr X 1, .ptr X 2, .ptr X 3] true]) := (KeepO.app id h _).two X
  refine loop_ok (InsInv id X S (h ++ [.cells 0 [.ptr X 1, .ptr X 2, .ptr X 3] true]) s) (InsPost id X S (h ++ [.cells 0 [.ptr X 1, .ptr X 2, .ptr X 3] true]) s) (n := 3)
    ⟨0, ?_, ?_, ?_, ?_, ?_, by omega, ?_, ⟨Nat.le_refl _, fun _ _ _ _ h => h⟩, rfl⟩ (fun n st hI => l97_b0 n st hI) ?_
  · simp [upd, e0]
  · simp [upd, e2]
  · simp [upd, e4]
  · simp [upd]
  · simp [upd]
  · exact ⟨app_get a1 _, app_get a2 _, app_get a3 _, a4, a5, a6, a7⟩
  · rintro ⟨o, st⟩ ⟨rfl, q2, ⟨b1, b2, b3, b4, b5, b6, b7⟩, q4⟩
    simp only at q2 b1 b2 q4 ⊢
    have g : ld 5 true (.ptr X 0) st.h = some (.agg ((chainI s.1.op s 3).1.sv.map .sv)) := by
      rw [ld_ptr b2 (by simp [Ins.sv])]; rfl
    have st5 : storeA 5 (.ptr X 0) (.agg ((chainI s.1.op s 3).1.sv.map .sv)) st.h = some (.undef, st.h.set X (.cells 0 ((chainI s.1.op s 3).1.sv.map .sv) true)) := by
      rw [store_eq (n := 5) b2 (cellsOf_agg _) (by rfl) (by simp [Ins.sv])]; rfl
    have hlt := (List.getElem?_eq_some_iff.1 b2).1
    have g2 : ld 5 true (.ptr X 0) (st.h.set X (.cells 0 ((chainI s.1.op s 3).1.sv.map .sv) true)) = some (.agg ((chainI s.1.op s 3).1.sv.map .sv)) := by
      rw [ld_ptr (cs := (chainI s.1.op s 3).1.sv.map .sv) (esz := 0) (wr := true) (by simp [hlt]) (by simp [Ins.sv])]; rfl
    simp -implicitDefEqProofs only [outBlock_exit, if_true, outSeq_normal, f97_k2, optB_b, q2, g, Option.bind_some, st5, g2, ok_some]
    refine ⟨trivial, ?_, hK0.trans (q4.trans (Keep2.set2 id X _ _))⟩
    unfold Rd
    rw [List.getElem?_set_ne b4]
    exact b1

theorem c97 {id : Nat} {h : Heap} {l : List Tok} {bad : Bool} (hr : Rd h id l bad) (hl : Few l) :
    Ok (Cw J 97 [.ptr id 0] h) fun r => r.1 = .agg ((insS l bad).1.sv.map .sv) ∧ Rd r.2 id (insS l bad).2.1 (insS l bad).2.2 ∧ KeepO id h r.2 := by
  have hlt : id < h.length := (List.getElem?_eq_some_iff.1 hr).1
  have key : Ok (f97_sh optB (Cw J) loopW (.ptr id 0) h) fun r => r.1 = .agg ((insS l bad).1.sv.map .sv) ∧ Rd r.2 id (insS l bad).2.1 (insS l bad).2.2 ∧ KeepO id h r.2 := by
    have hal : alloc [.sv (.int .i64 0), .sv (.int .i64 0), .sv (.int .i64 0), .sv (.int .i64 0), .sv (.int .i64 0)] h = some (.ptr h.length 0, h ++ [.cells 0 ((⟨0, 0, 0, 0, 0⟩ : Ins).sv.map .sv) true]) := alloc_eq rfl
    simp -implicitDefEqProofs only [f97_sh, optB_b, hal, Option.bind_some]
    refine Ok.bind (c96 1 (app_get hr _) hl.1) ?_
    rintro ⟨v, h2⟩ ⟨hv, q1, q2⟩
    simp only at hv q1 q2
    subst hv
    have hf : Few (takeS 1 l bad).2.1 := hl.take
    have hX2 : h2[h.length]? = some (.cells 0 ((⟨0, 0, 0, 0, 0⟩ : Ins).sv.map .sv) true) := q2.2 _ _ (by omega) (heap_last _ _)
    unfold insS
    generalize takeS 1 l bad = t at *
    obtain ⟨tok, l1, b1⟩ := t
    simp only at q1 hf ⊢
    have hal2 : alloc [.sv (.str [])] h2 = some (.ptr h2.length 0, h2 ++ [.cells 0 [.sv (.str [])] true]) := alloc_eq rfl
    have hst2 : storeA 1 (.ptr h2.length 0) (Sr tok.s) (h2 ++ [.cells 0 [.sv (.str [])] true]) = some (.undef, h2 ++ [.cells 0 [Sr tok.s] true]) := by
      rw [store_eq (n := 1) (vs := [Sr tok.s]) (heap_last _ _) rfl rfl (by simp), heap_set_last]; rfl
    simp -implicitDefEqProofs only [fl1, Option.bind_some, hal2, hst2, c146]
    refine Ok.bind (c145 (heap_last _ _)) ?_
    rintro ⟨v, h4⟩ ⟨hv, hE⟩
    simp only at hv hE
    subst hv
    have hX4 := hE _ _ (app_get hX2 _)
    have hr4 : Rd h4 id l1 b1 := hE _ _ (app_get q1 _)
    have hXlt : h.length < h4.length := (List.getElem?_eq_some_iff.1 hX4).1
    generalize opOf tok.s = op at *
    have hst4 : storeA 1 (.ptr h.length (0 + 0)) (I op) h4 = some (.undef, h4.set h.length (.cells 0 ((⟨op, 0, 0, 0, 0⟩ : Ins).sv.map .sv) true)) := by
      rw [store_eq (n := 1) (vs := [I op]) hX4 rfl rfl (by simp [Ins.sv])]; rfl
    have hX5 : (h4.set h.length (.cells 0 ((⟨op, 0, 0, 0, 0⟩ : Ins).sv.map .sv) true))[h.length]? = some (.cells 0 ((⟨op, 0, 0, 0, 0⟩ : Ins).sv.map .sv) true) := by simp [hXlt]
    have hr5 : Rd (h4.set h.length (.cells 0 ((⟨op, 0, 0, 0, 0⟩ : Ins).sv.map .sv) true)) id l1 b1 := by
      unfold Rd
      rw [List.getElem?_set_ne (by omega)]
      exact hr4
    have hK5 : ∀ i e, i ≠ id → h[i]? = some e → (h4.set h.length (.cells 0 ((⟨op, 0, 0, 0, 0⟩ : Ins).sv.map .sv) true))[i]? = some e := by
      intro i e hi he
      have hil := (List.getElem?_eq_some_iff.1 he).1
      rw [List.getElem?_set_ne (by omega)]
      exact hE _ _ (app_get (q2.2 i e hi (app_get he _)) _)
    have hL5 : h.length < (h4.set h.length (.cells 0 ((⟨op, 0, 0, 0, 0⟩ : Ins).sv.map .sv) true)).length := by simp; exact hXlt
    have g5 : ld 1 false (.ptr h.length (0 + 0)) (h4.set h.length (.cells 0 ((⟨op, 0, 0, 0, 0⟩ : Ins).sv.map .sv) true)) = some (I op) := by
      rw [ld_ptr hX5 (by simp [Ins.sv])]; rfl
    generalize (h4.set h.length (.cells 0 ((⟨op, 0, 0, 0, 0⟩ : Ins).sv.map .sv) true)) = h5 at *
    have hal5 : alloc [.sv (.str []), .sv (.int .i64 0), .sv (.int .i64 0), .sv (.int .i64 0)] h5 = some (.ptr h5.length 0, h5 ++ [.cells 0 [.sv (.str []), .sv (.int .i64 0), .sv (.int .i64 0), .sv (.int .i64 0)] true]) := alloc_eq rfl
    have hst5 : storeA 4 (.ptr h5.length 0) (rowA op) (h5 ++ [.cells 0 [.sv (.str []), .sv (.int .i64 0), .sv (.int .i64 0), .sv (.int .i64 0)] true]) = some (.undef, h5 ++ [.cells 0 ((rowS (shp op)).map .sv) true]) := by
      rw [store_eq (n := 4) (heap_last _ _) (cellsOf_agg _) (by rfl) (by simp), heap_set_last]; rfl
    have hr6 : Rd (h5 ++ [.cells 0 ((rowS (shp op)).map .sv) true]) id l1 b1 := app_get hr5 _
    have hidlt5 : id < h5.length := (List.getElem?_eq_some_iff.1 hr5).1
    -- the end
    have fin : ∀ (tm : Tm) (h7 : Heap) (b : Bool), b = (b1 || !inR op) → tm 0 = .ptr id 0 → tm 2 = .ptr h.length 0 → tm 4 = .ptr h5.length 0 → Rd h7 id l1 b → KeepO id (h5 ++ [.cells 0 ((rowS (shp op)).map .sv) true]) h7 →
        Ok (f97_k0 optB (Cw J) loopW tm h7) fun r => r.1 = .agg ((stepI op 2 (stepI op 1 (stepI op 0 (⟨op, 0, 0, 0, 0⟩, l1, b1 || !inR op)))).1.sv.map .sv) ∧
          Rd r.2 id (stepI op 2 (stepI op 1 (stepI op 0 (⟨op, 0, 0, 0, 0⟩, l1, b1 || !inR op)))).2.1 (stepI op 2 (stepI op 1 (stepI op 0 (⟨op, 0, 0, 0, 0⟩, l1, b1 || !inR op)))).2.2 ∧ KeepO id h r.2 := by
      intro tm h7 b hb t0 t2 t4 hr7 hK7
      subst hb
      refine (l97_k0 (s := (⟨op, 0, 0, 0, 0⟩, l1, b1 || !inR op)) t0 t2 t4 ⟨hr7, hK7.2 _ _ (by omega) (app_get hX5 _), hK7.2 _ _ (by omega) (heap_last _ _), by omega, by omega, by omega, hf⟩).mono ?_
      rintro ⟨v, h8⟩ ⟨p1, p2, p3⟩
      have hl7 := hK7.1
      rw [List.length_append] at hl7
      refine ⟨p1, p2, Nat.le_trans (by omega) p3.1, fun i e hi he => ?_⟩
      have hil := (List.getElem?_eq_some_iff.1 he).1
      exact p3.2 i e hi (by omega) (hK7.2 i e hi (app_get (hK5 i e hi he) _))
    cases hin : inR op with
    | true =>
      simp -implicitDefEqProofs only [Option.bind_some, fa_ptr, hst4, g5, c103, ex_tuple, List.getElem?_cons_zero, List.getElem?_cons_succ, hal5, hst5, hin, un_not, Bool.not_true, asB_bo, Bool.false_eq_true, if_false]
      rw [hin] at fin
      refine fin _ _ b1 (by simp) ?_ ?_ ?_ hr6 (KeepO.refl _ _) <;> simp [upd]
    | false =>
      have hsb : storeA 1 (.ptr id (0 + 1)) (Bo true) (h5 ++ [.cells 0 ((rowS (shp op)).map .sv) true]) = some (.undef, List.set (h5 ++ [Ent.cells 0 ((rowS (shp op)).map .sv) true]) id (Ent.cells 0 [.sv (toksSV l1), Bo true] true)) := rd_setb hr6 true
      simp -implicitDefEqProofs only [Option.bind_some, fa_ptr, hst4, g5, c103, ex_tuple, List.getElem?_cons_zero, List.getElem?_cons_succ, hal5, hst5, hin, un_not, Bool.not_false, asB_bo, if_true, nc_ptr, hsb]
      rw [hin] at fin
      refine fin _ _ true (by simp) ?_ ?_ ?_ (rd_of_set (by simp; omega)) (KeepO.set _ _ _) <;> simp [upd]
  obtain ⟨r, h1, h2⟩ := key
  exact ⟨r, call_sh Try.func97 (by kernel_rfl) (by rfl) ((f97_eq _ _ _ _ _).trans h1), h2⟩

end
end Go.Proofs.Ytmhamnnfcmkcfaa

/- Code's functions come to the plain ones: code, read. -/
set_option maxRecDepth 100000
namespace Go.Proofs.Ytmhamnnfcmkcfaa
open Go.RowKit

/-! ### What was cut is few -/

theorem readS_s (s : List UInt8) : (readS s).1.s = s := by
  unfold readS
  split
  · rfl
  · split <;> rfl

theorem cutF_few : ∀ (f : Nat) (s : List UInt8) (i : Nat) (e : Bool) (out res : List Tok) (m : Nat), cutF f s i e out = .ok res → s.length ≤ m → (∀ t ∈ out, t.s.length ≤ m) → ∀ t ∈ res, t.s.length ≤ m := by
  intro f
  induction f with
  | zero => intro s i e out res m h _ ho; cases h; exact ho
  | succ f ih =>
    intro s i e out res m h hs ho
    cases s with
    | nil => cases h; exact ho
    | cons c r =>
      simp only [cutF] at h
      simp only [List.length_cons] at hs
      split at h
      · exact ih _ _ _ _ _ m h (by omega) ho
      · split at h
        · exact ih _ _ _ _ _ m h (by omega) ho
        · split at h
          · split at h
            · cases h; exact ho
            · exact ih _ _ _ _ _ m h (by simp; omega) ho
          · split at h
            · refine ih _ _ _ _ _ m h (by simp; omega) ?_
              intro t ht
              rcases List.mem_append.1 ht with q | q
              · split at q
                · rcases List.mem_append.1 q with q | q
                  · exact ho t q
                  · simp at q; subst q; simp [lineT]
                · exact ho t q
              · simp at q
                subst q
                rw [readS_s]
                simp; omega
            · cases h

theorem cutS_few {s : List UInt8} (h : (cutS s).2.2 = 0) : (cutS s).1.length ≤ 4096 ∧ ∀ t ∈ (cutS s).1, t.s.length ≤ 65536 := by
  unfold cutS at h ⊢
  split at h
  · cases h
  · rename_i hs
    rw [if_neg hs]
    cases hout : cutF s.length s 0 false [] with
    | error i => rw [hout] at h; cases h
    | ok out =>
      rw [hout] at h
      simp only at h ⊢
      split at h
      · cases h
      · rename_i ho
        rw [if_neg ho]
        exact ⟨by simp only; omega, cutF_few _ _ _ _ _ _ 65536 hout (by omega) (by simp)⟩

theorem linesF_sub : ∀ (f : Nat) (l : List Tok) (x : List Tok), x ∈ linesF f l → x.length ≤ l.length ∧ ∀ t ∈ x, t ∈ l := by
  intro f
  induction f with
  | zero => intro l x h; simp [linesF] at h
  | succ f ih =>
    intro l x h
    cases l with
    | nil => simp [linesF] at h
    | cons t r =>
      simp only [linesF] at h
      split at h
      · simp at h; subst h; exact ⟨Nat.le_refl _, fun t h => h⟩
      · rename_i i hi
        rcases List.mem_cons.1 h with rfl | h
        · exact ⟨by simp; omega, fun t ht => List.mem_of_mem_take ht⟩
        · split at h
          · simp at h; subst h; exact ⟨by simp, fun t ht => by simp at ht⟩
          · obtain ⟨h1, h2⟩ := ih _ _ h
            exact ⟨Nat.le_trans h1 (by simp; omega), fun t ht => List.mem_of_mem_drop (h2 t ht)⟩

theorem linesF_len : ∀ (f : Nat) (l : List Tok), (linesF f l).length ≤ l.length + 1 := by
  intro f
  induction f with
  | zero => intro l; simp [linesF]
  | succ f ih =>
    intro l
    cases l with
    | nil => simp [linesF]
    | cons t r =>
      simp only [linesF]
      split
      · simp
      · rename_i i hi
        have hlt := (List.findIdx?_eq_some_iff_getElem.1 hi).1
        simp only [List.length_cons] at hlt ⊢
        split
        · simp
        · have := ih ((t :: r).drop (i + 1))
          simp only [List.length_drop, List.length_cons] at this
          omega

/-! ### The loop -/

section
variable {J : Option (List AV → Option AV)}

def COb (h : Heap) (a b c : Int) (v : AV) : Prop := h[0]? = some (.cells 0 [I a, I b, I c, v] true)

def PBad (l0 : List Tok) (ls : List (List Tok)) (j : Nat) : Prop :=
  (((headS l0).2.2 || decide (0 < (headS l0).2.1.length)) = true ∧ j = 0) ∨ (((headS l0).2.2 || decide (0 < (headS l0).2.1.length)) = false ∧ bodyS ls 1 [] = .error j)

def ParInv (l0 : List Tok) (ls : List (List Tok)) (n : Nat) (st : St) : Prop :=
  ∃ (i : Nat) (a b c : Int) (v : AV) (xs : List Ins), st.tm 2 = .ptr 0 0 ∧ st.tm 30 = .sv (linesSV (l0 :: ls)) ∧ st.tm 8 = .sv (linesSV (l0 :: ls)) ∧ st.tm 31 = I ((l0 :: ls).length : Nat) ∧ st.tm 32 = I i ∧ i ≤ (l0 :: ls).length ∧ n = (l0 :: ls).length - i ∧
    COb st.h a b c v ∧ IsRow st.h 5 v (xs.map Ins.sv) ∧ xs.length ≤ i ∧
    (if i = 0 then a = 0 ∧ b = 0 ∧ c = 0 ∧ v = .nil ∧ xs = [] else ((headS l0).2.2 || decide (0 < (headS l0).2.1.length)) = false ∧ a = (headS l0).1.1 ∧ b = (headS l0).1.2.1 ∧ c = (headS l0).1.2.2 ∧ bodyS ((l0 :: ls).drop i) i xs = bodyS ls 1 [])

def ParPost (l0 : List Tok) (ls : List (List Tok)) (r : Out × St) : Prop :=
  r.2.tm 2 = .ptr 0 0 ∧ ((r.1 = .ret ∧ COb r.2.h 0 0 0 .nil ∧ r.2.tm 4 = I 6 ∧ ∃ j : Nat, r.2.tm 3 = I j ∧ PBad l0 ls j) ∨
    (r.1 = .exit 0 ∧ r.2.tm 8 = .sv (linesSV (l0 :: ls)) ∧ ((headS l0).2.2 || decide (0 < (headS l0).2.1.length)) = false ∧ ∃ v xs, COb r.2.h (headS l0).1.1 (headS l0).1.2.1 (headS l0).1.2.2 v ∧ IsRow r.2.h 5 v (xs.map Ins.sv) ∧ bodyS ls 1 [] = .ok xs ∧ xs.length ≤ ls.length + 1))

/-- Behind a line. -/
theorem l33_k0 {tm : Tm} {h : Heap} {R i : Nat} {l : List Tok} {bad : Bool} {a b c : Int} {v : AV} (e2 : tm 2 = .ptr 0 0) (e11 : tm 11 = .ptr R 0) (e9 : tm 9 = I i) (e32 : tm 32 = I i) (hr : Rd h R l bad) (hc : COb h a b c v) (hi : i ≤ 1000000000) :
    Ok (f33_k0 optB (Cw J) loopW tm h) fun r => r.2.tm 2 = .ptr 0 0 ∧ (if (bad || decide (0 < l.length)) = true then r.1 = .ret ∧ COb r.2.h 0 0 0 .nil ∧ r.2.tm 4 = I 6 ∧ r.2.tm 3 = I i
      else r.1 = .normal ∧ r.2.h = h ∧ r.2.tm 30 = tm 30 ∧ r.2.tm 8 = tm 8 ∧ r.2.tm 31 = tm 31 ∧ r.2.tm 32 = I ((i + 1 : Nat) : Int)) := by
  have g1 := rd_b hr
  have g0 := rd_l hr
  have hln := ln_toks l
  have hbd : bdA tab 39 [] = some (.agg [I 0, I 0, I 0, .nil]) := by rfl
  have hst : storeA 4 (.ptr 0 0) (.agg [I 0, I 0, I 0, .nil]) h = some (.undef, h.set 0 (.cells 0 [I 0, I 0, I 0, .nil] true)) := by
    rw [store_eq (n := 4) (vs := [I 0, I 0, I 0, .nil]) hc rfl rfl (by simp)]; rfl
  have h0 := (List.getElem?_eq_some_iff.1 hc).1
  have w1 : IntKind.i64.wrap ((i : Int) + 1) = ((i + 1 : Nat) : Int) := by rw [wrapI (by omega) (by omega)]; omega
  cases bad with
  | true =>
    simp -implicitDefEqProofs only [f33_k0, optB_b, e11, nc_ptr, Option.bind_some, fa_ptr, g1, gO_ff, if_true, asB_bo, hbd, e2, hst, e9, ok_some, Bool.true_or]
    refine ⟨by simp [upd, e2], trivial, by simp [COb, h0], by simp [upd], by simp [upd]⟩
  | false =>
    by_cases hl : 0 < l.length
    · have hl' : (0 : Int) < l.length := by omega
      simp -implicitDefEqProofs only [f33_k0, optB_b, e11, nc_ptr, Option.bind_some, fa_ptr, g1, g0, hln, bin_gtr, hl', decide_true, gO_ff, if_true, if_false, Bool.false_eq_true, asB_bo, hbd, e2, hst, e9, ok_some, hl, Bool.false_or]
      refine ⟨by simp [upd, e2], trivial, by simp [COb, h0], by simp [upd], by simp [upd]⟩
    · have hl' : ¬ (0 : Int) < l.length := by omega
      simp -implicitDefEqProofs only [f33_k0, optB_b, e11, nc_ptr, Option.bind_some, fa_ptr, g1, g0, hln, bin_gtr, hl', decide_false, gO_ff, if_false, Bool.false_eq_true, asB_bo, e32, bin_add, w1, ok_some, hl, Bool.false_or]
      refine ⟨by simp [upd, e2], trivial, trivial, ?_, ?_, ?_, ?_⟩ <;> simp [upd]

end
end Go.Proofs.Ytmhamnnfcmkcfaa

/- Code's functions come to the plain ones: code, read, line by line. -/
set_option maxRecDepth 100000
namespace Go.Proofs.Ytmhamnnfcmkcfaa
open Go.RowKit

section
variable {J : Option (List AV → Option AV)}

theorem COb.set {h : Heap} {a b c a' b' c' : Int} {v : AV} (hc : COb h a b c v) : COb (h.set 0 (.cells 0 [I a', I b', I c', v] true)) a' b' c' v := by
  have h0 := (List.getElem?_eq_some_iff.1 hc).1
  simp [COb, h0]

theorem Rd.set0 {h : Heap} {R : Nat} {l : List Tok} {b : Bool} (hr : Rd h R l b) (hR : R ≠ 0) (e : Ent) : Rd (h.set 0 e) R l b := by
  unfold Rd
  rw [List.getElem?_set_ne (Ne.symm hR)]
  exact hr

theorem put_c0 {h : Heap} {a b c : Int} {v : AV} (hc : COb h a b c v) (x : Int) : storeA 1 (.ptr 0 (0 + 0)) (I x) h = some (.undef, h.set 0 (.cells 0 [I x, I b, I c, v] true)) := by
  rw [store_eq (n := 1) (vs := [I x]) hc rfl rfl (by simp)]; rfl
theorem put_c1 {h : Heap} {a b c : Int} {v : AV} (hc : COb h a b c v) (x : Int) : storeA 1 (.ptr 0 (0 + 1)) (I x) h = some (.undef, h.set 0 (.cells 0 [I a, I x, I c, v] true)) := by
  rw [store_eq (n := 1) (vs := [I x]) hc rfl rfl (by simp)]; rfl
theorem put_c2 {h : Heap} {a b c : Int} {v : AV} (hc : COb h a b c v) (x : Int) : storeA 1 (.ptr 0 (0 + 2)) (I x) h = some (.undef, h.set 0 (.cells 0 [I a, I b, I x, v] true)) := by
  rw [store_eq (n := 1) (vs := [I x]) hc rfl rfl (by simp)]; rfl
theorem put_c3 {h : Heap} {a b c : Int} {v v' : AV} (hc : COb h a b c v) (hv : cellsOf v' = some [v']) : storeA 1 (.ptr 0 (0 + 3)) v' h = some (.undef, h.set 0 (.cells 0 [I a, I b, I c, v'] true)) := by
  rw [store_eq (n := 1) (vs := [v']) hc hv rfl (by simp)]; rfl
theorem get_c3 {h : Heap} {a b c : Int} {v : AV} (hc : COb h a b c v) : ld 1 false (.ptr 0 (0 + 3)) h = some v := by
  rw [ld_ptr hc (by simp)]; rfl

theorem IsRow.set0 {h : Heap} {v : AV} {rows : List (List SV)} (hr : IsRow h 5 v rows) {cs cs' : List AV} {wr wr' : Bool} (h0 : h[0]? = some (.cells 0 cs wr)) : IsRow (h.set 0 (.cells 0 cs' wr')) 5 v rows := by
  refine ⟨hr.1, ?_⟩
  rcases hr.2 with q | ⟨id, q, h3⟩
  · exact .inl q
  · refine .inr ⟨id, q, ?_⟩
    have : id ≠ 0 := fun e => by subst e; rw [h0] at h3; cases h3
    rw [List.getElem?_set_ne (Ne.symm this)]
    exact h3

theorem IsRow.keepO {h h' : Heap} {R : Nat} {v : AV} {rows : List (List SV)} {cs : List AV} {wr : Bool} (hr : IsRow h 5 v rows) (hR : h[R]? = some (.cells 0 cs wr)) (hk : KeepO R h h') : IsRow h' 5 v rows := by
  refine ⟨hr.1, ?_⟩
  rcases hr.2 with q | ⟨id, q, h3⟩
  · exact .inl q
  · refine .inr ⟨id, q, hk.2 _ _ ?_ h3⟩
    intro e
    subst e
    rw [hR] at h3
    cases h3

theorem l33_b0 {l0 : List Tok} {ls : List (List Tok)} (hfew : ∀ l ∈ l0 :: ls, Few l) (hlen : (l0 :: ls).length ≤ 100000000) (n : Nat) (st : St) (hI : ParInv l0 ls n st) : Ok (f33_b0 optB (Cw J) loopW st.tm st.h) (Nxt (ParInv l0 ls) (ParPost l0 ls) n) := by
  obtain ⟨tm, h⟩ := st
  obtain ⟨i, a, b, c, v, xs, e2, e30, e8, e31, e32, hi, rfl, hc, hrow, hxl, hsp⟩ := hI
  simp only at e2 e30 e8 e31 e32 hc hrow ⊢
  by_cases hlt : i < (l0 :: ls).length
  · have hlt' : (i : Int) < ((l0 :: ls).length : Nat) := by omega
    have hget : (l0 :: ls)[i]? = some ((l0 :: ls)[i]) := List.getElem?_eq_getElem hlt
    generalize hl : (l0 :: ls)[i] = l at *
    have hFl : Few l := hfew l (List.mem_of_getElem? hget)
    have hia : ia (.slice 22 1 24 false) (.sv (linesSV (l0 :: ls))) (I i) = some (.ref [toksSV l]) := ia_sv rfl (by rw [List.getElem?_map, hget]; rfl) rfl
    have hld : ld 1 false (.ref [toksSV l]) h = some (.sv (toksSV l)) := rfl
    have hbd : bdA tab 127 [(0, .sv (toksSV l))] = some (.agg [.sv (toksSV l), Bo false]) := by rfl
    have hbox : boxA 2 (.agg [.sv (toksSV l), Bo false]) h = some (.ptr h.length 0, h ++ [.cells 0 [.sv (toksSV l), Bo false] true]) := box_eq rfl rfl rfl
    have hr0 : Rd (h ++ [.cells 0 [.sv (toksSV l), Bo false] true]) h.length l false := heap_last _ _
    have hc0 : COb (h ++ [.cells 0 [.sv (toksSV l), Bo false] true]) a b c v := app_get hc _
    have hrow0 : IsRow (h ++ [.cells 0 [.sv (toksSV l), Bo false] true]) 5 v (xs.map Ins.sv) := hrow.app _
    have hR : h.length ≠ 0 := by have := (List.getElem?_eq_some_iff.1 hc).1; omega
    generalize h ++ [.cells 0 [.sv (toksSV l), Bo false] true] = h1 at *
    generalize h.length = R at *
    by_cases hi0 : i = 0
    · subst hi0
      obtain ⟨rfl, rfl, rfl, rfl, rfl⟩ := by simpa using hsp
      have hl0 : l = l0 := by simpa using hget.symm
      subst hl0
      have e32' : tm 32 = I 0 := e32
      have hlt'' : (0 : Int) < ((l :: ls).length : Nat) := hlt'
      have hia' : ia (.slice 22 1 24 false) (.sv (linesSV (l :: ls))) (I 0) = some (.ref [toksSV l]) := hia
      simp -implicitDefEqProofs only [f33_b0, optB_b, e32', e31, hlt'', bin_lss, Option.bind_some, decide_true, asB_bo, if_true, e30, hia', hld, hbd, hbox, bin_eql]
      refine Ok.bind (c96 1 hr0 hFl.1) ?_
      rintro ⟨v1, h2⟩ ⟨hv, r2, k2⟩
      simp only at hv r2 k2
      subst hv
      have hc2 : COb h2 0 0 0 .nil := k2.2 _ _ (Ne.symm hR) hc0
      have hF2 : Few (takeS 1 l false).2.1 := hFl.take
      have hhead : headS l = (let t := takeS 1 l false
        let a := takeS 2 t.2.1 (decide (t.1.s ≠ [99, 111, 100, 101]))
        let b := takeS 2 a.2.1 a.2.2
        let c := takeS 2 b.2.1 b.2.2
        ((a.1.n, b.1.n, c.1.n), c.2)) := rfl
      generalize takeS 1 l false = t at *
      obtain ⟨tok, l1, b1⟩ := t
      simp only at r2 hF2 hhead ⊢
      have hdn : (!decide (tok.s = [99, 111, 100, 101])) = decide (tok.s ≠ [99, 111, 100, 101]) := by simp
      have hRlt := (List.getElem?_eq_some_iff.1 r2).1
      have r3 : Rd (h2.set R (.cells 0 [.sv (toksSV l1), Bo (decide (tok.s ≠ [99, 111, 100, 101]))] true)) R l1 (decide (tok.s ≠ [99, 111, 100, 101])) := rd_of_set hRlt
      have hsb := rd_setb r2 (decide (tok.s ≠ [99, 111, 100, 101]))
      have hc3 : COb (h2.set R (.cells 0 [.sv (toksSV l1), Bo (decide (tok.s ≠ [99, 111, 100, 101]))] true)) 0 0 0 .nil := by
        unfold COb
        rw [List.getElem?_set_ne hR]
        exact hc2
      simp -implicitDefEqProofs only [fl1, Option.bind_some, bin_neqS, hdn, nc_ptr, fa_ptr, hsb]
      generalize h2.set R (.cells 0 [.sv (toksSV l1), Bo (decide (tok.s ≠ [99, 111, 100, 101]))] true) = h3 at *
      generalize decide (tok.s ≠ [99, 111, 100, 101]) = b3 at *
      refine Ok.bind (c96 2 r3 hF2.1) ?_
      rintro ⟨v1, h4⟩ ⟨hv, r4, k4⟩
      simp only at hv r4 k4
      subst hv
      have hF4 : Few (takeS 2 l1 b3).2.1 := hF2.take
      have hc4 : COb h4 0 0 0 .nil := k4.2 _ _ (Ne.symm hR) hc3
      generalize takeS 2 l1 b3 = t2 at *
      obtain ⟨tok2, l2, b2⟩ := t2
      simp only at r4 hF4 hhead ⊢
      simp -implicitDefEqProofs only [fl2, Option.bind_some, e2, fa_ptr, put_c0 hc4]
      have r5 := r4.set0 hR (.cells 0 [I tok2.n, I 0, I 0, .nil] true)
      have hc5 : COb (h4.set 0 (.cells 0 [I tok2.n, I 0, I 0, .nil] true)) tok2.n 0 0 .nil := hc4.set
      generalize h4.set 0 (.cells 0 [I tok2.n, I 0, I 0, .nil] true) = h5 at *
      refine Ok.bind (c96 2 r5 hF4.1) ?_
      rintro ⟨v1, h6⟩ ⟨hv, r6, k6⟩
      simp only at hv r6 k6
      subst hv
      have hF6 : Few (takeS 2 l2 b2).2.1 := hF4.take
      have hc6 : COb h6 tok2.n 0 0 .nil := k6.2 _ _ (Ne.symm hR) hc5
      generalize takeS 2 l2 b2 = t3 at *
      obtain ⟨tok3, l3, b3'⟩ := t3
      simp only at r6 hF6 hhead ⊢
      simp -implicitDefEqProofs only [fl2, Option.bind_some, fa_ptr, put_c1 hc6]
      have r7 := r6.set0 hR (.cells 0 [I tok2.n, I tok3.n, I 0, .nil] true)
      have hc7 : COb (h6.set 0 (.cells 0 [I tok2.n, I tok3.n, I 0, .nil] true)) tok2.n tok3.n 0 .nil := hc6.set
      generalize h6.set 0 (.cells 0 [I tok2.n, I tok3.n, I 0, .nil] true) = h7 at *
      refine Ok.bind (c96 2 r7 hF6.1) ?_
      rintro ⟨v1, h8⟩ ⟨hv, r8, k8⟩
      simp only at hv r8 k8
      subst hv
      have hc8 : COb h8 tok2.n tok3.n 0 .nil := k8.2 _ _ (Ne.symm hR) hc7
      generalize takeS 2 l3 b3' = t4 at *
      obtain ⟨tok4, l4, b4⟩ := t4
      simp only at r8 hhead ⊢
      simp -implicitDefEqProofs only [fl2, Option.bind_some, fa_ptr, put_c2 hc8]
      have r9 := r8.set0 hR (.cells 0 [I tok2.n, I tok3.n, I tok4.n, .nil] true)
      have hc9 : COb (h8.set 0 (.cells 0 [I tok2.n, I tok3.n, I tok4.n, .nil] true)) tok2.n tok3.n tok4.n .nil := hc8.set
      generalize h8.set 0 (.cells 0 [I tok2.n, I tok3.n, I tok4.n, .nil] true) = h9 at *
      refine (l33_k0 (i := 0) ?_ ?_ ?_ ?_ r9 hc9 (by omega)).mono ?_
      · simp [upd, e2]
      · simp [upd]
      · simp [upd, e32]
      · simp [upd, e32]
      · rintro ⟨o, st⟩ ⟨p1, p2⟩
        split at p2
        · rename_i hbad
          obtain ⟨q1, q2, q3, q4⟩ := p2
          simp only at p1 q1 q2 q3 q4
          subst q1
          exact nxt_r ⟨p1, .inl ⟨rfl, q2, q3, 0, q4, .inl ⟨by rw [hhead]; exact hbad, rfl⟩⟩⟩
        · rename_i hbad
          obtain ⟨q1, q2, q3, q4, q5, q6⟩ := p2
          simp only at p1 q1 q2 q3 q4 q5 q6
          subst q1
          have hb' : (b4 || decide (0 < l4.length)) = false := by simpa using hbad
          refine nxt_n ((l :: ls).length - 1) (by simp) ⟨1, tok2.n, tok3.n, tok4.n, .nil, [], p1, ?_, ?_, ?_, q6, by simp, rfl, ?_, ?_, by simp, ?_⟩
          · rw [q3]; simp [upd, e30]
          · rw [q4]; simp [upd, e8]
          · rw [q5]; simp [upd, e31]
          · rw [q2]; exact hc9
          · exact IsRow.nil _ 5
          · rw [if_neg (by omega), hhead]
            exact ⟨hb', rfl, rfl, rfl, rfl⟩
    · rw [if_neg hi0] at hsp
      obtain ⟨s0, s1, s2, s3, s4⟩ := hsp
      have hi0' : ¬ ((i : Int) = 0) := by omega
      have g3 := get_c3 hc0
      simp -implicitDefEqProofs only [f33_b0, optB_b, e32, e31, hlt', bin_lss, Option.bind_some, decide_true, asB_bo, if_true, e30, hia, hld, hbd, hbox, bin_eql, hi0', decide_false, Bool.false_eq_true, if_false, e2, fa_ptr, g3]
      refine Ok.bind (c97 hr0 hFl) ?_
      rintro ⟨v1, h2⟩ ⟨hv, r2, k2⟩
      simp only at hv r2 k2
      subst hv
      have hc2 : COb h2 a b c v := k2.2 _ _ (Ne.symm hR) hc0
      have hrow2 := hrow0.keepO hr0 k2
      rw [drop_at hlt, hl] at s4
      simp only [bodyS] at s4
      generalize insS l false = t at *
      obtain ⟨x, l2, b2⟩ := t
      simp only at r2 s4 ⊢
      obtain ⟨v', h', -, q2, q3, q4, q5, q6, id, q7, q8⟩ := push_one (e := 47) (b := 40) (y := false) (z := [.sv (.int .i64 0), .sv (.int .i64 0), .sv (.int .i64 0), .sv (.int .i64 0), .sv (.int .i64 0)]) (x := .agg (x.sv.map .sv)) (c := x.sv) hrow2 rfl rfl (by decide) (cellsOf_agg _) rfl (by decide) (by decide) (by simp; omega)
      have hc3 : COb (h2 ++ [.cells 5 (x.sv.map .sv) true]) a b c v := app_get hc2 _
      have hc4 : COb h' a b c v := q5 _ _ hc2 (hrow2.other hc2 (by decide))
      have r4 : Rd h' R l2 b2 := q5 _ _ r2 (hrow2.other r2 (by decide))
      have hv' : cellsOf v' = some [v'] := by rw [q7]; rfl
      simp -implicitDefEqProofs only [gChk, gO_none, get_c3 hc2, if_true, q2, Option.bind_some, get_c3 hc3, q3, fa_ptr, put_c3 hc4 hv']
      have r5 := r4.set0 hR (.cells 0 [I a, I b, I c, v'] true)
      have hc5 : COb (h'.set 0 (.cells 0 [I a, I b, I c, v'] true)) a b c v' := by
        have h0 := (List.getElem?_eq_some_iff.1 hc4).1
        simp [COb, h0]
      have hrow5 : IsRow (h'.set 0 (.cells 0 [I a, I b, I c, v'] true)) 5 v' ((xs ++ [x]).map Ins.sv) := by
        have := q4.set0 (cs' := [I a, I b, I c, v']) (wr' := true) hc4
        simpa using this
      generalize h'.set 0 (.cells 0 [I a, I b, I c, v'] true) = h5 at *
      refine (l33_k0 (i := i) ?_ ?_ ?_ ?_ r5 hc5 (by omega)).mono ?_
      · simp [upd, e2]
      · simp [upd]
      · simp [upd, e32]
      · simp [upd, e32]
      · rintro ⟨o, st⟩ ⟨p1, p2⟩
        split at p2
        · rename_i hbad
          obtain ⟨t1, t2, t3, t4⟩ := p2
          simp only at p1 t1 t2 t3 t4
          subst t1
          rw [if_pos hbad] at s4
          exact nxt_r ⟨p1, .inl ⟨rfl, t2, t3, i, t4, .inr ⟨s0, s4.symm⟩⟩⟩
        · rename_i hbad
          obtain ⟨t1, t2, t3, t4, t5, t6⟩ := p2
          simp only at p1 t1 t2 t3 t4 t5 t6
          subst t1
          rw [if_neg hbad] at s4
          refine nxt_n ((l0 :: ls).length - (i + 1)) (by omega) ⟨i + 1, a, b, c, v', xs ++ [x], p1, ?_, ?_, ?_, t6, by omega, rfl, ?_, ?_, by simp; omega, ?_⟩
          · rw [t3]; simp [upd, e30]
          · rw [t4]; simp [upd, e8]
          · rw [t5]; simp [upd, e31]
          · rw [t2]; exact hc5
          · rw [t2]; exact hrow5
          · rw [if_neg (by omega)]
            exact ⟨s0, s1, s2, s3, s4⟩
  · have hieq : i = (l0 :: ls).length := by omega
    have hlt' : ¬ (i : Int) < ((l0 :: ls).length : Nat) := by omega
    simp -implicitDefEqProofs only [f33_b0, optB_b, e32, e31, hlt', bin_lss, Option.bind_some, decide_false, asB_bo, Bool.false_eq_true, if_false, ok_some]
    rw [if_neg (by simp at hieq; omega)] at hsp
    obtain ⟨s0, rfl, rfl, rfl, s4⟩ := hsp
    rw [List.drop_of_length_le (by omega)] at s4
    refine nxt_e ⟨by simp [upd, e2], .inr ⟨rfl, by simp [upd, e8], s0, v, xs, hc, hrow, s4.symm, by simp at hieq; omega⟩⟩

end
end Go.Proofs.Ytmhamnnfcmkcfaa

/- Code's functions come to the plain ones: code, read, whole. -/
set_option maxRecDepth 100000
namespace Go.Proofs.Ytmhamnnfcmkcfaa
open Go.RowKit

section
variable {J : Option (List AV → Option AV)}

/-- A row, written or settled. -/
def RowL (h : Heap) (esz : Nat) (v : AV) (rows : List (List SV)) : Prop := (∀ r ∈ rows, r.length = esz) ∧ ((v = .nil ∧ rows = []) ∨ ∃ id wr, v = .own id 0 rows.length ∧ h[id]? = some (.cells esz (rows.flatten.map .sv) wr))

theorem IsRow.low {h : Heap} {esz : Nat} {v : AV} {rows : List (List SV)} (hr : IsRow h esz v rows) : RowL h esz v rows := by
  refine ⟨hr.1, ?_⟩
  rcases hr.2 with q | ⟨id, q1, q2⟩
  · exact .inl q
  · exact .inr ⟨id, true, q1, q2⟩

theorem frzC_row {h : Heap} {esz n : Nat} {v : AV} {rows : List (List SV)} (hr : RowL h esz v rows) (he : 0 < esz) : ∃ ids, frzC (n + 1) h v = some (.slice rows, ids) ∧ ∀ i ∈ ids, ∃ wr, h[i]? = some (.cells esz (rows.flatten.map .sv) wr) := by
  rcases hr.2 with ⟨rfl, rfl⟩ | ⟨id, wr, rfl, h3⟩
  · exact ⟨[], rfl, by simp⟩
  · exact ⟨[id], frz_own he hr.1 h3, fun i hi => by simp at hi; subst hi; exact ⟨wr, h3⟩⟩

/-- Code's value, settled. -/
theorem frz_cod {h : Heap} {a b c : Int} {v : AV} {xs : List Ins} (hr : RowL h 5 v (xs.map Ins.sv)) : ∃ ids, frzV frzDepth h (.agg [I a, I b, I c, v]) = some (.agg ((Cod.mk a b c xs).sv.map .sv), ids) ∧ ∀ i ∈ ids, ∃ wr, h[i]? = some (.cells 5 ((xs.map Ins.sv).flatten.map .sv) wr) := by
  obtain ⟨ids, h1, h2⟩ := frzC_row (n := 5) hr (by decide)
  refine ⟨ids, ?_, h2⟩
  simp only [frzV, frzDepth, frzCells, h1, Option.bind_some]
  simp [frzC, Cod.sv, inssSV]

theorem c37u {h : Heap} {a b c : Int} {v : AV} {xs : List Ins} (hr : RowL h 5 v (xs.map Ins.sv)) (hl : xs.length ≤ 9223372036854775806) :
    ∃ ids, Cw J 37 [.agg [I a, I b, I c, v]] h = some (I (checkC ⟨a, b, c, xs⟩), settle h ids) ∧ ∀ i ∈ ids, ∃ wr, h[i]? = some (.cells 5 ((xs.map Ins.sv).flatten.map .sv) wr) := by
  obtain ⟨ids, h1, h2⟩ := frz_cod (a := a) (b := b) (c := c) hr
  obtain ⟨⟨r, h'⟩, h3, h4⟩ := e37 (J := J) ⟨a, b, c, xs⟩ hl
  simp only at h4
  subst h4
  refine ⟨ids, call_own Try.func37 (by kernel_rfl) (by rfl) (by rfl) (args' := [.agg ((Cod.mk a b c xs).sv.map .sv)]) ?_ h3 (frzR_set (by rfl)), h2⟩
  simp only [frzVs, h1, Option.bind_some, List.append_nil]

theorem settle_other {h : Heap} {ids : List Nat} {i : Nat} {e : Ent} (h1 : h[i]? = some e) (h2 : i ∉ ids) : (settle h ids)[i]? = some e := by
  rw [settle_get ids h i e h1, if_neg h2]

theorem RowL.settle {h : Heap} {esz : Nat} {v : AV} {rows : List (List SV)} (hr : RowL h esz v rows) (ids : List Nat) : RowL (settle h ids) esz v rows := by
  refine ⟨hr.1, ?_⟩
  rcases hr.2 with q | ⟨id, wr, q1, q2⟩
  · exact .inl q
  · refine .inr ⟨id, (if id ∈ ids then false else wr), q1, ?_⟩
    rw [settle_get ids h id _ q2]
    split <;> rfl

theorem RowL.set {h : Heap} {v : AV} {rows : List (List SV)} (hr : RowL h 5 v rows) {e e' : Ent} {i : Nat} (h0 : h[i]? = some e) (hne : ∀ cs wr, e ≠ .cells 5 cs wr) : RowL (h.set i e') 5 v rows := by
  refine ⟨hr.1, ?_⟩
  rcases hr.2 with q | ⟨id, wr, q1, q2⟩
  · exact .inl q
  · refine .inr ⟨id, wr, q1, ?_⟩
    have : i ≠ id := fun q => by subst q; rw [h0] at q2; cases q2; exact hne _ _ rfl
    rw [List.getElem?_set_ne this]
    exact q2

abbrev codA (c : Cod) : AV := .agg (c.sv.map .sv)

/-- The result's object, read and settled. -/
theorem cob_end {h : Heap} {a b c : Int} {v x y : AV} {xs : List Ins} (h0 : h[0]? = some (.cells 0 [I a, I b, I c, v] true)) (hr : RowL h 5 v (xs.map Ins.sv)) (hx : setV x = true) (hy : setV y = true) :
    ld 4 true (.ptr 0 0) h = some (.agg [I a, I b, I c, v]) ∧ frzR frzDepth h (.tuple [.agg [I a, I b, I c, v], x, y]) = some (.tuple [codA ⟨a, b, c, xs⟩, x, y]) := by
  refine ⟨by rw [ld_ptr h0 (by simp)]; rfl, ?_⟩
  obtain ⟨ids, h1, -⟩ := frz_cod (a := a) (b := b) (c := c) hr
  simp only [frzR, frzVs, h1, frzV_set hx, frzV_set hy, Option.bind_some]

theorem c33 (s : List UInt8) (hs : s.length ≤ 9223372036854775806) (h : Heap) : Cw J 33 [Sr s] h = some (.tuple [codA (parseS s).1, I (parseS s).2.1, I (parseS s).2.2], h) := by
  have key : Ok (evFunc optB tab shared (Cw J) loopW noD Try.f33 [Sr s] []) fun r => frzR frzDepth r.2 r.1 = some (.tuple [codA (parseS s).1, I (parseS s).2.1, I (parseS s).2.2]) := by
    rw [f33_eq]
    have hal : alloc [.sv (.int .i64 0), .sv (.int .i64 0), .sv (.int .i64 0), .nil] [] = some (.ptr 0 0, [.cells 0 [I 0, I 0, I 0, .nil] true]) := alloc_eq rfl
    have h25 : ∀ h, Cw J 25 [Sr s] h = some (.tuple [.sv (toksSV (cutS s).1), I (cutS s).2.1, I (cutS s).2.2], h) := fun h => c25 s hs h
    have hst0 : storeA 4 (.ptr 0 0) (.agg [I 0, I 0, I 0, .nil]) [Ent.cells 0 [I 0, I 0, I 0, .nil] true] = some (.undef, [.cells 0 [I 0, I 0, I 0, .nil] true]) := by rfl
    obtain ⟨hld0, hfr0⟩ := cob_end (h := [Ent.cells 0 [I 0, I 0, I 0, .nil] true]) (x := I (parseS s).2.1) (y := I (parseS s).2.2) (xs := []) rfl (IsRow.nil _ 5).low rfl rfl
    by_cases he : (cutS s).2.2 = 0
    · obtain ⟨hcl, hcs⟩ := cutS_few he
      have h28 : ∀ h, Cw J 28 [.sv (toksSV (cutS s).1)] h = some (.sv (linesSV (linesS (cutS s).1)), h) := fun h => c28 _ (by omega) h
      have hFew : ∀ l ∈ linesS (cutS s).1, Few l := fun l hl => by
        obtain ⟨h1, h2⟩ := linesF_sub _ _ _ hl
        exact ⟨by omega, fun t ht => by have := hcs t (h2 t ht); omega⟩
      have hLl : (linesS (cutS s).1).length ≤ 100000000 := by have := linesF_len (cutS s).1.length (cutS s).1; unfold linesS; omega
      have hlnL : ln (.slice 22 1 24 false) (.sv (linesSV (linesS (cutS s).1))) = some (I ((linesS (cutS s).1).length : Nat)) := by simp [linesSV]
      have hp : parseS s = (match linesS (cutS s).1 with
        | [] => (noCod, 0, 6)
        | l :: ls =>
          let h := headS l
          if h.2.2 || decide (0 < h.2.1.length) then (noCod, 0, 6) else
          match bodyS ls 1 [] with
          | .error i => (noCod, i, 6)
          | .ok xs =>
            let d : Cod := ⟨h.1.1, h.1.2.1, h.1.2.2, xs⟩
            if checkC d ≠ 0 then (noCod, 0, checkC d) else (d, ls.length + 1, 0)) := by
        simp only [parseS, he, ne_eq, not_true_eq_false, if_false]
        rfl
      simp -implicitDefEqProofs only [f33_sh, optB_b, hal, Option.bind_some, h25, ex_tuple, List.getElem?_cons_zero, List.getElem?_cons_succ, bin_neq, he, decide_true, Bool.not_true, asB_bo, Bool.false_eq_true, if_false, h28, hlnL, bin_eql]
      cases hL : linesS (cutS s).1 with
      | nil =>
        rw [hL] at hp
        simp only at hp
        rw [hp] at hfr0 ⊢
        simp -implicitDefEqProofs only [List.length_nil, show (((0 : Nat) : Int) = 0) by rfl, decide_true, if_true, hld0, Option.bind_some, hst0, ok_some]
        exact hfr0
      | cons l0 ls =>
        rw [hL] at hp hFew hLl
        simp only at hp
        have hne : ¬ (((l0 :: ls).length : Nat) : Int) = 0 := by simp; omega
        simp -implicitDefEqProofs only [hne, decide_false, Bool.false_eq_true, if_false]
        refine loop_ok (ParInv l0 ls) (ParPost l0 ls) (n := (l0 :: ls).length) ⟨0, 0, 0, 0, .nil, [], ?_, ?_, ?_, ?_, ?_, by omega, by omega, ?_, IsRow.nil _ 5, by simp, ?_⟩ (fun n st hI => l33_b0 hFew hLl n st hI) ?_
        · simp [upd]
        · simp [upd]
        · simp [upd]
        · simp [upd]
        · simp [upd]
        · unfold COb; rfl
        · simp
        · rintro ⟨o, st⟩ ⟨e2, hcase⟩
          simp only at e2 hcase ⊢
          rcases hcase with ⟨rfl, hc, e4, j, e3, hbad⟩ | ⟨rfl, e8, hgood, v, xs, hc, hrow, hbody, hxl⟩
          · have hp2 : parseS s = (noCod, (j : Int), 6) := by
              rw [hp]
              rcases hbad with ⟨q1, rfl⟩ | ⟨q1, q2⟩
              · rw [if_pos q1]; rfl
              · rw [if_neg (by rw [q1]; exact Bool.false_ne_true), q2]
            obtain ⟨g1, g2⟩ := cob_end (x := I j) (y := I 6) (xs := []) hc (IsRow.nil _ 5).low rfl rfl
            simp -implicitDefEqProofs only [outBlock_ret, outSeq_ret, endK_ret]
            rw [hp2]
            simp -implicitDefEqProofs only [resK, optB_b]
            have hsz : tab.size 39 = some (4, true) := rfl
            simp -implicitDefEqProofs only [hsz, e2, g1, Option.bind_some, e3, e4, tup_two, ok_some]
            exact g2
          · obtain ⟨ids, h37, hids⟩ := c37u (J := J) (a := (headS l0).1.1) (b := (headS l0).1.2.1) (c := (headS l0).1.2.2) hrow.low (by simp at hLl; omega)
            have h0n : 0 ∉ ids := fun q => by
              obtain ⟨wr, hw⟩ := hids 0 q
              unfold COb at hc
              rw [hc] at hw
              cases hw
            have hc2 : (settle st.h ids)[0]? = some (.cells 0 [I (headS l0).1.1, I (headS l0).1.2.1, I (headS l0).1.2.2, v] true) := settle_other hc h0n
            have hrow2 := hrow.low.settle ids
            have hld : ld 4 true (.ptr 0 0) st.h = some (.agg [I (headS l0).1.1, I (headS l0).1.2.1, I (headS l0).1.2.2, v]) := (cob_end (x := I 0) (y := I 0) hc hrow.low rfl rfl).1
            have hp2 : parseS s = (if checkC ⟨(headS l0).1.1, (headS l0).1.2.1, (headS l0).1.2.2, xs⟩ ≠ 0 then (noCod, 0, checkC ⟨(headS l0).1.1, (headS l0).1.2.1, (headS l0).1.2.2, xs⟩) else (⟨(headS l0).1.1, (headS l0).1.2.1, (headS l0).1.2.2, xs⟩, ((ls.length + 1 : Nat) : Int), 0)) := by
              rw [hp, if_neg (by rw [hgood]; exact Bool.false_ne_true), hbody]
              rfl
            have hln8 : ln (.slice 22 1 24 false) (.sv (linesSV (l0 :: ls))) = some (I ((ls.length + 1 : Nat) : Int)) := by simp [linesSV]
            simp -implicitDefEqProofs only [outBlock_exit, if_true, outSeq_normal, f33_k1, optB_b, e2, hld, Option.bind_some, h37, bin_neq, e8]
            generalize checkC ⟨(headS l0).1.1, (headS l0).1.2.1, (headS l0).1.2.2, xs⟩ = e at *
            have hlt0 : 0 < (settle st.h ids).length := (List.getElem?_eq_some_iff.1 hc2).1
            by_cases hz : e = 0
            · have hst : storeA 4 (.ptr 0 0) (.agg [I (headS l0).1.1, I (headS l0).1.2.1, I (headS l0).1.2.2, v]) (settle st.h ids) = some (.undef, (settle st.h ids).set 0 (.cells 0 [I (headS l0).1.1, I (headS l0).1.2.1, I (headS l0).1.2.2, v] true)) := by
                have hcv : cellsOf (.agg [I (headS l0).1.1, I (headS l0).1.2.1, I (headS l0).1.2.2, v]) = some [I (headS l0).1.1, I (headS l0).1.2.1, I (headS l0).1.2.2, v] := by
                  rcases hrow.2 with ⟨rfl, -⟩ | ⟨id, rfl, -⟩ <;> rfl
                rw [store_eq (n := 4) hc2 hcv rfl (by simp)]; rfl
              obtain ⟨g1, -⟩ := cob_end (x := I 0) (y := I 0) hc2 hrow2 rfl rfl
              have hc3 : ((settle st.h ids).set 0 (.cells 0 [I (headS l0).1.1, I (headS l0).1.2.1, I (headS l0).1.2.2, v] true))[0]? = some (.cells 0 [I (headS l0).1.1, I (headS l0).1.2.1, I (headS l0).1.2.2, v] true) := by simp [hlt0]
              have hrow3 : RowL ((settle st.h ids).set 0 (.cells 0 [I (headS l0).1.1, I (headS l0).1.2.1, I (headS l0).1.2.2, v] true)) 5 v (xs.map Ins.sv) := hrow2.set hc2 (fun _ _ h => by cases h)
              obtain ⟨g3, g4⟩ := cob_end (x := I ((ls.length + 1 : Nat) : Int)) (y := I 0) hc3 hrow3 rfl rfl
              rw [hp2, if_neg (by simp [hz])]
              simp -implicitDefEqProofs only [hz, decide_true, Bool.not_true, asB_bo, Option.bind_some, Bool.false_eq_true, if_false, g1, hln8, hst, g3, ok_some]
              exact g4
            · have hbd : bdA tab 39 [] = some (.agg [I 0, I 0, I 0, .nil]) := by rfl
              have hst : storeA 4 (.ptr 0 0) (.agg [I 0, I 0, I 0, .nil]) (settle st.h ids) = some (.undef, (settle st.h ids).set 0 (.cells 0 [I 0, I 0, I 0, .nil] true)) := by
                rw [store_eq (n := 4) (vs := [I 0, I 0, I 0, .nil]) hc2 rfl rfl (by simp)]; rfl
              have hc3 : ((settle st.h ids).set 0 (.cells 0 [I 0, I 0, I 0, .nil] true))[0]? = some (.cells 0 [I 0, I 0, I 0, .nil] true) := by simp [hlt0]
              obtain ⟨g3, g4⟩ := cob_end (x := I 0) (y := I e) (xs := []) hc3 (IsRow.nil _ 5).low rfl rfl
              rw [hp2, if_pos hz]
              simp -implicitDefEqProofs only [hz, decide_false, Bool.not_false, asB_bo, Option.bind_some, if_true, hbd, hst, g3, ok_some]
              exact g4
    · have hp : parseS s = (noCod, (cutS s).2.1, (cutS s).2.2) := by simp only [parseS, he, ne_eq, not_false_eq_true, if_true]
      rw [hp] at hfr0 ⊢
      simp -implicitDefEqProofs only [f33_sh, optB_b, hal, Option.bind_some, h25, ex_tuple, List.getElem?_cons_zero, List.getElem?_cons_succ, bin_neq, he, decide_false, Bool.not_false, asB_bo, if_true, hld0, hst0, ok_some]
      exact hfr0
  obtain ⟨⟨r, hr⟩, h1, h2⟩ := key
  exact call_sv Try.func33 (by kernel_rfl) (by rfl) (by rfl) (by rfl) h1 h2

end
end Go.Proofs.Ytmhamnnfcmkcfaa

/- Functions as the abstract interpreter comes to them: printed by wip/tools/gensh.py. -/
set_option linter.unusedVariables false
set_option maxRecDepth 100000
namespace Go.Proofs.Ytmhamnnfcmkcfaa

/-! purfle/purflelaw14.CodeReads -/

noncomputable def f5_sh (B : BindS) (C : CallF) (L : LoopF) (v0 : AV) (h : Heap) : Option (AV × Heap) :=
  B.b (C 32 [] h) fun r1 =>
  B.b (ln .str v0) fun w2 =>
  B.b (bin .gtr (.int .i64) w2 (.sv (.int .i64 20000))) fun w3 =>
  B.b (asB w3) fun t4 =>
  if t4 then (some (r1.1, r1.2)) else
  B.b (C 33 [v0] r1.2) fun r5 =>
  B.b (ex 0 r5.1) fun w6 =>
  B.b (ex 1 r5.1) fun w7 =>
  B.b (ex 2 r5.1) fun w8 =>
  B.b (alloc [.sv (.int .i64 0), .sv (.int .i64 0), .sv (.int .i64 0), .nil] r5.2) fun r9 =>
  B.b (storeA 4 r9.1 w6 r9.2) fun r10 =>
  B.b (C 34 [v0] r10.2) fun r11 =>
  B.b (ex 0 r11.1) fun w12 =>
  B.b (ex 1 r11.1) fun w13 =>
  B.b (ex 2 r11.1) fun w14 =>
  B.b (alloc [.sv (.int .i64 0), .sv (.int .i64 0), .sv (.int .i64 0), .nil] r11.2) fun r15 =>
  B.b (storeA 4 r15.1 w12 r15.2) fun r16 =>
  B.b (gO (some (r1.1, true)) (ld 4 true r9.1 r16.2) .dead) fun w17 =>
  B.b (gO (some (r1.1, true)) (ld 4 true r15.1 r16.2) .dead) fun w18 =>
  B.b (gO (some (r1.1, true)) (C 35 [w17, w18] r16.2) (.dead, r16.2)) fun r19 =>
  B.b ((asB r1.1).bind fun t => some (if t then r19.1 else (.sv (.bool false)))) fun w20 =>
  B.b (gO (some (w20, true)) (some w7) .dead) fun w21 =>
  B.b (gO (some (w20, true)) (some w13) .dead) fun w22 =>
  B.b (gO (some (w20, true)) (bin .eql (.int .i64) w21 w22) .dead) fun w23 =>
  B.b ((asB w20).bind fun t => some (if t then w23 else (.sv (.bool false)))) fun w24 =>
  B.b (gO (some (w24, true)) (some w8) .dead) fun w25 =>
  B.b (gO (some (w24, true)) (some w14) .dead) fun w26 =>
  B.b (gO (some (w24, true)) (bin .eql (.int .i64) w25 w26) .dead) fun w27 =>
  B.b ((asB w24).bind fun t => some (if t then w27 else (.sv (.bool false)))) fun w28 =>
  some (w28, r19.2)
theorem f5_eq (B : BindS) (C : CallF) (L : LoopF) (v0 : AV) (h : Heap) : evFunc B tab shared C L noD Try.f5 [v0] h = f5_sh B C L v0 h := by kernel_rfl

/-! purfle/purflelaw14.CodeBends -/
noncomputable def f6_b1 (B : BindS) (C : CallF) (L : LoopF) (tm : Tm) (h : Heap) : Option (Out × St) :=
  B.b (bin .lss (.int .i64) (tm 46) (tm 45)) fun w30 =>
  B.b (asB w30) fun t31 =>
  if t31 then (B.b (ia (.slice 3 1 8 false) (tm 44) (tm 46)) fun w32 =>
  B.b (ld 1 false w32 h) fun w33 =>
  B.b (bin .lss (.int .i64) w33 (.sv (.int .i64 0))) fun w34 =>
  B.b (gO (some (w34, false)) (some w33) .dead) fun w35 =>
  B.b (gO (some (w34, false)) (fa 0 (tm 1)) .dead) fun w36 =>
  B.b (gO (some (w34, false)) (ld 1 false w36 h) .dead) fun w37 =>
  B.b (gO (some (w34, false)) (bin .geq (.int .i64) w35 w37) .dead) fun w38 =>
  B.b ((asB w34).bind fun t => some (if t then (.sv (.bool true)) else w38)) fun w39 =>
  B.b (asB w39) fun t40 =>
  if t40 then (some (.ret, ⟨(upd (upd (upd (upd (upd (upd (upd (upd (upd (upd (upd (upd (upd tm 47 w30) 48 w32) 49 w33) 11 w33) 50 w33) 51 w34) 52 w34) 53 w35) 54 w36) 55 w37) 56 w38) 57 w39) 2 (.sv (.bool false))), h⟩)) else
  B.b (gO (some ((tm 4), false)) (some w33) .dead) fun w41 =>
  B.b (gO (some ((tm 4), false)) (fa 0 (tm 1)) .dead) fun w42 =>
  B.b (gO (some ((tm 4), false)) (ld 1 false w42 h) .dead) fun w43 =>
  B.b (gO (some ((tm 4), false)) (bin .sub (.int .i64) w43 (.sv (.int .i64 1))) .dead) fun w44 =>
  B.b (gO (some ((tm 4), false)) (bin .eql (.int .i64) w41 w44) .dead) fun w45 =>
  B.b ((asB (tm 4)).bind fun t => some (if t then (.sv (.bool true)) else w45)) fun w46 =>
  B.b (bin .add (.int .i64) (tm 46) (.sv (.int .i64 1))) fun w47 =>
  some (.normal, ⟨(upd (upd (upd (upd (upd (upd (upd (upd (upd (upd (upd (upd (upd (upd (upd (upd (upd (upd (upd (upd (upd (upd (upd tm 47 w30) 48 w32) 49 w33) 11 w33) 50 w33) 51 w34) 52 w34) 53 w35) 54 w36) 55 w37) 56 w38) 57 w39) 58 (tm 4)) 59 (tm 4)) 60 w41) 61 w42) 62 w43) 63 w44) 64 w45) 65 w46) 4 w46) 66 w47) 46 w47), h⟩)) else
  some (.exit 2, ⟨(upd tm 47 w30), h⟩)

noncomputable def f6_b2 (B : BindS) (C : CallF) (L : LoopF) (tm : Tm) (h : Heap) : Option (Out × St) :=
  B.b (bin .lss (.int .i64) (tm 71) (tm 70)) fun w52 =>
  B.b (asB w52) fun t53 =>
  if t53 then (B.b (ia (.slice 3 1 8 false) (tm 69) (tm 71)) fun w54 =>
  B.b (ld 1 false w54 h) fun w55 =>
  B.b (bin .lss (.int .i64) w55 (.sv (.int .i64 0))) fun w56 =>
  B.b (gO (some (w56, false)) (some w55) .dead) fun w57 =>
  B.b (gO (some (w56, false)) (fa 3 (tm 1)) .dead) fun w58 =>
  B.b (gO (some (w56, false)) (ld 1 false w58 h) .dead) fun w59 =>
  B.b (gO (some (w56, false)) (ln (.slice 47 5 40 false) w59) .dead) fun w60 =>
  B.b (gO (some (w56, false)) (bin .geq (.int .i64) w57 w60) .dead) fun w61 =>
  B.b ((asB w56).bind fun t => some (if t then (.sv (.bool true)) else w61)) fun w62 =>
  B.b (asB w62) fun t63 =>
  if t63 then (some (.ret, ⟨(upd (upd (upd (upd (upd (upd (upd (upd (upd (upd (upd (upd (upd (upd tm 72 w52) 73 w54) 74 w55) 13 w55) 75 w55) 76 w56) 77 w56) 78 w57) 79 w58) 80 w59) 81 w60) 82 w61) 83 w62) 2 (.sv (.bool false))), h⟩)) else
  B.b (bin .add (.int .i64) (tm 71) (.sv (.int .i64 1))) fun w64 =>
  some (.normal, ⟨(upd (upd (upd (upd (upd (upd (upd (upd (upd (upd (upd (upd (upd (upd (upd tm 72 w52) 73 w54) 74 w55) 13 w55) 75 w55) 76 w56) 77 w56) 78 w57) 79 w58) 80 w59) 81 w60) 82 w61) 83 w62) 84 w64) 71 w64), h⟩)) else
  some (.exit 4, ⟨(upd tm 72 w52), h⟩)

noncomputable def f6_k2 (B : BindS) (C : CallF) (L : LoopF) (tm : Tm) (h : Heap) : Option (Out × St) :=
  B.b (bin .add (.int .i64) (tm 27) (.sv (.int .i64 1))) fun w66 =>
  some (.normal, ⟨(upd (upd tm 85 w66) 27 w66), h⟩)

noncomputable def f6_k1 (B : BindS) (C : CallF) (L : LoopF) (tm : Tm) (h : Heap) : Option (Out × St) :=
  B.b (ld 5 true (tm 6) h) fun w49 =>
  B.b (C 40 [w49, (tm 5)] h) fun r50 =>
  B.b (ln (.slice 3 1 8 false) r50.1) fun w51 =>
  B.b (L (fun s => f6_b2 B C L s.tm s.h) ⟨(upd (upd (upd (upd (upd tm 67 w49) 68 (tm 5)) 69 r50.1) 70 w51) 71 (.sv (.int .i64 0))), r50.2⟩) fun r65 => (outBlock 4 (outBlock 1 (outSeq (f6_k2 B C L) outK))) r65.1 r65.2.tm r65.2.h

noncomputable def f6_k0 (B : BindS) (C : CallF) (L : LoopF) (tm : Tm) (h : Heap) : Option (Out × St) :=
  B.b (ln (.slice 3 1 8 false) (tm 7)) fun w29 =>
  B.b (L (fun s => f6_b1 B C L s.tm s.h) ⟨(upd (upd (upd tm 44 (tm 7)) 45 w29) 46 (.sv (.int .i64 0))), h⟩) fun r48 => (outBlock 2 (outSeq (f6_k1 B C L) (outBlock 1 (outSeq (f6_k2 B C L) outK)))) r48.1 r48.2.tm r48.2.h

noncomputable def f6_b0 (B : BindS) (C : CallF) (L : LoopF) (tm : Tm) (h : Heap) : Option (Out × St) :=
  B.b (bin .lss (.int .i64) (tm 27) (tm 26)) fun w14 =>
  B.b (asB w14) fun t15 =>
  if t15 then (B.b (ia (.slice 47 5 40 false) (tm 25) (tm 27)) fun w16 =>
  B.b (ld 5 true w16 h) fun w17 =>
  B.b (alloc [.sv (.int .i64 0), .sv (.int .i64 0), .sv (.int .i64 0), .sv (.int .i64 0), .sv (.int .i64 0)] h) fun r18 =>
  B.b (storeA 5 r18.1 w17 r18.2) fun r19 =>
  B.b (ld 5 true r18.1 r19.2) fun w20 =>
  B.b (C 38 [w20] r19.2) fun r21 =>
  B.b (ld 5 true r18.1 r21.2) fun w22 =>
  B.b (C 39 [w22] r21.2) fun r23 =>
  B.b (ex 0 r23.1) fun w24 =>
  B.b (ex 1 r23.1) fun w25 =>
  B.b (asB w25) fun t26 =>
  if t26 then (B.b (bsA (.slice 3 1 8 false) (some [.sv (.int .i64 0)]) 1 [(0, w24)] r23.2) fun r27 =>
  B.b (apA (.slice 3 1 8 false) r21.1 r27.1 r27.2) fun r28 =>
  f6_k0 B C L (upd (upd (upd (upd (upd (upd (upd (upd (upd (upd (upd (upd (upd (upd (upd (upd (upd (upd (upd (upd (upd (upd tm 28 w14) 29 (tm 27)) 30 w16) 31 w17) 6 r18.1) 5 (tm 27)) 32 w20) 33 r21.1) 7 r21.1) 35 w22) 36 r23.1) 34 r23.1) 37 w24) 38 w25) 8 w24) 9 w25) 39 w25) 40 r21.1) 41 w24) 42 r27.1) 43 r28.1) 7 r28.1) r28.2) else
  f6_k0 B C L (upd (upd (upd (upd (upd (upd (upd (upd (upd (upd (upd (upd (upd (upd (upd (upd (upd tm 28 w14) 29 (tm 27)) 30 w16) 31 w17) 6 r18.1) 5 (tm 27)) 32 w20) 33 r21.1) 7 r21.1) 35 w22) 36 r23.1) 34 r23.1) 37 w24) 38 w25) 8 w24) 9 w25) 39 w25) r23.2) else
  some (.exit 0, ⟨(upd tm 28 w14), h⟩)

noncomputable def f6_k3 (B : BindS) (C : CallF) (L : LoopF) (tm : Tm) (h : Heap) : Option (AV × Heap) :=
  B.b (fa 0 (tm 1)) fun w68 =>
  B.b (ld 1 false w68 h) fun w69 =>
  B.b (bin .sub (.int .i64) w69 (.sv (.int .i64 1))) fun w70 =>
  B.b (fa 0 (tm 1)) fun w71 =>
  B.b (storeA 1 w71 w70 h) fun r72 =>
  B.b (gO (some ((tm 3), true)) (ld 4 true (tm 1) r72.2) .dead) fun w73 =>
  B.b (gO (some ((tm 3), true)) (C 37 [w73] r72.2) (.dead, r72.2)) fun r74 =>
  B.b (gO (some ((tm 3), true)) (bin .eql (.int .i64) r74.1 (.sv (.int .i64 0))) .dead) fun w75 =>
  B.b (gO (some ((tm 3), true)) (some (tm 4)) .dead) fun w76 =>
  B.b (gO (some ((tm 3), true)) (un .not w76) .dead) fun w77 =>
  B.b (gO (some ((tm 3), true)) (some w77) .dead) fun w78 =>
  B.b (gO (some (w78, true)) (fa 0 (tm 1)) .dead) fun w79 =>
  B.b (gO (some (w78, true)) (ld 1 false w79 r74.2) .dead) fun w80 =>
  B.b (gO (some (w78, true)) (bin .geq (.int .i64) w80 (.sv (.int .i64 0))) .dead) fun w81 =>
  B.b (gO (some ((tm 3), true)) ((asB w78).bind fun t => some (if t then w81 else (.sv (.bool false)))) .dead) fun w82 =>
  B.b (gO (some ((tm 3), true)) (bin .eql .bool w75 w82) .dead) fun w83 =>
  B.b ((asB (tm 3)).bind fun t => some (if t then w83 else (.sv (.bool false)))) fun w84 =>
  some (w84, r74.2)

noncomputable def f6_sh (B : BindS) (C : CallF) (L : LoopF) (v0 : AV) (h : Heap) : Option (AV × Heap) :=
  B.b (boxA 4 v0 h) fun r1 =>
  B.b (C 32 [] r1.2) fun r2 =>
  B.b (ld 4 true r1.1 r2.2) fun w3 =>
  B.b (C 36 [w3] r2.2) fun r4 =>
  B.b (un .not r4.1) fun w5 =>
  B.b (gO (some (w5, false)) (ld 4 true r1.1 r4.2) .dead) fun w6 =>
  B.b (gO (some (w5, false)) (C 37 [w6] r4.2) (.dead, r4.2)) fun r7 =>
  B.b (gO (some (w5, false)) (bin .neq (.int .i64) r7.1 (.sv (.int .i64 0))) .dead) fun w8 =>
  B.b ((asB w5).bind fun t => some (if t then (.sv (.bool true)) else w8)) fun w9 =>
  B.b (asB w9) fun t10 =>
  if t10 then (some (r2.1, r7.2)) else
  B.b (fa 3 r1.1) fun w11 =>
  B.b (ld 1 false w11 r7.2) fun w12 =>
  B.b (ln (.slice 47 5 40 false) w12) fun w13 =>
  B.b (L (fun s => f6_b0 B C L s.tm s.h) ⟨(upd (upd (upd (upd (upd (upd (upd (upd (upd (upd (upd (upd (upd (upd (upd (upd (upd (init [v0]) 1 r1.1) 2 (.sv (.bool false))) 14 r2.1) 3 r2.1) 15 w3) 16 r4.1) 17 w5) 18 w5) 19 w6) 20 r7.1) 21 w8) 22 w9) 4 (.sv (.bool false))) 24 w11) 25 w12) 26 w13) 27 (.sv (.int .i64 0))), r7.2⟩) fun r67 => (outBlock 0 (outSeq (f6_k3 B C L) (endK B tab [.tmp 2]))) r67.1 r67.2.tm r67.2.h
theorem f6_eq (B : BindS) (C : CallF) (L : LoopF) (v0 : AV) (h : Heap) : evFunc B tab shared C L noD Try.f6 [v0] h = f6_sh B C L v0 h := by kernel_rfl

/-! purfle/purflelaw14.CodeShifts -/
noncomputable def f7_b1 (B : BindS) (C : CallF) (L : LoopF) (tm : Tm) (h : Heap) : Option (Out × St) :=
  B.b (bin .lss (.int .i64) (tm 143) (tm 142)) fun w106 =>
  B.b (asB w106) fun t107 =>
  if t107 then (B.b (ia (.slice 3 1 8 false) (tm 21) (tm 143)) fun w108 =>
  B.b (ld 1 false w108 h) fun w109 =>
  B.b (bin .add (.int .i64) (tm 1) (tm 2)) fun w110 =>
  B.b (bin .add (.int .i64) w109 w110) fun w111 =>
  B.b (ia (.slice 3 1 8 false) (tm 21) (tm 143)) fun w112 =>
  B.b (storeA 1 w112 w111 h) fun r113 =>
  B.b (bin .add (.int .i64) (tm 143) (.sv (.int .i64 1))) fun w114 =>
  some (.normal, ⟨(upd (upd (upd (upd (upd (upd (upd (upd (upd (upd (upd (upd (upd (upd tm 144 w106) 145 (tm 143)) 22 (tm 143)) 146 (tm 21)) 147 (tm 143)) 148 w108) 149 w109) 150 (tm 1)) 151 (tm 2)) 152 w110) 153 w111) 154 w112) 155 w114) 143 w114), r113.2⟩)) else
  some (.exit 2, ⟨(upd tm 144 w106), h⟩)

noncomputable def f7_k0 (B : BindS) (C : CallF) (L : LoopF) (tm : Tm) (h : Heap) : Option (Out × St) :=
  B.b (ld 5 true (tm 16) h) fun w116 =>
  B.b (bin .add (.int .i64) (tm 1) (tm 2)) fun w117 =>
  B.b (bin .add (.int .i64) w117 (tm 14)) fun w118 =>
  B.b (C 40 [w116, w118] h) fun r119 =>
  B.b (C 43 [(tm 21), r119.1] r119.2) fun r120 =>
  B.b (un .not r120.1) fun w121 =>
  B.b (asB w121) fun t122 =>
  if t122 then (some (.ret, ⟨(upd (upd (upd (upd (upd (upd (upd (upd (upd (upd (upd tm 156 (tm 21)) 157 w116) 158 (tm 1)) 159 (tm 2)) 160 w117) 161 (tm 14)) 162 w118) 163 r119.1) 164 r120.1) 165 w121) 6 (.sv (.bool false))), r120.2⟩)) else
  B.b (bin .add (.int .i64) (tm 98) (.sv (.int .i64 1))) fun w123 =>
  some (.normal, ⟨(upd (upd (upd (upd (upd (upd (upd (upd (upd (upd (upd (upd tm 156 (tm 21)) 157 w116) 158 (tm 1)) 159 (tm 2)) 160 w117) 161 (tm 14)) 162 w118) 163 r119.1) 164 r120.1) 165 w121) 166 w123) 98 w123), r120.2⟩)

noncomputable def f7_k1 (B : BindS) (C : CallF) (L : LoopF) (tm : Tm) (h : Heap) : Option (Out × St) :=
  B.b (bin .add (.int .i64) (tm 98) (.sv (.int .i64 1))) fun w124 =>
  some (.normal, ⟨(upd (upd tm 166 w124) 98 w124), h⟩)

noncomputable def f7_b0 (B : BindS) (C : CallF) (L : LoopF) (tm : Tm) (h : Heap) : Option (Out × St) :=
  B.b (bin .lss (.int .i64) (tm 98) (tm 97)) fun w68 =>
  B.b (asB w68) fun t69 =>
  if t69 then (B.b (ia (.slice 47 5 40 false) (tm 96) (tm 98)) fun w70 =>
  B.b (ld 5 true w70 h) fun w71 =>
  B.b (alloc [.sv (.int .i64 0), .sv (.int .i64 0), .sv (.int .i64 0), .sv (.int .i64 0), .sv (.int .i64 0)] h) fun r72 =>
  B.b (storeA 5 r72.1 w71 r72.2) fun r73 =>
  B.b (fa 3 (tm 12)) fun w74 =>
  B.b (ld 1 false w74 r73.2) fun w75 =>
  B.b (bin .add (.int .i64) (tm 1) (tm 2)) fun w76 =>
  B.b (bin .add (.int .i64) w76 (tm 98)) fun w77 =>
  B.b (ia (.slice 47 5 40 false) w75 w77) fun w78 =>
  B.b (ld 5 true w78 r73.2) fun w79 =>
  B.b (alloc [.sv (.int .i64 0), .sv (.int .i64 0), .sv (.int .i64 0), .sv (.int .i64 0), .sv (.int .i64 0)] r73.2) fun r80 =>
  B.b (storeA 5 r80.1 w79 r80.2) fun r81 =>
  B.b (ld 5 true r72.1 r81.2) fun w82 =>
  B.b (C 39 [w82] r81.2) fun r83 =>
  B.b (ex 0 r83.1) fun w84 =>
  B.b (ex 1 r83.1) fun w85 =>
  B.b (ld 5 true r80.1 r83.2) fun w86 =>
  B.b (C 39 [w86] r83.2) fun r87 =>
  B.b (ex 0 r87.1) fun w88 =>
  B.b (ex 1 r87.1) fun w89 =>
  B.b (bin .neq (.int .i64) w84 w88) fun w90 =>
  B.b (gO (some (w90, false)) (some w85) .dead) fun w91 =>
  B.b (gO (some (w90, false)) (some w89) .dead) fun w92 =>
  B.b (gO (some (w90, false)) (bin .neq .bool w91 w92) .dead) fun w93 =>
  B.b ((asB w90).bind fun t => some (if t then (.sv (.bool true)) else w93)) fun w94 =>
  B.b (gO (some (w94, false)) (ld 5 true r72.1 r87.2) .dead) fun w95 =>
  B.b (gO (some (w94, false)) (C 38 [w95] r87.2) (.dead, r87.2)) fun r96 =>
  B.b (gO (some (w94, false)) (ld 5 true r80.1 r96.2) .dead) fun w97 =>
  gPast (some (w94, false)) 5 true r80.1 w97 [r87.2] (B.b (gO (some (w94, false)) (C 38 [w97] r96.2) (.dead, r96.2)) fun r98 =>
  B.b (gO (some (w94, false)) (C 43 [r96.1, r98.1] []) (.dead, [])) fun r99 =>
  B.b (gO (some (w94, false)) (un .not r99.1) .dead) fun w100 =>
  B.b ((asB w94).bind fun t => some (if t then (.sv (.bool true)) else w100)) fun w101 =>
  B.b (asB w101) fun t102 =>
  if t102 then (some (.ret, ⟨(upd (upd (upd (upd (upd (upd (upd (upd (upd (upd (upd (upd (upd (upd (upd (upd (upd (upd (upd (upd (upd (upd (upd (upd (upd (upd (upd (upd (upd (upd (upd (upd (upd (upd (upd (upd (upd (upd (upd (upd (upd (upd (upd (upd (upd (upd (upd tm 99 w68) 100 (tm 98)) 101 w70) 102 w71) 15 r72.1) 14 (tm 98)) 103 w74) 104 w75) 105 (tm 1)) 106 (tm 2)) 107 w76) 108 (tm 98)) 109 w77) 110 w78) 111 w79) 16 r80.1) 113 w82) 114 r83.1) 112 r83.1) 115 w84) 116 w85) 17 w84) 18 w85) 118 w86) 119 r87.1) 117 r87.1) 120 w88) 121 w89) 19 w88) 20 w89) 122 w84) 123 w88) 124 w90) 125 w90) 126 w91) 127 w92) 128 w93) 129 w94) 130 w94) 131 w95) 132 r96.1) 133 w97) 134 r98.1) 135 r99.1) 136 w100) 137 w101) 6 (.sv (.bool false))), r98.2⟩)) else
  B.b (ld 5 true r72.1 r98.2) fun w103 =>
  B.b (C 40 [w103, (tm 98)] r98.2) fun r104 =>
  B.b (ln (.slice 3 1 8 false) r104.1) fun w105 =>
  B.b (L (fun s => f7_b1 B C L s.tm s.h) ⟨(upd (upd (upd (upd (upd (upd (upd (upd (upd (upd (upd (upd (upd (upd (upd (upd (upd (upd (upd (upd (upd (upd (upd (upd (upd (upd (upd (upd (upd (upd (upd (upd (upd (upd (upd (upd (upd (upd (upd (upd (upd (upd (upd (upd (upd (upd (upd (upd (upd (upd (upd (upd (upd tm 99 w68) 100 (tm 98)) 101 w70) 102 w71) 15 r72.1) 14 (tm 98)) 103 w74) 104 w75) 105 (tm 1)) 106 (tm 2)) 107 w76) 108 (tm 98)) 109 w77) 110 w78) 111 w79) 16 r80.1) 113 w82) 114 r83.1) 112 r83.1) 115 w84) 116 w85) 17 w84) 18 w85) 118 w86) 119 r87.1) 117 r87.1) 120 w88) 121 w89) 19 w88) 20 w89) 122 w84) 123 w88) 124 w90) 125 w90) 126 w91) 127 w92) 128 w93) 129 w94) 130 w94) 131 w95) 132 r96.1) 133 w97) 134 r98.1) 135 r99.1) 136 w100) 137 w101) 138 w103) 139 (tm 98)) 140 r104.1) 21 r104.1) 141 r104.1) 142 w105) 143 (.sv (.int .i64 0))), r104.2⟩) fun r115 => (outBlock 2 (outSeq (f7_k0 B C L) (outBlock 1 (outSeq (f7_k1 B C L) outK)))) r115.1 r115.2.tm r115.2.h)) else
  some (.exit 0, ⟨(upd tm 99 w68), h⟩)

noncomputable def f7_k2 (B : BindS) (C : CallF) (L : LoopF) (tm : Tm) (h : Heap) : Option (AV × Heap) :=
  some ((tm 7), h)

noncomputable def f7_sh (B : BindS) (C : CallF) (L : LoopF) (v0 : AV) (v1 : AV) (v2 : AV) (h : Heap) : Option (AV × Heap) :=
  B.b (boxA 4 v0 h) fun r1 =>
  B.b (C 32 [] r1.2) fun r2 =>
  B.b (ld 4 true r1.1 r2.2) fun w3 =>
  B.b (C 36 [w3] r2.2) fun r4 =>
  B.b (un .not r4.1) fun w5 =>
  B.b (gO (some (w5, false)) (ld 4 true r1.1 r4.2) .dead) fun w6 =>
  B.b (gO (some (w5, false)) (C 37 [w6] r4.2) (.dead, r4.2)) fun r7 =>
  B.b (gO (some (w5, false)) (bin .neq (.int .i64) r7.1 (.sv (.int .i64 0))) .dead) fun w8 =>
  B.b ((asB w5).bind fun t => some (if t then (.sv (.bool true)) else w8)) fun w9 =>
  B.b (asB w9) fun t10 =>
  if t10 then (some (r2.1, r7.2)) else
  B.b (bin .rem (.int .i64) v1 (.sv (.int .i64 50))) fun w11 =>
  B.b (bin .add (.int .i64) w11 (.sv (.int .i64 50))) fun w12 =>
  B.b (bin .rem (.int .i64) w12 (.sv (.int .i64 50))) fun w13 =>
  B.b (bin .rem (.int .i64) v2 (.sv (.int .i64 50))) fun w14 =>
  B.b (bin .add (.int .i64) w14 (.sv (.int .i64 50))) fun w15 =>
  B.b (bin .rem (.int .i64) w15 (.sv (.int .i64 50))) fun w16 =>
  B.b (ld 4 true r1.1 r7.2) fun w17 =>
  B.b (C 41 [w17, w13] r7.2) fun r18 =>
  B.b (ex 0 r18.1) fun w19 =>
  B.b (ex 1 r18.1) fun w20 =>
  B.b (alloc [.sv (.int .i64 0), .sv (.int .i64 0), .sv (.int .i64 0), .nil] r18.2) fun r21 =>
  B.b (storeA 4 r21.1 w19 r21.2) fun r22 =>
  B.b (ld 4 true r21.1 r22.2) fun w23 =>
  B.b (C 41 [w23, w16] r22.2) fun r24 =>
  B.b (ex 0 r24.1) fun w25 =>
  B.b (ex 1 r24.1) fun w26 =>
  B.b (alloc [.sv (.int .i64 0), .sv (.int .i64 0), .sv (.int .i64 0), .nil] r24.2) fun r27 =>
  B.b (storeA 4 r27.1 w25 r27.2) fun r28 =>
  B.b (ld 4 true r1.1 r28.2) fun w29 =>
  B.b (bin .add (.int .i64) w13 w16) fun w30 =>
  B.b (C 41 [w29, w30] r28.2) fun r31 =>
  B.b (ex 0 r31.1) fun w32 =>
  B.b (ex 1 r31.1) fun w33 =>
  B.b (alloc [.sv (.int .i64 0), .sv (.int .i64 0), .sv (.int .i64 0), .nil] r31.2) fun r34 =>
  B.b (storeA 4 r34.1 w32 r34.2) fun r35 =>
  B.b (bin .neq (.int .i64) w20 (.sv (.int .i64 0))) fun w36 =>
  B.b (gO (some (w36, false)) (some w26) .dead) fun w37 =>
  B.b (gO (some (w36, false)) (bin .neq (.int .i64) w37 (.sv (.int .i64 0))) .dead) fun w38 =>
  B.b ((asB w36).bind fun t => some (if t then (.sv (.bool true)) else w38)) fun w39 =>
  B.b (gO (some (w39, false)) (some w33) .dead) fun w40 =>
  B.b (gO (some (w39, false)) (bin .neq (.int .i64) w40 (.sv (.int .i64 0))) .dead) fun w41 =>
  B.b ((asB w39).bind fun t => some (if t then (.sv (.bool true)) else w41)) fun w42 =>
  B.b (gO (some (w42, false)) (ld 4 true r27.1 r35.2) .dead) fun w43 =>
  B.b (gO (some (w42, false)) (ld 4 true r34.1 r35.2) .dead) fun w44 =>
  B.b (gO (some (w42, false)) (C 42 [w43, w44] r35.2) (.dead, r35.2)) fun r45 =>
  B.b (gO (some (w42, false)) (un .not r45.1) .dead) fun w46 =>
  B.b ((asB w42).bind fun t => some (if t then (.sv (.bool true)) else w46)) fun w47 =>
  B.b (gO (some (w47, false)) (ld 4 true r34.1 r45.2) .dead) fun w48 =>
  B.b (gO (some (w47, false)) (C 37 [w48] r45.2) (.dead, r45.2)) fun r49 =>
  B.b (gO (some (w47, false)) (bin .neq (.int .i64) r49.1 (.sv (.int .i64 0))) .dead) fun w50 =>
  B.b ((asB w47).bind fun t => some (if t then (.sv (.bool true)) else w50)) fun w51 =>
  B.b (gO (some (w51, false)) (fa 3 r34.1) .dead) fun w52 =>
  B.b (gO (some (w51, false)) (ld 1 false w52 r49.2) .dead) fun w53 =>
  B.b (gO (some (w51, false)) (ln (.slice 47 5 40 false) w53) .dead) fun w54 =>
  B.b (gO (some (w51, false)) (some w13) .dead) fun w55 =>
  B.b (gO (some (w51, false)) (some w16) .dead) fun w56 =>
  B.b (gO (some (w51, false)) (bin .add (.int .i64) w55 w56) .dead) fun w57 =>
  B.b (gO (some (w51, false)) (fa 3 r1.1) .dead) fun w58 =>
  B.b (gO (some (w51, false)) (ld 1 false w58 r49.2) .dead) fun w59 =>
  B.b (gO (some (w51, false)) (ln (.slice 47 5 40 false) w59) .dead) fun w60 =>
  B.b (gO (some (w51, false)) (bin .add (.int .i64) w57 w60) .dead) fun w61 =>
  B.b (gO (some (w51, false)) (bin .neq (.int .i64) w54 w61) .dead) fun w62 =>
  B.b ((asB w51).bind fun t => some (if t then (.sv (.bool true)) else w62)) fun w63 =>
  B.b (asB w63) fun t64 =>
  if t64 then (some ((.sv (.bool false)), r49.2)) else
  B.b (fa 3 r1.1) fun w65 =>
  B.b (ld 1 false w65 r49.2) fun w66 =>
  B.b (ln (.slice 47 5 40 false) w66) fun w67 =>
  B.b (L (fun s => f7_b0 B C L s.tm s.h) ⟨(upd (upd (upd (upd (upd (upd (upd (upd (upd (upd (upd (upd (upd (upd (upd (upd (upd (upd (upd (upd (upd (upd (upd (upd (upd (upd (upd (upd (upd (upd (upd (upd (upd (upd (upd (upd (upd (upd (upd (upd (upd (upd (upd (upd (upd (upd (upd (upd (upd (upd (upd (upd (upd (upd (upd (upd (upd (upd (upd (upd (upd (upd (upd (upd (upd (upd (upd (upd (upd (upd (upd (upd (upd (upd (upd (upd (upd (upd (upd (upd (upd (upd (upd (upd (upd (upd (init [v0, v1, v2]) 3 r1.1) 6 (.sv (.bool false))) 23 r2.1) 7 r2.1) 24 w3) 25 r4.1) 26 w5) 27 w5) 28 w6) 29 r7.1) 30 w8) 31 w9) 33 v1) 34 w11) 35 w12) 36 w13) 1 w13) 37 v2) 38 w14) 39 w15) 40 w16) 2 w16) 42 w17) 43 w13) 44 r18.1) 41 r18.1) 45 w19) 46 w20) 8 r21.1) 9 w20) 48 w23) 49 w16) 50 r24.1) 47 r24.1) 51 w25) 52 w26) 10 r27.1) 11 w26) 54 w29) 55 w13) 56 w16) 57 w30) 58 r31.1) 53 r31.1) 59 w32) 60 w33) 12 r34.1) 13 w33) 61 w20) 62 w36) 63 w36) 64 w37) 65 w38) 66 w39) 67 w39) 68 w40) 69 w41) 70 w42) 71 w42) 72 w43) 73 w44) 74 r45.1) 75 w46) 76 w47) 77 w47) 78 w48) 79 r49.1) 80 w50) 81 w51) 82 w51) 83 w52) 84 w53) 85 w54) 86 w55) 87 w56) 88 w57) 89 w58) 90 w59) 91 w60) 92 w61) 93 w62) 94 w63) 95 w65) 96 w66) 97 w67) 98 (.sv (.int .i64 0))), r49.2⟩) fun r125 => (outBlock 0 (outSeq (f7_k2 B C L) (endK B tab [.tmp 6]))) r125.1 r125.2.tm r125.2.h
theorem f7_eq (B : BindS) (C : CallF) (L : LoopF) (v0 : AV) (v1 : AV) (v2 : AV) (h : Heap) : evFunc B tab shared C L noD Try.f7 [v0, v1, v2] h = f7_sh B C L v0 v1 v2 h := by kernel_rfl

/-! purfle/purflelaw14.CodeBack -/
noncomputable def f12_k0 (B : BindS) (C : CallF) (L : LoopF) (tm : Tm) (h : Heap) : Option (AV × Heap) :=
  B.b (C 33 [(tm 1)] h) fun r37 =>
  B.b (ex 0 r37.1) fun w38 =>
  B.b (ex 1 r37.1) fun w39 =>
  B.b (ex 2 r37.1) fun w40 =>
  B.b (storeA 4 (tm 2) w38 r37.2) fun r41 =>
  B.b (bin .neq (.int .i64) w40 (.sv (.int .i64 0))) fun w42 =>
  B.b (asB w42) fun t43 =>
  if t43 then (B.b (gO (some ((tm 5), true)) (fa 3 (tm 2)) .dead) fun w44 =>
  B.b (gO (some ((tm 5), true)) (ld 1 false w44 r41.2) .dead) fun w45 =>
  B.b (gO (some ((tm 5), true)) (ln (.slice 47 5 40 false) w45) .dead) fun w46 =>
  B.b (gO (some ((tm 5), true)) (bin .eql (.int .i64) w46 (.sv (.int .i64 0))) .dead) fun w47 =>
  B.b ((asB (tm 5)).bind fun t => some (if t then w47 else (.sv (.bool false)))) fun w48 =>
  some (w48, r41.2)) else
  B.b (ld 4 true (tm 2) r41.2) fun w49 =>
  B.b (C 62 [w49] r41.2) fun r50 =>
  B.b (ex 0 r50.1) fun w51 =>
  B.b (ex 1 r50.1) fun w52 =>
  B.b (C 33 [w51] r50.2) fun r53 =>
  B.b (ex 0 r53.1) fun w54 =>
  B.b (ex 1 r53.1) fun w55 =>
  B.b (ex 2 r53.1) fun w56 =>
  B.b (alloc [.sv (.int .i64 0), .sv (.int .i64 0), .sv (.int .i64 0), .nil] r53.2) fun r57 =>
  B.b (storeA 4 r57.1 w54 r57.2) fun r58 =>
  B.b (gO (some ((tm 5), true)) (some w52) .dead) fun w59 =>
  B.b (gO (some ((tm 5), true)) (bin .eql (.int .i64) w59 (.sv (.int .i64 0))) .dead) fun w60 =>
  B.b ((asB (tm 5)).bind fun t => some (if t then w60 else (.sv (.bool false)))) fun w61 =>
  B.b (gO (some (w61, true)) (some w56) .dead) fun w62 =>
  B.b (gO (some (w61, true)) (bin .eql (.int .i64) w62 (.sv (.int .i64 0))) .dead) fun w63 =>
  B.b ((asB w61).bind fun t => some (if t then w63 else (.sv (.bool false)))) fun w64 =>
  B.b (gO (some (w64, true)) (ld 4 true (tm 2) r58.2) .dead) fun w65 =>
  B.b (gO (some (w64, true)) (ld 4 true r57.1 r58.2) .dead) fun w66 =>
  B.b (gO (some (w64, true)) (C 42 [w65, w66] r58.2) (.dead, r58.2)) fun r67 =>
  B.b ((asB w64).bind fun t => some (if t then r67.1 else (.sv (.bool false)))) fun w68 =>
  some (w68, r67.2)

noncomputable def f12_sh (B : BindS) (C : CallF) (L : LoopF) (v0 : AV) (v1 : AV) (h : Heap) : Option (AV × Heap) :=
  B.b (boxA 4 v0 h) fun r1 =>
  B.b (C 32 [] r1.2) fun r2 =>
  B.b (ld 4 true r1.1 r2.2) fun w3 =>
  B.b (C 36 [w3] r2.2) fun r4 =>
  B.b (un .not r4.1) fun w5 =>
  B.b (gO (some (w5, false)) (some v1) .dead) fun w6 =>
  B.b (gO (some (w5, false)) (ln .str w6) .dead) fun w7 =>
  B.b (gO (some (w5, false)) (bin .gtr (.int .i64) w7 (.sv (.int .i64 20000))) .dead) fun w8 =>
  B.b ((asB w5).bind fun t => some (if t then (.sv (.bool true)) else w8)) fun w9 =>
  B.b (asB w9) fun t10 =>
  if t10 then (some (r2.1, r4.2)) else
  B.b (ld 4 true r1.1 r4.2) fun w11 =>
  B.b (C 62 [w11] r4.2) fun r12 =>
  B.b (ex 0 r12.1) fun w13 =>
  B.b (ex 1 r12.1) fun w14 =>
  B.b (bin .eql (.int .i64) w14 (.sv (.int .i64 0))) fun w15 =>
  B.b (asB w15) fun t16 =>
  if t16 then (B.b (C 33 [w13] r12.2) fun r17 =>
  B.b (ex 0 r17.1) fun w18 =>
  B.b (ex 1 r17.1) fun w19 =>
  B.b (ex 2 r17.1) fun w20 =>
  B.b (alloc [.sv (.int .i64 0), .sv (.int .i64 0), .sv (.int .i64 0), .nil] r17.2) fun r21 =>
  B.b (storeA 4 r21.1 w18 r21.2) fun r22 =>
  B.b (bin .neq (.int .i64) w20 (.sv (.int .i64 0))) fun w23 =>
  B.b (gO (some (w23, false)) (some w19) .dead) fun w24 =>
  B.b (gO (some (w23, false)) (fa 3 r1.1) .dead) fun w25 =>
  B.b (gO (some (w23, false)) (ld 1 false w25 r22.2) .dead) fun w26 =>
  B.b (gO (some (w23, false)) (ln (.slice 47 5 40 false) w26) .dead) fun w27 =>
  B.b (gO (some (w23, false)) (bin .add (.int .i64) w27 (.sv (.int .i64 1))) .dead) fun w28 =>
  B.b (gO (some (w23, false)) (bin .neq (.int .i64) w24 w28) .dead) fun w29 =>
  B.b ((asB w23).bind fun t => some (if t then (.sv (.bool true)) else w29)) fun w30 =>
  B.b (gO (some (w30, false)) (ld 4 true r1.1 r22.2) .dead) fun w31 =>
  B.b (gO (some (w30, false)) (ld 4 true r21.1 r22.2) .dead) fun w32 =>
  B.b (gO (some (w30, false)) (C 42 [w31, w32] r22.2) (.dead, r22.2)) fun r33 =>
  B.b (gO (some (w30, false)) (un .not r33.1) .dead) fun w34 =>
  B.b ((asB w30).bind fun t => some (if t then (.sv (.bool true)) else w34)) fun w35 =>
  B.b (asB w35) fun t36 =>
  if t36 then (some ((.sv (.bool false)), r33.2)) else
  f12_k0 B C L (upd (upd (upd (upd (upd (upd (upd (upd (upd (upd (upd (upd (upd (upd (upd (upd (upd (upd (upd (upd (upd (upd (upd (upd (upd (upd (upd (upd (upd (upd (upd (upd (upd (upd (upd (upd (upd (upd (upd (upd (upd (upd (upd (upd (upd (upd (init [v0, v1]) 2 r1.1) 4 (.sv (.bool false))) 18 r2.1) 5 r2.1) 19 w3) 20 r4.1) 21 w5) 22 w5) 23 w6) 24 w7) 25 w8) 26 w9) 29 w11) 30 r12.1) 28 r12.1) 31 w13) 32 w14) 6 w13) 7 w14) 33 w14) 34 w15) 36 w13) 37 r17.1) 35 r17.1) 38 w18) 39 w19) 40 w20) 8 r21.1) 9 w19) 10 w20) 41 w20) 42 w23) 43 w23) 44 w24) 45 w25) 46 w26) 47 w27) 48 w28) 49 w29) 50 w30) 51 w30) 52 w31) 53 w32) 54 r33.1) 55 w34) 56 w35) r33.2) else
  f12_k0 B C L (upd (upd (upd (upd (upd (upd (upd (upd (upd (upd (upd (upd (upd (upd (upd (upd (upd (upd (upd (upd (upd (init [v0, v1]) 2 r1.1) 4 (.sv (.bool false))) 18 r2.1) 5 r2.1) 19 w3) 20 r4.1) 21 w5) 22 w5) 23 w6) 24 w7) 25 w8) 26 w9) 29 w11) 30 r12.1) 28 r12.1) 31 w13) 32 w14) 6 w13) 7 w14) 33 w14) 34 w15) r12.2
theorem f12_eq (B : BindS) (C : CallF) (L : LoopF) (v0 : AV) (v1 : AV) (h : Heap) : evFunc B tab shared C L noD Try.f12 [v0, v1] h = f12_sh B C L v0 v1 h := by kernel_rfl

/-! purfle/purflelaw14.CodeLines -/
noncomputable def f13_b1 (B : BindS) (C : CallF) (L : LoopF) (tm : Tm) (h : Heap) : Option (Out × St) :=
  B.b (bin .add (.int .i64) (tm 10) (.sv (.int .i64 1))) fun w28 =>
  B.b (bin .lss (.int .i64) w28 (tm 8)) fun w29 =>
  B.b (asB w29) fun t30 =>
  if t30 then (B.b (ix .str (tm 4) (tm 10)) fun w31 =>
  B.b (bin .eql (.int .u8) w31 (.sv (.int .u8 32))) fun w32 =>
  B.b (gO (some (w32, true)) (some (tm 4)) .dead) fun w33 =>
  B.b (gO (some (w32, true)) (some (tm 10)) .dead) fun w34 =>
  B.b (gO (some (w32, true)) (bin .add (.int .i64) w34 (.sv (.int .i64 1))) .dead) fun w35 =>
  B.b (gO (some (w32, true)) (ix .str w33 w35) .dead) fun w36 =>
  B.b (gO (some (w32, true)) (bin .eql (.int .u8) w36 (.sv (.int .u8 114))) .dead) fun w37 =>
  B.b ((asB w32).bind fun t => some (if t then w37 else (.sv (.bool false)))) fun w38 =>
  B.b (asB w38) fun t39 =>
  if t39 then (B.b (bin .add (.int .i64) (tm 9) (.sv (.int .i64 1))) fun w40 =>
  B.b (bin .add (.int .i64) (tm 10) (.sv (.int .i64 1))) fun w41 =>
  some (.normal, ⟨(upd (upd (upd (upd (upd (upd (upd (upd (upd (upd (upd (upd (upd (upd (upd (upd (upd (upd (upd (upd (upd tm 49 (tm 10)) 50 w28) 51 (tm 8)) 52 w29) 55 (tm 4)) 56 (tm 10)) 57 w31) 58 w32) 59 w32) 60 w33) 61 w34) 62 w35) 63 w36) 64 w37) 65 w38) 66 (tm 9)) 67 w40) 9 w40) 53 (tm 10)) 54 w41) 10 w41), h⟩)) else
  B.b (bin .add (.int .i64) (tm 10) (.sv (.int .i64 1))) fun w42 =>
  some (.normal, ⟨(upd (upd (upd (upd (upd (upd (upd (upd (upd (upd (upd (upd (upd (upd (upd (upd (upd (upd tm 49 (tm 10)) 50 w28) 51 (tm 8)) 52 w29) 55 (tm 4)) 56 (tm 10)) 57 w31) 58 w32) 59 w32) 60 w33) 61 w34) 62 w35) 63 w36) 64 w37) 65 w38) 53 (tm 10)) 54 w42) 10 w42), h⟩)) else
  some (.exit 2, ⟨(upd (upd (upd (upd tm 49 (tm 10)) 50 w28) 51 (tm 8)) 52 w29), h⟩)

noncomputable def f13_k0 (B : BindS) (C : CallF) (L : LoopF) (tm : Tm) (h : Heap) : Option (Out × St) :=
  B.b (bin .gtr (.int .i64) (tm 6) (.sv (.int .i64 0))) fun w44 =>
  B.b (asB w44) fun t45 =>
  if t45 then (B.b (fa 3 (tm 1)) fun w46 =>
  B.b (ld 1 false w46 h) fun w47 =>
  B.b (ln (.slice 47 5 40 false) w47) fun w48 =>
  B.b (bin .gtr (.int .i64) (tm 6) w48) fun w49 =>
  B.b (asB w49) fun t50 =>
  if t50 then (some (.ret, ⟨(upd (upd (upd (upd (upd (upd (upd (upd tm 68 (tm 6)) 69 w44) 70 (tm 6)) 71 w46) 72 w47) 73 w48) 74 w49) 2 (.sv (.bool false))), h⟩)) else
  B.b (fa 3 (tm 1)) fun w51 =>
  B.b (ld 1 false w51 h) fun w52 =>
  B.b (bin .sub (.int .i64) (tm 6) (.sv (.int .i64 1))) fun w53 =>
  B.b (ia (.slice 47 5 40 false) w52 w53) fun w54 =>
  B.b (ld 5 true w54 h) fun w55 =>
  B.b (alloc [.sv (.int .i64 0), .sv (.int .i64 0), .sv (.int .i64 0), .sv (.int .i64 0), .sv (.int .i64 0)] h) fun r56 =>
  B.b (storeA 5 r56.1 w55 r56.2) fun r57 =>
  B.b (ld 5 true r56.1 r57.2) fun w58 =>
  B.b (C 38 [w58] r57.2) fun r59 =>
  B.b (ln (.slice 3 1 8 false) r59.1) fun w60 =>
  B.b (ld 5 true r56.1 r59.2) fun w61 =>
  B.b (C 39 [w61] r59.2) fun r62 =>
  B.b (ex 0 r62.1) fun w63 =>
  B.b (ex 1 r62.1) fun w64 =>
  B.b (asB w64) fun t65 =>
  if t65 then (B.b (bin .add (.int .i64) w60 (.sv (.int .i64 1))) fun w66 =>
  B.b (bin .neq (.int .i64) (tm 9) w66) fun w67 =>
  B.b (asB w67) fun t68 =>
  if t68 then (some (.ret, ⟨(upd (upd (upd (upd (upd (upd (upd (upd (upd (upd (upd (upd (upd (upd (upd (upd (upd (upd (upd (upd (upd (upd (upd (upd (upd (upd (upd (upd (upd (upd (upd (upd (upd tm 68 (tm 6)) 69 w44) 70 (tm 6)) 71 w46) 72 w47) 73 w48) 74 w49) 75 w51) 76 w52) 77 (tm 6)) 78 w53) 79 w54) 80 w55) 11 r56.1) 81 w58) 82 r59.1) 83 w60) 12 w60) 85 w61) 86 r62.1) 84 r62.1) 87 w63) 88 w64) 13 w63) 14 w64) 89 w64) 90 w60) 91 w66) 12 w66) 92 (tm 9)) 93 w66) 94 w67) 2 (.sv (.bool false))), r62.2⟩)) else
  B.b (bin .add (.int .i64) (tm 6) (.sv (.int .i64 1))) fun w69 =>
  B.b (bin .add (.int .i64) (tm 8) (.sv (.int .i64 1))) fun w70 =>
  B.b (bin .add (.int .i64) (tm 8) (.sv (.int .i64 1))) fun w71 =>
  some (.normal, ⟨(upd (upd (upd (upd (upd (upd (upd (upd (upd (upd (upd (upd (upd (upd (upd (upd (upd (upd (upd (upd (upd (upd (upd (upd (upd (upd (upd (upd (upd (upd (upd (upd (upd (upd (upd (upd (upd (upd (upd (upd (upd tm 68 (tm 6)) 69 w44) 70 (tm 6)) 71 w46) 72 w47) 73 w48) 74 w49) 75 w51) 76 w52) 77 (tm 6)) 78 w53) 79 w54) 80 w55) 11 r56.1) 81 w58) 82 r59.1) 83 w60) 12 w60) 85 w61) 86 r62.1) 84 r62.1) 87 w63) 88 w64) 13 w63) 14 w64) 89 w64) 90 w60) 91 w66) 12 w66) 92 (tm 9)) 93 w66) 94 w67) 95 (tm 6)) 96 w69) 6 w69) 97 (tm 8)) 98 w70) 7 w70) 36 (tm 8)) 37 w71) 8 w71), r62.2⟩)) else
  B.b (bin .neq (.int .i64) (tm 9) w60) fun w72 =>
  B.b (asB w72) fun t73 =>
  if t73 then (some (.ret, ⟨(upd (upd (upd (upd (upd (upd (upd (upd (upd (upd (upd (upd (upd (upd (upd (upd (upd (upd (upd (upd (upd (upd (upd (upd (upd (upd (upd (upd (upd (upd tm 68 (tm 6)) 69 w44) 70 (tm 6)) 71 w46) 72 w47) 73 w48) 74 w49) 75 w51) 76 w52) 77 (tm 6)) 78 w53) 79 w54) 80 w55) 11 r56.1) 81 w58) 82 r59.1) 83 w60) 12 w60) 85 w61) 86 r62.1) 84 r62.1) 87 w63) 88 w64) 13 w63) 14 w64) 89 w64) 92 (tm 9)) 93 w60) 94 w72) 2 (.sv (.bool false))), r62.2⟩)) else
  B.b (bin .add (.int .i64) (tm 6) (.sv (.int .i64 1))) fun w74 =>
  B.b (bin .add (.int .i64) (tm 8) (.sv (.int .i64 1))) fun w75 =>
  B.b (bin .add (.int .i64) (tm 8) (.sv (.int .i64 1))) fun w76 =>
  some (.normal, ⟨(upd (upd (upd (upd (upd (upd (upd (upd (upd (upd (upd (upd (upd (upd (upd (upd (upd (upd (upd (upd (upd (upd (upd (upd (upd (upd (upd (upd (upd (upd (upd (upd (upd (upd (upd (upd (upd (upd tm 68 (tm 6)) 69 w44) 70 (tm 6)) 71 w46) 72 w47) 73 w48) 74 w49) 75 w51) 76 w52) 77 (tm 6)) 78 w53) 79 w54) 80 w55) 11 r56.1) 81 w58) 82 r59.1) 83 w60) 12 w60) 85 w61) 86 r62.1) 84 r62.1) 87 w63) 88 w64) 13 w63) 14 w64) 89 w64) 92 (tm 9)) 93 w60) 94 w72) 95 (tm 6)) 96 w74) 6 w74) 97 (tm 8)) 98 w75) 7 w75) 36 (tm 8)) 37 w76) 8 w76), r62.2⟩)) else
  B.b (bin .add (.int .i64) (tm 6) (.sv (.int .i64 1))) fun w77 =>
  B.b (bin .add (.int .i64) (tm 8) (.sv (.int .i64 1))) fun w78 =>
  B.b (bin .add (.int .i64) (tm 8) (.sv (.int .i64 1))) fun w79 =>
  some (.normal, ⟨(upd (upd (upd (upd (upd (upd (upd (upd (upd (upd (upd tm 68 (tm 6)) 69 w44) 95 (tm 6)) 96 w77) 6 w77) 97 (tm 8)) 98 w78) 7 w78) 36 (tm 8)) 37 w79) 8 w79), h⟩)

noncomputable def f13_k1 (B : BindS) (C : CallF) (L : LoopF) (tm : Tm) (h : Heap) : Option (Out × St) :=
  B.b (bin .add (.int .i64) (tm 8) (.sv (.int .i64 1))) fun w80 =>
  some (.normal, ⟨(upd (upd (upd tm 36 (tm 8)) 37 w80) 8 w80), h⟩)

noncomputable def f13_b0 (B : BindS) (C : CallF) (L : LoopF) (tm : Tm) (h : Heap) : Option (Out × St) :=
  B.b (ln .str (tm 4)) fun w16 =>
  B.b (bin .leq (.int .i64) (tm 8) w16) fun w17 =>
  B.b (asB w17) fun t18 =>
  if t18 then (B.b (ln .str (tm 4)) fun w19 =>
  B.b (bin .lss (.int .i64) (tm 8) w19) fun w20 =>
  B.b (gO (some (w20, true)) (some (tm 4)) .dead) fun w21 =>
  B.b (gO (some (w20, true)) (some (tm 8)) .dead) fun w22 =>
  B.b (gO (some (w20, true)) (ix .str w21 w22) .dead) fun w23 =>
  B.b (gO (some (w20, true)) (bin .neq (.int .u8) w23 (.sv (.int .u8 10))) .dead) fun w24 =>
  B.b ((asB w20).bind fun t => some (if t then w24 else (.sv (.bool false)))) fun w25 =>
  B.b (asB w25) fun t26 =>
  if t26 then (B.b (bin .add (.int .i64) (tm 8) (.sv (.int .i64 1))) fun w27 =>
  some (.normal, ⟨(upd (upd (upd (upd (upd (upd (upd (upd (upd (upd (upd (upd (upd (upd (upd (upd (upd tm 32 (tm 8)) 33 (tm 4)) 34 w16) 35 w17) 38 (tm 8)) 39 (tm 4)) 40 w19) 41 w20) 42 w20) 43 w21) 44 w22) 45 w23) 46 w24) 47 w25) 36 (tm 8)) 37 w27) 8 w27), h⟩)) else
  B.b (L (fun s => f13_b1 B C L s.tm s.h) ⟨(upd (upd (upd (upd (upd (upd (upd (upd (upd (upd (upd (upd (upd (upd (upd (upd (upd tm 32 (tm 8)) 33 (tm 4)) 34 w16) 35 w17) 38 (tm 8)) 39 (tm 4)) 40 w19) 41 w20) 42 w20) 43 w21) 44 w22) 45 w23) 46 w24) 47 w25) 9 (.sv (.int .i64 0))) 48 (tm 7)) 10 (tm 7)), h⟩) fun r43 => (outBlock 2 (outSeq (f13_k0 B C L) (outBlock 1 (outSeq (f13_k1 B C L) outK)))) r43.1 r43.2.tm r43.2.h) else
  some (.exit 0, ⟨(upd (upd (upd (upd tm 32 (tm 8)) 33 (tm 4)) 34 w16) 35 w17), h⟩)

noncomputable def f13_k2 (B : BindS) (C : CallF) (L : LoopF) (tm : Tm) (h : Heap) : Option (AV × Heap) :=
  B.b (gO (some ((tm 3), true)) (some (tm 6)) .dead) fun w82 =>
  B.b (gO (some ((tm 3), true)) (fa 3 (tm 1)) .dead) fun w83 =>
  B.b (gO (some ((tm 3), true)) (ld 1 false w83 h) .dead) fun w84 =>
  B.b (gO (some ((tm 3), true)) (ln (.slice 47 5 40 false) w84) .dead) fun w85 =>
  B.b (gO (some ((tm 3), true)) (bin .add (.int .i64) w85 (.sv (.int .i64 1))) .dead) fun w86 =>
  B.b (gO (some ((tm 3), true)) (bin .eql (.int .i64) w82 w86) .dead) fun w87 =>
  B.b ((asB (tm 3)).bind fun t => some (if t then w87 else (.sv (.bool false)))) fun w88 =>
  some (w88, h)

noncomputable def f13_sh (B : BindS) (C : CallF) (L : LoopF) (v0 : AV) (h : Heap) : Option (AV × Heap) :=
  B.b (boxA 4 v0 h) fun r1 =>
  B.b (C 32 [] r1.2) fun r2 =>
  B.b (ld 4 true r1.1 r2.2) fun w3 =>
  B.b (C 36 [w3] r2.2) fun r4 =>
  B.b (un .not r4.1) fun w5 =>
  B.b (asB w5) fun t6 =>
  if t6 then (some (r2.1, r4.2)) else
  B.b (ld 4 true r1.1 r4.2) fun w7 =>
  B.b (C 62 [w7] r4.2) fun r8 =>
  B.b (ex 0 r8.1) fun w9 =>
  B.b (ex 1 r8.1) fun w10 =>
  B.b (bin .neq (.int .i64) w10 (.sv (.int .i64 0))) fun w11 =>
  B.b (asB w11) fun t12 =>
  if t12 then (B.b (gO (some (r2.1, true)) (some w9) .dead) fun w13 =>
  B.b (gO (some (r2.1, true)) (bin .eql .str w13 (.sv (.str []))) .dead) fun w14 =>
  B.b ((asB r2.1).bind fun t => some (if t then w14 else (.sv (.bool false)))) fun w15 =>
  some (w15, r8.2)) else
  B.b (L (fun s => f13_b0 B C L s.tm s.h) ⟨(upd (upd (upd (upd (upd (upd (upd (upd (upd (upd (upd (upd (upd (upd (upd (upd (upd (upd (upd (init [v0]) 1 r1.1) 2 (.sv (.bool false))) 15 r2.1) 3 r2.1) 16 w3) 17 r4.1) 18 w5) 21 w7) 22 r8.1) 20 r8.1) 23 w9) 24 w10) 4 w9) 5 w10) 25 w10) 26 w11) 6 (.sv (.int .i64 0))) 7 (.sv (.int .i64 0))) 8 (.sv (.int .i64 0))), r8.2⟩) fun r81 => (outBlock 0 (outSeq (f13_k2 B C L) (endK B tab [.tmp 2]))) r81.1 r81.2.tm r81.2.h
theorem f13_eq (B : BindS) (C : CallF) (L : LoopF) (v0 : AV) (h : Heap) : evFunc B tab shared C L noD Try.f13 [v0] h = f13_sh B C L v0 h := by kernel_rfl

/-! purfle/purflelaw14.CodeTells -/

noncomputable def f17_sh (B : BindS) (C : CallF) (L : LoopF) (v0 : AV) (v1 : AV) (v2 : AV) (v3 : AV) (v4 : AV) (h : Heap) : Option (AV × Heap) :=
  B.b (boxA 4 v0 h) fun r1 =>
  B.b (boxA 4 v1 r1.2) fun r2 =>
  B.b (boxA 5 v2 r2.2) fun r3 =>
  B.b (C 32 [] r3.2) fun r4 =>
  B.b (ld 4 true r1.1 r4.2) fun w5 =>
  B.b (C 36 [w5] r4.2) fun r6 =>
  B.b (un .not r6.1) fun w7 =>
  B.b (gO (some (w7, false)) (ld 4 true r2.1 r6.2) .dead) fun w8 =>
  B.b (gO (some (w7, false)) (C 36 [w8] r6.2) (.dead, r6.2)) fun r9 =>
  B.b (gO (some (w7, false)) (un .not r9.1) .dead) fun w10 =>
  B.b ((asB w7).bind fun t => some (if t then (.sv (.bool true)) else w10)) fun w11 =>
  B.b (gO (some (w11, false)) (some v4) .dead) fun w12 =>
  B.b (gO (some (w11, false)) (bin .gtr (.int .i64) w12 (.sv (.int .i64 300))) .dead) fun w13 =>
  B.b (gO (some (w11, false)) (some w13) .dead) fun w14 =>
  B.b (gO (some (w14, true)) (some v4) .dead) fun w15 =>
  B.b (gO (some (w14, true)) (bin .leq (.int .i64) w15 (.sv (.int .i64 4096))) .dead) fun w16 =>
  B.b (gO (some (w11, false)) ((asB w14).bind fun t => some (if t then w16 else (.sv (.bool false)))) .dead) fun w17 =>
  B.b ((asB w11).bind fun t => some (if t then (.sv (.bool true)) else w17)) fun w18 =>
  B.b (asB w18) fun t19 =>
  if t19 then (some (r4.1, r9.2)) else
  B.b (ld 4 true r1.1 r9.2) fun w20 =>
  B.b (C 62 [w20] r9.2) fun r21 =>
  B.b (ex 0 r21.1) fun w22 =>
  B.b (ex 1 r21.1) fun w23 =>
  B.b (ld 4 true r1.1 r21.2) fun w24 =>
  B.b (C 73 [w24] r21.2) fun r25 =>
  B.b (ex 0 r25.1) fun w26 =>
  B.b (ex 1 r25.1) fun w27 =>
  B.b (ld 4 true r1.1 r25.2) fun w28 =>
  B.b (C 41 [w28, v4] r25.2) fun r29 =>
  B.b (ex 0 r29.1) fun w30 =>
  B.b (ex 1 r29.1) fun w31 =>
  B.b (alloc [.sv (.int .i64 0), .sv (.int .i64 0), .sv (.int .i64 0), .nil] r29.2) fun r32 =>
  B.b (storeA 4 r32.1 w30 r32.2) fun r33 =>
  B.b (ld 4 true r1.1 r33.2) fun w34 =>
  B.b (C 74 [w34, v4] r33.2) fun r35 =>
  B.b (ex 0 r35.1) fun w36 =>
  B.b (ex 1 r35.1) fun w37 =>
  B.b (alloc [.sv (.int .i64 0), .sv (.int .i64 0), .sv (.int .i64 0), .nil] r35.2) fun r38 =>
  B.b (storeA 4 r38.1 w36 r38.2) fun r39 =>
  B.b (ld 5 true r3.1 r39.2) fun w40 =>
  B.b (C 39 [w40] r39.2) fun r41 =>
  B.b (ex 0 r41.1) fun w42 =>
  B.b (ex 1 r41.1) fun w43 =>
  B.b (ld 5 true r3.1 r41.2) fun w44 =>
  B.b (C 75 [w44] r41.2) fun r45 =>
  B.b (ex 0 r45.1) fun w46 =>
  B.b (ex 1 r45.1) fun w47 =>
  B.b (gO (some (r4.1, true)) (some w22) .dead) fun w48 =>
  B.b (gO (some (r4.1, true)) (some w26) .dead) fun w49 =>
  B.b (gO (some (r4.1, true)) (bin .eql .str w48 w49) .dead) fun w50 =>
  B.b ((asB r4.1).bind fun t => some (if t then w50 else (.sv (.bool false)))) fun w51 =>
  B.b (gO (some (w51, true)) (some w23) .dead) fun w52 =>
  B.b (gO (some (w51, true)) (some w27) .dead) fun w53 =>
  B.b (gO (some (w51, true)) (bin .eql (.int .i64) w52 w53) .dead) fun w54 =>
  B.b ((asB w51).bind fun t => some (if t then w54 else (.sv (.bool false)))) fun w55 =>
  B.b (gO (some (w55, true)) (ld 4 true r32.1 r45.2) .dead) fun w56 =>
  B.b (gO (some (w55, true)) (ld 4 true r38.1 r45.2) .dead) fun w57 =>
  B.b (gO (some (w55, true)) (C 35 [w56, w57] []) (.dead, [])) fun r58 =>
  B.b ((asB w55).bind fun t => some (if t then r58.1 else (.sv (.bool false)))) fun w59 =>
  B.b (gO (some (w59, true)) (some w31) .dead) fun w60 =>
  B.b (gO (some (w59, true)) (some w37) .dead) fun w61 =>
  B.b (gO (some (w59, true)) (bin .eql (.int .i64) w60 w61) .dead) fun w62 =>
  B.b ((asB w59).bind fun t => some (if t then w62 else (.sv (.bool false)))) fun w63 =>
  B.b (gO (some (w63, true)) (some w42) .dead) fun w64 =>
  B.b (gO (some (w63, true)) (some w46) .dead) fun w65 =>
  B.b (gO (some (w63, true)) (bin .eql (.int .i64) w64 w65) .dead) fun w66 =>
  B.b ((asB w63).bind fun t => some (if t then w66 else (.sv (.bool false)))) fun w67 =>
  B.b (gO (some (w67, true)) (some w43) .dead) fun w68 =>
  B.b (gO (some (w67, true)) (some w47) .dead) fun w69 =>
  B.b (gO (some (w67, true)) (bin .eql .bool w68 w69) .dead) fun w70 =>
  B.b ((asB w67).bind fun t => some (if t then w70 else (.sv (.bool false)))) fun w71 =>
  B.b (gO (some (w71, true)) (ld 5 true r3.1 r45.2) .dead) fun w72 =>
  B.b (gO (some (w71, true)) (C 38 [w72] r45.2) (.dead, r45.2)) fun r73 =>
  B.b (gO (some (w71, true)) (ld 5 true r3.1 r73.2) .dead) fun w74 =>
  gPast (some (w71, true)) 5 true r3.1 w74 [r45.2] (B.b (gO (some (w71, true)) (C 76 [w74] []) (.dead, [])) fun r75 =>
  B.b (gO (some (w71, true)) (C 43 [r73.1, r75.1] []) (.dead, [])) fun r76 =>
  B.b ((asB w71).bind fun t => some (if t then r76.1 else (.sv (.bool false)))) fun w77 =>
  B.b (gO (some (w77, true)) (ld 5 true r3.1 r73.2) .dead) fun w78 =>
  B.b (gO (some (w77, true)) (some v3) .dead) fun w79 =>
  B.b (gO (some (w77, true)) (C 40 [w78, w79] []) (.dead, [])) fun r80 =>
  B.b (gO (some (w77, true)) (ld 5 true r3.1 r73.2) .dead) fun w81 =>
  B.b (gO (some (w77, true)) (some v3) .dead) fun w82 =>
  B.b (gO (some (w77, true)) (C 77 [w81, w82] []) (.dead, [])) fun r83 =>
  B.b (gO (some (w77, true)) (C 43 [r80.1, r83.1] []) (.dead, [])) fun r84 =>
  B.b ((asB w77).bind fun t => some (if t then r84.1 else (.sv (.bool false)))) fun w85 =>
  B.b (gO (some (w85, true)) (ld 4 true r1.1 r73.2) .dead) fun w86 =>
  B.b (gO (some (w85, true)) (C 37 [w86] []) (.dead, [])) fun r87 =>
  B.b (gO (some (w85, true)) (ld 4 true r1.1 r73.2) .dead) fun w88 =>
  B.b (gO (some (w85, true)) (C 78 [w88] []) (.dead, [])) fun r89 =>
  B.b (gO (some (w85, true)) (bin .eql (.int .i64) r87.1 r89.1) .dead) fun w90 =>
  B.b ((asB w85).bind fun t => some (if t then w90 else (.sv (.bool false)))) fun w91 =>
  B.b (gO (some (w91, true)) (ld 4 true r1.1 r73.2) .dead) fun w92 =>
  B.b (gO (some (w91, true)) (ld 4 true r2.1 r73.2) .dead) fun w93 =>
  B.b (gO (some (w91, true)) (C 42 [w92, w93] []) (.dead, [])) fun r94 =>
  B.b (gO (some (w91, true)) (ld 4 true r1.1 r73.2) .dead) fun w95 =>
  B.b (gO (some (w91, true)) (ld 4 true r2.1 r73.2) .dead) fun w96 =>
  B.b (gO (some (w91, true)) (C 35 [w95, w96] []) (.dead, [])) fun r97 =>
  B.b (gO (some (w91, true)) (bin .eql .bool r94.1 r97.1) .dead) fun w98 =>
  B.b ((asB w91).bind fun t => some (if t then w98 else (.sv (.bool false)))) fun w99 =>
  some (w99, r73.2))
theorem f17_eq (B : BindS) (C : CallF) (L : LoopF) (v0 : AV) (v1 : AV) (v2 : AV) (v3 : AV) (v4 : AV) (h : Heap) : evFunc B tab shared C L noD Try.f17 [v0, v1, v2, v3, v4] h = f17_sh B C L v0 v1 v2 v3 v4 h := by kernel_rfl

/-! purfle/purflelaw14.live -/

noncomputable def f32_sh (B : BindS) (C : CallF) (L : LoopF) (h : Heap) : Option (AV × Heap) :=
  B.b (C 33 [(.sv (.str [99, 111, 100, 101, 32, 49, 32, 48, 32, 48, 10, 104, 97, 108, 116]))] h) fun r1 =>
  B.b (ex 0 r1.1) fun w2 =>
  B.b (ex 1 r1.1) fun w3 =>
  B.b (ex 2 r1.1) fun w4 =>
  B.b (alloc [.sv (.int .i64 0), .sv (.int .i64 0), .sv (.int .i64 0), .nil] r1.2) fun r5 =>
  B.b (storeA 4 r5.1 w2 r5.2) fun r6 =>
  B.b (bin .eql (.int .i64) w3 (.sv (.int .i64 2))) fun w7 =>
  B.b (gO (some (w7, true)) (some w4) .dead) fun w8 =>
  B.b (gO (some (w7, true)) (bin .eql (.int .i64) w8 (.sv (.int .i64 0))) .dead) fun w9 =>
  B.b ((asB w7).bind fun t => some (if t then w9 else (.sv (.bool false)))) fun w10 =>
  B.b (gO (some (w10, true)) (fa 0 r5.1) .dead) fun w11 =>
  B.b (gO (some (w10, true)) (ld 1 false w11 r6.2) .dead) fun w12 =>
  B.b (gO (some (w10, true)) (bin .eql (.int .i64) w12 (.sv (.int .i64 1))) .dead) fun w13 =>
  B.b ((asB w10).bind fun t => some (if t then w13 else (.sv (.bool false)))) fun w14 =>
  B.b (gO (some (w14, true)) (fa 3 r5.1) .dead) fun w15 =>
  B.b (gO (some (w14, true)) (ld 1 false w15 r6.2) .dead) fun w16 =>
  B.b (gO (some (w14, true)) (ln (.slice 47 5 40 false) w16) .dead) fun w17 =>
  B.b (gO (some (w14, true)) (bin .eql (.int .i64) w17 (.sv (.int .i64 1))) .dead) fun w18 =>
  B.b ((asB w14).bind fun t => some (if t then w18 else (.sv (.bool false)))) fun w19 =>
  B.b (gO (some (w19, true)) (ld 4 true r5.1 r6.2) .dead) fun w20 =>
  B.b (gO (some (w19, true)) (C 37 [w20] r6.2) (.dead, r6.2)) fun r21 =>
  B.b (gO (some (w19, true)) (bin .eql (.int .i64) r21.1 (.sv (.int .i64 0))) .dead) fun w22 =>
  B.b ((asB w19).bind fun t => some (if t then w22 else (.sv (.bool false)))) fun w23 =>
  some (w23, r21.2)
theorem f32_eq (B : BindS) (C : CallF) (L : LoopF) (h : Heap) : evFunc B tab shared C L noD Try.f32 [] h = f32_sh B C L h := by kernel_rfl

end Go.Proofs.Ytmhamnnfcmkcfaa
