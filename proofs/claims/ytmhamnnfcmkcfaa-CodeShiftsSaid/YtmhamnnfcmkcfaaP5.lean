/- The lexer's functions come to the plain ones: the whole cut. -/
import Derived.Test.YtmhamnnfcmkcfaaP4
import Derived.Test.YtmhamnnfcmkcfaaP1
import Derived.Test.YtmhamnnfcmkcfaaP3
set_option maxRecDepth 100000
namespace Go.Proofs.Ytmhamnnfcmkcfaa
open Go.RowKit

section
variable {J : Option (List AV → Option AV)}

theorem idx_lt : ∀ (l : List UInt8) (c : UInt8), Lib.indexByte l c < l.length ∧ -1 ≤ Lib.indexByte l c
  | [], c => by simp [Lib.indexByte]
  | b :: l, c => by
    obtain ⟨h1, h2⟩ := idx_lt l c
    simp only [Lib.indexByte, List.length_cons]
    split
    · omega
    · split <;> omega

def CutInv (s : List UInt8) (RES : Except Nat (List Tok)) (n : Nat) (st : St) : Prop :=
  ∃ (f i : Nat) (ends : Bool) (out : List Tok), st.tm 0 = Sr s ∧ st.tm 7 = I i ∧ i ≤ s.length ∧ st.tm 6 = Bo ends ∧ IsRow st.h 3 (st.tm 5) (out.map Tok.sv) ∧ out.length ≤ 2 * i ∧ cutF f (s.drop i) i ends out = RES ∧ s.length - i ≤ f ∧ n = s.length - i

def CutPost (s : List UInt8) (RES : Except Nat (List Tok)) (r : Out × St) : Prop :=
  match RES with
  | .ok out => r.1 = .exit 0 ∧ r.2.tm 0 = Sr s ∧ IsRow r.2.h 3 (r.2.tm 5) (out.map Tok.sv) ∧ out.length ≤ 2 * s.length
  | .error i => r.1 = .ret ∧ r.2.tm 2 = .nil ∧ r.2.tm 3 = I i ∧ r.2.tm 4 = I 6

theorem tokLen_le {s : List UInt8} (h : s ≠ []) : 1 ≤ tokLen s ∧ tokLen s ≤ s.length := by
  cases s with
  | nil => exact absurd rfl h
  | cons c r =>
    unfold tokLen
    split
    · rename_i q
      simp only [headKind] at q
      have h1 : alnum c = true := by simpa [alnum] using q
      have := runS_le (c :: r)
      rw [runS_cons, if_pos h1] at this ⊢
      omega
    · simp

/-- One token more, or none. -/
theorem l25_tok {s : List UInt8} (hs : s.length ≤ 65536) {RES : Except Nat (List Tok)} {tm : Tm} {h : Heap} {out : List Tok} {i f : Nat} {ends : Bool} (e0 : tm 0 = Sr s) (e7 : tm 7 = I i) (e8 : tm 8 = I (tokLen (s.drop i))) (e6 : tm 6 = Bo ends) (hr : IsRow h 3 (tm 5) (out.map Tok.sv))
    (hi : i < s.length) (ho : out.length ≤ 2 * i) (k5 : ¬ kindS s[i] = 5) (k4 : ¬ kindS s[i] = 4) (k6 : ¬ kindS s[i] = 6) (hRES : cutF f (s.drop i) i ends out = RES) (hf : s.length - i ≤ f) :
    Ok (f25_k0 optB (Cw J) loopW tm h) (Nxt (CutInv s RES) (CutPost s RES) (s.length - i)) := by
  have hne : s.drop i ≠ [] := fun e => by have := congrArg List.length e; simp at this; omega
  obtain ⟨l1, l2⟩ := tokLen_le hne
  rw [List.length_drop] at l2
  refine (l25_k0 hs e0 e7 e8 e6 rfl hr (by omega) (by omega)).mono ?_
  rintro ⟨o, st⟩ hk
  obtain ⟨f, rfl⟩ : ∃ g, f = g + 1 := ⟨f - 1, by omega⟩
  rw [drop_at hi] at hRES
  simp only [cutF, k5, k4, k6, if_false] at hRES
  rw [← drop_at hi] at hRES
  generalize tokLen (s.drop i) = n at *
  split at hk
  · rename_i hb
    obtain ⟨q1, q2, q3, q4, q5⟩ := hk
    simp only at q1 q2 q3 q4 q5
    subst q1
    rw [if_pos hb, List.drop_drop] at hRES
    refine nxt_n (s.length - (i + n)) (by omega) ⟨f, i + n, false, _, q2, q4, by omega, q3, q5, ?_, hRES, by omega, rfl⟩
    have : ((if ends = true then out ++ [lineT] else out) ++ [(readS ((s.drop i).take n)).1]).length ≤ out.length + 2 := by
      cases ends <;> simp
    omega
  · rename_i hb
    obtain ⟨q1, q2, q3, q4⟩ := hk
    simp only at q1 q2 q3 q4
    subst q1
    rw [if_neg hb] at hRES
    subst hRES
    exact nxt_r ⟨rfl, q2, q3, q4⟩

theorem l25_b0 {s : List UInt8} (hs : s.length ≤ 65536) {RES : Except Nat (List Tok)} (n : Nat) (st : St) (hI : CutInv s RES n st) : Ok (f25_b0 optB (Cw J) loopW st.tm st.h) (Nxt (CutInv s RES) (CutPost s RES) n) := by
  obtain ⟨tm, h⟩ := st
  obtain ⟨f, i, ends, out, e0, e7, hi, e6, hr, ho, hRES, hf, rfl⟩ := hI
  simp only at e0 e7 e6 hr ⊢
  by_cases hlt : i < s.length
  · have hlt' : (i : Int) < s.length := by omega
    have hix : ix .str (Sr s) (I i) = some (U8 s[i]) := ix_str rfl (List.getElem?_eq_getElem hlt)
    have hln := hr.len 35 32 false
    have w1 : IntKind.i64.wrap ((i : Int) + 1) = ((i + 1 : Nat) : Int) := by rw [wrapI (by omega) (by omega)]; omega
    have hsl : ∀ h, sl .str (Sr s) (some (I i)) none h = some (Sr (s.drop i)) := fun h => sl_str1 hi h
    have h88 : ∀ h, Cw J 88 [Sr (s.drop i)] h = some (I (runS (s.drop i)), h) := fun h => c88 _ (by simp; omega) h
    have h87 : ∀ h, Cw J 87 [Sr (s.drop i), .sv (.int .u8 10)] h = some (I (Lib.indexByte (s.drop i) 10), h) := fun h => c87 (s.drop i) 10 h
    have hdr := drop_at hlt
    by_cases k5 : kindS s[i] = 5
    · simp -implicitDefEqProofs only [f25_b0, optB_b, e0, e7, hlt', ln_str, Option.bind_some, bin_lss, decide_true, asB_bo, if_true, hix, c86, k5, bin_eql, hln, bin_gtr, bin_add, w1, ok_some]
      obtain ⟨f, rfl⟩ : ∃ g, f = g + 1 := ⟨f - 1, by omega⟩
      rw [hdr] at hRES
      simp only [cutF, k5, if_true] at hRES
      refine nxt_n (s.length - (i + 1)) (by omega) ⟨f, i + 1, decide (0 < out.length), out, ?_, ?_, by omega, ?_, ?_, by omega, hRES, by omega, rfl⟩
      · simp [upd, e0]
      · simp [upd]
      · simp [upd]
      · simpa [upd] using hr
    by_cases k4 : kindS s[i] = 4
    · simp -implicitDefEqProofs only [f25_b0, optB_b, e0, e7, hlt', ln_str, Option.bind_some, bin_lss, decide_true, asB_bo, if_true, hix, c86, k4, bin_eql, show ¬ ((4 : Int) = 5) by decide, decide_false, Bool.false_eq_true, if_false, bin_add, w1, ok_some]
      obtain ⟨f, rfl⟩ : ∃ g, f = g + 1 := ⟨f - 1, by omega⟩
      rw [hdr] at hRES
      simp only [cutF, k4, show ¬ ((4 : Int) = 5) by decide, if_true, if_false] at hRES
      refine nxt_n (s.length - (i + 1)) (by omega) ⟨f, i + 1, ends, out, ?_, ?_, by omega, ?_, ?_, by omega, hRES, by omega, rfl⟩
      · simp [upd, e0]
      · simp [upd]
      · simp [upd, e6]
      · simpa [upd] using hr
    by_cases k6 : kindS s[i] = 6
    · obtain ⟨x1, x2⟩ := idx_lt (s.drop i) 10
      rw [List.length_drop] at x1
      by_cases hneg : Lib.indexByte (s.drop i) 10 < 0
      · simp -implicitDefEqProofs only [f25_b0, optB_b, e0, e7, hlt', ln_str, Option.bind_some, bin_lss, decide_true, asB_bo, if_true, hix, c86, k6, bin_eql, show ¬ ((6 : Int) = 5) by decide, show ¬ ((6 : Int) = 4) by decide, decide_false, Bool.false_eq_true, if_false, hsl, h87, hneg, ok_some]
        obtain ⟨f, rfl⟩ : ∃ g, f = g + 1 := ⟨f - 1, by omega⟩
        rw [hdr] at hRES hneg
        simp only [cutF, k6, show ¬ ((6 : Int) = 5) by decide, show ¬ ((6 : Int) = 4) by decide, if_true, if_false, hneg] at hRES
        subst hRES
        refine nxt_e ⟨rfl, ?_, ?_, by omega⟩
        · simp [upd, e0]
        · simpa [upd] using hr
      · generalize hj : Lib.indexByte (s.drop i) 10 = j at *
        have hj0 : 0 < j := by
          rcases Int.lt_or_eq_of_le (Int.not_lt.1 hneg) with q | q
          · exact q
          · exfalso
            rw [hdr] at hj
            simp only [Lib.indexByte] at hj
            split at hj
            · rename_i q2
              have h10 : s[i] = 10 := by simpa using q2
              rw [h10] at k6
              revert k6
              decide
            · have q4 := (idx_lt (s.drop (i + 1)) 10).2
              split at hj
              · omega
              · rename_i q3
                have q3 : ¬ Lib.indexByte (s.drop (i + 1)) 10 = -1 := by simpa using q3
                omega
        obtain ⟨m, rfl⟩ : ∃ m : Nat, j = m := ⟨j.toNat, by omega⟩
        have w2 : IntKind.i64.wrap ((i : Int) + m) = ((i + m : Nat) : Int) := by rw [wrapI (by omega) (by omega)]; omega
        simp -implicitDefEqProofs only [f25_b0, optB_b, e0, e7, hlt', ln_str, Option.bind_some, bin_lss, decide_true, asB_bo, if_true, hix, c86, k6, bin_eql, show ¬ ((6 : Int) = 5) by decide, show ¬ ((6 : Int) = 4) by decide, decide_false, Bool.false_eq_true, if_false, hsl, h87, hneg, bin_add, w2, ok_some]
        obtain ⟨f, rfl⟩ : ∃ g, f = g + 1 := ⟨f - 1, by omega⟩
        rw [hdr] at hRES
        simp only [cutF, k6, show ¬ ((6 : Int) = 5) by decide, show ¬ ((6 : Int) = 4) by decide, if_true, if_false] at hRES
        rw [← hdr, hj, if_neg hneg, List.drop_drop, Int.toNat_natCast] at hRES
        refine nxt_n (s.length - (i + m)) (by omega) ⟨f, i + m, ends, out, ?_, ?_, by omega, ?_, ?_, by omega, hRES, by omega, rfl⟩
        · simp [upd, e0]
        · simp [upd]
        · simp [upd, e6]
        · simpa [upd] using hr
    have hhk : headKind (s.drop i) = kindS s[i] := by rw [hdr]; rfl
    by_cases k1 : kindS s[i] = 1
    · have htl : tokLen (s.drop i) = runS (s.drop i) := if_pos (.inl (by rw [hhk, k1]))
      simp -implicitDefEqProofs only [f25_b0, optB_b, e0, e7, hlt', ln_str, Option.bind_some, bin_lss, decide_true, asB_bo, if_true, hix, c86, k1, bin_eql, show ¬ ((1 : Int) = 5) by decide, show ¬ ((1 : Int) = 4) by decide, show ¬ ((1 : Int) = 6) by decide, decide_false, Bool.false_eq_true, if_false, hsl, h88]
      refine l25_tok hs ?_ ?_ ?_ ?_ ?_ hlt ho k5 k4 k6 hRES hf
      · simp [upd, e0]
      · simp [upd, e7]
      · simp [upd, htl]
      · simp [upd, e6]
      · simpa [upd] using hr
    by_cases k2 : kindS s[i] = 2
    · have htl : tokLen (s.drop i) = runS (s.drop i) := if_pos (.inr (by rw [hhk, k2]))
      simp -implicitDefEqProofs only [f25_b0, optB_b, e0, e7, hlt', ln_str, Option.bind_some, bin_lss, decide_true, asB_bo, if_true, hix, c86, k2, bin_eql, show ¬ ((2 : Int) = 5) by decide, show ¬ ((2 : Int) = 4) by decide, show ¬ ((2 : Int) = 6) by decide, show ¬ ((2 : Int) = 1) by decide, decide_false, Bool.false_eq_true, if_false, hsl, h88]
      refine l25_tok hs ?_ ?_ ?_ ?_ ?_ hlt ho k5 k4 k6 hRES hf
      · simp [upd, e0]
      · simp [upd, e7]
      · simp [upd, htl]
      · simp [upd, e6]
      · simpa [upd] using hr
    · have htl : tokLen (s.drop i) = 1 := if_neg (by rw [hhk]; omega)
      simp -implicitDefEqProofs only [f25_b0, optB_b, e0, e7, hlt', ln_str, Option.bind_some, bin_lss, decide_true, asB_bo, if_true, hix, c86, k5, k4, k6, k1, k2, bin_eql, decide_false, Bool.false_eq_true, if_false]
      refine l25_tok hs ?_ ?_ ?_ ?_ ?_ hlt ho k5 k4 k6 hRES hf
      · simp [upd, e0]
      · simp [upd, e7]
      · simp [upd, htl]
      · simp [upd, e6]
      · simpa [upd] using hr
  · have hlt' : ¬ (i : Int) < s.length := by omega
    have : i = s.length := by omega
    simp -implicitDefEqProofs only [f25_b0, optB_b, e0, e7, hlt', ln_str, Option.bind_some, bin_lss, decide_false, asB_bo, Bool.false_eq_true, if_false, ok_some]
    have hd : s.drop i = [] := by rw [this]; exact List.drop_length ..
    rw [hd] at hRES
    have hR : RES = .ok out := by rw [← hRES]; cases f <;> rfl
    subst hR
    refine nxt_e ⟨rfl, ?_, ?_, by omega⟩
    · simp [upd, e0]
    · simpa [upd] using hr

theorem cutF_len : ∀ (f : Nat) (s : List UInt8) (i : Nat) (e : Bool) (out res : List Tok), cutF f s i e out = .ok res → res.length ≤ out.length + 2 * s.length := by
  intro f
  induction f with
  | zero => intro s i e out res h; cases h; omega
  | succ f ih =>
    intro s i e out res h
    cases s with
    | nil => cases h; omega
    | cons c r =>
      simp only [cutF] at h
      obtain ⟨l1, l2⟩ := tokLen_le (s := c :: r) (by simp)
      split at h
      · have := ih _ _ _ _ _ h; simp at this ⊢; omega
      · split at h
        · have := ih _ _ _ _ _ h; simp at this ⊢; omega
        · split at h
          · split at h
            · cases h; omega
            · have := ih _ _ _ _ _ h; simp only [List.length_drop] at this; omega
          · split at h
            · have := ih _ _ _ _ _ h
              simp only [List.length_drop] at this
              have h2 : ((if e = true then out ++ [lineT] else out) ++ [(readS ((c :: r).take (tokLen (c :: r)))).1]).length ≤ out.length + 2 := by cases e <;> simp
              omega
            · cases h

theorem c25 (s : List UInt8) (hs : s.length ≤ 9223372036854775806) (h : Heap) : Cw J 25 [Sr s] h = some (.tuple [.sv (toksSV (cutS s).1), I (cutS s).2.1, I (cutS s).2.2], h) := by
  by_cases hbig : 65536 < s.length
  · have hbig' : (65536 : Int) < s.length := by omega
    refine call_sv Try.func25 (by kernel_rfl) (by rfl) (by rfl) (by rfl) (r := .tuple [.nil, I 0, I 2]) (hr := []) ?_ ?_
    · rw [f25_eq]
      simp -implicitDefEqProofs [f25_sh, hbig']
    · rw [cutS, if_pos hbig]; rfl
  · have hbig' : ¬ (65536 : Int) < s.length := by omega
    have key : Ok (evFunc optB tab shared (Cw J) loopW noD Try.f25 [Sr s] []) fun r => frzR frzDepth r.2 r.1 = some (.tuple [.sv (toksSV (cutS s).1), I (cutS s).2.1, I (cutS s).2.2]) := by
      rw [f25_eq]
      simp -implicitDefEqProofs only [f25_sh, optB_b, ln_str, Option.bind_some, bin_gtr, hbig', decide_false, asB_bo, Bool.false_eq_true, if_false]
      rw [cutS, if_neg hbig]
      refine loop_ok (CutInv s (cutF s.length s 0 false [])) (CutPost s (cutF s.length s 0 false [])) (n := s.length) ⟨s.length, 0, false, [], ?_, ?_, by omega, ?_, ?_, by simp, rfl, by omega, by omega⟩ (fun n st hI => l25_b0 (by omega) n st hI) ?_
      · simp [upd]
      · simp [upd]
      · simp [upd]
      · simpa [upd] using IsRow.nil [] 3
      · rintro ⟨o, st⟩ hp
        generalize hres : cutF s.length s 0 false [] = res at hp
        cases res with
        | error i =>
          obtain ⟨q1, q2, q3, q4⟩ := hp
          simp only at q1 q2 q3 q4 ⊢
          subst q1
          simp -implicitDefEqProofs only [outBlock_ret, outSeq_ret, endK_ret, resK_tmp, resK_nil, q2, q3, q4, tup_two, ok_some]
          rfl
        | ok out =>
          obtain ⟨q1, q2, q3, q4⟩ := hp
          simp only at q1 q2 q3 q4 ⊢
          subst q1
          have hln := q3.len 35 32 false
          rw [List.length_map] at hln
          obtain ⟨ids, hfz⟩ := frz_row q3 (by decide)
          by_cases hm : 4096 < out.length
          · have hm' : (4096 : Int) < out.length := by omega
            simp -implicitDefEqProofs only [outBlock_exit, if_true, outSeq_normal, f25_k2, optB_b, hln, Option.bind_some, bin_gtr, hm', decide_true, asB_bo, ok_some, if_pos hm]
            rfl
          · have hm' : ¬ (4096 : Int) < out.length := by omega
            simp -implicitDefEqProofs only [outBlock_exit, if_true, outSeq_normal, f25_k2, optB_b, hln, Option.bind_some, bin_gtr, hm', decide_false, asB_bo, Bool.false_eq_true, if_false, q2, ln_str, ok_some, if_neg hm]
            simp only [frzR, frzVs, hfz, Option.bind_some]
            rfl
    obtain ⟨⟨r, hr⟩, h1, h2⟩ := key
    exact call_sv Try.func25 (by kernel_rfl) (by rfl) (by rfl) (by rfl) h1 h2

end
end Go.Proofs.Ytmhamnnfcmkcfaa

/- slices.IndexFunc at some types: printed by wip/tools/genidx.py. -/
set_option maxRecDepth 100000
namespace Go.Proofs.Ytmhamnnfcmkcfaa
open Go.RowKit

section
variable {J : Option (List AV → Option AV)}

theorem l90 {xs : List (List SV)} (hx : ∀ x ∈ xs, x.length = 3) (hlen : xs.length ≤ 9223372036854775806) {f : Nat} {first caps : List AV} {p : List SV → Bool} {Good : Heap → Prop}
    (hp : ∀ x ∈ xs, ∀ h, Good h → Ok (Cw J f (first ++ [pack true (x.map .sv)] ++ caps) h) fun r => r.1 = Bo (p x) ∧ Good r.2) {h : Heap} (hg : Good h) :
    Ok (f90_sh optB (Cw J) loopW (.sv (.slice xs)) (.func f first caps) h) fun r => r.1 = I (idxP xs p) ∧ Good r.2 := by
  simp -implicitDefEqProofs only [f90_sh, optB_b, ln_slice, Option.bind_some]
  refine loop_ok (fun n st => ∃ i : Nat, st.tm 0 = .sv (.slice xs) ∧ st.tm 1 = .func f first caps ∧ st.tm 7 = I xs.length ∧ st.tm 8 = I i ∧ i ≤ xs.length ∧ n = xs.length - i ∧ Good st.h ∧ ∀ x ∈ xs.take i, p x = false)
    (fun r => Good r.2.h ∧ ((r.1 = .exit 0 ∧ idxP xs p = -1) ∨ (r.1 = .ret ∧ r.2.tm 4 = I (idxP xs p)))) (n := xs.length) ⟨0, by simp [upd], by simp [upd], by simp [upd], by simp [upd], by omega, by omega, hg, by simp⟩ ?_ ?_
  · rintro n ⟨tm, h⟩ ⟨i, e0, e1, e7, e8, hi, rfl, hg, hpre⟩
    simp only at e0 e1 e7 e8 hg ⊢
    by_cases hlt : i < xs.length
    · have hlt' : (i : Int) < xs.length := by omega
      have hget : xs[i]? = some xs[i] := List.getElem?_eq_getElem hlt
      have hxi := hx xs[i] (List.getElem_mem hlt)
      have hia : ia (.slice 35 3 32 false) (.sv (.slice xs)) (I i) = some (.ref xs[i]) := ia_sv rfl hget hxi
      have hld : ld 3 true (.ref xs[i]) h = some (pack true (xs[i].map .sv)) := by rw [ld_ref (by omega), List.take_of_length_le (by omega)]
      have w1 : IntKind.i64.wrap ((i : Int) + 1) = ((i + 1 : Nat) : Int) := by rw [wrapI (by omega) (by omega)]; omega
      simp -implicitDefEqProofs only [f90_b0, optB_b, e0, e1, e7, e8, hlt', bin_lss, Option.bind_some, decide_true, asB_bo, if_true, hia, hld, callV_func]
      refine Ok.bind (hp xs[i] (List.getElem_mem hlt) h hg) ?_
      rintro ⟨b, h'⟩ ⟨hb, hg'⟩
      simp only at hb hg'
      subst hb
      cases hpi : p xs[i] with
      | true =>
        simp -implicitDefEqProofs only [asB_bo, Option.bind_some, if_true, ok_some]
        refine nxt_r ⟨hg', .inr ⟨rfl, ?_⟩⟩
        rw [idxP_some hlt hpi hpre]
        simp [upd]
      | false =>
        simp -implicitDefEqProofs only [asB_bo, Option.bind_some, Bool.false_eq_true, if_false, bin_add, w1, ok_some]
        refine nxt_n (xs.length - (i + 1)) (by omega) ⟨i + 1, ?_, ?_, ?_, ?_, by omega, rfl, hg', ?_⟩
        · simp [upd, e0]
        · simp [upd, e1]
        · simp [upd, e7]
        · simp [upd]
        · intro x hxm
          rw [take_succ_get hlt] at hxm
          rcases List.mem_append.1 hxm with q | q
          · exact hpre x q
          · simp at q; subst q; exact hpi
    · have hlt' : ¬ (i : Int) < xs.length := by omega
      simp -implicitDefEqProofs only [f90_b0, optB_b, e7, e8, hlt', bin_lss, Option.bind_some, decide_false, asB_bo, Bool.false_eq_true, if_false, ok_some]
      refine nxt_e ⟨hg, .inl ⟨rfl, idxP_none fun x hxm => hpre x ?_⟩⟩
      rw [List.take_of_length_le (by omega)]
      exact hxm
  · rintro ⟨o, st⟩ ⟨hg, hp2⟩
    simp only at hg hp2 ⊢
    rcases hp2 with ⟨rfl, h2⟩ | ⟨rfl, h2⟩
    · simp -implicitDefEqProofs only [outBlock_exit, if_true, outSeq_normal, f90_k0, ok_some]
      exact ⟨by rw [h2], hg⟩
    · simp -implicitDefEqProofs only [outBlock_ret, outSeq_ret, endK_ret, resK_tmp, resK_nil, tup_one, ok_some]
      exact ⟨h2, hg⟩

end
end Go.Proofs.Ytmhamnnfcmkcfaa

/- The lexer's functions come to the plain ones: lines; whether a token may be. -/
set_option maxRecDepth 100000
namespace Go.Proofs.Ytmhamnnfcmkcfaa
open Go.RowKit

section
variable {J : Option (List AV → Option AV)}

theorem tok_rows' (l : List Tok) : ∀ x ∈ l.map Tok.sv, x.length = 3 := by
  intro x hx
  obtain ⟨t, -, rfl⟩ := List.mem_map.1 hx
  rfl

theorem c92 (l : List Tok) (hl : l.length ≤ 1000000000000) (h : Heap) : Cw J 92 [.sv (toksSV l)] h = some (.sv (toksSV l), h) := by
  refine call_prim (g := cloneP 3) (by rfl) (by rfl) (args' := [.sv (toksSV l)]) (ids := []) (frzVs_set rfl) ?_
  have h2 : (l.map Tok.sv).all (fun c => c.length == 3) = true := List.all_eq_true.2 fun c hc => by simpa using tok_rows' l c hc
  simp only [cloneP, toksSV]
  rw [if_pos ⟨by simpa using hl, h2⟩]

def isLine (t : Tok) : Bool := t.kind == 4

theorem c90 (l : List Tok) (hl : l.length ≤ 1000000000000) (h : Heap) : Cw J 90 [.sv (toksSV l), .func 91 [] []] h = some (I (idxP l isLine), h) := by
  have key := l90 (J := J) (tok_rows' l) (by simp; omega) (f := 91) (first := []) (caps := []) (p := fun x => match x with | [.int _ k, _, _] => k == 4 | _ => false) (Good := fun h => h = []) (h := []) (by
    intro x hx h hg
    obtain ⟨t, -, rfl⟩ := List.mem_map.1 hx
    have := c91 (J := J) t h
    refine ⟨(Bo (decide (t.kind = 4)), h), this, ?_, hg⟩
    simp only [Tok.sv, Bo]
    congr 2) rfl
  obtain ⟨⟨r, hr⟩, h1, h2, h3⟩ := key
  refine call_sv Try.func90 (by kernel_rfl) (by rfl) (by rfl) (by rfl) (hr := hr) (r := I (idxP l isLine)) ?_ (frzR_set (by rfl))
  rw [f90_eq]
  refine h1.trans ?_
  simp only at h2
  rw [h2, idxP_map]
  rfl

def cellS : AV → SV
  | .sv s => s
  | _ => .slice []

def LRows (rows : List (List AV)) (acc : List (List Tok)) : Prop := (∀ r ∈ rows, ∃ c, r = [c] ∧ (c = .nil ∨ ∃ s, c = .sv s)) ∧ rows.map (·.map cellS) = acc.map fun l => [toksSV l]

theorem LRows.snoc {rows : List (List AV)} {acc : List (List Tok)} (h : LRows rows acc) {c : AV} {l : List Tok} (hc : c = .nil ∨ ∃ s, c = .sv s) (hl : cellS c = toksSV l) : LRows (rows ++ [[c]]) (acc ++ [l]) := by
  refine ⟨fun r hr => ?_, ?_⟩
  · rcases List.mem_append.1 hr with q | q
    · exact h.1 r q
    · simp at q; exact ⟨c, q, hc⟩
  · rw [List.map_append, List.map_append, h.2]
    simp [hl]

theorem LRows.len {rows : List (List AV)} {acc : List (List Tok)} (h : LRows rows acc) : rows.length = acc.length := by
  have := congrArg List.length h.2
  simpa using this

def LinInv (RES : List (List Tok)) (n : Nat) (st : St) : Prop :=
  ∃ (f : Nat) (l : List Tok) (acc : List (List Tok)) (rows : List (List AV)), st.tm 0 = .sv (toksSV l) ∧ IsRowA st.h 1 (st.tm 3) rows ∧ LRows rows acc ∧ acc ++ linesF f l = RES ∧ l.length ≤ f ∧ n = l.length ∧ 2 * l.length + acc.length ≤ 1000000000

def LinPost (RES : List (List Tok)) (r : Out × St) : Prop :=
  ∃ rows v, IsRowA r.2.h 1 v rows ∧ LRows rows RES ∧ ((r.1 = .exit 0 ∧ r.2.tm 3 = v) ∨ (r.1 = .ret ∧ r.2.tm 2 = v))

theorem idxP_pos {l : List Tok} {m : Nat} (h : idxP l isLine = m) : l.findIdx? isLine = some m ∧ m < l.length := by
  unfold idxP at h
  cases e : l.findIdx? isLine with
  | none => rw [e] at h; simp only at h; omega
  | some i =>
    rw [e] at h
    simp only at h
    have : i = m := by omega
    subst this
    exact ⟨rfl, (List.findIdx?_eq_some_iff_getElem.1 e).1⟩

theorem l28_b0 {RES : List (List Tok)} (n : Nat) (st : St) (hI : LinInv RES n st) : Ok (f28_b0 optB (Cw J) loopW st.tm st.h) (Nxt (LinInv RES) (LinPost RES) n) := by
  obtain ⟨tm, h⟩ := st
  obtain ⟨f, l, acc, rows, e0, hr, hL, hRES, hf, rfl, hb⟩ := hI
  simp only at e0 hr ⊢
  have hrl := hL.len
  by_cases hne : l = []
  · subst hne
    simp -implicitDefEqProofs [f28_b0, e0, toksSV]
    refine nxt_e ⟨rows, tm 3, hr, ?_, .inl ⟨rfl, by simp [upd]⟩⟩
    have : linesF f ([] : List Tok) = [] := by cases f <;> rfl
    rw [this, List.append_nil] at hRES
    rw [← hRES]; exact hL
  · have hpos : (0 : Int) < ((l.map Tok.sv).length : Int) := by
      have : 0 < l.length := List.length_pos_iff.2 hne
      simp; omega
    have h90 := c90 (J := J) l (by omega) h
    have hz : ([AV.nil] : List AV).length = 1 := rfl
    by_cases hneg : idxP l isLine < 0
    · obtain ⟨v', h', q1, q2, q3, -, -, -⟩ := push_oneA (e := 22) (b := 24) (y := false) (z := [.nil]) (x := .sv (toksSV l)) (c := [.sv (toksSV l)]) hr rfl rfl (by decide) rfl rfl rfl (by decide) (by decide) (by omega)
      have hln0 : ln (.slice 35 3 32 false) (.sv (toksSV l)) = some (I ((l.map Tok.sv).length : Int)) := rfl
      simp -implicitDefEqProofs only [f28_b0, optB_b, e0, hln0, Option.bind_some, bin_gtr, hpos, decide_true, asB_bo, if_true, h90, bin_lss, hneg, c92 l (by omega), q1, q2, ok_some]
      have hRES2 : acc ++ [l] = RES := by
        rw [← hRES]
        have hp0 : 0 < l.length := List.length_pos_iff.2 hne
        obtain ⟨f, rfl⟩ : ∃ g, f = g + 1 := ⟨f - 1, by omega⟩
        have hn : l.findIdx? (fun t => t.kind == 4) = none := by
          rw [List.findIdx?_eq_none_iff]
          exact idxP_neg.1 hneg
        cases l with
        | nil => exact absurd rfl hne
        | cons t r => simp only [linesF, hn]
      refine nxt_r ⟨_, v', q3, ?_, .inr ⟨rfl, by simp [upd]⟩⟩
      rw [← hRES2]
      exact hL.snoc (.inr ⟨_, rfl⟩) rfl
    · obtain ⟨m, hm⟩ : ∃ m : Nat, idxP l isLine = m := ⟨(idxP l isLine).toNat, by omega⟩
      obtain ⟨hfi, hml⟩ := idxP_pos hm
      rw [hm] at h90 hneg
      have hsl0 : ∀ h, sl (.slice 35 3 32 false) (.sv (toksSV l)) none (some (I m)) h = some (.sv (toksSV (l.take m))) := fun h => by
        unfold toksSV
        rw [sl_sv0 (tok_rows' l) (by simp; omega), List.map_take]
      have w1 : IntKind.i64.wrap ((m : Int) + 1) = ((m + 1 : Nat) : Int) := by rw [wrapI (by omega) (by omega)]; omega
      have hsl1 : ∀ h, sl (.slice 35 3 32 false) (.sv (toksSV l)) (some (I ((m + 1 : Nat) : Int))) none h = some (.sv (toksSV (l.drop (m + 1)))) := fun h => by
        unfold toksSV
        rw [sl_sv1 (tok_rows' l) (by simp; omega), List.map_drop]
      obtain ⟨v', h', q1, q2, q3, q4, -, -⟩ := push_oneA (e := 22) (b := 24) (y := false) (z := [.nil]) (x := .sv (toksSV (l.take m))) (c := [.sv (toksSV (l.take m))]) hr rfl rfl (by decide) rfl rfl rfl (by decide) (by decide) (by omega)
      have hL1 : LRows (rows ++ [[.sv (toksSV (l.take m))]]) (acc ++ [l.take m]) := hL.snoc (.inr ⟨_, rfl⟩) rfl
      have hlend : ((l.drop (m + 1)).map Tok.sv).length = l.length - (m + 1) := by simp
      have hRES2 : acc ++ l.take m :: (if l.drop (m + 1) = [] then [[]] else linesF (f - 1) (l.drop (m + 1))) = RES := by
        rw [← hRES]
        obtain ⟨f, rfl⟩ : ∃ g, f = g + 1 := ⟨f - 1, by omega⟩
        have hfi' : l.findIdx? (fun t => t.kind == 4) = some m := hfi
        cases l with
        | nil => exact absurd rfl hne
        | cons t r => simp only [linesF, hfi']; rfl
      have hln : ln (.slice 35 3 32 false) (.sv (toksSV (l.drop (m + 1)))) = some (I ((l.length - (m + 1) : Nat) : Int)) := by
        unfold toksSV; rw [ln_slice, hlend]
      have hln0 : ln (.slice 35 3 32 false) (.sv (toksSV l)) = some (I ((l.map Tok.sv).length : Int)) := rfl
      by_cases hlast : l.length - (m + 1) = 0
      · have hdn : l.drop (m + 1) = [] := List.drop_eq_nil_of_le (by omega)
        have hz0 : (((l.length - (m + 1) : Nat) : Int) = 0) := by omega
        obtain ⟨v2, h2, p1, p2, p3, -, -, -⟩ := push_oneA (e := 22) (b := 24) (y := false) (z := [.nil]) (x := .nil) (c := [.nil]) q3 rfl rfl (by decide) rfl rfl rfl (by decide) (by decide) (by simp; omega)
        simp -implicitDefEqProofs only [f28_b0, optB_b, e0, hln0, Option.bind_some, bin_gtr, hpos, decide_true, asB_bo, if_true, h90, bin_lss, hneg, decide_false, Bool.false_eq_true, if_false, hsl0, c92 (l.take m) (by simp; omega), q1, q2, bin_add, w1, hsl1, hln, bin_eql, hz0, p1, p2, ok_some]
        refine nxt_n 0 (List.length_pos_iff.2 hne) ⟨0, [], acc ++ [l.take m] ++ [[]], _, ?_, ?_, hL1.snoc (c := .nil) (.inl rfl) rfl, ?_, Nat.le_refl _, rfl, ?_⟩
        · simp [upd, hdn]
        · simpa [upd] using p3
        · rw [← hRES2, if_pos hdn]; simp [linesF]
        · simp; omega
      · have hdn : ¬ l.drop (m + 1) = [] := fun e => by have := congrArg List.length e; simp at this; omega
        have hz0 : ¬ (((l.length - (m + 1) : Nat) : Int) = 0) := by omega
        simp -implicitDefEqProofs only [f28_b0, optB_b, e0, hln0, Option.bind_some, bin_gtr, hpos, decide_true, asB_bo, if_true, h90, bin_lss, hneg, decide_false, Bool.false_eq_true, if_false, hsl0, c92 (l.take m) (by simp; omega), q1, q2, bin_add, w1, hsl1, hln, bin_eql, hz0, ok_some]
        refine nxt_n (l.drop (m + 1)).length (by simp; omega) ⟨f - 1, l.drop (m + 1), acc ++ [l.take m], _, ?_, ?_, hL1, ?_, ?_, rfl, ?_⟩
        · simp [upd]
        · simpa [upd] using q3
        · rw [← hRES2, if_neg hdn]; simp
        · simp; omega
        · simp; omega

def linesSV (l : List (List Tok)) : SV := .slice (l.map fun l => [toksSV l])

theorem c28 (l : List Tok) (hl : l.length ≤ 100000000) (h : Heap) : Cw J 28 [.sv (toksSV l)] h = some (.sv (linesSV (linesS l)), h) := by
  have key : Ok (evFunc optB tab shared (Cw J) loopW noD Try.f28 [.sv (toksSV l)] []) fun r => frzR frzDepth r.2 r.1 = some (.sv (linesSV (linesS l))) := by
    rw [f28_eq]
    simp -implicitDefEqProofs only [f28_sh, optB_b]
    refine loop_ok (LinInv (linesS l)) (LinPost (linesS l)) (n := l.length) ⟨l.length, l, [], [], ?_, ?_, ⟨by simp, rfl⟩, rfl, Nat.le_refl _, rfl, by simp; omega⟩ (fun n st hI => l28_b0 n st hI) ?_
    · simp [upd]
    · simpa [upd] using IsRowA.nil [] 1
    · rintro ⟨o, st⟩ ⟨rows, v, hr, hL, hv⟩
      have hfz : ∃ ids, frzV frzDepth st.h v = some (.sv (linesSV (linesS l)), ids) := by
        obtain ⟨ids, e⟩ := frz_rowA (n := 5) cellS (fun _ => []) hr (by decide) (by
          intro r hr1 c hc
          obtain ⟨c', rfl, hc'⟩ := hL.1 r hr1
          simp at hc
          subst hc
          rcases hc' with rfl | ⟨s, rfl⟩
          · rfl
          · rfl)
        rw [hL.2] at e
        rcases hr.2 with ⟨rfl, -⟩ | ⟨id, rfl, -⟩
        · exact ⟨_, by simp only [frzV, frzDepth]; rw [e]; rfl⟩
        · exact ⟨_, by simp only [frzV, frzDepth]; rw [e]; rfl⟩
      obtain ⟨ids, hfz⟩ := hfz
      have hfr : frzR frzDepth st.h v = some (.sv (linesSV (linesS l))) := by
        rcases hr.2 with ⟨rfl, -⟩ | ⟨id, rfl, -⟩
        · simp only [frzR, hfz, Option.bind_some]
        · simp only [frzR, hfz, Option.bind_some]
      simp only at hv ⊢
      rcases hv with ⟨rfl, h2⟩ | ⟨rfl, h2⟩
      · simp -implicitDefEqProofs only [outBlock_exit, if_true, outSeq_normal, f28_k0, ok_some, h2]
        exact hfr
      · simp -implicitDefEqProofs only [outBlock_ret, outSeq_ret, endK_ret, resK_tmp, resK_nil, tup_one, ok_some, h2]
        exact hfr
  obtain ⟨⟨r, hr⟩, h1, h2⟩ := key
  exact call_sv Try.func28 (by kernel_rfl) (by rfl) (by rfl) (by rfl) h1 h2

end
end Go.Proofs.Ytmhamnnfcmkcfaa

/- Code's functions come to the plain ones: reading tokens. -/
set_option maxRecDepth 100000
namespace Go.Proofs.Ytmhamnnfcmkcfaa
open Go.RowKit

section
variable {J : Option (List AV → Option AV)}

/-- A reader. -/
def Rd (h : Heap) (id : Nat) (l : List Tok) (bad : Bool) : Prop := h[id]? = some (.cells 0 [.sv (toksSV l), Bo bad] true)

/-- All objects stand but one. -/
def KeepO (id : Nat) (h h' : Heap) : Prop := h.length ≤ h'.length ∧ ∀ i e, i ≠ id → h[i]? = some e → h'[i]? = some e

theorem KeepO.refl (id : Nat) (h : Heap) : KeepO id h h := ⟨Nat.le_refl _, fun _ _ _ h => h⟩
theorem KeepO.trans {id : Nat} {h h1 h2 : Heap} (a : KeepO id h h1) (b : KeepO id h1 h2) : KeepO id h h2 := ⟨Nat.le_trans a.1 b.1, fun i e hi he => b.2 i e hi (a.2 i e hi he)⟩
theorem KeepO.app (id : Nat) (h : Heap) (e : Ent) : KeepO id h (h ++ [e]) := ⟨by simp, fun i x _ hx => by rw [List.getElem?_append_left (List.getElem?_eq_some_iff.1 hx).1]; exact hx⟩
theorem KeepO.set (id : Nat) (h : Heap) (e : Ent) : KeepO id h (h.set id e) := ⟨by simp, fun i x hi hx => by rw [List.getElem?_set_ne (Ne.symm hi)]; exact hx⟩

theorem app_get {h : Heap} {i : Nat} {x : Ent} (hx : h[i]? = some x) (e : Ent) : (h ++ [e])[i]? = some x := by rw [List.getElem?_append_left (List.getElem?_eq_some_iff.1 hx).1]; exact hx

theorem rd_l {h : Heap} {id : Nat} {l : List Tok} {bad : Bool} (hr : Rd h id l bad) : ld 1 false (.ptr id (0 + 0)) h = some (.sv (toksSV l)) := by rw [ld_ptr hr (by simp)]; rfl
theorem rd_b {h : Heap} {id : Nat} {l : List Tok} {bad : Bool} (hr : Rd h id l bad) : ld 1 false (.ptr id (0 + 1)) h = some (Bo bad) := by rw [ld_ptr hr (by simp)]; rfl
theorem rd_setb {h : Heap} {id : Nat} {l : List Tok} {bad : Bool} (hr : Rd h id l bad) (b : Bool) : storeA 1 (.ptr id (0 + 1)) (Bo b) h = some (.undef, h.set id (.cells 0 [.sv (toksSV l), Bo b] true)) := by
  rw [store_eq (n := 1) (vs := [Bo b]) hr rfl rfl (by simp)]; rfl
theorem rd_setl {h : Heap} {id : Nat} {l : List Tok} {bad : Bool} (hr : Rd h id l bad) (l' : List Tok) : storeA 1 (.ptr id (0 + 0)) (.sv (toksSV l')) h = some (.undef, h.set id (.cells 0 [.sv (toksSV l'), Bo bad] true)) := by
  rw [store_eq (n := 1) (vs := [.sv (toksSV l')]) hr rfl rfl (by simp)]; rfl
theorem rd_of_set {h : Heap} {id : Nat} {l : List Tok} {bad : Bool} (hlt : id < h.length) : Rd (h.set id (.cells 0 [.sv (toksSV l), Bo bad] true)) id l bad := by simp [Rd, hlt]

theorem ln_toks (l : List Tok) : ln (.slice 35 3 32 false) (.sv (toksSV l)) = some (I l.length) := by simp [toksSV]

theorem c96 (k : Int) {id : Nat} {h : Heap} {l : List Tok} {bad : Bool} (hr : Rd h id l bad) (hl : l.length ≤ 1000000000) :
    Ok (Cw J 96 [.ptr id 0, I k] h) fun r => r.1 = tokA (takeS k l bad).1 ∧ Rd r.2 id (takeS k l bad).2.1 (takeS k l bad).2.2 ∧ KeepO id h r.2 := by
  have hlt : id < h.length := (List.getElem?_eq_some_iff.1 hr).1
  have key : Ok (f96_sh optB (Cw J) loopW (.ptr id 0) (I k) h) fun r => r.1 = tokA (takeS k l bad).1 ∧ Rd r.2 id (takeS k l bad).2.1 (takeS k l bad).2.2 ∧ KeepO id h r.2 := by
    have hal : alloc [.sv (.int .i64 0), .sv (.str []), .sv (.int .i64 0)] h = some (.ptr h.length 0, h ++ [.cells 0 (noTok.sv.map .sv) true]) := alloc_eq rfl
    have hr1 : Rd (h ++ [.cells 0 (noTok.sv.map .sv) true]) id l bad := app_get hr _
    have e0 := rd_l hr1
    have e1 := rd_b hr1
    -- something is wrong
    have hset : ∀ b, (h ++ [Ent.cells 0 (noTok.sv.map .sv) true]).set id (.cells 0 [.sv (toksSV l), Bo b] true) = h.set id (.cells 0 [.sv (toksSV l), Bo b] true) ++ [.cells 0 (noTok.sv.map .sv) true] := fun b => List.set_append_left _ _ hlt
    have hwr : storeA 1 (.ptr id (0 + 1)) (Bo true) (h ++ [.cells 0 (noTok.sv.map .sv) true]) = some (.undef, h.set id (.cells 0 [.sv (toksSV l), Bo true] true) ++ [.cells 0 (noTok.sv.map .sv) true]) := by rw [rd_setb hr1, hset]
    have hN : ∀ (h' : Heap) (t : Tok), h'.length = h.length → ld 3 true (.ptr h.length 0) (h' ++ [.cells 0 (t.sv.map .sv) true]) = some (tokA t) := fun h' t e => by
      rw [← e, ld_ptr (heap_last _ _) (by simp [Tok.sv])]; rfl
    have hS : ∀ (h' : Heap) (t u : Tok), h'.length = h.length → storeA 3 (.ptr h.length 0) (tokA u) (h' ++ [.cells 0 (t.sv.map .sv) true]) = some (.undef, h' ++ [.cells 0 (u.sv.map .sv) true]) := fun h' t u e => by
      rw [← e, store_eq (heap_last _ _) (cellsOf_agg _) (by rfl) (by simp [Tok.sv]), heap_set_last]; rfl
    have hlen : ∀ x, (h.set id x).length = h.length := fun x => by simp
    have hbadend : ∀ (P : AV × Heap → Prop), P (tokA noTok, h.set id (.cells 0 [.sv (toksSV l), Bo true] true) ++ [.cells 0 (noTok.sv.map .sv) true]) →
        Ok ((nc (.ptr id 0)).bind fun w23 => (fa 1 w23).bind fun w24 => (storeA 1 w24 (Bo true) (h ++ [.cells 0 (noTok.sv.map .sv) true])).bind fun r25 => (ld 3 true (.ptr h.length 0) r25.2).bind fun w26 => (storeA 3 (.ptr h.length 0) w26 r25.2).bind fun r27 => (ld 3 true (.ptr h.length 0) r27.2).bind fun w28 => some (w28, r27.2)) P := by
      intro P hP
      simp -implicitDefEqProofs only [nc_ptr, Option.bind_some, fa_ptr, hwr, hN _ _ (hlen _), hS _ _ _ (hlen _), ok_some]
      exact hP
    have hPbad : (takeS k l bad) = (noTok, l, true) → (fun r : AV × Heap => r.1 = tokA (takeS k l bad).1 ∧ Rd r.2 id (takeS k l bad).2.1 (takeS k l bad).2.2 ∧ KeepO id h r.2) (tokA noTok, h.set id (.cells 0 [.sv (toksSV l), Bo true] true) ++ [.cells 0 (noTok.sv.map .sv) true]) := by
      intro e
      simp only [e]
      refine ⟨trivial, ?_, (KeepO.set id h _).trans (KeepO.app id _ _)⟩
      exact app_get (rd_of_set hlt) _
    cases bad with
    | true =>
      simp -implicitDefEqProofs only [f96_sh, optB_b, hal, Option.bind_some, nc_ptr, fa_ptr, e1, gO_ff, if_true, asB_bo]
      refine Ok.mono (hbadend _ (hPbad ?_)) (fun r h => h)
      cases l <;> rfl
    | false =>
      cases l with
      | nil =>
        have hln := ln_toks []
        simp -implicitDefEqProofs only [f96_sh, optB_b, hal, Option.bind_some, nc_ptr, fa_ptr, e1, e0, hln, gO_ff, if_true, if_false, Bool.false_eq_true, asB_bo, bin_eql, List.length_nil, show (((0 : Nat) : Int) = 0) by rfl, decide_true]
        exact Ok.mono (hbadend _ (hPbad rfl)) (fun r h => h)
      | cons t rest =>
        have hln := ln_toks (t :: rest)
        have hne : ¬ (((t :: rest).length : Nat) : Int) = 0 := by simp; omega
        have hia : ia (.slice 35 3 32 false) (.sv (toksSV (t :: rest))) (I 0) = some (.ref t.sv) := ia_sv (i := 0) rfl rfl rfl
        have hk0 : ∀ h, ld 1 false (.ref (t.sv.drop 0)) h = some (I t.kind) := fun h => rfl
        have hk3 : ∀ h, ld 3 true (.ref t.sv) h = some (tokA t) := fun h => rfl
        by_cases hk : t.kind = k
        · have hsl : ∀ h, sl (.slice 35 3 32 false) (.sv (toksSV (t :: rest))) (some (I 1)) none h = some (.sv (toksSV rest)) := fun h => by
            have := sl_sv1 (e := 35) (b := 32) (y := false) (tok_rows' (t :: rest)) (i := 1) (by simp) h
            simpa [toksSV] using this
          have hr2 : Rd (h ++ [.cells 0 (t.sv.map .sv) true]) id (t :: rest) false := app_get hr _
          have hs2 : storeA 1 (.ptr id (0 + 0)) (.sv (toksSV rest)) (h ++ [.cells 0 (t.sv.map .sv) true]) = some (.undef, h.set id (.cells 0 [.sv (toksSV rest), Bo false] true) ++ [.cells 0 (t.sv.map .sv) true]) := by
            rw [rd_setl hr2, List.set_append_left _ _ hlt]
          have e2 := rd_l hr2
          simp -implicitDefEqProofs only [f96_sh, optB_b, hal, Option.bind_some, nc_ptr, fa_ptr, fa_ref, e1, e0, hln, gO_ff, if_true, if_false, Bool.false_eq_true, asB_bo, bin_eql, hne, decide_false, hia, hk0, bin_neq, hk, decide_true, Bool.not_true, hk3, hS h _ _ rfl, e2, hsl, hs2, hN _ _ (hlen _), hS _ _ _ (hlen _), ok_some]
          have ht : takeS k (t :: rest) false = (t, rest, false) := by simp [takeS, hk]
          rw [ht]
          exact ⟨rfl, app_get (rd_of_set hlt) _, (KeepO.set id h _).trans (KeepO.app id _ _)⟩
        · simp -implicitDefEqProofs only [f96_sh, optB_b, hal, Option.bind_some, nc_ptr, fa_ptr, fa_ref, e1, e0, hln, gO_ff, if_true, if_false, Bool.false_eq_true, asB_bo, bin_eql, hne, decide_false, hia, hk0, bin_neq, hk, Bool.not_false]
          exact Ok.mono (hbadend _ (hPbad (by simp [takeS, hk]))) (fun r h => h)
  obtain ⟨r, h1, h2⟩ := key
  exact ⟨r, call_sh Try.func96 (by kernel_rfl) (by rfl) ((f96_eq _ _ _ _ _ _).trans h1), h2⟩

end
end Go.Proofs.Ytmhamnnfcmkcfaa

/- Code's functions come to the plain ones: numbers behind letters, signed ones. -/
set_option maxRecDepth 100000
namespace Go.Proofs.Ytmhamnnfcmkcfaa
open Go.RowKit

section
variable {J : Option (List AV → Option AV)}

theorem c216 (s p : List UInt8) (h : Heap) : Cw J 216 [Sr s, Sr p] h = some (Bo (decide (p.length ≤ s.length ∧ s.take p.length = p)), h) := by
  refine call_sv Try.func216 (by kernel_rfl) (by rfl) (by rfl) (by rfl) (hr := []) ?_ (frzR_set (by rfl))
  rw [f216_eq]
  by_cases hle : p.length ≤ s.length
  · have hle' : (p.length : Int) ≤ s.length := by omega
    simp -implicitDefEqProofs only [f216_sh, optB_b, ln_str, Option.bind_some, bin_geq, hle', decide_true, gO_tt, if_true, sl_str0 hle, bin_eqlS, asB_bo, hle, true_and]
  · have hle' : ¬ (p.length : Int) ≤ s.length := by omega
    simp -implicitDefEqProofs only [f216_sh, optB_b, ln_str, Option.bind_some, bin_geq, hle', decide_false, gO_tt, if_false, Bool.false_eq_true, asB_bo, hle, false_and]

theorem c213 (s p : List UInt8) (h : Heap) : Cw J 213 [Sr s, Sr p] h = some (.tuple [Sr (cutPre s p).1, Bo (cutPre s p).2], h) := by
  refine call_sv Try.func213 (by kernel_rfl) (by rfl) (by rfl) (by rfl) (hr := []) (r := .tuple [Sr (cutPre s p).1, Bo (cutPre s p).2]) ?_ (frzR_tup (by rfl))
  rw [f213_eq]
  unfold cutPre
  by_cases hc : p.length ≤ s.length ∧ s.take p.length = p
  · rw [if_pos hc]
    simp -implicitDefEqProofs only [f213_sh, optB_b, c216, Option.bind_some, hc, and_self, decide_true, un_not, Bool.not_true, asB_bo, Bool.false_eq_true, if_false, ln_str, sl_str1 hc.1]
  · rw [if_neg hc]
    simp -implicitDefEqProofs only [f213_sh, optB_b, c216, Option.bind_some, hc, decide_false, un_not, Bool.not_false, asB_bo, if_true]

theorem c199 (s p : List UInt8) (h : Heap) : Cw J 199 [Sr s, Sr p] h = some (.tuple [Sr (cutPre s p).1, Bo (cutPre s p).2], h) := by
  refine call_sv Try.func199 (by kernel_rfl) (by rfl) (by rfl) (by rfl) (hr := []) (r := .tuple [Sr (cutPre s p).1, Bo (cutPre s p).2]) ?_ (frzR_tup (by rfl))
  rw [f199_eq]
  simp -implicitDefEqProofs only [f199_sh, optB_b, c213, Option.bind_some, ex_tuple, List.getElem?_cons_zero, List.getElem?_cons_succ]

theorem fl1 (t : Tok) : fl 1 1 false (tokA t) = some (Sr t.s) := by cases t; rfl
theorem fl2 (t : Tok) : fl 2 1 false (tokA t) = some (I t.n) := by cases t; rfl

theorem takeS_len {k : Int} {l : List Tok} {bad : Bool} : (takeS k l bad).2.1.length ≤ l.length := by
  unfold takeS
  split
  · simp
  · split
    · simp
    · split <;> simp

theorem takeS_str {k : Int} {l : List Tok} {bad : Bool} {m : Nat} (h : ∀ t ∈ l, t.s.length ≤ m) : (takeS k l bad).1.s.length ≤ m := by
  unfold takeS
  split
  · simp [noTok]
  · split
    · simp [noTok]
    · split
      · exact h _ (List.mem_cons_self ..)
      · simp [noTok]

theorem takeS_mem {k : Int} {l : List Tok} {bad : Bool} : ∀ t ∈ (takeS k l bad).2.1, t ∈ l := by
  unfold takeS
  split
  · intro t h; exact h
  · split
    · intro t h; exact h
    · split
      · intro t h; exact List.mem_cons_of_mem _ h
      · intro t h; exact h

/-- Tokens that are few and short. -/
def Few (l : List Tok) : Prop := l.length ≤ 1000000000 ∧ ∀ t ∈ l, t.s.length ≤ 1000000000

theorem Few.take {k : Int} {l : List Tok} {bad : Bool} (h : Few l) : Few (takeS k l bad).2.1 := ⟨Nat.le_trans takeS_len h.1, fun t ht => h.2 t (takeS_mem t ht)⟩

theorem c148 (letter : List UInt8) {id : Nat} {h : Heap} {l : List Tok} {bad : Bool} (hr : Rd h id l bad) (hl : Few l) :
    Ok (Cw J 148 [.ptr id 0, Sr letter] h) fun r => r.1 = I (behindS letter l bad).1 ∧ Rd r.2 id (behindS letter l bad).2.1 (behindS letter l bad).2.2 ∧ KeepO id h r.2 := by
  have key : Ok (f148_sh optB (Cw J) loopW (.ptr id 0) (Sr letter) h) fun r => r.1 = I (behindS letter l bad).1 ∧ Rd r.2 id (behindS letter l bad).2.1 (behindS letter l bad).2.2 ∧ KeepO id h r.2 := by
    simp -implicitDefEqProofs only [f148_sh, optB_b]
    refine Ok.bind (c96 1 hr hl.1) ?_
    rintro ⟨v, h1⟩ ⟨hv, q1, q2⟩
    simp only at hv q1 q2
    subst hv
    unfold behindS
    have hs := takeS_str (k := 1) (l := l) (bad := bad) hl.2
    generalize takeS 1 l bad = t at *
    obtain ⟨tok, l', b'⟩ := t
    simp only at q1 hs ⊢
    have hs2 : (cutPre tok.s letter).1.length ≤ 9223372036854775806 := by
      unfold cutPre
      split
      · simp; omega
      · simp; omega
    have h142 : ∀ h, Cw J 142 [Sr (cutPre tok.s letter).1] h = some (.tuple [I ((numS (cutPre tok.s letter).1).getD 0), Bo (numS (cutPre tok.s letter).1).isSome], h) := fun h => c142 _ hs2 h
    have h199 : ∀ h, Cw J 199 [Sr tok.s, Sr letter] h = some (.tuple [Sr (cutPre tok.s letter).1, Bo (cutPre tok.s letter).2], h) := fun h => c199 _ _ h
    generalize cutPre tok.s letter = cp at *
    obtain ⟨u, cb⟩ := cp
    simp only at h142 h199 ⊢
    have hlt : id < h1.length := (List.getElem?_eq_some_iff.1 q1).1
    have hbad : ∀ (P : AV × Heap → Prop), P (I ((numS u).getD 0), h1.set id (.cells 0 [.sv (toksSV l'), Bo true] true)) →
        Ok ((nc (.ptr id 0)).bind fun w14 => (fa 1 w14).bind fun w15 => (storeA 1 w15 (Bo true) h1).bind fun r16 => some (I ((numS u).getD 0), r16.2)) P := by
      intro P hP
      simp -implicitDefEqProofs only [nc_ptr, Option.bind_some, fa_ptr, rd_setb q1, ok_some]
      exact hP
    cases cb with
    | false =>
      simp -implicitDefEqProofs only [fl1, Option.bind_some, h199, ex_tuple, List.getElem?_cons_zero, List.getElem?_cons_succ, h142, un_not, Bool.not_false, gO_ff, if_true, asB_bo]
      refine Ok.mono (hbad _ ⟨rfl, ?_, q2.trans (KeepO.set id _ _)⟩) (fun r h => h)
      simp only [Bool.true_or, Bool.or_true]
      exact rd_of_set hlt
    | true =>
      cases hn : numS u with
      | none =>
        rw [hn] at h142 hbad
        simp -implicitDefEqProofs only [fl1, Option.bind_some, h199, ex_tuple, List.getElem?_cons_zero, List.getElem?_cons_succ, h142, un_not, Bool.not_true, gO_ff, if_false, Bool.false_eq_true, asB_bo, Option.isSome_none, Bool.not_false, if_true]
        refine Ok.mono (hbad _ ⟨rfl, ?_, q2.trans (KeepO.set id _ _)⟩) (fun r h => h)
        simp only [Option.isNone_none, Bool.or_true]
        exact rd_of_set hlt
      | some n =>
        rw [hn] at h142
        simp -implicitDefEqProofs only [fl1, Option.bind_some, h199, ex_tuple, List.getElem?_cons_zero, List.getElem?_cons_succ, h142, un_not, Bool.not_true, gO_ff, if_false, Bool.false_eq_true, asB_bo, Option.isSome_some, ok_some]
        refine ⟨trivial, ?_, q2⟩
        simpa using q1
  obtain ⟨r, h1, h2⟩ := key
  exact ⟨r, call_sh Try.func148 (by kernel_rfl) (by rfl) ((f148_eq _ _ _ _ _ _).trans h1), h2⟩

theorem toks_head {t : Tok} {r : List Tok} : ia (.slice 35 3 32 false) (.sv (toksSV (t :: r))) (I 0) = some (.ref t.sv) := ia_sv (i := 0) rfl rfl rfl

theorem c149 {id : Nat} {h : Heap} {l : List Tok} {bad : Bool} (hr : Rd h id l bad) (hl : Few l) :
    Ok (Cw J 149 [.ptr id 0] h) fun r => r.1 = I (signedS l bad).1 ∧ Rd r.2 id (signedS l bad).2.1 (signedS l bad).2.2 ∧ KeepO id h r.2 := by
  have key : Ok (f149_sh optB (Cw J) loopW (.ptr id 0) h) fun r => r.1 = I (signedS l bad).1 ∧ Rd r.2 id (signedS l bad).2.1 (signedS l bad).2.2 ∧ KeepO id h r.2 := by
    have e0 := rd_l hr
    have hln := ln_toks l
    have plain : Ok ((Cw J 96 [.ptr id 0, I 2] h).bind fun r16 => (fl 2 1 false r16.1).bind fun w17 => some (w17, r16.2)) fun r => r.1 = I (takeS 2 l bad).1.n ∧ Rd r.2 id (takeS 2 l bad).2.1 (takeS 2 l bad).2.2 ∧ KeepO id h r.2 := by
      refine Ok.bind (c96 2 hr hl.1) ?_
      rintro ⟨v, h1⟩ ⟨hv, q1, q2⟩
      simp only at hv q1 q2
      subst hv
      simp -implicitDefEqProofs only [fl2, Option.bind_some, ok_some]
      exact ⟨trivial, q1, q2⟩
    cases l with
    | nil =>
      simp -implicitDefEqProofs only [f149_sh, optB_b, nc_ptr, Option.bind_some, fa_ptr, e0, hln, List.length_nil, bin_eql, show (((0 : Nat) : Int) = 0) by rfl, decide_true, gO_ff, if_true, asB_bo]
      exact plain
    | cons t r =>
      have hne : ¬ (((t :: r).length : Nat) : Int) = 0 := by simp; omega
      have hs : ∀ h, ld 1 false (.ref (t.sv.drop 1)) h = some (Sr t.s) := fun h => rfl
      by_cases hm : t.s = [45]
      · simp -implicitDefEqProofs only [f149_sh, optB_b, nc_ptr, Option.bind_some, fa_ptr, fa_ref, e0, hln, bin_eql, hne, decide_false, gO_ff, if_false, Bool.false_eq_true, asB_bo, toks_head, hs, bin_neqS, hm, decide_true, Bool.not_true]
        simp only [signedS, hm, if_true]
        refine Ok.bind (c96 3 hr hl.1) ?_
        rintro ⟨v, h1⟩ ⟨hv, q1, q2⟩
        simp only at hv q1 q2
        subst hv
        have hl1 : Few (takeS 3 (t :: r) bad).2.1 := hl.take
        generalize takeS 3 (t :: r) bad = tk at *
        obtain ⟨tok, l1, b1⟩ := tk
        simp only at q1 hl1 ⊢
        refine Ok.bind (c96 2 q1 hl1.1) ?_
        rintro ⟨v, h2⟩ ⟨hv, q3, q4⟩
        simp only at hv q3 q4
        subst hv
        generalize takeS 2 l1 b1 = tk at *
        obtain ⟨tok2, l2, b2⟩ := tk
        simp only at q3 ⊢
        have hlt : id < h2.length := (List.getElem?_eq_some_iff.1 q3).1
        by_cases hz : tok2.n = 0
        · simp -implicitDefEqProofs only [fl2, Option.bind_some, bin_eql, hz, decide_true, if_true, asB_bo, nc_ptr, fa_ptr, rd_setb q3, un_neg, ok_some, Bool.or_true]
          exact ⟨trivial, rd_of_set hlt, q2.trans (q4.trans (KeepO.set id _ _))⟩
        · simp -implicitDefEqProofs only [fl2, Option.bind_some, bin_eql, hz, decide_false, if_false, Bool.false_eq_true, asB_bo, un_neg, ok_some, Bool.or_false]
          exact ⟨trivial, q3, q2.trans q4⟩
      · simp -implicitDefEqProofs only [f149_sh, optB_b, nc_ptr, Option.bind_some, fa_ptr, fa_ref, e0, hln, bin_eql, hne, decide_false, gO_ff, if_false, Bool.false_eq_true, asB_bo, toks_head, hs, bin_neqS, hm, Bool.not_false, if_true]
        simp only [signedS, hm, if_false]
        exact plain
  obtain ⟨r, h1, h2⟩ := key
  exact ⟨r, call_sh Try.func149 (by kernel_rfl) (by rfl) ((f149_eq _ _ _ _ _).trans h1), h2⟩

end
end Go.Proofs.Ytmhamnnfcmkcfaa

/- Code's functions come to the plain ones: an instruction, read. -/
set_option maxRecDepth 100000
namespace Go.Proofs.Ytmhamnnfcmkcfaa
open Go.RowKit

section
variable {J : Option (List AV → Option AV)}

def Ext (h h' : Heap) : Prop := ∀ (i : Nat) (e : Ent), h[i]? = some e → h'[i]? = some e
theorem Ext.refl (h : Heap) : Ext h h := fun _ _ h => h
theorem Ext.trans {a b c : Heap} (x : Ext a b) (y : Ext b c) : Ext a c := fun i e h => y i e (x i e h)
theorem Ext.app (h : Heap) (e : Ent) : Ext h (h ++ [e]) := fun _ _ hx => app_get hx e
theorem Ext.len {h h' : Heap} (x : Ext h h') : h.length ≤ h'.length := by
  rcases Nat.eq_zero_or_pos h.length with q | q
  · omega
  · have h1 : h[h.length - 1]? = some (h[h.length - 1]'(by omega)) := List.getElem?_eq_getElem _
    have := (List.getElem?_eq_some_iff.1 (x _ _ h1)).1
    omega
theorem Ext.keep {h h' : Heap} (x : Ext h h') (id : Nat) : KeepO id h h' := ⟨x.len, fun i e _ hx => x i e hx⟩

theorem c147 (t : List UInt8 × Int × Int × Int) {w : List UInt8} {wid : Nat} {h : Heap} (hw : h[wid]? = some (.cells 0 [Sr w] true)) : Cw J 147 [.agg ((rowS t).map .sv), .ptr wid 0] h = some (Bo (decide (t.1 = w)), h ++ [.cells 0 ((rowS t).map .sv) true]) := by
  refine call_sh Try.func147 (by kernel_rfl) (by rfl) ?_
  rw [f147_eq]
  have b1 : boxA 4 (.agg ((rowS t).map .sv)) h = some (.ptr h.length 0, h ++ [.cells 0 ((rowS t).map .sv) true]) := box_eq (cellsOf_agg _) rfl (cells_all _)
  have g1 : ld 1 false (.ptr h.length (0 + 0)) (h ++ [.cells 0 ((rowS t).map .sv) true]) = some (Sr t.1) := by
    rw [ld_ptr (heap_last _ _) (by simp [rowS])]; rfl
  have g2 : ld 1 false (.ptr wid 0) (h ++ [.cells 0 ((rowS t).map .sv) true]) = some (Sr w) := by
    rw [ld_ptr (app_get hw _) (by simp)]; rfl
  simp -implicitDefEqProofs only [f147_sh, optB_b, b1, Option.bind_some, fa_ptr, g1, g2, bin_eqlS]

theorem c145 {w : List UInt8} {wid : Nat} {h : Heap} (hw : h[wid]? = some (.cells 0 [Sr w] true)) : Ok (Cw J 145 [.sv (.slice (tbl.map rowS)), .func 147 [] [.ptr wid 0]] h) fun r => r.1 = I (opOf w) ∧ Ext h r.2 := by
  have key := l145 (J := J) (xs := tbl.map rowS) (by intro x hx; obtain ⟨t, -, rfl⟩ := List.mem_map.1 hx; rfl) (by simp [tbl]) (f := 147) (first := []) (caps := [.ptr wid 0]) (p := fun x => match x with | [.str s, _, _, _] => s == w | _ => false)
    (Good := fun h' => Ext h h') (h := h) (by
      intro x hx h' hg
      obtain ⟨t, -, rfl⟩ := List.mem_map.1 hx
      refine ⟨_, c147 t (hg _ _ hw), ?_, hg.trans (Ext.app _ _)⟩
      simp only [rowS, Bo]
      congr 2
      rw [Bool.eq_iff_iff]
      simp) (Ext.refl h)
  obtain ⟨r, h1, h2, h3⟩ := key
  refine ⟨r, call_sh Try.func145 (by kernel_rfl) (by rfl) ((f145_eq _ _ _ _ _ _).trans h1), ?_, h3⟩
  rw [h2, idxP_map]
  rfl

/-- All objects stand but two. -/
def Keep2 (id id2 : Nat) (h h' : Heap) : Prop := h.length ≤ h'.length ∧ ∀ i e, i ≠ id → i ≠ id2 → h[i]? = some e → h'[i]? = some e

theorem KeepO.two {id : Nat} {h h' : Heap} (k : KeepO id h h') (id2 : Nat) : Keep2 id id2 h h' := ⟨k.1, fun i e h1 _ h3 => k.2 i e h1 h3⟩
theorem Keep2.trans {id id2 : Nat} {h h1 h2 : Heap} (a : Keep2 id id2 h h1) (b : Keep2 id id2 h1 h2) : Keep2 id id2 h h2 := ⟨Nat.le_trans a.1 b.1, fun i e hi hj he => b.2 i e hi hj (a.2 i e hi hj he)⟩
theorem Keep2.set2 (id id2 : Nat) (h : Heap) (e : Ent) : Keep2 id id2 h (h.set id2 e) := ⟨by simp, fun i x _ hi hx => by rw [List.getElem?_set_ne (Ne.symm hi)]; exact hx⟩

def InsAt (id X S : Nat) (h : Heap) (s : Ins × List Tok × Bool) : Prop :=
  Rd h id s.2.1 s.2.2 ∧ h[X]? = some (.cells 0 (s.1.sv.map .sv) true) ∧ h[S]? = some (.cells 0 ((rowS (shp s.1.op)).map .sv) true) ∧ X ≠ id ∧ S ≠ id ∧ S ≠ X ∧ Few s.2.1

theorem putP_op (i : Nat) (k v : Int) (x : Ins) : (putP i k v x).op = x.op := by
  unfold putP
  repeat' split
  all_goals rfl

theorem partS_few {k : Int} {l : List Tok} {bad : Bool} (h : Few l) : Few (partS k l bad).2.1 := by
  unfold partS behindS signedS
  split
  · exact h.take
  · split
    · exact h.take
    · split
      · exact h.take
      · split
        · split
          · exact Few.take (k := 2) (bad := bad) h
          · split
            · exact h.take.take
            · exact h.take
        · exact h

/-- A field's store. -/
theorem put_field {X i : Nat} {h : Heap} {x : Ins} {k v : Int} (hX : h[X]? = some (.cells 0 (x.sv.map .sv) true)) (hi : i < 3) (h5 : k ≠ 5) (h0 : k ≠ 0) : storeA 1 (.ptr X (1 + i)) (I v) h = some (.undef, h.set X (.cells 0 ((putP i k v x).sv.map .sv) true)) := by
  rw [store_eq (n := 1) (vs := [I v]) hX rfl rfl (by simp [Ins.sv]; omega)]
  rcases (by omega : i = 0 ∨ i = 1 ∨ i = 2) with rfl | rfl | rfl <;> simp [putP, h5, h0, Ins.sv, splice]

theorem put_n {X i : Nat} {h : Heap} {x : Ins} {v : Int} (hX : h[X]? = some (.cells 0 (x.sv.map .sv) true)) : storeA 1 (.ptr X (0 + 4)) (I v) h = some (.undef, h.set X (.cells 0 ((putP i 5 v x).sv.map .sv) true)) := by
  rw [store_eq (n := 1) (vs := [I v]) hX rfl rfl (by simp [Ins.sv])]
  simp [putP, Ins.sv, splice]

theorem l97_k1 {id X S i : Nat} {tm : Tm} {h : Heap} {s : Ins × List Tok × Bool} {k : Int} (hs : InsAt id X S h s) (hi : i < 3) (hk : kAt s.1.op i = k) (e0 : tm 0 = .ptr id 0) (e2 : tm 2 = .ptr X 0) (e7 : tm 7 = .ptr X (1 + i)) (e27 : tm 27 = I i) (e34 : tm 34 = I k) (e35 : tm 35 = Bo (decide (k = 1 ∨ k = 2))) :
    Ok (f97_k1 optB (Cw J) loopW tm h) fun r => r.1 = .normal ∧ r.2.tm 0 = tm 0 ∧ r.2.tm 2 = tm 2 ∧ r.2.tm 4 = tm 4 ∧ r.2.tm 26 = tm 26 ∧ r.2.tm 27 = I ((i + 1 : Nat) : Int) ∧ InsAt id X S r.2.h (stepI s.1.op i s) ∧ Keep2 id X h r.2.h := by
  obtain ⟨hr, hX, hS, n1, n2, n3, hf⟩ := hs
  have w1 : IntKind.i64.wrap ((i : Int) + 1) = ((i + 1 : Nat) : Int) := by rw [wrapI (by omega) (by omega)]; omega
  obtain ⟨x, l, bad⟩ := s
  simp only at hr hX hS hk hf ⊢
  -- behind a part that is put in its place
  have fin : ∀ (h1 : Heap) (p : Int × List Tok × Bool), partS k l bad = p → Rd h1 id p.2.1 p.2.2 → KeepO id h h1 →
      InsAt id X S (h1.set X (.cells 0 ((putP i k p.1 x).sv.map .sv) true)) (stepI x.op i (x, l, bad)) ∧ Keep2 id X h (h1.set X (.cells 0 ((putP i k p.1 x).sv.map .sv) true)) ∧ h1[X]? = some (.cells 0 (x.sv.map .sv) true) := by
    intro h1 p hp q1 q2
    have hX1 := q2.2 X _ n1 hX
    have hS1 := q2.2 S _ n2 hS
    have hlt := (List.getElem?_eq_some_iff.1 hX1).1
    refine ⟨⟨?_, ?_, ?_, n1, n2, n3, ?_⟩, (q2.two X).trans (Keep2.set2 id X h1 _), hX1⟩
    · unfold Rd
      rw [List.getElem?_set_ne n1]
      simp only [stepI, hk, hp]
      exact q1
    · simp only [stepI, hk, hp]
      simp [hlt]
    · rw [List.getElem?_set_ne (Ne.symm n3)]
      simp only [stepI, putP_op]
      exact hS1
    · simp only [stepI, hk]
      exact partS_few hf
  by_cases h12 : k = 1 ∨ k = 2
  · have hp : partS k l bad = behindS [114] l bad := if_pos h12
    simp -implicitDefEqProofs only [f97_k1, optB_b, e35, h12, decide_true, asB_bo, Option.bind_some, if_true, e0]
    refine Ok.bind (c148 [114] hr hf) ?_
    rintro ⟨v, h1⟩ ⟨hv, q1, q2⟩
    simp only at hv q1 q2
    subst hv
    obtain ⟨r1, r2, r3⟩ := fin h1 _ hp q1 q2
    simp -implicitDefEqProofs only [e7, nc_ptr, Option.bind_some, put_field r3 hi (show k ≠ 5 by omega) (show k ≠ 0 by omega), e27, bin_add, w1, ok_some]
    refine ⟨trivial, ?_, ?_, ?_, ?_, ?_, r1, r2⟩ <;> simp [upd, e0]
  · by_cases h3 : k = 3
    · have hp : partS k l bad = behindS [97] l bad := by subst h3; rfl
      simp -implicitDefEqProofs only [f97_k1, optB_b, e34, e35, h12, h3, decide_false, decide_true, asB_bo, Option.bind_some, if_true, Bool.false_eq_true, if_false, bin_eql, e0]
      refine Ok.bind (c148 [97] hr hf) ?_
      rintro ⟨v, h1⟩ ⟨hv, q1, q2⟩
      simp only at hv q1 q2
      subst hv
      obtain ⟨r1, r2, r3⟩ := fin h1 _ hp q1 q2
      simp -implicitDefEqProofs only [e7, nc_ptr, Option.bind_some, put_field r3 hi (show k ≠ 5 by omega) (show k ≠ 0 by omega), e27, bin_add, w1, ok_some]
      refine ⟨trivial, ?_, ?_, ?_, ?_, ?_, r1, r2⟩ <;> simp [upd, e0]
    · by_cases h4 : k = 4
      · have hp : partS k l bad = ((takeS 2 l bad).1.n, (takeS 2 l bad).2) := by subst h4; rfl
        simp -implicitDefEqProofs only [f97_k1, optB_b, e34, e35, h12, h3, h4, show ¬ ((4 : Int) = 3) by decide, decide_false, decide_true, asB_bo, Option.bind_some, if_true, Bool.false_eq_true, if_false, bin_eql, e0]
        refine Ok.bind (c96 2 hr hf.1) ?_
        rintro ⟨v, h1⟩ ⟨hv, q1, q2⟩
        simp only at hv q1 q2
        subst hv
        obtain ⟨r1, r2, r3⟩ := fin h1 _ hp q1 q2
        simp -implicitDefEqProofs only [fl2, e7, nc_ptr, Option.bind_some, put_field r3 hi (show k ≠ 5 by omega) (show k ≠ 0 by omega), e27, bin_add, w1, ok_some]
        refine ⟨trivial, ?_, ?_, ?_, ?_, ?_, r1, r2⟩ <;> simp [upd, e0]
      · by_cases h5 : k = 5
        · have hp : partS k l bad = signedS l bad := by subst h5; rfl
          simp -implicitDefEqProofs only [f97_k1, optB_b, e34, e35, h12, h3, h4, h5, show ¬ ((5 : Int) = 3) by decide, show ¬ ((5 : Int) = 4) by decide, decide_false, decide_true, asB_bo, Option.bind_some, if_true, Bool.false_eq_true, if_false, bin_eql, e0]
          refine Ok.bind (c149 hr hf) ?_
          rintro ⟨v, h1⟩ ⟨hv, q1, q2⟩
          simp only at hv q1 q2
          subst hv
          obtain ⟨r1, r2, r3⟩ := fin h1 _ hp q1 q2
          rw [h5] at r1 r2
          simp -implicitDefEqProofs only [e2, fa_ptr, Option.bind_some, put_n (i := i) r3, e27, bin_add, w1, ok_some]
          refine ⟨trivial, ?_, ?_, ?_, ?_, ?_, r1, r2⟩ <;> simp [upd, e0, e2]
        · have hk0 : k = 0 := by
            have := kd_range x.op
            have : 0 ≤ k ∧ k ≤ 5 := by
              rw [← hk]
              unfold kAt
              split
              · exact this.1
              · split
                · exact this.2.1
                · exact this.2.2
            omega
          have hp : partS k l bad = (0, l, bad) := by subst hk0; rfl
          simp -implicitDefEqProofs only [f97_k1, optB_b, e34, e35, h12, h3, h4, h5, decide_false, asB_bo, Option.bind_some, Bool.false_eq_true, if_false, bin_eql, e27, bin_add, w1, ok_some]
          have hst : stepI x.op i (x, l, bad) = (x, l, bad) := by
            subst hk0
            simp [stepI, hk, hp, putP]
          rw [hst]
          refine ⟨trivial, ?_, ?_, ?_, ?_, ?_, ⟨hr, hX, hS, n1, n2, n3, hf⟩, (KeepO.refl id h).two X⟩ <;> simp [upd, e0]

end
end Go.Proofs.Ytmhamnnfcmkcfaa

/- Code's functions come to the plain ones: an instruction, read, whole. -/
set_option maxRecDepth 100000
namespace Go.Proofs.Ytmhamnnfcmkcfaa
open Go.RowKit

section
variable {J : Option (List AV → Option AV)}

def chainI (op : Int) (s : Ins × List Tok × Bool) : Nat → Ins × List Tok × Bool
  | 0 => s
  | i + 1 => stepI op i (chainI op s i)

theorem chainI_op (op : Int) (s : Ins × List Tok × Bool) : ∀ i, (chainI op s i).1.op = s.1.op
  | 0 => rfl
  | i + 1 => by simp only [chainI, stepI, putP_op]; exact chainI_op op s i

def InsInv (id X S : Nat) (h0 : Heap) (s : Ins × List Tok × Bool) (n : Nat) (st : St) : Prop :=
  ∃ i : Nat, st.tm 0 = .ptr id 0 ∧ st.tm 2 = .ptr X 0 ∧ st.tm 4 = .ptr S 0 ∧ st.tm 26 = .agg [.ptr X 1, .ptr X 2, .ptr X 3] ∧ st.tm 27 = I i ∧ i ≤ 3 ∧ InsAt id X S st.h (chainI s.1.op s i) ∧ Keep2 id X h0 st.h ∧ n = 3 - i

def InsPost (id X S : Nat) (h0 : Heap) (s : Ins × List Tok × Bool) (r : Out × St) : Prop :=
  r.1 = .exit 0 ∧ r.2.tm 2 = .ptr X 0 ∧ InsAt id X S r.2.h (chainI s.1.op s 3) ∧ Keep2 id X h0 r.2.h

theorem l97_b0 {id X S : Nat} {h0 : Heap} {s : Ins × List Tok × Bool} (n : Nat) (st : St) (hI : InsInv id X S h0 s n st) : Ok (f97_b0 optB (Cw J) loopW st.tm st.h) (Nxt (InsInv id X S h0 s) (InsPost id X S h0 s) n) := by
  obtain ⟨tm, h⟩ := st
  obtain ⟨i, e0, e2, e4, e26, e27, hi, hA, hK, rfl⟩ := hI
  simp only at e0 e2 e4 e26 e27 hA hK ⊢
  by_cases hlt : i < 3
  · have h3 : (i : Int) < 3 := by omega
    have hop : (chainI s.1.op s i).1.op = s.1.op := chainI_op _ _ _
    have hix : ix (.arr 3 1 false none) (.agg [.ptr X 1, .ptr X 2, .ptr X 3]) (I i) = some (.ptr X (1 + i)) := by
      rw [arr3 hlt]
      rcases (by omega : i = 0 ∨ i = 1 ∨ i = 2) with rfl | rfl | rfl <;> rfl
    have hia : ia (.arr 3 1 false (some [.int .i64, .int .i64, .int .i64])) (.ptr S (0 + 1)) (I i) = some (.ptr S (1 + i)) := by
      rw [ia_ptr (i := i) rfl hlt]; simp
    have hk : ld 1 false (.ptr S (1 + i)) h = some (I (kAt s.1.op i)) := by
      rw [ld_ptr hA.2.2.1 (by simp [rowS]; omega), hop]
      rcases (by omega : i = 0 ∨ i = 1 ∨ i = 2) with rfl | rfl | rfl <;> rfl
    have after : ∀ (r : Out × St), (r.1 = .normal ∧ r.2.tm 0 = .ptr id 0 ∧ r.2.tm 2 = .ptr X 0 ∧ r.2.tm 4 = .ptr S 0 ∧ r.2.tm 26 = .agg [.ptr X 1, .ptr X 2, .ptr X 3] ∧ r.2.tm 27 = I ((i + 1 : Nat) : Int) ∧ InsAt id X S r.2.h (stepI (chainI s.1.op s i).1.op i (chainI s.1.op s i)) ∧ Keep2 id X h r.2.h) →
        Nxt (InsInv id X S h0 s) (InsPost id X S h0 s) (3 - i) r := by
      rintro ⟨o, st⟩ ⟨q1, q2, q3, q4, q5, q6, q7, q8⟩
      simp only at q1 q2 q3 q4 q5 q6 q7 q8
      subst q1
      rw [hop] at q7
      exact nxt_n (3 - (i + 1)) (by omega) ⟨i + 1, q2, q3, q4, q5, q6, by omega, q7, hK.trans q8, rfl⟩
    generalize hkk : kAt s.1.op i = k at *
    by_cases k1 : k = 1
    · have hd : decide (k = 1 ∨ k = 2) = true := decide_eq_true (.inl k1)
      simp -implicitDefEqProofs only [f97_b0, optB_b, e27, h3, bin_lss, Option.bind_some, decide_true, asB_bo, if_true, e26, hix, e4, fa_ptr, hia, hk, bin_eql, k1]
      refine (l97_k1 (k := k) hA hlt (by rw [hop]; exact hkk) ?_ ?_ ?_ ?_ ?_ ?_).mono fun r q => after r ?_
      · simp [upd, e0]
      · simp [upd, e2]
      · simp [upd]
      · simp [upd, e27]
      · simp [upd, k1]
      · simp [upd, hd]
      · obtain ⟨q1, q2, q3, q4, q5, q6, q7, q8⟩ := q
        exact ⟨q1, by rw [q2]; simp [upd, e0], by rw [q3]; simp [upd, e2], by rw [q4]; simp [upd, e4], by rw [q5]; simp [upd, e26], q6, q7, q8⟩
    · have hd : decide (k = 1 ∨ k = 2) = decide (k = 2) := by simp [k1]
      simp -implicitDefEqProofs only [f97_b0, optB_b, e27, h3, bin_lss, Option.bind_some, decide_true, asB_bo, if_true, e26, hix, e4, fa_ptr, hia, hk, bin_eql, k1, decide_false, Bool.false_eq_true, if_false]
      refine (l97_k1 (k := k) hA hlt (by rw [hop]; exact hkk) ?_ ?_ ?_ ?_ ?_ ?_).mono fun r q => after r ?_
      · simp [upd, e0]
      · simp [upd, e2]
      · simp [upd]
      · simp [upd, e27]
      · simp [upd]
      · simp [upd, hd]
      · obtain ⟨q1, q2, q3, q4, q5, q6, q7, q8⟩ := q
        exact ⟨q1, by rw [q2]; simp [upd, e0], by rw [q3]; simp [upd, e2], by rw [q4]; simp [upd, e4], by rw [q5]; simp [upd, e26], q6, q7, q8⟩
  · have : i = 3 := by omega
    subst this
    simp -implicitDefEqProofs only [f97_b0, optB_b, e27, bin_lss, Option.bind_some, show ¬ (((3 : Nat) : Int) < 3) by decide, decide_false, asB_bo, Bool.false_eq_true, if_false, ok_some]
    exact nxt_e ⟨rfl, by simp [upd, e2], hA, hK⟩

theorem l97_k0 {id X S : Nat} {tm : Tm} {h : Heap} {s : Ins × List Tok × Bool} (e0 : tm 0 = .ptr id 0) (e2 : tm 2 = .ptr X 0) (e4 : tm 4 = .ptr S 0) (hA : InsAt id X S h s) :
    Ok (f97_k0 optB (Cw J) loopW tm h) fun r => r.1 = .agg ((chainI s.1.op s 3).1.sv.map .sv) ∧ Rd r.2 id (chainI s.1.op s 3).2.1 (chainI s.1.op s 3).2.2 ∧ Keep2 id X h r.2 := by
  simp -implicitDefEqProofs only [f97_k0, optB_b, e2, c104, Option.bind_some]
  obtain ⟨a1, a2, a3, a4, a5, a6, a7⟩ := hA
  have hK0 : Keep2 id X h (h ++ [.cells 0 [.ptr X 1, .ptr X 2, .ptr X 3] true]) := (KeepO.app id h _).two X
  refine loop_ok (InsInv id X S (h ++ [.cells 0 [.ptr X 1, .ptr X 2, .ptr X 3] true]) s) (InsPost id X S (h ++ [.cells 0 [.ptr X 1, .ptr X 2, .ptr X 3] true]) s) (n := 3)
    ⟨0, ?_, ?_, ?_, ?_, ?_, by omega, ?_, ⟨Nat.le_refl _, fun _ _ _ _ h => h⟩, rfl⟩ (fun n st hI => l97_b0 n st hI) ?_
  · simp [upd, e0]
  · simp [upd, e2]
  · simp [upd, e4]
  · simp [upd]
  · simp [upd]
  · exact ⟨app_get a1 _, app_get a2 _, app_get a3 _, a4, a5, a6, a7⟩
  · rintro ⟨o, st⟩ ⟨rfl, q2, ⟨b1, b2, b3, b4, b5, b6, b7⟩, q4⟩
    simp only at q2 b1 b2 q4 ⊢
    have g : ld 5 true (.ptr X 0) st.h = some (.agg ((chainI s.1.op s 3).1.sv.map .sv)) := by
      rw [ld_ptr b2 (by simp [Ins.sv])]; rfl
    have st5 : storeA 5 (.ptr X 0) (.agg ((chainI s.1.op s 3).1.sv.map .sv)) st.h = some (.undef, st.h.set X (.cells 0 ((chainI s.1.op s 3).1.sv.map .sv) true)) := by
      rw [store_eq (n := 5) b2 (cellsOf_agg _) (by rfl) (by simp [Ins.sv])]; rfl
    have hlt := (List.getElem?_eq_some_iff.1 b2).1
    have g2 : ld 5 true (.ptr X 0) (st.h.set X (.cells 0 ((chainI s.1.op s 3).1.sv.map .sv) true)) = some (.agg ((chainI s.1.op s 3).1.sv.map .sv)) := by
      rw [ld_ptr (cs := (chainI s.1.op s 3).1.sv.map .sv) (esz := 0) (wr := true) (by simp [hlt]) (by simp [Ins.sv])]; rfl
    simp -implicitDefEqProofs only [outBlock_exit, if_true, outSeq_normal, f97_k2, optB_b, q2, g, Option.bind_some, st5, g2, ok_some]
    refine ⟨trivial, ?_, hK0.trans (q4.trans (Keep2.set2 id X _ _))⟩
    unfold Rd
    rw [List.getElem?_set_ne b4]
    exact b1

theorem c97 {id : Nat} {h : Heap} {l : List Tok} {bad : Bool} (hr : Rd h id l bad) (hl : Few l) :
    Ok (Cw J 97 [.ptr id 0] h) fun r => r.1 = .agg ((insS l bad).1.sv.map .sv) ∧ Rd r.2 id (insS l bad).2.1 (insS l bad).2.2 ∧ KeepO id h r.2 := by
  have hlt : id < h.length := (List.getElem?_eq_some_iff.1 hr).1
  have key : Ok (f97_sh optB (Cw J) loopW (.ptr id 0) h) fun r => r.1 = .agg ((insS l bad).1.sv.map .sv) ∧ Rd r.2 id (insS l bad).2.1 (insS l bad).2.2 ∧ KeepO id h r.2 := by
    have hal : alloc [.sv (.int .i64 0), .sv (.int .i64 0), .sv (.int .i64 0), .sv (.int .i64 0), .sv (.int .i64 0)] h = some (.ptr h.length 0, h ++ [.cells 0 ((⟨0, 0, 0, 0, 0⟩ : Ins).sv.map .sv) true]) := alloc_eq rfl
    simp -implicitDefEqProofs only [f97_sh, optB_b, hal, Option.bind_some]
    refine Ok.bind (c96 1 (app_get hr _) hl.1) ?_
    rintro ⟨v, h2⟩ ⟨hv, q1, q2⟩
    simp only at hv q1 q2
    subst hv
    have hf : Few (takeS 1 l bad).2.1 := hl.take
    have hX2 : h2[h.length]? = some (.cells 0 ((⟨0, 0, 0, 0, 0⟩ : Ins).sv.map .sv) true) := q2.2 _ _ (by omega) (heap_last _ _)
    unfold insS
    generalize takeS 1 l bad = t at *
    obtain ⟨tok, l1, b1⟩ := t
    simp only at q1 hf ⊢
    have hal2 : alloc [.sv (.str [])] h2 = some (.ptr h2.length 0, h2 ++ [.cells 0 [.sv (.str [])] true]) := alloc_eq rfl
    have hst2 : storeA 1 (.ptr h2.length 0) (Sr tok.s) (h2 ++ [.cells 0 [.sv (.str [])] true]) = some (.undef, h2 ++ [.cells 0 [Sr tok.s] true]) := by
      rw [store_eq (n := 1) (vs := [Sr tok.s]) (heap_last _ _) rfl rfl (by simp), heap_set_last]; rfl
    simp -implicitDefEqProofs only [fl1, Option.bind_some, hal2, hst2, c146]
    refine Ok.bind (c145 (heap_last _ _)) ?_
    rintro ⟨v, h4⟩ ⟨hv, hE⟩
    simp only at hv hE
    subst hv
    have hX4 := hE _ _ (app_get hX2 _)
    have hr4 : Rd h4 id l1 b1 := hE _ _ (app_get q1 _)
    have hXlt : h.length < h4.length := (List.getElem?_eq_some_iff.1 hX4).1
    generalize opOf tok.s = op at *
    have hst4 : storeA 1 (.ptr h.length (0 + 0)) (I op) h4 = some (.undef, h4.set h.length (.cells 0 ((⟨op, 0, 0, 0, 0⟩ : Ins).sv.map .sv) true)) := by
      rw [store_eq (n := 1) (vs := [I op]) hX4 rfl rfl (by simp [Ins.sv])]; rfl
    have hX5 : (h4.set h.length (.cells 0 ((⟨op, 0, 0, 0, 0⟩ : Ins).sv.map .sv) true))[h.length]? = some (.cells 0 ((⟨op, 0, 0, 0, 0⟩ : Ins).sv.map .sv) true) := by simp [hXlt]
    have hr5 : Rd (h4.set h.length (.cells 0 ((⟨op, 0, 0, 0, 0⟩ : Ins).sv.map .sv) true)) id l1 b1 := by
      unfold Rd
      rw [List.getElem?_set_ne (by omega)]
      exact hr4
    have hK5 : ∀ i e, i ≠ id → h[i]? = some e → (h4.set h.length (.cells 0 ((⟨op, 0, 0, 0, 0⟩ : Ins).sv.map .sv) true))[i]? = some e := by
      intro i e hi he
      have hil := (List.getElem?_eq_some_iff.1 he).1
      rw [List.getElem?_set_ne (by omega)]
      exact hE _ _ (app_get (q2.2 i e hi (app_get he _)) _)
    have hL5 : h.length < (h4.set h.length (.cells 0 ((⟨op, 0, 0, 0, 0⟩ : Ins).sv.map .sv) true)).length := by simp; exact hXlt
    have g5 : ld 1 false (.ptr h.length (0 + 0)) (h4.set h.length (.cells 0 ((⟨op, 0, 0, 0, 0⟩ : Ins).sv.map .sv) true)) = some (I op) := by
      rw [ld_ptr hX5 (by simp [Ins.sv])]; rfl
    generalize (h4.set h.length (.cells 0 ((⟨op, 0, 0, 0, 0⟩ : Ins).sv.map .sv) true)) = h5 at *
    have hal5 : alloc [.sv (.str []), .sv (.int .i64 0), .sv (.int .i64 0), .sv (.int .i64 0)] h5 = some (.ptr h5.length 0, h5 ++ [.cells 0 [.sv (.str []), .sv (.int .i64 0), .sv (.int .i64 0), .sv (.int .i64 0)] true]) := alloc_eq rfl
    have hst5 : storeA 4 (.ptr h5.length 0) (rowA op) (h5 ++ [.cells 0 [.sv (.str []), .sv (.int .i64 0), .sv (.int .i64 0), .sv (.int .i64 0)] true]) = some (.undef, h5 ++ [.cells 0 ((rowS (shp op)).map .sv) true]) := by
      rw [store_eq (n := 4) (heap_last _ _) (cellsOf_agg _) (by rfl) (by simp), heap_set_last]; rfl
    have hr6 : Rd (h5 ++ [.cells 0 ((rowS (shp op)).map .sv) true]) id l1 b1 := app_get hr5 _
    have hidlt5 : id < h5.length := (List.getElem?_eq_some_iff.1 hr5).1
    -- the end
    have fin : ∀ (tm : Tm) (h7 : Heap) (b : Bool), b = (b1 || !inR op) → tm 0 = .ptr id 0 → tm 2 = .ptr h.length 0 → tm 4 = .ptr h5.length 0 → Rd h7 id l1 b → KeepO id (h5 ++ [.cells 0 ((rowS (shp op)).map .sv) true]) h7 →
        Ok (f97_k0 optB (Cw J) loopW tm h7) fun r => r.1 = .agg ((stepI op 2 (stepI op 1 (stepI op 0 (⟨op, 0, 0, 0, 0⟩, l1, b1 || !inR op)))).1.sv.map .sv) ∧
          Rd r.2 id (stepI op 2 (stepI op 1 (stepI op 0 (⟨op, 0, 0, 0, 0⟩, l1, b1 || !inR op)))).2.1 (stepI op 2 (stepI op 1 (stepI op 0 (⟨op, 0, 0, 0, 0⟩, l1, b1 || !inR op)))).2.2 ∧ KeepO id h r.2 := by
      intro tm h7 b hb t0 t2 t4 hr7 hK7
      subst hb
      refine (l97_k0 (s := (⟨op, 0, 0, 0, 0⟩, l1, b1 || !inR op)) t0 t2 t4 ⟨hr7, hK7.2 _ _ (by omega) (app_get hX5 _), hK7.2 _ _ (by omega) (heap_last _ _), by omega, by omega, by omega, hf⟩).mono ?_
      rintro ⟨v, h8⟩ ⟨p1, p2, p3⟩
      have hl7 := hK7.1
      rw [List.length_append] at hl7
      refine ⟨p1, p2, Nat.le_trans (by omega) p3.1, fun i e hi he => ?_⟩
      have hil := (List.getElem?_eq_some_iff.1 he).1
      exact p3.2 i e hi (by omega) (hK7.2 i e hi (app_get (hK5 i e hi he) _))
    cases hin : inR op with
    | true =>
      simp -implicitDefEqProofs only [Option.bind_some, fa_ptr, hst4, g5, c103, ex_tuple, List.getElem?_cons_zero, List.getElem?_cons_succ, hal5, hst5, hin, un_not, Bool.not_true, asB_bo, Bool.false_eq_true, if_false]
      rw [hin] at fin
      refine fin _ _ b1 (by simp) ?_ ?_ ?_ hr6 (KeepO.refl _ _) <;> simp [upd]
    | false =>
      have hsb : storeA 1 (.ptr id (0 + 1)) (Bo true) (h5 ++ [.cells 0 ((rowS (shp op)).map .sv) true]) = some (.undef, List.set (h5 ++ [Ent.cells 0 ((rowS (shp op)).map .sv) true]) id (Ent.cells 0 [.sv (toksSV l1), Bo true] true)) := rd_setb hr6 true
      simp -implicitDefEqProofs only [Option.bind_some, fa_ptr, hst4, g5, c103, ex_tuple, List.getElem?_cons_zero, List.getElem?_cons_succ, hal5, hst5, hin, un_not, Bool.not_false, asB_bo, if_true, nc_ptr, hsb]
      rw [hin] at fin
      refine fin _ _ true (by simp) ?_ ?_ ?_ (rd_of_set (by simp; omega)) (KeepO.set _ _ _) <;> simp [upd]
  obtain ⟨r, h1, h2⟩ := key
  exact ⟨r, call_sh Try.func97 (by kernel_rfl) (by rfl) ((f97_eq _ _ _ _ _).trans h1), h2⟩

end
end Go.Proofs.Ytmhamnnfcmkcfaa

/- Code's functions come to the plain ones: code, read. -/
set_option maxRecDepth 100000
namespace Go.Proofs.Ytmhamnnfcmkcfaa
open Go.RowKit

/-! ### What was cut is few -/

theorem readS_s (s : List UInt8) : (readS s).1.s = s := by
  unfold readS
  split
  · rfl
  · split <;> rfl

theorem cutF_few : ∀ (f : Nat) (s : List UInt8) (i : Nat) (e : Bool) (out res : List Tok) (m : Nat), cutF f s i e out = .ok res → s.length ≤ m → (∀ t ∈ out, t.s.length ≤ m) → ∀ t ∈ res, t.s.length ≤ m := by
  intro f
  induction f with
  | zero => intro s i e out res m h _ ho; cases h; exact ho
  | succ f ih =>
    intro s i e out res m h hs ho
    cases s with
    | nil => cases h; exact ho
    | cons c r =>
      simp only [cutF] at h
      simp only [List.length_cons] at hs
      split at h
      · exact ih _ _ _ _ _ m h (by omega) ho
      · split at h
        · exact ih _ _ _ _ _ m h (by omega) ho
        · split at h
          · split at h
            · cases h; exact ho
            · exact ih _ _ _ _ _ m h (by simp; omega) ho
          · split at h
            · refine ih _ _ _ _ _ m h (by simp; omega) ?_
              intro t ht
              rcases List.mem_append.1 ht with q | q
              · split at q
                · rcases List.mem_append.1 q with q | q
                  · exact ho t q
                  · simp at q; subst q; simp [lineT]
                · exact ho t q
              · simp at q
                subst q
                rw [readS_s]
                simp; omega
            · cases h

theorem cutS_few {s : List UInt8} (h : (cutS s).2.2 = 0) : (cutS s).1.length ≤ 4096 ∧ ∀ t ∈ (cutS s).1, t.s.length ≤ 65536 := by
  unfold cutS at h ⊢
  split at h
  · cases h
  · rename_i hs
    rw [if_neg hs]
    cases hout : cutF s.length s 0 false [] with
    | error i => rw [hout] at h; cases h
    | ok out =>
      rw [hout] at h
      simp only at h ⊢
      split at h
      · cases h
      · rename_i ho
        rw [if_neg ho]
        exact ⟨by simp only; omega, cutF_few _ _ _ _ _ _ 65536 hout (by omega) (by simp)⟩

theorem linesF_sub : ∀ (f : Nat) (l : List Tok) (x : List Tok), x ∈ linesF f l → x.length ≤ l.length ∧ ∀ t ∈ x, t ∈ l := by
  intro f
  induction f with
  | zero => intro l x h; simp [linesF] at h
  | succ f ih =>
    intro l x h
    cases l with
    | nil => simp [linesF] at h
    | cons t r =>
      simp only [linesF] at h
      split at h
      · simp at h; subst h; exact ⟨Nat.le_refl _, fun t h => h⟩
      · rename_i i hi
        rcases List.mem_cons.1 h with rfl | h
        · exact ⟨by simp; omega, fun t ht => List.mem_of_mem_take ht⟩
        · split at h
          · simp at h; subst h; exact ⟨by simp, fun t ht => by simp at ht⟩
          · obtain ⟨h1, h2⟩ := ih _ _ h
            exact ⟨Nat.le_trans h1 (by simp; omega), fun t ht => List.mem_of_mem_drop (h2 t ht)⟩

theorem linesF_len : ∀ (f : Nat) (l : List Tok), (linesF f l).length ≤ l.length + 1 := by
  intro f
  induction f with
  | zero => intro l; simp [linesF]
  | succ f ih =>
    intro l
    cases l with
    | nil => simp [linesF]
    | cons t r =>
      simp only [linesF]
      split
      · simp
      · rename_i i hi
        have hlt := (List.findIdx?_eq_some_iff_getElem.1 hi).1
        simp only [List.length_cons] at hlt ⊢
        split
        · simp
        · have := ih ((t :: r).drop (i + 1))
          simp only [List.length_drop, List.length_cons] at this
          omega

/-! ### The loop -/

section
variable {J : Option (List AV → Option AV)}

def COb (h : Heap) (a b c : Int) (v : AV) : Prop := h[0]? = some (.cells 0 [I a, I b, I c, v] true)

def PBad (l0 : List Tok) (ls : List (List Tok)) (j : Nat) : Prop :=
  (((headS l0).2.2 || decide (0 < (headS l0).2.1.length)) = true ∧ j = 0) ∨ (((headS l0).2.2 || decide (0 < (headS l0).2.1.length)) = false ∧ bodyS ls 1 [] = .error j)

def ParInv (l0 : List Tok) (ls : List (List Tok)) (n : Nat) (st : St) : Prop :=
  ∃ (i : Nat) (a b c : Int) (v : AV) (xs : List Ins), st.tm 2 = .ptr 0 0 ∧ st.tm 30 = .sv (linesSV (l0 :: ls)) ∧ st.tm 8 = .sv (linesSV (l0 :: ls)) ∧ st.tm 31 = I ((l0 :: ls).length : Nat) ∧ st.tm 32 = I i ∧ i ≤ (l0 :: ls).length ∧ n = (l0 :: ls).length - i ∧
    COb st.h a b c v ∧ IsRow st.h 5 v (xs.map Ins.sv) ∧ xs.length ≤ i ∧
    (if i = 0 then a = 0 ∧ b = 0 ∧ c = 0 ∧ v = .nil ∧ xs = [] else ((headS l0).2.2 || decide (0 < (headS l0).2.1.length)) = false ∧ a = (headS l0).1.1 ∧ b = (headS l0).1.2.1 ∧ c = (headS l0).1.2.2 ∧ bodyS ((l0 :: ls).drop i) i xs = bodyS ls 1 [])

def ParPost (l0 : List Tok) (ls : List (List Tok)) (r : Out × St) : Prop :=
  r.2.tm 2 = .ptr 0 0 ∧ ((r.1 = .ret ∧ COb r.2.h 0 0 0 .nil ∧ r.2.tm 4 = I 6 ∧ ∃ j : Nat, r.2.tm 3 = I j ∧ PBad l0 ls j) ∨
    (r.1 = .exit 0 ∧ r.2.tm 8 = .sv (linesSV (l0 :: ls)) ∧ ((headS l0).2.2 || decide (0 < (headS l0).2.1.length)) = false ∧ ∃ v xs, COb r.2.h (headS l0).1.1 (headS l0).1.2.1 (headS l0).1.2.2 v ∧ IsRow r.2.h 5 v (xs.map Ins.sv) ∧ bodyS ls 1 [] = .ok xs ∧ xs.length ≤ ls.length + 1))

/-- Behind a line. -/
theorem l33_k0 {tm : Tm} {h : Heap} {R i : Nat} {l : List Tok} {bad : Bool} {a b c : Int} {v : AV} (e2 : tm 2 = .ptr 0 0) (e11 : tm 11 = .ptr R 0) (e9 : tm 9 = I i) (e32 : tm 32 = I i) (hr : Rd h R l bad) (hc : COb h a b c v) (hi : i ≤ 1000000000) :
    Ok (f33_k0 optB (Cw J) loopW tm h) fun r => r.2.tm 2 = .ptr 0 0 ∧ (if (bad || decide (0 < l.length)) = true then r.1 = .ret ∧ COb r.2.h 0 0 0 .nil ∧ r.2.tm 4 = I 6 ∧ r.2.tm 3 = I i
      else r.1 = .normal ∧ r.2.h = h ∧ r.2.tm 30 = tm 30 ∧ r.2.tm 8 = tm 8 ∧ r.2.tm 31 = tm 31 ∧ r.2.tm 32 = I ((i + 1 : Nat) : Int)) := by
  have g1 := rd_b hr
  have g0 := rd_l hr
  have hln := ln_toks l
  have hbd : bdA tab 39 [] = some (.agg [I 0, I 0, I 0, .nil]) := by rfl
  have hst : storeA 4 (.ptr 0 0) (.agg [I 0, I 0, I 0, .nil]) h = some (.undef, h.set 0 (.cells 0 [I 0, I 0, I 0, .nil] true)) := by
    rw [store_eq (n := 4) (vs := [I 0, I 0, I 0, .nil]) hc rfl rfl (by simp)]; rfl
  have h0 := (List.getElem?_eq_some_iff.1 hc).1
  have w1 : IntKind.i64.wrap ((i : Int) + 1) = ((i + 1 : Nat) : Int) := by rw [wrapI (by omega) (by omega)]; omega
  cases bad with
  | true =>
    simp -implicitDefEqProofs only [f33_k0, optB_b, e11, nc_ptr, Option.bind_some, fa_ptr, g1, gO_ff, if_true, asB_bo, hbd, e2, hst, e9, ok_some, Bool.true_or]
    refine ⟨by simp [upd, e2], trivial, by simp [COb, h0], by simp [upd], by simp [upd]⟩
  | false =>
    by_cases hl : 0 < l.length
    · have hl' : (0 : Int) < l.length := by omega
      simp -implicitDefEqProofs only [f33_k0, optB_b, e11, nc_ptr, Option.bind_some, fa_ptr, g1, g0, hln, bin_gtr, hl', decide_true, gO_ff, if_true, if_false, Bool.false_eq_true, asB_bo, hbd, e2, hst, e9, ok_some, hl, Bool.false_or]
      refine ⟨by simp [upd, e2], trivial, by simp [COb, h0], by simp [upd], by simp [upd]⟩
    · have hl' : ¬ (0 : Int) < l.length := by omega
      simp -implicitDefEqProofs only [f33_k0, optB_b, e11, nc_ptr, Option.bind_some, fa_ptr, g1, g0, hln, bin_gtr, hl', decide_false, gO_ff, if_false, Bool.false_eq_true, asB_bo, e32, bin_add, w1, ok_some, hl, Bool.false_or]
      refine ⟨by simp [upd, e2], trivial, trivial, ?_, ?_, ?_, ?_⟩ <;> simp [upd]

end
end Go.Proofs.Ytmhamnnfcmkcfaa

/- Code's functions come to the plain ones: code, read, line by line. -/
set_option maxRecDepth 100000
namespace Go.Proofs.Ytmhamnnfcmkcfaa
open Go.RowKit

section
variable {J : Option (List AV → Option AV)}

theorem COb.set {h : Heap} {a b c a' b' c' : Int} {v : AV} (hc : COb h a b c v) : COb (h.set 0 (.cells 0 [I a', I b', I c', v] true)) a' b' c' v := by
  have h0 := (List.getElem?_eq_some_iff.1 hc).1
  simp [COb, h0]

theorem Rd.set0 {h : Heap} {R : Nat} {l : List Tok} {b : Bool} (hr : Rd h R l b) (hR : R ≠ 0) (e : Ent) : Rd (h.set 0 e) R l b := by
  unfold Rd
  rw [List.getElem?_set_ne (Ne.symm hR)]
  exact hr

theorem put_c0 {h : Heap} {a b c : Int} {v : AV} (hc : COb h a b c v) (x : Int) : storeA 1 (.ptr 0 (0 + 0)) (I x) h = some (.undef, h.set 0 (.cells 0 [I x, I b, I c, v] true)) := by
  rw [store_eq (n := 1) (vs := [I x]) hc rfl rfl (by simp)]; rfl
theorem put_c1 {h : Heap} {a b c : Int} {v : AV} (hc : COb h a b c v) (x : Int) : storeA 1 (.ptr 0 (0 + 1)) (I x) h = some (.undef, h.set 0 (.cells 0 [I a, I x, I c, v] true)) := by
  rw [store_eq (n := 1) (vs := [I x]) hc rfl rfl (by simp)]; rfl
theorem put_c2 {h : Heap} {a b c : Int} {v : AV} (hc : COb h a b c v) (x : Int) : storeA 1 (.ptr 0 (0 + 2)) (I x) h = some (.undef, h.set 0 (.cells 0 [I a, I b, I x, v] true)) := by
  rw [store_eq (n := 1) (vs := [I x]) hc rfl rfl (by simp)]; rfl
theorem put_c3 {h : Heap} {a b c : Int} {v v' : AV} (hc : COb h a b c v) (hv : cellsOf v' = some [v']) : storeA 1 (.ptr 0 (0 + 3)) v' h = some (.undef, h.set 0 (.cells 0 [I a, I b, I c, v'] true)) := by
  rw [store_eq (n := 1) (vs := [v']) hc hv rfl (by simp)]; rfl
theorem get_c3 {h : Heap} {a b c : Int} {v : AV} (hc : COb h a b c v) : ld 1 false (.ptr 0 (0 + 3)) h = some v := by
  rw [ld_ptr hc (by simp)]; rfl

theorem IsRow.set0 {h : Heap} {v : AV} {rows : List (List SV)} (hr : IsRow h 5 v rows) {cs cs' : List AV} {wr wr' : Bool} (h0 : h[0]? = some (.cells 0 cs wr)) : IsRow (h.set 0 (.cells 0 cs' wr')) 5 v rows := by
  refine ⟨hr.1, ?_⟩
  rcases hr.2 with q | ⟨id, q, h3⟩
  · exact .inl q
  · refine .inr ⟨id, q, ?_⟩
    have : id ≠ 0 := fun e => by subst e; rw [h0] at h3; cases h3
    rw [List.getElem?_set_ne (Ne.symm this)]
    exact h3

theorem IsRow.keepO {h h' : Heap} {R : Nat} {v : AV} {rows : List (List SV)} {cs : List AV} {wr : Bool} (hr : IsRow h 5 v rows) (hR : h[R]? = some (.cells 0 cs wr)) (hk : KeepO R h h') : IsRow h' 5 v rows := by
  refine ⟨hr.1, ?_⟩
  rcases hr.2 with q | ⟨id, q, h3⟩
  · exact .inl q
  · refine .inr ⟨id, q, hk.2 _ _ ?_ h3⟩
    intro e
    subst e
    rw [hR] at h3
    cases h3

theorem l33_b0 {l0 : List Tok} {ls : List (List Tok)} (hfew : ∀ l ∈ l0 :: ls, Few l) (hlen : (l0 :: ls).length ≤ 100000000) (n : Nat) (st : St) (hI : ParInv l0 ls n st) : Ok (f33_b0 optB (Cw J) loopW st.tm st.h) (Nxt (ParInv l0 ls) (ParPost l0 ls) n) := by
  obtain ⟨tm, h⟩ := st
  obtain ⟨i, a, b, c, v, xs, e2, e30, e8, e31, e32, hi, rfl, hc, hrow, hxl, hsp⟩ := hI
  simp only at e2 e30 e8 e31 e32 hc hrow ⊢
  by_cases hlt : i < (l0 :: ls).length
  · have hlt' : (i : Int) < ((l0 :: ls).length : Nat) := by omega
    have hget : (l0 :: ls)[i]? = some ((l0 :: ls)[i]) := List.getElem?_eq_getElem hlt
    generalize hl : (l0 :: ls)[i] = l at *
    have hFl : Few l := hfew l (List.mem_of_getElem? hget)
    have hia : ia (.slice 22 1 24 false) (.sv (linesSV (l0 :: ls))) (I i) = some (.ref [toksSV l]) := ia_sv rfl (by rw [List.getElem?_map, hget]; rfl) rfl
    have hld : ld 1 false (.ref [toksSV l]) h = some (.sv (toksSV l)) := rfl
    have hbd : bdA tab 127 [(0, .sv (toksSV l))] = some (.agg [.sv (toksSV l), Bo false]) := by rfl
    have hbox : boxA 2 (.agg [.sv (toksSV l), Bo false]) h = some (.ptr h.length 0, h ++ [.cells 0 [.sv (toksSV l), Bo false] true]) := box_eq rfl rfl rfl
    have hr0 : Rd (h ++ [.cells 0 [.sv (toksSV l), Bo false] true]) h.length l false := heap_last _ _
    have hc0 : COb (h ++ [.cells 0 [.sv (toksSV l), Bo false] true]) a b c v := app_get hc _
    have hrow0 : IsRow (h ++ [.cells 0 [.sv (toksSV l), Bo false] true]) 5 v (xs.map Ins.sv) := hrow.app _
    have hR : h.length ≠ 0 := by have := (List.getElem?_eq_some_iff.1 hc).1; omega
    generalize h ++ [.cells 0 [.sv (toksSV l), Bo false] true] = h1 at *
    generalize h.length = R at *
    by_cases hi0 : i = 0
    · subst hi0
      obtain ⟨rfl, rfl, rfl, rfl, rfl⟩ := by simpa using hsp
      have hl0 : l = l0 := by simpa using hget.symm
      subst hl0
      have e32' : tm 32 = I 0 := e32
      have hlt'' : (0 : Int) < ((l :: ls).length : Nat) := hlt'
      have hia' : ia (.slice 22 1 24 false) (.sv (linesSV (l :: ls))) (I 0) = some (.ref [toksSV l]) := hia
      simp -implicitDefEqProofs only [f33_b0, optB_b, e32', e31, hlt'', bin_lss, Option.bind_some, decide_true, asB_bo, if_true, e30, hia', hld, hbd, hbox, bin_eql]
      refine Ok.bind (c96 1 hr0 hFl.1) ?_
      rintro ⟨v1, h2⟩ ⟨hv, r2, k2⟩
      simp only at hv r2 k2
      subst hv
      have hc2 : COb h2 0 0 0 .nil := k2.2 _ _ (Ne.symm hR) hc0
      have hF2 : Few (takeS 1 l false).2.1 := hFl.take
      have hhead : headS l = (let t := takeS 1 l false
        let a := takeS 2 t.2.1 (decide (t.1.s ≠ [99, 111, 100, 101]))
        let b := takeS 2 a.2.1 a.2.2
        let c := takeS 2 b.2.1 b.2.2
        ((a.1.n, b.1.n, c.1.n), c.2)) := rfl
      generalize takeS 1 l false = t at *
      obtain ⟨tok, l1, b1⟩ := t
      simp only at r2 hF2 hhead ⊢
      have hdn : (!decide (tok.s = [99, 111, 100, 101])) = decide (tok.s ≠ [99, 111, 100, 101]) := by simp
      have hRlt := (List.getElem?_eq_some_iff.1 r2).1
      have r3 : Rd (h2.set R (.cells 0 [.sv (toksSV l1), Bo (decide (tok.s ≠ [99, 111, 100, 101]))] true)) R l1 (decide (tok.s ≠ [99, 111, 100, 101])) := rd_of_set hRlt
      have hsb := rd_setb r2 (decide (tok.s ≠ [99, 111, 100, 101]))
      have hc3 : COb (h2.set R (.cells 0 [.sv (toksSV l1), Bo (decide (tok.s ≠ [99, 111, 100, 101]))] true)) 0 0 0 .nil := by
        unfold COb
        rw [List.getElem?_set_ne hR]
        exact hc2
      simp -implicitDefEqProofs only [fl1, Option.bind_some, bin_neqS, hdn, nc_ptr, fa_ptr, hsb]
      generalize h2.set R (.cells 0 [.sv (toksSV l1), Bo (decide (tok.s ≠ [99, 111, 100, 101]))] true) = h3 at *
      generalize decide (tok.s ≠ [99, 111, 100, 101]) = b3 at *
      refine Ok.bind (c96 2 r3 hF2.1) ?_
      rintro ⟨v1, h4⟩ ⟨hv, r4, k4⟩
      simp only at hv r4 k4
      subst hv
      have hF4 : Few (takeS 2 l1 b3).2.1 := hF2.take
      have hc4 : COb h4 0 0 0 .nil := k4.2 _ _ (Ne.symm hR) hc3
      generalize takeS 2 l1 b3 = t2 at *
      obtain ⟨tok2, l2, b2⟩ := t2
      simp only at r4 hF4 hhead ⊢
      simp -implicitDefEqProofs only [fl2, Option.bind_some, e2, fa_ptr, put_c0 hc4]
      have r5 := r4.set0 hR (.cells 0 [I tok2.n, I 0, I 0, .nil] true)
      have hc5 : COb (h4.set 0 (.cells 0 [I tok2.n, I 0, I 0, .nil] true)) tok2.n 0 0 .nil := hc4.set
      generalize h4.set 0 (.cells 0 [I tok2.n, I 0, I 0, .nil] true) = h5 at *
      refine Ok.bind (c96 2 r5 hF4.1) ?_
      rintro ⟨v1, h6⟩ ⟨hv, r6, k6⟩
      simp only at hv r6 k6
      subst hv
      have hF6 : Few (takeS 2 l2 b2).2.1 := hF4.take
      have hc6 : COb h6 tok2.n 0 0 .nil := k6.2 _ _ (Ne.symm hR) hc5
      generalize takeS 2 l2 b2 = t3 at *
      obtain ⟨tok3, l3, b3'⟩ := t3
      simp only at r6 hF6 hhead ⊢
      simp -implicitDefEqProofs only [fl2, Option.bind_some, fa_ptr, put_c1 hc6]
      have r7 := r6.set0 hR (.cells 0 [I tok2.n, I tok3.n, I 0, .nil] true)
      have hc7 : COb (h6.set 0 (.cells 0 [I tok2.n, I tok3.n, I 0, .nil] true)) tok2.n tok3.n 0 .nil := hc6.set
      generalize h6.set 0 (.cells 0 [I tok2.n, I tok3.n, I 0, .nil] true) = h7 at *
      refine Ok.bind (c96 2 r7 hF6.1) ?_
      rintro ⟨v1, h8⟩ ⟨hv, r8, k8⟩
      simp only at hv r8 k8
      subst hv
      have hc8 : COb h8 tok2.n tok3.n 0 .nil := k8.2 _ _ (Ne.symm hR) hc7
      generalize takeS 2 l3 b3' = t4 at *
      obtain ⟨tok4, l4, b4⟩ := t4
      simp only at r8 hhead ⊢
      simp -implicitDefEqProofs only [fl2, Option.bind_some, fa_ptr, put_c2 hc8]
      have r9 := r8.set0 hR (.cells 0 [I tok2.n, I tok3.n, I tok4.n, .nil] true)
      have hc9 : COb (h8.set 0 (.cells 0 [I tok2.n, I tok3.n, I tok4.n, .nil] true)) tok2.n tok3.n tok4.n .nil := hc8.set
      generalize h8.set 0 (.cells 0 [I tok2.n, I tok3.n, I tok4.n, .nil] true) = h9 at *
      refine (l33_k0 (i := 0) ?_ ?_ ?_ ?_ r9 hc9 (by omega)).mono ?_
      · simp [upd, e2]
      · simp [upd]
      · simp [upd, e32]
      · simp [upd, e32]
      · rintro ⟨o, st⟩ ⟨p1, p2⟩
        split at p2
        · rename_i hbad
          obtain ⟨q1, q2, q3, q4⟩ := p2
          simp only at p1 q1 q2 q3 q4
          subst q1
          exact nxt_r ⟨p1, .inl ⟨rfl, q2, q3, 0, q4, .inl ⟨by rw [hhead]; exact hbad, rfl⟩⟩⟩
        · rename_i hbad
          obtain ⟨q1, q2, q3, q4, q5, q6⟩ := p2
          simp only at p1 q1 q2 q3 q4 q5 q6
          subst q1
          have hb' : (b4 || decide (0 < l4.length)) = false := by simpa using hbad
          refine nxt_n ((l :: ls).length - 1) (by simp) ⟨1, tok2.n, tok3.n, tok4.n, .nil, [], p1, ?_, ?_, ?_, q6, by simp, rfl, ?_, ?_, by simp, ?_⟩
          · rw [q3]; simp [upd, e30]
          · rw [q4]; simp [upd, e8]
          · rw [q5]; simp [upd, e31]
          · rw [q2]; exact hc9
          · exact IsRow.nil _ 5
          · rw [if_neg (by omega), hhead]
            exact ⟨hb', rfl, rfl, rfl, rfl⟩
    · rw [if_neg hi0] at hsp
      obtain ⟨s0, s1, s2, s3, s4⟩ := hsp
      have hi0' : ¬ ((i : Int) = 0) := by omega
      have g3 := get_c3 hc0
      simp -implicitDefEqProofs only [f33_b0, optB_b, e32, e31, hlt', bin_lss, Option.bind_some, decide_true, asB_bo, if_true, e30, hia, hld, hbd, hbox, bin_eql, hi0', decide_false, Bool.false_eq_true, if_false, e2, fa_ptr, g3]
      refine Ok.bind (c97 hr0 hFl) ?_
      rintro ⟨v1, h2⟩ ⟨hv, r2, k2⟩
      simp only at hv r2 k2
      subst hv
      have hc2 : COb h2 a b c v := k2.2 _ _ (Ne.symm hR) hc0
      have hrow2 := hrow0.keepO hr0 k2
      rw [drop_at hlt, hl] at s4
      simp only [bodyS] at s4
      generalize insS l false = t at *
      obtain ⟨x, l2, b2⟩ := t
      simp only at r2 s4 ⊢
      obtain ⟨v', h', -, q2, q3, q4, q5, q6, id, q7, q8⟩ := push_one (e := 47) (b := 40) (y := false) (z := [.sv (.int .i64 0), .sv (.int .i64 0), .sv (.int .i64 0), .sv (.int .i64 0), .sv (.int .i64 0)]) (x := .agg (x.sv.map .sv)) (c := x.sv) hrow2 rfl rfl (by decide) (cellsOf_agg _) rfl (by decide) (by decide) (by simp; omega)
      have hc3 : COb (h2 ++ [.cells 5 (x.sv.map .sv) true]) a b c v := app_get hc2 _
      have hc4 : COb h' a b c v := q5 _ _ hc2 (hrow2.other hc2 (by decide))
      have r4 : Rd h' R l2 b2 := q5 _ _ r2 (hrow2.other r2 (by decide))
      have hv' : cellsOf v' = some [v'] := by rw [q7]; rfl
      simp -implicitDefEqProofs only [gChk, gO_none, get_c3 hc2, if_true, q2, Option.bind_some, get_c3 hc3, q3, fa_ptr, put_c3 hc4 hv']
      have r5 := r4.set0 hR (.cells 0 [I a, I b, I c, v'] true)
      have hc5 : COb (h'.set 0 (.cells 0 [I a, I b, I c, v'] true)) a b c v' := by
        have h0 := (List.getElem?_eq_some_iff.1 hc4).1
        simp [COb, h0]
      have hrow5 : IsRow (h'.set 0 (.cells 0 [I a, I b, I c, v'] true)) 5 v' ((xs ++ [x]).map Ins.sv) := by
        have := q4.set0 (cs' := [I a, I b, I c, v']) (wr' := true) hc4
        simpa using this
      generalize h'.set 0 (.cells 0 [I a, I b, I c, v'] true) = h5 at *
      refine (l33_k0 (i := i) ?_ ?_ ?_ ?_ r5 hc5 (by omega)).mono ?_
      · simp [upd, e2]
      · simp [upd]
      · simp [upd, e32]
      · simp [upd, e32]
      · rintro ⟨o, st⟩ ⟨p1, p2⟩
        split at p2
        · rename_i hbad
          obtain ⟨t1, t2, t3, t4⟩ := p2
          simp only at p1 t1 t2 t3 t4
          subst t1
          rw [if_pos hbad] at s4
          exact nxt_r ⟨p1, .inl ⟨rfl, t2, t3, i, t4, .inr ⟨s0, s4.symm⟩⟩⟩
        · rename_i hbad
          obtain ⟨t1, t2, t3, t4, t5, t6⟩ := p2
          simp only at p1 t1 t2 t3 t4 t5 t6
          subst t1
          rw [if_neg hbad] at s4
          refine nxt_n ((l0 :: ls).length - (i + 1)) (by omega) ⟨i + 1, a, b, c, v', xs ++ [x], p1, ?_, ?_, ?_, t6, by omega, rfl, ?_, ?_, by simp; omega, ?_⟩
          · rw [t3]; simp [upd, e30]
          · rw [t4]; simp [upd, e8]
          · rw [t5]; simp [upd, e31]
          · rw [t2]; exact hc5
          · rw [t2]; exact hrow5
          · rw [if_neg (by omega)]
            exact ⟨s0, s1, s2, s3, s4⟩
  · have hieq : i = (l0 :: ls).length := by omega
    have hlt' : ¬ (i : Int) < ((l0 :: ls).length : Nat) := by omega
    simp -implicitDefEqProofs only [f33_b0, optB_b, e32, e31, hlt', bin_lss, Option.bind_some, decide_false, asB_bo, Bool.false_eq_true, if_false, ok_some]
    rw [if_neg (by simp at hieq; omega)] at hsp
    obtain ⟨s0, rfl, rfl, rfl, s4⟩ := hsp
    rw [List.drop_of_length_le (by omega)] at s4
    refine nxt_e ⟨by simp [upd, e2], .inr ⟨rfl, by simp [upd, e8], s0, v, xs, hc, hrow, s4.symm, by simp at hieq; omega⟩⟩

end
end Go.Proofs.Ytmhamnnfcmkcfaa

/- Code's functions come to the plain ones: code, read, whole. -/
set_option maxRecDepth 100000
namespace Go.Proofs.Ytmhamnnfcmkcfaa
open Go.RowKit

section
variable {J : Option (List AV → Option AV)}

/-- A row, written or settled. -/
def RowL (h : Heap) (esz : Nat) (v : AV) (rows : List (List SV)) : Prop := (∀ r ∈ rows, r.length = esz) ∧ ((v = .nil ∧ rows = []) ∨ ∃ id wr, v = .own id 0 rows.length ∧ h[id]? = some (.cells esz (rows.flatten.map .sv) wr))

theorem IsRow.low {h : Heap} {esz : Nat} {v : AV} {rows : List (List SV)} (hr : IsRow h esz v rows) : RowL h esz v rows := by
  refine ⟨hr.1, ?_⟩
  rcases hr.2 with q | ⟨id, q1, q2⟩
  · exact .inl q
  · exact .inr ⟨id, true, q1, q2⟩

theorem frzC_row {h : Heap} {esz n : Nat} {v : AV} {rows : List (List SV)} (hr : RowL h esz v rows) (he : 0 < esz) : ∃ ids, frzC (n + 1) h v = some (.slice rows, ids) ∧ ∀ i ∈ ids, ∃ wr, h[i]? = some (.cells esz (rows.flatten.map .sv) wr) := by
  rcases hr.2 with ⟨rfl, rfl⟩ | ⟨id, wr, rfl, h3⟩
  · exact ⟨[], rfl, by simp⟩
  · exact ⟨[id], frz_own he hr.1 h3, fun i hi => by simp at hi; subst hi; exact ⟨wr, h3⟩⟩

/-- Code's value, settled. -/
theorem frz_cod {h : Heap} {a b c : Int} {v : AV} {xs : List Ins} (hr : RowL h 5 v (xs.map Ins.sv)) : ∃ ids, frzV frzDepth h (.agg [I a, I b, I c, v]) = some (.agg ((Cod.mk a b c xs).sv.map .sv), ids) ∧ ∀ i ∈ ids, ∃ wr, h[i]? = some (.cells 5 ((xs.map Ins.sv).flatten.map .sv) wr) := by
  obtain ⟨ids, h1, h2⟩ := frzC_row (n := 5) hr (by decide)
  refine ⟨ids, ?_, h2⟩
  simp only [frzV, frzDepth, frzCells, h1, Option.bind_some]
  simp [frzC, Cod.sv, inssSV]

theorem c37u {h : Heap} {a b c : Int} {v : AV} {xs : List Ins} (hr : RowL h 5 v (xs.map Ins.sv)) (hl : xs.length ≤ 9223372036854775806) :
    ∃ ids, Cw J 37 [.agg [I a, I b, I c, v]] h = some (I (checkC ⟨a, b, c, xs⟩), settle h ids) ∧ ∀ i ∈ ids, ∃ wr, h[i]? = some (.cells 5 ((xs.map Ins.sv).flatten.map .sv) wr) := by
  obtain ⟨ids, h1, h2⟩ := frz_cod (a := a) (b := b) (c := c) hr
  obtain ⟨⟨r, h'⟩, h3, h4⟩ := e37 (J := J) ⟨a, b, c, xs⟩ hl
  simp only at h4
  subst h4
  refine ⟨ids, call_own Try.func37 (by kernel_rfl) (by rfl) (by rfl) (args' := [.agg ((Cod.mk a b c xs).sv.map .sv)]) ?_ h3 (frzR_set (by rfl)), h2⟩
  simp only [frzVs, h1, Option.bind_some, List.append_nil]

theorem settle_other {h : Heap} {ids : List Nat} {i : Nat} {e : Ent} (h1 : h[i]? = some e) (h2 : i ∉ ids) : (settle h ids)[i]? = some e := by
  rw [settle_get ids h i e h1, if_neg h2]

theorem RowL.settle {h : Heap} {esz : Nat} {v : AV} {rows : List (List SV)} (hr : RowL h esz v rows) (ids : List Nat) : RowL (settle h ids) esz v rows := by
  refine ⟨hr.1, ?_⟩
  rcases hr.2 with q | ⟨id, wr, q1, q2⟩
  · exact .inl q
  · refine .inr ⟨id, (if id ∈ ids then false else wr), q1, ?_⟩
    rw [settle_get ids h id _ q2]
    split <;> rfl

theorem RowL.set {h : Heap} {v : AV} {rows : List (List SV)} (hr : RowL h 5 v rows) {e e' : Ent} {i : Nat} (h0 : h[i]? = some e) (hne : ∀ cs wr, e ≠ .cells 5 cs wr) : RowL (h.set i e') 5 v rows := by
  refine ⟨hr.1, ?_⟩
  rcases hr.2 with q | ⟨id, wr, q1, q2⟩
  · exact .inl q
  · refine .inr ⟨id, wr, q1, ?_⟩
    have : i ≠ id := fun q => by subst q; rw [h0] at q2; cases q2; exact hne _ _ rfl
    rw [List.getElem?_set_ne this]
    exact q2

abbrev codA (c : Cod) : AV := .agg (c.sv.map .sv)

/-- The result's object, read and settled. -/
theorem cob_end {h : Heap} {a b c : Int} {v x y : AV} {xs : List Ins} (h0 : h[0]? = some (.cells 0 [I a, I b, I c, v] true)) (hr : RowL h 5 v (xs.map Ins.sv)) (hx : setV x = true) (hy : setV y = true) :
    ld 4 true (.ptr 0 0) h = some (.agg [I a, I b, I c, v]) ∧ frzR frzDepth h (.tuple [.agg [I a, I b, I c, v], x, y]) = some (.tuple [codA ⟨a, b, c, xs⟩, x, y]) := by
  refine ⟨by rw [ld_ptr h0 (by simp)]; rfl, ?_⟩
  obtain ⟨ids, h1, -⟩ := frz_cod (a := a) (b := b) (c := c) hr
  simp only [frzR, frzVs, h1, frzV_set hx, frzV_set hy, Option.bind_some]

theorem c33 (s : List UInt8) (hs : s.length ≤ 9223372036854775806) (h : Heap) : Cw J 33 [Sr s] h = some (.tuple [codA (parseS s).1, I (parseS s).2.1, I (parseS s).2.2], h) := by
  have key : Ok (evFunc optB tab shared (Cw J) loopW noD Try.f33 [Sr s] []) fun r => frzR frzDepth r.2 r.1 = some (.tuple [codA (parseS s).1, I (parseS s).2.1, I (parseS s).2.2]) := by
    rw [f33_eq]
    have hal : alloc [.sv (.int .i64 0), .sv (.int .i64 0), .sv (.int .i64 0), .nil] [] = some (.ptr 0 0, [.cells 0 [I 0, I 0, I 0, .nil] true]) := alloc_eq rfl
    have h25 : ∀ h, Cw J 25 [Sr s] h = some (.tuple [.sv (toksSV (cutS s).1), I (cutS s).2.1, I (cutS s).2.2], h) := fun h => c25 s hs h
    have hst0 : storeA 4 (.ptr 0 0) (.agg [I 0, I 0, I 0, .nil]) [Ent.cells 0 [I 0, I 0, I 0, .nil] true] = some (.undef, [.cells 0 [I 0, I 0, I 0, .nil] true]) := by rfl
    obtain ⟨hld0, hfr0⟩ := cob_end (h := [Ent.cells 0 [I 0, I 0, I 0, .nil] true]) (x := I (parseS s).2.1) (y := I (parseS s).2.2) (xs := []) rfl (IsRow.nil _ 5).low rfl rfl
    by_cases he : (cutS s).2.2 = 0
    · obtain ⟨hcl, hcs⟩ := cutS_few he
      have h28 : ∀ h, Cw J 28 [.sv (toksSV (cutS s).1)] h = some (.sv (linesSV (linesS (cutS s).1)), h) := fun h => c28 _ (by omega) h
      have hFew : ∀ l ∈ linesS (cutS s).1, Few l := fun l hl => by
        obtain ⟨h1, h2⟩ := linesF_sub _ _ _ hl
        exact ⟨by omega, fun t ht => by have := hcs t (h2 t ht); omega⟩
      have hLl : (linesS (cutS s).1).length ≤ 100000000 := by have := linesF_len (cutS s).1.length (cutS s).1; unfold linesS; omega
      have hlnL : ln (.slice 22 1 24 false) (.sv (linesSV (linesS (cutS s).1))) = some (I ((linesS (cutS s).1).length : Nat)) := by simp [linesSV]
      have hp : parseS s = (match linesS (cutS s).1 with
        | [] => (noCod, 0, 6)
        | l :: ls =>
          let h := headS l
          if h.2.2 || decide (0 < h.2.1.length) then (noCod, 0, 6) else
          match bodyS ls 1 [] with
          | .error i => (noCod, i, 6)
          | .ok xs =>
            let d : Cod := ⟨h.1.1, h.1.2.1, h.1.2.2, xs⟩
            if checkC d ≠ 0 then (noCod, 0, checkC d) else (d, ls.length + 1, 0)) := by
        simp only [parseS, he, ne_eq, not_true_eq_false, if_false]
        rfl
      simp -implicitDefEqProofs only [f33_sh, optB_b, hal, Option.bind_some, h25, ex_tuple, List.getElem?_cons_zero, List.getElem?_cons_succ, bin_neq, he, decide_true, Bool.not_true, asB_bo, Bool.false_eq_true, if_false, h28, hlnL, bin_eql]
      cases hL : linesS (cutS s).1 with
      | nil =>
        rw [hL] at hp
        simp only at hp
        rw [hp] at hfr0 ⊢
        simp -implicitDefEqProofs only [List.length_nil, show (((0 : Nat) : Int) = 0) by rfl, decide_true, if_true, hld0, Option.bind_some, hst0, ok_some]
        exact hfr0
      | cons l0 ls =>
        rw [hL] at hp hFew hLl
        simp only at hp
        have hne : ¬ (((l0 :: ls).length : Nat) : Int) = 0 := by simp; omega
        simp -implicitDefEqProofs only [hne, decide_false, Bool.false_eq_true, if_false]
        refine loop_ok (ParInv l0 ls) (ParPost l0 ls) (n := (l0 :: ls).length) ⟨0, 0, 0, 0, .nil, [], ?_, ?_, ?_, ?_, ?_, by omega, by omega, ?_, IsRow.nil _ 5, by simp, ?_⟩ (fun n st hI => l33_b0 hFew hLl n st hI) ?_
        · simp [upd]
        · simp [upd]
        · simp [upd]
        · simp [upd]
        · simp [upd]
        · unfold COb; rfl
        · simp
        · rintro ⟨o, st⟩ ⟨e2, hcase⟩
          simp only at e2 hcase ⊢
          rcases hcase with ⟨rfl, hc, e4, j, e3, hbad⟩ | ⟨rfl, e8, hgood, v, xs, hc, hrow, hbody, hxl⟩
          · have hp2 : parseS s = (noCod, (j : Int), 6) := by
              rw [hp]
              rcases hbad with ⟨q1, rfl⟩ | ⟨q1, q2⟩
              · rw [if_pos q1]; rfl
              · rw [if_neg (by rw [q1]; exact Bool.false_ne_true), q2]
            obtain ⟨g1, g2⟩ := cob_end (x := I j) (y := I 6) (xs := []) hc (IsRow.nil _ 5).low rfl rfl
            simp -implicitDefEqProofs only [outBlock_ret, outSeq_ret, endK_ret]
            rw [hp2]
            simp -implicitDefEqProofs only [resK, optB_b]
            have hsz : tab.size 39 = some (4, true) := rfl
            simp -implicitDefEqProofs only [hsz, e2, g1, Option.bind_some, e3, e4, tup_two, ok_some]
            exact g2
          · obtain ⟨ids, h37, hids⟩ := c37u (J := J) (a := (headS l0).1.1) (b := (headS l0).1.2.1) (c := (headS l0).1.2.2) hrow.low (by simp at hLl; omega)
            have h0n : 0 ∉ ids := fun q => by
              obtain ⟨wr, hw⟩ := hids 0 q
              unfold COb at hc
              rw [hc] at hw
              cases hw
            have hc2 : (settle st.h ids)[0]? = some (.cells 0 [I (headS l0).1.1, I (headS l0).1.2.1, I (headS l0).1.2.2, v] true) := settle_other hc h0n
            have hrow2 := hrow.low.settle ids
            have hld : ld 4 true (.ptr 0 0) st.h = some (.agg [I (headS l0).1.1, I (headS l0).1.2.1, I (headS l0).1.2.2, v]) := (cob_end (x := I 0) (y := I 0) hc hrow.low rfl rfl).1
            have hp2 : parseS s = (if checkC ⟨(headS l0).1.1, (headS l0).1.2.1, (headS l0).1.2.2, xs⟩ ≠ 0 then (noCod, 0, checkC ⟨(headS l0).1.1, (headS l0).1.2.1, (headS l0).1.2.2, xs⟩) else (⟨(headS l0).1.1, (headS l0).1.2.1, (headS l0).1.2.2, xs⟩, ((ls.length + 1 : Nat) : Int), 0)) := by
              rw [hp, if_neg (by rw [hgood]; exact Bool.false_ne_true), hbody]
              rfl
            have hln8 : ln (.slice 22 1 24 false) (.sv (linesSV (l0 :: ls))) = some (I ((ls.length + 1 : Nat) : Int)) := by simp [linesSV]
            simp -implicitDefEqProofs only [outBlock_exit, if_true, outSeq_normal, f33_k1, optB_b, e2, hld, Option.bind_some, h37, bin_neq, e8]
            generalize checkC ⟨(headS l0).1.1, (headS l0).1.2.1, (headS l0).1.2.2, xs⟩ = e at *
            have hlt0 : 0 < (settle st.h ids).length := (List.getElem?_eq_some_iff.1 hc2).1
            by_cases hz : e = 0
            · have hst : storeA 4 (.ptr 0 0) (.agg [I (headS l0).1.1, I (headS l0).1.2.1, I (headS l0).1.2.2, v]) (settle st.h ids) = some (.undef, (settle st.h ids).set 0 (.cells 0 [I (headS l0).1.1, I (headS l0).1.2.1, I (headS l0).1.2.2, v] true)) := by
                have hcv : cellsOf (.agg [I (headS l0).1.1, I (headS l0).1.2.1, I (headS l0).1.2.2, v]) = some [I (headS l0).1.1, I (headS l0).1.2.1, I (headS l0).1.2.2, v] := by
                  rcases hrow.2 with ⟨rfl, -⟩ | ⟨id, rfl, -⟩ <;> rfl
                rw [store_eq (n := 4) hc2 hcv rfl (by simp)]; rfl
              obtain ⟨g1, -⟩ := cob_end (x := I 0) (y := I 0) hc2 hrow2 rfl rfl
              have hc3 : ((settle st.h ids).set 0 (.cells 0 [I (headS l0).1.1, I (headS l0).1.2.1, I (headS l0).1.2.2, v] true))[0]? = some (.cells 0 [I (headS l0).1.1, I (headS l0).1.2.1, I (headS l0).1.2.2, v] true) := by simp [hlt0]
              have hrow3 : RowL ((settle st.h ids).set 0 (.cells 0 [I (headS l0).1.1, I (headS l0).1.2.1, I (headS l0).1.2.2, v] true)) 5 v (xs.map Ins.sv) := hrow2.set hc2 (fun _ _ h => by cases h)
              obtain ⟨g3, g4⟩ := cob_end (x := I ((ls.length + 1 : Nat) : Int)) (y := I 0) hc3 hrow3 rfl rfl
              rw [hp2, if_neg (by simp [hz])]
              simp -implicitDefEqProofs only [hz, decide_true, Bool.not_true, asB_bo, Option.bind_some, Bool.false_eq_true, if_false, g1, hln8, hst, g3, ok_some]
              exact g4
            · have hbd : bdA tab 39 [] = some (.agg [I 0, I 0, I 0, .nil]) := by rfl
              have hst : storeA 4 (.ptr 0 0) (.agg [I 0, I 0, I 0, .nil]) (settle st.h ids) = some (.undef, (settle st.h ids).set 0 (.cells 0 [I 0, I 0, I 0, .nil] true)) := by
                rw [store_eq (n := 4) (vs := [I 0, I 0, I 0, .nil]) hc2 rfl rfl (by simp)]; rfl
              have hc3 : ((settle st.h ids).set 0 (.cells 0 [I 0, I 0, I 0, .nil] true))[0]? = some (.cells 0 [I 0, I 0, I 0, .nil] true) := by simp [hlt0]
              obtain ⟨g3, g4⟩ := cob_end (x := I 0) (y := I e) (xs := []) hc3 (IsRow.nil _ 5).low rfl rfl
              rw [hp2, if_pos hz]
              simp -implicitDefEqProofs only [hz, decide_false, Bool.not_false, asB_bo, Option.bind_some, if_true, hbd, hst, g3, ok_some]
              exact g4
    · have hp : parseS s = (noCod, (cutS s).2.1, (cutS s).2.2) := by simp only [parseS, he, ne_eq, not_false_eq_true, if_true]
      rw [hp] at hfr0 ⊢
      simp -implicitDefEqProofs only [f33_sh, optB_b, hal, Option.bind_some, h25, ex_tuple, List.getElem?_cons_zero, List.getElem?_cons_succ, bin_neq, he, decide_false, Bool.not_false, asB_bo, if_true, hld0, hst0, ok_some]
      exact hfr0
  obtain ⟨⟨r, hr⟩, h1, h2⟩ := key
  exact call_sv Try.func33 (by kernel_rfl) (by rfl) (by rfl) (by rfl) h1 h2

end
end Go.Proofs.Ytmhamnnfcmkcfaa

/- Code's functions come to the plain ones: where an instruction goes on. -/
set_option maxRecDepth 100000
namespace Go.Proofs.Ytmhamnnfcmkcfaa
open Go.RowKit

section
variable {J : Option (List AV → Option AV)}

theorem bs1 (a : Int) (H : Heap) : bsA (.slice 3 1 8 false) (some [.sv (.int .i64 0)]) 1 [(0, I a)] H = some (.own H.length 0 1, H ++ [.cells 1 [I a] true]) := by
  simp [bsA, fillA, alloc, cell1, cellsOf, splice]
theorem bs2 (a b : Int) (H : Heap) : bsA (.slice 3 1 8 false) (some [.sv (.int .i64 0)]) 2 [(0, I a), (1, I b)] H = some (.own H.length 0 2, H ++ [.cells 1 [I a, I b] true]) := by
  simp [bsA, fillA, alloc, cell1, cellsOf, splice, List.replicate]

theorem row1 (a : Int) (H : Heap) : IsRow (H ++ [.cells 1 [I a] true]) 1 (.own H.length 0 1) (intRow [a]) := ⟨by simp [intRow], .inr ⟨H.length, rfl, by simp [intRow]⟩⟩
theorem row2 (a b : Int) (H : Heap) : IsRow (H ++ [.cells 1 [I a, I b] true]) 1 (.own H.length 0 2) (intRow [a, b]) := ⟨by simp [intRow], .inr ⟨H.length, rfl, by simp [intRow]⟩⟩

theorem c40 (x : Ins) (i : Int) (h : Heap) : Ok (Cw J 40 [.agg (x.sv.map .sv), I i] h) fun r => IsRow r.2 1 r.1 (intRow (nextS x i)) ∧ Ext h r.2 := by
  have key : Ok (evFunc optB tab shared (Cw J) loopW noD Try.f40 [.agg (x.sv.map .sv), I i] h) fun r => IsRow r.2 1 r.1 (intRow (nextS x i)) ∧ Ext h r.2 := by
    rw [f40_eq]
    have b1 : boxA 5 (.agg (x.sv.map .sv)) h = some (.ptr h.length 0, h ++ [.cells 0 (x.sv.map .sv) true]) := box_eq (cellsOf_agg _) rfl (cells_all _)
    have g0 : ld 1 false (.ptr h.length (0 + 0)) (h ++ [.cells 0 (x.sv.map .sv) true]) = some (I x.op) := by
      rw [ld_ptr (heap_last _ _) (by simp [Ins.sv])]; rfl
    have s1 : alloc [.sv (.str []), .sv (.int .i64 0), .sv (.int .i64 0), .sv (.int .i64 0)] (h ++ [Ent.cells 0 (x.sv.map .sv) true]) = some (.ptr (h.length + 1) 0, h ++ [Ent.cells 0 (x.sv.map .sv) true] ++ [.cells 0 [.sv (.str []), .sv (.int .i64 0), .sv (.int .i64 0), .sv (.int .i64 0)] true]) := by
      rw [alloc_eq rfl]; simp
    have e1 : ∀ e : Ent, (h ++ [Ent.cells 0 (x.sv.map .sv) true] ++ [e])[h.length + 1]? = some e := fun e => by
      rw [List.getElem?_append_right (by simp)]; simp
    have s2 : storeA 4 (.ptr (h.length + 1) 0) (rowA x.op) (h ++ [Ent.cells 0 (x.sv.map .sv) true] ++ [.cells 0 [.sv (.str []), .sv (.int .i64 0), .sv (.int .i64 0), .sv (.int .i64 0)] true]) = some (.undef, h ++ [Ent.cells 0 (x.sv.map .sv) true] ++ [.cells 0 ((rowS (shp x.op)).map .sv) true]) := by
      rw [store_eq (n := 4) (vs := (rowS (shp x.op)).map .sv) (e1 _) (cellsOf_agg _) rfl (by decide)]
      congr 2
      rw [List.set_append_right _ _ (by simp)]
      simp [splice, rowS]
    have hX : (h ++ [Ent.cells 0 (x.sv.map .sv) true] ++ [.cells 0 ((rowS (shp x.op)).map .sv) true])[h.length]? = some (.cells 0 (x.sv.map .sv) true) := app_get (heap_last _ _) _
    have k0 : ld 1 false (.ptr h.length (0 + 0)) (h ++ [Ent.cells 0 (x.sv.map .sv) true] ++ [.cells 0 ((rowS (shp x.op)).map .sv) true]) = some (I x.op) := by rw [ld_ptr hX (by simp [Ins.sv])]; rfl
    have k1 : ld 1 false (.ptr h.length (0 + 1)) (h ++ [Ent.cells 0 (x.sv.map .sv) true] ++ [.cells 0 ((rowS (shp x.op)).map .sv) true]) = some (I x.a) := by rw [ld_ptr hX (by simp [Ins.sv])]; rfl
    have k3 : ld 1 false (.ptr h.length (0 + 3)) (h ++ [Ent.cells 0 (x.sv.map .sv) true] ++ [.cells 0 ((rowS (shp x.op)).map .sv) true]) = some (I x.c) := by rw [ld_ptr hX (by simp [Ins.sv])]; rfl
    have hE : Ext h (h ++ [Ent.cells 0 (x.sv.map .sv) true] ++ [.cells 0 ((rowS (shp x.op)).map .sv) true]) := (Ext.app _ _).trans (Ext.app _ _)
    simp -implicitDefEqProofs only [f40_sh, optB_b, b1, Option.bind_some, fa_ptr, g0, c103, ex_tuple, List.getElem?_cons_zero, List.getElem?_cons_succ, s1, s2, un_not]
    generalize h ++ [Ent.cells 0 (x.sv.map .sv) true] ++ [.cells 0 ((rowS (shp x.op)).map .sv) true] = H at *
    unfold nextS
    cases hr : inR x.op with
    | false =>
      simp -implicitDefEqProofs only [Bool.not_false, gO_ff, if_true, Option.bind_some, asB_bo, ok_some, true_or]
      exact ⟨IsRow.nil _ 1, hE⟩
    | true =>
      by_cases h0 : x.op = 0
      · simp -implicitDefEqProofs only [Bool.not_true, gO_ff, Bool.false_eq_true, if_false, if_true, Option.bind_some, asB_bo, k0, bin_eql, h0, decide_true, ok_some, or_true]
        exact ⟨IsRow.nil _ 1, hE⟩
      · have n0 : ¬ ((true = false) ∨ x.op = 0) := by simp [h0]
        rw [if_neg n0]
        by_cases h10 : x.op = 10
        · rw [if_pos h10]
          simp -implicitDefEqProofs only [Bool.not_true, gO_ff, Bool.false_eq_true, if_false, if_true, Option.bind_some, asB_bo, k0, k1, bin_eql, h10, show ¬ (10 : Int) = 0 by omega, decide_true, decide_false, bs1, ok_some]
          exact ⟨row1 _ _, hE.trans (Ext.app _ _)⟩
        · rw [if_neg h10]
          by_cases h11 : x.op = 11 ∨ x.op = 12
          · rw [if_pos h11]
            have hb : (if decide (x.op = 11) then (some (Bo true)) else some (Bo (decide (x.op = 12)))) = some (Bo true) := by
              rcases h11 with q | q <;> simp [q]
            by_cases q : x.op = 11
            · simp -implicitDefEqProofs only [Bool.not_true, gO_ff, Bool.false_eq_true, if_false, if_true, Option.bind_some, asB_bo, k0, k3, bin_eql, q, show ¬ (11 : Int) = 0 by omega, show ¬ (11 : Int) = 10 by omega, decide_true, decide_false, bin_add, bs2, ok_some]
              exact ⟨row2 _ _ _, hE.trans (Ext.app _ _)⟩
            · have q2 : x.op = 12 := by omega
              simp -implicitDefEqProofs only [Bool.not_true, gO_ff, Bool.false_eq_true, if_false, if_true, Option.bind_some, asB_bo, k0, k3, bin_eql, q2, show ¬ (12 : Int) = 0 by omega, show ¬ (12 : Int) = 10 by omega, show ¬ (12 : Int) = 11 by omega, decide_true, decide_false, bin_add, bs2, ok_some]
              exact ⟨row2 _ _ _, hE.trans (Ext.app _ _)⟩
          · rw [if_neg h11]
            have q1 : ¬ x.op = 11 := fun q => h11 (.inl q)
            have q2 : ¬ x.op = 12 := fun q => h11 (.inr q)
            simp -implicitDefEqProofs only [Bool.not_true, gO_ff, Bool.false_eq_true, if_false, if_true, Option.bind_some, asB_bo, k0, bin_eql, h0, h10, q1, q2, decide_true, decide_false, bin_add, bs1, ok_some]
            exact ⟨row1 _ _, hE.trans (Ext.app _ _)⟩
  obtain ⟨r, hr, h1⟩ := key
  exact ⟨r, call_sh Try.func40 (by kernel_rfl) (by rfl) hr, h1⟩

end
end Go.Proofs.Ytmhamnnfcmkcfaa

/- Code with one register fewer, plainly. -/
namespace Go.Proofs.Ytmhamnnfcmkcfaa

def allS (x : Ins) : List Int := readsS x ++ (if (writesS x).2 then [(writesS x).1] else [])
def lessC (c : Cod) : Cod := { c with regs := c.regs - 1 }
def lastS (c : Cod) (l : List Ins) : Bool := l.any fun x => (allS x).any (· == c.regs - 1)

theorem kd_not1 (op : Int) : kd1 op ≠ 1 ∧ kd2 op ≠ 1 := by
  unfold kd1 kd2 shp
  split
  · rename_i h
    simp only [inR, decide_eq_true_eq] at h
    obtain ⟨n, rfl⟩ : ∃ n : Nat, op = n := ⟨op.toNat, by omega⟩
    have hn : n < 13 := by omega
    have := List.all_eq_true.1 (show (List.range 13).all (fun n => let t := (tbl[n]?).getD ([], 0, 0, 0); decide (t.2.2.1 ≠ 1) && decide (t.2.2.2 ≠ 1)) = true by decide) n (List.mem_range.2 hn)
    simp only [Bool.and_eq_true, decide_eq_true_eq] at this
    simp only [Int.toNat_natCast]
    exact this
  · simp

theorem may_fits {x : Ins} {c : Cod} (h : mayS x c = true) : inR x.op = true ∧ (0 ≤ x.a ∧ x.a < limS c (kd0 x.op)) ∧ (0 ≤ x.b ∧ x.b < limS c (kd1 x.op)) ∧ (0 ≤ x.c ∧ x.c < limS c (kd2 x.op)) := by
  simp only [mayS, fitS, Bool.and_eq_true, decide_eq_true_eq] at h
  exact ⟨h.1.1.1.1, h.1.1.1.2, h.1.1.2, h.1.2⟩

theorem allS_in {x : Ins} {c : Cod} (h : mayS x c = true) : ∀ r ∈ allS x, 0 ≤ r ∧ r < c.regs := by
  obtain ⟨-, h0, h1, h2⟩ := may_fits h
  intro r hr
  simp only [allS, readsS, writesS, List.mem_append] at hr
  unfold limS at h0 h1 h2
  rcases hr with ((hr | hr) | hr) | hr
  · by_cases q : kd0 x.op = 2
    · simp only [q, if_true, List.mem_singleton] at hr; subst hr; simpa [q] using h0
    · simp [q] at hr
  · by_cases q : kd1 x.op = 2
    · simp only [q, if_true, List.mem_singleton] at hr; subst hr; simpa [q] using h1
    · simp [q] at hr
  · by_cases q : kd2 x.op = 2
    · simp only [q, if_true, List.mem_singleton] at hr; subst hr; simpa [q] using h2
    · simp [q] at hr
  · by_cases q : kd0 x.op = 1
    · simp only [q, if_true, List.mem_singleton] at hr; subst hr; simpa [q] using h0
    · simp [q] at hr

theorem kd_places {x : Ins} (h : inR x.op = true) : (x.op = 10 → kd0 x.op = 4) ∧ (x.op = 11 ∨ x.op = 12 → kd2 x.op = 4) := by
  constructor
  · intro q; rw [q]; rfl
  · rintro (q | q) <;> rw [q] <;> rfl

theorem nextS_in {x : Ins} {c : Cod} (h : mayS x c = true) {i : Nat} (hi : i < c.l.length) (hlen : c.l.length ≤ 100000) (hlast : i + 1 = c.l.length → x.op = 0 ∨ x.op = 10) : ∀ n ∈ nextS x i, 0 ≤ n ∧ n < c.l.length := by
  obtain ⟨hr, h0, -, h2⟩ := may_fits h
  obtain ⟨k1, k2⟩ := kd_places hr
  have w : IntKind.i64.wrap ((i : Int) + 1) = (i : Int) + 1 := wrapI (by omega) (by omega)
  intro n hn
  unfold nextS at hn
  split at hn
  · simp at hn
  · rename_i q0
    simp only [hr, not_or, Bool.true_eq_false, not_false_eq_true, true_and] at q0
    split at hn
    · rename_i q1
      simp only [List.mem_singleton] at hn
      subst hn
      simpa [limS, k1 q1] using h0
    · rename_i q1
      have hi2 : i + 1 < c.l.length := by
        rcases Nat.lt_or_ge (i + 1) c.l.length with g | g
        · exact g
        · exact absurd (hlast (by omega)) (by simp [q0, q1])
      split at hn
      · rename_i q2
        simp only [List.mem_cons, List.not_mem_nil, or_false] at hn
        rcases hn with rfl | rfl
        · rw [w]; omega
        · simpa [limS, k2 q2] using h2
      · simp only [List.mem_singleton] at hn
        subst hn
        rw [w]; omega

theorem fit_less (c : Cod) (k f : Int) : fitS (lessC c) k f = (fitS c k f && !(decide (k = 1 ∨ k = 2) && (f == c.regs - 1))) := by
  rw [Bool.eq_iff_iff]
  by_cases hk : k = 1 ∨ k = 2
  · simp only [fitS, limS, hk, if_true, lessC, Bool.and_eq_true, decide_eq_true_eq, Bool.not_eq_true', decide_true, Bool.true_and, beq_eq_false_iff_ne]
    omega
  · simp only [fitS, limS, hk, if_false, lessC, decide_false, Bool.false_and, Bool.not_false, Bool.and_true]

theorem may_less {x : Ins} {c : Cod} (h : mayS x c = true) : mayS x (lessC c) = !((allS x).any (· == c.regs - 1)) := by
  have hsplit : mayS x (lessC c) = (mayS x c && (!(decide (kd0 x.op = 1 ∨ kd0 x.op = 2) && (x.a == c.regs - 1)) && !(decide (kd1 x.op = 1 ∨ kd1 x.op = 2) && (x.b == c.regs - 1)) && !(decide (kd2 x.op = 1 ∨ kd2 x.op = 2) && (x.c == c.regs - 1)))) := by
    unfold mayS
    simp only [fit_less]
    ac_rfl
  obtain ⟨n1, n2⟩ := kd_not1 x.op
  rw [hsplit, h, Bool.true_and]
  simp only [allS, readsS, writesS, n1, n2, false_or, List.any_append]
  by_cases q0 : kd0 x.op = 2
  · have q1 : kd0 x.op ≠ 1 := by omega
    simp only [q0, show ¬ (2 : Int) = 1 by omega, false_or, decide_true, Bool.true_and, if_true, if_false, Bool.false_eq_true, List.any_cons, List.any_nil, Bool.or_false, Bool.not_or]
    by_cases q2 : kd1 x.op = 2 <;> by_cases q3 : kd2 x.op = 2 <;> simp [q2, q3]
  · by_cases q1 : kd0 x.op = 1
    · simp only [q1, show ¬ (1 : Int) = 2 by omega, true_or, decide_true, Bool.true_and, if_true, if_false, List.any_cons, List.any_nil, Bool.or_false, Bool.not_or]
      by_cases q2 : kd1 x.op = 2 <;> by_cases q3 : kd2 x.op = 2 <;> simp only [q2, q3, decide_true, decide_false, Bool.true_and, Bool.false_and, if_true, if_false, List.any_cons, List.any_nil, Bool.or_false, Bool.not_or, Bool.not_false, Bool.and_true, n1, or_true, or_self] <;> ac_rfl
    · simp only [q0, q1, or_self, decide_false, Bool.false_and, Bool.not_false, Bool.true_and, if_false, Bool.false_eq_true, List.any_nil, Bool.or_false, Bool.false_or, Bool.not_or]
      by_cases q2 : kd1 x.op = 2 <;> by_cases q3 : kd2 x.op = 2 <;> simp [q2, q3]

theorem less_law {c : Cod} (h : checkOk c = true) : decide (checkC (lessC c) = 0) = (!(lastS c c.l) && decide (0 ≤ c.regs - 1)) := by
  have h' := h
  simp only [checkOk, Bool.and_eq_true] at h'
  obtain ⟨⟨⟨⟨hh, h1⟩, h2⟩, hm⟩, h3⟩ := h'
  have e0 : decide (checkC (lessC c) = 0) = checkOk (lessC c) := by
    unfold checkC; cases checkOk (lessC c) <;> simp
  have e1 : (lessC c).l = c.l := rfl
  have e2 : c.l.all (mayS · (lessC c)) = !(lastS c c.l) := by
    unfold lastS
    rw [Bool.eq_iff_iff]
    simp only [List.all_eq_true, Bool.not_eq_true', List.any_eq_false (p := fun x => (allS x).any (· == c.regs - 1))]
    constructor
    · intro q x hx
      have := q x hx
      rw [may_less (List.all_eq_true.1 hm x hx), Bool.not_eq_true'] at this
      rw [this]; exact Bool.false_ne_true
    · intro q x hx
      rw [may_less (List.all_eq_true.1 hm x hx), Bool.not_eq_true']
      exact Bool.eq_false_iff.2 (q x hx)
  rw [e0]
  have e3 : headOk (lessC c) = decide (0 ≤ c.regs - 1) := by
    have r1 : (lessC c).regs = c.regs - 1 := rfl
    have r2 : (lessC c).arrs = c.arrs := rfl
    have r3 : (lessC c).inn = c.inn := rfl
    rw [Bool.eq_iff_iff]
    simp only [headOk, r1, r2, r3, Bool.and_eq_true, decide_eq_true_eq] at hh ⊢
    constructor
    · intro q; omega
    · intro q; refine ⟨⟨⟨⟨⟨?_, ?_⟩, ?_⟩, ?_⟩, ?_⟩, ?_⟩ <;> omega
  simp only [checkOk, e1, e2, e3, h1, h2, lastOp, Bool.and_true]
  have h3' : (decide ((c.l.getLast?.map (·.op)).getD 0 = 0) || decide ((c.l.getLast?.map (·.op)).getD 0 = 10)) = true := h3
  rw [h3', Bool.and_true, Bool.and_comm]

end Go.Proofs.Ytmhamnnfcmkcfaa
