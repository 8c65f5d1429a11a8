/- Code put further on: Shift's loops. -/
import Derived.Test.YtmhamnnfcmkcfaaP6
import Derived.Test.YtmhamnnfcmkcfaaP2
import Derived.ChangeArms
import Derived.ChangeShapes
import Derived.Test.YtmhamnnfcmkcfaaP3
import Derived.WideShapes
import Derived.ChangeMaps5
import Derived.Carry
import Derived.Test.YtmhamnnfcmkcfaaP4
set_option maxRecDepth 100000
namespace Go.Proofs.Ytmhamnnfcmkcfaa
open Go.RowKit

section
variable {J : Option (List AV → Option AV)}

abbrev zIns : Ins := ⟨0, 0, 0, 0, 0⟩

def F41 (n : Nat) (c : Cod) (st : St) : Prop :=
  st.tm 1 = I n ∧ st.tm 2 = .ptr 0 0 ∧ st.tm 4 = .ptr 1 0 ∧ st.tm 5 = I 0 ∧ st.h[0]? = some (.cells 0 (c.sv.map .sv) true) ∧ st.h[1]? = some (.cells 0 [I 0, I 0, I 0, .nil] true)

theorem jumps_succ (i : Nat) : jumps (i + 1) = jumps i ++ [jumpI i] := by simp [jumps, List.range_succ]

theorem put_jump {n i : Nat} (hi : i < n) : ((jumps i).map Ins.sv ++ List.replicate (n - i) zIns.sv).set i (jumpI i).sv = (jumps (i + 1)).map Ins.sv ++ List.replicate (n - (i + 1)) zIns.sv := by
  rw [List.set_append_right _ _ (by simp [jumps_len])]
  obtain ⟨k, hk⟩ : ∃ k, n - i = k + 1 := ⟨n - i - 1, by omega⟩
  have hk2 : n - (i + 1) = k := by omega
  rw [hk, hk2, List.replicate_succ]
  simp [jumps_len, jumps_succ]

def A41 (n : Nat) (c : Cod) (m : Nat) (st : St) : Prop :=
  ∃ i : Nat, F41 n c st ∧ st.tm 43 = I n ∧ st.tm 44 = I i ∧ i ≤ n ∧ IsRow st.h 5 (st.tm 6) ((jumps i).map Ins.sv ++ List.replicate (n - i) zIns.sv) ∧ m = n - i

theorem l41_b0 {n : Nat} {c : Cod} (hn : n ≤ 4096) (m : Nat) (st : St) (hI : A41 n c m st) :
    Ok (f41_b0 optB (Cw J) loopW st.tm st.h) (Nxt (A41 n c) (fun r => r.1 = .exit 1 ∧ F41 n c r.2 ∧ IsRow r.2.h 5 (r.2.tm 6) ((jumps n).map Ins.sv)) m) := by
  obtain ⟨tm, h⟩ := st
  obtain ⟨i, ⟨e1, e2, e4, e5, h0, h1⟩, e43, e44, hi, hr, rfl⟩ := hI
  simp only at e1 e2 e4 e5 h0 h1 e43 e44 hr ⊢
  by_cases hlt : i < n
  · have hlt' : (i : Int) < (n : Nat) := by omega
    have w1 : IntKind.i64.wrap ((i : Int) + 1) = (i : Int) + 1 := wrapI (by omega) (by omega)
    have bd : bdA tab 47 [(0, I 10), (1, I ((i : Int) + 1))] = some (.agg ((jumpI i).sv.map .sv)) := by rfl
    obtain ⟨p, h', q1, q2, q3, q4, q5⟩ := row_put (e := 47) (b := 40) (y := false) hr (i := i) (c := (jumpI i).sv) (by simp [jumps_len]; omega) rfl
    have q2' := q2 (.agg ((jumpI i).sv.map .sv)) (cellsOf_agg _)
    rw [put_jump hlt] at q3
    simp -implicitDefEqProofs only [f41_b0, optB_b, e44, e43, bin_lss, hlt', Option.bind_some, decide_true, asB_bo, if_true, bin_add, w1, bd, q1, q2', ok_some]
    refine nxt_n (n - (i + 1)) (by omega) ⟨i + 1, ⟨by simp [upd, e1], by simp [upd, e2], by simp [upd, e4], by simp [upd, e5], q4 _ _ h0 (hr.other h0 (by decide)), q4 _ _ h1 (hr.other h1 (by decide))⟩, by simp [upd, e43], by simp [upd], by omega, by simpa [upd] using q3, rfl⟩
  · have hi2 : i = n := by omega
    have hlt' : ¬ ((i : Int) < (n : Nat)) := by omega
    simp -implicitDefEqProofs only [f41_b0, optB_b, e44, e43, bin_lss, hlt', Option.bind_some, decide_false, asB_bo, Bool.false_eq_true, if_false, ok_some]
    refine nxt_e ⟨rfl, ⟨by simp [upd, e1], by simp [upd, e2], by simp [upd, e4], by simp [upd, e5], h0, h1⟩, ?_⟩
    subst hi2
    simpa [upd] using hr

/-- An instruction's first places, put further on. -/
def farP (n : Int) (i : Nat) (x : Ins) : Ins :=
  { x with a := if 0 < i ∧ kd0 x.op = 4 then x.a + n else x.a, b := if 1 < i ∧ kd1 x.op = 4 then x.b + n else x.b, c := if 2 < i ∧ kd2 x.op = 4 then x.c + n else x.c }

theorem farP_0 (n : Int) (x : Ins) : farP n 0 x = x := by simp [farP]
theorem farP_3 (n : Int) (x : Ins) : farP n 3 x = farI n x := by simp [farP, farI]

def C41 (n : Nat) (c : Cod) (x : Ins) (j X S : Nat) (v : AV) (H : Heap) (m : Nat) (st : St) : Prop :=
  ∃ i : Nat, F41 n c st ∧ st.tm 55 = .sv (inssSV c.l) ∧ st.tm 56 = I c.l.length ∧ st.tm 57 = I j ∧ st.tm 6 = v ∧ st.tm 9 = .ptr X 0 ∧ st.tm 10 = .ptr S 0 ∧ st.tm 67 = .agg [.ptr X 1, .ptr X 2, .ptr X 3] ∧ st.tm 68 = I i ∧ i ≤ 3 ∧
    st.h[X]? = some (.cells 0 ((farP n i x).sv.map .sv) true) ∧ st.h[S]? = some (.cells 0 ((rowS (shp x.op)).map .sv) true) ∧ KeepO X H st.h ∧ m = 3 - i

def C41P (n : Nat) (c : Cod) (x : Ins) (j X : Nat) (v : AV) (H : Heap) (r : Out × St) : Prop :=
  r.1 = .exit 5 ∧ F41 n c r.2 ∧ r.2.tm 55 = .sv (inssSV c.l) ∧ r.2.tm 56 = I c.l.length ∧ r.2.tm 57 = I j ∧ r.2.tm 6 = v ∧ r.2.tm 9 = .ptr X 0 ∧ r.2.h[X]? = some (.cells 0 ((farI n x).sv.map .sv) true) ∧ KeepO X H r.2.h

theorem farP_same {n : Int} {i : Nat} {x : Ins} (hi : i < 3) (hk : ¬ kindAt x i = 4) : farP n (i + 1) x = farP n i x := by
  rcases (by omega : i = 0 ∨ i = 1 ∨ i = 2) with rfl | rfl | rfl <;> simp [kindAt] at hk <;> simp [farP, hk]

theorem farP_store {n : Int} {i X : Nat} {x : Ins} {h : Heap} (hi : i < 3) (hk : kindAt x i = 4) (hX : h[X]? = some (.cells 0 ((farP n i x).sv.map .sv) true)) :
    ld 1 false (.ptr X (1 + i)) h = some (I (fieldAt x i)) ∧ storeA 1 (.ptr X (1 + i)) (I (fieldAt x i + n)) h = some (.undef, h.set X (.cells 0 ((farP n (i + 1) x).sv.map .sv) true)) := by
  rcases (by omega : i = 0 ∨ i = 1 ∨ i = 2) with rfl | rfl | rfl
  · have hk' : kd0 x.op = 4 := hk
    refine ⟨by rw [ld_ptr hX (by simp [Ins.sv])]; rfl, ?_⟩
    rw [store_eq (n := 1) (vs := [I (x.a + n)]) hX rfl rfl (by simp [Ins.sv])]
    congr 3
    simp [splice, Ins.sv, farP, hk']
  · have hk' : kd1 x.op = 4 := hk
    refine ⟨by rw [ld_ptr hX (by simp [Ins.sv])]; simp [Ins.sv, farP, fieldAt, pack], ?_⟩
    rw [store_eq (n := 1) (vs := [I (x.b + n)]) hX rfl rfl (by simp [Ins.sv])]
    congr 3
    simp [splice, Ins.sv, farP, hk']
  · have hk' : kd2 x.op = 4 := hk
    refine ⟨by rw [ld_ptr hX (by simp [Ins.sv])]; simp [Ins.sv, farP, fieldAt, pack], ?_⟩
    rw [store_eq (n := 1) (vs := [I (x.c + n)]) hX rfl rfl (by simp [Ins.sv])]
    congr 3
    simp [splice, Ins.sv, farP, hk']

theorem l41_b2 {n : Nat} {c : Cod} {x : Ins} {j X S : Nat} {v : AV} {H : Heap} (hn : n ≤ 4096) (hm : mayS x c = true) (hl : c.l.length ≤ 4096) (hX0 : X ≠ 0) (hX1 : X ≠ 1) (hSX : S ≠ X) (m : Nat) (st : St) (hI : C41 n c x j X S v H m st) :
    Ok (f41_b2 optB (Cw J) loopW st.tm st.h) (Nxt (C41 n c x j X S v H) (C41P n c x j X v H) m) := by
  obtain ⟨tm, h⟩ := st
  obtain ⟨i, ⟨e1, e2, e4, e5, h0, h1⟩, e55, e56, e57, e6, e9, e10, e67, e68, hi, hX, hS, hk, rfl⟩ := hI
  simp only at e1 e2 e4 e5 h0 h1 e55 e56 e57 e6 e9 e10 e67 e68 hX hS hk ⊢
  by_cases hlt : i < 3
  · have h3 : (i : Int) < 3 := by omega
    have hix : ix (.arr 3 1 false none) (.agg [.ptr X 1, .ptr X 2, .ptr X 3]) (I i) = some (.ptr X (1 + i)) := by
      rw [arr3 hlt]
      rcases (by omega : i = 0 ∨ i = 1 ∨ i = 2) with rfl | rfl | rfl <;> rfl
    have hkd : ld 1 false (.ptr S (1 + i)) h = some (I (kindAt x i)) := by
      rw [ld_ptr hS (by simp [rowS]; omega)]
      rcases (by omega : i = 0 ∨ i = 1 ∨ i = 2) with rfl | rfl | rfl <;> rfl
    have hia : ia (.arr 3 1 false (some [.int .i64, .int .i64, .int .i64])) (.ptr S (0 + 1)) (I i) = some (.ptr S (1 + i)) := by
      rw [ia_ptr (i := i) rfl hlt]; simp
    have w1 : IntKind.i64.wrap ((i : Int) + 1) = ((i + 1 : Nat) : Int) := by rw [wrapI (by omega) (by omega)]; omega
    by_cases hk4 : kindAt x i = 4
    · obtain ⟨hf, hst⟩ := farP_store (n := (n : Int)) hlt hk4 hX
      have hrange : 0 ≤ fieldAt x i ∧ fieldAt x i < c.l.length := by
        obtain ⟨-, p0, p1, p2⟩ := may_fits hm
        rcases (by omega : i = 0 ∨ i = 1 ∨ i = 2) with rfl | rfl | rfl
        · have q : kd0 x.op = 4 := hk4
          simpa [limS, q, fieldAt] using p0
        · have q : kd1 x.op = 4 := hk4
          simpa [limS, q, fieldAt] using p1
        · have q : kd2 x.op = 4 := hk4
          simpa [limS, q, fieldAt] using p2
      have w2 : IntKind.i64.wrap (fieldAt x i + (n : Int)) = fieldAt x i + n := wrapI (by omega) (by omega)
      simp -implicitDefEqProofs only [f41_b2, optB_b, e68, bin_lss, h3, Option.bind_some, decide_true, asB_bo, if_true, e67, hix, e10, fa_ptr, hia, hkd, bin_eql, hk4, nc_ptr, hf, e1, bin_add, w2, hst, w1, ok_some]
      have hXlt := (List.getElem?_eq_some_iff.1 hX).1
      refine nxt_n (3 - (i + 1)) (by omega) ⟨i + 1, ⟨by simp [upd, e1], by simp [upd, e2], by simp [upd, e4], by simp [upd, e5], ?_, ?_⟩, by simp [upd, e55], by simp [upd, e56], by simp [upd, e57], by simp [upd, e6], by simp [upd, e9], by simp [upd, e10], by simp [upd, e67], by simp [upd], by omega, by simp [hXlt], ?_, hk.trans (KeepO.set X h _), rfl⟩
      · simp only; rw [List.getElem?_set_ne hX0]; exact h0
      · simp only; rw [List.getElem?_set_ne hX1]; exact h1
      · simp only; rw [List.getElem?_set_ne (Ne.symm hSX)]; exact hS
    · simp -implicitDefEqProofs only [f41_b2, optB_b, e68, bin_lss, h3, Option.bind_some, decide_true, decide_false, asB_bo, if_true, e67, hix, e10, fa_ptr, hia, hkd, bin_eql, hk4, Bool.false_eq_true, if_false, bin_add, w1, ok_some]
      exact nxt_n (3 - (i + 1)) (by omega) ⟨i + 1, ⟨by simp [upd, e1], by simp [upd, e2], by simp [upd, e4], by simp [upd, e5], h0, h1⟩, by simp [upd, e55], by simp [upd, e56], by simp [upd, e57], by simp [upd, e6], by simp [upd, e9], by simp [upd, e10], by simp [upd, e67], by simp [upd], by omega, by rw [farP_same hlt hk4]; exact hX, hS, hk, rfl⟩
  · have hi2 : i = 3 := by omega
    subst hi2
    simp -implicitDefEqProofs only [f41_b2, optB_b, e68, bin_lss, show ¬ (((3 : Nat) : Int) < 3) by decide, Option.bind_some, decide_false, asB_bo, Bool.false_eq_true, if_false, ok_some]
    rw [farP_3] at hX
    exact nxt_e ⟨rfl, ⟨by simp [upd, e1], by simp [upd, e2], by simp [upd, e4], by simp [upd, e5], h0, h1⟩, by simp [upd, e55], by simp [upd, e56], by simp [upd, e57], by simp [upd, e6], by simp [upd, e9], hX, hk⟩

end
end Go.Proofs.Ytmhamnnfcmkcfaa

/- Code put further on: Shift. -/
set_option maxRecDepth 100000
namespace Go.Proofs.Ytmhamnnfcmkcfaa
open Go.RowKit

section
variable {J : Option (List AV → Option AV)}

def B41 (n : Nat) (c : Cod) (m : Nat) (st : St) : Prop :=
  ∃ j : Nat, F41 n c st ∧ st.tm 55 = .sv (inssSV c.l) ∧ st.tm 56 = I c.l.length ∧ st.tm 57 = I j ∧ j ≤ c.l.length ∧ IsRow st.h 5 (st.tm 6) ((jumps n ++ (c.l.take j).map (farI n)).map Ins.sv) ∧ m = c.l.length - j

def B41P (n : Nat) (c : Cod) (r : Out × St) : Prop := r.1 = .exit 3 ∧ F41 n c r.2 ∧ IsRow r.2.h 5 (r.2.tm 6) ((farC c n).l.map Ins.sv)

theorem l41_b1 {n : Nat} {c : Cod} (hok : checkOk c = true) (hn : n ≤ 4096) (m : Nat) (st : St) (hI : B41 n c m st) :
    Ok (f41_b1 optB (Cw J) loopW st.tm st.h) (Nxt (B41 n c) (B41P n c) m) := by
  obtain ⟨hregs, hlen, hmay, -⟩ := ok_regs hok
  obtain ⟨tm, h⟩ := st
  obtain ⟨j, ⟨e1, e2, e4, e5, h0, h1⟩, e55, e56, e57, hj, hr, rfl⟩ := hI
  simp only at e1 e2 e4 e5 h0 h1 e55 e56 e57 hr ⊢
  by_cases hlt : j < c.l.length
  · obtain ⟨x, hx⟩ : ∃ x, c.l[j]? = some x := ⟨_, List.getElem?_eq_getElem hlt⟩
    have hm := hmay x (List.mem_of_getElem? hx)
    have hlt' : (j : Int) < (c.l.length : Nat) := by omega
    have hia : ia (.slice 47 5 40 false) (.sv (inssSV c.l)) (I j) = some (.ref x.sv) := ia_sv (i := j) rfl (by simp [hx]) rfl
    have hld : ∀ h, ld 5 true (.ref x.sv) h = some (.agg (x.sv.map .sv)) := fun h => by rw [ld_ref (by simp [Ins.sv])]; rfl
    have hal : alloc [.sv (.int .i64 0), .sv (.int .i64 0), .sv (.int .i64 0), .sv (.int .i64 0), .sv (.int .i64 0)] h = some (.ptr h.length 0, h ++ [.cells 0 [.sv (.int .i64 0), .sv (.int .i64 0), .sv (.int .i64 0), .sv (.int .i64 0), .sv (.int .i64 0)] true]) := alloc_eq rfl
    have hst : storeA 5 (.ptr h.length 0) (.agg (x.sv.map .sv)) (h ++ [.cells 0 [.sv (.int .i64 0), .sv (.int .i64 0), .sv (.int .i64 0), .sv (.int .i64 0), .sv (.int .i64 0)] true]) = some (.undef, h ++ [.cells 0 (x.sv.map .sv) true]) := by
      rw [store_eq (heap_last _ _) (cellsOf_agg _) (by rfl) (by simp), heap_set_last]; rfl
    have g0 : ld 1 false (.ptr h.length (0 + 0)) (h ++ [Ent.cells 0 (x.sv.map .sv) true]) = some (I x.op) := by
      rw [ld_ptr (heap_last _ _) (by simp [Ins.sv])]; rfl
    have hX : (h ++ [Ent.cells 0 (x.sv.map .sv) true])[h.length]? = some (.cells 0 (x.sv.map .sv) true) := heap_last _ _
    have hE1 : Ext h (h ++ [Ent.cells 0 (x.sv.map .sv) true]) := Ext.app _ _
    have hXl : (h ++ [Ent.cells 0 (x.sv.map .sv) true]).length = h.length + 1 := by simp
    simp -implicitDefEqProofs only [f41_b1, optB_b, e57, e56, bin_lss, hlt', Option.bind_some, decide_true, asB_bo, if_true, e55, hia, hld, hal, hst, fa_ptr, g0, c103, ex_tuple, List.getElem?_cons_zero, List.getElem?_cons_succ]
    have h0l := (List.getElem?_eq_some_iff.1 h0).1
    have h1l := (List.getElem?_eq_some_iff.1 h1).1
    generalize h ++ [Ent.cells 0 (x.sv.map .sv) true] = H1 at *
    have hal2 : alloc [.sv (.str []), .sv (.int .i64 0), .sv (.int .i64 0), .sv (.int .i64 0)] H1 = some (.ptr H1.length 0, H1 ++ [.cells 0 [.sv (.str []), .sv (.int .i64 0), .sv (.int .i64 0), .sv (.int .i64 0)] true]) := alloc_eq rfl
    have hst2 : storeA 4 (.ptr H1.length 0) (rowA x.op) (H1 ++ [.cells 0 [.sv (.str []), .sv (.int .i64 0), .sv (.int .i64 0), .sv (.int .i64 0)] true]) = some (.undef, H1 ++ [.cells 0 ((rowS (shp x.op)).map .sv) true]) := by
      rw [store_eq (heap_last _ _) (cellsOf_agg _) (by rfl) (by simp), heap_set_last]; rfl
    have hS : (H1 ++ [Ent.cells 0 ((rowS (shp x.op)).map .sv) true])[H1.length]? = some (.cells 0 ((rowS (shp x.op)).map .sv) true) := heap_last _ _
    have hE2 : Ext h (H1 ++ [Ent.cells 0 ((rowS (shp x.op)).map .sv) true]) := hE1.trans (Ext.app _ _)
    have hX2 := app_get hX (Ent.cells 0 ((rowS (shp x.op)).map .sv) true)
    simp -implicitDefEqProofs only [hal2, Option.bind_some, hst2, c104]
    generalize H1 ++ [Ent.cells 0 ((rowS (shp x.op)).map .sv) true] = H2 at *
    have hS3 := app_get hS (Ent.cells 0 [.ptr h.length 1, .ptr h.length 2, .ptr h.length 3] true)
    have hX3 := app_get hX2 (Ent.cells 0 [.ptr h.length 1, .ptr h.length 2, .ptr h.length 3] true)
    have hE3 : Ext h (H2 ++ [Ent.cells 0 [.ptr h.length 1, .ptr h.length 2, .ptr h.length 3] true]) := hE2.trans (Ext.app _ _)
    have hr3 : IsRow (H2 ++ [Ent.cells 0 [.ptr h.length 1, .ptr h.length 2, .ptr h.length 3] true]) 5 (tm 6) ((jumps n ++ (c.l.take j).map (farI n)).map Ins.sv) := by
      refine ⟨hr.1, ?_⟩
      rcases hr.2 with q | ⟨id, q, q2⟩
      · exact .inl q
      · exact .inr ⟨id, q, hE3 _ _ q2⟩
    generalize H2 ++ [Ent.cells 0 [.ptr h.length 1, .ptr h.length 2, .ptr h.length 3] true] = H3 at *
    have hXX : h.length < H1.length := by omega
    generalize hXe : h.length = X at *
    refine loop_ok (C41 n c x j X H1.length (tm 6) H3) (C41P n c x j X (tm 6) H3) (n := 3) ⟨0, ⟨by simp [upd, e1], by simp [upd, e2], by simp [upd, e4], by simp [upd, e5], hE3 _ _ h0, hE3 _ _ h1⟩, by simp [upd, e55], by simp [upd, e56], by simp [upd, e57], by simp [upd], by simp [upd], by simp [upd], by simp [upd], by simp [upd], by omega, by rw [farP_0]; exact hX3, hS3, KeepO.refl _ _, rfl⟩
      (fun m st hI => l41_b2 hn hm hlen (by omega) (by omega) (by omega) m st hI) ?_
    rintro ⟨o, ⟨tm2, h2⟩⟩ ⟨rfl, ⟨d1, d2, d4, d5, k0, k1⟩, d55, d56, d57, d6, d9, dX, dk⟩
    simp only at d1 d2 d4 d5 k0 k1 d55 d56 d57 d6 d9 dX dk ⊢
    have hr4 : IsRow h2 5 (tm 6) ((jumps n ++ (c.l.take j).map (farI n)).map Ins.sv) := hr3.keepO hX3 dk
    have hl5 : ld 5 true (.ptr X 0) h2 = some (.agg ((farI n x).sv.map .sv)) := by rw [ld_ptr dX (by simp [Ins.sv])]; rfl
    obtain ⟨v', h', -, q2, q3, q4, q5, q6, id, q7, q8⟩ := push_one (e := 47) (b := 40) (y := false) (z := [.sv (.int .i64 0), .sv (.int .i64 0), .sv (.int .i64 0), .sv (.int .i64 0), .sv (.int .i64 0)]) (x := .agg ((farI n x).sv.map .sv)) (c := (farI n x).sv) hr4 rfl rfl (by decide) (cellsOf_agg _) rfl (by decide) (by decide) (by simp [jumps_len]; omega)
    have w1 : IntKind.i64.wrap ((j : Int) + 1) = ((j + 1 : Nat) : Int) := by rw [wrapI (by omega) (by omega)]; omega
    simp -implicitDefEqProofs only [outBlock_exit, if_true, outSeq_normal, f41_k1, optB_b, d9, hl5, Option.bind_some, q2, d6, q3, d57, bin_add, w1, outBlock_normal, ok_some]
    refine nxt_n (c.l.length - (j + 1)) (by omega) ⟨j + 1, ⟨by simp [upd, d1], by simp [upd, d2], by simp [upd, d4], by simp [upd, d5], q5 _ _ k0 (hr4.other k0 (by decide)), q5 _ _ k1 (hr4.other k1 (by decide))⟩, by simp [upd, d55], by simp [upd, d56], by simp [upd], by omega, ?_, rfl⟩
    have htk : (jumps n ++ (c.l.take (j + 1)).map (farI n)).map Ins.sv = (jumps n ++ (c.l.take j).map (farI n)).map Ins.sv ++ [(farI n x).sv] := by
      rw [List.take_add_one, hx]; simp
    rw [htk]
    simpa [upd] using q4
  · have hj2 : j = c.l.length := by omega
    have hlt' : ¬ ((j : Int) < (c.l.length : Nat)) := by omega
    simp -implicitDefEqProofs only [f41_b1, optB_b, e57, e56, bin_lss, hlt', Option.bind_some, decide_false, asB_bo, Bool.false_eq_true, if_false, ok_some]
    refine nxt_e ⟨rfl, ⟨by simp [upd, e1], by simp [upd, e2], by simp [upd, e4], by simp [upd, e5], h0, h1⟩, ?_⟩
    rw [hj2, List.take_length] at hr
    simpa [upd, farC] using hr

end
end Go.Proofs.Ytmhamnnfcmkcfaa

/- Code put further on: Shift, whole. -/
set_option maxRecDepth 100000
namespace Go.Proofs.Ytmhamnnfcmkcfaa
open Go.RowKit

section
variable {J : Option (List AV → Option AV)}

theorem ms_ins (n cap : Nat) (hc : n ≤ cap) (hc2 : cap ≤ 1000000000000) (h : Heap) :
    msA (.slice 47 5 40 false) (some [.sv (.int .i64 0), .sv (.int .i64 0), .sv (.int .i64 0), .sv (.int .i64 0), .sv (.int .i64 0)]) (I n) (I cap) h = some (.own h.length 0 n, h ++ [.cells 5 ((List.replicate n zIns.sv).flatten.map .sv) true]) := by
  simp only [msA]
  rw [if_pos ⟨by omega, by omega, by omega, by decide, by decide, rfl, rfl⟩]
  simp only [Int.toNat_natCast, List.map_flatten, List.map_replicate]
  rfl

theorem row_zero (n : Nat) (h : Heap) : IsRow (h ++ [.cells 5 ((List.replicate n zIns.sv).flatten.map .sv) true]) 5 (.own h.length 0 n) ((jumps 0).map Ins.sv ++ List.replicate (n - 0) zIns.sv) := by
  refine ⟨?_, .inr ⟨h.length, ?_, ?_⟩⟩
  · intro r hr
    simp [jumps] at hr
    rw [hr.2]; rfl
  · simp [jumps]
  · simp [jumps]

theorem l41_k3 {n : Nat} {c : Cod} {tm : Tm} {h : Heap} (hF : F41 n c ⟨tm, h⟩) (hr : IsRow h 5 (tm 6) ((farC c n).l.map Ins.sv)) :
    Ok (f41_k3 optB (Cw J) loopW tm h) fun r => frzR frzDepth r.2 r.1 = some (.tuple [codA (farC c n), I 0]) := by
  obtain ⟨e1, e2, e4, e5, h0, h1⟩ := hF
  simp only at e1 e2 e4 e5 h0 h1
  obtain ⟨v, e6⟩ : ∃ v, tm 6 = v := ⟨_, rfl⟩
  rw [e6] at hr
  have hcv : cellsOf v = some [v] := by rcases hr.2 with ⟨rfl, -⟩ | ⟨id, rfl, -⟩ <;> rfl
  have hcv4 : ∀ a b d : Int, cellsOf (.agg [I a, I b, I d, v]) = some [I a, I b, I d, v] := fun a b d => by rcases hr.2 with ⟨rfl, -⟩ | ⟨id, rfl, -⟩ <;> rfl
  have l0 := (List.getElem?_eq_some_iff.1 h0).1
  have l1 := (List.getElem?_eq_some_iff.1 h1).1
  have s1 : storeA 1 (.ptr 0 (0 + 3)) v h = some (.undef, h.set 0 (.cells 0 [I c.regs, I c.arrs, I c.inn, v] true)) := by
    rw [store_eq (n := 1) (vs := [v]) h0 hcv rfl (by simp [Cod.sv])]; rfl
  have h0' : (h.set 0 (.cells 0 [I c.regs, I c.arrs, I c.inn, v] true))[0]? = some (.cells 0 [I c.regs, I c.arrs, I c.inn, v] true) := by simp [l0]
  have h1' : (h.set 0 (.cells 0 [I c.regs, I c.arrs, I c.inn, v] true))[1]? = some (.cells 0 [I 0, I 0, I 0, .nil] true) := by rw [List.getElem?_set_ne (by decide)]; exact h1
  have g0 : ld 4 true (.ptr 0 0) (h.set 0 (.cells 0 [I c.regs, I c.arrs, I c.inn, v] true)) = some (.agg [I c.regs, I c.arrs, I c.inn, v]) := by rw [ld_ptr h0' (by simp)]; rfl
  have hr' : IsRow (h.set 0 (.cells 0 [I c.regs, I c.arrs, I c.inn, v] true)) 5 v ((farC c n).l.map Ins.sv) := hr.set0 h0
  simp -implicitDefEqProofs only [f41_k3, optB_b, e2, fa_ptr, e6, s1, Option.bind_some, g0]
  generalize h.set 0 (.cells 0 [I c.regs, I c.arrs, I c.inn, v] true) = H at *
  have l1' := (List.getElem?_eq_some_iff.1 h1').1
  have s2 : storeA 4 (.ptr 1 0) (.agg [I c.regs, I c.arrs, I c.inn, v]) H = some (.undef, H.set 1 (.cells 0 [I c.regs, I c.arrs, I c.inn, v] true)) := by
    rw [store_eq (n := 4) (vs := [I c.regs, I c.arrs, I c.inn, v]) h1' (hcv4 _ _ _) rfl (by simp)]; rfl
  have h1'' : (H.set 1 (.cells 0 [I c.regs, I c.arrs, I c.inn, v] true))[1]? = some (.cells 0 [I c.regs, I c.arrs, I c.inn, v] true) := by simp [l1']
  have g1 : ld 4 true (.ptr 1 0) (H.set 1 (.cells 0 [I c.regs, I c.arrs, I c.inn, v] true)) = some (.agg [I c.regs, I c.arrs, I c.inn, v]) := by rw [ld_ptr h1'' (by simp)]; rfl
  have hr2 : IsRow (H.set 1 (.cells 0 [I c.regs, I c.arrs, I c.inn, v] true)) 5 v ((farC c n).l.map Ins.sv) := hr'.keepO h1' (KeepO.set 1 H _)
  obtain ⟨ids, f1, -⟩ := frz_cod (a := c.regs) (b := c.arrs) (c := c.inn) hr2.low
  simp -implicitDefEqProofs only [e4, s2, Option.bind_some, g1, ok_some]
  simp only [frzR, frzVs, f1, frzV_set (show setV (I 0) = true from rfl), Option.bind_some]
  rfl

theorem c41 {c : Cod} (hok : checkOk c = true) {n : Nat} (hn : c.l.length + n ≤ 4096) (h : Heap) : Cw J 41 [codA c, I n] h = some (.tuple [codA (farC c n), I 0], h) := by
  have key : Ok (evFunc optB tab shared (Cw J) loopW noD Try.f41 [codA c, I n] []) fun r => frzR frzDepth r.2 r.1 = some (.tuple [codA (farC c n), I 0]) := by
    rw [f41_eq]
    have b1 : boxA 4 (codA c) [] = some (.ptr 0 0, [.cells 0 (c.sv.map .sv) true]) := box_eq (cellsOf_agg _) rfl (cells_all _)
    have a1 : alloc [.sv (.int .i64 0), .sv (.int .i64 0), .sv (.int .i64 0), .nil] [.cells 0 (c.sv.map .sv) true] = some (.ptr 1 0, [.cells 0 (c.sv.map .sv) true, .cells 0 [I 0, I 0, I 0, .nil] true]) := alloc_eq rfl
    have g : ld 4 true (.ptr 0 0) [Ent.cells 0 (c.sv.map .sv) true, .cells 0 [I 0, I 0, I 0, .nil] true] = some (codA c) := rfl
    have g3 : ld 1 false (.ptr 0 (0 + 3)) [Ent.cells 0 (c.sv.map .sv) true, .cells 0 [I 0, I 0, I 0, .nil] true] = some (.sv (inssSV c.l)) := rfl
    have hln : ln (.slice 47 5 40 false) (.sv (inssSV c.l)) = some (I c.l.length) := by simp [inssSV]
    have hz := check_of_ok hok
    have n1 : ¬ ((n : Int) < 0) := by omega
    have n2 : ¬ ((4096 : Int) < (n : Int)) := by omega
    have w1 : IntKind.i64.wrap ((c.l.length : Nat) + (n : Int)) = (c.l.length : Nat) + (n : Int) := wrapI (by omega) (by omega)
    have n3 : ¬ ((4096 : Int) < (c.l.length : Nat) + (n : Int)) := by omega
    have w2 : IntKind.i64.wrap ((n : Int) + (c.l.length : Nat)) = ((n + c.l.length : Nat) : Int) := by rw [wrapI (by omega) (by omega)]; omega
    have hms := ms_ins n (n + c.l.length) (by omega) (by omega) [Ent.cells 0 (c.sv.map .sv) true, .cells 0 [I 0, I 0, I 0, .nil] true]
    have hrow := row_zero n [Ent.cells 0 (c.sv.map .sv) true, .cells 0 [I 0, I 0, I 0, .nil] true]
    have hh0 : ([Ent.cells 0 (c.sv.map .sv) true, .cells 0 [I 0, I 0, I 0, .nil] true] ++ [Ent.cells 5 ((List.replicate n zIns.sv).flatten.map .sv) true])[0]? = some (.cells 0 (c.sv.map .sv) true) := rfl
    have hh1 : ([Ent.cells 0 (c.sv.map .sv) true, .cells 0 [I 0, I 0, I 0, .nil] true] ++ [Ent.cells 5 ((List.replicate n zIns.sv).flatten.map .sv) true])[1]? = some (.cells 0 [I 0, I 0, I 0, .nil] true) := rfl
    simp -implicitDefEqProofs only [f41_sh, optB_b, b1, a1, Option.bind_some, g, c37 c (by omega), bin_neq, hz, decide_true, Bool.not_true, gO_ff, Bool.false_eq_true, if_false, bin_lss, n1, decide_false, asB_bo, bin_gtr, n2, fa_ptr, g3, hln, bin_add, w1, n3, w2, hms, ln_own]
    generalize [Ent.cells 0 (c.sv.map .sv) true, .cells 0 [I 0, I 0, I 0, .nil] true] ++ [Ent.cells 5 ((List.replicate n zIns.sv).flatten.map .sv) true] = H at *
    refine loop_ok (A41 n c) (fun r => r.1 = .exit 1 ∧ F41 n c r.2 ∧ IsRow r.2.h 5 (r.2.tm 6) ((jumps n).map Ins.sv)) (n := n) ⟨0, ⟨by simp [upd, init], by simp [upd], by simp [upd], by simp [upd], hh0, hh1⟩, by simp [upd], by simp [upd], by omega, by simpa [upd] using hrow, rfl⟩ (fun m st hI => l41_b0 (by omega) m st hI) ?_
    rintro ⟨o, ⟨tm1, h1⟩⟩ ⟨rfl, ⟨e1, e2, e4, e5, k0, k1⟩, hr⟩
    simp only at e1 e2 e4 e5 k0 k1 hr ⊢
    have g3' : ld 1 false (.ptr 0 (0 + 3)) h1 = some (.sv (inssSV c.l)) := by rw [ld_ptr k0 (by simp [Cod.sv])]; rfl
    simp -implicitDefEqProofs only [outBlock_exit, if_true, outSeq_normal, f41_k0, optB_b, e2, fa_ptr, g3', Option.bind_some, hln]
    refine loop_ok (B41 n c) (B41P n c) (n := c.l.length) ⟨0, ⟨by simp [upd, e1], by simp [upd, e2], by simp [upd, e4], by simp [upd, e5], k0, k1⟩, by simp [upd], by simp [upd], by simp [upd], by omega, by simpa [upd] using hr, rfl⟩ (fun m st hI => l41_b1 hok (by omega) m st hI) ?_
    rintro ⟨o, ⟨tm2, h2⟩⟩ ⟨rfl, hF, hr2⟩
    simp only at hr2 ⊢
    simp -implicitDefEqProofs only [outBlock_exit, if_true, outSeq_normal]
    exact l41_k3 hF hr2
  obtain ⟨⟨r, hr⟩, h1, h2⟩ := key
  exact call_sv Try.func41 (by kernel_rfl) (by rfl) (by rfl) (by rfl) h1 h2

end
end Go.Proofs.Ytmhamnnfcmkcfaa

/- Code put further on: the law's loops. -/
set_option maxRecDepth 100000
namespace Go.Proofs.Ytmhamnnfcmkcfaa
open Go.RowKit

theorem flat_ints' : ∀ (l : List Int), (intRow l).flatten = l.map (SV.int .i64)
  | [] => rfl
  | n :: l => by
    have := flat_ints' l
    simp only [intRow] at this
    simp [intRow, this]

theorem row_get' {h : Heap} {v : AV} {l : List Int} {j : Nat} {n : Int} (hr : IsRow h 1 v (intRow l)) (hj : l[j]? = some n) : ∃ w, ia (.slice 3 1 8 false) v (I j) = some w ∧ ld 1 false w h = some (I n) := by
  have hlt := (List.getElem?_eq_some_iff.1 hj).1
  rcases hr.2 with ⟨-, q⟩ | ⟨id, rfl, h3⟩
  · have : l = [] := by simpa [intRow] using q
    subst this; simp at hj
  · refine ⟨_, ia_own (i := j) rfl (by simpa [intRow] using hlt), ?_⟩
    rw [flat_ints'] at h3
    rw [ld_ptr h3 (by simp; omega)]
    have e : ((l.map (SV.int .i64)).map AV.sv).drop (0 + j * 1) = AV.sv (.int .i64 n) :: ((l.map (SV.int .i64)).map AV.sv).drop (0 + j * 1 + 1) := by
      rw [List.drop_eq_getElem_cons (by simp; omega)]
      congr 1
      have := (List.getElem?_eq_some_iff.1 hj).2
      simp [this]
    rw [e]
    rfl

theorem next_far {x : Ins} {c : Cod} (h : mayS x c = true) {j s : Nat} (hj : j < 5000) (hs : s < 5000) : nextS (farI s x) ((s : Int) + j) = (nextS x j).map (· + (s : Int)) := by
  obtain ⟨hr, -, -, -⟩ := may_fits h
  obtain ⟨k1, k2⟩ := kd_places hr
  have w1 : IntKind.i64.wrap ((s : Int) + j + 1) = (s : Int) + j + 1 := wrapI (by omega) (by omega)
  have w2 : IntKind.i64.wrap ((j : Int) + 1) = (j : Int) + 1 := wrapI (by omega) (by omega)
  unfold nextS
  rw [farI_op, w1, w2]
  by_cases q0 : inR x.op = false ∨ x.op = 0
  · rw [if_pos q0, if_pos q0]; rfl
  · rw [if_neg q0, if_neg q0]
    by_cases q1 : x.op = 10
    · rw [if_pos q1, if_pos q1]
      simp [farI, k1 q1]
    · rw [if_neg q1, if_neg q1]
      by_cases q2 : x.op = 11 ∨ x.op = 12
      · rw [if_pos q2, if_pos q2]
        simp [farI, k2 q2]
        omega
      · rw [if_neg q2, if_neg q2]
        simp
        omega

theorem upd_row {l : List Int} {k : Nat} {s x : Int} (hk : l[k]? = some x) : ((l.take k).map (· + s) ++ l.drop k).set k (x + s) = (l.take (k + 1)).map (· + s) ++ l.drop (k + 1) := by
  have hlt := (List.getElem?_eq_some_iff.1 hk).1
  have hd : l.drop k = x :: l.drop (k + 1) := by
    rw [List.drop_eq_getElem_cons hlt]
    congr 1
    exact (List.getElem?_eq_some_iff.1 hk).2
  have hl : ((l.take k).map (· + s)).length = k := by simp; omega
  rw [List.set_append_right _ _ (by omega), hl, hd, List.take_add_one, hk]
  simp

section
variable {J : Option (List AV → Option AV)}

/-- What stays in a round of the outer loop. -/
def K7 (a b : Nat) (c : Cod) (j : Nat) (st : St) : Prop :=
  st.tm 1 = I a ∧ st.tm 2 = I b ∧ st.tm 7 = Bo true ∧ st.tm 12 = .ptr 3 0 ∧ st.tm 96 = .sv (inssSV c.l) ∧ st.tm 97 = I c.l.length ∧ st.tm 98 = I j ∧ st.h[3]? = some (.cells 0 ((farC c (a + b)).sv.map .sv) true)

def N7 (a b : Nat) (c : Cod) (j : Nat) (y : Ins) (Y : Nat) (nx : List Int) (m : Nat) (st : St) : Prop :=
  ∃ k : Nat, K7 a b c j st ∧ st.tm 14 = I j ∧ st.tm 16 = .ptr Y 0 ∧ st.h[Y]? = some (.cells 0 (y.sv.map .sv) true) ∧ st.tm 142 = I nx.length ∧ st.tm 143 = I k ∧ k ≤ nx.length ∧ IsRow st.h 1 (st.tm 21) (intRow ((nx.take k).map (· + ((a + b : Nat) : Int)) ++ nx.drop k)) ∧ m = nx.length - k

def N7P (a b : Nat) (c : Cod) (j : Nat) (y : Ins) (Y : Nat) (nx : List Int) (r : Out × St) : Prop :=
  r.1 = .exit 2 ∧ K7 a b c j r.2 ∧ r.2.tm 14 = I j ∧ r.2.tm 16 = .ptr Y 0 ∧ r.2.h[Y]? = some (.cells 0 (y.sv.map .sv) true) ∧ IsRow r.2.h 1 (r.2.tm 21) (intRow (nx.map (· + ((a + b : Nat) : Int))))

theorem l7_b1 {a b : Nat} {c : Cod} {j : Nat} {y : Ins} {Y : Nat} {nx : List Int} (ha : a < 50) (hb : b < 50) (hnx : ∀ r ∈ nx, 0 ≤ r ∧ r < 100000) (hl : nx.length ≤ 1000) (m : Nat) (st : St) (hI : N7 a b c j y Y nx m st) :
    Ok (f7_b1 optB (Cw J) loopW st.tm st.h) (Nxt (N7 a b c j y Y nx) (N7P a b c j y Y nx) m) := by
  obtain ⟨tm, h⟩ := st
  obtain ⟨k, ⟨e1, e2, e7, e12, e96, e97, e98, h3⟩, e14, e16, hY, e142, e143, hk, hr, rfl⟩ := hI
  simp only at e1 e2 e7 e12 e96 e97 e98 h3 e14 e16 hY e142 e143 hr ⊢
  by_cases hlt : k < nx.length
  · obtain ⟨x, hx⟩ : ∃ x, nx[k]? = some x := ⟨_, List.getElem?_eq_getElem hlt⟩
    obtain ⟨p0, p1⟩ := hnx x (List.mem_of_getElem? hx)
    have hlt' : (k : Int) < (nx.length : Nat) := by omega
    have hget : ((nx.take k).map (· + ((a + b : Nat) : Int)) ++ nx.drop k)[k]? = some x := by
      have hl2 : ((nx.take k).map (· + ((a + b : Nat) : Int))).length = k := by simp; omega
      rw [List.getElem?_append_right (by omega), hl2, List.getElem?_drop]
      simpa using hx
    have hlen : ((nx.take k).map (· + ((a + b : Nat) : Int)) ++ nx.drop k).length = nx.length := by simp; omega
    obtain ⟨w, hia, hld⟩ := row_get' hr hget
    obtain ⟨p, h', q1, q2, q3, q4, q5⟩ := row_put (e := 3) (b := 8) (y := false) hr (i := k) (c := [.int .i64 (x + ((a + b : Nat) : Int))]) (by simp only [intRow, List.length_map]; omega) rfl
    have hpw : p = w := by rw [q1] at hia; exact Option.some.inj hia
    subst hpw
    have q2' := q2 (I (x + ((a + b : Nat) : Int))) rfl
    have w0 : IntKind.i64.wrap ((a : Int) + (b : Int)) = ((a + b : Nat) : Int) := by rw [wrapI (by omega) (by omega)]; omega
    have w1 : IntKind.i64.wrap (x + ((a + b : Nat) : Int)) = x + ((a + b : Nat) : Int) := wrapI (by omega) (by omega)
    have w2 : IntKind.i64.wrap ((k : Int) + 1) = ((k + 1 : Nat) : Int) := by rw [wrapI (by omega) (by omega)]; omega
    have hset : (intRow ((nx.take k).map (· + ((a + b : Nat) : Int)) ++ nx.drop k)).set k [.int .i64 (x + ((a + b : Nat) : Int))] = intRow ((nx.take (k + 1)).map (· + ((a + b : Nat) : Int)) ++ nx.drop (k + 1)) := by
      rw [← upd_row hx]
      unfold intRow
      rw [List.map_set]
    rw [hset] at q3
    simp -implicitDefEqProofs only [f7_b1, optB_b, e143, e142, bin_lss, hlt', Option.bind_some, decide_true, asB_bo, if_true, q1, hld, e1, e2, bin_add, w0, w1, q2', w2, ok_some]
    exact nxt_n (nx.length - (k + 1)) (by omega) ⟨k + 1, ⟨by simp [upd, e1], by simp [upd, e2], by simp [upd, e7], by simp [upd, e12], by simp [upd, e96], by simp [upd, e97], by simp [upd, e98], q4 _ _ h3 (hr.other h3 (by decide))⟩, by simp [upd, e14], by simp [upd, e16], q4 _ _ hY (hr.other hY (by decide)), by simp [upd, e142], by simp [upd], by omega, by simpa [upd] using q3, rfl⟩
  · have hk2 : k = nx.length := by omega
    have hlt' : ¬ ((k : Int) < (nx.length : Nat)) := by omega
    simp -implicitDefEqProofs only [f7_b1, optB_b, e143, e142, bin_lss, hlt', Option.bind_some, decide_false, asB_bo, Bool.false_eq_true, if_false, ok_some]
    rw [hk2, List.take_length, List.drop_length, List.append_nil] at hr
    exact nxt_e ⟨rfl, ⟨by simp [upd, e1], by simp [upd, e2], by simp [upd, e7], by simp [upd, e12], by simp [upd, e96], by simp [upd, e97], by simp [upd, e98], h3⟩, by simp [upd, e14], by simp [upd, e16], hY, by simpa [upd] using hr⟩

end
end Go.Proofs.Ytmhamnnfcmkcfaa

/- Code put further on: the law. -/
set_option maxRecDepth 100000
namespace Go.Proofs.Ytmhamnnfcmkcfaa
open Go.RowKit

theorem allS_len' (x : Ins) : (readsS x).length ≤ 4 := by
  unfold readsS
  (repeat' split) <;> simp

theorem nextS_len' (x : Ins) (i : Int) : (nextS x i).length ≤ 2 := by
  unfold nextS
  (repeat' split) <;> simp

section
variable {J : Option (List AV → Option AV)}

def D7 (a b : Nat) (c : Cod) (m : Nat) (st : St) : Prop := ∃ j : Nat, K7 a b c j st ∧ j ≤ c.l.length ∧ m = c.l.length - j
def D7P (r : Out × St) : Prop := r.1 = .exit 0 ∧ r.2.tm 7 = Bo true

theorem l7_k0 {a b : Nat} {c : Cod} {j : Nat} {x : Ins} {Y : Nat} (ha : a < 50) (hb : b < 50) (hl : c.l.length ≤ 300) (hj : j < c.l.length) (hm : mayS x c = true) {tm : Tm} {h : Heap} (hK : K7 a b c j ⟨tm, h⟩) (e14 : tm 14 = I j) (e16 : tm 16 = .ptr Y 0)
    (hY : h[Y]? = some (.cells 0 ((farI ((a + b : Nat) : Int) x).sv.map .sv) true)) (hr : IsRow h 1 (tm 21) (intRow ((nextS x j).map (· + ((a + b : Nat) : Int))))) :
    Ok (outSeq (f7_k0 optB (Cw J) loopW) (outBlock 1 (outSeq (f7_k1 optB (Cw J) loopW) outK)) .normal tm h) (Nxt (D7 a b c) D7P (c.l.length - j)) := by
  obtain ⟨e1, e2, e7, e12, e96, e97, e98, h3⟩ := hK
  simp only at e1 e2 e7 e12 e96 e97 e98 h3
  have hld : ld 5 true (.ptr Y 0) h = some (.agg ((farI ((a + b : Nat) : Int) x).sv.map .sv)) := by rw [ld_ptr hY (by simp [Ins.sv])]; rfl
  have w0 : IntKind.i64.wrap ((a : Int) + (b : Int)) = ((a + b : Nat) : Int) := by rw [wrapI (by omega) (by omega)]; omega
  have w1 : IntKind.i64.wrap (((a + b : Nat) : Int) + (j : Int)) = ((a + b : Nat) : Int) + (j : Int) := wrapI (by omega) (by omega)
  have w2 : IntKind.i64.wrap ((j : Int) + 1) = ((j + 1 : Nat) : Int) := by rw [wrapI (by omega) (by omega)]; omega
  have hnl := nextS_len' x j
  simp -implicitDefEqProofs only [outSeq_normal, f7_k0, optB_b, e16, hld, Option.bind_some, e1, e2, bin_add, w0, e14, w1]
  refine Ok.bind (c40 (farI ((a + b : Nat) : Int) x) (((a + b : Nat) : Int) + (j : Int)) h) ?_
  rintro ⟨v, h2⟩ ⟨hr2, hE⟩
  simp only at hr2 hE ⊢
  have hr' : IsRow h2 1 (tm 21) (intRow ((nextS x j).map (· + ((a + b : Nat) : Int)))) := by
    refine ⟨hr.1, ?_⟩
    rcases hr.2 with q | ⟨id, q, q2⟩
    · exact .inl q
    · exact .inr ⟨id, q, hE _ _ q2⟩
  rw [next_far hm (by omega) (by omega)] at hr2
  obtain ⟨ids, h43, hids⟩ := c43o (J := J) hr' hr2 (by simp; omega)
  have h3' : (settle h2 ids)[3]? = some (.cells 0 ((farC c (a + b)).sv.map .sv) true) := settle_other (hE _ _ h3) (fun q => by
    obtain ⟨cs, wr, hw⟩ := hids 3 q
    rw [hE _ _ h3] at hw
    cases hw)
  simp -implicitDefEqProofs only [h43, Option.bind_some, decide_true, un_not, Bool.not_true, asB_bo, Bool.false_eq_true, if_false, e98, bin_add, w2, ok_some]
  exact nxt_n (c.l.length - (j + 1)) (by omega) ⟨j + 1, ⟨by simp [upd, e1], by simp [upd, e2], by simp [upd, e7], by simp [upd, e12], by simp [upd, e96], by simp [upd, e97], by simp [upd], h3'⟩, by omega, rfl⟩

theorem l7_b0 {a b : Nat} {c : Cod} (hok : checkOk c = true) (ha : a < 50) (hb : b < 50) (hl : c.l.length ≤ 300) (m : Nat) (st : St) (hI : D7 a b c m st) : Ok (f7_b0 optB (Cw J) loopW st.tm st.h) (Nxt (D7 a b c) D7P m) := by
  obtain ⟨hregs, hlen, hmay, hlast⟩ := ok_regs hok
  obtain ⟨tm, h⟩ := st
  obtain ⟨j, ⟨e1, e2, e7, e12, e96, e97, e98, h3⟩, hj, rfl⟩ := hI
  simp only at e1 e2 e7 e12 e96 e97 e98 h3 ⊢
  by_cases hlt : j < c.l.length
  · obtain ⟨x, hx⟩ : ∃ x, c.l[j]? = some x := ⟨_, List.getElem?_eq_getElem hlt⟩
    have hm := hmay x (List.mem_of_getElem? hx)
    have hlt' : (j : Int) < (c.l.length : Nat) := by omega
    have hnl := nextS_len' x j
    have hz : (farC c (a + b)).l[a + b + j]? = some (farI ((a + b : Nat) : Int) x) := by
      simp only [farC]
      rw [List.getElem?_append_right (by rw [jumps_len]; omega), jumps_len, List.getElem?_map]
      have : a + b + j - (a + b) = j := by omega
      rw [this, hx]; rfl
    have hnx := nextS_in hm hlt (by omega) (fun q => by
      have e : c.l.getLast? = some x := by rw [List.getLast?_eq_getElem?, ← hx]; congr 1; omega
      have e2 : lastOp c = x.op := by simp [lastOp, e]
      rw [e2] at hlast
      exact hlast)
    have w0 : IntKind.i64.wrap ((a : Int) + (b : Int)) = ((a + b : Nat) : Int) := by rw [wrapI (by omega) (by omega)]; omega
    have w1 : IntKind.i64.wrap (((a + b : Nat) : Int) + (j : Int)) = ((a + b + j : Nat) : Int) := by rw [wrapI (by omega) (by omega)]; omega
    have hia : ia (.slice 47 5 40 false) (.sv (inssSV c.l)) (I j) = some (.ref x.sv) := ia_sv (i := j) rfl (by simp [hx]) rfl
    have hiz : ia (.slice 47 5 40 false) (.sv (inssSV (farC c (a + b)).l)) (I ((a + b + j : Nat) : Int)) = some (.ref (farI ((a + b : Nat) : Int) x).sv) := ia_sv (i := a + b + j) rfl (by simp [hz]) rfl
    have hld : ∀ (z : Ins) h, ld 5 true (.ref z.sv) h = some (.agg (z.sv.map .sv)) := fun z h => by rw [ld_ref (by simp [Ins.sv])]; rfl
    have hal : ∀ h, alloc [.sv (.int .i64 0), .sv (.int .i64 0), .sv (.int .i64 0), .sv (.int .i64 0), .sv (.int .i64 0)] h = some (.ptr (List.length h) 0, h ++ [.cells 0 [.sv (.int .i64 0), .sv (.int .i64 0), .sv (.int .i64 0), .sv (.int .i64 0), .sv (.int .i64 0)] true]) := fun h => alloc_eq rfl
    have hst : ∀ (z : Ins) h, storeA 5 (.ptr (List.length h) 0) (.agg (z.sv.map .sv)) (h ++ [.cells 0 [.sv (.int .i64 0), .sv (.int .i64 0), .sv (.int .i64 0), .sv (.int .i64 0), .sv (.int .i64 0)] true]) = some (.undef, h ++ [.cells 0 (z.sv.map .sv) true]) := fun z h => by
      rw [store_eq (heap_last _ _) (cellsOf_agg _) (by rfl) (by simp), heap_set_last]; rfl
    have hX : (h ++ [Ent.cells 0 (x.sv.map .sv) true])[h.length]? = some (.cells 0 (x.sv.map .sv) true) := heap_last _ _
    have h3a : (h ++ [Ent.cells 0 (x.sv.map .sv) true])[3]? = some (.cells 0 ((farC c (a + b)).sv.map .sv) true) := app_get h3 _
    have gz : ld 1 false (.ptr 3 (0 + 3)) (h ++ [Ent.cells 0 (x.sv.map .sv) true]) = some (.sv (inssSV (farC c (a + b)).l)) := by rw [ld_ptr h3a (by simp [Cod.sv])]; rfl
    simp -implicitDefEqProofs only [f7_b0, optB_b, e98, e97, bin_lss, hlt', Option.bind_some, decide_true, asB_bo, if_true, e96, hia, hld, hal, hst, e12, fa_ptr, gz, e1, e2, bin_add, w0, w1, hiz]
    generalize h ++ [Ent.cells 0 (x.sv.map .sv) true] = H1 at *
    generalize hXe : List.length h = X at *
    have hY : (H1 ++ [Ent.cells 0 ((farI ((a + b : Nat) : Int) x).sv.map .sv) true])[H1.length]? = some (.cells 0 ((farI ((a + b : Nat) : Int) x).sv.map .sv) true) := heap_last _ _
    have hX2 := app_get hX (Ent.cells 0 ((farI ((a + b : Nat) : Int) x).sv.map .sv) true)
    have h3b := app_get h3a (Ent.cells 0 ((farI ((a + b : Nat) : Int) x).sv.map .sv) true)
    generalize H1 ++ [Ent.cells 0 ((farI ((a + b : Nat) : Int) x).sv.map .sv) true] = H2 at *
    generalize H1.length = Y at *
    have lX : ld 5 true (.ptr X 0) H2 = some (.agg (x.sv.map .sv)) := by rw [ld_ptr hX2 (by simp [Ins.sv])]; rfl
    have lY : ld 5 true (.ptr Y 0) H2 = some (.agg ((farI ((a + b : Nat) : Int) x).sv.map .sv)) := by rw [ld_ptr hY (by simp [Ins.sv])]; rfl
    have hrl : (readsS x).length ≤ 1000000000 := by have := allS_len' x; omega
    simp -implicitDefEqProofs only [lX, lY, Option.bind_some, c39, ex_tuple, List.getElem?_cons_zero, List.getElem?_cons_succ, writes_far, bin_neq, decide_true, Bool.not_true, gO_ff, Bool.false_eq_true, if_false, bin_neqB, beq_self_eq_true, asB_bo, c38, reads_far, c43 hrl, un_not]
    refine Ok.bind (c40 x j H2) ?_
    rintro ⟨v, h4⟩ ⟨hr, hE⟩
    simp only at hr hE ⊢
    have hlnv := hr.len 3 8 false
    have hrl2 : (intRow (nextS x j)).length = (nextS x j).length := by simp [intRow]
    rw [hrl2] at hlnv
    simp -implicitDefEqProofs only [hlnv, Option.bind_some]
    refine loop_ok (N7 a b c j (farI ((a + b : Nat) : Int) x) Y (nextS x j)) (N7P a b c j (farI ((a + b : Nat) : Int) x) Y (nextS x j)) (n := (nextS x j).length) ⟨0, ⟨by simp [upd, e1], by simp [upd, e2], by simp [upd, e7], by simp [upd, e12], by simp [upd, e96], by simp [upd, e97], by simp [upd, e98], hE _ _ h3b⟩, by simp [upd], by simp [upd], hE _ _ hY, by simp [upd], by simp [upd], by omega, by simpa [upd] using hr, rfl⟩
      (fun m st hI => l7_b1 ha hb (fun r q => by have := hnx r q; omega) (by omega) m st hI) ?_
    rintro ⟨o, ⟨tm2, h5⟩⟩ ⟨rfl, hK, f14, f16, fY, fr⟩
    simp only at f14 f16 fY fr ⊢
    simp -implicitDefEqProofs only [outBlock_exit, if_true]
    exact l7_k0 ha hb hl hlt hm hK f14 f16 fY fr
  · have hlt' : ¬ ((j : Int) < (c.l.length : Nat)) := by omega
    simp -implicitDefEqProofs only [f7_b0, optB_b, e98, e97, bin_lss, hlt', Option.bind_some, decide_false, asB_bo, Bool.false_eq_true, if_false, ok_some]
    exact nxt_e ⟨rfl, by simp [upd, e7]⟩

end
end Go.Proofs.Ytmhamnnfcmkcfaa

/- Code put further on: the law, whole. -/
set_option maxRecDepth 100000
namespace Go.Proofs.Ytmhamnnfcmkcfaa
open Go.RowKit

section
variable {J : Option (List AV → Option AV)}

theorem bin_rem50 (x : Int) : bin .rem (.int .i64) (I x) (I 50) = some (I (x.tmod 50)) := by simp [bin, binI]

theorem fifty (u : Int) : ∃ a : Nat, a < 50 ∧ (IntKind.i64.wrap (u.tmod 50 + 50)).tmod 50 = a := by
  have h1 : u.tmod 50 < 50 := Int.tmod_lt_of_pos _ (by decide)
  have h2 : -50 < u.tmod 50 := Int.lt_tmod_of_pos _ (by decide)
  rw [wrapI (by omega) (by omega)]
  have h3 : (u.tmod 50 + 50).tmod 50 = (u.tmod 50 + 50) % 50 := Int.tmod_eq_emod_of_nonneg (by omega)
  rw [h3]
  exact ⟨((u.tmod 50 + 50) % 50).toNat, by omega, by omega⟩

theorem law7 (c : Cod) (u v : Int) : Ok (evFunc optB tab shared (Cw J) loopW noD Try.f7 [codA c, I u, I v] []) fun r => r.1 = Bo true := by
  rw [f7_eq]
  have b1 : boxA 4 (codA c) [] = some (.ptr 0 0, [.cells 0 (c.sv.map .sv) true]) := box_eq (cellsOf_agg _) rfl (cells_all _)
  have g : ld 4 true (.ptr 0 0) [Ent.cells 0 (c.sv.map .sv) true] = some (codA c) := rfl
  by_cases hf : c.l.length ≤ 300
  · have hl : c.l.length ≤ 9223372036854775806 := by omega
    by_cases hz : checkC c = 0
    · have hok := ok_of_check hz
      obtain ⟨a, ha, ea⟩ := fifty u
      obtain ⟨b, hb, eb⟩ := fifty v
      have hoka : checkOk (farC c a) = true := far_ok hok (by omega)
      have hokz : checkOk (farC c (a + b)) = true := far_ok hok (by omega)
      have hzz := check_of_ok hokz
      have hla := farC_len c a
      have hlz := farC_len c (a + b)
      have s1 : ∀ h, Cw J 41 [codA c, I a] h = some (.tuple [codA (farC c a), I 0], h) := fun h => c41 hok (by omega) h
      have s2 : ∀ h, Cw J 41 [codA (farC c a), I b] h = some (.tuple [codA (farC c (a + b)), I 0], h) := fun h => by rw [c41 hoka (by omega) h, farC_add]
      have s3 : ∀ h, Cw J 41 [codA c, I ((a + b : Nat) : Int)] h = some (.tuple [codA (farC c (a + b)), I 0], h) := fun h => c41 hok (by omega) h
      have w0 : IntKind.i64.wrap ((a : Int) + (b : Int)) = ((a + b : Nat) : Int) := by rw [wrapI (by omega) (by omega)]; omega
      have w1 : IntKind.i64.wrap (((a + b : Nat) : Int) + (c.l.length : Nat)) = ((a + b + c.l.length : Nat) : Int) := by rw [wrapI (by omega) (by omega)]; omega
      have al : ∀ h, alloc [.sv (.int .i64 0), .sv (.int .i64 0), .sv (.int .i64 0), .nil] h = some (.ptr (List.length h) 0, h ++ [.cells 0 [I 0, I 0, I 0, .nil] true]) := fun h => alloc_eq rfl
      have st : ∀ (d : Cod) h, storeA 4 (.ptr (List.length h) 0) (codA d) (h ++ [.cells 0 [I 0, I 0, I 0, .nil] true]) = some (.undef, h ++ [.cells 0 (d.sv.map .sv) true]) := fun d h => by
        rw [store_eq (heap_last _ _) (cellsOf_agg _) (by rfl) (by simp), heap_set_last]; rfl
      have l1 : ∀ d : Cod, ld 4 true (.ptr (List.length [Ent.cells 0 (c.sv.map .sv) true]) 0) ([Ent.cells 0 (c.sv.map .sv) true] ++ [.cells 0 (d.sv.map .sv) true]) = some (codA d) := fun d => rfl
      have l0 : ∀ d e : Cod, ld 4 true (.ptr 0 0) ([Ent.cells 0 (c.sv.map .sv) true] ++ [.cells 0 (d.sv.map .sv) true] ++ [.cells 0 (e.sv.map .sv) true]) = some (codA c) := fun d e => rfl
      have l2 : ∀ d e f : Cod, ld 4 true (.ptr (List.length ([Ent.cells 0 (c.sv.map .sv) true] ++ [.cells 0 (d.sv.map .sv) true])) 0) ([Ent.cells 0 (c.sv.map .sv) true] ++ [.cells 0 (d.sv.map .sv) true] ++ [.cells 0 (e.sv.map .sv) true] ++ [.cells 0 (f.sv.map .sv) true]) = some (codA e) := fun d e f => rfl
      have l3 : ∀ d e f : Cod, ld 4 true (.ptr (List.length ([Ent.cells 0 (c.sv.map .sv) true] ++ [.cells 0 (d.sv.map .sv) true] ++ [.cells 0 (e.sv.map .sv) true])) 0) ([Ent.cells 0 (c.sv.map .sv) true] ++ [.cells 0 (d.sv.map .sv) true] ++ [.cells 0 (e.sv.map .sv) true] ++ [.cells 0 (f.sv.map .sv) true]) = some (codA f) := fun d e f => rfl
      have l3l : ∀ d e f : Cod, ld 1 false (.ptr (List.length ([Ent.cells 0 (c.sv.map .sv) true] ++ [.cells 0 (d.sv.map .sv) true] ++ [.cells 0 (e.sv.map .sv) true])) (0 + 3)) ([Ent.cells 0 (c.sv.map .sv) true] ++ [.cells 0 (d.sv.map .sv) true] ++ [.cells 0 (e.sv.map .sv) true] ++ [.cells 0 (f.sv.map .sv) true]) = some (.sv (inssSV f.l)) := fun d e f => rfl
      have l0l : ∀ d e f : Cod, ld 1 false (.ptr 0 (0 + 3)) ([Ent.cells 0 (c.sv.map .sv) true] ++ [.cells 0 (d.sv.map .sv) true] ++ [.cells 0 (e.sv.map .sv) true] ++ [.cells 0 (f.sv.map .sv) true]) = some (.sv (inssSV c.l)) := fun d e f => rfl
      have hln : ∀ l : List Ins, ln (.slice 47 5 40 false) (.sv (inssSV l)) = some (I l.length) := fun l => by simp [inssSV]
      have hlz' : (((farC c (a + b)).l.length : Nat) : Int) = ((a + b + c.l.length : Nat) : Int) := by rw [hlz]
      simp (maxSteps := 3000000) -implicitDefEqProofs only [f7_sh, optB_b, b1, Option.bind_some, c32, g, c36, hf, decide_true, un_not, Bool.not_true, gO_ff, Bool.false_eq_true, if_false, c37 c hl, bin_neq, hz, asB_bo, bin_rem50, bin_add, ea, eb, s1, ex_tuple, List.getElem?_cons_zero, List.getElem?_cons_succ, al, st, l1, s2, l0, w0, s3, l2, l3,
        c42 (show (farC c (a + b)).l.length ≤ 1000000000 by omega), and_self, Bool.and_true, c37 (farC c (a + b)) (by omega), hzz, fa_ptr, l3l, hln, l0l, w1, hlz']
      refine loop_ok (D7 a b c) D7P (n := c.l.length) ⟨0, ⟨by simp [upd], by simp [upd], by simp [upd], by simp [upd], by simp [upd], by simp [upd], by simp [upd], rfl⟩, by omega, rfl⟩ (fun m st hI => l7_b0 hok ha hb hf m st hI) ?_
      rintro ⟨o, ⟨tm, h⟩⟩ ⟨rfl, e7⟩
      simp only at e7 ⊢
      simp -implicitDefEqProofs only [outBlock_exit, if_true, outSeq_normal, f7_k2, ok_some, e7]
    · simp -implicitDefEqProofs only [f7_sh, optB_b, b1, Option.bind_some, c32, g, c36, hf, decide_true, decide_false, un_not, Bool.not_true, Bool.not_false, gO_ff, Bool.false_eq_true, if_false, c37 c hl, bin_neq, hz, asB_bo, if_true, ok_some]
  · simp -implicitDefEqProofs only [f7_sh, optB_b, b1, Option.bind_some, c32, g, c36, hf, decide_false, un_not, Bool.not_false, gO_ff, if_true, asB_bo, gO_dead, ok_some]

end
end Go.Proofs.Ytmhamnnfcmkcfaa

/- What a call is handed, read: settled values of its types. -/
namespace Go.Proofs.Ytmhamnnfcmkcfaa
open Go.RowKit

/-- All that lies in memory is settled. -/
def allOf (w : World) : Settled := fun b o => w.cell? ⟨b, o, none⟩

def tiles (P : Program) : List Field → Nat → Nat → Bool
  | [], o, n => o == n
  | f :: fs, o, n => f.offset == o && tiles P fs (o + P.cellsOf f.type) n

def okT (P : Program) (ok : List Nat) : Bool := ok.all fun t => match P.underlying t with
  | some .bool => true
  | some (.int _) => true
  | some .string => true
  | some (.slice e) => ok.contains e && decide (0 < P.cellsOf e)
  | some (.struct fs) => fs.toList.all (fun f => ok.contains f.type) && tiles P fs.toList 0 (P.cellsOf t)
  | _ => false

def fitsF (fit : TypeId → List SV → Prop) : List Field → List SV → Prop
  | [], l => l = []
  | f :: fs, l => ∃ a b, l = a ++ b ∧ fit f.type a ∧ fitsF fit fs b

/-- Settled cells that a type may have. -/
def fits (P : Program) : Nat → TypeId → List SV → Prop
  | 0, _, _ => False
  | n + 1, t, l => match P.underlying t with
    | some .bool => ∃ b, l = [.bool b]
    | some (.int k) => ∃ i, l = [.int k i] ∧ (Lit.int k i).wf = true
    | some .string => ∃ s, l = [.str s] ∧ s.length ≤ maxLen
    | some (.slice e) => ∃ xs, l = [.slice xs] ∧ xs.length ≤ maxLen ∧ ∀ x ∈ xs, fits P n e x
    | some (.struct fs) => fitsF (fits P n) fs.toList l
    | _ => False

def RepSL (S : Settled) (l : List SV) (cs : List Value) : Prop := l.length = cs.length ∧ ∀ (j : Nat) (s : SV) (v : Value), l[j]? = some s → cs[j]? = some v → RepS S s v

theorem RepSL.append {S : Settled} {a b : List SV} {cs ds : List Value} (h : RepSL S a cs) (k : RepSL S b ds) : RepSL S (a ++ b) (cs ++ ds) := by
  refine ⟨by simp [h.1, k.1], fun j s v h1 h2 => ?_⟩
  rw [List.getElem?_append] at h1 h2
  rw [h.1] at h1
  split at h1
  · rename_i q; rw [if_pos q] at h2; exact h.2 j s v h1 h2
  · rename_i q; rw [if_neg q] at h2; exact k.2 _ s v h1 h2

theorem RepSL.one {S : Settled} {s : SV} {v : Value} (h : RepS S s v) : RepSL S [s] [v] := by
  refine ⟨rfl, fun j s' v' h1 h2 => ?_⟩
  cases j with
  | zero => simp at h1 h2; subst h1; subst h2; exact h
  | succ j => simp at h1

section
variable {H : Type} {enc : TypeId × Value → H} {P : Program} {w : World} {base : Nat} {sp : Nat → Bool} {held : Bool}

theorem fields_fits {n : Nat} {cs : List Value} :
    ∀ (fl : List Field) (o : Nat), (∀ f ∈ fl, ∃ y, DataW.trod enc P w base sp held n f.type ((cs.drop f.offset).take (P.cellsOf f.type)) = some y) → tiles P fl o cs.length = true →
      (∀ f ∈ fl, ∀ cs y, DataW.trod enc P w base sp held n f.type cs = some y → ∃ l, RepSL (allOf w) l cs ∧ fits P n f.type l) → ∃ l, RepSL (allOf w) l (cs.drop o) ∧ fitsF (fits P n) fl l
  | [], o, _, ht, _ => by
    simp only [tiles, beq_iff_eq] at ht
    subst ht
    exact ⟨[], ⟨by simp, fun j s v h => by simp at h⟩, rfl⟩
  | f :: fl, o, h, ht, hI => by
    simp only [tiles, Bool.and_eq_true, beq_iff_eq] at ht
    obtain ⟨rfl, ht⟩ := ht
    obtain ⟨y, hy⟩ := h f (List.mem_cons_self ..)
    obtain ⟨a, ha, hfa⟩ := hI f (List.mem_cons_self ..) _ _ hy
    obtain ⟨b, hb, hfb⟩ := fields_fits (cs := cs) fl _ (fun g hg => h g (List.mem_cons_of_mem _ hg)) ht (fun g hg => hI g (List.mem_cons_of_mem _ hg))
    refine ⟨a ++ b, ?_, a, b, rfl, hfa, hfb⟩
    have := ha.append hb
    rw [← List.drop_drop, List.take_append_drop] at this
    exact this

theorem trod_fits {ok : List Nat} (hok : okT P ok = true) : ∀ (fuel : Nat) (t : TypeId) (cs : List Value) (y : DataW H × List MemPlace), t ∈ ok → DataW.trod enc P w base sp held fuel t cs = some y → ∃ l, RepSL (allOf w) l cs ∧ fits P fuel t l := by
  intro fuel
  induction fuel with
  | zero => intro t cs y _ e; simp [DataW.trod] at e
  | succ n ih =>
    intro t cs y ht e
    have hk := List.all_eq_true.1 hok t ht
    split at hk
    · rename_i hu
      obtain ⟨b, rfl, -⟩ := DataW.trod_bool hu e
      exact ⟨[.bool b], .one (.bool b), by simp [fits, hu]⟩
    · rename_i k hu
      obtain ⟨i, rfl, -, hw⟩ := DataW.trod_int hu e
      exact ⟨[.int k i], .one (.int k i), by simp [fits, hu, hw]⟩
    · rename_i hu
      obtain ⟨s, rfl, -, hs⟩ := DataW.trod_string hu e
      refine ⟨[.str s.data.toList], .one (.str s.data.toList), ?_⟩
      simp only [fits, hu]
      exact ⟨_, rfl, by simpa using hs⟩
    · rename_i el hu
      rw [Bool.and_eq_true] at hk
      have hel : el ∈ ok := by simpa using hk.1
      have hpos : 0 < P.cellsOf el := of_decide_eq_true hk.2
      rcases DataW.trod_slice hu e with ⟨rfl, -⟩ | ⟨a, len, cap, elems, rest, m, hm, rfl, -, -, hle, hcap, hlen, hel2, -⟩
      · refine ⟨[.slice []], .one (.slice0 _ _), ?_⟩
        simp only [fits, hu]
        exact ⟨[], rfl, Nat.zero_le _, fun x hx => by simp at hx⟩
      · obtain rfl : n = m := by omega
        have each : ∀ i, i < len → ∃ ci l, w.cells? base (a.add (i * P.cellsOf el)) (P.cellsOf el) = some ci ∧ RepSL (allOf w) l ci ∧ fits P n el l := by
          intro i hi
          have h1 := hel2 i hi
          rw [List.getElem?_eq_getElem (by omega)] at h1
          obtain ⟨ci, h2, h3⟩ := Option.bind_eq_some_iff.1 h1
          obtain ⟨l, h4, h5⟩ := ih el ci _ hel h3
          exact ⟨ci, l, h2, h4, h5⟩
        by_cases hz : len = 0
        · subst hz
          refine ⟨[.slice []], .one (.slice0 _ _), ?_⟩
          simp only [fits, hu]
          exact ⟨[], rfl, Nat.zero_le _, fun x hx => by simp at hx⟩
        · -- the address is a plain one
          obtain ⟨b, o, spot⟩ := a
          have hspot : spot = none := by
            obtain ⟨ci, l, h1, h2, -⟩ := each 0 (by omega)
            obtain ⟨-, hl, hc⟩ := World.cells?_some h1
            have h0 := hc 0 hpos
            obtain ⟨v, hv⟩ : ∃ v, ci[0]? = some v := ⟨ci[0]'(by omega), List.getElem?_eq_getElem _⟩
            rw [hv] at h0
            simpa [Addr.add] using World.cell?_spot h0
          subst hspot
          let xs : List (List SV) := (List.range len).map fun i => if h : i < len then Classical.choose (Classical.choose_spec (each i h)) else []
          have hxl : xs.length = len := by simp [xs]
          have hx : ∀ i (h : i < len), xs[i]? = some (Classical.choose (Classical.choose_spec (each i h))) := by
            intro i h
            simp [xs, h]
          have hxs : ∀ i x, xs[i]? = some x → ∃ ci, i < len ∧ w.cells? base ((⟨b, o, none⟩ : Addr).add (i * P.cellsOf el)) (P.cellsOf el) = some ci ∧ RepSL (allOf w) x ci ∧ fits P n el x := by
            intro i x h
            have hi : i < len := by rw [← hxl]; exact (List.getElem?_eq_some_iff.1 h).1
            rw [hx i hi] at h
            cases h
            obtain ⟨h1, h2, h3⟩ := Classical.choose_spec (Classical.choose_spec (each i hi))
            exact ⟨_, hi, h1, h2, h3⟩
          have hcell : ∀ i x, xs[i]? = some x → x.length = P.cellsOf el ∧ ∀ j s, x[j]? = some s → ∃ v, w.cell? ⟨b, o + i * P.cellsOf el + j, none⟩ = some v ∧ RepS (allOf w) s v := by
            intro i x h
            obtain ⟨ci, hi, h1, h2, h3⟩ := hxs i x h
            obtain ⟨-, hl, hc⟩ := World.cells?_some h1
            refine ⟨by rw [h2.1, hl], fun j s hs => ?_⟩
            have hj : j < ci.length := by rw [← h2.1]; exact (List.getElem?_eq_some_iff.1 hs).1
            have hv : ci[j]? = some ci[j] := List.getElem?_eq_getElem hj
            have hcj := hc j (by omega)
            rw [Addr.add_mid, Addr.add_mid, hv] at hcj
            exact ⟨_, hcj, h2.2 j s _ hs hv⟩
          refine ⟨[.slice xs], ?_, ?_⟩
          · refine .one ?_
            have := RepS.slice (S := allOf w) xs b o cap (P.cellsOf el) (fun i j => (w.cell? ⟨b, o + i * P.cellsOf el + j, none⟩).getD undef) (by omega) ?_ ?_ ?_
            · rw [hxl] at this; exact this
            · intro c hc
              obtain ⟨i, hi⟩ := List.mem_iff_getElem?.1 hc
              exact (hcell i c hi).1
            · intro i j hi hj
              obtain ⟨h1, h2⟩ := hcell i _ (List.getElem?_eq_getElem hi)
              obtain ⟨v, hv, -⟩ := h2 j _ (List.getElem?_eq_getElem (by omega))
              simp only [allOf, hv, Option.getD_some]
            · intro i j c s hi hj
              obtain ⟨h1, h2⟩ := hcell i c hi
              obtain ⟨v, hv, hr⟩ := h2 j s hj
              simp only [hv, Option.getD_some]
              exact hr
          · simp only [fits, hu]
            refine ⟨xs, rfl, by omega, fun x hx => ?_⟩
            obtain ⟨i, hi⟩ := List.mem_iff_getElem?.1 hx
            obtain ⟨ci, -, -, -, h3⟩ := hxs i x hi
            exact h3
    · rename_i fs hu
      rw [Bool.and_eq_true] at hk
      obtain ⟨xs, m, hm, -, hlen, hsz, hf⟩ := DataW.trod_struct hu e
      obtain rfl : n = m := by omega
      have hmem : ∀ f ∈ fs.toList, f.type ∈ ok := fun f hf => by simpa using List.all_eq_true.1 hk.1 f hf
      have hget : ∀ f ∈ fs.toList, ∃ y, DataW.trod enc P w base sp held n f.type ((cs.drop f.offset).take (P.cellsOf f.type)) = some y := by
        intro f hfm
        obtain ⟨i, hi⟩ := List.mem_iff_getElem?.1 hfm
        rw [Array.getElem?_toList] at hi
        have h1 := hf i f hi
        have : i < xs.length := by rw [hsz]; exact (Array.getElem?_eq_some_iff.1 hi).1
        exact ⟨xs[i], by rw [h1, List.getElem?_eq_getElem this]⟩
      obtain ⟨l, h1, h2⟩ := fields_fits (cs := cs) (n := n) (enc := enc) (P := P) (w := w) (base := base) (sp := sp) (held := held) fs.toList 0 hget (by rw [hlen]; exact hk.2) (fun f hfm cs y => ih f.type cs y (hmem f hfm))
      refine ⟨l, by simpa using h1, ?_⟩
      simp only [fits, hu]
      exact h2
    · cases hk

end
end Go.Proofs.Ytmhamnnfcmkcfaa

/- From the interpreter's answer to a call of a law. -/
namespace Go.Proofs.Ytmhamnnfcmkcfaa
open Go.RowKit

/-- An argument's value. -/
def argOf (agg : Bool) (l : List SV) : AV := if agg then .agg (l.map .sv) else .sv (l.headD .nilp)

def isAggT (P : Program) (t : Nat) : Bool := match P.underlying t with | some (.struct _) => true | _ => false

section
variable {H : Type} {enc : TypeId × Value → H} {P : Program}

open Go.WideShapes in
theorem arg_rep {w : World} {base b0 : Nat} {sp : Nat → Bool} {held : Bool} {r : Reach} {ok : List Nat} (hok : okT P ok = true) {t : Nat} (ht : t ∈ ok) {v : Value} {d : DataW H} {ps : List MemPlace}
    (hval : Value.okWide P w r b0 t v) (h : DataW.Trod enc P w base sp held t v d ps) : ∃ fuel l, fits P fuel t l ∧ ∀ loc, Rep ⟨allOf w, loc⟩ (argOf (isAggT P t) l) v := by
  obtain ⟨fuel, hf⟩ := h
  obtain ⟨l, h1, h2⟩ := trod_fits hok fuel t _ _ ht hf
  refine ⟨fuel, l, h2, fun loc => ?_⟩
  have hk := List.all_eq_true.1 hok t ht
  have one : ∀ (s : SV), l = [s] → v.cells = #[v] → isAggT P t = false → Rep ⟨allOf w, loc⟩ (argOf (isAggT P t) l) v := by
    rintro s rfl hc ha
    rw [ha]
    rw [hc] at h1
    exact .sv (h1.2 0 s v rfl rfl)
  cases fuel with
  | zero => exact h2.elim
  | succ n =>
  simp only [fits] at h2
  split at hk
  · rename_i hu
    rw [hu] at h2
    obtain ⟨b, rfl⟩ := h2
    obtain ⟨b', rfl⟩ := okWide_bool hu hval
    exact one _ rfl rfl (by simp [isAggT, hu])
  · rename_i k hu
    rw [hu] at h2
    obtain ⟨i, rfl, -⟩ := h2
    obtain ⟨b', rfl⟩ := okWide_int hu hval
    exact one _ rfl rfl (by simp [isAggT, hu])
  · rename_i hu
    rw [hu] at h2
    obtain ⟨i, rfl, -⟩ := h2
    obtain ⟨b', rfl⟩ := okWide_string hu hval
    exact one _ rfl rfl (by simp [isAggT, hu])
  · rename_i el hu
    rw [hu] at h2
    obtain ⟨i, rfl, -⟩ := h2
    obtain ⟨a, len, cap, rfl⟩ := okWide_slice hu hval
    exact one _ rfl rfl (by simp [isAggT, hu])
  · rename_i fs hu
    have ha : isAggT P t = true := by simp [isAggT, hu]
    rw [ha]
    simp only [Value.okWide, hu] at hval
    obtain ⟨cs, rfl, -⟩ := hval
    have := h1.1
    have h3 : Rep ⟨allOf w, loc⟩ (.agg (l.map .sv)) (.agg cs.toList.toArray) := .agg _ cs.toList (by simpa [Value.cells] using this) (fun j c u q1 q2 => by
      rw [List.getElem?_map] at q1
      obtain ⟨s, hs, rfl⟩ := Option.map_eq_some_iff.1 q1
      exact .sv (h1.2 j s u hs q2))
    simpa [argOf] using h3
  · cases hk

set_option maxRecDepth 100000 in
/-- What the row asks of a call. -/
theorem walk_of_ev {J : Option (List AV → Option AV)} (hJ : JoinOk J) {n : Nat} {fn : Func} (hfn : Try.prog.funcs[n]? = some fn) (hg : good fn = true) {args : List AV} {h' : Heap} (e : evFunc optB tab shared (callW (env J)) loopW noD fn args [] = some (.sv (.bool true), h'))
    {w : World} {cargs : List Value} (hL : RepL ⟨allOf w, fun _ => none⟩ args cargs) : Calls Try.prog n cargs.toArray w fun e w' => e = .returned (.bool true) ∧ Below w.heap.size w w' := by
  refine (calls_of_ev (env_ok hJ) (env_plain J) (env_fn hfn hg) e hL (fun b o u h => h)).mono ?_
  intro en w' q
  cases en with
  | returned cv =>
    obtain ⟨hb, G', -, -, hr⟩ := q
    cases hr with | sv hr =>
    cases hr
    exact ⟨rfl, hb⟩
  | panicked c => exact q.elim
  | outgrown => exact q.elim

end
end Go.Proofs.Ytmhamnnfcmkcfaa

/- What a law's arguments are: code. -/
set_option maxRecDepth 100000
namespace Go.Proofs.Ytmhamnnfcmkcfaa
open Go.RowKit

def I64 (n : Int) : Prop := (Lit.int .i64 n).wf = true

theorem fit_int3 {n : Nat} {l : List SV} (h : fits Try.prog n 3 l) : ∃ i, l = [.int .i64 i] ∧ I64 i := by
  cases n with
  | zero => exact h.elim
  | succ n =>
    simp only [fits, Try.underlying3] at h
    exact h

theorem fit_int2 {n : Nat} {l : List SV} (h : fits Try.prog n 2 l) : ∃ i, l = [.int .i64 i] ∧ I64 i := by
  cases n with
  | zero => exact h.elim
  | succ n =>
    simp only [fits, Try.underlying2] at h
    exact h

def Ins.ok (x : Ins) : Prop := I64 x.op ∧ I64 x.a ∧ I64 x.b ∧ I64 x.c ∧ I64 x.n
def Cod.ok (c : Cod) : Prop := I64 c.regs ∧ I64 c.arrs ∧ I64 c.inn ∧ c.l.length ≤ maxLen ∧ ∀ x ∈ c.l, x.ok

theorem fit_ins {n : Nat} {l : List SV} (h : fits Try.prog n 47 l) : ∃ x : Ins, l = x.sv ∧ x.ok := by
  cases n with
  | zero => exact h.elim
  | succ n =>
    simp only [fits, Try.underlying47, fitsF] at h
    obtain ⟨a0, b0, rfl, h0, a1, b1, rfl, h1, a2, b2, rfl, h2, a3, b3, rfl, h3, a4, b4, rfl, h4, rfl⟩ := h
    obtain ⟨i0, rfl, w0⟩ := fit_int3 h0
    obtain ⟨i1, rfl, w1⟩ := fit_int3 h1
    obtain ⟨i2, rfl, w2⟩ := fit_int3 h2
    obtain ⟨i3, rfl, w3⟩ := fit_int3 h3
    obtain ⟨i4, rfl, w4⟩ := fit_int2 h4
    exact ⟨⟨i0, i1, i2, i3, i4⟩, rfl, w0, w1, w2, w3, w4⟩

theorem fit_inss {n : Nat} : ∀ (xs : List (List SV)), (∀ x ∈ xs, fits Try.prog n 47 x) → ∃ l : List Ins, xs = l.map Ins.sv ∧ ∀ x ∈ l, x.ok
  | [], _ => ⟨[], rfl, fun x h => by simp at h⟩
  | x :: xs, h => by
    obtain ⟨y, rfl, hy⟩ := fit_ins (h x (by simp))
    obtain ⟨l, rfl, hl⟩ := fit_inss xs fun z hz => h z (by simp [hz])
    exact ⟨y :: l, rfl, fun z hz => by
      rcases List.mem_cons.1 hz with rfl | hz
      · exact hy
      · exact hl z hz⟩

theorem fit_cod {n : Nat} {l : List SV} (h : fits Try.prog n 39 l) : ∃ c : Cod, l = c.sv ∧ c.ok := by
  cases n with
  | zero => exact h.elim
  | succ n =>
    simp only [fits, Try.underlying39, fitsF] at h
    obtain ⟨a0, b0, rfl, h0, a1, b1, rfl, h1, a2, b2, rfl, h2, a3, b3, rfl, h3, rfl⟩ := h
    obtain ⟨i0, rfl, w0⟩ := fit_int3 h0
    obtain ⟨i1, rfl, w1⟩ := fit_int3 h1
    obtain ⟨i2, rfl, w2⟩ := fit_int3 h2
    cases n with
    | zero => exact h3.elim
    | succ n =>
      simp only [fits, Try.underlying37] at h3
      obtain ⟨xs, rfl, hl, hx⟩ := h3
      obtain ⟨l, rfl, hl2⟩ := fit_inss xs hx
      exact ⟨⟨i0, i1, i2, l⟩, rfl, w0, w1, w2, by simpa using hl, hl2⟩

theorem fit_str {n : Nat} {l : List SV} (h : fits Try.prog n 9 l) : ∃ s : List UInt8, l = [.str s] ∧ s.length ≤ maxLen := by
  cases n with
  | zero => exact h.elim
  | succ n =>
    simp only [fits, Try.underlying9] at h
    exact h

end Go.Proofs.Ytmhamnnfcmkcfaa
