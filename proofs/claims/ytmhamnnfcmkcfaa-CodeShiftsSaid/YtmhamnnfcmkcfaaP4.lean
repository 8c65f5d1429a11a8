/- Functions as the abstract interpreter comes to them: printed by wip/tools/gensh.py. -/
import Derived.KernelRfl
import Derived.Test.YtmhamnnfcmkcfaaProg
import Derived.Test.YtmhamnnfcmkcfaaP3
import Derived.Test.YtmhamnnfcmkcfaaP1
set_option linter.unusedVariables false
set_option maxRecDepth 100000
namespace Go.Proofs.Ytmhamnnfcmkcfaa

/-! (*purfle/code.reader).take -/

noncomputable def f96_sh (B : BindS) (C : CallF) (L : LoopF) (v0 : AV) (v1 : AV) (h : Heap) : Option (AV × Heap) :=
  B.b (alloc [.sv (.int .i64 0), .sv (.str []), .sv (.int .i64 0)] h) fun r1 =>
  B.b (nc v0) fun w2 =>
  B.b (fa 1 w2) fun w3 =>
  B.b (ld 1 false w3 r1.2) fun w4 =>
  B.b (gO (some (w4, false)) (some v0) .dead) fun w5 =>
  B.b (gO (some (w4, false)) (nc w5) .dead) fun w6 =>
  B.b (gO (some (w4, false)) (fa 0 w6) .dead) fun w7 =>
  B.b (gO (some (w4, false)) (ld 1 false w7 r1.2) .dead) fun w8 =>
  B.b (gO (some (w4, false)) (ln (.slice 35 3 32 false) w8) .dead) fun w9 =>
  B.b (gO (some (w4, false)) (bin .eql (.int .i64) w9 (.sv (.int .i64 0))) .dead) fun w10 =>
  B.b ((asB w4).bind fun t => some (if t then (.sv (.bool true)) else w10)) fun w11 =>
  B.b (gO (some (w11, false)) (some v0) .dead) fun w12 =>
  B.b (gO (some (w11, false)) (nc w12) .dead) fun w13 =>
  B.b (gO (some (w11, false)) (fa 0 w13) .dead) fun w14 =>
  B.b (gO (some (w11, false)) (ld 1 false w14 r1.2) .dead) fun w15 =>
  B.b (gO (some (w11, false)) (ia (.slice 35 3 32 false) w15 (.sv (.int .i64 0))) .dead) fun w16 =>
  B.b (gO (some (w11, false)) (fa 0 w16) .dead) fun w17 =>
  B.b (gO (some (w11, false)) (ld 1 false w17 r1.2) .dead) fun w18 =>
  B.b (gO (some (w11, false)) (some v1) .dead) fun w19 =>
  B.b (gO (some (w11, false)) (bin .neq (.int .i64) w18 w19) .dead) fun w20 =>
  B.b ((asB w11).bind fun t => some (if t then (.sv (.bool true)) else w20)) fun w21 =>
  B.b (asB w21) fun t22 =>
  if t22 then (B.b (nc v0) fun w23 =>
  B.b (fa 1 w23) fun w24 =>
  B.b (storeA 1 w24 (.sv (.bool true)) r1.2) fun r25 =>
  B.b (ld 3 true r1.1 r25.2) fun w26 =>
  B.b (storeA 3 r1.1 w26 r25.2) fun r27 =>
  B.b (ld 3 true r1.1 r27.2) fun w28 =>
  some (w28, r27.2)) else
  B.b (nc v0) fun w29 =>
  B.b (fa 0 w29) fun w30 =>
  B.b (ld 1 false w30 r1.2) fun w31 =>
  B.b (ia (.slice 35 3 32 false) w31 (.sv (.int .i64 0))) fun w32 =>
  B.b (ld 3 true w32 r1.2) fun w33 =>
  B.b (storeA 3 r1.1 w33 r1.2) fun r34 =>
  B.b (nc v0) fun w35 =>
  B.b (fa 0 w35) fun w36 =>
  B.b (ld 1 false w36 r34.2) fun w37 =>
  B.b (sl (.slice 35 3 32 false) w37 (some (.sv (.int .i64 1))) none r34.2) fun w38 =>
  B.b (nc v0) fun w39 =>
  B.b (fa 0 w39) fun w40 =>
  B.b (storeA 1 w40 w38 r34.2) fun r41 =>
  B.b (ld 3 true r1.1 r41.2) fun w42 =>
  B.b (storeA 3 r1.1 w42 r41.2) fun r43 =>
  B.b (ld 3 true r1.1 r43.2) fun w44 =>
  some (w44, r43.2)
theorem f96_eq (B : BindS) (C : CallF) (L : LoopF) (v0 : AV) (v1 : AV) (h : Heap) : evFunc B tab shared C L noD Try.f96 [v0, v1] h = f96_sh B C L v0 v1 h := by kernel_rfl

/-! (*purfle/code.reader).ins -/
noncomputable def f97_k1 (B : BindS) (C : CallF) (L : LoopF) (tm : Tm) (h : Heap) : Option (Out × St) :=
  B.b (asB (tm 35)) fun t31 =>
  if t31 then (B.b (C 148 [(tm 0), (.sv (.str [114]))] h) fun r32 =>
  B.b (nc (tm 7)) fun w33 =>
  B.b (storeA 1 w33 r32.1 r32.2) fun r34 =>
  B.b (bin .add (.int .i64) (tm 27) (.sv (.int .i64 1))) fun w35 =>
  some (.normal, ⟨(upd (upd (upd (upd (upd (upd tm 38 (tm 7)) 39 (tm 0)) 40 r32.1) 41 w33) 60 w35) 27 w35), r34.2⟩)) else
  B.b (bin .eql (.int .i64) (tm 34) (.sv (.int .i64 3))) fun w36 =>
  B.b (asB w36) fun t37 =>
  if t37 then (B.b (C 148 [(tm 0), (.sv (.str [97]))] h) fun r38 =>
  B.b (nc (tm 7)) fun w39 =>
  B.b (storeA 1 w39 r38.1 r38.2) fun r40 =>
  B.b (bin .add (.int .i64) (tm 27) (.sv (.int .i64 1))) fun w41 =>
  some (.normal, ⟨(upd (upd (upd (upd (upd (upd (upd (upd tm 43 w36) 42 w36) 44 (tm 7)) 45 (tm 0)) 46 r38.1) 47 w39) 60 w41) 27 w41), r40.2⟩)) else
  B.b (bin .eql (.int .i64) (tm 34) (.sv (.int .i64 4))) fun w42 =>
  B.b (asB w42) fun t43 =>
  if t43 then (B.b (C 96 [(tm 0), (.sv (.int .i64 2))] h) fun r44 =>
  B.b (fl 2 1 false r44.1) fun w45 =>
  B.b (nc (tm 7)) fun w46 =>
  B.b (storeA 1 w46 w45 r44.2) fun r47 =>
  B.b (bin .add (.int .i64) (tm 27) (.sv (.int .i64 1))) fun w48 =>
  some (.normal, ⟨(upd (upd (upd (upd (upd (upd (upd (upd (upd (upd (upd tm 43 w36) 42 w36) 49 w42) 48 w42) 50 (tm 7)) 51 (tm 0)) 52 r44.1) 53 w45) 54 w46) 60 w48) 27 w48), r47.2⟩)) else
  B.b (bin .eql (.int .i64) (tm 34) (.sv (.int .i64 5))) fun w49 =>
  B.b (asB w49) fun t50 =>
  if t50 then (B.b (C 149 [(tm 0)] h) fun r51 =>
  B.b (fa 4 (tm 2)) fun w52 =>
  B.b (storeA 1 w52 r51.1 r51.2) fun r53 =>
  B.b (bin .add (.int .i64) (tm 27) (.sv (.int .i64 1))) fun w54 =>
  some (.normal, ⟨(upd (upd (upd (upd (upd (upd (upd (upd (upd (upd (upd tm 43 w36) 42 w36) 49 w42) 48 w42) 56 w49) 55 w49) 57 (tm 0)) 58 r51.1) 59 w52) 60 w54) 27 w54), r53.2⟩)) else
  B.b (bin .add (.int .i64) (tm 27) (.sv (.int .i64 1))) fun w55 =>
  some (.normal, ⟨(upd (upd (upd (upd (upd (upd (upd (upd tm 43 w36) 42 w36) 49 w42) 48 w42) 56 w49) 55 w49) 60 w55) 27 w55), h⟩)

noncomputable def f97_b0 (B : BindS) (C : CallF) (L : LoopF) (tm : Tm) (h : Heap) : Option (Out × St) :=
  B.b (bin .lss (.int .i64) (tm 27) (.sv (.int .i64 3))) fun w23 =>
  B.b (asB w23) fun t24 =>
  if t24 then (B.b (ix (.arr 3 1 false none) (tm 26) (tm 27)) fun w25 =>
  B.b (fa 1 (tm 4)) fun w26 =>
  B.b (ia (.arr 3 1 false (some [.int .i64, .int .i64, .int .i64])) w26 (tm 27)) fun w27 =>
  B.b (ld 1 false w27 h) fun w28 =>
  B.b (bin .eql (.int .i64) w28 (.sv (.int .i64 1))) fun w29 =>
  B.b (asB w29) fun t30 =>
  if t30 then (f97_k1 B C L (upd (upd (upd (upd (upd (upd (upd (upd (upd (upd (upd tm 28 w23) 29 (tm 27)) 30 w25) 6 (tm 27)) 7 w25) 31 (tm 27)) 32 w26) 33 w27) 34 w28) 36 w29) 35 w29) h) else
  B.b (bin .eql (.int .i64) w28 (.sv (.int .i64 2))) fun w56 =>
  f97_k1 B C L (upd (upd (upd (upd (upd (upd (upd (upd (upd (upd (upd (upd (upd tm 28 w23) 29 (tm 27)) 30 w25) 6 (tm 27)) 7 w25) 31 (tm 27)) 32 w26) 33 w27) 34 w28) 36 w29) 35 w29) 37 w56) 35 w56) h) else
  some (.exit 0, ⟨(upd tm 28 w23), h⟩)

noncomputable def f97_k2 (B : BindS) (C : CallF) (L : LoopF) (tm : Tm) (h : Heap) : Option (AV × Heap) :=
  B.b (ld 5 true (tm 2) h) fun w58 =>
  B.b (storeA 5 (tm 2) w58 h) fun r59 =>
  B.b (ld 5 true (tm 2) r59.2) fun w60 =>
  some (w60, r59.2)

noncomputable def f97_k0 (B : BindS) (C : CallF) (L : LoopF) (tm : Tm) (h : Heap) : Option (AV × Heap) :=
  B.b (C 104 [(tm 2)] h) fun r22 =>
  B.b (L (fun s => f97_b0 B C L s.tm s.h) ⟨(upd (upd tm 26 r22.1) 27 (.sv (.int .i64 0))), r22.2⟩) fun r57 => (outBlock 0 (outSeq (f97_k2 B C L) (endK B tab [.cell 2 47]))) r57.1 r57.2.tm r57.2.h

noncomputable def f97_sh (B : BindS) (C : CallF) (L : LoopF) (v0 : AV) (h : Heap) : Option (AV × Heap) :=
  B.b (alloc [.sv (.int .i64 0), .sv (.int .i64 0), .sv (.int .i64 0), .sv (.int .i64 0), .sv (.int .i64 0)] h) fun r1 =>
  B.b (C 96 [v0, (.sv (.int .i64 1))] r1.2) fun r2 =>
  B.b (fl 1 1 false r2.1) fun w3 =>
  B.b (alloc [.sv (.str [])] r2.2) fun r4 =>
  B.b (storeA 1 r4.1 w3 r4.2) fun r5 =>
  B.b (C 146 [] r5.2) fun r6 =>
  B.b (C 145 [r6.1, (.func 147 [] [r4.1])] r6.2) fun r7 =>
  B.b (fa 0 r1.1) fun w8 =>
  B.b (storeA 1 w8 r7.1 r7.2) fun r9 =>
  B.b (fa 0 r1.1) fun w10 =>
  B.b (ld 1 false w10 r9.2) fun w11 =>
  B.b (C 103 [w11] r9.2) fun r12 =>
  B.b (ex 0 r12.1) fun w13 =>
  B.b (ex 1 r12.1) fun w14 =>
  B.b (alloc [.sv (.str []), .sv (.int .i64 0), .sv (.int .i64 0), .sv (.int .i64 0)] r12.2) fun r15 =>
  B.b (storeA 4 r15.1 w13 r15.2) fun r16 =>
  B.b (un .not w14) fun w17 =>
  B.b (asB w17) fun t18 =>
  if t18 then (B.b (nc v0) fun w19 =>
  B.b (fa 1 w19) fun w20 =>
  B.b (storeA 1 w20 (.sv (.bool true)) r16.2) fun r21 =>
  f97_k0 B C L (upd (upd (upd (upd (upd (upd (upd (upd (upd (upd (upd (upd (upd (upd (upd (upd (upd (upd (upd (upd (upd (upd (init [v0]) 2 r1.1) 8 v0) 9 r2.1) 10 w3) 3 r4.1) 11 r6.1) 12 (.func 147 [] [r4.1])) 13 r7.1) 14 w8) 16 w10) 17 w11) 18 r12.1) 15 r12.1) 19 w13) 20 w14) 4 r15.1) 5 w14) 21 w14) 22 w17) 23 v0) 24 w19) 25 w20) r21.2) else
  f97_k0 B C L (upd (upd (upd (upd (upd (upd (upd (upd (upd (upd (upd (upd (upd (upd (upd (upd (upd (upd (upd (init [v0]) 2 r1.1) 8 v0) 9 r2.1) 10 w3) 3 r4.1) 11 r6.1) 12 (.func 147 [] [r4.1])) 13 r7.1) 14 w8) 16 w10) 17 w11) 18 r12.1) 15 r12.1) 19 w13) 20 w14) 4 r15.1) 5 w14) 21 w14) 22 w17) r16.2
theorem f97_eq (B : BindS) (C : CallF) (L : LoopF) (v0 : AV) (h : Heap) : evFunc B tab shared C L noD Try.f97 [v0] h = f97_sh B C L v0 h := by kernel_rfl

/-! purfle/code.of -/

noncomputable def f103_sh (B : BindS) (C : CallF) (L : LoopF) (v0 : AV) (h : Heap) : Option (AV × Heap) :=
  B.b (alloc [.sv (.str []), .sv (.int .i64 0), .sv (.int .i64 0), .sv (.int .i64 0)] h) fun r1 =>
  B.b (C 146 [] r1.2) fun r2 =>
  B.b (bin .lss (.int .i64) v0 (.sv (.int .i64 0))) fun w3 =>
  B.b (gO (some (w3, false)) (some v0) .dead) fun w4 =>
  B.b (gO (some (w3, false)) (some r2.1) .dead) fun w5 =>
  B.b (gO (some (w3, false)) (ln (.slice 137 4 40 false) w5) .dead) fun w6 =>
  B.b (gO (some (w3, false)) (bin .geq (.int .i64) w4 w6) .dead) fun w7 =>
  B.b ((asB w3).bind fun t => some (if t then (.sv (.bool true)) else w7)) fun w8 =>
  B.b (asB w8) fun t9 =>
  if t9 then (B.b (bdA tab 137 []) fun w10 =>
  B.b (storeA 4 r1.1 w10 r2.2) fun r11 =>
  B.b (ld 4 true r1.1 r11.2) fun w12 =>
  some (.tuple [w12, (.sv (.bool false))], r11.2)) else
  B.b (ia (.slice 137 4 40 false) r2.1 v0) fun w13 =>
  B.b (ld 4 true w13 r2.2) fun w14 =>
  B.b (storeA 4 r1.1 w14 r2.2) fun r15 =>
  B.b (ld 4 true r1.1 r15.2) fun w16 =>
  some (.tuple [w16, (.sv (.bool true))], r15.2)
theorem f103_eq (B : BindS) (C : CallF) (L : LoopF) (v0 : AV) (h : Heap) : evFunc B tab shared C L noD Try.f103 [v0] h = f103_sh B C L v0 h := by kernel_rfl

/-! purfle/code.fields -/

noncomputable def f104_sh (B : BindS) (C : CallF) (L : LoopF) (v0 : AV) (h : Heap) : Option (AV × Heap) :=
  B.b (alloc [.sv .nilp, .sv .nilp, .sv .nilp] h) fun r1 =>
  B.b (nc v0) fun w2 =>
  B.b (fa 1 w2) fun w3 =>
  B.b (nc v0) fun w4 =>
  B.b (fa 2 w4) fun w5 =>
  B.b (nc v0) fun w6 =>
  B.b (fa 3 w6) fun w7 =>
  B.b (bdA tab 141 [(0, w3), (1, w5), (2, w7)]) fun w8 =>
  B.b (storeA 3 r1.1 w8 r1.2) fun r9 =>
  B.b (ld 3 true r1.1 r9.2) fun w10 =>
  some (w10, r9.2)
theorem f104_eq (B : BindS) (C : CallF) (L : LoopF) (v0 : AV) (h : Heap) : evFunc B tab shared C L noD Try.f104 [v0] h = f104_sh B C L v0 h := by kernel_rfl

/-! purfle/code.shapes -/

noncomputable def f146_sh (B : BindS) (C : CallF) (L : LoopF) (h : Heap) : Option (AV × Heap) :=
  B.b (bdA tab 135 [(0, (.sv (.int .i64 1))), (1, (.sv (.int .i64 2))), (2, (.sv (.int .i64 2)))]) fun w1 =>
  B.b (alloc [.sv (.int .i64 0), .sv (.int .i64 0), .sv (.int .i64 0)] h) fun r2 =>
  B.b (storeA 3 r2.1 w1 r2.2) fun r3 =>
  B.b (bdA tab 135 []) fun w4 =>
  B.b (bdA tab 137 [(0, (.sv (.str [104, 97, 108, 116]))), (1, w4)]) fun w5 =>
  B.b (bdA tab 135 [(0, (.sv (.int .i64 1))), (1, (.sv (.int .i64 5)))]) fun w6 =>
  B.b (bdA tab 137 [(0, (.sv (.str [115, 101, 116]))), (1, w6)]) fun w7 =>
  B.b (bdA tab 135 [(0, (.sv (.int .i64 1))), (1, (.sv (.int .i64 2)))]) fun w8 =>
  B.b (bdA tab 137 [(0, (.sv (.str [109, 111, 118, 101]))), (1, w8)]) fun w9 =>
  B.b (ld 3 true r2.1 r3.2) fun w10 =>
  B.b (bdA tab 137 [(0, (.sv (.str [97, 100, 100]))), (1, w10)]) fun w11 =>
  B.b (ld 3 true r2.1 r3.2) fun w12 =>
  B.b (bdA tab 137 [(0, (.sv (.str [115, 117, 98]))), (1, w12)]) fun w13 =>
  B.b (ld 3 true r2.1 r3.2) fun w14 =>
  B.b (bdA tab 137 [(0, (.sv (.str [109, 117, 108]))), (1, w14)]) fun w15 =>
  B.b (bdA tab 135 [(0, (.sv (.int .i64 1))), (1, (.sv (.int .i64 3))), (2, (.sv (.int .i64 2)))]) fun w16 =>
  B.b (bdA tab 137 [(0, (.sv (.str [108, 111, 97, 100]))), (1, w16)]) fun w17 =>
  B.b (bdA tab 135 [(0, (.sv (.int .i64 3))), (1, (.sv (.int .i64 2))), (2, (.sv (.int .i64 2)))]) fun w18 =>
  B.b (bdA tab 137 [(0, (.sv (.str [115, 116, 111, 114, 101]))), (1, w18)]) fun w19 =>
  B.b (bdA tab 135 [(0, (.sv (.int .i64 1))), (1, (.sv (.int .i64 3)))]) fun w20 =>
  B.b (bdA tab 137 [(0, (.sv (.str [108, 101, 110]))), (1, w20)]) fun w21 =>
  B.b (bdA tab 135 [(0, (.sv (.int .i64 3))), (1, (.sv (.int .i64 2)))]) fun w22 =>
  B.b (bdA tab 137 [(0, (.sv (.str [112, 117, 115, 104]))), (1, w22)]) fun w23 =>
  B.b (bdA tab 135 [(0, (.sv (.int .i64 4)))]) fun w24 =>
  B.b (bdA tab 137 [(0, (.sv (.str [106, 117, 109, 112]))), (1, w24)]) fun w25 =>
  B.b (bdA tab 135 [(0, (.sv (.int .i64 2))), (1, (.sv (.int .i64 2))), (2, (.sv (.int .i64 4)))]) fun w26 =>
  B.b (bdA tab 137 [(0, (.sv (.str [108, 101, 115, 115]))), (1, w26)]) fun w27 =>
  B.b (bdA tab 135 [(0, (.sv (.int .i64 2))), (1, (.sv (.int .i64 2))), (2, (.sv (.int .i64 4)))]) fun w28 =>
  B.b (bdA tab 137 [(0, (.sv (.str [115, 97, 109, 101]))), (1, w28)]) fun w29 =>
  B.b (bsA (.slice 137 4 40 false) (some [.sv (.str []), .sv (.int .i64 0), .sv (.int .i64 0), .sv (.int .i64 0)]) 13 [(0, w5), (1, w7), (2, w9), (3, w11), (4, w13), (5, w15), (6, w17), (7, w19), (8, w21), (9, w23), (10, w25), (11, w27), (12, w29)] r3.2) fun r30 =>
  some (r30.1, r30.2)
theorem f146_eq (B : BindS) (C : CallF) (L : LoopF) (h : Heap) : evFunc B tab shared C L noD Try.f146 [] h = f146_sh B C L h := by kernel_rfl

/-! slices.IndexFunc[[]purfle/code.shape,purfle/code.shape] -/
noncomputable def f145_b0 (B : BindS) (C : CallF) (L : LoopF) (tm : Tm) (h : Heap) : Option (Out × St) :=
  B.b (bin .lss (.int .i64) (tm 8) (tm 7)) fun w2 =>
  B.b (asB w2) fun t3 =>
  if t3 then (B.b (ia (.slice 137 4 40 false) (tm 0) (tm 8)) fun w4 =>
  B.b (ld 4 true w4 h) fun w5 =>
  B.b ((callV (tm 1)).bind fun c => C c.1 (c.2.1 ++ [w5] ++ c.2.2) h) fun r6 =>
  B.b (asB r6.1) fun t7 =>
  if t7 then (some (.ret, ⟨(upd (upd (upd (upd (upd (upd (upd (upd (upd (upd (upd tm 9 w2) 10 (tm 8)) 5 (tm 8)) 11 (tm 1)) 12 (tm 0)) 13 (tm 8)) 14 w4) 15 w5) 16 r6.1) 17 (tm 8)) 4 (tm 8)), r6.2⟩)) else
  B.b (bin .add (.int .i64) (tm 8) (.sv (.int .i64 1))) fun w8 =>
  some (.normal, ⟨(upd (upd (upd (upd (upd (upd (upd (upd (upd (upd (upd tm 9 w2) 10 (tm 8)) 5 (tm 8)) 11 (tm 1)) 12 (tm 0)) 13 (tm 8)) 14 w4) 15 w5) 16 r6.1) 18 w8) 8 w8), r6.2⟩)) else
  some (.exit 0, ⟨(upd tm 9 w2), h⟩)

noncomputable def f145_k0 (B : BindS) (C : CallF) (L : LoopF) (tm : Tm) (h : Heap) : Option (AV × Heap) :=
  some ((.sv (.int .i64 (-1))), h)

noncomputable def f145_sh (B : BindS) (C : CallF) (L : LoopF) (v0 : AV) (v1 : AV) (h : Heap) : Option (AV × Heap) :=
  B.b (ln (.slice 137 4 40 false) v0) fun w1 =>
  B.b (L (fun s => f145_b0 B C L s.tm s.h) ⟨(upd (upd (upd (upd (init [v0, v1]) 4 (.sv (.int .i64 0))) 6 v0) 7 w1) 8 (.sv (.int .i64 0))), h⟩) fun r9 => (outBlock 0 (outSeq (f145_k0 B C L) (endK B tab [.tmp 4]))) r9.1 r9.2.tm r9.2.h
theorem f145_eq (B : BindS) (C : CallF) (L : LoopF) (v0 : AV) (v1 : AV) (h : Heap) : evFunc B tab shared C L noD Try.f145 [v0, v1] h = f145_sh B C L v0 v1 h := by kernel_rfl

/-! (*purfle/code.reader).ins$1 -/

noncomputable def f147_sh (B : BindS) (C : CallF) (L : LoopF) (v0 : AV) (v1 : AV) (h : Heap) : Option (AV × Heap) :=
  B.b (boxA 4 v0 h) fun r1 =>
  B.b (fa 0 r1.1) fun w2 =>
  B.b (ld 1 false w2 r1.2) fun w3 =>
  B.b (ld 1 false v1 r1.2) fun w4 =>
  B.b (bin .eql .str w3 w4) fun w5 =>
  some (w5, r1.2)
theorem f147_eq (B : BindS) (C : CallF) (L : LoopF) (v0 : AV) (v1 : AV) (h : Heap) : evFunc B tab shared C L noD Try.f147 [v0, v1] h = f147_sh B C L v0 v1 h := by kernel_rfl

/-! (*purfle/code.reader).behind -/

noncomputable def f148_sh (B : BindS) (C : CallF) (L : LoopF) (v0 : AV) (v1 : AV) (h : Heap) : Option (AV × Heap) :=
  B.b (C 96 [v0, (.sv (.int .i64 1))] h) fun r1 =>
  B.b (fl 1 1 false r1.1) fun w2 =>
  B.b (C 199 [w2, v1] r1.2) fun r3 =>
  B.b (ex 0 r3.1) fun w4 =>
  B.b (ex 1 r3.1) fun w5 =>
  B.b (C 142 [w4] r3.2) fun r6 =>
  B.b (ex 0 r6.1) fun w7 =>
  B.b (ex 1 r6.1) fun w8 =>
  B.b (un .not w5) fun w9 =>
  B.b (gO (some (w9, false)) (some w8) .dead) fun w10 =>
  B.b (gO (some (w9, false)) (un .not w10) .dead) fun w11 =>
  B.b ((asB w9).bind fun t => some (if t then (.sv (.bool true)) else w11)) fun w12 =>
  B.b (asB w12) fun t13 =>
  if t13 then (B.b (nc v0) fun w14 =>
  B.b (fa 1 w14) fun w15 =>
  B.b (storeA 1 w15 (.sv (.bool true)) r6.2) fun r16 =>
  some (w7, r16.2)) else
  some (w7, r6.2)
theorem f148_eq (B : BindS) (C : CallF) (L : LoopF) (v0 : AV) (v1 : AV) (h : Heap) : evFunc B tab shared C L noD Try.f148 [v0, v1] h = f148_sh B C L v0 v1 h := by kernel_rfl

/-! (*purfle/code.reader).signed -/

noncomputable def f149_sh (B : BindS) (C : CallF) (L : LoopF) (v0 : AV) (h : Heap) : Option (AV × Heap) :=
  B.b (nc v0) fun w1 =>
  B.b (fa 0 w1) fun w2 =>
  B.b (ld 1 false w2 h) fun w3 =>
  B.b (ln (.slice 35 3 32 false) w3) fun w4 =>
  B.b (bin .eql (.int .i64) w4 (.sv (.int .i64 0))) fun w5 =>
  B.b (gO (some (w5, false)) (some v0) .dead) fun w6 =>
  B.b (gO (some (w5, false)) (nc w6) .dead) fun w7 =>
  B.b (gO (some (w5, false)) (fa 0 w7) .dead) fun w8 =>
  B.b (gO (some (w5, false)) (ld 1 false w8 h) .dead) fun w9 =>
  B.b (gO (some (w5, false)) (ia (.slice 35 3 32 false) w9 (.sv (.int .i64 0))) .dead) fun w10 =>
  B.b (gO (some (w5, false)) (fa 1 w10) .dead) fun w11 =>
  B.b (gO (some (w5, false)) (ld 1 false w11 h) .dead) fun w12 =>
  B.b (gO (some (w5, false)) (bin .neq .str w12 (.sv (.str [45]))) .dead) fun w13 =>
  B.b ((asB w5).bind fun t => some (if t then (.sv (.bool true)) else w13)) fun w14 =>
  B.b (asB w14) fun t15 =>
  if t15 then (B.b (C 96 [v0, (.sv (.int .i64 2))] h) fun r16 =>
  B.b (fl 2 1 false r16.1) fun w17 =>
  some (w17, r16.2)) else
  B.b (C 96 [v0, (.sv (.int .i64 3))] h) fun r18 =>
  B.b (C 96 [v0, (.sv (.int .i64 2))] r18.2) fun r19 =>
  B.b (fl 2 1 false r19.1) fun w20 =>
  B.b (bin .eql (.int .i64) w20 (.sv (.int .i64 0))) fun w21 =>
  B.b (asB w21) fun t22 =>
  if t22 then (B.b (nc v0) fun w23 =>
  B.b (fa 1 w23) fun w24 =>
  B.b (storeA 1 w24 (.sv (.bool true)) r19.2) fun r25 =>
  B.b (un .neg w20) fun w26 =>
  some (w26, r25.2)) else
  B.b (un .neg w20) fun w27 =>
  some (w27, r19.2)
theorem f149_eq (B : BindS) (C : CallF) (L : LoopF) (v0 : AV) (h : Heap) : evFunc B tab shared C L noD Try.f149 [v0] h = f149_sh B C L v0 h := by kernel_rfl

/-! strings.CutPrefix -/

noncomputable def f199_sh (B : BindS) (C : CallF) (L : LoopF) (v0 : AV) (v1 : AV) (h : Heap) : Option (AV × Heap) :=
  B.b (C 213 [v0, v1] h) fun r1 =>
  B.b (ex 0 r1.1) fun w2 =>
  B.b (ex 1 r1.1) fun w3 =>
  some (.tuple [w2, w3], r1.2)
theorem f199_eq (B : BindS) (C : CallF) (L : LoopF) (v0 : AV) (v1 : AV) (h : Heap) : evFunc B tab shared C L noD Try.f199 [v0, v1] h = f199_sh B C L v0 v1 h := by kernel_rfl

/-! internal/stringslite.CutPrefix -/

noncomputable def f213_sh (B : BindS) (C : CallF) (L : LoopF) (v0 : AV) (v1 : AV) (h : Heap) : Option (AV × Heap) :=
  B.b (C 216 [v0, v1] h) fun r1 =>
  B.b (un .not r1.1) fun w2 =>
  B.b (asB w2) fun t3 =>
  if t3 then (some (.tuple [v0, (.sv (.bool false))], r1.2)) else
  B.b (ln .str v1) fun w4 =>
  B.b (sl .str v0 (some w4) none r1.2) fun w5 =>
  some (.tuple [w5, (.sv (.bool true))], r1.2)
theorem f213_eq (B : BindS) (C : CallF) (L : LoopF) (v0 : AV) (v1 : AV) (h : Heap) : evFunc B tab shared C L noD Try.f213 [v0, v1] h = f213_sh B C L v0 v1 h := by kernel_rfl

/-! internal/stringslite.HasPrefix -/

noncomputable def f216_sh (B : BindS) (C : CallF) (L : LoopF) (v0 : AV) (v1 : AV) (h : Heap) : Option (AV × Heap) :=
  B.b (ln .str v0) fun w1 =>
  B.b (ln .str v1) fun w2 =>
  B.b (bin .geq (.int .i64) w1 w2) fun w3 =>
  B.b (gO (some (w3, true)) (some v0) .dead) fun w4 =>
  B.b (gO (some (w3, true)) (some v1) .dead) fun w5 =>
  B.b (gO (some (w3, true)) (ln .str w5) .dead) fun w6 =>
  B.b (gO (some (w3, true)) (sl .str w4 none (some w6) h) .dead) fun w7 =>
  B.b (gO (some (w3, true)) (some v1) .dead) fun w8 =>
  B.b (gO (some (w3, true)) (bin .eql .str w7 w8) .dead) fun w9 =>
  B.b ((asB w3).bind fun t => some (if t then w9 else (.sv (.bool false)))) fun w10 =>
  some (w10, h)
theorem f216_eq (B : BindS) (C : CallF) (L : LoopF) (v0 : AV) (v1 : AV) (h : Heap) : evFunc B tab shared C L noD Try.f216 [v0, v1] h = f216_sh B C L v0 v1 h := by kernel_rfl

/-! purfle/code.Parse -/
noncomputable def f33_k0 (B : BindS) (C : CallF) (L : LoopF) (tm : Tm) (h : Heap) : Option (Out × St) :=
  B.b (nc (tm 11)) fun w45 =>
  B.b (fa 1 w45) fun w46 =>
  B.b (ld 1 false w46 h) fun w47 =>
  B.b (gO (some (w47, false)) (some (tm 11)) .dead) fun w48 =>
  B.b (gO (some (w47, false)) (nc w48) .dead) fun w49 =>
  B.b (gO (some (w47, false)) (fa 0 w49) .dead) fun w50 =>
  B.b (gO (some (w47, false)) (ld 1 false w50 h) .dead) fun w51 =>
  B.b (gO (some (w47, false)) (ln (.slice 35 3 32 false) w51) .dead) fun w52 =>
  B.b (gO (some (w47, false)) (bin .gtr (.int .i64) w52 (.sv (.int .i64 0))) .dead) fun w53 =>
  B.b ((asB w47).bind fun t => some (if t then (.sv (.bool true)) else w53)) fun w54 =>
  B.b (asB w54) fun t55 =>
  if t55 then (B.b (bdA tab 39 []) fun w56 =>
  B.b (storeA 4 (tm 2) w56 h) fun r57 =>
  some (.ret, ⟨(upd (upd (upd (upd (upd (upd (upd (upd (upd (upd (upd (upd (upd (upd (upd (upd tm 68 (tm 11)) 69 w45) 70 w46) 71 w47) 72 w47) 73 w48) 74 w49) 75 w50) 76 w51) 77 w52) 78 w53) 79 w54) 80 w56) 81 (tm 9)) 3 (tm 9)) 4 (.sv (.int .i64 6))), r57.2⟩)) else
  B.b (bin .add (.int .i64) (tm 32) (.sv (.int .i64 1))) fun w58 =>
  some (.normal, ⟨(upd (upd (upd (upd (upd (upd (upd (upd (upd (upd (upd (upd (upd (upd tm 68 (tm 11)) 69 w45) 70 w46) 71 w47) 72 w47) 73 w48) 74 w49) 75 w50) 76 w51) 77 w52) 78 w53) 79 w54) 82 w58) 32 w58), h⟩)

noncomputable def f33_b0 (B : BindS) (C : CallF) (L : LoopF) (tm : Tm) (h : Heap) : Option (Out × St) :=
  B.b (bin .lss (.int .i64) (tm 32) (tm 31)) fun w19 =>
  B.b (asB w19) fun t20 =>
  if t20 then (B.b (ia (.slice 22 1 24 false) (tm 30) (tm 32)) fun w21 =>
  B.b (ld 1 false w21 h) fun w22 =>
  B.b (bdA tab 127 [(0, w22)]) fun w23 =>
  B.b (boxA 2 w23 h) fun r24 =>
  B.b (bin .eql (.int .i64) (tm 32) (.sv (.int .i64 0))) fun w25 =>
  B.b (asB w25) fun t26 =>
  if t26 then (B.b (C 96 [r24.1, (.sv (.int .i64 1))] r24.2) fun r27 =>
  B.b (fl 1 1 false r27.1) fun w28 =>
  B.b (bin .neq .str w28 (.sv (.str [99, 111, 100, 101]))) fun w29 =>
  B.b (nc r24.1) fun w30 =>
  B.b (fa 1 w30) fun w31 =>
  B.b (storeA 1 w31 w29 r27.2) fun r32 =>
  B.b (C 96 [r24.1, (.sv (.int .i64 2))] r32.2) fun r33 =>
  B.b (fl 2 1 false r33.1) fun w34 =>
  B.b (fa 0 (tm 2)) fun w35 =>
  B.b (storeA 1 w35 w34 r33.2) fun r36 =>
  B.b (C 96 [r24.1, (.sv (.int .i64 2))] r36.2) fun r37 =>
  B.b (fl 2 1 false r37.1) fun w38 =>
  B.b (fa 1 (tm 2)) fun w39 =>
  B.b (storeA 1 w39 w38 r37.2) fun r40 =>
  B.b (C 96 [r24.1, (.sv (.int .i64 2))] r40.2) fun r41 =>
  B.b (fl 2 1 false r41.1) fun w42 =>
  B.b (fa 2 (tm 2)) fun w43 =>
  B.b (storeA 1 w43 w42 r41.2) fun r44 =>
  f33_k0 B C L (upd (upd (upd (upd (upd (upd (upd (upd (upd (upd (upd (upd (upd (upd (upd (upd (upd (upd (upd (upd (upd (upd (upd (upd (upd (upd (upd (upd (upd (upd (upd tm 33 w19) 34 (tm 32)) 35 w21) 36 w22) 9 (tm 32)) 10 w22) 37 w22) 38 w23) 39 r24.1) 11 r24.1) 40 (tm 32)) 41 w25) 42 r24.1) 43 r24.1) 44 r27.1) 45 w28) 46 w29) 47 w30) 48 w31) 49 r24.1) 50 r33.1) 51 w34) 52 w35) 53 r24.1) 54 r37.1) 55 w38) 56 w39) 57 r24.1) 58 r41.1) 59 w42) 60 w43) r44.2) else
  B.b (fa 3 (tm 2)) fun w59 =>
  B.b (ld 1 false w59 r24.2) fun w60 =>
  B.b (C 97 [r24.1] r24.2) fun r61 =>
  gChk [⟨2, none, 1, false, w59, w60⟩] r61.2 (B.b (bsA (.slice 47 5 40 false) (some [.sv (.int .i64 0), .sv (.int .i64 0), .sv (.int .i64 0), .sv (.int .i64 0), .sv (.int .i64 0)]) 1 [(0, r61.1)] r61.2) fun r62 =>
  gChk [⟨2, none, 1, false, w59, w60⟩] r62.2 (B.b (apA (.slice 47 5 40 false) w60 r62.1 r62.2) fun r63 =>
  B.b (fa 3 (tm 2)) fun w64 =>
  B.b (storeA 1 w64 r63.1 r63.2) fun r65 =>
  f33_k0 B C L (upd (upd (upd (upd (upd (upd (upd (upd (upd (upd (upd (upd (upd (upd (upd (upd (upd (upd (upd tm 33 w19) 34 (tm 32)) 35 w21) 36 w22) 9 (tm 32)) 10 w22) 37 w22) 38 w23) 39 r24.1) 11 r24.1) 40 (tm 32)) 41 w25) 61 w59) 62 w60) 63 r24.1) 64 r61.1) 65 r62.1) 66 r63.1) 67 w64) r65.2))) else
  some (.exit 0, ⟨(upd tm 33 w19), h⟩)

noncomputable def f33_k1 (B : BindS) (C : CallF) (L : LoopF) (tm : Tm) (h : Heap) : Option (AV × Heap) :=
  B.b (ld 4 true (tm 2) h) fun w67 =>
  B.b (C 37 [w67] h) fun r68 =>
  B.b (bin .neq (.int .i64) r68.1 (.sv (.int .i64 0))) fun w69 =>
  B.b (asB w69) fun t70 =>
  if t70 then (B.b (bdA tab 39 []) fun w71 =>
  B.b (storeA 4 (tm 2) w71 r68.2) fun r72 =>
  B.b (ld 4 true (tm 2) r72.2) fun w73 =>
  some (.tuple [w73, (.sv (.int .i64 0)), r68.1], r72.2)) else
  B.b (ld 4 true (tm 2) r68.2) fun w74 =>
  B.b (ln (.slice 22 1 24 false) (tm 8)) fun w75 =>
  B.b (storeA 4 (tm 2) w74 r68.2) fun r76 =>
  B.b (ld 4 true (tm 2) r76.2) fun w77 =>
  some (.tuple [w77, w75, (.sv (.int .i64 0))], r76.2)

noncomputable def f33_sh (B : BindS) (C : CallF) (L : LoopF) (v0 : AV) (h : Heap) : Option (AV × Heap) :=
  B.b (alloc [.sv (.int .i64 0), .sv (.int .i64 0), .sv (.int .i64 0), .nil] h) fun r1 =>
  B.b (C 25 [v0] r1.2) fun r2 =>
  B.b (ex 0 r2.1) fun w3 =>
  B.b (ex 1 r2.1) fun w4 =>
  B.b (ex 2 r2.1) fun w5 =>
  B.b (bin .neq (.int .i64) w5 (.sv (.int .i64 0))) fun w6 =>
  B.b (asB w6) fun t7 =>
  if t7 then (B.b (ld 4 true r1.1 r2.2) fun w8 =>
  B.b (storeA 4 r1.1 w8 r2.2) fun r9 =>
  B.b (ld 4 true r1.1 r9.2) fun w10 =>
  some (.tuple [w10, w4, w5], r9.2)) else
  B.b (C 28 [w3] r2.2) fun r11 =>
  B.b (ln (.slice 22 1 24 false) r11.1) fun w12 =>
  B.b (bin .eql (.int .i64) w12 (.sv (.int .i64 0))) fun w13 =>
  B.b (asB w13) fun t14 =>
  if t14 then (B.b (ld 4 true r1.1 r11.2) fun w15 =>
  B.b (storeA 4 r1.1 w15 r11.2) fun r16 =>
  B.b (ld 4 true r1.1 r16.2) fun w17 =>
  some (.tuple [w17, (.sv (.int .i64 0)), (.sv (.int .i64 6))], r16.2)) else
  B.b (ln (.slice 22 1 24 false) r11.1) fun w18 =>
  B.b (L (fun s => f33_b0 B C L s.tm s.h) ⟨(upd (upd (upd (upd (upd (upd (upd (upd (upd (upd (upd (upd (upd (upd (upd (upd (upd (upd (upd (upd (upd (upd (upd (init [v0]) 2 r1.1) 3 (.sv (.int .i64 0))) 4 (.sv (.int .i64 0))) 14 v0) 15 r2.1) 13 r2.1) 16 w3) 17 w4) 18 w5) 5 w3) 6 w4) 7 w5) 19 w5) 20 w6) 24 w3) 25 r11.1) 8 r11.1) 26 r11.1) 27 w12) 28 w13) 30 r11.1) 31 w18) 32 (.sv (.int .i64 0))), r11.2⟩) fun r66 => (outBlock 0 (outSeq (f33_k1 B C L) (endK B tab [.cell 2 39, .tmp 3, .tmp 4]))) r66.1 r66.2.tm r66.2.h
theorem f33_eq (B : BindS) (C : CallF) (L : LoopF) (v0 : AV) (h : Heap) : evFunc B tab shared C L noD Try.f33 [v0] h = f33_sh B C L v0 h := by kernel_rfl

/-! purfle/code.Check -/

noncomputable def f37_sh (B : BindS) (C : CallF) (L : LoopF) (v0 : AV) (h : Heap) : Option (AV × Heap) :=
  B.b (boxA 4 v0 h) fun r1 =>
  B.b (fa 0 r1.1) fun w2 =>
  B.b (ld 1 false w2 r1.2) fun w3 =>
  B.b (bin .geq (.int .i64) w3 (.sv (.int .i64 0))) fun w4 =>
  B.b (gO (some (w4, true)) (fa 0 r1.1) .dead) fun w5 =>
  B.b (gO (some (w4, true)) (ld 1 false w5 r1.2) .dead) fun w6 =>
  B.b (gO (some (w4, true)) (bin .leq (.int .i64) w6 (.sv (.int .i64 128))) .dead) fun w7 =>
  B.b ((asB w4).bind fun t => some (if t then w7 else (.sv (.bool false)))) fun w8 =>
  B.b (gO (some (w8, true)) (fa 1 r1.1) .dead) fun w9 =>
  B.b (gO (some (w8, true)) (ld 1 false w9 r1.2) .dead) fun w10 =>
  B.b (gO (some (w8, true)) (bin .geq (.int .i64) w10 (.sv (.int .i64 0))) .dead) fun w11 =>
  B.b ((asB w8).bind fun t => some (if t then w11 else (.sv (.bool false)))) fun w12 =>
  B.b (gO (some (w12, true)) (fa 1 r1.1) .dead) fun w13 =>
  B.b (gO (some (w12, true)) (ld 1 false w13 r1.2) .dead) fun w14 =>
  B.b (gO (some (w12, true)) (bin .leq (.int .i64) w14 (.sv (.int .i64 128))) .dead) fun w15 =>
  B.b ((asB w12).bind fun t => some (if t then w15 else (.sv (.bool false)))) fun w16 =>
  B.b (gO (some (w16, true)) (fa 2 r1.1) .dead) fun w17 =>
  B.b (gO (some (w16, true)) (ld 1 false w17 r1.2) .dead) fun w18 =>
  B.b (gO (some (w16, true)) (bin .geq (.int .i64) w18 (.sv (.int .i64 0))) .dead) fun w19 =>
  B.b ((asB w16).bind fun t => some (if t then w19 else (.sv (.bool false)))) fun w20 =>
  B.b (gO (some (w20, true)) (fa 2 r1.1) .dead) fun w21 =>
  B.b (gO (some (w20, true)) (ld 1 false w21 r1.2) .dead) fun w22 =>
  B.b (gO (some (w20, true)) (fa 1 r1.1) .dead) fun w23 =>
  B.b (gO (some (w20, true)) (ld 1 false w23 r1.2) .dead) fun w24 =>
  B.b (gO (some (w20, true)) (bin .leq (.int .i64) w22 w24) .dead) fun w25 =>
  B.b ((asB w20).bind fun t => some (if t then w25 else (.sv (.bool false)))) fun w26 =>
  B.b (un .not w26) fun w27 =>
  B.b (gO (some (w27, false)) (fa 3 r1.1) .dead) fun w28 =>
  B.b (gO (some (w27, false)) (ld 1 false w28 r1.2) .dead) fun w29 =>
  B.b (gO (some (w27, false)) (ln (.slice 47 5 40 false) w29) .dead) fun w30 =>
  B.b (gO (some (w27, false)) (bin .eql (.int .i64) w30 (.sv (.int .i64 0))) .dead) fun w31 =>
  B.b ((asB w27).bind fun t => some (if t then (.sv (.bool true)) else w31)) fun w32 =>
  B.b (gO (some (w32, false)) (fa 3 r1.1) .dead) fun w33 =>
  B.b (gO (some (w32, false)) (ld 1 false w33 r1.2) .dead) fun w34 =>
  B.b (gO (some (w32, false)) (ln (.slice 47 5 40 false) w34) .dead) fun w35 =>
  B.b (gO (some (w32, false)) (bin .gtr (.int .i64) w35 (.sv (.int .i64 4096))) .dead) fun w36 =>
  B.b ((asB w32).bind fun t => some (if t then (.sv (.bool true)) else w36)) fun w37 =>
  B.b (gO (some (w37, false)) (fa 3 r1.1) .dead) fun w38 =>
  B.b (gO (some (w37, false)) (ld 1 false w38 r1.2) .dead) fun w39 =>
  B.b (gO (some (w37, false)) (some (.func 101 [] [r1.1])) .dead) fun w40 =>
  B.b (gO (some (w37, false)) (C 100 [w39, w40] r1.2) (.dead, r1.2)) fun r41 =>
  B.b ((asB w37).bind fun t => some (if t then (.sv (.bool true)) else r41.1)) fun w42 =>
  B.b (asB w42) fun t43 =>
  if t43 then (some ((.sv (.int .i64 1)), r41.2)) else
  B.b (fa 3 r1.1) fun w44 =>
  B.b (ld 1 false w44 r41.2) fun w45 =>
  B.b (fa 3 r1.1) fun w46 =>
  B.b (ld 1 false w46 r41.2) fun w47 =>
  B.b (ln (.slice 47 5 40 false) w47) fun w48 =>
  B.b (bin .sub (.int .i64) w48 (.sv (.int .i64 1))) fun w49 =>
  B.b (ia (.slice 47 5 40 false) w45 w49) fun w50 =>
  B.b (fa 0 w50) fun w51 =>
  B.b (ld 1 false w51 r41.2) fun w52 =>
  B.b (bin .neq (.int .i64) w52 (.sv (.int .i64 0))) fun w53 =>
  B.b (gO (some (w53, true)) (some w52) .dead) fun w54 =>
  B.b (gO (some (w53, true)) (bin .neq (.int .i64) w54 (.sv (.int .i64 10))) .dead) fun w55 =>
  B.b ((asB w53).bind fun t => some (if t then w55 else (.sv (.bool false)))) fun w56 =>
  B.b (asB w56) fun t57 =>
  if t57 then (some ((.sv (.int .i64 1)), r41.2)) else
  some ((.sv (.int .i64 0)), r41.2)
theorem f37_eq (B : BindS) (C : CallF) (L : LoopF) (v0 : AV) (h : Heap) : evFunc B tab shared C L noD Try.f37 [v0] h = f37_sh B C L v0 h := by kernel_rfl

/-! slices.ContainsFunc[[]purfle/api.Ins,purfle/api.Ins] -/

noncomputable def f100_sh (B : BindS) (C : CallF) (L : LoopF) (v0 : AV) (v1 : AV) (h : Heap) : Option (AV × Heap) :=
  B.b (C 153 [v0, v1] h) fun r1 =>
  B.b (bin .geq (.int .i64) r1.1 (.sv (.int .i64 0))) fun w2 =>
  some (w2, r1.2)
theorem f100_eq (B : BindS) (C : CallF) (L : LoopF) (v0 : AV) (v1 : AV) (h : Heap) : evFunc B tab shared C L noD Try.f100 [v0, v1] h = f100_sh B C L v0 v1 h := by kernel_rfl

/-! purfle/code.Check$1 -/

noncomputable def f101_sh (B : BindS) (C : CallF) (L : LoopF) (v0 : AV) (v1 : AV) (h : Heap) : Option (AV × Heap) :=
  B.b (boxA 5 v0 h) fun r1 =>
  B.b (ld 5 true r1.1 r1.2) fun w2 =>
  B.b (ld 4 true v1 r1.2) fun w3 =>
  B.b (C 102 [w2, w3] r1.2) fun r4 =>
  B.b (un .not r4.1) fun w5 =>
  some (w5, r4.2)
theorem f101_eq (B : BindS) (C : CallF) (L : LoopF) (v0 : AV) (v1 : AV) (h : Heap) : evFunc B tab shared C L noD Try.f101 [v0, v1] h = f101_sh B C L v0 v1 h := by kernel_rfl

/-! purfle/code.may -/
noncomputable def f102_b0 (B : BindS) (C : CallF) (L : LoopF) (tm : Tm) (h : Heap) : Option (Out × St) :=
  B.b (bin .lss (.int .i64) (tm 27) (.sv (.int .i64 3))) fun w23 =>
  B.b (asB w23) fun t24 =>
  if t24 then (B.b (ix (.arr 3 1 false none) (tm 26) (tm 27)) fun w25 =>
  B.b (gO (some ((tm 6), true)) (some w25) .dead) fun w26 =>
  B.b (gO (some ((tm 6), true)) (nc w26) .dead) fun w27 =>
  B.b (gO (some ((tm 6), true)) (ld 1 false w27 h) .dead) fun w28 =>
  B.b (gO (some ((tm 6), true)) (bin .geq (.int .i64) w28 (.sv (.int .i64 0))) .dead) fun w29 =>
  B.b ((asB (tm 6)).bind fun t => some (if t then w29 else (.sv (.bool false)))) fun w30 =>
  B.b (gO (some (w30, true)) (some w25) .dead) fun w31 =>
  B.b (gO (some (w30, true)) (nc w31) .dead) fun w32 =>
  B.b (gO (some (w30, true)) (ld 1 false w32 h) .dead) fun w33 =>
  B.b (gO (some (w30, true)) (some (tm 27)) .dead) fun w34 =>
  B.b (gO (some (w30, true)) (fa 1 (tm 5)) .dead) fun w35 =>
  B.b (gO (some (w30, true)) (ia (.arr 3 1 false (some [.int .i64, .int .i64, .int .i64])) w35 w34) .dead) fun w36 =>
  B.b (gO (some (w30, true)) (ld 1 false w36 h) .dead) fun w37 =>
  B.b (gO (some (w30, true)) (ia (.arr 6 1 false (some [.int .i64, .int .i64, .int .i64, .int .i64, .int .i64, .int .i64])) (tm 7) w37) .dead) fun w38 =>
  B.b (gO (some (w30, true)) (ld 1 false w38 h) .dead) fun w39 =>
  B.b (gO (some (w30, true)) (bin .lss (.int .i64) w33 w39) .dead) fun w40 =>
  B.b ((asB w30).bind fun t => some (if t then w40 else (.sv (.bool false)))) fun w41 =>
  B.b (bin .add (.int .i64) (tm 27) (.sv (.int .i64 1))) fun w42 =>
  some (.normal, ⟨(upd (upd (upd (upd (upd (upd (upd (upd (upd (upd (upd (upd (upd (upd (upd (upd (upd (upd (upd (upd (upd (upd (upd (upd (upd (upd (upd tm 28 w23) 29 (tm 27)) 30 w25) 8 (tm 27)) 9 w25) 31 (tm 6)) 32 (tm 6)) 33 w26) 34 w27) 35 w28) 36 w29) 37 w30) 38 w30) 39 w31) 40 w32) 41 w33) 42 w34) 43 w35) 44 w36) 45 w37) 46 w38) 47 w39) 48 w40) 49 w41) 6 w41) 50 w42) 27 w42), h⟩)) else
  some (.exit 0, ⟨(upd tm 28 w23), h⟩)

noncomputable def f102_k0 (B : BindS) (C : CallF) (L : LoopF) (tm : Tm) (h : Heap) : Option (AV × Heap) :=
  B.b (fa 1 (tm 5)) fun w44 =>
  B.b (ia (.arr 3 1 false (some [.int .i64, .int .i64, .int .i64])) w44 (.sv (.int .i64 1))) fun w45 =>
  B.b (ld 1 false w45 h) fun w46 =>
  B.b (bin .neq (.int .i64) w46 (.sv (.int .i64 5))) fun w47 =>
  B.b (asB w47) fun t48 =>
  if t48 then (B.b (gO (some ((tm 6), true)) (fa 4 (tm 2)) .dead) fun w49 =>
  B.b (gO (some ((tm 6), true)) (ld 1 false w49 h) .dead) fun w50 =>
  B.b (gO (some ((tm 6), true)) (bin .eql (.int .i64) w50 (.sv (.int .i64 0))) .dead) fun w51 =>
  B.b ((asB (tm 6)).bind fun t => some (if t then w51 else (.sv (.bool false)))) fun w52 =>
  some (w52, h)) else
  B.b (gO (some ((tm 6), true)) (fa 4 (tm 2)) .dead) fun w53 =>
  B.b (gO (some ((tm 6), true)) (ld 1 false w53 h) .dead) fun w54 =>
  B.b (gO (some ((tm 6), true)) (bin .gtr (.int .i64) w54 (.sv (.int .i64 (-1000000000000000000)))) .dead) fun w55 =>
  B.b ((asB (tm 6)).bind fun t => some (if t then w55 else (.sv (.bool false)))) fun w56 =>
  B.b (gO (some (w56, true)) (fa 4 (tm 2)) .dead) fun w57 =>
  B.b (gO (some (w56, true)) (ld 1 false w57 h) .dead) fun w58 =>
  B.b (gO (some (w56, true)) (bin .lss (.int .i64) w58 (.sv (.int .i64 1000000000000000000))) .dead) fun w59 =>
  B.b ((asB w56).bind fun t => some (if t then w59 else (.sv (.bool false)))) fun w60 =>
  some (w60, h)

noncomputable def f102_sh (B : BindS) (C : CallF) (L : LoopF) (v0 : AV) (v1 : AV) (h : Heap) : Option (AV × Heap) :=
  B.b (boxA 5 v0 h) fun r1 =>
  B.b (boxA 4 v1 r1.2) fun r2 =>
  B.b (fa 0 r1.1) fun w3 =>
  B.b (ld 1 false w3 r2.2) fun w4 =>
  B.b (C 103 [w4] r2.2) fun r5 =>
  B.b (ex 0 r5.1) fun w6 =>
  B.b (ex 1 r5.1) fun w7 =>
  B.b (alloc [.sv (.str []), .sv (.int .i64 0), .sv (.int .i64 0), .sv (.int .i64 0)] r5.2) fun r8 =>
  B.b (storeA 4 r8.1 w6 r8.2) fun r9 =>
  B.b (fa 0 r2.1) fun w10 =>
  B.b (ld 1 false w10 r9.2) fun w11 =>
  B.b (fa 0 r2.1) fun w12 =>
  B.b (ld 1 false w12 r9.2) fun w13 =>
  B.b (fa 1 r2.1) fun w14 =>
  B.b (ld 1 false w14 r9.2) fun w15 =>
  B.b (fa 3 r2.1) fun w16 =>
  B.b (ld 1 false w16 r9.2) fun w17 =>
  B.b (ln (.slice 47 5 40 false) w17) fun w18 =>
  B.b (bdA tab 204 [(0, (.sv (.int .i64 1))), (1, w11), (2, w13), (3, w15), (4, w18), (5, (.sv (.int .i64 1)))]) fun w19 =>
  B.b (alloc [.sv (.int .i64 0), .sv (.int .i64 0), .sv (.int .i64 0), .sv (.int .i64 0), .sv (.int .i64 0), .sv (.int .i64 0)] r9.2) fun r20 =>
  B.b (storeA 6 r20.1 w19 r20.2) fun r21 =>
  B.b (C 104 [r1.1] r21.2) fun r22 =>
  B.b (L (fun s => f102_b0 B C L s.tm s.h) ⟨(upd (upd (upd (upd (upd (upd (upd (upd (upd (upd (upd (upd (upd (upd (upd (upd (upd (upd (upd (upd (upd (upd (upd (upd (init [v0, v1]) 2 r1.1) 3 r2.1) 4 (.sv (.bool false))) 11 w3) 12 w4) 13 r5.1) 10 r5.1) 14 w6) 15 w7) 5 r8.1) 6 w7) 16 w10) 17 w11) 18 w12) 19 w13) 20 w14) 21 w15) 22 w16) 23 w17) 24 w18) 25 w19) 7 r20.1) 26 r22.1) 27 (.sv (.int .i64 0))), r22.2⟩) fun r43 => (outBlock 0 (outSeq (f102_k0 B C L) (endK B tab [.tmp 4]))) r43.1 r43.2.tm r43.2.h
theorem f102_eq (B : BindS) (C : CallF) (L : LoopF) (v0 : AV) (v1 : AV) (h : Heap) : evFunc B tab shared C L noD Try.f102 [v0, v1] h = f102_sh B C L v0 v1 h := by kernel_rfl

/-! slices.IndexFunc[[]purfle/api.Ins,purfle/api.Ins] -/
noncomputable def f153_b0 (B : BindS) (C : CallF) (L : LoopF) (tm : Tm) (h : Heap) : Option (Out × St) :=
  B.b (bin .lss (.int .i64) (tm 8) (tm 7)) fun w2 =>
  B.b (asB w2) fun t3 =>
  if t3 then (B.b (ia (.slice 47 5 40 false) (tm 0) (tm 8)) fun w4 =>
  B.b (ld 5 true w4 h) fun w5 =>
  B.b ((callV (tm 1)).bind fun c => C c.1 (c.2.1 ++ [w5] ++ c.2.2) h) fun r6 =>
  B.b (asB r6.1) fun t7 =>
  if t7 then (some (.ret, ⟨(upd (upd (upd (upd (upd (upd (upd (upd (upd (upd (upd tm 9 w2) 10 (tm 8)) 5 (tm 8)) 11 (tm 1)) 12 (tm 0)) 13 (tm 8)) 14 w4) 15 w5) 16 r6.1) 17 (tm 8)) 4 (tm 8)), r6.2⟩)) else
  B.b (bin .add (.int .i64) (tm 8) (.sv (.int .i64 1))) fun w8 =>
  some (.normal, ⟨(upd (upd (upd (upd (upd (upd (upd (upd (upd (upd (upd tm 9 w2) 10 (tm 8)) 5 (tm 8)) 11 (tm 1)) 12 (tm 0)) 13 (tm 8)) 14 w4) 15 w5) 16 r6.1) 18 w8) 8 w8), r6.2⟩)) else
  some (.exit 0, ⟨(upd tm 9 w2), h⟩)

noncomputable def f153_k0 (B : BindS) (C : CallF) (L : LoopF) (tm : Tm) (h : Heap) : Option (AV × Heap) :=
  some ((.sv (.int .i64 (-1))), h)

noncomputable def f153_sh (B : BindS) (C : CallF) (L : LoopF) (v0 : AV) (v1 : AV) (h : Heap) : Option (AV × Heap) :=
  B.b (ln (.slice 47 5 40 false) v0) fun w1 =>
  B.b (L (fun s => f153_b0 B C L s.tm s.h) ⟨(upd (upd (upd (upd (init [v0, v1]) 4 (.sv (.int .i64 0))) 6 v0) 7 w1) 8 (.sv (.int .i64 0))), h⟩) fun r9 => (outBlock 0 (outSeq (f153_k0 B C L) (endK B tab [.tmp 4]))) r9.1 r9.2.tm r9.2.h
theorem f153_eq (B : BindS) (C : CallF) (L : LoopF) (v0 : AV) (v1 : AV) (h : Heap) : evFunc B tab shared C L noD Try.f153 [v0, v1] h = f153_sh B C L v0 v1 h := by kernel_rfl

/-! purfle/code.Reads -/
noncomputable def f38_b0 (B : BindS) (C : CallF) (L : LoopF) (tm : Tm) (h : Heap) : Option (Out × St) :=
  B.b (bin .lss (.int .i64) (tm 14) (.sv (.int .i64 3))) fun w10 =>
  B.b (asB w10) fun t11 =>
  if t11 then (B.b (ix (.arr 3 1 false none) (tm 13) (tm 14)) fun w12 =>
  B.b (fa 1 (tm 3)) fun w13 =>
  B.b (ia (.arr 3 1 false (some [.int .i64, .int .i64, .int .i64])) w13 (tm 14)) fun w14 =>
  B.b (ld 1 false w14 h) fun w15 =>
  B.b (bin .eql (.int .i64) w15 (.sv (.int .i64 2))) fun w16 =>
  B.b (asB w16) fun t17 =>
  if t17 then (B.b (nc w12) fun w18 =>
  B.b (ld 1 false w18 h) fun w19 =>
  B.b (bsA (.slice 3 1 8 false) (some [.sv (.int .i64 0)]) 1 [(0, w19)] h) fun r20 =>
  B.b (apA (.slice 3 1 8 false) (tm 2) r20.1 r20.2) fun r21 =>
  B.b (bin .add (.int .i64) (tm 14) (.sv (.int .i64 1))) fun w22 =>
  some (.normal, ⟨(upd (upd (upd (upd (upd (upd (upd (upd (upd (upd (upd (upd (upd (upd (upd (upd (upd (upd (upd tm 15 w10) 16 (tm 14)) 17 w12) 5 (tm 14)) 6 w12) 18 (tm 14)) 19 w13) 20 w14) 21 w15) 22 w16) 23 (tm 2)) 24 w12) 25 w18) 26 w19) 27 r20.1) 28 r21.1) 2 r21.1) 29 w22) 14 w22), r21.2⟩)) else
  B.b (bin .add (.int .i64) (tm 14) (.sv (.int .i64 1))) fun w23 =>
  some (.normal, ⟨(upd (upd (upd (upd (upd (upd (upd (upd (upd (upd (upd (upd tm 15 w10) 16 (tm 14)) 17 w12) 5 (tm 14)) 6 w12) 18 (tm 14)) 19 w13) 20 w14) 21 w15) 22 w16) 29 w23) 14 w23), h⟩)) else
  some (.exit 0, ⟨(upd tm 15 w10), h⟩)

noncomputable def f38_k0 (B : BindS) (C : CallF) (L : LoopF) (tm : Tm) (h : Heap) : Option (AV × Heap) :=
  some ((tm 2), h)

noncomputable def f38_sh (B : BindS) (C : CallF) (L : LoopF) (v0 : AV) (h : Heap) : Option (AV × Heap) :=
  B.b (boxA 5 v0 h) fun r1 =>
  B.b (fa 0 r1.1) fun w2 =>
  B.b (ld 1 false w2 r1.2) fun w3 =>
  B.b (C 103 [w3] r1.2) fun r4 =>
  B.b (ex 0 r4.1) fun w5 =>
  B.b (ex 1 r4.1) fun w6 =>
  B.b (alloc [.sv (.str []), .sv (.int .i64 0), .sv (.int .i64 0), .sv (.int .i64 0)] r4.2) fun r7 =>
  B.b (storeA 4 r7.1 w5 r7.2) fun r8 =>
  B.b (C 104 [r1.1] r8.2) fun r9 =>
  B.b (L (fun s => f38_b0 B C L s.tm s.h) ⟨(upd (upd (upd (upd (upd (upd (upd (upd (upd (upd (upd (upd (init [v0]) 1 r1.1) 2 .nil) 8 w2) 9 w3) 10 r4.1) 7 r4.1) 11 w5) 12 w6) 3 r7.1) 4 w6) 13 r9.1) 14 (.sv (.int .i64 0))), r9.2⟩) fun r24 => (outBlock 0 (outSeq (f38_k0 B C L) (endK B tab [.tmp 2]))) r24.1 r24.2.tm r24.2.h
theorem f38_eq (B : BindS) (C : CallF) (L : LoopF) (v0 : AV) (h : Heap) : evFunc B tab shared C L noD Try.f38 [v0] h = f38_sh B C L v0 h := by kernel_rfl

/-! purfle/code.Writes -/

noncomputable def f39_sh (B : BindS) (C : CallF) (L : LoopF) (v0 : AV) (h : Heap) : Option (AV × Heap) :=
  B.b (boxA 5 v0 h) fun r1 =>
  B.b (fa 0 r1.1) fun w2 =>
  B.b (ld 1 false w2 r1.2) fun w3 =>
  B.b (C 103 [w3] r1.2) fun r4 =>
  B.b (ex 0 r4.1) fun w5 =>
  B.b (ex 1 r4.1) fun w6 =>
  B.b (alloc [.sv (.str []), .sv (.int .i64 0), .sv (.int .i64 0), .sv (.int .i64 0)] r4.2) fun r7 =>
  B.b (storeA 4 r7.1 w5 r7.2) fun r8 =>
  B.b (fa 1 r7.1) fun w9 =>
  B.b (ia (.arr 3 1 false (some [.int .i64, .int .i64, .int .i64])) w9 (.sv (.int .i64 0))) fun w10 =>
  B.b (ld 1 false w10 r8.2) fun w11 =>
  B.b (bin .neq (.int .i64) w11 (.sv (.int .i64 1))) fun w12 =>
  B.b (asB w12) fun t13 =>
  if t13 then (some (.tuple [(.sv (.int .i64 0)), (.sv (.bool false))], r8.2)) else
  B.b (fa 1 r1.1) fun w14 =>
  B.b (ld 1 false w14 r8.2) fun w15 =>
  some (.tuple [w15, (.sv (.bool true))], r8.2)
theorem f39_eq (B : BindS) (C : CallF) (L : LoopF) (v0 : AV) (h : Heap) : evFunc B tab shared C L noD Try.f39 [v0] h = f39_sh B C L v0 h := by kernel_rfl

/-! purfle/code.Next -/

noncomputable def f40_sh (B : BindS) (C : CallF) (L : LoopF) (v0 : AV) (v1 : AV) (h : Heap) : Option (AV × Heap) :=
  B.b (boxA 5 v0 h) fun r1 =>
  B.b (fa 0 r1.1) fun w2 =>
  B.b (ld 1 false w2 r1.2) fun w3 =>
  B.b (C 103 [w3] r1.2) fun r4 =>
  B.b (ex 0 r4.1) fun w5 =>
  B.b (ex 1 r4.1) fun w6 =>
  B.b (alloc [.sv (.str []), .sv (.int .i64 0), .sv (.int .i64 0), .sv (.int .i64 0)] r4.2) fun r7 =>
  B.b (storeA 4 r7.1 w5 r7.2) fun r8 =>
  B.b (un .not w6) fun w9 =>
  B.b (gO (some (w9, false)) (fa 0 r1.1) .dead) fun w10 =>
  B.b (gO (some (w9, false)) (ld 1 false w10 r8.2) .dead) fun w11 =>
  B.b (gO (some (w9, false)) (bin .eql (.int .i64) w11 (.sv (.int .i64 0))) .dead) fun w12 =>
  B.b ((asB w9).bind fun t => some (if t then (.sv (.bool true)) else w12)) fun w13 =>
  B.b (asB w13) fun t14 =>
  if t14 then (some (.nil, r8.2)) else
  B.b (fa 0 r1.1) fun w15 =>
  B.b (ld 1 false w15 r8.2) fun w16 =>
  B.b (bin .eql (.int .i64) w16 (.sv (.int .i64 10))) fun w17 =>
  B.b (asB w17) fun t18 =>
  if t18 then (B.b (fa 1 r1.1) fun w19 =>
  B.b (ld 1 false w19 r8.2) fun w20 =>
  B.b (bsA (.slice 3 1 8 false) (some [.sv (.int .i64 0)]) 1 [(0, w20)] r8.2) fun r21 =>
  some (r21.1, r21.2)) else
  B.b (fa 0 r1.1) fun w22 =>
  B.b (ld 1 false w22 r8.2) fun w23 =>
  B.b (bin .eql (.int .i64) w23 (.sv (.int .i64 11))) fun w24 =>
  B.b (gO (some (w24, false)) (fa 0 r1.1) .dead) fun w25 =>
  B.b (gO (some (w24, false)) (ld 1 false w25 r8.2) .dead) fun w26 =>
  B.b (gO (some (w24, false)) (bin .eql (.int .i64) w26 (.sv (.int .i64 12))) .dead) fun w27 =>
  B.b ((asB w24).bind fun t => some (if t then (.sv (.bool true)) else w27)) fun w28 =>
  B.b (asB w28) fun t29 =>
  if t29 then (B.b (bin .add (.int .i64) v1 (.sv (.int .i64 1))) fun w30 =>
  B.b (fa 3 r1.1) fun w31 =>
  B.b (ld 1 false w31 r8.2) fun w32 =>
  B.b (bsA (.slice 3 1 8 false) (some [.sv (.int .i64 0)]) 2 [(0, w30), (1, w32)] r8.2) fun r33 =>
  some (r33.1, r33.2)) else
  B.b (bin .add (.int .i64) v1 (.sv (.int .i64 1))) fun w34 =>
  B.b (bsA (.slice 3 1 8 false) (some [.sv (.int .i64 0)]) 1 [(0, w34)] r8.2) fun r35 =>
  some (r35.1, r35.2)
theorem f40_eq (B : BindS) (C : CallF) (L : LoopF) (v0 : AV) (v1 : AV) (h : Heap) : evFunc B tab shared C L noD Try.f40 [v0, v1] h = f40_sh B C L v0 v1 h := by kernel_rfl

/-! purfle/code.Shift -/
noncomputable def f41_b0 (B : BindS) (C : CallF) (L : LoopF) (tm : Tm) (h : Heap) : Option (Out × St) :=
  B.b (bin .lss (.int .i64) (tm 44) (tm 43)) fun w31 =>
  B.b (asB w31) fun t32 =>
  if t32 then (B.b (bin .add (.int .i64) (tm 44) (.sv (.int .i64 1))) fun w33 =>
  B.b (bdA tab 47 [(0, (.sv (.int .i64 10))), (1, w33)]) fun w34 =>
  B.b (ia (.slice 47 5 40 false) (tm 6) (tm 44)) fun w35 =>
  B.b (storeA 5 w35 w34 h) fun r36 =>
  B.b (bin .add (.int .i64) (tm 44) (.sv (.int .i64 1))) fun w37 =>
  some (.normal, ⟨(upd (upd (upd (upd (upd (upd (upd (upd (upd (upd (upd tm 45 w31) 46 (tm 44)) 7 (tm 44)) 47 (tm 6)) 48 (tm 44)) 49 (tm 44)) 50 w33) 51 w34) 52 w35) 53 w37) 44 w37), r36.2⟩)) else
  some (.exit 1, ⟨(upd tm 45 w31), h⟩)

noncomputable def f41_b2 (B : BindS) (C : CallF) (L : LoopF) (tm : Tm) (h : Heap) : Option (Out × St) :=
  B.b (bin .lss (.int .i64) (tm 68) (.sv (.int .i64 3))) fun w56 =>
  B.b (asB w56) fun t57 =>
  if t57 then (B.b (ix (.arr 3 1 false none) (tm 67) (tm 68)) fun w58 =>
  B.b (fa 1 (tm 10)) fun w59 =>
  B.b (ia (.arr 3 1 false (some [.int .i64, .int .i64, .int .i64])) w59 (tm 68)) fun w60 =>
  B.b (ld 1 false w60 h) fun w61 =>
  B.b (bin .eql (.int .i64) w61 (.sv (.int .i64 4))) fun w62 =>
  B.b (asB w62) fun t63 =>
  if t63 then (B.b (nc w58) fun w64 =>
  B.b (ld 1 false w64 h) fun w65 =>
  B.b (bin .add (.int .i64) w65 (tm 1)) fun w66 =>
  B.b (nc w58) fun w67 =>
  B.b (storeA 1 w67 w66 h) fun r68 =>
  B.b (bin .add (.int .i64) (tm 68) (.sv (.int .i64 1))) fun w69 =>
  some (.normal, ⟨(upd (upd (upd (upd (upd (upd (upd (upd (upd (upd (upd (upd (upd (upd (upd (upd (upd (upd tm 69 w56) 70 (tm 68)) 71 w58) 12 (tm 68)) 13 w58) 72 (tm 68)) 73 w59) 74 w60) 75 w61) 76 w62) 77 w58) 78 w64) 79 w65) 80 (tm 1)) 81 w66) 82 w67) 83 w69) 68 w69), r68.2⟩)) else
  B.b (bin .add (.int .i64) (tm 68) (.sv (.int .i64 1))) fun w70 =>
  some (.normal, ⟨(upd (upd (upd (upd (upd (upd (upd (upd (upd (upd (upd (upd tm 69 w56) 70 (tm 68)) 71 w58) 12 (tm 68)) 13 w58) 72 (tm 68)) 73 w59) 74 w60) 75 w61) 76 w62) 83 w70) 68 w70), h⟩)) else
  some (.exit 5, ⟨(upd tm 69 w56), h⟩)

noncomputable def f41_k1 (B : BindS) (C : CallF) (L : LoopF) (tm : Tm) (h : Heap) : Option (Out × St) :=
  B.b (ld 5 true (tm 9) h) fun w72 =>
  B.b (bsA (.slice 47 5 40 false) (some [.sv (.int .i64 0), .sv (.int .i64 0), .sv (.int .i64 0), .sv (.int .i64 0), .sv (.int .i64 0)]) 1 [(0, w72)] h) fun r73 =>
  B.b (apA (.slice 47 5 40 false) (tm 6) r73.1 r73.2) fun r74 =>
  B.b (bin .add (.int .i64) (tm 57) (.sv (.int .i64 1))) fun w75 =>
  some (.normal, ⟨(upd (upd (upd (upd (upd (upd (upd tm 84 (tm 6)) 85 w72) 86 r73.1) 87 r74.1) 6 r74.1) 88 w75) 57 w75), r74.2⟩)

noncomputable def f41_k2 (B : BindS) (C : CallF) (L : LoopF) (tm : Tm) (h : Heap) : Option (Out × St) :=
  B.b (bin .add (.int .i64) (tm 57) (.sv (.int .i64 1))) fun w76 =>
  some (.normal, ⟨(upd (upd tm 88 w76) 57 w76), h⟩)

noncomputable def f41_b1 (B : BindS) (C : CallF) (L : LoopF) (tm : Tm) (h : Heap) : Option (Out × St) :=
  B.b (bin .lss (.int .i64) (tm 57) (tm 56)) fun w42 =>
  B.b (asB w42) fun t43 =>
  if t43 then (B.b (ia (.slice 47 5 40 false) (tm 55) (tm 57)) fun w44 =>
  B.b (ld 5 true w44 h) fun w45 =>
  B.b (alloc [.sv (.int .i64 0), .sv (.int .i64 0), .sv (.int .i64 0), .sv (.int .i64 0), .sv (.int .i64 0)] h) fun r46 =>
  B.b (storeA 5 r46.1 w45 r46.2) fun r47 =>
  B.b (fa 0 r46.1) fun w48 =>
  B.b (ld 1 false w48 r47.2) fun w49 =>
  B.b (C 103 [w49] r47.2) fun r50 =>
  B.b (ex 0 r50.1) fun w51 =>
  B.b (ex 1 r50.1) fun w52 =>
  B.b (alloc [.sv (.str []), .sv (.int .i64 0), .sv (.int .i64 0), .sv (.int .i64 0)] r50.2) fun r53 =>
  B.b (storeA 4 r53.1 w51 r53.2) fun r54 =>
  B.b (C 104 [r46.1] r54.2) fun r55 =>
  B.b (L (fun s => f41_b2 B C L s.tm s.h) ⟨(upd (upd (upd (upd (upd (upd (upd (upd (upd (upd (upd (upd (upd (upd tm 58 w42) 59 w44) 60 w45) 9 r46.1) 62 w48) 63 w49) 64 r50.1) 61 r50.1) 65 w51) 66 w52) 10 r53.1) 11 w52) 67 r55.1) 68 (.sv (.int .i64 0))), r55.2⟩) fun r71 => (outBlock 5 (outSeq (f41_k1 B C L) (outBlock 4 (outSeq (f41_k2 B C L) outK)))) r71.1 r71.2.tm r71.2.h) else
  some (.exit 3, ⟨(upd tm 58 w42), h⟩)

noncomputable def f41_k3 (B : BindS) (C : CallF) (L : LoopF) (tm : Tm) (h : Heap) : Option (AV × Heap) :=
  B.b (fa 3 (tm 2)) fun w78 =>
  B.b (storeA 1 w78 (tm 6) h) fun r79 =>
  B.b (ld 4 true (tm 2) r79.2) fun w80 =>
  B.b (storeA 4 (tm 4) w80 r79.2) fun r81 =>
  B.b (ld 4 true (tm 4) r81.2) fun w82 =>
  some (.tuple [w82, (.sv (.int .i64 0))], r81.2)

noncomputable def f41_k0 (B : BindS) (C : CallF) (L : LoopF) (tm : Tm) (h : Heap) : Option (AV × Heap) :=
  B.b (fa 3 (tm 2)) fun w39 =>
  B.b (ld 1 false w39 h) fun w40 =>
  B.b (ln (.slice 47 5 40 false) w40) fun w41 =>
  B.b (L (fun s => f41_b1 B C L s.tm s.h) ⟨(upd (upd (upd (upd tm 54 w39) 55 w40) 56 w41) 57 (.sv (.int .i64 0))), h⟩) fun r77 => (outBlock 3 (outSeq (f41_k3 B C L) (endK B tab [.cell 4 39, .tmp 5]))) r77.1 r77.2.tm r77.2.h

noncomputable def f41_sh (B : BindS) (C : CallF) (L : LoopF) (v0 : AV) (v1 : AV) (h : Heap) : Option (AV × Heap) :=
  B.b (boxA 4 v0 h) fun r1 =>
  B.b (alloc [.sv (.int .i64 0), .sv (.int .i64 0), .sv (.int .i64 0), .nil] r1.2) fun r2 =>
  B.b (ld 4 true r1.1 r2.2) fun w3 =>
  B.b (C 37 [w3] r2.2) fun r4 =>
  B.b (bin .neq (.int .i64) r4.1 (.sv (.int .i64 0))) fun w5 =>
  B.b (gO (some (w5, false)) (some v1) .dead) fun w6 =>
  B.b (gO (some (w5, false)) (bin .lss (.int .i64) w6 (.sv (.int .i64 0))) .dead) fun w7 =>
  B.b ((asB w5).bind fun t => some (if t then (.sv (.bool true)) else w7)) fun w8 =>
  B.b (gO (some (w8, false)) (some v1) .dead) fun w9 =>
  B.b (gO (some (w8, false)) (bin .gtr (.int .i64) w9 (.sv (.int .i64 4096))) .dead) fun w10 =>
  B.b ((asB w8).bind fun t => some (if t then (.sv (.bool true)) else w10)) fun w11 =>
  B.b (asB w11) fun t12 =>
  if t12 then (B.b (bdA tab 39 []) fun w13 =>
  B.b (storeA 4 r2.1 w13 r4.2) fun r14 =>
  B.b (ld 4 true r2.1 r14.2) fun w15 =>
  some (.tuple [w15, (.sv (.int .i64 1))], r14.2)) else
  B.b (fa 3 r1.1) fun w16 =>
  B.b (ld 1 false w16 r4.2) fun w17 =>
  B.b (ln (.slice 47 5 40 false) w17) fun w18 =>
  B.b (bin .add (.int .i64) w18 v1) fun w19 =>
  B.b (bin .gtr (.int .i64) w19 (.sv (.int .i64 4096))) fun w20 =>
  B.b (asB w20) fun t21 =>
  if t21 then (B.b (bdA tab 39 []) fun w22 =>
  B.b (storeA 4 r2.1 w22 r4.2) fun r23 =>
  B.b (ld 4 true r2.1 r23.2) fun w24 =>
  some (.tuple [w24, (.sv (.int .i64 2))], r23.2)) else
  B.b (fa 3 r1.1) fun w25 =>
  B.b (ld 1 false w25 r4.2) fun w26 =>
  B.b (ln (.slice 47 5 40 false) w26) fun w27 =>
  B.b (bin .add (.int .i64) v1 w27) fun w28 =>
  B.b (msA (.slice 47 5 40 false) (some [.sv (.int .i64 0), .sv (.int .i64 0), .sv (.int .i64 0), .sv (.int .i64 0), .sv (.int .i64 0)]) v1 w28 r4.2) fun r29 =>
  B.b (ln (.slice 47 5 40 false) r29.1) fun w30 =>
  B.b (L (fun s => f41_b0 B C L s.tm s.h) ⟨(upd (upd (upd (upd (upd (upd (upd (upd (upd (upd (upd (upd (upd (upd (upd (upd (upd (upd (upd (upd (upd (upd (upd (upd (upd (upd (upd (upd (upd (upd (upd (upd (upd (init [v0, v1]) 2 r1.1) 4 r2.1) 5 (.sv (.int .i64 0))) 15 w3) 16 r4.1) 17 w5) 18 w5) 19 w6) 20 w7) 21 w8) 22 w8) 23 w9) 24 w10) 25 w11) 14 w11) 28 w16) 29 w17) 30 w18) 31 v1) 32 w19) 33 w20) 27 w20) 35 v1) 36 v1) 37 w25) 38 w26) 39 w27) 40 w28) 41 r29.1) 6 r29.1) 42 r29.1) 43 w30) 44 (.sv (.int .i64 0))), r29.2⟩) fun r38 => (outBlock 1 (outSeq (f41_k0 B C L) (endK B tab [.cell 4 39, .tmp 5]))) r38.1 r38.2.tm r38.2.h
theorem f41_eq (B : BindS) (C : CallF) (L : LoopF) (v0 : AV) (v1 : AV) (h : Heap) : evFunc B tab shared C L noD Try.f41 [v0, v1] h = f41_sh B C L v0 v1 h := by kernel_rfl

/-! purfle/code.Same -/

noncomputable def f42_sh (B : BindS) (C : CallF) (L : LoopF) (v0 : AV) (v1 : AV) (h : Heap) : Option (AV × Heap) :=
  B.b (boxA 4 v0 h) fun r1 =>
  B.b (boxA 4 v1 r1.2) fun r2 =>
  B.b (fa 0 r1.1) fun w3 =>
  B.b (ld 1 false w3 r2.2) fun w4 =>
  B.b (fa 1 r1.1) fun w5 =>
  B.b (ld 1 false w5 r2.2) fun w6 =>
  B.b (fa 2 r1.1) fun w7 =>
  B.b (ld 1 false w7 r2.2) fun w8 =>
  B.b (bdA tab 135 [(0, w4), (1, w6), (2, w8)]) fun w9 =>
  B.b (fa 0 r2.1) fun w10 =>
  B.b (ld 1 false w10 r2.2) fun w11 =>
  B.b (fa 1 r2.1) fun w12 =>
  B.b (ld 1 false w12 r2.2) fun w13 =>
  B.b (fa 2 r2.1) fun w14 =>
  B.b (ld 1 false w14 r2.2) fun w15 =>
  B.b (bdA tab 135 [(0, w11), (1, w13), (2, w15)]) fun w16 =>
  B.b (bin .eql (.arr 3 1 false (some [.int .i64, .int .i64, .int .i64])) w9 w16) fun w17 =>
  B.b (gO (some (w17, true)) (fa 3 r1.1) .dead) fun w18 =>
  B.b (gO (some (w17, true)) (ld 1 false w18 r2.2) .dead) fun w19 =>
  B.b (gO (some (w17, true)) (fa 3 r2.1) .dead) fun w20 =>
  B.b (gO (some (w17, true)) (ld 1 false w20 r2.2) .dead) fun w21 =>
  B.b (gO (some (w17, true)) (C 105 [w19, w21] r2.2) (.dead, r2.2)) fun r22 =>
  B.b ((asB w17).bind fun t => some (if t then r22.1 else (.sv (.bool false)))) fun w23 =>
  some (w23, r22.2)
theorem f42_eq (B : BindS) (C : CallF) (L : LoopF) (v0 : AV) (v1 : AV) (h : Heap) : evFunc B tab shared C L noD Try.f42 [v0, v1] h = f42_sh B C L v0 v1 h := by kernel_rfl

/-! slices.Equal[[]purfle/api.Ins,purfle/api.Ins] -/
noncomputable def f105_b0 (B : BindS) (C : CallF) (L : LoopF) (tm : Tm) (h : Heap) : Option (Out × St) :=
  B.b (bin .lss (.int .i64) (tm 13) (tm 12)) fun w6 =>
  B.b (asB w6) fun t7 =>
  if t7 then (B.b (ia (.slice 47 5 40 false) (tm 0) (tm 13)) fun w8 =>
  B.b (ld 5 true w8 h) fun w9 =>
  B.b (ia (.slice 47 5 40 false) (tm 1) (tm 13)) fun w10 =>
  B.b (ld 5 true w10 h) fun w11 =>
  B.b (bin .neq (.struct (some [.int .i64, .int .i64, .int .i64, .int .i64, .int .i64])) w9 w11) fun w12 =>
  B.b (asB w12) fun t13 =>
  if t13 then (some (.ret, ⟨(upd (upd (upd (upd (upd (upd (upd (upd (upd (upd (upd (upd (upd tm 14 w6) 15 (tm 13)) 5 (tm 13)) 16 (tm 0)) 17 (tm 13)) 18 w8) 19 w9) 20 (tm 1)) 21 (tm 13)) 22 w10) 23 w11) 24 w12) 4 (.sv (.bool false))), h⟩)) else
  B.b (bin .add (.int .i64) (tm 13) (.sv (.int .i64 1))) fun w14 =>
  some (.normal, ⟨(upd (upd (upd (upd (upd (upd (upd (upd (upd (upd (upd (upd (upd (upd tm 14 w6) 15 (tm 13)) 5 (tm 13)) 16 (tm 0)) 17 (tm 13)) 18 w8) 19 w9) 20 (tm 1)) 21 (tm 13)) 22 w10) 23 w11) 24 w12) 25 w14) 13 w14), h⟩)) else
  some (.exit 0, ⟨(upd tm 14 w6), h⟩)

noncomputable def f105_k0 (B : BindS) (C : CallF) (L : LoopF) (tm : Tm) (h : Heap) : Option (AV × Heap) :=
  some ((.sv (.bool true)), h)

noncomputable def f105_sh (B : BindS) (C : CallF) (L : LoopF) (v0 : AV) (v1 : AV) (h : Heap) : Option (AV × Heap) :=
  B.b (ln (.slice 47 5 40 false) v0) fun w1 =>
  B.b (ln (.slice 47 5 40 false) v1) fun w2 =>
  B.b (bin .neq (.int .i64) w1 w2) fun w3 =>
  B.b (asB w3) fun t4 =>
  if t4 then (some ((.sv (.bool false)), h)) else
  B.b (ln (.slice 47 5 40 false) v0) fun w5 =>
  B.b (L (fun s => f105_b0 B C L s.tm s.h) ⟨(upd (upd (upd (upd (upd (upd (upd (upd (upd (init [v0, v1]) 4 (.sv (.bool false))) 6 v0) 7 w1) 8 v1) 9 w2) 10 w3) 11 v0) 12 w5) 13 (.sv (.int .i64 0))), h⟩) fun r15 => (outBlock 0 (outSeq (f105_k0 B C L) (endK B tab [.tmp 4]))) r15.1 r15.2.tm r15.2.h
theorem f105_eq (B : BindS) (C : CallF) (L : LoopF) (v0 : AV) (v1 : AV) (h : Heap) : evFunc B tab shared C L noD Try.f105 [v0, v1] h = f105_sh B C L v0 v1 h := by kernel_rfl

/-! purfle/code.Text -/
noncomputable def f62_b0 (B : BindS) (C : CallF) (L : LoopF) (tm : Tm) (h : Heap) : Option (Out × St) :=
  B.b (bin .lss (.int .i64) (tm 29) (tm 28)) fun w16 =>
  B.b (asB w16) fun t17 =>
  if t17 then (B.b (ia (.slice 3 1 8 false) (tm 27) (tm 29)) fun w18 =>
  B.b (ld 1 false w18 h) fun w19 =>
  B.b (C 127 [(tm 5), w19] h) fun r20 =>
  B.b (bin .add (.int .i64) (tm 29) (.sv (.int .i64 1))) fun w21 =>
  some (.normal, ⟨(upd (upd (upd (upd (upd (upd (upd (upd (upd (upd tm 30 w16) 31 w18) 32 w19) 7 w19) 33 (tm 5)) 34 w19) 35 r20.1) 5 r20.1) 36 w21) 29 w21), r20.2⟩)) else
  some (.exit 0, ⟨(upd tm 30 w16), h⟩)

noncomputable def f62_k1 (B : BindS) (C : CallF) (L : LoopF) (tm : Tm) (h : Heap) : Option (Out × St) :=
  B.b (asB (tm 66)) fun t54 =>
  if t54 then (B.b (nc (tm 13)) fun w55 =>
  B.b (ld 1 false w55 h) fun w56 =>
  B.b (C 128 [w56] h) fun r57 =>
  B.b (bin .add .str (.sv (.str [114])) r57.1) fun w58 =>
  B.b (bdA tab 35 [(0, (.sv (.int .i64 1))), (1, w58)]) fun w59 =>
  B.b (bsA (.slice 35 3 32 false) (some [.sv (.int .i64 0), .sv (.str []), .sv (.int .i64 0)]) 1 [(0, w59)] r57.2) fun r60 =>
  B.b (apA (.slice 35 3 32 false) (tm 5) r60.1 r60.2) fun r61 =>
  B.b (bin .add (.int .i64) (tm 58) (.sv (.int .i64 1))) fun w62 =>
  some (.normal, ⟨(upd (upd (upd (upd (upd (upd (upd (upd (upd (upd (upd (upd tm 69 (tm 5)) 70 (tm 13)) 71 w55) 72 w56) 73 r57.1) 74 w58) 75 w59) 76 r60.1) 77 r61.1) 5 r61.1) 102 w62) 58 w62), r61.2⟩)) else
  B.b (bin .eql (.int .i64) (tm 65) (.sv (.int .i64 3))) fun w63 =>
  B.b (asB w63) fun t64 =>
  if t64 then (B.b (nc (tm 13)) fun w65 =>
  B.b (ld 1 false w65 h) fun w66 =>
  B.b (C 128 [w66] h) fun r67 =>
  B.b (bin .add .str (.sv (.str [97])) r67.1) fun w68 =>
  B.b (bdA tab 35 [(0, (.sv (.int .i64 1))), (1, w68)]) fun w69 =>
  B.b (bsA (.slice 35 3 32 false) (some [.sv (.int .i64 0), .sv (.str []), .sv (.int .i64 0)]) 1 [(0, w69)] r67.2) fun r70 =>
  B.b (apA (.slice 35 3 32 false) (tm 5) r70.1 r70.2) fun r71 =>
  B.b (bin .add (.int .i64) (tm 58) (.sv (.int .i64 1))) fun w72 =>
  some (.normal, ⟨(upd (upd (upd (upd (upd (upd (upd (upd (upd (upd (upd (upd (upd (upd tm 79 w63) 78 w63) 80 (tm 5)) 81 (tm 13)) 82 w65) 83 w66) 84 r67.1) 85 w68) 86 w69) 87 r70.1) 88 r71.1) 5 r71.1) 102 w72) 58 w72), r71.2⟩)) else
  B.b (bin .eql (.int .i64) (tm 65) (.sv (.int .i64 4))) fun w73 =>
  B.b (asB w73) fun t74 =>
  if t74 then (B.b (nc (tm 13)) fun w75 =>
  B.b (ld 1 false w75 h) fun w76 =>
  B.b (C 127 [(tm 5), w76] h) fun r77 =>
  B.b (bin .add (.int .i64) (tm 58) (.sv (.int .i64 1))) fun w78 =>
  some (.normal, ⟨(upd (upd (upd (upd (upd (upd (upd (upd (upd (upd (upd (upd tm 79 w63) 78 w63) 90 w73) 89 w73) 91 (tm 5)) 92 (tm 13)) 93 w75) 94 w76) 95 r77.1) 5 r77.1) 102 w78) 58 w78), r77.2⟩)) else
  B.b (bin .eql (.int .i64) (tm 65) (.sv (.int .i64 5))) fun w79 =>
  B.b (asB w79) fun t80 =>
  if t80 then (B.b (fa 4 (tm 9)) fun w81 =>
  B.b (ld 1 false w81 h) fun w82 =>
  B.b (C 127 [(tm 5), w82] h) fun r83 =>
  B.b (bin .add (.int .i64) (tm 58) (.sv (.int .i64 1))) fun w84 =>
  some (.normal, ⟨(upd (upd (upd (upd (upd (upd (upd (upd (upd (upd (upd (upd (upd tm 79 w63) 78 w63) 90 w73) 89 w73) 97 w79) 96 w79) 98 (tm 5)) 99 w81) 100 w82) 101 r83.1) 5 r83.1) 102 w84) 58 w84), r83.2⟩)) else
  B.b (bin .add (.int .i64) (tm 58) (.sv (.int .i64 1))) fun w85 =>
  some (.normal, ⟨(upd (upd (upd (upd (upd (upd (upd (upd tm 79 w63) 78 w63) 90 w73) 89 w73) 97 w79) 96 w79) 102 w85) 58 w85), h⟩)

noncomputable def f62_b2 (B : BindS) (C : CallF) (L : LoopF) (tm : Tm) (h : Heap) : Option (Out × St) :=
  B.b (bin .lss (.int .i64) (tm 58) (.sv (.int .i64 3))) fun w46 =>
  B.b (asB w46) fun t47 =>
  if t47 then (B.b (ix (.arr 3 1 false none) (tm 57) (tm 58)) fun w48 =>
  B.b (fa 1 (tm 10)) fun w49 =>
  B.b (ia (.arr 3 1 false (some [.int .i64, .int .i64, .int .i64])) w49 (tm 58)) fun w50 =>
  B.b (ld 1 false w50 h) fun w51 =>
  B.b (bin .eql (.int .i64) w51 (.sv (.int .i64 1))) fun w52 =>
  B.b (asB w52) fun t53 =>
  if t53 then (f62_k1 B C L (upd (upd (upd (upd (upd (upd (upd (upd (upd (upd (upd tm 59 w46) 60 (tm 58)) 61 w48) 12 (tm 58)) 13 w48) 62 (tm 58)) 63 w49) 64 w50) 65 w51) 67 w52) 66 w52) h) else
  B.b (bin .eql (.int .i64) w51 (.sv (.int .i64 2))) fun w86 =>
  f62_k1 B C L (upd (upd (upd (upd (upd (upd (upd (upd (upd (upd (upd (upd (upd tm 59 w46) 60 (tm 58)) 61 w48) 12 (tm 58)) 13 w48) 62 (tm 58)) 63 w49) 64 w50) 65 w51) 67 w52) 66 w52) 68 w86) 66 w86) h) else
  some (.exit 4, ⟨(upd tm 59 w46), h⟩)

noncomputable def f62_k2 (B : BindS) (C : CallF) (L : LoopF) (tm : Tm) (h : Heap) : Option (Out × St) :=
  B.b (bin .add (.int .i64) (tm 40) (.sv (.int .i64 1))) fun w88 =>
  some (.normal, ⟨(upd (upd tm 103 w88) 40 w88), h⟩)

noncomputable def f62_b1 (B : BindS) (C : CallF) (L : LoopF) (tm : Tm) (h : Heap) : Option (Out × St) :=
  B.b (bin .lss (.int .i64) (tm 40) (tm 39)) fun w26 =>
  B.b (asB w26) fun t27 =>
  if t27 then (B.b (ia (.slice 47 5 40 false) (tm 38) (tm 40)) fun w28 =>
  B.b (ld 5 true w28 h) fun w29 =>
  B.b (alloc [.sv (.int .i64 0), .sv (.int .i64 0), .sv (.int .i64 0), .sv (.int .i64 0), .sv (.int .i64 0)] h) fun r30 =>
  B.b (storeA 5 r30.1 w29 r30.2) fun r31 =>
  B.b (fa 0 r30.1) fun w32 =>
  B.b (ld 1 false w32 r31.2) fun w33 =>
  B.b (C 103 [w33] r31.2) fun r34 =>
  B.b (ex 0 r34.1) fun w35 =>
  B.b (ex 1 r34.1) fun w36 =>
  B.b (alloc [.sv (.str []), .sv (.int .i64 0), .sv (.int .i64 0), .sv (.int .i64 0)] r34.2) fun r37 =>
  B.b (storeA 4 r37.1 w35 r37.2) fun r38 =>
  B.b (bdA tab 35 [(0, (.sv (.int .i64 4)))]) fun w39 =>
  B.b (fa 0 r37.1) fun w40 =>
  B.b (ld 1 false w40 r38.2) fun w41 =>
  B.b (bdA tab 35 [(0, (.sv (.int .i64 1))), (1, w41)]) fun w42 =>
  B.b (bsA (.slice 35 3 32 false) (some [.sv (.int .i64 0), .sv (.str []), .sv (.int .i64 0)]) 2 [(0, w39), (1, w42)] r38.2) fun r43 =>
  B.b (apA (.slice 35 3 32 false) (tm 5) r43.1 r43.2) fun r44 =>
  B.b (C 104 [r30.1] r44.2) fun r45 =>
  B.b (L (fun s => f62_b2 B C L s.tm s.h) ⟨(upd (upd (upd (upd (upd (upd (upd (upd (upd (upd (upd (upd (upd (upd (upd (upd (upd (upd (upd (upd (upd (upd tm 41 w26) 42 w28) 43 w29) 9 r30.1) 45 w32) 46 w33) 47 r34.1) 44 r34.1) 48 w35) 49 w36) 10 r37.1) 11 w36) 50 (tm 5)) 51 w39) 52 w40) 53 w41) 54 w42) 55 r43.1) 56 r44.1) 5 r44.1) 57 r45.1) 58 (.sv (.int .i64 0))), r45.2⟩) fun r87 => (outBlock 4 (outBlock 3 (outSeq (f62_k2 B C L) outK))) r87.1 r87.2.tm r87.2.h) else
  some (.exit 2, ⟨(upd tm 41 w26), h⟩)

noncomputable def f62_k3 (B : BindS) (C : CallF) (L : LoopF) (tm : Tm) (h : Heap) : Option (AV × Heap) :=
  B.b (C 24 [(tm 5)] h) fun r90 =>
  B.b (ex 0 r90.1) fun w91 =>
  B.b (ex 1 r90.1) fun w92 =>
  some (.tuple [w91, w92], r90.2)

noncomputable def f62_k0 (B : BindS) (C : CallF) (L : LoopF) (tm : Tm) (h : Heap) : Option (AV × Heap) :=
  B.b (fa 3 (tm 1)) fun w23 =>
  B.b (ld 1 false w23 h) fun w24 =>
  B.b (ln (.slice 47 5 40 false) w24) fun w25 =>
  B.b (L (fun s => f62_b1 B C L s.tm s.h) ⟨(upd (upd (upd (upd tm 37 w23) 38 w24) 39 w25) 40 (.sv (.int .i64 0))), h⟩) fun r89 => (outBlock 2 (outSeq (f62_k3 B C L) (endK B tab [.tmp 2, .tmp 3]))) r89.1 r89.2.tm r89.2.h

noncomputable def f62_sh (B : BindS) (C : CallF) (L : LoopF) (v0 : AV) (h : Heap) : Option (AV × Heap) :=
  B.b (boxA 4 v0 h) fun r1 =>
  B.b (ld 4 true r1.1 r1.2) fun w2 =>
  B.b (C 37 [w2] r1.2) fun r3 =>
  B.b (bin .neq (.int .i64) r3.1 (.sv (.int .i64 0))) fun w4 =>
  B.b (asB w4) fun t5 =>
  if t5 then (some (.tuple [(.sv (.str [])), r3.1], r3.2)) else
  B.b (bdA tab 35 [(0, (.sv (.int .i64 1))), (1, (.sv (.str [99, 111, 100, 101])))]) fun w6 =>
  B.b (bsA (.slice 35 3 32 false) (some [.sv (.int .i64 0), .sv (.str []), .sv (.int .i64 0)]) 1 [(0, w6)] r3.2) fun r7 =>
  B.b (fa 0 r1.1) fun w8 =>
  B.b (ld 1 false w8 r7.2) fun w9 =>
  B.b (fa 1 r1.1) fun w10 =>
  B.b (ld 1 false w10 r7.2) fun w11 =>
  B.b (fa 2 r1.1) fun w12 =>
  B.b (ld 1 false w12 r7.2) fun w13 =>
  B.b (bsA (.slice 3 1 8 false) (some [.sv (.int .i64 0)]) 3 [(0, w9), (1, w11), (2, w13)] r7.2) fun r14 =>
  B.b (ln (.slice 3 1 8 false) r14.1) fun w15 =>
  B.b (L (fun s => f62_b0 B C L s.tm s.h) ⟨(upd (upd (upd (upd (upd (upd (upd (upd (upd (upd (upd (upd (upd (upd (upd (upd (upd (upd (upd (upd (init [v0]) 1 r1.1) 2 (.sv (.str []))) 3 (.sv (.int .i64 0))) 14 w2) 15 r3.1) 4 r3.1) 16 r3.1) 17 w4) 19 w6) 20 r7.1) 5 r7.1) 21 w8) 22 w9) 23 w10) 24 w11) 25 w12) 26 w13) 27 r14.1) 28 w15) 29 (.sv (.int .i64 0))), r14.2⟩) fun r22 => (outBlock 0 (outSeq (f62_k0 B C L) (endK B tab [.tmp 2, .tmp 3]))) r22.1 r22.2.tm r22.2.h
theorem f62_eq (B : BindS) (C : CallF) (L : LoopF) (v0 : AV) (h : Heap) : evFunc B tab shared C L noD Try.f62 [v0] h = f62_sh B C L v0 h := by kernel_rfl

/-! purfle/code.number -/
noncomputable def f127_k0 (B : BindS) (C : CallF) (L : LoopF) (tm : Tm) (h : Heap) : Option (AV × Heap) :=
  B.b (C 128 [(tm 1)] h) fun r7 =>
  B.b (bdA tab 35 [(0, (.sv (.int .i64 2))), (1, r7.1), (2, (tm 1))]) fun w8 =>
  B.b (bsA (.slice 35 3 32 false) (some [.sv (.int .i64 0), .sv (.str []), .sv (.int .i64 0)]) 1 [(0, w8)] r7.2) fun r9 =>
  B.b (apA (.slice 35 3 32 false) (tm 0) r9.1 r9.2) fun r10 =>
  some (r10.1, r10.2)

noncomputable def f127_sh (B : BindS) (C : CallF) (L : LoopF) (v0 : AV) (v1 : AV) (h : Heap) : Option (AV × Heap) :=
  B.b (bin .lss (.int .i64) v1 (.sv (.int .i64 0))) fun w1 =>
  B.b (asB w1) fun t2 =>
  if t2 then (B.b (bdA tab 35 [(0, (.sv (.int .i64 3))), (1, (.sv (.str [45])))]) fun w3 =>
  B.b (bsA (.slice 35 3 32 false) (some [.sv (.int .i64 0), .sv (.str []), .sv (.int .i64 0)]) 1 [(0, w3)] h) fun r4 =>
  B.b (apA (.slice 35 3 32 false) v0 r4.1 r4.2) fun r5 =>
  B.b (un .neg v1) fun w6 =>
  f127_k0 B C L (upd (upd (upd (upd (upd (upd (upd (upd (upd (upd (upd (init [v0, v1]) 4 .nil) 5 v1) 6 w1) 7 v0) 8 w3) 9 r4.1) 10 r5.1) 11 v1) 12 w6) 0 r5.1) 1 w6) r5.2) else
  f127_k0 B C L (upd (upd (upd (init [v0, v1]) 4 .nil) 5 v1) 6 w1) h
theorem f127_eq (B : BindS) (C : CallF) (L : LoopF) (v0 : AV) (v1 : AV) (h : Heap) : evFunc B tab shared C L noD Try.f127 [v0, v1] h = f127_sh B C L v0 v1 h := by kernel_rfl

end Go.Proofs.Ytmhamnnfcmkcfaa

/- slices.IndexFunc at some types: printed by wip/tools/genidx.py. -/
set_option maxRecDepth 100000
namespace Go.Proofs.Ytmhamnnfcmkcfaa
open Go.RowKit

section
variable {J : Option (List AV → Option AV)}

theorem l145 {xs : List (List SV)} (hx : ∀ x ∈ xs, x.length = 4) (hlen : xs.length ≤ 9223372036854775806) {f : Nat} {first caps : List AV} {p : List SV → Bool} {Good : Heap → Prop}
    (hp : ∀ x ∈ xs, ∀ h, Good h → Ok (Cw J f (first ++ [pack true (x.map .sv)] ++ caps) h) fun r => r.1 = Bo (p x) ∧ Good r.2) {h : Heap} (hg : Good h) :
    Ok (f145_sh optB (Cw J) loopW (.sv (.slice xs)) (.func f first caps) h) fun r => r.1 = I (idxP xs p) ∧ Good r.2 := by
  simp -implicitDefEqProofs only [f145_sh, optB_b, ln_slice, Option.bind_some]
  refine loop_ok (fun n st => ∃ i : Nat, st.tm 0 = .sv (.slice xs) ∧ st.tm 1 = .func f first caps ∧ st.tm 7 = I xs.length ∧ st.tm 8 = I i ∧ i ≤ xs.length ∧ n = xs.length - i ∧ Good st.h ∧ ∀ x ∈ xs.take i, p x = false)
    (fun r => Good r.2.h ∧ ((r.1 = .exit 0 ∧ idxP xs p = -1) ∨ (r.1 = .ret ∧ r.2.tm 4 = I (idxP xs p)))) (n := xs.length) ⟨0, by simp [upd], by simp [upd], by simp [upd], by simp [upd], by omega, by omega, hg, by simp⟩ ?_ ?_
  · rintro n ⟨tm, h⟩ ⟨i, e0, e1, e7, e8, hi, rfl, hg, hpre⟩
    simp only at e0 e1 e7 e8 hg ⊢
    by_cases hlt : i < xs.length
    · have hlt' : (i : Int) < xs.length := by omega
      have hget : xs[i]? = some xs[i] := List.getElem?_eq_getElem hlt
      have hxi := hx xs[i] (List.getElem_mem hlt)
      have hia : ia (.slice 137 4 40 false) (.sv (.slice xs)) (I i) = some (.ref xs[i]) := ia_sv rfl hget hxi
      have hld : ld 4 true (.ref xs[i]) h = some (pack true (xs[i].map .sv)) := by rw [ld_ref (by omega), List.take_of_length_le (by omega)]
      have w1 : IntKind.i64.wrap ((i : Int) + 1) = ((i + 1 : Nat) : Int) := by rw [wrapI (by omega) (by omega)]; omega
      simp -implicitDefEqProofs only [f145_b0, optB_b, e0, e1, e7, e8, hlt', bin_lss, Option.bind_some, decide_true, asB_bo, if_true, hia, hld, callV_func]
      refine Ok.bind (hp xs[i] (List.getElem_mem hlt) h hg) ?_
      rintro ⟨b, h'⟩ ⟨hb, hg'⟩
      simp only at hb hg'
      subst hb
      cases hpi : p xs[i] with
      | true =>
        simp -implicitDefEqProofs only [asB_bo, Option.bind_some, if_true, ok_some]
        refine nxt_r ⟨hg', .inr ⟨rfl, ?_⟩⟩
        rw [idxP_some hlt hpi hpre]
        simp [upd]
      | false =>
        simp -implicitDefEqProofs only [asB_bo, Option.bind_some, Bool.false_eq_true, if_false, bin_add, w1, ok_some]
        refine nxt_n (xs.length - (i + 1)) (by omega) ⟨i + 1, ?_, ?_, ?_, ?_, by omega, rfl, hg', ?_⟩
        · simp [upd, e0]
        · simp [upd, e1]
        · simp [upd, e7]
        · simp [upd]
        · intro x hxm
          rw [take_succ_get hlt] at hxm
          rcases List.mem_append.1 hxm with q | q
          · exact hpre x q
          · simp at q; subst q; exact hpi
    · have hlt' : ¬ (i : Int) < xs.length := by omega
      simp -implicitDefEqProofs only [f145_b0, optB_b, e7, e8, hlt', bin_lss, Option.bind_some, decide_false, asB_bo, Bool.false_eq_true, if_false, ok_some]
      refine nxt_e ⟨hg, .inl ⟨rfl, idxP_none fun x hxm => hpre x ?_⟩⟩
      rw [List.take_of_length_le (by omega)]
      exact hxm
  · rintro ⟨o, st⟩ ⟨hg, hp2⟩
    simp only at hg hp2 ⊢
    rcases hp2 with ⟨rfl, h2⟩ | ⟨rfl, h2⟩
    · simp -implicitDefEqProofs only [outBlock_exit, if_true, outSeq_normal, f145_k0, ok_some]
      exact ⟨by rw [h2], hg⟩
    · simp -implicitDefEqProofs only [outBlock_ret, outSeq_ret, endK_ret, resK_tmp, resK_nil, tup_one, ok_some]
      exact ⟨h2, hg⟩

theorem l153 {xs : List (List SV)} (hx : ∀ x ∈ xs, x.length = 5) (hlen : xs.length ≤ 9223372036854775806) {f : Nat} {first caps : List AV} {p : List SV → Bool} {Good : Heap → Prop}
    (hp : ∀ x ∈ xs, ∀ h, Good h → Ok (Cw J f (first ++ [pack true (x.map .sv)] ++ caps) h) fun r => r.1 = Bo (p x) ∧ Good r.2) {h : Heap} (hg : Good h) :
    Ok (f153_sh optB (Cw J) loopW (.sv (.slice xs)) (.func f first caps) h) fun r => r.1 = I (idxP xs p) ∧ Good r.2 := by
  simp -implicitDefEqProofs only [f153_sh, optB_b, ln_slice, Option.bind_some]
  refine loop_ok (fun n st => ∃ i : Nat, st.tm 0 = .sv (.slice xs) ∧ st.tm 1 = .func f first caps ∧ st.tm 7 = I xs.length ∧ st.tm 8 = I i ∧ i ≤ xs.length ∧ n = xs.length - i ∧ Good st.h ∧ ∀ x ∈ xs.take i, p x = false)
    (fun r => Good r.2.h ∧ ((r.1 = .exit 0 ∧ idxP xs p = -1) ∨ (r.1 = .ret ∧ r.2.tm 4 = I (idxP xs p)))) (n := xs.length) ⟨0, by simp [upd], by simp [upd], by simp [upd], by simp [upd], by omega, by omega, hg, by simp⟩ ?_ ?_
  · rintro n ⟨tm, h⟩ ⟨i, e0, e1, e7, e8, hi, rfl, hg, hpre⟩
    simp only at e0 e1 e7 e8 hg ⊢
    by_cases hlt : i < xs.length
    · have hlt' : (i : Int) < xs.length := by omega
      have hget : xs[i]? = some xs[i] := List.getElem?_eq_getElem hlt
      have hxi := hx xs[i] (List.getElem_mem hlt)
      have hia : ia (.slice 47 5 40 false) (.sv (.slice xs)) (I i) = some (.ref xs[i]) := ia_sv rfl hget hxi
      have hld : ld 5 true (.ref xs[i]) h = some (pack true (xs[i].map .sv)) := by rw [ld_ref (by omega), List.take_of_length_le (by omega)]
      have w1 : IntKind.i64.wrap ((i : Int) + 1) = ((i + 1 : Nat) : Int) := by rw [wrapI (by omega) (by omega)]; omega
      simp -implicitDefEqProofs only [f153_b0, optB_b, e0, e1, e7, e8, hlt', bin_lss, Option.bind_some, decide_true, asB_bo, if_true, hia, hld, callV_func]
      refine Ok.bind (hp xs[i] (List.getElem_mem hlt) h hg) ?_
      rintro ⟨b, h'⟩ ⟨hb, hg'⟩
      simp only at hb hg'
      subst hb
      cases hpi : p xs[i] with
      | true =>
        simp -implicitDefEqProofs only [asB_bo, Option.bind_some, if_true, ok_some]
        refine nxt_r ⟨hg', .inr ⟨rfl, ?_⟩⟩
        rw [idxP_some hlt hpi hpre]
        simp [upd]
      | false =>
        simp -implicitDefEqProofs only [asB_bo, Option.bind_some, Bool.false_eq_true, if_false, bin_add, w1, ok_some]
        refine nxt_n (xs.length - (i + 1)) (by omega) ⟨i + 1, ?_, ?_, ?_, ?_, by omega, rfl, hg', ?_⟩
        · simp [upd, e0]
        · simp [upd, e1]
        · simp [upd, e7]
        · simp [upd]
        · intro x hxm
          rw [take_succ_get hlt] at hxm
          rcases List.mem_append.1 hxm with q | q
          · exact hpre x q
          · simp at q; subst q; exact hpi
    · have hlt' : ¬ (i : Int) < xs.length := by omega
      simp -implicitDefEqProofs only [f153_b0, optB_b, e7, e8, hlt', bin_lss, Option.bind_some, decide_false, asB_bo, Bool.false_eq_true, if_false, ok_some]
      refine nxt_e ⟨hg, .inl ⟨rfl, idxP_none fun x hxm => hpre x ?_⟩⟩
      rw [List.take_of_length_le (by omega)]
      exact hxm
  · rintro ⟨o, st⟩ ⟨hg, hp2⟩
    simp only at hg hp2 ⊢
    rcases hp2 with ⟨rfl, h2⟩ | ⟨rfl, h2⟩
    · simp -implicitDefEqProofs only [outBlock_exit, if_true, outSeq_normal, f153_k0, ok_some]
      exact ⟨by rw [h2], hg⟩
    · simp -implicitDefEqProofs only [outBlock_ret, outSeq_ret, endK_ret, resK_tmp, resK_nil, tup_one, ok_some]
      exact ⟨h2, hg⟩

end
end Go.Proofs.Ytmhamnnfcmkcfaa

/- Code, plainly. -/
namespace Go.Proofs.Ytmhamnnfcmkcfaa

structure Ins where
  op : Int
  a : Int
  b : Int
  c : Int
  n : Int
  deriving DecidableEq, Inhabited

structure Cod where
  regs : Int
  arrs : Int
  inn : Int
  l : List Ins
  deriving DecidableEq, Inhabited

def Ins.sv (x : Ins) : List SV := [.int .i64 x.op, .int .i64 x.a, .int .i64 x.b, .int .i64 x.c, .int .i64 x.n]
def inssSV (l : List Ins) : SV := .slice (l.map Ins.sv)
def Cod.sv (c : Cod) : List SV := [.int .i64 c.regs, .int .i64 c.arrs, .int .i64 c.inn, inssSV c.l]

/-- Words and kinds: 1 a register that is set, 2 one that is asked for, 3 an array, 4 a place, 5 a number. -/
def tbl : List (List UInt8 × Int × Int × Int) :=
  [([104, 97, 108, 116], 0, 0, 0), ([115, 101, 116], 1, 5, 0), ([109, 111, 118, 101], 1, 2, 0), ([97, 100, 100], 1, 2, 2), ([115, 117, 98], 1, 2, 2), ([109, 117, 108], 1, 2, 2), ([108, 111, 97, 100], 1, 3, 2),
   ([115, 116, 111, 114, 101], 3, 2, 2), ([108, 101, 110], 1, 3, 0), ([112, 117, 115, 104], 3, 2, 0), ([106, 117, 109, 112], 4, 0, 0), ([108, 101, 115, 115], 2, 2, 4), ([115, 97, 109, 101], 2, 2, 4)]

def inR (op : Int) : Bool := decide (0 ≤ op ∧ op < 13)
def shp (op : Int) : List UInt8 × Int × Int × Int := if inR op then (tbl[op.toNat]?).getD ([], 0, 0, 0) else ([], 0, 0, 0)
def kd0 (op : Int) : Int := (shp op).2.1
def kd1 (op : Int) : Int := (shp op).2.2.1
def kd2 (op : Int) : Int := (shp op).2.2.2
def rowS (t : List UInt8 × Int × Int × Int) : List SV := [.str t.1, .int .i64 t.2.1, .int .i64 t.2.2.1, .int .i64 t.2.2.2]

def limS (c : Cod) (k : Int) : Int := if k = 1 ∨ k = 2 then c.regs else if k = 3 then c.arrs else if k = 4 then c.l.length else 1
def fitS (c : Cod) (k f : Int) : Bool := decide (0 ≤ f) && decide (f < limS c k)
def mayS (x : Ins) (c : Cod) : Bool :=
  (inR x.op && fitS c (kd0 x.op) x.a && fitS c (kd1 x.op) x.b && fitS c (kd2 x.op) x.c) &&
  (if kd1 x.op = 5 then decide (-1000000000000000000 < x.n) && decide (x.n < 1000000000000000000) else decide (x.n = 0))

def headOk (c : Cod) : Bool := decide (0 ≤ c.regs) && decide (c.regs ≤ 128) && decide (0 ≤ c.arrs) && decide (c.arrs ≤ 128) && decide (0 ≤ c.inn) && decide (c.inn ≤ c.arrs)
def lastOp (c : Cod) : Int := (c.l.getLast?.map (·.op)).getD 0
def checkOk (c : Cod) : Bool := headOk c && decide (c.l.length ≠ 0) && decide (c.l.length ≤ 4096) && c.l.all (mayS · c) && (decide (lastOp c = 0) || decide (lastOp c = 10))
def checkC (c : Cod) : Int := if checkOk c then 0 else 1

def readsS (x : Ins) : List Int := (if kd0 x.op = 2 then [x.a] else []) ++ (if kd1 x.op = 2 then [x.b] else []) ++ (if kd2 x.op = 2 then [x.c] else [])
def writesS (x : Ins) : Int × Bool := if kd0 x.op = 1 then (x.a, true) else (0, false)
def nextS (x : Ins) (i : Int) : List Int :=
  if inR x.op = false ∨ x.op = 0 then [] else if x.op = 10 then [x.a] else if x.op = 11 ∨ x.op = 12 then [IntKind.i64.wrap (i + 1), x.c] else [IntKind.i64.wrap (i + 1)]

theorem kd_range (op : Int) : (0 ≤ kd0 op ∧ kd0 op ≤ 5) ∧ (0 ≤ kd1 op ∧ kd1 op ≤ 5) ∧ (0 ≤ kd2 op ∧ kd2 op ≤ 5) := by
  unfold kd0 kd1 kd2 shp
  split
  · rename_i h
    simp only [inR, decide_eq_true_eq] at h
    obtain ⟨n, rfl⟩ : ∃ n : Nat, op = n := ⟨op.toNat, by omega⟩
    have hn : n < 13 := by omega
    have := List.all_eq_true.1 (show (List.range 13).all (fun n => let t := (tbl[n]?).getD ([], 0, 0, 0); decide (0 ≤ t.2.1 ∧ t.2.1 ≤ 5) && decide (0 ≤ t.2.2.1 ∧ t.2.2.1 ≤ 5) && decide (0 ≤ t.2.2.2 ∧ t.2.2.2 ≤ 5)) = true by decide) n (List.mem_range.2 hn)
    simp only [Bool.and_eq_true, decide_eq_true_eq] at this
    simp only [Int.toNat_natCast]
    exact ⟨this.1.1, this.1.2, this.2⟩
  · simp

/-! ### Reading -/

def noTok : Tok := ⟨0, [], 0⟩

/-- A token of a kind: it; the rest; whether anything is wrong. -/
def takeS (k : Int) (l : List Tok) (bad : Bool) : Tok × List Tok × Bool :=
  match l with
  | [] => (noTok, l, true)
  | t :: r => if bad then (noTok, l, true) else if t.kind = k then (t, r, bad) else (noTok, l, true)

def cutPre (s p : List UInt8) : List UInt8 × Bool := if p.length ≤ s.length ∧ s.take p.length = p then (s.drop p.length, true) else (s, false)

def behindS (letter : List UInt8) (l : List Tok) (bad : Bool) : Int × List Tok × Bool :=
  let t := takeS 1 l bad
  let s := cutPre t.1.s letter
  ((numS s.1).getD 0, t.2.1, t.2.2 || (!s.2 || (numS s.1).isNone))

def signedS (l : List Tok) (bad : Bool) : Int × List Tok × Bool :=
  match l with
  | [] => let t := takeS 2 l bad; (t.1.n, t.2)
  | x :: _ =>
    if x.s = [45] then
      let t := takeS 3 l bad
      let u := takeS 2 t.2.1 t.2.2
      (IntKind.i64.wrap (0 - u.1.n), u.2.1, u.2.2 || decide (u.1.n = 0))
    else let t := takeS 2 l bad; (t.1.n, t.2)

/-- What stands behind an instruction's word: one part of a kind. -/
def partS (k : Int) (l : List Tok) (bad : Bool) : Int × List Tok × Bool :=
  if k = 1 ∨ k = 2 then behindS [114] l bad else if k = 3 then behindS [97] l bad else if k = 4 then (let t := takeS 2 l bad; (t.1.n, t.2)) else if k = 5 then signedS l bad else (0, l, bad)

def opOf (w : List UInt8) : Int := idxP tbl fun t => t.1 == w

def kAt (op : Int) (i : Nat) : Int := if i = 0 then kd0 op else if i = 1 then kd1 op else kd2 op

def putP (i : Nat) (k v : Int) (x : Ins) : Ins :=
  if k = 5 then { x with n := v } else if k = 0 then x else if i = 0 then { x with a := v } else if i = 1 then { x with b := v } else { x with c := v }

def stepI (op : Int) (i : Nat) (s : Ins × List Tok × Bool) : Ins × List Tok × Bool :=
  (putP i (kAt op i) (partS (kAt op i) s.2.1 s.2.2).1 s.1, (partS (kAt op i) s.2.1 s.2.2).2)

def insS (l : List Tok) (bad : Bool) : Ins × List Tok × Bool :=
  let t := takeS 1 l bad
  let op := opOf t.1.s
  stepI op 2 (stepI op 1 (stepI op 0 (⟨op, 0, 0, 0, 0⟩, t.2.1, t.2.2 || !inR op)))

def headS (l : List Tok) : (Int × Int × Int) × List Tok × Bool :=
  let t := takeS 1 l false
  let a := takeS 2 t.2.1 (decide (t.1.s ≠ [99, 111, 100, 101]))
  let b := takeS 2 a.2.1 a.2.2
  let c := takeS 2 b.2.1 b.2.2
  ((a.1.n, b.1.n, c.1.n), c.2)

def noCod : Cod := ⟨0, 0, 0, []⟩

/-- The lines behind the first one, read: the place of the first wrong one, or the instructions. -/
def bodyS : List (List Tok) → Nat → List Ins → Except Nat (List Ins)
  | [], _, acc => .ok acc
  | l :: ls, i, acc =>
    let x := insS l false
    if x.2.2 || decide (0 < x.2.1.length) then .error i else bodyS ls (i + 1) (acc ++ [x.1])

def parseS (s : List UInt8) : Cod × Int × Int :=
  let c := cutS s
  if c.2.2 ≠ 0 then (noCod, c.2.1, c.2.2) else
  match linesS c.1 with
  | [] => (noCod, 0, 6)
  | l :: ls =>
    let h := headS l
    if h.2.2 || decide (0 < h.2.1.length) then (noCod, 0, 6) else
    match bodyS ls 1 [] with
    | .error i => (noCod, i, 6)
    | .ok xs =>
      let d : Cod := ⟨h.1.1, h.1.2.1, h.1.2.2, xs⟩
      if checkC d ≠ 0 then (noCod, 0, checkC d) else (d, ls.length + 1, 0)

end Go.Proofs.Ytmhamnnfcmkcfaa

/- Slices that a function grows: rows of settled cells in an object of its own. -/
namespace Go.Proofs.Ytmhamnnfcmkcfaa
open Go.RowKit

def IsRow (h : Heap) (esz : Nat) (v : AV) (rows : List (List SV)) : Prop :=
  (∀ r ∈ rows, r.length = esz) ∧ ((v = .nil ∧ rows = []) ∨ ∃ id, v = .own id 0 rows.length ∧ h[id]? = some (.cells esz (rows.flatten.map .sv) true))

/-- All objects stand but the one that a slice lies over. -/
def Keeps (v : AV) (h h' : Heap) : Prop := ∀ i e, h[i]? = some e → (∀ o l, v ≠ .own i o l) → h'[i]? = some e

theorem Keeps.refl (v : AV) (h : Heap) : Keeps v h h := fun _ _ h _ => h

theorem IsRow.nil (h : Heap) (esz : Nat) : IsRow h esz .nil [] := ⟨fun r hr => by simp at hr, .inl ⟨rfl, rfl⟩⟩

theorem IsRow.app {h : Heap} {esz : Nat} {v : AV} {rows : List (List SV)} (hr : IsRow h esz v rows) (e : Ent) : IsRow (h ++ [e]) esz v rows := by
  obtain ⟨h1, h2⟩ := hr
  refine ⟨h1, ?_⟩
  rcases h2 with h2 | ⟨id, rfl, h3⟩
  · exact .inl h2
  · exact .inr ⟨id, rfl, by rw [List.getElem?_append_left (List.getElem?_eq_some_iff.1 h3).1]; exact h3⟩

theorem IsRow.keep {h h' : Heap} {esz : Nat} {v u : AV} {rows : List (List SV)} (hr : IsRow h esz v rows) (hk : Keeps u h h') (hn : ∀ i o l o' l', v = .own i o l → u ≠ .own i o' l') : IsRow h' esz v rows := by
  obtain ⟨h1, h2⟩ := hr
  refine ⟨h1, ?_⟩
  rcases h2 with h2 | ⟨id, rfl, h3⟩
  · exact .inl h2
  · exact .inr ⟨id, rfl, hk _ _ h3 fun o l => hn _ _ _ _ _ rfl⟩

theorem IsRow.len {h : Heap} {esz : Nat} {v : AV} {rows : List (List SV)} (hr : IsRow h esz v rows) (e b : Nat) (y : Bool) : ln (.slice e esz b y) v = some (I rows.length) := by
  rcases hr.2 with ⟨rfl, rfl⟩ | ⟨id, rfl, -⟩ <;> rfl

theorem frz_row {h : Heap} {esz : Nat} {v : AV} {rows : List (List SV)} (hr : IsRow h esz v rows) (he : 0 < esz) : ∃ ids, frzV frzDepth h v = some (.sv (.slice rows), ids) := by
  rcases hr.2 with ⟨rfl, rfl⟩ | ⟨id, rfl, h3⟩
  · exact ⟨_, rfl⟩
  · have := frz_own (n := 5) he hr.1 h3
    exact ⟨[id], by simp only [frzV, frzDepth, this, Option.bind_some]⟩

theorem bs_one {e esz b : Nat} {y : Bool} {z : List AV} {x : AV} {c : List SV} (hz : z.length = esz) (hzc : z.all cell1 = true) (he : esz ≤ 1000) (hx : cellsOf x = some (c.map .sv)) (hc : c.length = esz) (h : Heap) :
    bsA (.slice e esz b y) (some z) 1 [(0, x)] h = some (.own h.length 0 1, h ++ [.cells esz (c.map .sv) true]) := by
  have hl : (c.map AV.sv).length = esz := by simp [hc]
  have hs : splice z 0 (c.map .sv) = c.map .sv := by
    unfold splice
    rw [List.take_zero, List.nil_append, Nat.zero_add, hl, List.drop_of_length_le (by omega), List.append_nil]
  simp only [bsA]
  rw [if_pos ⟨by omega, hz, hzc⟩]
  simp [fillA, hx, hl, hz, hs]

/-- One more row. -/
theorem ap_one {h : Heap} {e esz b : Nat} {y : Bool} {v : AV} {rows : List (List SV)} {c : List SV} {id2 : Nat} {wr : Bool} (hr : IsRow h esz v rows) (hid : h[id2]? = some (.cells esz (c.map .sv) wr)) (hc : c.length = esz) (he : 0 < esz) (hb : b ≤ 120) (hlim : rows.length < 1000000000000) :
    ∃ v' h', apA (.slice e esz b y) v (.own id2 0 1) h = some (v', h') ∧ IsRow h' esz v' (rows ++ [c]) ∧ Keeps v h h' ∧ h.length < h'.length ∧ (∃ id, v' = .own id 0 (rows.length + 1) ∧ h.length ≤ id) := by
  have hro : rowsOf esz (.own id2 0 1) h = some (1, c.map .sv) := by
    simp only [rowsOf, hid]
    rw [if_pos trivial, takeN_all (by simp [hc])]
    rfl
  have hall : ∀ r ∈ rows ++ [c], r.length = esz := by
    intro r hr'
    rcases List.mem_append.1 hr' with q | q
    · exact hr.1 r q
    · simp at q; subst q; exact hc
  rcases hr.2 with ⟨rfl, rfl⟩ | ⟨id, rfl, h3⟩
  · refine ⟨.own h.length 0 1, h ++ [.cells esz (c.map .sv) true], ?_, ⟨hall, .inr ⟨h.length, by simp, by simp⟩⟩, ?_, by simp, h.length, by simp, Nat.le_refl _⟩
    · simp only [apA, hro, Option.bind_some]
      rw [if_neg (by decide), if_pos ⟨by decide, hb, he⟩]
    · intro i x hx _
      rw [List.getElem?_append_left (List.getElem?_eq_some_iff.1 hx).1]; exact hx
  · have hlen : (rows.flatten.map AV.sv).length = rows.length * esz := by rw [List.length_map, flatten_len rows hr.1]
    refine ⟨.own h.length 0 (rows.length + 1), h.set id .gone ++ [.cells esz (rows.flatten.map .sv ++ c.map .sv) true], ?_, ⟨hall, .inr ⟨h.length, by simp, by simp⟩⟩, ?_, by simp, h.length, rfl, Nat.le_refl _⟩
    · simp only [apA, hro, Option.bind_some, h3]
      rw [if_neg (by decide), if_pos ⟨trivial, by omega, hb, he⟩, takeN_all hlen]
      rfl
    · intro i x hx hn
      have hne : id ≠ i := fun q => hn 0 rows.length (by rw [q])
      rw [List.getElem?_append_left (by simpa using (List.getElem?_eq_some_iff.1 hx).1), List.getElem?_set_ne hne]
      exact hx

/-- A slice of one element, appended. -/
theorem push_one {h : Heap} {e esz b : Nat} {y : Bool} {z : List AV} {v x : AV} {rows : List (List SV)} {c : List SV} (hr : IsRow h esz v rows) (hz : z.length = esz) (hzc : z.all cell1 = true) (he2 : esz ≤ 1000) (hx : cellsOf x = some (c.map .sv)) (hc : c.length = esz) (he : 0 < esz) (hb : b ≤ 120)
    (hlim : rows.length < 1000000000000) :
    ∃ v' h', ((bsA (.slice e esz b y) (some z) 1 [(0, x)] h).bind fun r => apA (.slice e esz b y) v r.1 r.2) = some (v', h') ∧ bsA (.slice e esz b y) (some z) 1 [(0, x)] h = some (.own h.length 0 1, h ++ [.cells esz (c.map .sv) true]) ∧
      apA (.slice e esz b y) v (.own h.length 0 1) (h ++ [.cells esz (c.map .sv) true]) = some (v', h') ∧ IsRow h' esz v' (rows ++ [c]) ∧ Keeps v h h' ∧ h.length < h'.length ∧ (∃ id, v' = .own id 0 (rows.length + 1) ∧ h.length ≤ id) := by
  have h1 := bs_one (e := e) (b := b) (y := y) hz hzc he2 hx hc h
  obtain ⟨v', h', h2, h3, h4, h5, id, h6, h7⟩ := ap_one (e := e) (y := y) (hr.app (.cells esz (c.map .sv) true)) (id2 := h.length) (wr := true) (by simp) hc he hb hlim
  simp only [List.length_append, List.length_cons, List.length_nil] at h5 h7
  refine ⟨v', h', by rw [h1]; exact h2, h1, h2, h3, ?_, by omega, id, h6, by omega⟩
  intro i x hx hn
  exact h4 i x (by rw [List.getElem?_append_left (List.getElem?_eq_some_iff.1 hx).1]; exact hx) hn

/-! ### Cuts -/

theorem bound_n {y d : Nat} {i : Nat} (h : i ≤ y) : bound y d (some (I i)) = some i := by
  simp only [bound]
  rw [if_pos ⟨by omega, by omega⟩]
  simp

theorem bound_none (y d : Nat) : bound y d none = some d := rfl

theorem sl_str2 {s : List UInt8} {i j : Nat} (h1 : i ≤ j) (h2 : j ≤ s.length) (h : Heap) : sl .str (Sr s) (some (I i)) (some (I j)) h = some (Sr ((s.take j).drop i)) := by
  simp only [sl, bound_n h2, bound_n h1, Option.bind_some]
theorem sl_str1 {s : List UInt8} {i : Nat} (h1 : i ≤ s.length) (h : Heap) : sl .str (Sr s) (some (I i)) none h = some (Sr (s.drop i)) := by
  simp only [sl, bound, Option.bind_some]
  rw [if_pos ⟨by omega, by omega⟩]
  simp
theorem sl_str0 {s : List UInt8} {j : Nat} (h2 : j ≤ s.length) (h : Heap) : sl .str (Sr s) none (some (I j)) h = some (Sr (s.take j)) := by
  simp only [sl, bound_n h2, Option.bind_some, bound_none, List.drop_zero]

theorem sl_sv1 {e esz b : Nat} {y : Bool} {xs : List (List SV)} (hs : ∀ x ∈ xs, x.length = esz) {i : Nat} (h1 : i ≤ xs.length) (h : Heap) : sl (.slice e esz b y) (.sv (.slice xs)) (some (I i)) none h = some (.sv (.slice (xs.drop i))) := by
  have : xs.all (fun c => c.length == esz) = true := List.all_eq_true.2 fun c hc => by simpa using hs c hc
  simp only [sl, this, if_true, bound, Option.bind_some]
  rw [if_pos ⟨by omega, by omega⟩]
  simp
theorem sl_sv0 {e esz b : Nat} {y : Bool} {xs : List (List SV)} (hs : ∀ x ∈ xs, x.length = esz) {j : Nat} (h1 : j ≤ xs.length) (h : Heap) : sl (.slice e esz b y) (.sv (.slice xs)) none (some (I j)) h = some (.sv (.slice (xs.take j))) := by
  have : xs.all (fun c => c.length == esz) = true := List.all_eq_true.2 fun c hc => by simpa using hs c hc
  simp only [sl, this, if_true, bound_n h1, Option.bind_some, bound_none, List.drop_zero]

end Go.Proofs.Ytmhamnnfcmkcfaa

/- Slices that a function grows, of any cells. -/
namespace Go.Proofs.Ytmhamnnfcmkcfaa
open Go.RowKit

def IsRowA (h : Heap) (esz : Nat) (v : AV) (rows : List (List AV)) : Prop :=
  (∀ r ∈ rows, r.length = esz ∧ r.all cell1 = true) ∧ ((v = .nil ∧ rows = []) ∨ ∃ id, v = .own id 0 rows.length ∧ h[id]? = some (.cells esz rows.flatten true))

theorem IsRowA.nil (h : Heap) (esz : Nat) : IsRowA h esz .nil [] := ⟨fun r hr => by simp at hr, .inl ⟨rfl, rfl⟩⟩

theorem IsRowA.keep {h h' : Heap} {esz : Nat} {v u : AV} {rows : List (List AV)} (hr : IsRowA h esz v rows) (hk : Keeps u h h') (hn : ∀ i o l o' l', v = .own i o l → u ≠ .own i o' l') : IsRowA h' esz v rows := by
  obtain ⟨h1, h2⟩ := hr
  refine ⟨h1, ?_⟩
  rcases h2 with h2 | ⟨id, rfl, h3⟩
  · exact .inl h2
  · exact .inr ⟨id, rfl, hk _ _ h3 fun o l => hn _ _ _ _ _ rfl⟩

theorem IsRowA.app {h : Heap} {esz : Nat} {v : AV} {rows : List (List AV)} (hr : IsRowA h esz v rows) (e : Ent) : IsRowA (h ++ [e]) esz v rows := by
  obtain ⟨h1, h2⟩ := hr
  refine ⟨h1, ?_⟩
  rcases h2 with h2 | ⟨id, rfl, h3⟩
  · exact .inl h2
  · exact .inr ⟨id, rfl, by rw [List.getElem?_append_left (List.getElem?_eq_some_iff.1 h3).1]; exact h3⟩

theorem IsRowA.len {h : Heap} {esz : Nat} {v : AV} {rows : List (List AV)} (hr : IsRowA h esz v rows) (e b : Nat) (y : Bool) : ln (.slice e esz b y) v = some (I rows.length) := by
  rcases hr.2 with ⟨rfl, rfl⟩ | ⟨id, rfl, -⟩ <;> rfl

theorem bs_oneA {e esz b : Nat} {y : Bool} {z : List AV} {x : AV} {c : List AV} (hz : z.length = esz) (hzc : z.all cell1 = true) (he : esz ≤ 1000) (hx : cellsOf x = some c) (hc : c.length = esz) (h : Heap) :
    bsA (.slice e esz b y) (some z) 1 [(0, x)] h = some (.own h.length 0 1, h ++ [.cells esz c true]) := by
  have hs : splice z 0 c = c := by
    unfold splice
    rw [List.take_zero, List.nil_append, Nat.zero_add, hc, List.drop_of_length_le (by omega), List.append_nil]
  simp only [bsA]
  rw [if_pos ⟨by omega, hz, hzc⟩]
  simp [fillA, hx, hc, hz, hs]

theorem ap_oneA {h : Heap} {e esz b : Nat} {y : Bool} {v : AV} {rows : List (List AV)} {c : List AV} {id2 : Nat} {wr : Bool} (hr : IsRowA h esz v rows) (hid : h[id2]? = some (.cells esz c wr)) (hc : c.length = esz) (hcc : c.all cell1 = true) (he : 0 < esz) (hb : b ≤ 120) (hlim : rows.length < 1000000000000) :
    ∃ v' h', apA (.slice e esz b y) v (.own id2 0 1) h = some (v', h') ∧ IsRowA h' esz v' (rows ++ [c]) ∧ Keeps v h h' ∧ h.length < h'.length ∧ (∃ id, v' = .own id 0 (rows.length + 1) ∧ h.length ≤ id) := by
  have hro : rowsOf esz (.own id2 0 1) h = some (1, c) := by
    simp only [rowsOf, hid]
    rw [if_pos trivial, takeN_all (by simp [hc])]
    rfl
  have hall : ∀ r ∈ rows ++ [c], r.length = esz ∧ r.all cell1 = true := by
    intro r hr'
    rcases List.mem_append.1 hr' with q | q
    · exact hr.1 r q
    · simp at q; subst q; exact ⟨hc, hcc⟩
  rcases hr.2 with ⟨rfl, rfl⟩ | ⟨id, rfl, h3⟩
  · refine ⟨.own h.length 0 1, h ++ [.cells esz c true], ?_, ⟨hall, .inr ⟨h.length, by simp, by simp⟩⟩, ?_, by simp, h.length, by simp, Nat.le_refl _⟩
    · simp only [apA, hro, Option.bind_some]
      rw [if_neg (by decide), if_pos ⟨by decide, hb, he⟩]
    · intro i x hx _
      rw [List.getElem?_append_left (List.getElem?_eq_some_iff.1 hx).1]; exact hx
  · have hlen : rows.flatten.length = rows.length * esz := flatten_len rows fun r q => (hr.1 r q).1
    refine ⟨.own h.length 0 (rows.length + 1), h.set id .gone ++ [.cells esz (rows.flatten ++ c) true], ?_, ⟨hall, .inr ⟨h.length, by simp, by simp⟩⟩, ?_, by simp, h.length, rfl, Nat.le_refl _⟩
    · simp only [apA, hro, Option.bind_some, h3]
      rw [if_neg (by decide), if_pos ⟨trivial, by omega, hb, he⟩, takeN_all hlen]
      rfl
    · intro i x hx hn
      have hne : id ≠ i := fun q => hn 0 rows.length (by rw [q])
      rw [List.getElem?_append_left (by simpa using (List.getElem?_eq_some_iff.1 hx).1), List.getElem?_set_ne hne]
      exact hx

theorem push_oneA {h : Heap} {e esz b : Nat} {y : Bool} {z : List AV} {v x : AV} {rows : List (List AV)} {c : List AV} (hr : IsRowA h esz v rows) (hz : z.length = esz) (hzc : z.all cell1 = true) (he2 : esz ≤ 1000) (hx : cellsOf x = some c) (hc : c.length = esz) (hcc : c.all cell1 = true) (he : 0 < esz) (hb : b ≤ 120)
    (hlim : rows.length < 1000000000000) :
    ∃ v' h', bsA (.slice e esz b y) (some z) 1 [(0, x)] h = some (.own h.length 0 1, h ++ [.cells esz c true]) ∧
      apA (.slice e esz b y) v (.own h.length 0 1) (h ++ [.cells esz c true]) = some (v', h') ∧ IsRowA h' esz v' (rows ++ [c]) ∧ Keeps v h h' ∧ h.length < h'.length ∧ (∃ id, v' = .own id 0 (rows.length + 1) ∧ h.length ≤ id) := by
  have h1 := bs_oneA (e := e) (b := b) (y := y) hz hzc he2 hx hc h
  obtain ⟨v', h', h2, h3, h4, h5, id, h6, h7⟩ := ap_oneA (e := e) (y := y) (hr.app (.cells esz c true)) (id2 := h.length) (wr := true) (by simp) hc hcc he hb hlim
  simp only [List.length_append, List.length_cons, List.length_nil] at h5 h7
  refine ⟨v', h', h1, h2, h3, ?_, by omega, id, h6, by omega⟩
  intro i x hx hn
  exact h4 i x (by rw [List.getElem?_append_left (List.getElem?_eq_some_iff.1 hx).1]; exact hx) hn

theorem frzCells_map {F : AV → Option (SV × List Nat)} (g : AV → SV) (hF : AV → List Nat) : ∀ (l : List AV), (∀ c ∈ l, F c = some (g c, hF c)) → frzCells F l = some (l.map g, l.flatMap hF)
  | [], _ => rfl
  | c :: l, h => by
    simp only [frzCells, h c (List.mem_cons_self ..), frzCells_map g hF l fun c' hc => h c' (List.mem_cons_of_mem _ hc), Option.bind_some, List.map_cons, List.flatMap_cons]

theorem frz_rowA {n : Nat} {h : Heap} {esz : Nat} {v : AV} {rows : List (List AV)} (g : AV → SV) (hF : AV → List Nat) (hr : IsRowA h esz v rows) (he : 0 < esz) (hg : ∀ r ∈ rows, ∀ c ∈ r, frzC n h c = some (g c, hF c)) : ∃ ids, frzC (n + 1) h v = some (.slice (rows.map (·.map g)), ids) := by
  rcases hr.2 with ⟨rfl, rfl⟩ | ⟨id, rfl, h3⟩
  · exact ⟨[], rfl⟩
  · have hlen : rows.flatten.length = rows.length * esz := flatten_len rows fun r q => (hr.1 r q).1
    have hc := frzCells_map g hF rows.flatten (fun c hc => by
      obtain ⟨r, hr1, hr2⟩ := List.mem_flatten.1 hc
      exact hg r hr1 c hr2)
    have hch : chunk esz rows.length (rows.flatten.map g) = rows.map (·.map g) := by
      rw [List.map_flatten]
      have := chunk_flatten (esz := esz) (rows.map (·.map g)) (fun x hx => by
        obtain ⟨r, hr1, rfl⟩ := List.mem_map.1 hx
        rw [List.length_map]; exact (hr.1 r hr1).1)
      rw [List.length_map] at this
      exact this
    refine ⟨id :: rows.flatten.flatMap hF, ?_⟩
    simp only [frzC, h3]
    rw [if_pos he, takeN_all hlen]
    simp only [Option.bind_some, hc, hch]

end Go.Proofs.Ytmhamnnfcmkcfaa

/- Code's functions come to the plain ones: what an instruction is, whether it may be. -/
set_option maxRecDepth 100000
namespace Go.Proofs.Ytmhamnnfcmkcfaa
open Go.RowKit

section
variable {J : Option (List AV → Option AV)}

theorem e146 : (f146_sh optB (Cw J) loopW []).bind (fun r => frzR frzDepth r.2 r.1) = some (.sv (.slice (tbl.map rowS))) := by kernel_rfl

theorem c146 (h : Heap) : Cw J 146 [] h = some (.sv (.slice (tbl.map rowS)), h) := by
  obtain ⟨⟨r, hr⟩, h1, h2⟩ := Option.bind_eq_some_iff.1 (e146 (J := J))
  exact call_sv Try.func146 (by kernel_rfl) (by rfl) (by rfl) (by rfl) ((f146_eq _ _ _ _).trans h1) h2

theorem shp_get {op : Int} (h : inR op = true) : (tbl.map rowS)[op.toNat]? = some (rowS (shp op)) := by
  simp only [inR, decide_eq_true_eq] at h
  have hr : inR op = true := by simp [inR, h]
  have hlt : op.toNat < tbl.length := by simp [tbl]; omega
  unfold shp
  rw [if_pos hr, List.getElem?_map, List.getElem?_eq_getElem hlt]
  rfl

abbrev rowA (op : Int) : AV := .agg ((rowS (shp op)).map .sv)

theorem c103 (op : Int) (h : Heap) : Cw J 103 [I op] h = some (.tuple [rowA op, Bo (inR op)], h) := by
  have key : ∃ hr, evFunc optB tab shared (Cw J) loopW noD Try.f103 [I op] [] = some (.tuple [rowA op, Bo (inR op)], hr) := by
    rw [f103_eq]
    have hbd : bdA tab 137 [] = some (rowA (-1)) := by rfl
    have hln : ln (.slice 137 4 40 false) (.sv (.slice (tbl.map rowS))) = some (I 13) := rfl
    by_cases hlo : op < 0
    · have hr : inR op = false := by simp [inR]; omega
      have hs : shp op = ([], 0, 0, 0) := by simp [shp, hr]
      simp -implicitDefEqProofs [f103_sh, alloc, cell1, c146, hlo, hbd, storeA, splice, ld, takeN, pack, hr, hs, rowS]
      decide
    · by_cases hhi : 13 ≤ op
      · have hr : inR op = false := by simp [inR]; omega
        have hs : shp op = ([], 0, 0, 0) := by simp [shp, hr]
        simp -implicitDefEqProofs [f103_sh, alloc, cell1, c146, hlo, hln, hhi, hbd, storeA, splice, ld, takeN, pack, hr, hs, rowS]
        decide
      · have hr : inR op = true := by simp [inR]; omega
        have hia : ia (.slice 137 4 40 false) (.sv (.slice (tbl.map rowS))) (I op) = some (.ref (rowS (shp op))) := ia_sv (i := op.toNat) (by omega) (shp_get hr) rfl
        simp -implicitDefEqProofs [f103_sh, alloc, cell1, c146, hlo, hln, hhi, hia, storeA, cellsOf, splice, ld, takeN, pack, hr, rowS]
  obtain ⟨hr, e⟩ := key
  exact call_sv Try.func103 (by kernel_rfl) (by rfl) (by rfl) (by rfl) e (frzR_tup (by rfl))

/-- The three fields' addresses. -/
theorem c104 (id : Nat) (h : Heap) : Cw J 104 [.ptr id 0] h = some (.agg [.ptr id 1, .ptr id 2, .ptr id 3], h ++ [.cells 0 [.ptr id 1, .ptr id 2, .ptr id 3] true]) := by
  have key : evFunc optB tab shared (Cw J) loopW noD Try.f104 [.ptr id 0] h = some (.agg [.ptr id 1, .ptr id 2, .ptr id 3], h ++ [.cells 0 [.ptr id 1, .ptr id 2, .ptr id 3] true]) := by
    rw [f104_eq]
    have hbd : bdA tab 141 [(0, .ptr id 1), (1, .ptr id 2), (2, .ptr id 3)] = some (.agg [.ptr id 1, .ptr id 2, .ptr id 3]) := by rfl
    simp -implicitDefEqProofs [f104_sh, alloc, cell1, hbd, storeA, cellsOf, splice, ld, takeN, pack]
  exact call_sh Try.func104 (by kernel_rfl) (by rfl) key

theorem arr3 {a b c : AV} {i : Nat} (hi : i < 3) : ix (.arr 3 1 false none) (.agg [a, b, c]) (I i) = some (if i = 0 then a else if i = 1 then b else c) := by
  rcases (by omega : i = 0 ∨ i = 1 ∨ i = 2) with rfl | rfl | rfl <;> simp [ix, takeN, pack]

theorem inR_0 : inR 0 = true := rfl
theorem inR_10 : inR 10 = true := rfl
theorem inR_11 : inR 11 = true := rfl
theorem inR_12 : inR 12 = true := rfl

theorem c39 (x : Ins) (h : Heap) : Cw J 39 [.agg (x.sv.map .sv)] h = some (.tuple [I (writesS x).1, Bo (writesS x).2], h) := by
  have key : ∃ hr, evFunc optB tab shared (Cw J) loopW noD Try.f39 [.agg (x.sv.map .sv)] [] = some (.tuple [I (writesS x).1, Bo (writesS x).2], hr) := by
    rw [f39_eq]
    unfold writesS
    by_cases hk : kd0 x.op = 1
    · have hk' : (shp x.op).2.1 = 1 := hk
      simp -implicitDefEqProofs [f39_sh, boxA, alloc, cell1, cellsOf, ld, takeN, pack, Ins.sv, c103, storeA, splice, rowS, ia, hk', hk]
    · have hk' : ¬ (shp x.op).2.1 = 1 := hk
      simp -implicitDefEqProofs [f39_sh, boxA, alloc, cell1, cellsOf, ld, takeN, pack, Ins.sv, c103, storeA, splice, rowS, ia, hk', hk]
  obtain ⟨hr, e⟩ := key
  exact call_sv Try.func39 (by kernel_rfl) (by rfl) (by rfl) (by rfl) e (frzR_tup (by rfl))

def intsSV (l : List Int) : SV := .slice (l.map fun n => [.int .i64 n])

end
end Go.Proofs.Ytmhamnnfcmkcfaa

/- Code's functions come to the plain ones: whether an instruction may be; whether code may be. -/
set_option maxRecDepth 100000
namespace Go.Proofs.Ytmhamnnfcmkcfaa
open Go.RowKit

section
variable {J : Option (List AV → Option AV)}

def limRow (c : Cod) : List AV := [I 1, I c.regs, I c.regs, I c.arrs, I c.l.length, I 1]
def mayH (x : Ins) (c : Cod) : Heap := [.cells 0 (x.sv.map .sv) true, .cells 0 (c.sv.map .sv) true, .cells 0 ((rowS (shp x.op)).map .sv) true, .cells 0 (limRow c) true, .cells 0 [.ptr 0 1, .ptr 0 2, .ptr 0 3] true]

def okAt (x : Ins) (c : Cod) : Nat → Bool
  | 0 => inR x.op
  | 1 => inR x.op && fitS c (kd0 x.op) x.a
  | 2 => inR x.op && fitS c (kd0 x.op) x.a && fitS c (kd1 x.op) x.b
  | _ => inR x.op && fitS c (kd0 x.op) x.a && fitS c (kd1 x.op) x.b && fitS c (kd2 x.op) x.c

def fieldAt (x : Ins) (i : Nat) : Int := if i = 0 then x.a else if i = 1 then x.b else x.c
def kindAt (x : Ins) (i : Nat) : Int := if i = 0 then kd0 x.op else if i = 1 then kd1 x.op else kd2 x.op

theorem okAt_succ {x : Ins} {c : Cod} {i : Nat} (hi : i < 3) : okAt x c (i + 1) = (okAt x c i && fitS c (kindAt x i) (fieldAt x i)) := by
  rcases (by omega : i = 0 ∨ i = 1 ∨ i = 2) with rfl | rfl | rfl <;> rfl

theorem kindAt_range (x : Ins) (i : Nat) : 0 ≤ kindAt x i ∧ kindAt x i ≤ 5 := by
  obtain ⟨h0, h1, h2⟩ := kd_range x.op
  unfold kindAt
  split
  · exact h0
  · split
    · exact h1
    · exact h2

theorem l102_b0 {x : Ins} {c : Cod} {tm : Tm} {i : Nat} (hi : i < 3) (e26 : tm 26 = .agg [.ptr 0 1, .ptr 0 2, .ptr 0 3]) (e27 : tm 27 = I i) (e5 : tm 5 = .ptr 2 0) (e7 : tm 7 = .ptr 3 0) (e6 : tm 6 = Bo (okAt x c i)) :
    Ok (f102_b0 optB (Cw J) loopW tm (mayH x c)) fun r => r.1 = .normal ∧ r.2.h = mayH x c ∧ r.2.tm 26 = tm 26 ∧ r.2.tm 27 = I ((i + 1 : Nat) : Int) ∧ r.2.tm 5 = tm 5 ∧ r.2.tm 7 = tm 7 ∧ r.2.tm 6 = Bo (okAt x c (i + 1)) ∧ r.2.tm 2 = tm 2 := by
  rw [okAt_succ hi]
  have h3 : (i : Int) < 3 := by omega
  have hix : ix (.arr 3 1 false none) (.agg [.ptr 0 1, .ptr 0 2, .ptr 0 3]) (I i) = some (.ptr 0 (1 + i)) := by
    rw [arr3 hi]
    rcases (by omega : i = 0 ∨ i = 1 ∨ i = 2) with rfl | rfl | rfl <;> rfl
  have hf : ld 1 false (.ptr 0 (1 + i)) (mayH x c) = some (I (fieldAt x i)) := by
    rcases (by omega : i = 0 ∨ i = 1 ∨ i = 2) with rfl | rfl | rfl <;> rfl
  have hk : ld 1 false (.ptr 2 (1 + i)) (mayH x c) = some (I (kindAt x i)) := by
    rcases (by omega : i = 0 ∨ i = 1 ∨ i = 2) with rfl | rfl | rfl <;> rfl
  have hia : ia (.arr 3 1 false (some [.int .i64, .int .i64, .int .i64])) (.ptr 2 (0 + 1)) (I i) = some (.ptr 2 (1 + i)) := by
    rw [ia_ptr (i := i) rfl hi]; simp
  obtain ⟨k1, k2⟩ := kindAt_range x i
  have w1 : IntKind.i64.wrap ((i : Int) + 1) = ((i + 1 : Nat) : Int) := by rw [wrapI (by omega) (by omega)]; omega
  generalize hkk : kindAt x i = k at *
  generalize fieldAt x i = f at *
  have hlim : ∃ m : Nat, ia (.arr 6 1 false (some [.int .i64, .int .i64, .int .i64, .int .i64, .int .i64, .int .i64])) (.ptr 3 0) (I k) = some (.ptr 3 m) ∧ ld 1 false (.ptr 3 m) (mayH x c) = some (I (limS c k)) := by
    refine ⟨0 + k.toNat * 1, ia_ptr (i := k.toNat) (by omega) (by omega), ?_⟩
    rcases (by omega : k = 0 ∨ k = 1 ∨ k = 2 ∨ k = 3 ∨ k = 4 ∨ k = 5) with rfl | rfl | rfl | rfl | rfl | rfl <;> rfl
  obtain ⟨m, hl1, hl2⟩ := hlim
  unfold fitS
  cases hok : okAt x c i with
  | false =>
    rw [hok] at e6
    simp -implicitDefEqProofs only [f102_b0, optB_b, e26, e27, e5, e7, e6, h3, bin_lss, Option.bind_some, decide_true, asB_bo, if_true, hix, gO_tt, Bool.false_eq_true, if_false, bin_add, w1, ok_some, Bool.false_and, true_and]
    refine ⟨?_, ?_, ?_, ?_, ?_, ?_⟩ <;> simp [upd, e26, e5, e7]
  | true =>
    rw [hok] at e6
    by_cases hf0 : 0 ≤ f
    · by_cases hfl : f < limS c k
      · simp -implicitDefEqProofs only [f102_b0, optB_b, e26, e27, e5, e7, e6, h3, bin_lss, Option.bind_some, decide_true, asB_bo, if_true, hix, gO_tt, nc_ptr, hf, bin_geq, hf0, fa_ptr, hia, hk, hl1, hl2, hfl, bin_add, w1, ok_some, Bool.true_and, Bool.and_true, true_and]
        refine ⟨?_, ?_, ?_, ?_, ?_, ?_⟩ <;> simp [upd, e26, e5, e7]
      · simp -implicitDefEqProofs only [f102_b0, optB_b, e26, e27, e5, e7, e6, h3, bin_lss, Option.bind_some, decide_true, decide_false, asB_bo, if_true, hix, gO_tt, nc_ptr, hf, bin_geq, hf0, fa_ptr, hia, hk, hl1, hl2, hfl, bin_add, w1, ok_some, Bool.true_and, Bool.and_false, true_and]
        refine ⟨?_, ?_, ?_, ?_, ?_, ?_⟩ <;> simp [upd, e26, e5, e7]
    · simp -implicitDefEqProofs only [f102_b0, optB_b, e26, e27, e5, e7, e6, h3, bin_lss, Option.bind_some, decide_true, decide_false, asB_bo, if_true, hix, gO_tt, nc_ptr, hf, bin_geq, hf0, Bool.false_eq_true, if_false, bin_add, w1, ok_some, Bool.and_false, Bool.false_and, true_and]
      refine ⟨?_, ?_, ?_, ?_, ?_, ?_⟩ <;> simp [upd, e26, e5, e7]

theorem l102_k0 {x : Ins} {c : Cod} {tm : Tm} (e5 : tm 5 = .ptr 2 0) (e2 : tm 2 = .ptr 0 0) (e6 : tm 6 = Bo (okAt x c 3)) : f102_k0 optB (Cw J) loopW tm (mayH x c) = some (Bo (mayS x c), mayH x c) := by
  have hk : ld 1 false (.ptr 2 (1 + 1)) (mayH x c) = some (I (kd1 x.op)) := rfl
  have hia : ia (.arr 3 1 false (some [.int .i64, .int .i64, .int .i64])) (.ptr 2 (0 + 1)) (I 1) = some (.ptr 2 (1 + 1)) := rfl
  have hn : ld 1 false (.ptr 0 (0 + 4)) (mayH x c) = some (I x.n) := rfl
  unfold mayS
  have hok : (inR x.op && fitS c (kd0 x.op) x.a && fitS c (kd1 x.op) x.b && fitS c (kd2 x.op) x.c) = okAt x c 3 := rfl
  rw [hok]
  generalize okAt x c 3 = ok at *
  by_cases h5 : kd1 x.op = 5
  · cases ok with
    | false => simp -implicitDefEqProofs only [f102_k0, optB_b, e5, e2, e6, fa_ptr, hia, hk, Option.bind_some, bin_neq, h5, decide_true, Bool.not_true, asB_bo, Bool.false_eq_true, if_false, gO_tt, Bool.false_and, if_true]
    | true =>
      by_cases h1 : -1000000000000000000 < x.n
      · simp -implicitDefEqProofs only [f102_k0, optB_b, e5, e2, e6, fa_ptr, hia, hk, hn, Option.bind_some, bin_neq, h5, decide_true, Bool.not_true, asB_bo, Bool.false_eq_true, if_false, gO_tt, bin_gtr, bin_lss, h1, if_true, Bool.true_and]
      · simp -implicitDefEqProofs only [f102_k0, optB_b, e5, e2, e6, fa_ptr, hia, hk, hn, Option.bind_some, bin_neq, h5, decide_true, decide_false, Bool.not_true, asB_bo, Bool.false_eq_true, if_false, gO_tt, bin_gtr, bin_lss, h1, if_true, Bool.true_and, Bool.false_and]
  · cases ok with
    | false => simp -implicitDefEqProofs only [f102_k0, optB_b, e5, e2, e6, fa_ptr, hia, hk, Option.bind_some, bin_neq, h5, decide_false, Bool.not_false, asB_bo, Bool.false_eq_true, if_false, gO_tt, Bool.false_and, if_true]
    | true => simp -implicitDefEqProofs only [f102_k0, optB_b, e5, e2, e6, fa_ptr, hia, hk, hn, Option.bind_some, bin_neq, bin_eql, h5, decide_false, Bool.not_false, asB_bo, if_false, gO_tt, Bool.true_and, if_true]

theorem c102 (x : Ins) (c : Cod) (h : Heap) : Cw J 102 [.agg (x.sv.map .sv), .agg (c.sv.map .sv)] h = some (Bo (mayS x c), h) := by
  have key : Ok (evFunc optB tab shared (Cw J) loopW noD Try.f102 [.agg (x.sv.map .sv), .agg (c.sv.map .sv)] []) fun r => r.1 = Bo (mayS x c) := by
    rw [f102_eq]
    have b1 : boxA 5 (.agg (x.sv.map .sv)) [] = some (.ptr 0 0, [.cells 0 (x.sv.map .sv) true]) := box_eq (cellsOf_agg _) rfl (cells_all _)
    have b2 : boxA 4 (.agg (c.sv.map .sv)) [.cells 0 (x.sv.map .sv) true] = some (.ptr 1 0, [.cells 0 (x.sv.map .sv) true, .cells 0 (c.sv.map .sv) true]) := box_eq (cellsOf_agg _) rfl (cells_all _)
    have hln : ln (.slice 47 5 40 false) (.sv (inssSV c.l)) = some (I c.l.length) := by simp [inssSV]
    have hbd : bdA tab 204 [(0, I 1), (1, I c.regs), (2, I c.regs), (3, I c.arrs), (4, I c.l.length), (5, I 1)] = some (.agg (limRow c)) := by rfl
    have l0 : ∀ h, ([Ent.cells 0 (x.sv.map .sv) true, .cells 0 (c.sv.map .sv) true] ++ h)[0]? = some (.cells 0 (x.sv.map .sv) true) := fun h => rfl
    have l1 : ∀ h, ([Ent.cells 0 (x.sv.map .sv) true, .cells 0 (c.sv.map .sv) true] ++ h)[1]? = some (.cells 0 (c.sv.map .sv) true) := fun h => rfl
    have g0 : ∀ h, ld 1 false (.ptr 0 (0 + 0)) ([Ent.cells 0 (x.sv.map .sv) true, .cells 0 (c.sv.map .sv) true] ++ h) = some (I x.op) := fun h => ld_ptr (l0 h) (by simp [Ins.sv])
    have g1 : ∀ h, ld 1 false (.ptr 1 (0 + 0)) ([Ent.cells 0 (x.sv.map .sv) true, .cells 0 (c.sv.map .sv) true] ++ h) = some (I c.regs) := fun h => ld_ptr (l1 h) (by simp [Cod.sv])
    have g2 : ∀ h, ld 1 false (.ptr 1 (0 + 1)) ([Ent.cells 0 (x.sv.map .sv) true, .cells 0 (c.sv.map .sv) true] ++ h) = some (I c.arrs) := fun h => ld_ptr (l1 h) (by simp [Cod.sv])
    have g3 : ∀ h, ld 1 false (.ptr 1 (0 + 3)) ([Ent.cells 0 (x.sv.map .sv) true, .cells 0 (c.sv.map .sv) true] ++ h) = some (.sv (inssSV c.l)) := fun h => ld_ptr (l1 h) (by simp [Cod.sv])
    have s1 : alloc [.sv (.str []), .sv (.int .i64 0), .sv (.int .i64 0), .sv (.int .i64 0)] [Ent.cells 0 (x.sv.map .sv) true, .cells 0 (c.sv.map .sv) true] = some (.ptr 2 0, [Ent.cells 0 (x.sv.map .sv) true, .cells 0 (c.sv.map .sv) true] ++ [.cells 0 [.sv (.str []), .sv (.int .i64 0), .sv (.int .i64 0), .sv (.int .i64 0)] true]) := alloc_eq rfl
    have s2 : storeA 4 (.ptr 2 0) (rowA x.op) ([Ent.cells 0 (x.sv.map .sv) true, .cells 0 (c.sv.map .sv) true] ++ [.cells 0 [.sv (.str []), .sv (.int .i64 0), .sv (.int .i64 0), .sv (.int .i64 0)] true]) = some (.undef, [Ent.cells 0 (x.sv.map .sv) true, .cells 0 (c.sv.map .sv) true] ++ [.cells 0 ((rowS (shp x.op)).map .sv) true]) := by
      rw [store_eq (n := 4) (vs := (rowS (shp x.op)).map .sv) rfl (cellsOf_agg _) rfl (by decide)]; rfl
    have s3 : alloc [.sv (.int .i64 0), .sv (.int .i64 0), .sv (.int .i64 0), .sv (.int .i64 0), .sv (.int .i64 0), .sv (.int .i64 0)] ([Ent.cells 0 (x.sv.map .sv) true, .cells 0 (c.sv.map .sv) true] ++ [.cells 0 ((rowS (shp x.op)).map .sv) true]) =
        some (.ptr 3 0, [Ent.cells 0 (x.sv.map .sv) true, .cells 0 (c.sv.map .sv) true] ++ [.cells 0 ((rowS (shp x.op)).map .sv) true, .cells 0 [.sv (.int .i64 0), .sv (.int .i64 0), .sv (.int .i64 0), .sv (.int .i64 0), .sv (.int .i64 0), .sv (.int .i64 0)] true]) := alloc_eq rfl
    have s4 : storeA 6 (.ptr 3 0) (.agg (limRow c)) ([Ent.cells 0 (x.sv.map .sv) true, .cells 0 (c.sv.map .sv) true] ++ [.cells 0 ((rowS (shp x.op)).map .sv) true, .cells 0 [.sv (.int .i64 0), .sv (.int .i64 0), .sv (.int .i64 0), .sv (.int .i64 0), .sv (.int .i64 0), .sv (.int .i64 0)] true]) =
        some (.undef, [Ent.cells 0 (x.sv.map .sv) true, .cells 0 (c.sv.map .sv) true] ++ [.cells 0 ((rowS (shp x.op)).map .sv) true, .cells 0 (limRow c) true]) := by
      rw [store_eq (n := 6) (vs := limRow c) rfl rfl rfl (by decide)]; rfl
    have b2' : boxA 4 (.agg (c.sv.map .sv)) [.cells 0 (x.sv.map .sv) true] = some (.ptr 1 0, [Ent.cells 0 (x.sv.map .sv) true, .cells 0 (c.sv.map .sv) true] ++ []) := b2
    have hmay : [Ent.cells 0 (x.sv.map .sv) true, .cells 0 (c.sv.map .sv) true] ++ [.cells 0 ((rowS (shp x.op)).map .sv) true, .cells 0 (limRow c) true] ++ [.cells 0 [.ptr 0 1, .ptr 0 2, .ptr 0 3] true] = mayH x c := rfl
    simp -implicitDefEqProofs only [f102_sh, optB_b, b1, b2', Option.bind_some, fa_ptr, g0, c103, ex_tuple, List.getElem?_cons_zero, List.getElem?_cons_succ]
    simp -implicitDefEqProofs only [List.append_nil, s1, s2, Option.bind_some, g1, g2, g3, hln, hbd, s3, s4, c104, hmay]
    refine loop_ok (fun n st => ∃ i : Nat, st.h = mayH x c ∧ st.tm 26 = .agg [.ptr 0 1, .ptr 0 2, .ptr 0 3] ∧ st.tm 27 = I i ∧ i ≤ 3 ∧ st.tm 5 = .ptr 2 0 ∧ st.tm 7 = .ptr 3 0 ∧ st.tm 6 = Bo (okAt x c i) ∧ st.tm 2 = .ptr 0 0 ∧ n = 3 - i)
      (fun r => r.1 = .exit 0 ∧ r.2.h = mayH x c ∧ r.2.tm 5 = .ptr 2 0 ∧ r.2.tm 2 = .ptr 0 0 ∧ r.2.tm 6 = Bo (okAt x c 3)) (n := 3) ⟨0, rfl, ?_, ?_, by omega, ?_, ?_, ?_, ?_, rfl⟩ ?_ ?_
    · simp [upd]
    · simp [upd]
    · simp [upd]
    · simp [upd]
    · simp [upd, okAt]
    · simp [upd]
    · rintro n ⟨tm, h⟩ ⟨i, rfl, e26, e27, hi, e5, e7, e6, e2, rfl⟩
      simp only at e26 e27 e5 e7 e6 e2 ⊢
      by_cases h3 : i < 3
      · refine (l102_b0 h3 e26 e27 e5 e7 e6).mono ?_
        rintro ⟨o, st⟩ ⟨q1, q2, q3, q4, q5, q6, q7, q8⟩
        simp only at q1 q2 q3 q4 q5 q6 q7 q8
        subst q1
        exact nxt_n (3 - (i + 1)) (by omega) ⟨i + 1, q2, by rw [q3, e26], q4, by omega, by rw [q5, e5], by rw [q6, e7], q7, by rw [q8, e2], rfl⟩
      · have : i = 3 := by omega
        subst this
        simp -implicitDefEqProofs only [f102_b0, optB_b, e27, bin_lss, Option.bind_some, show ¬ (((3 : Nat) : Int) < 3) by decide, decide_false, asB_bo, Bool.false_eq_true, if_false, ok_some]
        exact nxt_e ⟨rfl, rfl, by simp [upd, e5], by simp [upd, e2], by simp [upd, e6]⟩
    · rintro ⟨o, st⟩ ⟨rfl, q2, q3, q4, q5⟩
      simp only at q2 q3 q4 q5 ⊢
      rw [q2]
      simp -implicitDefEqProofs only [outBlock_exit, if_true, outSeq_normal, l102_k0 q3 q4 q5, ok_some]
  obtain ⟨⟨r, hr⟩, h1, rfl⟩ := key
  exact call_sv Try.func102 (by kernel_rfl) (by rfl) (by rfl) (by rfl) h1 (frzR_set (by rfl))

theorem c101 (x : Ins) {c : Cod} {id : Nat} {h : Heap} (hid : h[id]? = some (.cells 0 (c.sv.map .sv) true)) : Cw J 101 [.agg (x.sv.map .sv), .ptr id 0] h = some (Bo (!mayS x c), h ++ [.cells 0 (x.sv.map .sv) true]) := by
  refine call_sh Try.func101 (by kernel_rfl) (by rfl) ?_
  rw [f101_eq]
  have b1 : boxA 5 (.agg (x.sv.map .sv)) h = some (.ptr h.length 0, h ++ [.cells 0 (x.sv.map .sv) true]) := box_eq (cellsOf_agg _) rfl (cells_all _)
  have g1 : ld 5 true (.ptr h.length 0) (h ++ [.cells 0 (x.sv.map .sv) true]) = some (.agg (x.sv.map .sv)) := by
    rw [ld_ptr (heap_last _ _) (by simp [Ins.sv])]; rfl
  have g2 : ld 4 true (.ptr id 0) (h ++ [.cells 0 (x.sv.map .sv) true]) = some (.agg (c.sv.map .sv)) := by
    rw [ld_ptr (by rw [List.getElem?_append_left (List.getElem?_eq_some_iff.1 hid).1]; exact hid) (by simp [Cod.sv])]; rfl
  simp -implicitDefEqProofs only [f101_sh, optB_b, b1, Option.bind_some, g1, g2, c102, un_not]

theorem ins_rows (l : List Ins) : ∀ x ∈ l.map Ins.sv, x.length = 5 := by
  intro x hx
  obtain ⟨t, -, rfl⟩ := List.mem_map.1 hx
  rfl

theorem c100 {c : Cod} {l : List Ins} (hl : l.length ≤ 9223372036854775806) {id : Nat} {h : Heap} (hid : h[id]? = some (.cells 0 (c.sv.map .sv) true)) :
    Ok (Cw J 100 [.sv (inssSV l), .func 101 [] [.ptr id 0]] h) fun r => r.1 = Bo (l.any fun x => !mayS x c) ∧ r.2[id]? = some (.cells 0 (c.sv.map .sv) true) := by
  have key := l153 (J := J) (ins_rows l) (by simpa using hl) (f := 101) (first := []) (caps := [.ptr id 0]) (p := fun x => match x with | [.int _ op, .int _ a, .int _ b, .int _ cc, .int _ n] => !mayS ⟨op, a, b, cc, n⟩ c | _ => false)
    (Good := fun h => h[id]? = some (.cells 0 (c.sv.map .sv) true)) (h := h) (by
      intro x hx h hg
      obtain ⟨t, -, rfl⟩ := List.mem_map.1 hx
      refine ⟨_, c101 t hg, rfl, ?_⟩
      rw [List.getElem?_append_left (List.getElem?_eq_some_iff.1 hg).1]; exact hg) hid
  obtain ⟨⟨r, h'⟩, h1, h2, h3⟩ := key
  simp only at h2 h3
  have h4 : Cw J 153 [.sv (inssSV l), .func 101 [] [.ptr id 0]] h = some (r, h') := call_sh Try.func153 (by kernel_rfl) (by rfl) ((f153_eq _ _ _ _ _ _).trans h1)
  refine ⟨(Bo (decide ((0 : Int) ≤ idxP (l.map Ins.sv) fun x => match x with | [.int _ op, .int _ a, .int _ b, .int _ cc, .int _ n] => !mayS ⟨op, a, b, cc, n⟩ c | _ => false)), h'), ?_, ?_, h3⟩
  · refine call_sh Try.func100 (by kernel_rfl) (by rfl) ?_
    rw [f100_eq]
    simp -implicitDefEqProofs only [f100_sh, optB_b, h4, Option.bind_some, h2, bin_geq]
  · rw [idxP_map, idxP_any]
    rfl

theorem e37 (c : Cod) (hl : c.l.length ≤ 9223372036854775806) : Ok (evFunc optB tab shared (Cw J) loopW noD Try.f37 [.agg (c.sv.map .sv)] []) fun r => r.1 = I (checkC c) := by
    rw [f37_eq]
    have b1 : boxA 4 (.agg (c.sv.map .sv)) [] = some (.ptr 0 0, [.cells 0 (c.sv.map .sv) true]) := box_eq (cellsOf_agg _) rfl (cells_all _)
    have g0 : ld 1 false (.ptr 0 (0 + 0)) [.cells 0 (c.sv.map .sv) true] = some (I c.regs) := rfl
    have g1 : ld 1 false (.ptr 0 (0 + 1)) [.cells 0 (c.sv.map .sv) true] = some (I c.arrs) := rfl
    have g2 : ld 1 false (.ptr 0 (0 + 2)) [.cells 0 (c.sv.map .sv) true] = some (I c.inn) := rfl
    have g3 : ∀ {h : Heap}, h[0]? = some (.cells 0 (c.sv.map .sv) true) → ld 1 false (.ptr 0 (0 + 3)) h = some (.sv (inssSV c.l)) := fun hh => ld_ptr hh (by simp [Cod.sv])
    have hln : ln (.slice 47 5 40 false) (.sv (inssSV c.l)) = some (I c.l.length) := by simp [inssSV]
    have hbad : checkOk c = false → I (checkC c) = I 1 := fun h => by simp [checkC, h]
    by_cases hh : headOk c = true
    · simp only [headOk, Bool.and_eq_true, decide_eq_true_eq] at hh
      obtain ⟨⟨⟨⟨⟨a1, a2⟩, a3⟩, a4⟩, a5⟩, a6⟩ := hh
      have hh : headOk c = true := by simp [headOk, a1, a2, a3, a4, a5, a6]
      by_cases b1' : c.l.length = 0
      · have b2' : (c.l.length : Int) = 0 := by omega
        rw [hbad (by simp [checkOk, b1'])]
        simp -implicitDefEqProofs only [f37_sh, optB_b, b1, Option.bind_some, fa_ptr, g0, g1, g2, bin_geq, bin_leq, a1, a2, a3, a4, a5, a6, decide_true, asB_bo, gO_tt, gO_ff, if_true, un_not, Bool.not_true, Bool.false_eq_true, if_false, g3 (h := [.cells 0 (c.sv.map .sv) true]) rfl, hln, bin_eql, b2', ok_some]
      · have b2' : ¬ (c.l.length : Int) = 0 := by omega
        by_cases b3 : 4096 < c.l.length
        · have b3' : (4096 : Int) < c.l.length := by omega
          rw [hbad (by simp [checkOk, b3]; omega)]
          simp -implicitDefEqProofs only [f37_sh, optB_b, b1, Option.bind_some, fa_ptr, g0, g1, g2, bin_geq, bin_leq, a1, a2, a3, a4, a5, a6, decide_true, decide_false, asB_bo, gO_tt, gO_ff, if_true, un_not, Bool.not_true, Bool.false_eq_true, if_false, g3 (h := [.cells 0 (c.sv.map .sv) true]) rfl, hln, bin_eql, b2', bin_gtr, b3', ok_some]
        · have b3' : ¬ (4096 : Int) < c.l.length := by omega
          obtain ⟨⟨v, h'⟩, q1, q2, q3⟩ := c100 (J := J) hl (id := 0) (h := [.cells 0 (c.sv.map .sv) true]) rfl
          simp only at q2 q3
          subst q2
          have g3' : ld 1 false (.ptr 0 (0 + 3)) h' = some (.sv (inssSV c.l)) := g3 q3
          cases hany : c.l.any fun x => !mayS x c with
          | true =>
            have : c.l.all (mayS · c) = false := by
              rw [List.any_eq_true] at hany
              obtain ⟨x, hx, hm⟩ := hany
              rw [Bool.eq_false_iff]
              intro hall
              have := List.all_eq_true.1 hall x hx
              simp [this] at hm
            rw [hany] at q1
            rw [hbad (by simp only [checkOk, this, Bool.and_false, Bool.false_and])]
            simp -implicitDefEqProofs only [f37_sh, optB_b, b1, Option.bind_some, fa_ptr, g0, g1, g2, bin_geq, bin_leq, a1, a2, a3, a4, a5, a6, decide_true, decide_false, asB_bo, gO_tt, gO_ff, if_true, un_not, Bool.not_true, Bool.false_eq_true, if_false, g3 (h := [.cells 0 (c.sv.map .sv) true]) rfl, hln, bin_eql, b2', bin_gtr, b3', q1, ok_some]
          | false =>
            have hall : c.l.all (mayS · c) = true := by
              rw [List.all_eq_true]
              intro x hx
              rw [List.any_eq_false] at hany
              simpa using hany x hx
            rw [hany] at q1
            have hlast : c.l.getLast? = some (c.l[c.l.length - 1]'(by omega)) := by rw [List.getLast?_eq_getElem?]; exact List.getElem?_eq_getElem _
            have hlo : lastOp c = (c.l[c.l.length - 1]'(by omega)).op := by simp only [lastOp, hlast]; rfl
            have hw : IntKind.i64.wrap ((c.l.length : Int) - 1) = ((c.l.length - 1 : Nat) : Int) := by rw [wrapI (by omega) (by omega)]; omega
            have hia : ia (.slice 47 5 40 false) (.sv (inssSV c.l)) (I ((c.l.length - 1 : Nat) : Int)) = some (.ref (c.l[c.l.length - 1]'(by omega)).sv) := ia_sv (i := c.l.length - 1) rfl (by rw [List.getElem?_map, List.getElem?_eq_getElem (by omega)]; rfl) rfl
            have hld : ld 1 false (.ref ((c.l[c.l.length - 1]'(by omega)).sv.drop 0)) h' = some (I (lastOp c)) := by rw [hlo]; rfl
            have hok : checkOk c = (decide (lastOp c = 0) || decide (lastOp c = 10)) := by simp only [checkOk, hh, hall, b1', show c.l.length ≤ 4096 by omega, ne_eq, not_false_eq_true, decide_true, Bool.true_and]
            by_cases z0 : lastOp c = 0
            · have : I (checkC c) = I 0 := by simp [checkC, hok, z0]
              rw [this]
              simp -implicitDefEqProofs only [f37_sh, optB_b, b1, Option.bind_some, fa_ptr, g0, g1, g2, bin_geq, bin_leq, a1, a2, a3, a4, a5, a6, decide_true, decide_false, asB_bo, gO_tt, gO_ff, if_true, un_not, Bool.not_true, Bool.false_eq_true, if_false, g3 (h := [.cells 0 (c.sv.map .sv) true]) rfl, hln, bin_eql, b2', bin_gtr, b3', q1, g3', bin_sub, hw, hia, fa_ref, hld, z0, bin_neq, ok_some]
            · by_cases z10 : lastOp c = 10
              · have : I (checkC c) = I 0 := by simp [checkC, hok, z10]
                rw [this]
                simp -implicitDefEqProofs only [f37_sh, optB_b, b1, Option.bind_some, fa_ptr, g0, g1, g2, bin_geq, bin_leq, a1, a2, a3, a4, a5, a6, decide_true, decide_false, asB_bo, gO_tt, gO_ff, if_true, un_not, Bool.not_true, Bool.not_false, Bool.false_eq_true, if_false, g3 (h := [.cells 0 (c.sv.map .sv) true]) rfl, hln, bin_eql, b2', bin_gtr, b3', q1, g3', bin_sub, hw, hia, fa_ref, hld, z10, show ¬ ((10 : Int) = 0) by decide, bin_neq, ok_some]
              · have : I (checkC c) = I 1 := by simp [checkC, hok, z0, z10]
                rw [this]
                simp -implicitDefEqProofs only [f37_sh, optB_b, b1, Option.bind_some, fa_ptr, g0, g1, g2, bin_geq, bin_leq, a1, a2, a3, a4, a5, a6, decide_true, decide_false, asB_bo, gO_tt, gO_ff, if_true, un_not, Bool.not_true, Bool.not_false, Bool.false_eq_true, if_false, g3 (h := [.cells 0 (c.sv.map .sv) true]) rfl, hln, bin_eql, b2', bin_gtr, b3', q1, g3', bin_sub, hw, hia, fa_ref, hld, z0, z10, bin_neq, ok_some]
    · rw [hbad (by simp only [checkOk, Bool.eq_false_iff.2 hh, Bool.false_and])]
      simp only [headOk, Bool.and_eq_true, decide_eq_true_eq] at hh
      by_cases a1 : 0 ≤ c.regs <;> by_cases a2 : c.regs ≤ 128 <;> by_cases a3 : 0 ≤ c.arrs <;> by_cases a4 : c.arrs ≤ 128 <;> by_cases a5 : 0 ≤ c.inn <;> by_cases a6 : c.inn ≤ c.arrs <;> first
        | (exfalso; exact hh ⟨⟨⟨⟨⟨a1, a2⟩, a3⟩, a4⟩, a5⟩, a6⟩)
        | simp -implicitDefEqProofs only [f37_sh, optB_b, b1, Option.bind_some, fa_ptr, g0, g1, g2, bin_geq, bin_leq, a1, a2, a3, a4, a5, a6, decide_true, decide_false, asB_bo, gO_tt, gO_ff, if_true, un_not, Bool.not_true, Bool.not_false, Bool.false_eq_true, if_false, ok_some]

theorem c37 (c : Cod) (hl : c.l.length ≤ 9223372036854775806) (h : Heap) : Cw J 37 [.agg (c.sv.map .sv)] h = some (I (checkC c), h) := by
  obtain ⟨⟨r, hr⟩, h1, rfl⟩ := e37 (J := J) c hl
  exact call_sv Try.func37 (by kernel_rfl) (by rfl) (by rfl) (by rfl) h1 (frzR_set (by rfl))

end
end Go.Proofs.Ytmhamnnfcmkcfaa

/- Code's functions come to the plain ones: what an instruction asks for. -/
set_option maxRecDepth 100000
namespace Go.Proofs.Ytmhamnnfcmkcfaa
open Go.RowKit

section
variable {J : Option (List AV → Option AV)}

/-- A row's object is no object of other cells. -/
theorem IsRow.other {h : Heap} {esz e2 : Nat} {v : AV} {rows : List (List SV)} {i : Nat} {cs : List AV} {wr : Bool} (hr : IsRow h esz v rows) (hi : h[i]? = some (.cells e2 cs wr)) (hne : e2 ≠ esz) : ∀ o l, v ≠ .own i o l := by
  intro o l hv
  subst hv
  rcases hr.2 with ⟨q, -⟩ | ⟨id, q, h3⟩
  · cases q
  · cases q
    rw [hi] at h3
    cases h3
    exact hne rfl

def readPre (x : Ins) : Nat → List Int
  | 0 => []
  | 1 => if kd0 x.op = 2 then [x.a] else []
  | 2 => (if kd0 x.op = 2 then [x.a] else []) ++ (if kd1 x.op = 2 then [x.b] else [])
  | _ => readsS x

theorem readPre_succ {x : Ins} {i : Nat} (hi : i < 3) : readPre x (i + 1) = readPre x i ++ (if kindAt x i = 2 then [fieldAt x i] else []) := by
  rcases (by omega : i = 0 ∨ i = 1 ∨ i = 2) with rfl | rfl | rfl <;> simp [readPre, kindAt, fieldAt, readsS]

theorem readPre_len (x : Ins) {i : Nat} (hi : i ≤ 3) : (readPre x i).length ≤ 3 := by
  rcases (by omega : i = 0 ∨ i = 1 ∨ i = 2 ∨ i = 3) with rfl | rfl | rfl | rfl <;> simp only [readPre, readsS] <;> (repeat' split) <;> simp

def intRow (l : List Int) : List (List SV) := l.map fun n => [.int .i64 n]

def ReadInv (x : Ins) (n : Nat) (st : St) : Prop :=
  ∃ i : Nat, st.h[0]? = some (.cells 0 (x.sv.map .sv) true) ∧ st.h[1]? = some (.cells 0 ((rowS (shp x.op)).map .sv) true) ∧ st.tm 13 = .agg [.ptr 0 1, .ptr 0 2, .ptr 0 3] ∧ st.tm 14 = I i ∧ i ≤ 3 ∧ st.tm 3 = .ptr 1 0 ∧ IsRow st.h 1 (st.tm 2) (intRow (readPre x i)) ∧ n = 3 - i

theorem l38_b0 {x : Ins} (n : Nat) (st : St) (hI : ReadInv x n st) : Ok (f38_b0 optB (Cw J) loopW st.tm st.h) (Nxt (ReadInv x) (fun r => r.1 = .exit 0 ∧ IsRow r.2.h 1 (r.2.tm 2) (intRow (readsS x))) n) := by
  obtain ⟨tm, h⟩ := st
  obtain ⟨i, hx, hs, e13, e14, hi, e3, hr, rfl⟩ := hI
  simp only at hx hs e13 e14 e3 hr ⊢
  by_cases hlt : i < 3
  · have h3 : (i : Int) < 3 := by omega
    have hix : ix (.arr 3 1 false none) (.agg [.ptr 0 1, .ptr 0 2, .ptr 0 3]) (I i) = some (.ptr 0 (1 + i)) := by
      rw [arr3 hlt]
      rcases (by omega : i = 0 ∨ i = 1 ∨ i = 2) with rfl | rfl | rfl <;> rfl
    have hf : ld 1 false (.ptr 0 (1 + i)) h = some (I (fieldAt x i)) := by
      rw [ld_ptr hx (by simp [Ins.sv]; omega)]
      rcases (by omega : i = 0 ∨ i = 1 ∨ i = 2) with rfl | rfl | rfl <;> rfl
    have hk : ld 1 false (.ptr 1 (1 + i)) h = some (I (kindAt x i)) := by
      rw [ld_ptr hs (by simp [rowS]; omega)]
      rcases (by omega : i = 0 ∨ i = 1 ∨ i = 2) with rfl | rfl | rfl <;> rfl
    have hia : ia (.arr 3 1 false (some [.int .i64, .int .i64, .int .i64])) (.ptr 1 (0 + 1)) (I i) = some (.ptr 1 (1 + i)) := by
      rw [ia_ptr (i := i) rfl hlt]; simp
    have w1 : IntKind.i64.wrap ((i : Int) + 1) = ((i + 1 : Nat) : Int) := by rw [wrapI (by omega) (by omega)]; omega
    have hlen := readPre_len x hi
    have hsucc := readPre_succ (x := x) hlt
    by_cases hk2 : kindAt x i = 2
    · obtain ⟨v', h', -, q2, q3, q4, q5, -, -⟩ := push_one (e := 3) (b := 8) (y := false) (z := [.sv (.int .i64 0)]) (x := I (fieldAt x i)) (c := [.int .i64 (fieldAt x i)]) hr rfl rfl (by decide) rfl rfl (by decide) (by decide) (by simp [intRow]; omega)
      simp -implicitDefEqProofs only [f38_b0, optB_b, e13, e14, e3, h3, bin_lss, Option.bind_some, decide_true, asB_bo, if_true, hix, fa_ptr, hia, hk, bin_eql, hk2, nc_ptr, hf, q2, q3, bin_add, w1, ok_some]
      rw [if_pos hk2] at hsucc
      refine nxt_n (3 - (i + 1)) (by omega) ⟨i + 1, q5 _ _ hx (hr.other hx (by decide)), q5 _ _ hs (hr.other hs (by decide)), ?_, ?_, by omega, ?_, ?_, rfl⟩
      · simp [upd, e13]
      · simp [upd]
      · simp [upd, e3]
      · rw [hsucc]
        simpa [upd, intRow] using q4
    · simp -implicitDefEqProofs only [f38_b0, optB_b, e13, e14, e3, h3, bin_lss, Option.bind_some, decide_true, decide_false, Bool.false_eq_true, if_false, asB_bo, if_true, hix, fa_ptr, hia, hk, bin_eql, hk2, bin_add, w1, ok_some]
      rw [if_neg hk2, List.append_nil] at hsucc
      refine nxt_n (3 - (i + 1)) (by omega) ⟨i + 1, hx, hs, ?_, ?_, by omega, ?_, ?_, rfl⟩
      · simp [upd, e13]
      · simp [upd]
      · simp [upd, e3]
      · rw [hsucc]
        simpa [upd] using hr
  · have : i = 3 := by omega
    subst this
    simp -implicitDefEqProofs only [f38_b0, optB_b, e14, bin_lss, Option.bind_some, show ¬ (((3 : Nat) : Int) < 3) by decide, decide_false, asB_bo, Bool.false_eq_true, if_false, ok_some]
    refine nxt_e ⟨rfl, ?_⟩
    simpa [upd, readPre] using hr

theorem c38 (x : Ins) (h : Heap) : Cw J 38 [.agg (x.sv.map .sv)] h = some (.sv (intsSV (readsS x)), h) := by
  have key : Ok (evFunc optB tab shared (Cw J) loopW noD Try.f38 [.agg (x.sv.map .sv)] []) fun r => frzR frzDepth r.2 r.1 = some (.sv (intsSV (readsS x))) := by
    rw [f38_eq]
    have b1 : boxA 5 (.agg (x.sv.map .sv)) [] = some (.ptr 0 0, [.cells 0 (x.sv.map .sv) true]) := box_eq (cellsOf_agg _) rfl (cells_all _)
    have g0 : ld 1 false (.ptr 0 (0 + 0)) [.cells 0 (x.sv.map .sv) true] = some (I x.op) := rfl
    have s1 : alloc [.sv (.str []), .sv (.int .i64 0), .sv (.int .i64 0), .sv (.int .i64 0)] [Ent.cells 0 (x.sv.map .sv) true] = some (.ptr 1 0, [.cells 0 (x.sv.map .sv) true, .cells 0 [.sv (.str []), .sv (.int .i64 0), .sv (.int .i64 0), .sv (.int .i64 0)] true]) := alloc_eq rfl
    have s2 : storeA 4 (.ptr 1 0) (rowA x.op) [.cells 0 (x.sv.map .sv) true, .cells 0 [.sv (.str []), .sv (.int .i64 0), .sv (.int .i64 0), .sv (.int .i64 0)] true] = some (.undef, [.cells 0 (x.sv.map .sv) true, .cells 0 ((rowS (shp x.op)).map .sv) true]) := by
      rw [store_eq (n := 4) (vs := (rowS (shp x.op)).map .sv) rfl (cellsOf_agg _) rfl (by decide)]; rfl
    simp -implicitDefEqProofs only [f38_sh, optB_b, b1, Option.bind_some, fa_ptr, g0, c103, ex_tuple, List.getElem?_cons_zero, List.getElem?_cons_succ, s1, s2, c104]
    refine loop_ok (ReadInv x) (fun r => r.1 = .exit 0 ∧ IsRow r.2.h 1 (r.2.tm 2) (intRow (readsS x))) (n := 3) ⟨0, rfl, rfl, ?_, ?_, by omega, ?_, ?_, rfl⟩ (fun n st hI => l38_b0 n st hI) ?_
    · simp [upd]
    · simp [upd]
    · simp [upd]
    · simpa [upd, readPre, intRow] using IsRow.nil _ 1
    · rintro ⟨o, st⟩ ⟨rfl, hr⟩
      simp only at hr ⊢
      simp -implicitDefEqProofs only [outBlock_exit, if_true, outSeq_normal, f38_k0, ok_some]
      obtain ⟨ids, hf⟩ := frz_row hr (by decide)
      rcases hr.2 with ⟨q, -⟩ | ⟨id, q, -⟩
      · rw [q] at hf ⊢; simp only [frzR, hf, Option.bind_some]; rfl
      · rw [q] at hf ⊢; simp only [frzR, hf, Option.bind_some]; rfl
  obtain ⟨⟨r, hr⟩, h1, h2⟩ := key
  exact call_sv Try.func38 (by kernel_rfl) (by rfl) (by rfl) (by rfl) h1 h2

end
end Go.Proofs.Ytmhamnnfcmkcfaa

/- The lexer's functions come to the plain ones: tokens, the cut. -/
set_option maxRecDepth 100000
namespace Go.Proofs.Ytmhamnnfcmkcfaa
open Go.RowKit

section
variable {J : Option (List AV → Option AV)}

abbrev tokA (t : Tok) : AV := .agg (t.sv.map .sv)

theorem c89 (s : List UInt8) (hs : s.length ≤ 9223372036854775806) (h : Heap) : Cw J 89 [Sr s] h = some (.tuple [tokA (readS s).1, Bo (readS s).2], h) := by
  have h141 : ∀ h, Cw J 141 [Sr s] h = some (Bo (wordS s), h) := fun h => c141 s hs h
  have h142 : ∀ h, Cw J 142 [Sr s] h = some (.tuple [I ((numS s).getD 0), Bo (numS s).isSome], h) := fun h => c142 s hs h
  have key : ∃ hr, evFunc optB tab shared (Cw J) loopW noD Try.f89 [Sr s] [] = some (.tuple [tokA (readS s).1, Bo (readS s).2], hr) := by
    rw [f89_eq]
    unfold readS
    cases hw : wordS s with
    | true => simp -implicitDefEqProofs [f89_sh, alloc, cell1, storeA, cellsOf, splice, h141, hw, ld, takeN, pack, Tok.sv]
    | false =>
      by_cases hne : s = []
      · subst hne
        simp -implicitDefEqProofs [f89_sh, alloc, cell1, storeA, cellsOf, splice, h141, hw, ld, takeN, pack, Tok.sv, h142, headKind]
      · obtain ⟨c, hc, hk, hh⟩ := head_some hne
        have hix : ix .str (Sr s) (I 0) = some (U8 c) := ix_str rfl hc
        by_cases h1 : s.length = 1
        · have h1' : (s.length : Int) = 1 := by omega
          by_cases k3 : kindS c = 3
          · simp -implicitDefEqProofs [f89_sh, alloc, cell1, storeA, cellsOf, splice, h141, hw, ld, takeN, pack, Tok.sv, h142, hk, hix, c86, h1, h1', k3]
          · simp -implicitDefEqProofs [f89_sh, alloc, cell1, storeA, cellsOf, splice, h141, hw, ld, takeN, pack, Tok.sv, h142, hk, hix, c86, h1, h1', k3]
        · have h1' : ¬ (s.length : Int) = 1 := by omega
          simp -implicitDefEqProofs [f89_sh, alloc, cell1, storeA, cellsOf, splice, h141, hw, ld, takeN, pack, Tok.sv, h142, hk, hix, c86, h1, h1']
  obtain ⟨hr, e⟩ := key
  exact call_sv Try.func89 (by kernel_rfl) (by rfl) (by rfl) (by rfl) e (frzR_tup (by rfl))

theorem c91 (t : Tok) (h : Heap) : Cw J 91 [tokA t] h = some (Bo (decide (t.kind = 4)), h) := by
  have key : ∃ hr, evFunc optB tab shared (Cw J) loopW noD Try.f91 [tokA t] [] = some (Bo (decide (t.kind = 4)), hr) := by
    rw [f91_eq]
    simp -implicitDefEqProofs [f91_sh, boxA, alloc, cell1, cellsOf, ld, takeN, pack, Tok.sv]
  obtain ⟨hr, e⟩ := key
  exact call_sv Try.func91 (by kernel_rfl) (by rfl) (by rfl) (by rfl) e (frzR_set (by rfl))

end
end Go.Proofs.Ytmhamnnfcmkcfaa

/- The lexer's functions come to the plain ones: the cut. -/
set_option maxRecDepth 100000
namespace Go.Proofs.Ytmhamnnfcmkcfaa
open Go.RowKit

section
variable {J : Option (List AV → Option AV)}

theorem tok_len (t : Tok) : t.sv.length = 3 := rfl
theorem tok_rows (l : List Tok) : ∀ x ∈ l.map Tok.sv, x.length = 3 := by
  intro x hx
  obtain ⟨t, -, rfl⟩ := List.mem_map.1 hx
  rfl

theorem l25_k1 {tm : Tm} {h : Heap} {id : Nat} {t : Tok} {v : AV} {out : List Tok} {i n : Nat} {wr : Bool} {ez : Nat} (e9 : tm 9 = .ptr id 0) (hid : h[id]? = some (.cells ez (t.sv.map .sv) wr)) (e5 : tm 5 = v) (hr : IsRow h 3 v (out.map Tok.sv)) (e7 : tm 7 = I i) (e8 : tm 8 = I n)
    (hin : (i : Int) + n ≤ 9223372036854775807) (ho : out.length < 1000000000000) :
    Ok (f25_k1 optB (Cw J) loopW tm h) fun r => r.1 = .normal ∧ r.2.tm 0 = tm 0 ∧ r.2.tm 6 = Bo false ∧ r.2.tm 7 = I ((i + n : Nat) : Int) ∧ IsRow r.2.h 3 (r.2.tm 5) ((out ++ [t]).map Tok.sv) := by
  have hld : ld 3 true (.ptr id 0) h = some (tokA t) := by
    rw [ld_ptr hid (by simp [Tok.sv])]
    rfl
  have hw : IntKind.i64.wrap ((i : Int) + n) = ((i + n : Nat) : Int) := by rw [wrapI (by omega) (by omega)]; omega
  obtain ⟨v', h', -, h2, h3, h4, -⟩ := push_one (e := 35) (b := 32) (y := false) (z := [.sv (.int .i64 0), .sv (.str []), .sv (.int .i64 0)]) (x := tokA t) (c := t.sv) hr rfl rfl (by decide) (cellsOf_agg _) rfl (by decide) (by decide) (by simpa using ho)
  subst e5
  simp -implicitDefEqProofs only [f25_k1, optB_b, e9, hld, Option.bind_some, h2, h3, e7, e8, bin_add, hw, ok_some, true_and]
  refine ⟨?_, ?_, ?_, ?_⟩
  · simp [upd]
  · simp [upd]
  · simp [upd]
  · simpa [upd] using h4

theorem l25_k0 {s : List UInt8} (hs : s.length ≤ 65536) {tm : Tm} {h : Heap} {v : AV} {out : List Tok} {i n : Nat} {ends : Bool} (e0 : tm 0 = Sr s) (e7 : tm 7 = I i) (e8 : tm 8 = I n) (e6 : tm 6 = Bo ends) (e5 : tm 5 = v) (hr : IsRow h 3 v (out.map Tok.sv)) (hin : i + n ≤ s.length) (ho : out.length ≤ 200000) :
    Ok (f25_k0 optB (Cw J) loopW tm h) fun r =>
      (if (readS ((s.drop i).take n)).2 then r.1 = .normal ∧ r.2.tm 0 = Sr s ∧ r.2.tm 6 = Bo false ∧ r.2.tm 7 = I ((i + n : Nat) : Int) ∧ IsRow r.2.h 3 (r.2.tm 5) (((if ends then out ++ [lineT] else out) ++ [(readS ((s.drop i).take n)).1]).map Tok.sv)
      else r.1 = .ret ∧ r.2.tm 2 = .nil ∧ r.2.tm 3 = I i ∧ r.2.tm 4 = I 6) := by
  have hw : IntKind.i64.wrap ((i : Int) + n) = ((i + n : Nat) : Int) := by rw [wrapI (by omega) (by omega)]; omega
  have hsl : sl .str (Sr s) (some (I i)) (some (I ((i + n : Nat) : Int))) h = some (Sr ((s.drop i).take n)) := by
    rw [sl_str2 (by omega) hin, List.drop_take, Nat.add_sub_cancel_left]
  generalize hsub : (s.drop i).take n = u at *
  have hu : u.length ≤ 9223372036854775806 := by subst hsub; simp; omega
  have h89 : ∀ h, Cw J 89 [Sr u] h = some (.tuple [tokA (readS u).1, Bo (readS u).2], h) := fun h => c89 u hu h
  generalize readS u = tb at *
  obtain ⟨t, b⟩ := tb
  simp only at h89 ⊢
  have hal : ∀ h, alloc [.sv (.int .i64 0), .sv (.str []), .sv (.int .i64 0)] h = some (.ptr (List.length h) 0, h ++ [.cells 0 [.sv (.int .i64 0), .sv (.str []), .sv (.int .i64 0)] true]) := fun h => alloc_eq rfl
  have hst : storeA 3 (.ptr (List.length h) 0) (tokA t) (h ++ [.cells 0 [.sv (.int .i64 0), .sv (.str []), .sv (.int .i64 0)] true]) = some (.undef, h ++ [.cells 0 (t.sv.map .sv) true]) := by
    rw [store_eq (heap_last _ _) (cellsOf_agg _) (by rfl) (by decide), heap_set_last]
    rfl
  have hr1 := hr.app (.cells 0 (t.sv.map .sv) true)
  cases b with
  | false =>
    simp -implicitDefEqProofs only [f25_k0, optB_b, e0, e7, e8, e5, e6, Option.bind_some, bin_add, hw, hsl, h89, ex_tuple, List.getElem?_cons_zero, List.getElem?_cons_succ, hal, hst, un_not, Bool.not_false, asB_bo, if_true, Bool.false_eq_true, if_false, ok_some]
    refine ⟨trivial, ?_, ?_, ?_⟩ <;> simp [upd]
  | true =>
    simp -implicitDefEqProofs only [f25_k0, optB_b, e0, e7, e8, e5, e6, Option.bind_some, bin_add, hw, hsl, h89, ex_tuple, List.getElem?_cons_zero, List.getElem?_cons_succ, hal, hst, un_not, Bool.not_true, asB_bo, if_true, Bool.false_eq_true, if_false]
    cases ends with
    | false =>
      simp -implicitDefEqProofs only [if_false, Bool.false_eq_true]
      refine (l25_k1 (id := List.length h) (t := t) (v := v) (out := out) (i := i) (n := n) (wr := true) (ez := 0) ?_ (heap_last _ _) ?_ hr1 ?_ ?_ (by omega) (by omega)).mono ?_
      · simp [upd]
      · simp [upd, e5]
      · simp [upd, e7]
      · simp [upd, e8]
      · rintro r ⟨k1, k2, k3, k4, k5⟩
        refine ⟨k1, ?_, k3, k4, by simpa using k5⟩
        rw [k2]; simp [upd, e0]
    | true =>
      have hbd : bdA tab 35 [(0, I 4)] = some (tokA lineT) := by rfl
      obtain ⟨v', h', -, q2, q3, q4, q5, q6, -⟩ := push_one (e := 35) (b := 32) (y := false) (z := [.sv (.int .i64 0), .sv (.str []), .sv (.int .i64 0)]) (x := tokA lineT) (c := lineT.sv) hr1 rfl rfl (by decide) (cellsOf_agg _) rfl (by decide) (by decide) (by simp; omega)
      simp -implicitDefEqProofs only [if_true, hbd, Option.bind_some, q2, q3]
      have hid : h'[List.length h]? = some (.cells 0 (t.sv.map .sv) true) := by
        refine q5 _ _ (heap_last _ _) fun o l hv => ?_
        subst hv
        rcases hr.2 with ⟨hv, -⟩ | ⟨id, hv, h3⟩
        · cases hv
        · cases hv
          have := (List.getElem?_eq_some_iff.1 h3).1
          omega
      have hr2 : IsRow h' 3 v' ((out ++ [lineT]).map Tok.sv) := by simpa using q4
      refine (l25_k1 (id := List.length h) (t := t) (v := v') (out := out ++ [lineT]) (i := i) (n := n) (wr := true) (ez := 0) ?_ hid ?_ hr2 ?_ ?_ (by omega) (by simp; omega)).mono ?_
      · simp [upd]
      · simp [upd]
      · simp [upd, e7]
      · simp [upd, e8]
      · rintro r ⟨k1, k2, k3, k4, k5⟩
        refine ⟨k1, ?_, k3, k4, by simpa using k5⟩
        rw [k2]; simp [upd, e0]

end
end Go.Proofs.Ytmhamnnfcmkcfaa
