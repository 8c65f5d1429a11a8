/- Functions as the abstract interpreter comes to them: printed by wip/tools/gensh.py. -/
import Derived.KernelRfl
import Derived.Test.YtmhamnnfcmkcfaaProg
import Derived.Test.YtmhamnnfcmkcfaaP3
import Derived.Test.YtmhamnnfcmkcfaaP5
import Derived.Test.YtmhamnnfcmkcfaaP4
set_option linter.unusedVariables false
set_option maxRecDepth 100000
namespace Go.Proofs.Ytmhamnnfcmkcfaa

/-! purfle/purflelaw14.CodeReads -/

noncomputable def f5_sh (B : BindS) (C : CallF) (L : LoopF) (v0 : AV) (h : Heap) : Option (AV × Heap) :=
  B.b (C 32 [] h) fun r1 =>
  B.b (ln .str v0) fun w2 =>
  B.b (bin .gtr (.int .i64) w2 (.sv (.int .i64 20000))) fun w3 =>
  B.b (asB w3) fun t4 =>
  if t4 then (some (r1.1, r1.2)) else
  B.b (C 33 [v0] r1.2) fun r5 =>
  B.b (ex 0 r5.1) fun w6 =>
  B.b (ex 1 r5.1) fun w7 =>
  B.b (ex 2 r5.1) fun w8 =>
  B.b (alloc [.sv (.int .i64 0), .sv (.int .i64 0), .sv (.int .i64 0), .nil] r5.2) fun r9 =>
  B.b (storeA 4 r9.1 w6 r9.2) fun r10 =>
  B.b (C 34 [v0] r10.2) fun r11 =>
  B.b (ex 0 r11.1) fun w12 =>
  B.b (ex 1 r11.1) fun w13 =>
  B.b (ex 2 r11.1) fun w14 =>
  B.b (alloc [.sv (.int .i64 0), .sv (.int .i64 0), .sv (.int .i64 0), .nil] r11.2) fun r15 =>
  B.b (storeA 4 r15.1 w12 r15.2) fun r16 =>
  B.b (gO (some (r1.1, true)) (ld 4 true r9.1 r16.2) .dead) fun w17 =>
  B.b (gO (some (r1.1, true)) (ld 4 true r15.1 r16.2) .dead) fun w18 =>
  B.b (gO (some (r1.1, true)) (C 35 [w17, w18] r16.2) (.dead, r16.2)) fun r19 =>
  B.b ((asB r1.1).bind fun t => some (if t then r19.1 else (.sv (.bool false)))) fun w20 =>
  B.b (gO (some (w20, true)) (some w7) .dead) fun w21 =>
  B.b (gO (some (w20, true)) (some w13) .dead) fun w22 =>
  B.b (gO (some (w20, true)) (bin .eql (.int .i64) w21 w22) .dead) fun w23 =>
  B.b ((asB w20).bind fun t => some (if t then w23 else (.sv (.bool false)))) fun w24 =>
  B.b (gO (some (w24, true)) (some w8) .dead) fun w25 =>
  B.b (gO (some (w24, true)) (some w14) .dead) fun w26 =>
  B.b (gO (some (w24, true)) (bin .eql (.int .i64) w25 w26) .dead) fun w27 =>
  B.b ((asB w24).bind fun t => some (if t then w27 else (.sv (.bool false)))) fun w28 =>
  some (w28, r19.2)
theorem f5_eq (B : BindS) (C : CallF) (L : LoopF) (v0 : AV) (h : Heap) : evFunc B tab shared C L noD Try.f5 [v0] h = f5_sh B C L v0 h := by kernel_rfl

/-! purfle/purflelaw14.CodeBends -/
noncomputable def f6_b1 (B : BindS) (C : CallF) (L : LoopF) (tm : Tm) (h : Heap) : Option (Out × St) :=
  B.b (bin .lss (.int .i64) (tm 46) (tm 45)) fun w30 =>
  B.b (asB w30) fun t31 =>
  if t31 then (B.b (ia (.slice 3 1 8 false) (tm 44) (tm 46)) fun w32 =>
  B.b (ld 1 false w32 h) fun w33 =>
  B.b (bin .lss (.int .i64) w33 (.sv (.int .i64 0))) fun w34 =>
  B.b (gO (some (w34, false)) (some w33) .dead) fun w35 =>
  B.b (gO (some (w34, false)) (fa 0 (tm 1)) .dead) fun w36 =>
  B.b (gO (some (w34, false)) (ld 1 false w36 h) .dead) fun w37 =>
  B.b (gO (some (w34, false)) (bin .geq (.int .i64) w35 w37) .dead) fun w38 =>
  B.b ((asB w34).bind fun t => some (if t then (.sv (.bool true)) else w38)) fun w39 =>
  B.b (asB w39) fun t40 =>
  if t40 then (some (.ret, ⟨(upd (upd (upd (upd (upd (upd (upd (upd (upd (upd (upd (upd (upd tm 47 w30) 48 w32) 49 w33) 11 w33) 50 w33) 51 w34) 52 w34) 53 w35) 54 w36) 55 w37) 56 w38) 57 w39) 2 (.sv (.bool false))), h⟩)) else
  B.b (gO (some ((tm 4), false)) (some w33) .dead) fun w41 =>
  B.b (gO (some ((tm 4), false)) (fa 0 (tm 1)) .dead) fun w42 =>
  B.b (gO (some ((tm 4), false)) (ld 1 false w42 h) .dead) fun w43 =>
  B.b (gO (some ((tm 4), false)) (bin .sub (.int .i64) w43 (.sv (.int .i64 1))) .dead) fun w44 =>
  B.b (gO (some ((tm 4), false)) (bin .eql (.int .i64) w41 w44) .dead) fun w45 =>
  B.b ((asB (tm 4)).bind fun t => some (if t then (.sv (.bool true)) else w45)) fun w46 =>
  B.b (bin .add (.int .i64) (tm 46) (.sv (.int .i64 1))) fun w47 =>
  some (.normal, ⟨(upd (upd (upd (upd (upd (upd (upd (upd (upd (upd (upd (upd (upd (upd (upd (upd (upd (upd (upd (upd (upd (upd (upd tm 47 w30) 48 w32) 49 w33) 11 w33) 50 w33) 51 w34) 52 w34) 53 w35) 54 w36) 55 w37) 56 w38) 57 w39) 58 (tm 4)) 59 (tm 4)) 60 w41) 61 w42) 62 w43) 63 w44) 64 w45) 65 w46) 4 w46) 66 w47) 46 w47), h⟩)) else
  some (.exit 2, ⟨(upd tm 47 w30), h⟩)

noncomputable def f6_b2 (B : BindS) (C : CallF) (L : LoopF) (tm : Tm) (h : Heap) : Option (Out × St) :=
  B.b (bin .lss (.int .i64) (tm 71) (tm 70)) fun w52 =>
  B.b (asB w52) fun t53 =>
  if t53 then (B.b (ia (.slice 3 1 8 false) (tm 69) (tm 71)) fun w54 =>
  B.b (ld 1 false w54 h) fun w55 =>
  B.b (bin .lss (.int .i64) w55 (.sv (.int .i64 0))) fun w56 =>
  B.b (gO (some (w56, false)) (some w55) .dead) fun w57 =>
  B.b (gO (some (w56, false)) (fa 3 (tm 1)) .dead) fun w58 =>
  B.b (gO (some (w56, false)) (ld 1 false w58 h) .dead) fun w59 =>
  B.b (gO (some (w56, false)) (ln (.slice 47 5 40 false) w59) .dead) fun w60 =>
  B.b (gO (some (w56, false)) (bin .geq (.int .i64) w57 w60) .dead) fun w61 =>
  B.b ((asB w56).bind fun t => some (if t then (.sv (.bool true)) else w61)) fun w62 =>
  B.b (asB w62) fun t63 =>
  if t63 then (some (.ret, ⟨(upd (upd (upd (upd (upd (upd (upd (upd (upd (upd (upd (upd (upd (upd tm 72 w52) 73 w54) 74 w55) 13 w55) 75 w55) 76 w56) 77 w56) 78 w57) 79 w58) 80 w59) 81 w60) 82 w61) 83 w62) 2 (.sv (.bool false))), h⟩)) else
  B.b (bin .add (.int .i64) (tm 71) (.sv (.int .i64 1))) fun w64 =>
  some (.normal, ⟨(upd (upd (upd (upd (upd (upd (upd (upd (upd (upd (upd (upd (upd (upd (upd tm 72 w52) 73 w54) 74 w55) 13 w55) 75 w55) 76 w56) 77 w56) 78 w57) 79 w58) 80 w59) 81 w60) 82 w61) 83 w62) 84 w64) 71 w64), h⟩)) else
  some (.exit 4, ⟨(upd tm 72 w52), h⟩)

noncomputable def f6_k2 (B : BindS) (C : CallF) (L : LoopF) (tm : Tm) (h : Heap) : Option (Out × St) :=
  B.b (bin .add (.int .i64) (tm 27) (.sv (.int .i64 1))) fun w66 =>
  some (.normal, ⟨(upd (upd tm 85 w66) 27 w66), h⟩)

noncomputable def f6_k1 (B : BindS) (C : CallF) (L : LoopF) (tm : Tm) (h : Heap) : Option (Out × St) :=
  B.b (ld 5 true (tm 6) h) fun w49 =>
  B.b (C 40 [w49, (tm 5)] h) fun r50 =>
  B.b (ln (.slice 3 1 8 false) r50.1) fun w51 =>
  B.b (L (fun s => f6_b2 B C L s.tm s.h) ⟨(upd (upd (upd (upd (upd tm 67 w49) 68 (tm 5)) 69 r50.1) 70 w51) 71 (.sv (.int .i64 0))), r50.2⟩) fun r65 => (outBlock 4 (outBlock 1 (outSeq (f6_k2 B C L) outK))) r65.1 r65.2.tm r65.2.h

noncomputable def f6_k0 (B : BindS) (C : CallF) (L : LoopF) (tm : Tm) (h : Heap) : Option (Out × St) :=
  B.b (ln (.slice 3 1 8 false) (tm 7)) fun w29 =>
  B.b (L (fun s => f6_b1 B C L s.tm s.h) ⟨(upd (upd (upd tm 44 (tm 7)) 45 w29) 46 (.sv (.int .i64 0))), h⟩) fun r48 => (outBlock 2 (outSeq (f6_k1 B C L) (outBlock 1 (outSeq (f6_k2 B C L) outK)))) r48.1 r48.2.tm r48.2.h

noncomputable def f6_b0 (B : BindS) (C : CallF) (L : LoopF) (tm : Tm) (h : Heap) : Option (Out × St) :=
  B.b (bin .lss (.int .i64) (tm 27) (tm 26)) fun w14 =>
  B.b (asB w14) fun t15 =>
  if t15 then (B.b (ia (.slice 47 5 40 false) (tm 25) (tm 27)) fun w16 =>
  B.b (ld 5 true w16 h) fun w17 =>
  B.b (alloc [.sv (.int .i64 0), .sv (.int .i64 0), .sv (.int .i64 0), .sv (.int .i64 0), .sv (.int .i64 0)] h) fun r18 =>
  B.b (storeA 5 r18.1 w17 r18.2) fun r19 =>
  B.b (ld 5 true r18.1 r19.2) fun w20 =>
  B.b (C 38 [w20] r19.2) fun r21 =>
  B.b (ld 5 true r18.1 r21.2) fun w22 =>
  B.b (C 39 [w22] r21.2) fun r23 =>
  B.b (ex 0 r23.1) fun w24 =>
  B.b (ex 1 r23.1) fun w25 =>
  B.b (asB w25) fun t26 =>
  if t26 then (B.b (bsA (.slice 3 1 8 false) (some [.sv (.int .i64 0)]) 1 [(0, w24)] r23.2) fun r27 =>
  B.b (apA (.slice 3 1 8 false) r21.1 r27.1 r27.2) fun r28 =>
  f6_k0 B C L (upd (upd (upd (upd (upd (upd (upd (upd (upd (upd (upd (upd (upd (upd (upd (upd (upd (upd (upd (upd (upd (upd tm 28 w14) 29 (tm 27)) 30 w16) 31 w17) 6 r18.1) 5 (tm 27)) 32 w20) 33 r21.1) 7 r21.1) 35 w22) 36 r23.1) 34 r23.1) 37 w24) 38 w25) 8 w24) 9 w25) 39 w25) 40 r21.1) 41 w24) 42 r27.1) 43 r28.1) 7 r28.1) r28.2) else
  f6_k0 B C L (upd (upd (upd (upd (upd (upd (upd (upd (upd (upd (upd (upd (upd (upd (upd (upd (upd tm 28 w14) 29 (tm 27)) 30 w16) 31 w17) 6 r18.1) 5 (tm 27)) 32 w20) 33 r21.1) 7 r21.1) 35 w22) 36 r23.1) 34 r23.1) 37 w24) 38 w25) 8 w24) 9 w25) 39 w25) r23.2) else
  some (.exit 0, ⟨(upd tm 28 w14), h⟩)

noncomputable def f6_k3 (B : BindS) (C : CallF) (L : LoopF) (tm : Tm) (h : Heap) : Option (AV × Heap) :=
  B.b (fa 0 (tm 1)) fun w68 =>
  B.b (ld 1 false w68 h) fun w69 =>
  B.b (bin .sub (.int .i64) w69 (.sv (.int .i64 1))) fun w70 =>
  B.b (fa 0 (tm 1)) fun w71 =>
  B.b (storeA 1 w71 w70 h) fun r72 =>
  B.b (gO (some ((tm 3), true)) (ld 4 true (tm 1) r72.2) .dead) fun w73 =>
  B.b (gO (some ((tm 3), true)) (C 37 [w73] r72.2) (.dead, r72.2)) fun r74 =>
  B.b (gO (some ((tm 3), true)) (bin .eql (.int .i64) r74.1 (.sv (.int .i64 0))) .dead) fun w75 =>
  B.b (gO (some ((tm 3), true)) (some (tm 4)) .dead) fun w76 =>
  B.b (gO (some ((tm 3), true)) (un .not w76) .dead) fun w77 =>
  B.b (gO (some ((tm 3), true)) (some w77) .dead) fun w78 =>
  B.b (gO (some (w78, true)) (fa 0 (tm 1)) .dead) fun w79 =>
  B.b (gO (some (w78, true)) (ld 1 false w79 r74.2) .dead) fun w80 =>
  B.b (gO (some (w78, true)) (bin .geq (.int .i64) w80 (.sv (.int .i64 0))) .dead) fun w81 =>
  B.b (gO (some ((tm 3), true)) ((asB w78).bind fun t => some (if t then w81 else (.sv (.bool false)))) .dead) fun w82 =>
  B.b (gO (some ((tm 3), true)) (bin .eql .bool w75 w82) .dead) fun w83 =>
  B.b ((asB (tm 3)).bind fun t => some (if t then w83 else (.sv (.bool false)))) fun w84 =>
  some (w84, r74.2)

noncomputable def f6_sh (B : BindS) (C : CallF) (L : LoopF) (v0 : AV) (h : Heap) : Option (AV × Heap) :=
  B.b (boxA 4 v0 h) fun r1 =>
  B.b (C 32 [] r1.2) fun r2 =>
  B.b (ld 4 true r1.1 r2.2) fun w3 =>
  B.b (C 36 [w3] r2.2) fun r4 =>
  B.b (un .not r4.1) fun w5 =>
  B.b (gO (some (w5, false)) (ld 4 true r1.1 r4.2) .dead) fun w6 =>
  B.b (gO (some (w5, false)) (C 37 [w6] r4.2) (.dead, r4.2)) fun r7 =>
  B.b (gO (some (w5, false)) (bin .neq (.int .i64) r7.1 (.sv (.int .i64 0))) .dead) fun w8 =>
  B.b ((asB w5).bind fun t => some (if t then (.sv (.bool true)) else w8)) fun w9 =>
  B.b (asB w9) fun t10 =>
  if t10 then (some (r2.1, r7.2)) else
  B.b (fa 3 r1.1) fun w11 =>
  B.b (ld 1 false w11 r7.2) fun w12 =>
  B.b (ln (.slice 47 5 40 false) w12) fun w13 =>
  B.b (L (fun s => f6_b0 B C L s.tm s.h) ⟨(upd (upd (upd (upd (upd (upd (upd (upd (upd (upd (upd (upd (upd (upd (upd (upd (upd (init [v0]) 1 r1.1) 2 (.sv (.bool false))) 14 r2.1) 3 r2.1) 15 w3) 16 r4.1) 17 w5) 18 w5) 19 w6) 20 r7.1) 21 w8) 22 w9) 4 (.sv (.bool false))) 24 w11) 25 w12) 26 w13) 27 (.sv (.int .i64 0))), r7.2⟩) fun r67 => (outBlock 0 (outSeq (f6_k3 B C L) (endK B tab [.tmp 2]))) r67.1 r67.2.tm r67.2.h
theorem f6_eq (B : BindS) (C : CallF) (L : LoopF) (v0 : AV) (h : Heap) : evFunc B tab shared C L noD Try.f6 [v0] h = f6_sh B C L v0 h := by kernel_rfl

/-! purfle/purflelaw14.CodeShifts -/
noncomputable def f7_b1 (B : BindS) (C : CallF) (L : LoopF) (tm : Tm) (h : Heap) : Option (Out × St) :=
  B.b (bin .lss (.int .i64) (tm 143) (tm 142)) fun w106 =>
  B.b (asB w106) fun t107 =>
  if t107 then (B.b (ia (.slice 3 1 8 false) (tm 21) (tm 143)) fun w108 =>
  B.b (ld 1 false w108 h) fun w109 =>
  B.b (bin .add (.int .i64) (tm 1) (tm 2)) fun w110 =>
  B.b (bin .add (.int .i64) w109 w110) fun w111 =>
  B.b (ia (.slice 3 1 8 false) (tm 21) (tm 143)) fun w112 =>
  B.b (storeA 1 w112 w111 h) fun r113 =>
  B.b (bin .add (.int .i64) (tm 143) (.sv (.int .i64 1))) fun w114 =>
  some (.normal, ⟨(upd (upd (upd (upd (upd (upd (upd (upd (upd (upd (upd (upd (upd (upd tm 144 w106) 145 (tm 143)) 22 (tm 143)) 146 (tm 21)) 147 (tm 143)) 148 w108) 149 w109) 150 (tm 1)) 151 (tm 2)) 152 w110) 153 w111) 154 w112) 155 w114) 143 w114), r113.2⟩)) else
  some (.exit 2, ⟨(upd tm 144 w106), h⟩)

noncomputable def f7_k0 (B : BindS) (C : CallF) (L : LoopF) (tm : Tm) (h : Heap) : Option (Out × St) :=
  B.b (ld 5 true (tm 16) h) fun w116 =>
  B.b (bin .add (.int .i64) (tm 1) (tm 2)) fun w117 =>
  B.b (bin .add (.int .i64) w117 (tm 14)) fun w118 =>
  B.b (C 40 [w116, w118] h) fun r119 =>
  B.b (C 43 [(tm 21), r119.1] r119.2) fun r120 =>
  B.b (un .not r120.1) fun w121 =>
  B.b (asB w121) fun t122 =>
  if t122 then (some (.ret, ⟨(upd (upd (upd (upd (upd (upd (upd (upd (upd (upd (upd tm 156 (tm 21)) 157 w116) 158 (tm 1)) 159 (tm 2)) 160 w117) 161 (tm 14)) 162 w118) 163 r119.1) 164 r120.1) 165 w121) 6 (.sv (.bool false))), r120.2⟩)) else
  B.b (bin .add (.int .i64) (tm 98) (.sv (.int .i64 1))) fun w123 =>
  some (.normal, ⟨(upd (upd (upd (upd (upd (upd (upd (upd (upd (upd (upd (upd tm 156 (tm 21)) 157 w116) 158 (tm 1)) 159 (tm 2)) 160 w117) 161 (tm 14)) 162 w118) 163 r119.1) 164 r120.1) 165 w121) 166 w123) 98 w123), r120.2⟩)

noncomputable def f7_k1 (B : BindS) (C : CallF) (L : LoopF) (tm : Tm) (h : Heap) : Option (Out × St) :=
  B.b (bin .add (.int .i64) (tm 98) (.sv (.int .i64 1))) fun w124 =>
  some (.normal, ⟨(upd (upd tm 166 w124) 98 w124), h⟩)

noncomputable def f7_b0 (B : BindS) (C : CallF) (L : LoopF) (tm : Tm) (h : Heap) : Option (Out × St) :=
  B.b (bin .lss (.int .i64) (tm 98) (tm 97)) fun w68 =>
  B.b (asB w68) fun t69 =>
  if t69 then (B.b (ia (.slice 47 5 40 false) (tm 96) (tm 98)) fun w70 =>
  B.b (ld 5 true w70 h) fun w71 =>
  B.b (alloc [.sv (.int .i64 0), .sv (.int .i64 0), .sv (.int .i64 0), .sv (.int .i64 0), .sv (.int .i64 0)] h) fun r72 =>
  B.b (storeA 5 r72.1 w71 r72.2) fun r73 =>
  B.b (fa 3 (tm 12)) fun w74 =>
  B.b (ld 1 false w74 r73.2) fun w75 =>
  B.b (bin .add (.int .i64) (tm 1) (tm 2)) fun w76 =>
  B.b (bin .add (.int .i64) w76 (tm 98)) fun w77 =>
  B.b (ia (.slice 47 5 40 false) w75 w77) fun w78 =>
  B.b (ld 5 true w78 r73.2) fun w79 =>
  B.b (alloc [.sv (.int .i64 0), .sv (.int .i64 0), .sv (.int .i64 0), .sv (.int .i64 0), .sv (.int .i64 0)] r73.2) fun r80 =>
  B.b (storeA 5 r80.1 w79 r80.2) fun r81 =>
  B.b (ld 5 true r72.1 r81.2) fun w82 =>
  B.b (C 39 [w82] r81.2) fun r83 =>
  B.b (ex 0 r83.1) fun w84 =>
  B.b (ex 1 r83.1) fun w85 =>
  B.b (ld 5 true r80.1 r83.2) fun w86 =>
  B.b (C 39 [w86] r83.2) fun r87 =>
  B.b (ex 0 r87.1) fun w88 =>
  B.b (ex 1 r87.1) fun w89 =>
  B.b (bin .neq (.int .i64) w84 w88) fun w90 =>
  B.b (gO (some (w90, false)) (some w85) .dead) fun w91 =>
  B.b (gO (some (w90, false)) (some w89) .dead) fun w92 =>
  B.b (gO (some (w90, false)) (bin .neq .bool w91 w92) .dead) fun w93 =>
  B.b ((asB w90).bind fun t => some (if t then (.sv (.bool true)) else w93)) fun w94 =>
  B.b (gO (some (w94, false)) (ld 5 true r72.1 r87.2) .dead) fun w95 =>
  B.b (gO (some (w94, false)) (C 38 [w95] []) (.dead, [])) fun r96 =>
  B.b (gO (some (w94, false)) (ld 5 true r80.1 r87.2) .dead) fun w97 =>
  B.b (gO (some (w94, false)) (C 38 [w97] []) (.dead, [])) fun r98 =>
  B.b (gO (some (w94, false)) (C 43 [r96.1, r98.1] []) (.dead, [])) fun r99 =>
  B.b (gO (some (w94, false)) (un .not r99.1) .dead) fun w100 =>
  B.b ((asB w94).bind fun t => some (if t then (.sv (.bool true)) else w100)) fun w101 =>
  B.b (asB w101) fun t102 =>
  if t102 then (some (.ret, ⟨(upd (upd (upd (upd (upd (upd (upd (upd (upd (upd (upd (upd (upd (upd (upd (upd (upd (upd (upd (upd (upd (upd (upd (upd (upd (upd (upd (upd (upd (upd (upd (upd (upd (upd (upd (upd (upd (upd (upd (upd (upd (upd (upd (upd (upd (upd (upd tm 99 w68) 100 (tm 98)) 101 w70) 102 w71) 15 r72.1) 14 (tm 98)) 103 w74) 104 w75) 105 (tm 1)) 106 (tm 2)) 107 w76) 108 (tm 98)) 109 w77) 110 w78) 111 w79) 16 r80.1) 113 w82) 114 r83.1) 112 r83.1) 115 w84) 116 w85) 17 w84) 18 w85) 118 w86) 119 r87.1) 117 r87.1) 120 w88) 121 w89) 19 w88) 20 w89) 122 w84) 123 w88) 124 w90) 125 w90) 126 w91) 127 w92) 128 w93) 129 w94) 130 w94) 131 w95) 132 r96.1) 133 w97) 134 r98.1) 135 r99.1) 136 w100) 137 w101) 6 (.sv (.bool false))), r87.2⟩)) else
  B.b (ld 5 true r72.1 r87.2) fun w103 =>
  B.b (C 40 [w103, (tm 98)] r87.2) fun r104 =>
  B.b (ln (.slice 3 1 8 false) r104.1) fun w105 =>
  B.b (L (fun s => f7_b1 B C L s.tm s.h) ⟨(upd (upd (upd (upd (upd (upd (upd (upd (upd (upd (upd (upd (upd (upd (upd (upd (upd (upd (upd (upd (upd (upd (upd (upd (upd (upd (upd (upd (upd (upd (upd (upd (upd (upd (upd (upd (upd (upd (upd (upd (upd (upd (upd (upd (upd (upd (upd (upd (upd (upd (upd (upd (upd tm 99 w68) 100 (tm 98)) 101 w70) 102 w71) 15 r72.1) 14 (tm 98)) 103 w74) 104 w75) 105 (tm 1)) 106 (tm 2)) 107 w76) 108 (tm 98)) 109 w77) 110 w78) 111 w79) 16 r80.1) 113 w82) 114 r83.1) 112 r83.1) 115 w84) 116 w85) 17 w84) 18 w85) 118 w86) 119 r87.1) 117 r87.1) 120 w88) 121 w89) 19 w88) 20 w89) 122 w84) 123 w88) 124 w90) 125 w90) 126 w91) 127 w92) 128 w93) 129 w94) 130 w94) 131 w95) 132 r96.1) 133 w97) 134 r98.1) 135 r99.1) 136 w100) 137 w101) 138 w103) 139 (tm 98)) 140 r104.1) 21 r104.1) 141 r104.1) 142 w105) 143 (.sv (.int .i64 0))), r104.2⟩) fun r115 => (outBlock 2 (outSeq (f7_k0 B C L) (outBlock 1 (outSeq (f7_k1 B C L) outK)))) r115.1 r115.2.tm r115.2.h) else
  some (.exit 0, ⟨(upd tm 99 w68), h⟩)

noncomputable def f7_k2 (B : BindS) (C : CallF) (L : LoopF) (tm : Tm) (h : Heap) : Option (AV × Heap) :=
  some ((tm 7), h)

noncomputable def f7_sh (B : BindS) (C : CallF) (L : LoopF) (v0 : AV) (v1 : AV) (v2 : AV) (h : Heap) : Option (AV × Heap) :=
  B.b (boxA 4 v0 h) fun r1 =>
  B.b (C 32 [] r1.2) fun r2 =>
  B.b (ld 4 true r1.1 r2.2) fun w3 =>
  B.b (C 36 [w3] r2.2) fun r4 =>
  B.b (un .not r4.1) fun w5 =>
  B.b (gO (some (w5, false)) (ld 4 true r1.1 r4.2) .dead) fun w6 =>
  B.b (gO (some (w5, false)) (C 37 [w6] r4.2) (.dead, r4.2)) fun r7 =>
  B.b (gO (some (w5, false)) (bin .neq (.int .i64) r7.1 (.sv (.int .i64 0))) .dead) fun w8 =>
  B.b ((asB w5).bind fun t => some (if t then (.sv (.bool true)) else w8)) fun w9 =>
  B.b (asB w9) fun t10 =>
  if t10 then (some (r2.1, r7.2)) else
  B.b (bin .rem (.int .i64) v1 (.sv (.int .i64 50))) fun w11 =>
  B.b (bin .add (.int .i64) w11 (.sv (.int .i64 50))) fun w12 =>
  B.b (bin .rem (.int .i64) w12 (.sv (.int .i64 50))) fun w13 =>
  B.b (bin .rem (.int .i64) v2 (.sv (.int .i64 50))) fun w14 =>
  B.b (bin .add (.int .i64) w14 (.sv (.int .i64 50))) fun w15 =>
  B.b (bin .rem (.int .i64) w15 (.sv (.int .i64 50))) fun w16 =>
  B.b (ld 4 true r1.1 r7.2) fun w17 =>
  B.b (C 41 [w17, w13] r7.2) fun r18 =>
  B.b (ex 0 r18.1) fun w19 =>
  B.b (ex 1 r18.1) fun w20 =>
  B.b (alloc [.sv (.int .i64 0), .sv (.int .i64 0), .sv (.int .i64 0), .nil] r18.2) fun r21 =>
  B.b (storeA 4 r21.1 w19 r21.2) fun r22 =>
  B.b (ld 4 true r21.1 r22.2) fun w23 =>
  B.b (C 41 [w23, w16] r22.2) fun r24 =>
  B.b (ex 0 r24.1) fun w25 =>
  B.b (ex 1 r24.1) fun w26 =>
  B.b (alloc [.sv (.int .i64 0), .sv (.int .i64 0), .sv (.int .i64 0), .nil] r24.2) fun r27 =>
  B.b (storeA 4 r27.1 w25 r27.2) fun r28 =>
  B.b (ld 4 true r1.1 r28.2) fun w29 =>
  B.b (bin .add (.int .i64) w13 w16) fun w30 =>
  B.b (C 41 [w29, w30] r28.2) fun r31 =>
  B.b (ex 0 r31.1) fun w32 =>
  B.b (ex 1 r31.1) fun w33 =>
  B.b (alloc [.sv (.int .i64 0), .sv (.int .i64 0), .sv (.int .i64 0), .nil] r31.2) fun r34 =>
  B.b (storeA 4 r34.1 w32 r34.2) fun r35 =>
  B.b (bin .neq (.int .i64) w20 (.sv (.int .i64 0))) fun w36 =>
  B.b (gO (some (w36, false)) (some w26) .dead) fun w37 =>
  B.b (gO (some (w36, false)) (bin .neq (.int .i64) w37 (.sv (.int .i64 0))) .dead) fun w38 =>
  B.b ((asB w36).bind fun t => some (if t then (.sv (.bool true)) else w38)) fun w39 =>
  B.b (gO (some (w39, false)) (some w33) .dead) fun w40 =>
  B.b (gO (some (w39, false)) (bin .neq (.int .i64) w40 (.sv (.int .i64 0))) .dead) fun w41 =>
  B.b ((asB w39).bind fun t => some (if t then (.sv (.bool true)) else w41)) fun w42 =>
  B.b (gO (some (w42, false)) (ld 4 true r27.1 r35.2) .dead) fun w43 =>
  B.b (gO (some (w42, false)) (ld 4 true r34.1 r35.2) .dead) fun w44 =>
  B.b (gO (some (w42, false)) (C 42 [w43, w44] r35.2) (.dead, r35.2)) fun r45 =>
  B.b (gO (some (w42, false)) (un .not r45.1) .dead) fun w46 =>
  B.b ((asB w42).bind fun t => some (if t then (.sv (.bool true)) else w46)) fun w47 =>
  B.b (gO (some (w47, false)) (ld 4 true r34.1 r45.2) .dead) fun w48 =>
  B.b (gO (some (w47, false)) (C 37 [w48] r45.2) (.dead, r45.2)) fun r49 =>
  B.b (gO (some (w47, false)) (bin .neq (.int .i64) r49.1 (.sv (.int .i64 0))) .dead) fun w50 =>
  B.b ((asB w47).bind fun t => some (if t then (.sv (.bool true)) else w50)) fun w51 =>
  B.b (gO (some (w51, false)) (fa 3 r34.1) .dead) fun w52 =>
  B.b (gO (some (w51, false)) (ld 1 false w52 r49.2) .dead) fun w53 =>
  B.b (gO (some (w51, false)) (ln (.slice 47 5 40 false) w53) .dead) fun w54 =>
  B.b (gO (some (w51, false)) (some w13) .dead) fun w55 =>
  B.b (gO (some (w51, false)) (some w16) .dead) fun w56 =>
  B.b (gO (some (w51, false)) (bin .add (.int .i64) w55 w56) .dead) fun w57 =>
  B.b (gO (some (w51, false)) (fa 3 r1.1) .dead) fun w58 =>
  B.b (gO (some (w51, false)) (ld 1 false w58 r49.2) .dead) fun w59 =>
  B.b (gO (some (w51, false)) (ln (.slice 47 5 40 false) w59) .dead) fun w60 =>
  B.b (gO (some (w51, false)) (bin .add (.int .i64) w57 w60) .dead) fun w61 =>
  B.b (gO (some (w51, false)) (bin .neq (.int .i64) w54 w61) .dead) fun w62 =>
  B.b ((asB w51).bind fun t => some (if t then (.sv (.bool true)) else w62)) fun w63 =>
  B.b (asB w63) fun t64 =>
  if t64 then (some ((.sv (.bool false)), r49.2)) else
  B.b (fa 3 r1.1) fun w65 =>
  B.b (ld 1 false w65 r49.2) fun w66 =>
  B.b (ln (.slice 47 5 40 false) w66) fun w67 =>
  B.b (L (fun s => f7_b0 B C L s.tm s.h) ⟨(upd (upd (upd (upd (upd (upd (upd (upd (upd (upd (upd (upd (upd (upd (upd (upd (upd (upd (upd (upd (upd (upd (upd (upd (upd (upd (upd (upd (upd (upd (upd (upd (upd (upd (upd (upd (upd (upd (upd (upd (upd (upd (upd (upd (upd (upd (upd (upd (upd (upd (upd (upd (upd (upd (upd (upd (upd (upd (upd (upd (upd (upd (upd (upd (upd (upd (upd (upd (upd (upd (upd (upd (upd (upd (upd (upd (upd (upd (upd (upd (upd (upd (upd (upd (upd (upd (init [v0, v1, v2]) 3 r1.1) 6 (.sv (.bool false))) 23 r2.1) 7 r2.1) 24 w3) 25 r4.1) 26 w5) 27 w5) 28 w6) 29 r7.1) 30 w8) 31 w9) 33 v1) 34 w11) 35 w12) 36 w13) 1 w13) 37 v2) 38 w14) 39 w15) 40 w16) 2 w16) 42 w17) 43 w13) 44 r18.1) 41 r18.1) 45 w19) 46 w20) 8 r21.1) 9 w20) 48 w23) 49 w16) 50 r24.1) 47 r24.1) 51 w25) 52 w26) 10 r27.1) 11 w26) 54 w29) 55 w13) 56 w16) 57 w30) 58 r31.1) 53 r31.1) 59 w32) 60 w33) 12 r34.1) 13 w33) 61 w20) 62 w36) 63 w36) 64 w37) 65 w38) 66 w39) 67 w39) 68 w40) 69 w41) 70 w42) 71 w42) 72 w43) 73 w44) 74 r45.1) 75 w46) 76 w47) 77 w47) 78 w48) 79 r49.1) 80 w50) 81 w51) 82 w51) 83 w52) 84 w53) 85 w54) 86 w55) 87 w56) 88 w57) 89 w58) 90 w59) 91 w60) 92 w61) 93 w62) 94 w63) 95 w65) 96 w66) 97 w67) 98 (.sv (.int .i64 0))), r49.2⟩) fun r125 => (outBlock 0 (outSeq (f7_k2 B C L) (endK B tab [.tmp 6]))) r125.1 r125.2.tm r125.2.h
theorem f7_eq (B : BindS) (C : CallF) (L : LoopF) (v0 : AV) (v1 : AV) (v2 : AV) (h : Heap) : evFunc B tab shared C L noD Try.f7 [v0, v1, v2] h = f7_sh B C L v0 v1 v2 h := by kernel_rfl

/-! purfle/purflelaw14.CodeBack -/
noncomputable def f12_k0 (B : BindS) (C : CallF) (L : LoopF) (tm : Tm) (h : Heap) : Option (AV × Heap) :=
  B.b (C 33 [(tm 1)] h) fun r37 =>
  B.b (ex 0 r37.1) fun w38 =>
  B.b (ex 1 r37.1) fun w39 =>
  B.b (ex 2 r37.1) fun w40 =>
  B.b (storeA 4 (tm 2) w38 r37.2) fun r41 =>
  B.b (bin .neq (.int .i64) w40 (.sv (.int .i64 0))) fun w42 =>
  B.b (asB w42) fun t43 =>
  if t43 then (B.b (gO (some ((tm 5), true)) (fa 3 (tm 2)) .dead) fun w44 =>
  B.b (gO (some ((tm 5), true)) (ld 1 false w44 r41.2) .dead) fun w45 =>
  B.b (gO (some ((tm 5), true)) (ln (.slice 47 5 40 false) w45) .dead) fun w46 =>
  B.b (gO (some ((tm 5), true)) (bin .eql (.int .i64) w46 (.sv (.int .i64 0))) .dead) fun w47 =>
  B.b ((asB (tm 5)).bind fun t => some (if t then w47 else (.sv (.bool false)))) fun w48 =>
  some (w48, r41.2)) else
  B.b (ld 4 true (tm 2) r41.2) fun w49 =>
  B.b (C 62 [w49] r41.2) fun r50 =>
  B.b (ex 0 r50.1) fun w51 =>
  B.b (ex 1 r50.1) fun w52 =>
  B.b (C 33 [w51] r50.2) fun r53 =>
  B.b (ex 0 r53.1) fun w54 =>
  B.b (ex 1 r53.1) fun w55 =>
  B.b (ex 2 r53.1) fun w56 =>
  B.b (alloc [.sv (.int .i64 0), .sv (.int .i64 0), .sv (.int .i64 0), .nil] r53.2) fun r57 =>
  B.b (storeA 4 r57.1 w54 r57.2) fun r58 =>
  B.b (gO (some ((tm 5), true)) (some w52) .dead) fun w59 =>
  B.b (gO (some ((tm 5), true)) (bin .eql (.int .i64) w59 (.sv (.int .i64 0))) .dead) fun w60 =>
  B.b ((asB (tm 5)).bind fun t => some (if t then w60 else (.sv (.bool false)))) fun w61 =>
  B.b (gO (some (w61, true)) (some w56) .dead) fun w62 =>
  B.b (gO (some (w61, true)) (bin .eql (.int .i64) w62 (.sv (.int .i64 0))) .dead) fun w63 =>
  B.b ((asB w61).bind fun t => some (if t then w63 else (.sv (.bool false)))) fun w64 =>
  B.b (gO (some (w64, true)) (ld 4 true (tm 2) r58.2) .dead) fun w65 =>
  B.b (gO (some (w64, true)) (ld 4 true r57.1 r58.2) .dead) fun w66 =>
  B.b (gO (some (w64, true)) (C 42 [w65, w66] r58.2) (.dead, r58.2)) fun r67 =>
  B.b ((asB w64).bind fun t => some (if t then r67.1 else (.sv (.bool false)))) fun w68 =>
  some (w68, r67.2)

noncomputable def f12_sh (B : BindS) (C : CallF) (L : LoopF) (v0 : AV) (v1 : AV) (h : Heap) : Option (AV × Heap) :=
  B.b (boxA 4 v0 h) fun r1 =>
  B.b (C 32 [] r1.2) fun r2 =>
  B.b (ld 4 true r1.1 r2.2) fun w3 =>
  B.b (C 36 [w3] r2.2) fun r4 =>
  B.b (un .not r4.1) fun w5 =>
  B.b (gO (some (w5, false)) (some v1) .dead) fun w6 =>
  B.b (gO (some (w5, false)) (ln .str w6) .dead) fun w7 =>
  B.b (gO (some (w5, false)) (bin .gtr (.int .i64) w7 (.sv (.int .i64 20000))) .dead) fun w8 =>
  B.b ((asB w5).bind fun t => some (if t then (.sv (.bool true)) else w8)) fun w9 =>
  B.b (asB w9) fun t10 =>
  if t10 then (some (r2.1, r4.2)) else
  B.b (ld 4 true r1.1 r4.2) fun w11 =>
  B.b (C 62 [w11] r4.2) fun r12 =>
  B.b (ex 0 r12.1) fun w13 =>
  B.b (ex 1 r12.1) fun w14 =>
  B.b (bin .eql (.int .i64) w14 (.sv (.int .i64 0))) fun w15 =>
  B.b (asB w15) fun t16 =>
  if t16 then (B.b (C 33 [w13] r12.2) fun r17 =>
  B.b (ex 0 r17.1) fun w18 =>
  B.b (ex 1 r17.1) fun w19 =>
  B.b (ex 2 r17.1) fun w20 =>
  B.b (alloc [.sv (.int .i64 0), .sv (.int .i64 0), .sv (.int .i64 0), .nil] r17.2) fun r21 =>
  B.b (storeA 4 r21.1 w18 r21.2) fun r22 =>
  B.b (bin .neq (.int .i64) w20 (.sv (.int .i64 0))) fun w23 =>
  B.b (gO (some (w23, false)) (some w19) .dead) fun w24 =>
  B.b (gO (some (w23, false)) (fa 3 r1.1) .dead) fun w25 =>
  B.b (gO (some (w23, false)) (ld 1 false w25 r22.2) .dead) fun w26 =>
  B.b (gO (some (w23, false)) (ln (.slice 47 5 40 false) w26) .dead) fun w27 =>
  B.b (gO (some (w23, false)) (bin .add (.int .i64) w27 (.sv (.int .i64 1))) .dead) fun w28 =>
  B.b (gO (some (w23, false)) (bin .neq (.int .i64) w24 w28) .dead) fun w29 =>
  B.b ((asB w23).bind fun t => some (if t then (.sv (.bool true)) else w29)) fun w30 =>
  B.b (gO (some (w30, false)) (ld 4 true r1.1 r22.2) .dead) fun w31 =>
  B.b (gO (some (w30, false)) (ld 4 true r21.1 r22.2) .dead) fun w32 =>
  B.b (gO (some (w30, false)) (C 42 [w31, w32] r22.2) (.dead, r22.2)) fun r33 =>
  B.b (gO (some (w30, false)) (un .not r33.1) .dead) fun w34 =>
  B.b ((asB w30).bind fun t => some (if t then (.sv (.bool true)) else w34)) fun w35 =>
  B.b (asB w35) fun t36 =>
  if t36 then (some ((.sv (.bool false)), r33.2)) else
  f12_k0 B C L (upd (upd (upd (upd (upd (upd (upd (upd (upd (upd (upd (upd (upd (upd (upd (upd (upd (upd (upd (upd (upd (upd (upd (upd (upd (upd (upd (upd (upd (upd (upd (upd (upd (upd (upd (upd (upd (upd (upd (upd (upd (upd (upd (upd (upd (upd (init [v0, v1]) 2 r1.1) 4 (.sv (.bool false))) 18 r2.1) 5 r2.1) 19 w3) 20 r4.1) 21 w5) 22 w5) 23 w6) 24 w7) 25 w8) 26 w9) 29 w11) 30 r12.1) 28 r12.1) 31 w13) 32 w14) 6 w13) 7 w14) 33 w14) 34 w15) 36 w13) 37 r17.1) 35 r17.1) 38 w18) 39 w19) 40 w20) 8 r21.1) 9 w19) 10 w20) 41 w20) 42 w23) 43 w23) 44 w24) 45 w25) 46 w26) 47 w27) 48 w28) 49 w29) 50 w30) 51 w30) 52 w31) 53 w32) 54 r33.1) 55 w34) 56 w35) r33.2) else
  f12_k0 B C L (upd (upd (upd (upd (upd (upd (upd (upd (upd (upd (upd (upd (upd (upd (upd (upd (upd (upd (upd (upd (upd (init [v0, v1]) 2 r1.1) 4 (.sv (.bool false))) 18 r2.1) 5 r2.1) 19 w3) 20 r4.1) 21 w5) 22 w5) 23 w6) 24 w7) 25 w8) 26 w9) 29 w11) 30 r12.1) 28 r12.1) 31 w13) 32 w14) 6 w13) 7 w14) 33 w14) 34 w15) r12.2
theorem f12_eq (B : BindS) (C : CallF) (L : LoopF) (v0 : AV) (v1 : AV) (h : Heap) : evFunc B tab shared C L noD Try.f12 [v0, v1] h = f12_sh B C L v0 v1 h := by kernel_rfl

/-! purfle/purflelaw14.CodeLines -/
noncomputable def f13_b1 (B : BindS) (C : CallF) (L : LoopF) (tm : Tm) (h : Heap) : Option (Out × St) :=
  B.b (bin .add (.int .i64) (tm 10) (.sv (.int .i64 1))) fun w28 =>
  B.b (bin .lss (.int .i64) w28 (tm 8)) fun w29 =>
  B.b (asB w29) fun t30 =>
  if t30 then (B.b (ix .str (tm 4) (tm 10)) fun w31 =>
  B.b (bin .eql (.int .u8) w31 (.sv (.int .u8 32))) fun w32 =>
  B.b (gO (some (w32, true)) (some (tm 4)) .dead) fun w33 =>
  B.b (gO (some (w32, true)) (some (tm 10)) .dead) fun w34 =>
  B.b (gO (some (w32, true)) (bin .add (.int .i64) w34 (.sv (.int .i64 1))) .dead) fun w35 =>
  B.b (gO (some (w32, true)) (ix .str w33 w35) .dead) fun w36 =>
  B.b (gO (some (w32, true)) (bin .eql (.int .u8) w36 (.sv (.int .u8 114))) .dead) fun w37 =>
  B.b ((asB w32).bind fun t => some (if t then w37 else (.sv (.bool false)))) fun w38 =>
  B.b (asB w38) fun t39 =>
  if t39 then (B.b (bin .add (.int .i64) (tm 9) (.sv (.int .i64 1))) fun w40 =>
  B.b (bin .add (.int .i64) (tm 10) (.sv (.int .i64 1))) fun w41 =>
  some (.normal, ⟨(upd (upd (upd (upd (upd (upd (upd (upd (upd (upd (upd (upd (upd (upd (upd (upd (upd (upd (upd (upd (upd tm 49 (tm 10)) 50 w28) 51 (tm 8)) 52 w29) 55 (tm 4)) 56 (tm 10)) 57 w31) 58 w32) 59 w32) 60 w33) 61 w34) 62 w35) 63 w36) 64 w37) 65 w38) 66 (tm 9)) 67 w40) 9 w40) 53 (tm 10)) 54 w41) 10 w41), h⟩)) else
  B.b (bin .add (.int .i64) (tm 10) (.sv (.int .i64 1))) fun w42 =>
  some (.normal, ⟨(upd (upd (upd (upd (upd (upd (upd (upd (upd (upd (upd (upd (upd (upd (upd (upd (upd (upd tm 49 (tm 10)) 50 w28) 51 (tm 8)) 52 w29) 55 (tm 4)) 56 (tm 10)) 57 w31) 58 w32) 59 w32) 60 w33) 61 w34) 62 w35) 63 w36) 64 w37) 65 w38) 53 (tm 10)) 54 w42) 10 w42), h⟩)) else
  some (.exit 2, ⟨(upd (upd (upd (upd tm 49 (tm 10)) 50 w28) 51 (tm 8)) 52 w29), h⟩)

noncomputable def f13_k0 (B : BindS) (C : CallF) (L : LoopF) (tm : Tm) (h : Heap) : Option (Out × St) :=
  B.b (bin .gtr (.int .i64) (tm 6) (.sv (.int .i64 0))) fun w44 =>
  B.b (asB w44) fun t45 =>
  if t45 then (B.b (fa 3 (tm 1)) fun w46 =>
  B.b (ld 1 false w46 h) fun w47 =>
  B.b (ln (.slice 47 5 40 false) w47) fun w48 =>
  B.b (bin .gtr (.int .i64) (tm 6) w48) fun w49 =>
  B.b (asB w49) fun t50 =>
  if t50 then (some (.ret, ⟨(upd (upd (upd (upd (upd (upd (upd (upd tm 68 (tm 6)) 69 w44) 70 (tm 6)) 71 w46) 72 w47) 73 w48) 74 w49) 2 (.sv (.bool false))), h⟩)) else
  B.b (fa 3 (tm 1)) fun w51 =>
  B.b (ld 1 false w51 h) fun w52 =>
  B.b (bin .sub (.int .i64) (tm 6) (.sv (.int .i64 1))) fun w53 =>
  B.b (ia (.slice 47 5 40 false) w52 w53) fun w54 =>
  B.b (ld 5 true w54 h) fun w55 =>
  B.b (alloc [.sv (.int .i64 0), .sv (.int .i64 0), .sv (.int .i64 0), .sv (.int .i64 0), .sv (.int .i64 0)] h) fun r56 =>
  B.b (storeA 5 r56.1 w55 r56.2) fun r57 =>
  B.b (ld 5 true r56.1 r57.2) fun w58 =>
  B.b (C 38 [w58] r57.2) fun r59 =>
  B.b (ln (.slice 3 1 8 false) r59.1) fun w60 =>
  B.b (ld 5 true r56.1 r59.2) fun w61 =>
  B.b (C 39 [w61] r59.2) fun r62 =>
  B.b (ex 0 r62.1) fun w63 =>
  B.b (ex 1 r62.1) fun w64 =>
  B.b (asB w64) fun t65 =>
  if t65 then (B.b (bin .add (.int .i64) w60 (.sv (.int .i64 1))) fun w66 =>
  B.b (bin .neq (.int .i64) (tm 9) w66) fun w67 =>
  B.b (asB w67) fun t68 =>
  if t68 then (some (.ret, ⟨(upd (upd (upd (upd (upd (upd (upd (upd (upd (upd (upd (upd (upd (upd (upd (upd (upd (upd (upd (upd (upd (upd (upd (upd (upd (upd (upd (upd (upd (upd (upd (upd (upd tm 68 (tm 6)) 69 w44) 70 (tm 6)) 71 w46) 72 w47) 73 w48) 74 w49) 75 w51) 76 w52) 77 (tm 6)) 78 w53) 79 w54) 80 w55) 11 r56.1) 81 w58) 82 r59.1) 83 w60) 12 w60) 85 w61) 86 r62.1) 84 r62.1) 87 w63) 88 w64) 13 w63) 14 w64) 89 w64) 90 w60) 91 w66) 12 w66) 92 (tm 9)) 93 w66) 94 w67) 2 (.sv (.bool false))), r62.2⟩)) else
  B.b (bin .add (.int .i64) (tm 6) (.sv (.int .i64 1))) fun w69 =>
  B.b (bin .add (.int .i64) (tm 8) (.sv (.int .i64 1))) fun w70 =>
  B.b (bin .add (.int .i64) (tm 8) (.sv (.int .i64 1))) fun w71 =>
  some (.normal, ⟨(upd (upd (upd (upd (upd (upd (upd (upd (upd (upd (upd (upd (upd (upd (upd (upd (upd (upd (upd (upd (upd (upd (upd (upd (upd (upd (upd (upd (upd (upd (upd (upd (upd (upd (upd (upd (upd (upd (upd (upd (upd tm 68 (tm 6)) 69 w44) 70 (tm 6)) 71 w46) 72 w47) 73 w48) 74 w49) 75 w51) 76 w52) 77 (tm 6)) 78 w53) 79 w54) 80 w55) 11 r56.1) 81 w58) 82 r59.1) 83 w60) 12 w60) 85 w61) 86 r62.1) 84 r62.1) 87 w63) 88 w64) 13 w63) 14 w64) 89 w64) 90 w60) 91 w66) 12 w66) 92 (tm 9)) 93 w66) 94 w67) 95 (tm 6)) 96 w69) 6 w69) 97 (tm 8)) 98 w70) 7 w70) 36 (tm 8)) 37 w71) 8 w71), r62.2⟩)) else
  B.b (bin .neq (.int .i64) (tm 9) w60) fun w72 =>
  B.b (asB w72) fun t73 =>
  if t73 then (some (.ret, ⟨(upd (upd (upd (upd (upd (upd (upd (upd (upd (upd (upd (upd (upd (upd (upd (upd (upd (upd (upd (upd (upd (upd (upd (upd (upd (upd (upd (upd (upd (upd tm 68 (tm 6)) 69 w44) 70 (tm 6)) 71 w46) 72 w47) 73 w48) 74 w49) 75 w51) 76 w52) 77 (tm 6)) 78 w53) 79 w54) 80 w55) 11 r56.1) 81 w58) 82 r59.1) 83 w60) 12 w60) 85 w61) 86 r62.1) 84 r62.1) 87 w63) 88 w64) 13 w63) 14 w64) 89 w64) 92 (tm 9)) 93 w60) 94 w72) 2 (.sv (.bool false))), r62.2⟩)) else
  B.b (bin .add (.int .i64) (tm 6) (.sv (.int .i64 1))) fun w74 =>
  B.b (bin .add (.int .i64) (tm 8) (.sv (.int .i64 1))) fun w75 =>
  B.b (bin .add (.int .i64) (tm 8) (.sv (.int .i64 1))) fun w76 =>
  some (.normal, ⟨(upd (upd (upd (upd (upd (upd (upd (upd (upd (upd (upd (upd (upd (upd (upd (upd (upd (upd (upd (upd (upd (upd (upd (upd (upd (upd (upd (upd (upd (upd (upd (upd (upd (upd (upd (upd (upd (upd tm 68 (tm 6)) 69 w44) 70 (tm 6)) 71 w46) 72 w47) 73 w48) 74 w49) 75 w51) 76 w52) 77 (tm 6)) 78 w53) 79 w54) 80 w55) 11 r56.1) 81 w58) 82 r59.1) 83 w60) 12 w60) 85 w61) 86 r62.1) 84 r62.1) 87 w63) 88 w64) 13 w63) 14 w64) 89 w64) 92 (tm 9)) 93 w60) 94 w72) 95 (tm 6)) 96 w74) 6 w74) 97 (tm 8)) 98 w75) 7 w75) 36 (tm 8)) 37 w76) 8 w76), r62.2⟩)) else
  B.b (bin .add (.int .i64) (tm 6) (.sv (.int .i64 1))) fun w77 =>
  B.b (bin .add (.int .i64) (tm 8) (.sv (.int .i64 1))) fun w78 =>
  B.b (bin .add (.int .i64) (tm 8) (.sv (.int .i64 1))) fun w79 =>
  some (.normal, ⟨(upd (upd (upd (upd (upd (upd (upd (upd (upd (upd (upd tm 68 (tm 6)) 69 w44) 95 (tm 6)) 96 w77) 6 w77) 97 (tm 8)) 98 w78) 7 w78) 36 (tm 8)) 37 w79) 8 w79), h⟩)

noncomputable def f13_k1 (B : BindS) (C : CallF) (L : LoopF) (tm : Tm) (h : Heap) : Option (Out × St) :=
  B.b (bin .add (.int .i64) (tm 8) (.sv (.int .i64 1))) fun w80 =>
  some (.normal, ⟨(upd (upd (upd tm 36 (tm 8)) 37 w80) 8 w80), h⟩)

noncomputable def f13_b0 (B : BindS) (C : CallF) (L : LoopF) (tm : Tm) (h : Heap) : Option (Out × St) :=
  B.b (ln .str (tm 4)) fun w16 =>
  B.b (bin .leq (.int .i64) (tm 8) w16) fun w17 =>
  B.b (asB w17) fun t18 =>
  if t18 then (B.b (ln .str (tm 4)) fun w19 =>
  B.b (bin .lss (.int .i64) (tm 8) w19) fun w20 =>
  B.b (gO (some (w20, true)) (some (tm 4)) .dead) fun w21 =>
  B.b (gO (some (w20, true)) (some (tm 8)) .dead) fun w22 =>
  B.b (gO (some (w20, true)) (ix .str w21 w22) .dead) fun w23 =>
  B.b (gO (some (w20, true)) (bin .neq (.int .u8) w23 (.sv (.int .u8 10))) .dead) fun w24 =>
  B.b ((asB w20).bind fun t => some (if t then w24 else (.sv (.bool false)))) fun w25 =>
  B.b (asB w25) fun t26 =>
  if t26 then (B.b (bin .add (.int .i64) (tm 8) (.sv (.int .i64 1))) fun w27 =>
  some (.normal, ⟨(upd (upd (upd (upd (upd (upd (upd (upd (upd (upd (upd (upd (upd (upd (upd (upd (upd tm 32 (tm 8)) 33 (tm 4)) 34 w16) 35 w17) 38 (tm 8)) 39 (tm 4)) 40 w19) 41 w20) 42 w20) 43 w21) 44 w22) 45 w23) 46 w24) 47 w25) 36 (tm 8)) 37 w27) 8 w27), h⟩)) else
  B.b (L (fun s => f13_b1 B C L s.tm s.h) ⟨(upd (upd (upd (upd (upd (upd (upd (upd (upd (upd (upd (upd (upd (upd (upd (upd (upd tm 32 (tm 8)) 33 (tm 4)) 34 w16) 35 w17) 38 (tm 8)) 39 (tm 4)) 40 w19) 41 w20) 42 w20) 43 w21) 44 w22) 45 w23) 46 w24) 47 w25) 9 (.sv (.int .i64 0))) 48 (tm 7)) 10 (tm 7)), h⟩) fun r43 => (outBlock 2 (outSeq (f13_k0 B C L) (outBlock 1 (outSeq (f13_k1 B C L) outK)))) r43.1 r43.2.tm r43.2.h) else
  some (.exit 0, ⟨(upd (upd (upd (upd tm 32 (tm 8)) 33 (tm 4)) 34 w16) 35 w17), h⟩)

noncomputable def f13_k2 (B : BindS) (C : CallF) (L : LoopF) (tm : Tm) (h : Heap) : Option (AV × Heap) :=
  B.b (gO (some ((tm 3), true)) (some (tm 6)) .dead) fun w82 =>
  B.b (gO (some ((tm 3), true)) (fa 3 (tm 1)) .dead) fun w83 =>
  B.b (gO (some ((tm 3), true)) (ld 1 false w83 h) .dead) fun w84 =>
  B.b (gO (some ((tm 3), true)) (ln (.slice 47 5 40 false) w84) .dead) fun w85 =>
  B.b (gO (some ((tm 3), true)) (bin .add (.int .i64) w85 (.sv (.int .i64 1))) .dead) fun w86 =>
  B.b (gO (some ((tm 3), true)) (bin .eql (.int .i64) w82 w86) .dead) fun w87 =>
  B.b ((asB (tm 3)).bind fun t => some (if t then w87 else (.sv (.bool false)))) fun w88 =>
  some (w88, h)

noncomputable def f13_sh (B : BindS) (C : CallF) (L : LoopF) (v0 : AV) (h : Heap) : Option (AV × Heap) :=
  B.b (boxA 4 v0 h) fun r1 =>
  B.b (C 32 [] r1.2) fun r2 =>
  B.b (ld 4 true r1.1 r2.2) fun w3 =>
  B.b (C 36 [w3] r2.2) fun r4 =>
  B.b (un .not r4.1) fun w5 =>
  B.b (asB w5) fun t6 =>
  if t6 then (some (r2.1, r4.2)) else
  B.b (ld 4 true r1.1 r4.2) fun w7 =>
  B.b (C 62 [w7] r4.2) fun r8 =>
  B.b (ex 0 r8.1) fun w9 =>
  B.b (ex 1 r8.1) fun w10 =>
  B.b (bin .neq (.int .i64) w10 (.sv (.int .i64 0))) fun w11 =>
  B.b (asB w11) fun t12 =>
  if t12 then (B.b (gO (some (r2.1, true)) (some w9) .dead) fun w13 =>
  B.b (gO (some (r2.1, true)) (bin .eql .str w13 (.sv (.str []))) .dead) fun w14 =>
  B.b ((asB r2.1).bind fun t => some (if t then w14 else (.sv (.bool false)))) fun w15 =>
  some (w15, r8.2)) else
  B.b (L (fun s => f13_b0 B C L s.tm s.h) ⟨(upd (upd (upd (upd (upd (upd (upd (upd (upd (upd (upd (upd (upd (upd (upd (upd (upd (upd (upd (init [v0]) 1 r1.1) 2 (.sv (.bool false))) 15 r2.1) 3 r2.1) 16 w3) 17 r4.1) 18 w5) 21 w7) 22 r8.1) 20 r8.1) 23 w9) 24 w10) 4 w9) 5 w10) 25 w10) 26 w11) 6 (.sv (.int .i64 0))) 7 (.sv (.int .i64 0))) 8 (.sv (.int .i64 0))), r8.2⟩) fun r81 => (outBlock 0 (outSeq (f13_k2 B C L) (endK B tab [.tmp 2]))) r81.1 r81.2.tm r81.2.h
theorem f13_eq (B : BindS) (C : CallF) (L : LoopF) (v0 : AV) (h : Heap) : evFunc B tab shared C L noD Try.f13 [v0] h = f13_sh B C L v0 h := by kernel_rfl

/-! purfle/purflelaw14.CodeTells -/

noncomputable def f17_sh (B : BindS) (C : CallF) (L : LoopF) (v0 : AV) (v1 : AV) (v2 : AV) (v3 : AV) (v4 : AV) (h : Heap) : Option (AV × Heap) :=
  B.b (boxA 4 v0 h) fun r1 =>
  B.b (boxA 4 v1 r1.2) fun r2 =>
  B.b (boxA 5 v2 r2.2) fun r3 =>
  B.b (C 32 [] r3.2) fun r4 =>
  B.b (ld 4 true r1.1 r4.2) fun w5 =>
  B.b (C 36 [w5] r4.2) fun r6 =>
  B.b (un .not r6.1) fun w7 =>
  B.b (gO (some (w7, false)) (ld 4 true r2.1 r6.2) .dead) fun w8 =>
  B.b (gO (some (w7, false)) (C 36 [w8] r6.2) (.dead, r6.2)) fun r9 =>
  B.b (gO (some (w7, false)) (un .not r9.1) .dead) fun w10 =>
  B.b ((asB w7).bind fun t => some (if t then (.sv (.bool true)) else w10)) fun w11 =>
  B.b (gO (some (w11, false)) (some v4) .dead) fun w12 =>
  B.b (gO (some (w11, false)) (bin .gtr (.int .i64) w12 (.sv (.int .i64 300))) .dead) fun w13 =>
  B.b (gO (some (w11, false)) (some w13) .dead) fun w14 =>
  B.b (gO (some (w14, true)) (some v4) .dead) fun w15 =>
  B.b (gO (some (w14, true)) (bin .leq (.int .i64) w15 (.sv (.int .i64 4096))) .dead) fun w16 =>
  B.b (gO (some (w11, false)) ((asB w14).bind fun t => some (if t then w16 else (.sv (.bool false)))) .dead) fun w17 =>
  B.b ((asB w11).bind fun t => some (if t then (.sv (.bool true)) else w17)) fun w18 =>
  B.b (asB w18) fun t19 =>
  if t19 then (some (r4.1, r9.2)) else
  B.b (ld 4 true r1.1 r9.2) fun w20 =>
  B.b (C 62 [w20] r9.2) fun r21 =>
  B.b (ex 0 r21.1) fun w22 =>
  B.b (ex 1 r21.1) fun w23 =>
  B.b (ld 4 true r1.1 r21.2) fun w24 =>
  B.b (C 73 [w24] r21.2) fun r25 =>
  B.b (ex 0 r25.1) fun w26 =>
  B.b (ex 1 r25.1) fun w27 =>
  B.b (ld 4 true r1.1 r25.2) fun w28 =>
  B.b (C 41 [w28, v4] r25.2) fun r29 =>
  B.b (ex 0 r29.1) fun w30 =>
  B.b (ex 1 r29.1) fun w31 =>
  B.b (alloc [.sv (.int .i64 0), .sv (.int .i64 0), .sv (.int .i64 0), .nil] r29.2) fun r32 =>
  B.b (storeA 4 r32.1 w30 r32.2) fun r33 =>
  B.b (ld 4 true r1.1 r33.2) fun w34 =>
  B.b (C 74 [w34, v4] r33.2) fun r35 =>
  B.b (ex 0 r35.1) fun w36 =>
  B.b (ex 1 r35.1) fun w37 =>
  B.b (alloc [.sv (.int .i64 0), .sv (.int .i64 0), .sv (.int .i64 0), .nil] r35.2) fun r38 =>
  B.b (storeA 4 r38.1 w36 r38.2) fun r39 =>
  B.b (ld 5 true r3.1 r39.2) fun w40 =>
  B.b (C 39 [w40] r39.2) fun r41 =>
  B.b (ex 0 r41.1) fun w42 =>
  B.b (ex 1 r41.1) fun w43 =>
  B.b (ld 5 true r3.1 r41.2) fun w44 =>
  B.b (C 75 [w44] r41.2) fun r45 =>
  B.b (ex 0 r45.1) fun w46 =>
  B.b (ex 1 r45.1) fun w47 =>
  B.b (gO (some (r4.1, true)) (some w22) .dead) fun w48 =>
  B.b (gO (some (r4.1, true)) (some w26) .dead) fun w49 =>
  B.b (gO (some (r4.1, true)) (bin .eql .str w48 w49) .dead) fun w50 =>
  B.b ((asB r4.1).bind fun t => some (if t then w50 else (.sv (.bool false)))) fun w51 =>
  B.b (gO (some (w51, true)) (some w23) .dead) fun w52 =>
  B.b (gO (some (w51, true)) (some w27) .dead) fun w53 =>
  B.b (gO (some (w51, true)) (bin .eql (.int .i64) w52 w53) .dead) fun w54 =>
  B.b ((asB w51).bind fun t => some (if t then w54 else (.sv (.bool false)))) fun w55 =>
  B.b (gO (some (w55, true)) (ld 4 true r32.1 r45.2) .dead) fun w56 =>
  B.b (gO (some (w55, true)) (ld 4 true r38.1 r45.2) .dead) fun w57 =>
  B.b (gO (some (w55, true)) (C 35 [w56, w57] []) (.dead, [])) fun r58 =>
  B.b ((asB w55).bind fun t => some (if t then r58.1 else (.sv (.bool false)))) fun w59 =>
  B.b (gO (some (w59, true)) (some w31) .dead) fun w60 =>
  B.b (gO (some (w59, true)) (some w37) .dead) fun w61 =>
  B.b (gO (some (w59, true)) (bin .eql (.int .i64) w60 w61) .dead) fun w62 =>
  B.b ((asB w59).bind fun t => some (if t then w62 else (.sv (.bool false)))) fun w63 =>
  B.b (gO (some (w63, true)) (some w42) .dead) fun w64 =>
  B.b (gO (some (w63, true)) (some w46) .dead) fun w65 =>
  B.b (gO (some (w63, true)) (bin .eql (.int .i64) w64 w65) .dead) fun w66 =>
  B.b ((asB w63).bind fun t => some (if t then w66 else (.sv (.bool false)))) fun w67 =>
  B.b (gO (some (w67, true)) (some w43) .dead) fun w68 =>
  B.b (gO (some (w67, true)) (some w47) .dead) fun w69 =>
  B.b (gO (some (w67, true)) (bin .eql .bool w68 w69) .dead) fun w70 =>
  B.b ((asB w67).bind fun t => some (if t then w70 else (.sv (.bool false)))) fun w71 =>
  B.b (gO (some (w71, true)) (ld 5 true r3.1 r45.2) .dead) fun w72 =>
  B.b (gO (some (w71, true)) (C 38 [w72] []) (.dead, [])) fun r73 =>
  B.b (gO (some (w71, true)) (ld 5 true r3.1 r45.2) .dead) fun w74 =>
  B.b (gO (some (w71, true)) (C 76 [w74] []) (.dead, [])) fun r75 =>
  B.b (gO (some (w71, true)) (C 43 [r73.1, r75.1] []) (.dead, [])) fun r76 =>
  B.b ((asB w71).bind fun t => some (if t then r76.1 else (.sv (.bool false)))) fun w77 =>
  B.b (gO (some (w77, true)) (ld 5 true r3.1 r45.2) .dead) fun w78 =>
  B.b (gO (some (w77, true)) (some v3) .dead) fun w79 =>
  B.b (gO (some (w77, true)) (C 40 [w78, w79] r45.2) (.dead, r45.2)) fun r80 =>
  B.b (gO (some (w77, true)) (ld 5 true r3.1 r80.2) .dead) fun w81 =>
  gPast (some (w77, true)) 5 true r3.1 w81 [r45.2] (B.b (gO (some (w77, true)) (some v3) .dead) fun w82 =>
  B.b (gO (some (w77, true)) (C 77 [w81, w82] []) (.dead, [])) fun r83 =>
  B.b (gO (some (w77, true)) (C 43 [r80.1, r83.1] []) (.dead, [])) fun r84 =>
  B.b ((asB w77).bind fun t => some (if t then r84.1 else (.sv (.bool false)))) fun w85 =>
  B.b (gO (some (w85, true)) (ld 4 true r1.1 r80.2) .dead) fun w86 =>
  B.b (gO (some (w85, true)) (C 37 [w86] []) (.dead, [])) fun r87 =>
  B.b (gO (some (w85, true)) (ld 4 true r1.1 r80.2) .dead) fun w88 =>
  B.b (gO (some (w85, true)) (C 78 [w88] []) (.dead, [])) fun r89 =>
  B.b (gO (some (w85, true)) (bin .eql (.int .i64) r87.1 r89.1) .dead) fun w90 =>
  B.b ((asB w85).bind fun t => some (if t then w90 else (.sv (.bool false)))) fun w91 =>
  B.b (gO (some (w91, true)) (ld 4 true r1.1 r80.2) .dead) fun w92 =>
  B.b (gO (some (w91, true)) (ld 4 true r2.1 r80.2) .dead) fun w93 =>
  B.b (gO (some (w91, true)) (C 42 [w92, w93] []) (.dead, [])) fun r94 =>
  B.b (gO (some (w91, true)) (ld 4 true r1.1 r80.2) .dead) fun w95 =>
  B.b (gO (some (w91, true)) (ld 4 true r2.1 r80.2) .dead) fun w96 =>
  B.b (gO (some (w91, true)) (C 35 [w95, w96] []) (.dead, [])) fun r97 =>
  B.b (gO (some (w91, true)) (bin .eql .bool r94.1 r97.1) .dead) fun w98 =>
  B.b ((asB w91).bind fun t => some (if t then w98 else (.sv (.bool false)))) fun w99 =>
  some (w99, r80.2))
theorem f17_eq (B : BindS) (C : CallF) (L : LoopF) (v0 : AV) (v1 : AV) (v2 : AV) (v3 : AV) (v4 : AV) (h : Heap) : evFunc B tab shared C L noD Try.f17 [v0, v1, v2, v3, v4] h = f17_sh B C L v0 v1 v2 v3 v4 h := by kernel_rfl

/-! purfle/purflelaw14.live -/

noncomputable def f32_sh (B : BindS) (C : CallF) (L : LoopF) (h : Heap) : Option (AV × Heap) :=
  B.b (C 33 [(.sv (.str [99, 111, 100, 101, 32, 49, 32, 48, 32, 48, 10, 104, 97, 108, 116]))] h) fun r1 =>
  B.b (ex 0 r1.1) fun w2 =>
  B.b (ex 1 r1.1) fun w3 =>
  B.b (ex 2 r1.1) fun w4 =>
  B.b (alloc [.sv (.int .i64 0), .sv (.int .i64 0), .sv (.int .i64 0), .nil] r1.2) fun r5 =>
  B.b (storeA 4 r5.1 w2 r5.2) fun r6 =>
  B.b (bin .eql (.int .i64) w3 (.sv (.int .i64 2))) fun w7 =>
  B.b (gO (some (w7, true)) (some w4) .dead) fun w8 =>
  B.b (gO (some (w7, true)) (bin .eql (.int .i64) w8 (.sv (.int .i64 0))) .dead) fun w9 =>
  B.b ((asB w7).bind fun t => some (if t then w9 else (.sv (.bool false)))) fun w10 =>
  B.b (gO (some (w10, true)) (fa 0 r5.1) .dead) fun w11 =>
  B.b (gO (some (w10, true)) (ld 1 false w11 r6.2) .dead) fun w12 =>
  B.b (gO (some (w10, true)) (bin .eql (.int .i64) w12 (.sv (.int .i64 1))) .dead) fun w13 =>
  B.b ((asB w10).bind fun t => some (if t then w13 else (.sv (.bool false)))) fun w14 =>
  B.b (gO (some (w14, true)) (fa 3 r5.1) .dead) fun w15 =>
  B.b (gO (some (w14, true)) (ld 1 false w15 r6.2) .dead) fun w16 =>
  B.b (gO (some (w14, true)) (ln (.slice 47 5 40 false) w16) .dead) fun w17 =>
  B.b (gO (some (w14, true)) (bin .eql (.int .i64) w17 (.sv (.int .i64 1))) .dead) fun w18 =>
  B.b ((asB w14).bind fun t => some (if t then w18 else (.sv (.bool false)))) fun w19 =>
  B.b (gO (some (w19, true)) (ld 4 true r5.1 r6.2) .dead) fun w20 =>
  B.b (gO (some (w19, true)) (C 37 [w20] r6.2) (.dead, r6.2)) fun r21 =>
  B.b (gO (some (w19, true)) (bin .eql (.int .i64) r21.1 (.sv (.int .i64 0))) .dead) fun w22 =>
  B.b ((asB w19).bind fun t => some (if t then w22 else (.sv (.bool false)))) fun w23 =>
  some (w23, r21.2)
theorem f32_eq (B : BindS) (C : CallF) (L : LoopF) (h : Heap) : evFunc B tab shared C L noD Try.f32 [] h = f32_sh B C L h := by kernel_rfl

end Go.Proofs.Ytmhamnnfcmkcfaa

/- Functions as the abstract interpreter comes to them: printed by wip/tools/gensh.py. -/
set_option linter.unusedVariables false
set_option maxRecDepth 100000
namespace Go.Proofs.Ytmhamnnfcmkcfaa

/-! purfle/purfleref14.word -/

noncomputable def f135_sh (B : BindS) (C : CallF) (L : LoopF) (v0 : AV) (h : Heap) : Option (AV × Heap) :=
  B.b (bsA (.slice 9 1 16 false) (some [.sv (.str [])]) 13 [(0, (.sv (.str [104, 97, 108, 116]))), (1, (.sv (.str [115, 101, 116]))), (2, (.sv (.str [109, 111, 118, 101]))), (3, (.sv (.str [97, 100, 100]))), (4, (.sv (.str [115, 117, 98]))), (5, (.sv (.str [109, 117, 108]))), (6, (.sv (.str [108, 111, 97, 100]))), (7, (.sv (.str [115, 116, 111, 114, 101]))), (8, (.sv (.str [108, 101, 110]))), (9, (.sv (.str [112, 117, 115, 104]))), (10, (.sv (.str [106, 117, 109, 112]))), (11, (.sv (.str [108, 101, 115, 115]))), (12, (.sv (.str [115, 97, 109, 101])))] h) fun r1 =>
  B.b (bsA (.slice 9 1 16 false) (some [.sv (.str [])]) 13 [(0, (.sv (.str []))), (1, (.sv (.str [119, 110]))), (2, (.sv (.str [119, 114]))), (3, (.sv (.str [119, 114, 114]))), (4, (.sv (.str [119, 114, 114]))), (5, (.sv (.str [119, 114, 114]))), (6, (.sv (.str [119, 97, 114]))), (7, (.sv (.str [97, 114, 114]))), (8, (.sv (.str [119, 97]))), (9, (.sv (.str [97, 114]))), (10, (.sv (.str [112]))), (11, (.sv (.str [114, 114, 112]))), (12, (.sv (.str [114, 114, 112])))] r1.2) fun r2 =>
  B.b (bin .lss (.int .i64) v0 (.sv (.int .i64 0))) fun w3 =>
  B.b (gO (some (w3, false)) (some v0) .dead) fun w4 =>
  B.b (gO (some (w3, false)) (some r1.1) .dead) fun w5 =>
  B.b (gO (some (w3, false)) (ln (.slice 9 1 16 false) w5) .dead) fun w6 =>
  B.b (gO (some (w3, false)) (bin .geq (.int .i64) w4 w6) .dead) fun w7 =>
  B.b ((asB w3).bind fun t => some (if t then (.sv (.bool true)) else w7)) fun w8 =>
  B.b (asB w8) fun t9 =>
  if t9 then (some (.tuple [(.sv (.str [])), (.sv (.str []))], r2.2)) else
  B.b (ia (.slice 9 1 16 false) r1.1 v0) fun w10 =>
  B.b (ld 1 false w10 r2.2) fun w11 =>
  B.b (ia (.slice 9 1 16 false) r2.1 v0) fun w12 =>
  B.b (ld 1 false w12 r2.2) fun w13 =>
  some (.tuple [w11, w13], r2.2)
theorem f135_eq (B : BindS) (C : CallF) (L : LoopF) (v0 : AV) (h : Heap) : evFunc B tab shared C L noD Try.f135 [v0] h = f135_sh B C L v0 h := by kernel_rfl

/-! purfle/purfleref14.fields -/

noncomputable def f136_sh (B : BindS) (C : CallF) (L : LoopF) (v0 : AV) (h : Heap) : Option (AV × Heap) :=
  B.b (boxA 5 v0 h) fun r1 =>
  B.b (fa 1 r1.1) fun w2 =>
  B.b (ld 1 false w2 r1.2) fun w3 =>
  B.b (fa 2 r1.1) fun w4 =>
  B.b (ld 1 false w4 r1.2) fun w5 =>
  B.b (fa 3 r1.1) fun w6 =>
  B.b (ld 1 false w6 r1.2) fun w7 =>
  B.b (bsA (.slice 3 1 8 false) (some [.sv (.int .i64 0)]) 3 [(0, w3), (1, w5), (2, w7)] r1.2) fun r8 =>
  some (r8.1, r8.2)
theorem f136_eq (B : BindS) (C : CallF) (L : LoopF) (v0 : AV) (h : Heap) : evFunc B tab shared C L noD Try.f136 [v0] h = f136_sh B C L v0 h := by kernel_rfl

/-! purfle/purfleref14.op -/
noncomputable def f151_b0 (B : BindS) (C : CallF) (L : LoopF) (tm : Tm) (h : Heap) : Option (Out × St) :=
  B.b (bin .lss (.int .i64) (tm 6) (.sv (.int .i64 13))) fun w1 =>
  B.b (asB w1) fun t2 =>
  if t2 then (B.b (C 135 [(tm 6)] h) fun r3 =>
  B.b (ex 0 r3.1) fun w4 =>
  B.b (ex 1 r3.1) fun w5 =>
  B.b (bin .eql .str w4 (tm 0)) fun w6 =>
  B.b (asB w6) fun t7 =>
  if t7 then (some (.ret, ⟨(upd (upd (upd (upd (upd (upd (upd (upd (upd (upd (upd (upd (upd (upd (upd tm 7 w1) 8 (tm 6)) 3 (tm 6)) 10 (tm 6)) 11 r3.1) 9 r3.1) 12 w4) 13 w5) 4 w4) 5 w5) 14 w4) 15 (tm 0)) 16 w6) 17 (tm 6)) 2 (tm 6)), r3.2⟩)) else
  B.b (bin .add (.int .i64) (tm 6) (.sv (.int .i64 1))) fun w8 =>
  some (.normal, ⟨(upd (upd (upd (upd (upd (upd (upd (upd (upd (upd (upd (upd (upd (upd (upd tm 7 w1) 8 (tm 6)) 3 (tm 6)) 10 (tm 6)) 11 r3.1) 9 r3.1) 12 w4) 13 w5) 4 w4) 5 w5) 14 w4) 15 (tm 0)) 16 w6) 18 w8) 6 w8), r3.2⟩)) else
  some (.exit 0, ⟨(upd tm 7 w1), h⟩)

noncomputable def f151_k0 (B : BindS) (C : CallF) (L : LoopF) (tm : Tm) (h : Heap) : Option (AV × Heap) :=
  some ((.sv (.int .i64 (-1))), h)

noncomputable def f151_sh (B : BindS) (C : CallF) (L : LoopF) (v0 : AV) (h : Heap) : Option (AV × Heap) :=
  B.b (L (fun s => f151_b0 B C L s.tm s.h) ⟨(upd (upd (init [v0]) 2 (.sv (.int .i64 0))) 6 (.sv (.int .i64 0))), h⟩) fun r9 => (outBlock 0 (outSeq (f151_k0 B C L) (endK B tab [.tmp 2]))) r9.1 r9.2.tm r9.2.h
theorem f151_eq (B : BindS) (C : CallF) (L : LoopF) (v0 : AV) (h : Heap) : evFunc B tab shared C L noD Try.f151 [v0] h = f151_sh B C L v0 h := by kernel_rfl

/-! purfle/purfleref14.behind -/

noncomputable def f152_sh (B : BindS) (C : CallF) (L : LoopF) (v0 : AV) (v1 : AV) (h : Heap) : Option (AV × Heap) :=
  B.b (boxA 3 v0 h) fun r1 =>
  B.b (fa 0 r1.1) fun w2 =>
  B.b (ld 1 false w2 r1.2) fun w3 =>
  B.b (bin .neq (.int .i64) w3 (.sv (.int .i64 1))) fun w4 =>
  B.b (gO (some (w4, false)) (fa 1 r1.1) .dead) fun w5 =>
  B.b (gO (some (w4, false)) (ld 1 false w5 r1.2) .dead) fun w6 =>
  B.b (gO (some (w4, false)) (sl .str w6 none (some (.sv (.int .i64 1))) r1.2) .dead) fun w7 =>
  B.b (gO (some (w4, false)) (some v1) .dead) fun w8 =>
  B.b (gO (some (w4, false)) (bin .neq .str w7 w8) .dead) fun w9 =>
  B.b ((asB w4).bind fun t => some (if t then (.sv (.bool true)) else w9)) fun w10 =>
  B.b (asB w10) fun t11 =>
  if t11 then (some (.tuple [(.sv (.int .i64 0)), (.sv (.bool false))], r1.2)) else
  B.b (fa 1 r1.1) fun w12 =>
  B.b (ld 1 false w12 r1.2) fun w13 =>
  B.b (sl .str w13 (some (.sv (.int .i64 1))) none r1.2) fun w14 =>
  B.b (C 93 [w14] r1.2) fun r15 =>
  B.b (ex 0 r15.1) fun w16 =>
  B.b (ex 1 r15.1) fun w17 =>
  some (.tuple [w16, w17], r15.2)
theorem f152_eq (B : BindS) (C : CallF) (L : LoopF) (v0 : AV) (v1 : AV) (h : Heap) : evFunc B tab shared C L noD Try.f152 [v0, v1] h = f152_sh B C L v0 v1 h := by kernel_rfl

/-! purfle/purfleref14.ins -/
noncomputable def f99_k1 (B : BindS) (C : CallF) (L : LoopF) (tm : Tm) (h : Heap) : Option (Out × St) :=
  B.b (un .not (tm 9)) fun w58 =>
  B.b (asB w58) fun t59 =>
  if t59 then (B.b (ld 5 true (tm 4) h) fun w60 =>
  B.b (storeA 5 (tm 2) w60 h) fun r61 =>
  some (.ret, ⟨(upd (upd (upd (upd tm 139 (tm 9)) 140 w58) 141 w60) 3 (.sv (.bool false))), r61.2⟩)) else
  B.b (sl (.slice 35 3 32 false) (tm 0) (some (.sv (.int .i64 1))) none h) fun w62 =>
  B.b (bin .add (.int .i64) (tm 46) (.sv (.int .i64 1))) fun w63 =>
  some (.normal, ⟨(upd (upd (upd (upd (upd (upd (upd tm 139 (tm 9)) 140 w58) 142 (tm 0)) 143 w62) 0 w62) 144 w63) 46 w63), h⟩)

noncomputable def f99_k0 (B : BindS) (C : CallF) (L : LoopF) (tm : Tm) (h : Heap) : Option (Out × St) :=
  B.b (asB (tm 61)) fun t50 =>
  if t50 then (B.b (ia (.slice 35 3 32 false) (tm 0) (.sv (.int .i64 0))) fun w51 =>
  B.b (ld 3 true w51 h) fun w52 =>
  B.b (C 152 [w52, (.sv (.str [114]))] h) fun r53 =>
  B.b (ex 0 r53.1) fun w54 =>
  B.b (ex 1 r53.1) fun w55 =>
  B.b (ia (.slice 3 1 8 false) (tm 7) (tm 8)) fun w56 =>
  B.b (storeA 1 w56 w54 r53.2) fun r57 =>
  f99_k1 B C L (upd (upd (upd (upd (upd (upd (upd (upd (upd (upd (upd tm 65 (tm 7)) 66 (tm 8)) 67 (tm 0)) 68 w51) 69 w52) 70 r53.1) 64 r53.1) 71 w54) 72 w55) 73 w56) 9 w55) r57.2) else
  B.b (bin .eql (.int .u8) (tm 60) (.sv (.int .u8 97))) fun w64 =>
  B.b (asB w64) fun t65 =>
  if t65 then (B.b (ia (.slice 35 3 32 false) (tm 0) (.sv (.int .i64 0))) fun w66 =>
  B.b (ld 3 true w66 h) fun w67 =>
  B.b (C 152 [w67, (.sv (.str [97]))] h) fun r68 =>
  B.b (ex 0 r68.1) fun w69 =>
  B.b (ex 1 r68.1) fun w70 =>
  B.b (ia (.slice 3 1 8 false) (tm 7) (tm 8)) fun w71 =>
  B.b (storeA 1 w71 w69 r68.2) fun r72 =>
  f99_k1 B C L (upd (upd (upd (upd (upd (upd (upd (upd (upd (upd (upd (upd (upd tm 75 w64) 74 w64) 77 (tm 7)) 78 (tm 8)) 79 (tm 0)) 80 w66) 81 w67) 82 r68.1) 76 r68.1) 83 w69) 84 w70) 85 w71) 9 w70) r72.2) else
  B.b (bin .eql (.int .u8) (tm 60) (.sv (.int .u8 112))) fun w73 =>
  B.b (asB w73) fun t74 =>
  if t74 then (B.b (ia (.slice 35 3 32 false) (tm 0) (.sv (.int .i64 0))) fun w75 =>
  B.b (fa 2 w75) fun w76 =>
  B.b (ld 1 false w76 h) fun w77 =>
  B.b (ia (.slice 3 1 8 false) (tm 7) (tm 8)) fun w78 =>
  B.b (storeA 1 w78 w77 h) fun r79 =>
  f99_k1 B C L (upd (upd (upd (upd (upd (upd (upd (upd (upd (upd (upd tm 75 w64) 74 w64) 87 w73) 86 w73) 88 (tm 7)) 89 (tm 8)) 90 (tm 0)) 91 w75) 92 w76) 93 w77) 94 w78) r79.2) else
  B.b (bin .eql (.int .u8) (tm 60) (.sv (.int .u8 110))) fun w80 =>
  B.b (asB w80) fun t81 =>
  if t81 then (B.b (ia (.slice 35 3 32 false) (tm 0) (.sv (.int .i64 0))) fun w82 =>
  B.b (fa 2 w82) fun w83 =>
  B.b (ld 1 false w83 h) fun w84 =>
  B.b (fa 4 (tm 4)) fun w85 =>
  B.b (storeA 1 w85 w84 h) fun r86 =>
  B.b (ia (.slice 35 3 32 false) (tm 0) (.sv (.int .i64 0))) fun w87 =>
  B.b (fa 0 w87) fun w88 =>
  B.b (ld 1 false w88 r86.2) fun w89 =>
  B.b (bin .eql (.int .i64) w89 (.sv (.int .i64 3))) fun w90 =>
  B.b (gO (some (w90, true)) (some (tm 0)) .dead) fun w91 =>
  B.b (gO (some (w90, true)) (ia (.slice 35 3 32 false) w91 (.sv (.int .i64 0))) .dead) fun w92 =>
  B.b (gO (some (w90, true)) (fa 1 w92) .dead) fun w93 =>
  B.b (gO (some (w90, true)) (ld 1 false w93 r86.2) .dead) fun w94 =>
  B.b (gO (some (w90, true)) (bin .eql .str w94 (.sv (.str [45]))) .dead) fun w95 =>
  B.b ((asB w90).bind fun t => some (if t then w95 else (.sv (.bool false)))) fun w96 =>
  B.b (gO (some (w96, true)) (some (tm 0)) .dead) fun w97 =>
  B.b (gO (some (w96, true)) (ln (.slice 35 3 32 false) w97) .dead) fun w98 =>
  B.b (gO (some (w96, true)) (bin .eql (.int .i64) w98 (.sv (.int .i64 2))) .dead) fun w99 =>
  B.b ((asB w96).bind fun t => some (if t then w99 else (.sv (.bool false)))) fun w100 =>
  B.b (asB w100) fun t101 =>
  if t101 then (B.b (sl (.slice 35 3 32 false) (tm 0) (some (.sv (.int .i64 1))) none r86.2) fun w102 =>
  B.b (ia (.slice 35 3 32 false) w102 (.sv (.int .i64 0))) fun w103 =>
  B.b (fa 2 w103) fun w104 =>
  B.b (ld 1 false w104 r86.2) fun w105 =>
  B.b (un .neg w105) fun w106 =>
  B.b (fa 4 (tm 4)) fun w107 =>
  B.b (storeA 1 w107 w106 r86.2) fun r108 =>
  B.b (ia (.slice 35 3 32 false) w102 (.sv (.int .i64 0))) fun w109 =>
  B.b (fa 0 w109) fun w110 =>
  B.b (ld 1 false w110 r108.2) fun w111 =>
  B.b (bin .eql (.int .i64) w111 (.sv (.int .i64 2))) fun w112 =>
  B.b (gO (some (w112, true)) (some w102) .dead) fun w113 =>
  B.b (gO (some (w112, true)) (ia (.slice 35 3 32 false) w113 (.sv (.int .i64 0))) .dead) fun w114 =>
  B.b (gO (some (w112, true)) (fa 2 w114) .dead) fun w115 =>
  B.b (gO (some (w112, true)) (ld 1 false w115 r108.2) .dead) fun w116 =>
  B.b (gO (some (w112, true)) (bin .neq (.int .i64) w116 (.sv (.int .i64 0))) .dead) fun w117 =>
  B.b ((asB w112).bind fun t => some (if t then w117 else (.sv (.bool false)))) fun w118 =>
  f99_k1 B C L (upd (upd (upd (upd (upd (upd (upd (upd (upd (upd (upd (upd (upd (upd (upd (upd (upd (upd (upd (upd (upd (upd (upd (upd (upd (upd (upd (upd (upd (upd (upd (upd (upd (upd (upd (upd (upd (upd (upd (upd (upd (upd (upd (upd (upd (upd (upd (upd (upd (upd tm 75 w64) 74 w64) 87 w73) 86 w73) 96 w80) 95 w80) 97 (tm 0)) 98 w82) 99 w83) 100 w84) 101 w85) 102 (tm 0)) 103 w87) 104 w88) 105 w89) 106 w90) 107 w90) 108 w91) 109 w92) 110 w93) 111 w94) 112 w95) 113 w96) 114 w96) 115 w97) 116 w98) 117 w99) 118 w100) 119 (tm 0)) 120 w102) 0 w102) 121 w102) 122 w103) 123 w104) 124 w105) 125 w106) 126 w107) 127 w102) 128 w109) 129 w110) 130 w111) 131 w112) 132 w112) 133 w113) 134 w114) 135 w115) 136 w116) 137 w117) 138 w118) 9 w118) r108.2) else
  f99_k1 B C L (upd (upd (upd (upd (upd (upd (upd (upd (upd (upd (upd (upd (upd (upd (upd (upd (upd (upd (upd (upd (upd (upd (upd (upd (upd (upd (upd (upd tm 75 w64) 74 w64) 87 w73) 86 w73) 96 w80) 95 w80) 97 (tm 0)) 98 w82) 99 w83) 100 w84) 101 w85) 102 (tm 0)) 103 w87) 104 w88) 105 w89) 106 w90) 107 w90) 108 w91) 109 w92) 110 w93) 111 w94) 112 w95) 113 w96) 114 w96) 115 w97) 116 w98) 117 w99) 118 w100) r86.2) else
  f99_k1 B C L (upd (upd (upd (upd (upd (upd tm 75 w64) 74 w64) 87 w73) 86 w73) 96 w80) 95 w80) h

noncomputable def f99_b0 (B : BindS) (C : CallF) (L : LoopF) (tm : Tm) (h : Heap) : Option (Out × St) :=
  B.b (bin .lss (.int .i64) (tm 46) (tm 45)) fun w36 =>
  B.b (asB w36) fun t37 =>
  if t37 then (B.b (ln (.slice 35 3 32 false) (tm 0)) fun w38 =>
  B.b (bin .eql (.int .i64) w38 (.sv (.int .i64 0))) fun w39 =>
  B.b (asB w39) fun t40 =>
  if t40 then (B.b (ld 5 true (tm 4) h) fun w41 =>
  B.b (storeA 5 (tm 2) w41 h) fun r42 =>
  some (.ret, ⟨(upd (upd (upd (upd (upd (upd (upd (upd tm 47 w36) 48 (tm 46)) 8 (tm 46)) 49 (tm 0)) 50 w38) 51 w39) 52 w41) 3 (.sv (.bool false))), r42.2⟩)) else
  B.b (ia (.slice 35 3 32 false) (tm 0) (.sv (.int .i64 0))) fun w43 =>
  B.b (fa 0 w43) fun w44 =>
  B.b (ld 1 false w44 h) fun w45 =>
  B.b (bin .eql (.int .i64) w45 (.sv (.int .i64 2))) fun w46 =>
  B.b (ix .str (tm 6) (tm 46)) fun w47 =>
  B.b (bin .eql (.int .u8) w47 (.sv (.int .u8 119))) fun w48 =>
  B.b (asB w48) fun t49 =>
  if t49 then (f99_k0 B C L (upd (upd (upd (upd (upd (upd (upd (upd (upd (upd (upd (upd (upd (upd (upd (upd (upd tm 47 w36) 48 (tm 46)) 8 (tm 46)) 49 (tm 0)) 50 w38) 51 w39) 53 (tm 0)) 54 w43) 55 w44) 56 w45) 57 w46) 9 w46) 58 (tm 6)) 59 (tm 46)) 60 w47) 62 w48) 61 w48) h) else
  B.b (bin .eql (.int .u8) w47 (.sv (.int .u8 114))) fun w119 =>
  f99_k0 B C L (upd (upd (upd (upd (upd (upd (upd (upd (upd (upd (upd (upd (upd (upd (upd (upd (upd (upd (upd tm 47 w36) 48 (tm 46)) 8 (tm 46)) 49 (tm 0)) 50 w38) 51 w39) 53 (tm 0)) 54 w43) 55 w44) 56 w45) 57 w46) 9 w46) 58 (tm 6)) 59 (tm 46)) 60 w47) 62 w48) 61 w48) 63 w119) 61 w119) h) else
  some (.exit 0, ⟨(upd tm 47 w36), h⟩)

noncomputable def f99_k2 (B : BindS) (C : CallF) (L : LoopF) (tm : Tm) (h : Heap) : Option (AV × Heap) :=
  B.b (ia (.slice 3 1 8 false) (tm 7) (.sv (.int .i64 0))) fun w121 =>
  B.b (ld 1 false w121 h) fun w122 =>
  B.b (fa 1 (tm 4)) fun w123 =>
  B.b (storeA 1 w123 w122 h) fun r124 =>
  B.b (ia (.slice 3 1 8 false) (tm 7) (.sv (.int .i64 1))) fun w125 =>
  B.b (ld 1 false w125 r124.2) fun w126 =>
  B.b (fa 2 (tm 4)) fun w127 =>
  B.b (storeA 1 w127 w126 r124.2) fun r128 =>
  B.b (ia (.slice 3 1 8 false) (tm 7) (.sv (.int .i64 2))) fun w129 =>
  B.b (ld 1 false w129 r128.2) fun w130 =>
  B.b (fa 3 (tm 4)) fun w131 =>
  B.b (storeA 1 w131 w130 r128.2) fun r132 =>
  B.b (ld 5 true (tm 4) r132.2) fun w133 =>
  B.b (ln (.slice 35 3 32 false) (tm 0)) fun w134 =>
  B.b (bin .eql (.int .i64) w134 (.sv (.int .i64 0))) fun w135 =>
  B.b (storeA 5 (tm 2) w133 r132.2) fun r136 =>
  B.b (ld 5 true (tm 2) r136.2) fun w137 =>
  some (.tuple [w137, w135], r136.2)

noncomputable def f99_sh (B : BindS) (C : CallF) (L : LoopF) (v0 : AV) (h : Heap) : Option (AV × Heap) :=
  B.b (alloc [.sv (.int .i64 0), .sv (.int .i64 0), .sv (.int .i64 0), .sv (.int .i64 0), .sv (.int .i64 0)] h) fun r1 =>
  B.b (ln (.slice 35 3 32 false) v0) fun w2 =>
  B.b (bin .eql (.int .i64) w2 (.sv (.int .i64 0))) fun w3 =>
  B.b (gO (some (w3, false)) (some v0) .dead) fun w4 =>
  B.b (gO (some (w3, false)) (ia (.slice 35 3 32 false) w4 (.sv (.int .i64 0))) .dead) fun w5 =>
  B.b (gO (some (w3, false)) (fa 0 w5) .dead) fun w6 =>
  B.b (gO (some (w3, false)) (ld 1 false w6 r1.2) .dead) fun w7 =>
  B.b (gO (some (w3, false)) (bin .neq (.int .i64) w7 (.sv (.int .i64 1))) .dead) fun w8 =>
  B.b ((asB w3).bind fun t => some (if t then (.sv (.bool true)) else w8)) fun w9 =>
  B.b (gO (some (w9, false)) (some v0) .dead) fun w10 =>
  B.b (gO (some (w9, false)) (ia (.slice 35 3 32 false) w10 (.sv (.int .i64 0))) .dead) fun w11 =>
  B.b (gO (some (w9, false)) (fa 1 w11) .dead) fun w12 =>
  B.b (gO (some (w9, false)) (ld 1 false w12 r1.2) .dead) fun w13 =>
  B.b (gO (some (w9, false)) (C 151 [w13] r1.2) (.dead, r1.2)) fun r14 =>
  B.b (gO (some (w9, false)) (bin .lss (.int .i64) r14.1 (.sv (.int .i64 0))) .dead) fun w15 =>
  B.b ((asB w9).bind fun t => some (if t then (.sv (.bool true)) else w15)) fun w16 =>
  B.b (asB w16) fun t17 =>
  if t17 then (B.b (bdA tab 47 []) fun w18 =>
  B.b (storeA 5 r1.1 w18 r14.2) fun r19 =>
  B.b (ld 5 true r1.1 r19.2) fun w20 =>
  some (.tuple [w20, (.sv (.bool false))], r19.2)) else
  B.b (ia (.slice 35 3 32 false) v0 (.sv (.int .i64 0))) fun w21 =>
  B.b (fa 1 w21) fun w22 =>
  B.b (ld 1 false w22 r14.2) fun w23 =>
  B.b (C 151 [w23] r14.2) fun r24 =>
  B.b (bdA tab 47 [(0, r24.1)]) fun w25 =>
  B.b (alloc [.sv (.int .i64 0), .sv (.int .i64 0), .sv (.int .i64 0), .sv (.int .i64 0), .sv (.int .i64 0)] r24.2) fun r26 =>
  B.b (storeA 5 r26.1 w25 r26.2) fun r27 =>
  B.b (fa 0 r26.1) fun w28 =>
  B.b (ld 1 false w28 r27.2) fun w29 =>
  B.b (C 135 [w29] r27.2) fun r30 =>
  B.b (ex 0 r30.1) fun w31 =>
  B.b (ex 1 r30.1) fun w32 =>
  B.b (sl (.slice 35 3 32 false) v0 (some (.sv (.int .i64 1))) none r30.2) fun w33 =>
  B.b (bsA (.slice 3 1 8 false) (some [.sv (.int .i64 0)]) 3 [(0, (.sv (.int .i64 0))), (1, (.sv (.int .i64 0))), (2, (.sv (.int .i64 0)))] r30.2) fun r34 =>
  B.b (ln .str w32) fun w35 =>
  B.b (L (fun s => f99_b0 B C L s.tm s.h) ⟨(upd (upd (upd (upd (upd (upd (upd (upd (upd (upd (upd (upd (upd (upd (upd (upd (upd (upd (upd (upd (upd (upd (upd (upd (upd (upd (upd (upd (upd (upd (upd (upd (upd (upd (upd (upd (upd (upd (upd (upd (upd (upd (upd (init [v0]) 2 r1.1) 3 (.sv (.bool false))) 10 v0) 11 w2) 12 w3) 13 w3) 14 w4) 15 w5) 16 w6) 17 w7) 18 w8) 19 w9) 20 w9) 21 w10) 22 w11) 23 w12) 24 w13) 25 r14.1) 26 w15) 27 w16) 29 v0) 30 w21) 31 w22) 32 w23) 33 r24.1) 34 w25) 4 r26.1) 36 w28) 37 w29) 38 r30.1) 35 r30.1) 39 w31) 40 w32) 5 w31) 6 w32) 41 v0) 42 w33) 0 w33) 43 r34.1) 7 r34.1) 44 w32) 45 w35) 46 (.sv (.int .i64 0))), r34.2⟩) fun r120 => (outBlock 0 (outSeq (f99_k2 B C L) (endK B tab [.cell 2 47, .tmp 3]))) r120.1 r120.2.tm r120.2.h
theorem f99_eq (B : BindS) (C : CallF) (L : LoopF) (v0 : AV) (h : Heap) : evFunc B tab shared C L noD Try.f99 [v0] h = f99_sh B C L v0 h := by kernel_rfl

/-! purfle/purfleref14.Parse -/
noncomputable def f34_b0 (B : BindS) (C : CallF) (L : LoopF) (tm : Tm) (h : Heap) : Option (Out × St) :=
  B.b (bin .lss (.int .i64) (tm 90) (tm 89)) fun w70 =>
  B.b (asB w70) fun t71 =>
  if t71 then (B.b (ia (.slice 22 1 24 false) (tm 88) (tm 90)) fun w72 =>
  B.b (ld 1 false w72 h) fun w73 =>
  B.b (C 99 [w73] h) fun r74 =>
  B.b (ex 0 r74.1) fun w75 =>
  B.b (ex 1 r74.1) fun w76 =>
  B.b (alloc [.sv (.int .i64 0), .sv (.int .i64 0), .sv (.int .i64 0), .sv (.int .i64 0), .sv (.int .i64 0)] r74.2) fun r77 =>
  B.b (storeA 5 r77.1 w75 r77.2) fun r78 =>
  B.b (un .not w76) fun w79 =>
  B.b (asB w79) fun t80 =>
  if t80 then (B.b (bdA tab 39 []) fun w81 =>
  B.b (bin .add (.int .i64) (tm 90) (.sv (.int .i64 1))) fun w82 =>
  B.b (storeA 4 (tm 2) w81 r78.2) fun r83 =>
  some (.ret, ⟨(upd (upd (upd (upd (upd (upd (upd (upd (upd (upd (upd (upd (upd (upd (upd (upd (upd (upd (upd (upd tm 91 w70) 92 (tm 90)) 93 w72) 94 w73) 11 (tm 90)) 12 w73) 96 w73) 97 r74.1) 95 r74.1) 98 w75) 99 w76) 13 r77.1) 14 w76) 100 w76) 101 w79) 102 w81) 103 (tm 90)) 104 w82) 3 w82) 4 (.sv (.int .i64 6))), r83.2⟩)) else
  B.b (fa 3 (tm 10)) fun w84 =>
  B.b (ld 1 false w84 r78.2) fun w85 =>
  B.b (ld 5 true r77.1 r78.2) fun w86 =>
  B.b (bsA (.slice 47 5 40 false) (some [.sv (.int .i64 0), .sv (.int .i64 0), .sv (.int .i64 0), .sv (.int .i64 0), .sv (.int .i64 0)]) 1 [(0, w86)] r78.2) fun r87 =>
  B.b (apA (.slice 47 5 40 false) w85 r87.1 r87.2) fun r88 =>
  B.b (fa 3 (tm 10)) fun w89 =>
  B.b (storeA 1 w89 r88.1 r88.2) fun r90 =>
  B.b (bin .add (.int .i64) (tm 90) (.sv (.int .i64 1))) fun w91 =>
  some (.normal, ⟨(upd (upd (upd (upd (upd (upd (upd (upd (upd (upd (upd (upd (upd (upd (upd (upd (upd (upd (upd (upd (upd (upd (upd tm 91 w70) 92 (tm 90)) 93 w72) 94 w73) 11 (tm 90)) 12 w73) 96 w73) 97 r74.1) 95 r74.1) 98 w75) 99 w76) 13 r77.1) 14 w76) 100 w76) 101 w79) 105 w84) 106 w85) 107 w86) 108 r87.1) 109 r88.1) 110 w89) 111 w91) 90 w91), r90.2⟩)) else
  some (.exit 0, ⟨(upd tm 91 w70), h⟩)

noncomputable def f34_k0 (B : BindS) (C : CallF) (L : LoopF) (tm : Tm) (h : Heap) : Option (AV × Heap) :=
  B.b (ld 4 true (tm 10) h) fun w93 =>
  B.b (C 78 [w93] h) fun r94 =>
  B.b (bin .neq (.int .i64) r94.1 (.sv (.int .i64 0))) fun w95 =>
  B.b (asB w95) fun t96 =>
  if t96 then (B.b (bdA tab 39 []) fun w97 =>
  B.b (storeA 4 (tm 2) w97 r94.2) fun r98 =>
  B.b (ld 4 true (tm 2) r98.2) fun w99 =>
  some (.tuple [w99, (.sv (.int .i64 0)), (.sv (.int .i64 1))], r98.2)) else
  B.b (ld 4 true (tm 10) r94.2) fun w100 =>
  B.b (ln (.slice 22 1 24 false) (tm 8)) fun w101 =>
  B.b (storeA 4 (tm 2) w100 r94.2) fun r102 =>
  B.b (ld 4 true (tm 2) r102.2) fun w103 =>
  some (.tuple [w103, w101, (.sv (.int .i64 0))], r102.2)

noncomputable def f34_sh (B : BindS) (C : CallF) (L : LoopF) (v0 : AV) (h : Heap) : Option (AV × Heap) :=
  B.b (alloc [.sv (.int .i64 0), .sv (.int .i64 0), .sv (.int .i64 0), .nil] h) fun r1 =>
  B.b (C 98 [v0] r1.2) fun r2 =>
  B.b (ex 0 r2.1) fun w3 =>
  B.b (ex 1 r2.1) fun w4 =>
  B.b (ex 2 r2.1) fun w5 =>
  B.b (bin .neq (.int .i64) w5 (.sv (.int .i64 0))) fun w6 =>
  B.b (asB w6) fun t7 =>
  if t7 then (B.b (bdA tab 39 []) fun w8 =>
  B.b (storeA 4 r1.1 w8 r2.2) fun r9 =>
  B.b (ld 4 true r1.1 r9.2) fun w10 =>
  some (.tuple [w10, w4, w5], r9.2)) else
  B.b (C 29 [w3] r2.2) fun r11 =>
  B.b (ln (.slice 22 1 24 false) r11.1) fun w12 =>
  B.b (bin .eql (.int .i64) w12 (.sv (.int .i64 0))) fun w13 =>
  B.b (asB w13) fun t14 =>
  if t14 then (B.b (bdA tab 39 []) fun w15 =>
  B.b (storeA 4 r1.1 w15 r11.2) fun r16 =>
  B.b (ld 4 true r1.1 r16.2) fun w17 =>
  some (.tuple [w17, (.sv (.int .i64 0)), (.sv (.int .i64 6))], r16.2)) else
  B.b (ia (.slice 22 1 24 false) r11.1 (.sv (.int .i64 0))) fun w18 =>
  B.b (ld 1 false w18 r11.2) fun w19 =>
  B.b (ln (.slice 35 3 32 false) w19) fun w20 =>
  B.b (bin .neq (.int .i64) w20 (.sv (.int .i64 4))) fun w21 =>
  B.b (gO (some (w21, false)) (some w19) .dead) fun w22 =>
  B.b (gO (some (w21, false)) (ia (.slice 35 3 32 false) w22 (.sv (.int .i64 0))) .dead) fun w23 =>
  B.b (gO (some (w21, false)) (fa 0 w23) .dead) fun w24 =>
  B.b (gO (some (w21, false)) (ld 1 false w24 r11.2) .dead) fun w25 =>
  B.b (gO (some (w21, false)) (bin .neq (.int .i64) w25 (.sv (.int .i64 1))) .dead) fun w26 =>
  B.b ((asB w21).bind fun t => some (if t then (.sv (.bool true)) else w26)) fun w27 =>
  B.b (gO (some (w27, false)) (some w19) .dead) fun w28 =>
  B.b (gO (some (w27, false)) (ia (.slice 35 3 32 false) w28 (.sv (.int .i64 0))) .dead) fun w29 =>
  B.b (gO (some (w27, false)) (fa 1 w29) .dead) fun w30 =>
  B.b (gO (some (w27, false)) (ld 1 false w30 r11.2) .dead) fun w31 =>
  B.b (gO (some (w27, false)) (bin .neq .str w31 (.sv (.str [99, 111, 100, 101]))) .dead) fun w32 =>
  B.b ((asB w27).bind fun t => some (if t then (.sv (.bool true)) else w32)) fun w33 =>
  B.b (gO (some (w33, false)) (some w19) .dead) fun w34 =>
  B.b (gO (some (w33, false)) (ia (.slice 35 3 32 false) w34 (.sv (.int .i64 1))) .dead) fun w35 =>
  B.b (gO (some (w33, false)) (fa 0 w35) .dead) fun w36 =>
  B.b (gO (some (w33, false)) (ld 1 false w36 r11.2) .dead) fun w37 =>
  B.b (gO (some (w33, false)) (bin .neq (.int .i64) w37 (.sv (.int .i64 2))) .dead) fun w38 =>
  B.b ((asB w33).bind fun t => some (if t then (.sv (.bool true)) else w38)) fun w39 =>
  B.b (gO (some (w39, false)) (some w19) .dead) fun w40 =>
  B.b (gO (some (w39, false)) (ia (.slice 35 3 32 false) w40 (.sv (.int .i64 2))) .dead) fun w41 =>
  B.b (gO (some (w39, false)) (fa 0 w41) .dead) fun w42 =>
  B.b (gO (some (w39, false)) (ld 1 false w42 r11.2) .dead) fun w43 =>
  B.b (gO (some (w39, false)) (bin .neq (.int .i64) w43 (.sv (.int .i64 2))) .dead) fun w44 =>
  B.b ((asB w39).bind fun t => some (if t then (.sv (.bool true)) else w44)) fun w45 =>
  B.b (gO (some (w45, false)) (some w19) .dead) fun w46 =>
  B.b (gO (some (w45, false)) (ia (.slice 35 3 32 false) w46 (.sv (.int .i64 3))) .dead) fun w47 =>
  B.b (gO (some (w45, false)) (fa 0 w47) .dead) fun w48 =>
  B.b (gO (some (w45, false)) (ld 1 false w48 r11.2) .dead) fun w49 =>
  B.b (gO (some (w45, false)) (bin .neq (.int .i64) w49 (.sv (.int .i64 2))) .dead) fun w50 =>
  B.b ((asB w45).bind fun t => some (if t then (.sv (.bool true)) else w50)) fun w51 =>
  B.b (asB w51) fun t52 =>
  if t52 then (B.b (bdA tab 39 []) fun w53 =>
  B.b (storeA 4 r1.1 w53 r11.2) fun r54 =>
  B.b (ld 4 true r1.1 r54.2) fun w55 =>
  some (.tuple [w55, (.sv (.int .i64 0)), (.sv (.int .i64 6))], r54.2)) else
  B.b (ia (.slice 35 3 32 false) w19 (.sv (.int .i64 1))) fun w56 =>
  B.b (fa 2 w56) fun w57 =>
  B.b (ld 1 false w57 r11.2) fun w58 =>
  B.b (ia (.slice 35 3 32 false) w19 (.sv (.int .i64 2))) fun w59 =>
  B.b (fa 2 w59) fun w60 =>
  B.b (ld 1 false w60 r11.2) fun w61 =>
  B.b (ia (.slice 35 3 32 false) w19 (.sv (.int .i64 3))) fun w62 =>
  B.b (fa 2 w62) fun w63 =>
  B.b (ld 1 false w63 r11.2) fun w64 =>
  B.b (bdA tab 39 [(0, w58), (1, w61), (2, w64)]) fun w65 =>
  B.b (alloc [.sv (.int .i64 0), .sv (.int .i64 0), .sv (.int .i64 0), .nil] r11.2) fun r66 =>
  gChk [⟨1, none, 1, false, w63, w64⟩, ⟨1, none, 1, false, w60, w61⟩, ⟨1, none, 1, false, w57, w58⟩] r66.2 (B.b (storeA 4 r66.1 w65 r66.2) fun r67 =>
  B.b (sl (.slice 22 1 24 false) r11.1 (some (.sv (.int .i64 1))) none r67.2) fun w68 =>
  B.b (ln (.slice 22 1 24 false) w68) fun w69 =>
  B.b (L (fun s => f34_b0 B C L s.tm s.h) ⟨(upd (upd (upd (upd (upd (upd (upd (upd (upd (upd (upd (upd (upd (upd (upd (upd (upd (upd (upd (upd (upd (upd (upd (upd (upd (upd (upd (upd (upd (upd (upd (upd (upd (upd (upd (upd (upd (upd (upd (upd (upd (upd (upd (upd (upd (upd (upd (upd (upd (upd (upd (upd (upd (upd (upd (upd (upd (upd (upd (upd (upd (upd (upd (upd (upd (upd (upd (upd (upd (upd (upd (upd (upd (upd (upd (upd (upd (upd (upd (upd (init [v0]) 2 r1.1) 3 (.sv (.int .i64 0))) 4 (.sv (.int .i64 0))) 16 v0) 17 r2.1) 15 r2.1) 18 w3) 19 w4) 20 w5) 5 w3) 6 w4) 7 w5) 21 w5) 22 w6) 26 w3) 27 r11.1) 8 r11.1) 28 r11.1) 29 w12) 30 w13) 32 r11.1) 33 w18) 34 w19) 9 w19) 35 w19) 36 w20) 37 w21) 38 w21) 39 w22) 40 w23) 41 w24) 42 w25) 43 w26) 44 w27) 45 w27) 46 w28) 47 w29) 48 w30) 49 w31) 50 w32) 51 w33) 52 w33) 53 w34) 54 w35) 55 w36) 56 w37) 57 w38) 58 w39) 59 w39) 60 w40) 61 w41) 62 w42) 63 w43) 64 w44) 65 w45) 66 w45) 67 w46) 68 w47) 69 w48) 70 w49) 71 w50) 72 w51) 74 w19) 75 w56) 76 w57) 77 w58) 78 w19) 79 w59) 80 w60) 81 w61) 82 w19) 83 w62) 84 w63) 85 w64) 86 w65) 10 r66.1) 87 r11.1) 88 w68) 89 w69) 90 (.sv (.int .i64 0))), r67.2⟩) fun r92 => (outBlock 0 (outSeq (f34_k0 B C L) (endK B tab [.cell 2 39, .tmp 3, .tmp 4]))) r92.1 r92.2.tm r92.2.h)
theorem f34_eq (B : BindS) (C : CallF) (L : LoopF) (v0 : AV) (h : Heap) : evFunc B tab shared C L noD Try.f34 [v0] h = f34_sh B C L v0 h := by kernel_rfl

/-! purfle/purfleref14.Same -/
noncomputable def f35_b0 (B : BindS) (C : CallF) (L : LoopF) (tm : Tm) (h : Heap) : Option (Out × St) :=
  B.b (bin .lss (.int .i64) (tm 37) (tm 36)) fun w32 =>
  B.b (asB w32) fun t33 =>
  if t33 then (B.b (fa 3 (tm 2)) fun w34 =>
  B.b (ld 1 false w34 h) fun w35 =>
  B.b (ia (.slice 47 5 40 false) w35 (tm 37)) fun w36 =>
  B.b (ld 5 true w36 h) fun w37 =>
  B.b (fa 3 (tm 3)) fun w38 =>
  B.b (ld 1 false w38 h) fun w39 =>
  B.b (ia (.slice 47 5 40 false) w39 (tm 37)) fun w40 =>
  B.b (ld 5 true w40 h) fun w41 =>
  B.b (bin .neq (.struct (some [.int .i64, .int .i64, .int .i64, .int .i64, .int .i64])) w37 w41) fun w42 =>
  B.b (asB w42) fun t43 =>
  if t43 then (some (.ret, ⟨(upd (upd (upd (upd (upd (upd (upd (upd (upd (upd (upd (upd (upd (upd (upd tm 38 w32) 39 (tm 37)) 5 (tm 37)) 40 w34) 41 w35) 42 (tm 37)) 43 w36) 44 w37) 45 w38) 46 w39) 47 (tm 37)) 48 w40) 49 w41) 50 w42) 4 (.sv (.bool false))), h⟩)) else
  B.b (bin .add (.int .i64) (tm 37) (.sv (.int .i64 1))) fun w44 =>
  some (.normal, ⟨(upd (upd (upd (upd (upd (upd (upd (upd (upd (upd (upd (upd (upd (upd (upd (upd tm 38 w32) 39 (tm 37)) 5 (tm 37)) 40 w34) 41 w35) 42 (tm 37)) 43 w36) 44 w37) 45 w38) 46 w39) 47 (tm 37)) 48 w40) 49 w41) 50 w42) 51 w44) 37 w44), h⟩)) else
  some (.exit 0, ⟨(upd tm 38 w32), h⟩)

noncomputable def f35_k0 (B : BindS) (C : CallF) (L : LoopF) (tm : Tm) (h : Heap) : Option (AV × Heap) :=
  some ((.sv (.bool true)), h)

noncomputable def f35_sh (B : BindS) (C : CallF) (L : LoopF) (v0 : AV) (v1 : AV) (h : Heap) : Option (AV × Heap) :=
  B.b (boxA 4 v0 h) fun r1 =>
  B.b (boxA 4 v1 r1.2) fun r2 =>
  B.b (fa 0 r1.1) fun w3 =>
  B.b (ld 1 false w3 r2.2) fun w4 =>
  B.b (fa 0 r2.1) fun w5 =>
  B.b (ld 1 false w5 r2.2) fun w6 =>
  B.b (bin .neq (.int .i64) w4 w6) fun w7 =>
  B.b (gO (some (w7, false)) (fa 1 r1.1) .dead) fun w8 =>
  B.b (gO (some (w7, false)) (ld 1 false w8 r2.2) .dead) fun w9 =>
  B.b (gO (some (w7, false)) (fa 1 r2.1) .dead) fun w10 =>
  B.b (gO (some (w7, false)) (ld 1 false w10 r2.2) .dead) fun w11 =>
  B.b (gO (some (w7, false)) (bin .neq (.int .i64) w9 w11) .dead) fun w12 =>
  B.b ((asB w7).bind fun t => some (if t then (.sv (.bool true)) else w12)) fun w13 =>
  B.b (gO (some (w13, false)) (fa 2 r1.1) .dead) fun w14 =>
  B.b (gO (some (w13, false)) (ld 1 false w14 r2.2) .dead) fun w15 =>
  B.b (gO (some (w13, false)) (fa 2 r2.1) .dead) fun w16 =>
  B.b (gO (some (w13, false)) (ld 1 false w16 r2.2) .dead) fun w17 =>
  B.b (gO (some (w13, false)) (bin .neq (.int .i64) w15 w17) .dead) fun w18 =>
  B.b ((asB w13).bind fun t => some (if t then (.sv (.bool true)) else w18)) fun w19 =>
  B.b (gO (some (w19, false)) (fa 3 r1.1) .dead) fun w20 =>
  B.b (gO (some (w19, false)) (ld 1 false w20 r2.2) .dead) fun w21 =>
  B.b (gO (some (w19, false)) (ln (.slice 47 5 40 false) w21) .dead) fun w22 =>
  B.b (gO (some (w19, false)) (fa 3 r2.1) .dead) fun w23 =>
  B.b (gO (some (w19, false)) (ld 1 false w23 r2.2) .dead) fun w24 =>
  B.b (gO (some (w19, false)) (ln (.slice 47 5 40 false) w24) .dead) fun w25 =>
  B.b (gO (some (w19, false)) (bin .neq (.int .i64) w22 w25) .dead) fun w26 =>
  B.b ((asB w19).bind fun t => some (if t then (.sv (.bool true)) else w26)) fun w27 =>
  B.b (asB w27) fun t28 =>
  if t28 then (some ((.sv (.bool false)), r2.2)) else
  B.b (fa 3 r1.1) fun w29 =>
  B.b (ld 1 false w29 r2.2) fun w30 =>
  B.b (ln (.slice 47 5 40 false) w30) fun w31 =>
  B.b (L (fun s => f35_b0 B C L s.tm s.h) ⟨(upd (upd (upd (upd (upd (upd (upd (upd (upd (upd (upd (upd (upd (upd (upd (upd (upd (upd (upd (upd (upd (upd (upd (upd (upd (upd (upd (upd (upd (upd (upd (upd (upd (upd (upd (init [v0, v1]) 2 r1.1) 3 r2.1) 4 (.sv (.bool false))) 6 w3) 7 w4) 8 w5) 9 w6) 10 w7) 11 w7) 12 w8) 13 w9) 14 w10) 15 w11) 16 w12) 17 w13) 18 w13) 19 w14) 20 w15) 21 w16) 22 w17) 23 w18) 24 w19) 25 w19) 26 w20) 27 w21) 28 w22) 29 w23) 30 w24) 31 w25) 32 w26) 33 w27) 34 w29) 35 w30) 36 w31) 37 (.sv (.int .i64 0))), r2.2⟩) fun r45 => (outBlock 0 (outSeq (f35_k0 B C L) (endK B tab [.tmp 4]))) r45.1 r45.2.tm r45.2.h
theorem f35_eq (B : BindS) (C : CallF) (L : LoopF) (v0 : AV) (v1 : AV) (h : Heap) : evFunc B tab shared C L noD Try.f35 [v0, v1] h = f35_sh B C L v0 v1 h := by kernel_rfl

/-! purfle/purfleref14.Few -/

noncomputable def f36_sh (B : BindS) (C : CallF) (L : LoopF) (v0 : AV) (h : Heap) : Option (AV × Heap) :=
  B.b (boxA 4 v0 h) fun r1 =>
  B.b (fa 3 r1.1) fun w2 =>
  B.b (ld 1 false w2 r1.2) fun w3 =>
  B.b (ln (.slice 47 5 40 false) w3) fun w4 =>
  B.b (bin .leq (.int .i64) w4 (.sv (.int .i64 300))) fun w5 =>
  some (w5, r1.2)
theorem f36_eq (B : BindS) (C : CallF) (L : LoopF) (v0 : AV) (h : Heap) : evFunc B tab shared C L noD Try.f36 [v0] h = f36_sh B C L v0 h := by kernel_rfl

/-! purfle/purfleref14.may -/
noncomputable def f137_k2 (B : BindS) (C : CallF) (L : LoopF) (tm : Tm) (h : Heap) : Option (Out × St) :=
  B.b (ia (.slice 3 1 8 false) (tm 7) (tm 9)) fun w23 =>
  B.b (ld 1 false w23 h) fun w24 =>
  B.b (bin .lss (.int .i64) w24 (.sv (.int .i64 0))) fun w25 =>
  B.b (gO (some (w25, false)) (some (tm 7)) .dead) fun w26 =>
  B.b (gO (some (w25, false)) (some (tm 9)) .dead) fun w27 =>
  B.b (gO (some (w25, false)) (ia (.slice 3 1 8 false) w26 w27) .dead) fun w28 =>
  B.b (gO (some (w25, false)) (ld 1 false w28 h) .dead) fun w29 =>
  B.b (gO (some (w25, false)) (some (tm 11)) .dead) fun w30 =>
  B.b (gO (some (w25, false)) (bin .geq (.int .i64) w29 w30) .dead) fun w31 =>
  B.b ((asB w25).bind fun t => some (if t then (.sv (.bool true)) else w31)) fun w32 =>
  B.b (asB w32) fun t33 =>
  if t33 then (some (.ret, ⟨(upd (upd (upd (upd (upd (upd (upd (upd (upd (upd (upd (upd (upd (upd tm 49 (tm 7)) 50 (tm 9)) 51 w23) 52 w24) 53 w25) 54 w25) 55 w26) 56 w27) 57 w28) 58 w29) 59 w30) 60 w31) 61 w32) 4 (.sv (.bool false))), h⟩)) else
  B.b (bin .add (.int .i64) (tm 22) (.sv (.int .i64 1))) fun w34 =>
  some (.normal, ⟨(upd (upd (upd (upd (upd (upd (upd (upd (upd (upd (upd (upd (upd (upd (upd tm 49 (tm 7)) 50 (tm 9)) 51 w23) 52 w24) 53 w25) 54 w25) 55 w26) 56 w27) 57 w28) 58 w29) 59 w30) 60 w31) 61 w32) 62 w34) 22 w34), h⟩)

noncomputable def f137_k1 (B : BindS) (C : CallF) (L : LoopF) (tm : Tm) (h : Heap) : Option (Out × St) :=
  B.b (asB (tm 33)) fun t20 =>
  if t20 then (B.b (fa 0 (tm 3)) fun w21 =>
  B.b (ld 1 false w21 h) fun w22 =>
  f137_k2 B C L (upd (upd (upd tm 36 w21) 37 w22) 11 w22) h) else
  B.b (bin .eql (.int .u8) (tm 32) (.sv (.int .u8 97))) fun w35 =>
  B.b (asB w35) fun t36 =>
  if t36 then (B.b (fa 1 (tm 3)) fun w37 =>
  B.b (ld 1 false w37 h) fun w38 =>
  f137_k2 B C L (upd (upd (upd (upd (upd tm 39 w35) 38 w35) 40 w37) 41 w38) 11 w38) h) else
  B.b (bin .eql (.int .u8) (tm 32) (.sv (.int .u8 112))) fun w39 =>
  B.b (asB w39) fun t40 =>
  if t40 then (B.b (fa 3 (tm 3)) fun w41 =>
  B.b (ld 1 false w41 h) fun w42 =>
  B.b (ln (.slice 47 5 40 false) w42) fun w43 =>
  f137_k2 B C L (upd (upd (upd (upd (upd (upd (upd (upd tm 39 w35) 38 w35) 43 w39) 42 w39) 44 w41) 45 w42) 46 w43) 11 w43) h) else
  B.b (bin .eql (.int .u8) (tm 32) (.sv (.int .u8 110))) fun w44 =>
  B.b (asB w44) fun t45 =>
  if t45 then (f137_k2 B C L (upd (upd (upd (upd (upd (upd (upd tm 39 w35) 38 w35) 43 w39) 42 w39) 48 w44) 47 w44) 8 (.sv (.bool true))) h) else
  f137_k2 B C L (upd (upd (upd (upd (upd (upd tm 39 w35) 38 w35) 43 w39) 42 w39) 48 w44) 47 w44) h

noncomputable def f137_k0 (B : BindS) (C : CallF) (L : LoopF) (tm : Tm) (h : Heap) : Option (Out × St) :=
  B.b (bin .eql (.int .u8) (tm 10) (.sv (.int .u8 119))) fun w18 =>
  B.b (asB w18) fun t19 =>
  if t19 then (f137_k1 B C L (upd (upd (upd (upd tm 11 (.sv (.int .i64 1))) 32 (tm 10)) 34 w18) 33 w18) h) else
  B.b (bin .eql (.int .u8) (tm 10) (.sv (.int .u8 114))) fun w46 =>
  f137_k1 B C L (upd (upd (upd (upd (upd (upd tm 11 (.sv (.int .i64 1))) 32 (tm 10)) 34 w18) 33 w18) 35 w46) 33 w46) h

noncomputable def f137_b0 (B : BindS) (C : CallF) (L : LoopF) (tm : Tm) (h : Heap) : Option (Out × St) :=
  B.b (bin .lss (.int .i64) (tm 22) (.sv (.int .i64 3))) fun w12 =>
  B.b (asB w12) fun t13 =>
  if t13 then (B.b (ln .str (tm 6)) fun w14 =>
  B.b (bin .lss (.int .i64) (tm 22) w14) fun w15 =>
  B.b (asB w15) fun t16 =>
  if t16 then (B.b (ix .str (tm 6) (tm 22)) fun w17 =>
  f137_k0 B C L (upd (upd (upd (upd (upd (upd (upd (upd (upd (upd (upd (upd tm 23 w12) 24 (tm 22)) 9 (tm 22)) 10 (.sv (.int .u8 32))) 25 (tm 22)) 26 (tm 6)) 27 w14) 28 w15) 29 (tm 6)) 30 (tm 22)) 31 w17) 10 w17) h) else
  f137_k0 B C L (upd (upd (upd (upd (upd (upd (upd (upd tm 23 w12) 24 (tm 22)) 9 (tm 22)) 10 (.sv (.int .u8 32))) 25 (tm 22)) 26 (tm 6)) 27 w14) 28 w15) h) else
  some (.exit 0, ⟨(upd tm 23 w12), h⟩)

noncomputable def f137_k3 (B : BindS) (C : CallF) (L : LoopF) (tm : Tm) (h : Heap) : Option (AV × Heap) :=
  B.b (un .not (tm 8)) fun w48 =>
  B.b (asB w48) fun t49 =>
  if t49 then (B.b (fa 4 (tm 2)) fun w50 =>
  B.b (ld 1 false w50 h) fun w51 =>
  B.b (bin .eql (.int .i64) w51 (.sv (.int .i64 0))) fun w52 =>
  some (w52, h)) else
  B.b (fa 4 (tm 2)) fun w53 =>
  B.b (ld 1 false w53 h) fun w54 =>
  B.b (bin .gtr (.int .i64) w54 (.sv (.int .i64 (-1000000000000000000)))) fun w55 =>
  B.b (gO (some (w55, true)) (fa 4 (tm 2)) .dead) fun w56 =>
  B.b (gO (some (w55, true)) (ld 1 false w56 h) .dead) fun w57 =>
  B.b (gO (some (w55, true)) (bin .lss (.int .i64) w57 (.sv (.int .i64 1000000000000000000))) .dead) fun w58 =>
  B.b ((asB w55).bind fun t => some (if t then w58 else (.sv (.bool false)))) fun w59 =>
  some (w59, h)

noncomputable def f137_sh (B : BindS) (C : CallF) (L : LoopF) (v0 : AV) (v1 : AV) (h : Heap) : Option (AV × Heap) :=
  B.b (boxA 5 v0 h) fun r1 =>
  B.b (boxA 4 v1 r1.2) fun r2 =>
  B.b (fa 0 r1.1) fun w3 =>
  B.b (ld 1 false w3 r2.2) fun w4 =>
  B.b (C 135 [w4] r2.2) fun r5 =>
  B.b (ex 0 r5.1) fun w6 =>
  B.b (ex 1 r5.1) fun w7 =>
  B.b (bin .eql .str w6 (.sv (.str []))) fun w8 =>
  B.b (asB w8) fun t9 =>
  if t9 then (some ((.sv (.bool false)), r5.2)) else
  B.b (ld 5 true r1.1 r5.2) fun w10 =>
  B.b (C 136 [w10] r5.2) fun r11 =>
  B.b (L (fun s => f137_b0 B C L s.tm s.h) ⟨(upd (upd (upd (upd (upd (upd (upd (upd (upd (upd (upd (upd (upd (upd (upd (upd (upd (upd (init [v0, v1]) 2 r1.1) 3 r2.1) 4 (.sv (.bool false))) 13 w3) 14 w4) 15 r5.1) 12 r5.1) 16 w6) 17 w7) 5 w6) 6 w7) 18 w6) 19 w8) 20 w10) 21 r11.1) 7 r11.1) 8 (.sv (.bool false))) 22 (.sv (.int .i64 0))), r11.2⟩) fun r47 => (outBlock 0 (outSeq (f137_k3 B C L) (endK B tab [.tmp 4]))) r47.1 r47.2.tm r47.2.h
theorem f137_eq (B : BindS) (C : CallF) (L : LoopF) (v0 : AV) (v1 : AV) (h : Heap) : evFunc B tab shared C L noD Try.f137 [v0, v1] h = f137_sh B C L v0 v1 h := by kernel_rfl

/-! purfle/purfleref14.Check -/
noncomputable def f78_b0 (B : BindS) (C : CallF) (L : LoopF) (tm : Tm) (h : Heap) : Option (Out × St) :=
  B.b (bin .lss (.int .i64) (tm 52) (tm 51)) fun w40 =>
  B.b (asB w40) fun t41 =>
  if t41 then (B.b (ia (.slice 47 5 40 false) (tm 50) (tm 52)) fun w42 =>
  B.b (ld 5 true w42 h) fun w43 =>
  B.b (alloc [.sv (.int .i64 0), .sv (.int .i64 0), .sv (.int .i64 0), .sv (.int .i64 0), .sv (.int .i64 0)] h) fun r44 =>
  B.b (storeA 5 r44.1 w43 r44.2) fun r45 =>
  B.b (gO (some ((tm 3), true)) (ld 5 true r44.1 r45.2) .dead) fun w46 =>
  B.b (gO (some ((tm 3), true)) (ld 4 true (tm 1) r45.2) .dead) fun w47 =>
  B.b (gO (some ((tm 3), true)) (C 137 [w46, w47] r45.2) (.dead, r45.2)) fun r48 =>
  B.b ((asB (tm 3)).bind fun t => some (if t then r48.1 else (.sv (.bool false)))) fun w49 =>
  B.b (bin .add (.int .i64) (tm 52) (.sv (.int .i64 1))) fun w50 =>
  some (.normal, ⟨(upd (upd (upd (upd (upd (upd (upd (upd (upd (upd (upd (upd (upd tm 53 w40) 54 w42) 55 w43) 5 r44.1) 56 (tm 3)) 57 (tm 3)) 58 w46) 59 w47) 60 r48.1) 61 w49) 3 w49) 62 w50) 52 w50), r48.2⟩)) else
  some (.exit 0, ⟨(upd tm 53 w40), h⟩)

noncomputable def f78_k0 (B : BindS) (C : CallF) (L : LoopF) (tm : Tm) (h : Heap) : Option (AV × Heap) :=
  B.b (un .not (tm 3)) fun w52 =>
  B.b (asB w52) fun t53 =>
  if t53 then (some ((.sv (.int .i64 1)), h)) else
  B.b (fa 3 (tm 1)) fun w54 =>
  B.b (ld 1 false w54 h) fun w55 =>
  B.b (fa 3 (tm 1)) fun w56 =>
  B.b (ld 1 false w56 h) fun w57 =>
  B.b (ln (.slice 47 5 40 false) w57) fun w58 =>
  B.b (bin .sub (.int .i64) w58 (.sv (.int .i64 1))) fun w59 =>
  B.b (ia (.slice 47 5 40 false) w55 w59) fun w60 =>
  B.b (ld 5 true w60 h) fun w61 =>
  B.b (alloc [.sv (.int .i64 0), .sv (.int .i64 0), .sv (.int .i64 0), .sv (.int .i64 0), .sv (.int .i64 0)] h) fun r62 =>
  B.b (storeA 5 r62.1 w61 r62.2) fun r63 =>
  B.b (fa 0 r62.1) fun w64 =>
  B.b (ld 1 false w64 r63.2) fun w65 =>
  B.b (bin .neq (.int .i64) w65 (.sv (.int .i64 0))) fun w66 =>
  B.b (gO (some (w66, true)) (fa 0 r62.1) .dead) fun w67 =>
  B.b (gO (some (w66, true)) (ld 1 false w67 r63.2) .dead) fun w68 =>
  B.b (gO (some (w66, true)) (bin .neq (.int .i64) w68 (.sv (.int .i64 10))) .dead) fun w69 =>
  B.b ((asB w66).bind fun t => some (if t then w69 else (.sv (.bool false)))) fun w70 =>
  B.b (asB w70) fun t71 =>
  if t71 then (some ((.sv (.int .i64 1)), r63.2)) else
  some ((.sv (.int .i64 0)), r63.2)

noncomputable def f78_sh (B : BindS) (C : CallF) (L : LoopF) (v0 : AV) (h : Heap) : Option (AV × Heap) :=
  B.b (boxA 4 v0 h) fun r1 =>
  B.b (fa 0 r1.1) fun w2 =>
  B.b (ld 1 false w2 r1.2) fun w3 =>
  B.b (bin .geq (.int .i64) w3 (.sv (.int .i64 0))) fun w4 =>
  B.b (gO (some (w4, true)) (fa 0 r1.1) .dead) fun w5 =>
  B.b (gO (some (w4, true)) (ld 1 false w5 r1.2) .dead) fun w6 =>
  B.b (gO (some (w4, true)) (bin .leq (.int .i64) w6 (.sv (.int .i64 128))) .dead) fun w7 =>
  B.b ((asB w4).bind fun t => some (if t then w7 else (.sv (.bool false)))) fun w8 =>
  B.b (gO (some (w8, true)) (fa 1 r1.1) .dead) fun w9 =>
  B.b (gO (some (w8, true)) (ld 1 false w9 r1.2) .dead) fun w10 =>
  B.b (gO (some (w8, true)) (bin .geq (.int .i64) w10 (.sv (.int .i64 0))) .dead) fun w11 =>
  B.b ((asB w8).bind fun t => some (if t then w11 else (.sv (.bool false)))) fun w12 =>
  B.b (gO (some (w12, true)) (fa 1 r1.1) .dead) fun w13 =>
  B.b (gO (some (w12, true)) (ld 1 false w13 r1.2) .dead) fun w14 =>
  B.b (gO (some (w12, true)) (bin .leq (.int .i64) w14 (.sv (.int .i64 128))) .dead) fun w15 =>
  B.b ((asB w12).bind fun t => some (if t then w15 else (.sv (.bool false)))) fun w16 =>
  B.b (gO (some (w16, true)) (fa 2 r1.1) .dead) fun w17 =>
  B.b (gO (some (w16, true)) (ld 1 false w17 r1.2) .dead) fun w18 =>
  B.b (gO (some (w16, true)) (bin .geq (.int .i64) w18 (.sv (.int .i64 0))) .dead) fun w19 =>
  B.b ((asB w16).bind fun t => some (if t then w19 else (.sv (.bool false)))) fun w20 =>
  B.b (gO (some (w20, true)) (fa 2 r1.1) .dead) fun w21 =>
  B.b (gO (some (w20, true)) (ld 1 false w21 r1.2) .dead) fun w22 =>
  B.b (gO (some (w20, true)) (fa 1 r1.1) .dead) fun w23 =>
  B.b (gO (some (w20, true)) (ld 1 false w23 r1.2) .dead) fun w24 =>
  B.b (gO (some (w20, true)) (bin .leq (.int .i64) w22 w24) .dead) fun w25 =>
  B.b ((asB w20).bind fun t => some (if t then w25 else (.sv (.bool false)))) fun w26 =>
  B.b (gO (some (w26, true)) (fa 3 r1.1) .dead) fun w27 =>
  B.b (gO (some (w26, true)) (ld 1 false w27 r1.2) .dead) fun w28 =>
  B.b (gO (some (w26, true)) (ln (.slice 47 5 40 false) w28) .dead) fun w29 =>
  B.b (gO (some (w26, true)) (bin .geq (.int .i64) w29 (.sv (.int .i64 1))) .dead) fun w30 =>
  B.b ((asB w26).bind fun t => some (if t then w30 else (.sv (.bool false)))) fun w31 =>
  B.b (gO (some (w31, true)) (fa 3 r1.1) .dead) fun w32 =>
  B.b (gO (some (w31, true)) (ld 1 false w32 r1.2) .dead) fun w33 =>
  B.b (gO (some (w31, true)) (ln (.slice 47 5 40 false) w33) .dead) fun w34 =>
  B.b (gO (some (w31, true)) (bin .leq (.int .i64) w34 (.sv (.int .i64 4096))) .dead) fun w35 =>
  B.b ((asB w31).bind fun t => some (if t then w35 else (.sv (.bool false)))) fun w36 =>
  B.b (fa 3 r1.1) fun w37 =>
  B.b (ld 1 false w37 r1.2) fun w38 =>
  B.b (ln (.slice 47 5 40 false) w38) fun w39 =>
  B.b (L (fun s => f78_b0 B C L s.tm s.h) ⟨(upd (upd (upd (upd (upd (upd (upd (upd (upd (upd (upd (upd (upd (upd (upd (upd (upd (upd (upd (upd (upd (upd (upd (upd (upd (upd (upd (upd (upd (upd (upd (upd (upd (upd (upd (upd (upd (upd (upd (upd (upd (upd (upd (upd (upd (upd (upd (upd (upd (init [v0]) 1 r1.1) 2 (.sv (.int .i64 0))) 7 w2) 8 w3) 9 w4) 10 w4) 11 w5) 12 w6) 13 w7) 14 w8) 15 w8) 16 w9) 17 w10) 18 w11) 19 w12) 20 w12) 21 w13) 22 w14) 23 w15) 24 w16) 25 w16) 26 w17) 27 w18) 28 w19) 29 w20) 30 w20) 31 w21) 32 w22) 33 w23) 34 w24) 35 w25) 36 w26) 37 w26) 38 w27) 39 w28) 40 w29) 41 w30) 42 w31) 43 w31) 44 w32) 45 w33) 46 w34) 47 w35) 48 w36) 3 w36) 49 w37) 50 w38) 51 w39) 52 (.sv (.int .i64 0))), r1.2⟩) fun r51 => (outBlock 0 (outSeq (f78_k0 B C L) (endK B tab [.tmp 2]))) r51.1 r51.2.tm r51.2.h
theorem f78_eq (B : BindS) (C : CallF) (L : LoopF) (v0 : AV) (h : Heap) : evFunc B tab shared C L noD Try.f78 [v0] h = f78_sh B C L v0 h := by kernel_rfl

/-! purfle/purfleref01.Equal -/
noncomputable def f43_b0 (B : BindS) (C : CallF) (L : LoopF) (tm : Tm) (h : Heap) : Option (Out × St) :=
  B.b (bin .lss (.int .i64) (tm 13) (tm 12)) fun w6 =>
  B.b (asB w6) fun t7 =>
  if t7 then (B.b (ia (.slice 3 1 8 false) (tm 0) (tm 13)) fun w8 =>
  B.b (ld 1 false w8 h) fun w9 =>
  B.b (ia (.slice 3 1 8 false) (tm 1) (tm 13)) fun w10 =>
  B.b (ld 1 false w10 h) fun w11 =>
  B.b (bin .neq (.int .i64) w9 w11) fun w12 =>
  B.b (asB w12) fun t13 =>
  if t13 then (some (.ret, ⟨(upd (upd (upd (upd (upd (upd (upd (upd (upd (upd (upd (upd (upd tm 14 w6) 15 (tm 13)) 5 (tm 13)) 16 (tm 0)) 17 (tm 13)) 18 w8) 19 w9) 20 (tm 1)) 21 (tm 13)) 22 w10) 23 w11) 24 w12) 4 (.sv (.bool false))), h⟩)) else
  B.b (bin .add (.int .i64) (tm 13) (.sv (.int .i64 1))) fun w14 =>
  some (.normal, ⟨(upd (upd (upd (upd (upd (upd (upd (upd (upd (upd (upd (upd (upd (upd tm 14 w6) 15 (tm 13)) 5 (tm 13)) 16 (tm 0)) 17 (tm 13)) 18 w8) 19 w9) 20 (tm 1)) 21 (tm 13)) 22 w10) 23 w11) 24 w12) 25 w14) 13 w14), h⟩)) else
  some (.exit 0, ⟨(upd tm 14 w6), h⟩)

noncomputable def f43_k0 (B : BindS) (C : CallF) (L : LoopF) (tm : Tm) (h : Heap) : Option (AV × Heap) :=
  some ((.sv (.bool true)), h)

noncomputable def f43_sh (B : BindS) (C : CallF) (L : LoopF) (v0 : AV) (v1 : AV) (h : Heap) : Option (AV × Heap) :=
  B.b (ln (.slice 3 1 8 false) v0) fun w1 =>
  B.b (ln (.slice 3 1 8 false) v1) fun w2 =>
  B.b (bin .neq (.int .i64) w1 w2) fun w3 =>
  B.b (asB w3) fun t4 =>
  if t4 then (some ((.sv (.bool false)), h)) else
  B.b (ln (.slice 3 1 8 false) v0) fun w5 =>
  B.b (L (fun s => f43_b0 B C L s.tm s.h) ⟨(upd (upd (upd (upd (upd (upd (upd (upd (upd (init [v0, v1]) 4 (.sv (.bool false))) 6 v0) 7 w1) 8 v1) 9 w2) 10 w3) 11 v0) 12 w5) 13 (.sv (.int .i64 0))), h⟩) fun r15 => (outBlock 0 (outSeq (f43_k0 B C L) (endK B tab [.tmp 4]))) r15.1 r15.2.tm r15.2.h
theorem f43_eq (B : BindS) (C : CallF) (L : LoopF) (v0 : AV) (v1 : AV) (h : Heap) : evFunc B tab shared C L noD Try.f43 [v0, v1] h = f43_sh B C L v0 v1 h := by kernel_rfl

/-! purfle/purfleref14.Reads -/
noncomputable def f76_b0 (B : BindS) (C : CallF) (L : LoopF) (tm : Tm) (h : Heap) : Option (Out × St) :=
  B.b (bin .lss (.int .i64) (tm 15) (tm 14)) fun w8 =>
  B.b (asB w8) fun t9 =>
  if t9 then (B.b (ix .str (tm 4) (tm 15)) fun w10 =>
  B.b (bin .eql (.int .u8) w10 (.sv (.int .u8 114))) fun w11 =>
  B.b (asB w11) fun t12 =>
  if t12 then (B.b (ld 5 true (tm 1) h) fun w13 =>
  B.b (C 136 [w13] h) fun r14 =>
  B.b (ia (.slice 3 1 8 false) r14.1 (tm 15)) fun w15 =>
  B.b (ld 1 false w15 r14.2) fun w16 =>
  B.b (bsA (.slice 3 1 8 false) (some [.sv (.int .i64 0)]) 1 [(0, w16)] r14.2) fun r17 =>
  B.b (apA (.slice 3 1 8 false) (tm 5) r17.1 r17.2) fun r18 =>
  B.b (bin .add (.int .i64) (tm 15) (.sv (.int .i64 1))) fun w19 =>
  some (.normal, ⟨(upd (upd (upd (upd (upd (upd (upd (upd (upd (upd (upd (upd (upd (upd (upd (upd (upd (upd tm 16 w8) 17 (tm 15)) 6 (tm 15)) 18 (tm 4)) 19 (tm 15)) 20 w10) 21 w11) 22 (tm 5)) 23 w13) 24 r14.1) 25 (tm 15)) 26 w15) 27 w16) 28 r17.1) 29 r18.1) 5 r18.1) 30 w19) 15 w19), r18.2⟩)) else
  B.b (bin .add (.int .i64) (tm 15) (.sv (.int .i64 1))) fun w20 =>
  some (.normal, ⟨(upd (upd (upd (upd (upd (upd (upd (upd (upd tm 16 w8) 17 (tm 15)) 6 (tm 15)) 18 (tm 4)) 19 (tm 15)) 20 w10) 21 w11) 30 w20) 15 w20), h⟩)) else
  some (.exit 0, ⟨(upd tm 16 w8), h⟩)

noncomputable def f76_k0 (B : BindS) (C : CallF) (L : LoopF) (tm : Tm) (h : Heap) : Option (AV × Heap) :=
  some ((tm 5), h)

noncomputable def f76_sh (B : BindS) (C : CallF) (L : LoopF) (v0 : AV) (h : Heap) : Option (AV × Heap) :=
  B.b (boxA 5 v0 h) fun r1 =>
  B.b (fa 0 r1.1) fun w2 =>
  B.b (ld 1 false w2 r1.2) fun w3 =>
  B.b (C 135 [w3] r1.2) fun r4 =>
  B.b (ex 0 r4.1) fun w5 =>
  B.b (ex 1 r4.1) fun w6 =>
  B.b (ln .str w6) fun w7 =>
  B.b (L (fun s => f76_b0 B C L s.tm s.h) ⟨(upd (upd (upd (upd (upd (upd (upd (upd (upd (upd (upd (upd (upd (upd (init [v0]) 1 r1.1) 2 .nil) 8 w2) 9 w3) 10 r4.1) 7 r4.1) 11 w5) 12 w6) 3 w5) 4 w6) 5 .nil) 13 w6) 14 w7) 15 (.sv (.int .i64 0))), r4.2⟩) fun r21 => (outBlock 0 (outSeq (f76_k0 B C L) (endK B tab [.tmp 2]))) r21.1 r21.2.tm r21.2.h
theorem f76_eq (B : BindS) (C : CallF) (L : LoopF) (v0 : AV) (h : Heap) : evFunc B tab shared C L noD Try.f76 [v0] h = f76_sh B C L v0 h := by kernel_rfl

/-! purfle/purfleref14.Writes -/

noncomputable def f75_sh (B : BindS) (C : CallF) (L : LoopF) (v0 : AV) (h : Heap) : Option (AV × Heap) :=
  B.b (boxA 5 v0 h) fun r1 =>
  B.b (fa 0 r1.1) fun w2 =>
  B.b (ld 1 false w2 r1.2) fun w3 =>
  B.b (C 135 [w3] r1.2) fun r4 =>
  B.b (ex 0 r4.1) fun w5 =>
  B.b (ex 1 r4.1) fun w6 =>
  B.b (bin .neq .str w6 (.sv (.str []))) fun w7 =>
  B.b (gO (some (w7, true)) (some w6) .dead) fun w8 =>
  B.b (gO (some (w7, true)) (ix .str w8 (.sv (.int .i64 0))) .dead) fun w9 =>
  B.b (gO (some (w7, true)) (bin .eql (.int .u8) w9 (.sv (.int .u8 119))) .dead) fun w10 =>
  B.b ((asB w7).bind fun t => some (if t then w10 else (.sv (.bool false)))) fun w11 =>
  B.b (asB w11) fun t12 =>
  if t12 then (B.b (fa 1 r1.1) fun w13 =>
  B.b (ld 1 false w13 r4.2) fun w14 =>
  some (.tuple [w14, (.sv (.bool true))], r4.2)) else
  some (.tuple [(.sv (.int .i64 0)), (.sv (.bool false))], r4.2)
theorem f75_eq (B : BindS) (C : CallF) (L : LoopF) (v0 : AV) (h : Heap) : evFunc B tab shared C L noD Try.f75 [v0] h = f75_sh B C L v0 h := by kernel_rfl

/-! purfle/purfleref14.Next -/
noncomputable def f77_k0 (B : BindS) (C : CallF) (L : LoopF) (tm : Tm) (h : Heap) : Option (AV × Heap) :=
  B.b (asB (tm 14)) fun t9 =>
  if t9 then (some (.nil, h)) else
  B.b (bin .eql .str (tm 13) (.sv (.str [106, 117, 109, 112]))) fun w10 =>
  B.b (asB w10) fun t11 =>
  if t11 then (B.b (fa 1 (tm 2)) fun w12 =>
  B.b (ld 1 false w12 h) fun w13 =>
  B.b (bsA (.slice 3 1 8 false) (some [.sv (.int .i64 0)]) 1 [(0, w13)] h) fun r14 =>
  some (r14.1, r14.2)) else
  B.b (bin .eql .str (tm 13) (.sv (.str [108, 101, 115, 115]))) fun w15 =>
  B.b (asB w15) fun t16 =>
  if t16 then (B.b (asB w15) fun t17 =>
  if t17 then (B.b (bin .add (.int .i64) (tm 1) (.sv (.int .i64 1))) fun w18 =>
  B.b (fa 3 (tm 2)) fun w19 =>
  B.b (ld 1 false w19 h) fun w20 =>
  B.b (bsA (.slice 3 1 8 false) (some [.sv (.int .i64 0)]) 2 [(0, w18), (1, w20)] h) fun r21 =>
  some (r21.1, r21.2)) else
  B.b (bin .add (.int .i64) (tm 1) (.sv (.int .i64 1))) fun w22 =>
  B.b (bsA (.slice 3 1 8 false) (some [.sv (.int .i64 0)]) 1 [(0, w22)] h) fun r23 =>
  some (r23.1, r23.2)) else
  B.b (bin .eql .str (tm 13) (.sv (.str [115, 97, 109, 101]))) fun w24 =>
  B.b (asB w24) fun t25 =>
  if t25 then (B.b (bin .add (.int .i64) (tm 1) (.sv (.int .i64 1))) fun w26 =>
  B.b (fa 3 (tm 2)) fun w27 =>
  B.b (ld 1 false w27 h) fun w28 =>
  B.b (bsA (.slice 3 1 8 false) (some [.sv (.int .i64 0)]) 2 [(0, w26), (1, w28)] h) fun r29 =>
  some (r29.1, r29.2)) else
  B.b (bin .add (.int .i64) (tm 1) (.sv (.int .i64 1))) fun w30 =>
  B.b (bsA (.slice 3 1 8 false) (some [.sv (.int .i64 0)]) 1 [(0, w30)] h) fun r31 =>
  some (r31.1, r31.2)

noncomputable def f77_sh (B : BindS) (C : CallF) (L : LoopF) (v0 : AV) (v1 : AV) (h : Heap) : Option (AV × Heap) :=
  B.b (boxA 5 v0 h) fun r1 =>
  B.b (fa 0 r1.1) fun w2 =>
  B.b (ld 1 false w2 r1.2) fun w3 =>
  B.b (C 135 [w3] r1.2) fun r4 =>
  B.b (ex 0 r4.1) fun w5 =>
  B.b (ex 1 r4.1) fun w6 =>
  B.b (bin .eql .str w5 (.sv (.str []))) fun w7 =>
  B.b (asB w7) fun t8 =>
  if t8 then (f77_k0 B C L (upd (upd (upd (upd (upd (upd (upd (upd (upd (upd (upd (upd (upd (init [v0, v1]) 2 r1.1) 4 .nil) 8 w2) 9 w3) 10 r4.1) 7 r4.1) 11 w5) 12 w6) 5 w5) 6 w6) 13 w5) 15 w7) 14 w7) r4.2) else
  B.b (bin .eql .str w5 (.sv (.str [104, 97, 108, 116]))) fun w32 =>
  f77_k0 B C L (upd (upd (upd (upd (upd (upd (upd (upd (upd (upd (upd (upd (upd (upd (upd (init [v0, v1]) 2 r1.1) 4 .nil) 8 w2) 9 w3) 10 r4.1) 7 r4.1) 11 w5) 12 w6) 5 w5) 6 w6) 13 w5) 15 w7) 14 w7) 16 w32) 14 w32) r4.2
theorem f77_eq (B : BindS) (C : CallF) (L : LoopF) (v0 : AV) (v1 : AV) (h : Heap) : evFunc B tab shared C L noD Try.f77 [v0, v1] h = f77_sh B C L v0 v1 h := by kernel_rfl

/-! purfle/purfleref14.Shift -/
noncomputable def f74_b0 (B : BindS) (C : CallF) (L : LoopF) (tm : Tm) (h : Heap) : Option (Out × St) :=
  B.b (bin .lss (.int .i64) (tm 37) (tm 36)) fun w34 =>
  B.b (asB w34) fun t35 =>
  if t35 then (B.b (fa 3 (tm 6)) fun w36 =>
  B.b (ld 1 false w36 h) fun w37 =>
  B.b (bin .add (.int .i64) (tm 37) (.sv (.int .i64 1))) fun w38 =>
  B.b (bdA tab 47 [(0, (.sv (.int .i64 10))), (1, w38)]) fun w39 =>
  B.b (bsA (.slice 47 5 40 false) (some [.sv (.int .i64 0), .sv (.int .i64 0), .sv (.int .i64 0), .sv (.int .i64 0), .sv (.int .i64 0)]) 1 [(0, w39)] h) fun r40 =>
  B.b (apA (.slice 47 5 40 false) w37 r40.1 r40.2) fun r41 =>
  B.b (fa 3 (tm 6)) fun w42 =>
  B.b (storeA 1 w42 r41.1 r41.2) fun r43 =>
  B.b (bin .add (.int .i64) (tm 37) (.sv (.int .i64 1))) fun w44 =>
  some (.normal, ⟨(upd (upd (upd (upd (upd (upd (upd (upd (upd (upd (upd (upd (upd tm 38 w34) 39 (tm 37)) 7 (tm 37)) 40 w36) 41 w37) 42 (tm 37)) 43 w38) 44 w39) 45 r40.1) 46 r41.1) 47 w42) 48 w44) 37 w44), r43.2⟩)) else
  some (.exit 0, ⟨(upd tm 38 w34), h⟩)

noncomputable def f74_k1 (B : BindS) (C : CallF) (L : LoopF) (tm : Tm) (h : Heap) : Option (Out × St) :=
  B.b (fa 3 (tm 6)) fun w64 =>
  B.b (ld 1 false w64 h) fun w65 =>
  B.b (ld 5 true (tm 9) h) fun w66 =>
  B.b (bsA (.slice 47 5 40 false) (some [.sv (.int .i64 0), .sv (.int .i64 0), .sv (.int .i64 0), .sv (.int .i64 0), .sv (.int .i64 0)]) 1 [(0, w66)] h) fun r67 =>
  B.b (apA (.slice 47 5 40 false) w65 r67.1 r67.2) fun r68 =>
  B.b (fa 3 (tm 6)) fun w69 =>
  B.b (storeA 1 w69 r68.1 r68.2) fun r70 =>
  B.b (bin .add (.int .i64) (tm 52) (.sv (.int .i64 1))) fun w71 =>
  some (.normal, ⟨(upd (upd (upd (upd (upd (upd (upd (upd tm 73 w64) 74 w65) 75 w66) 76 r67.1) 77 r68.1) 78 w69) 79 w71) 52 w71), r70.2⟩)

noncomputable def f74_b1 (B : BindS) (C : CallF) (L : LoopF) (tm : Tm) (h : Heap) : Option (Out × St) :=
  B.b (bin .lss (.int .i64) (tm 52) (tm 51)) fun w49 =>
  B.b (asB w49) fun t50 =>
  if t50 then (B.b (ia (.slice 47 5 40 false) (tm 50) (tm 52)) fun w51 =>
  B.b (ld 5 true w51 h) fun w52 =>
  B.b (alloc [.sv (.int .i64 0), .sv (.int .i64 0), .sv (.int .i64 0), .sv (.int .i64 0), .sv (.int .i64 0)] h) fun r53 =>
  B.b (storeA 5 r53.1 w52 r53.2) fun r54 =>
  B.b (fa 0 r53.1) fun w55 =>
  B.b (ld 1 false w55 r54.2) fun w56 =>
  B.b (bin .eql (.int .i64) w56 (.sv (.int .i64 10))) fun w57 =>
  B.b (asB w57) fun t58 =>
  if t58 then (B.b (fa 1 r53.1) fun w59 =>
  B.b (ld 1 false w59 r54.2) fun w60 =>
  B.b (bin .add (.int .i64) w60 (tm 1)) fun w61 =>
  B.b (fa 1 r53.1) fun w62 =>
  B.b (storeA 1 w62 w61 r54.2) fun r63 =>
  f74_k1 B C L (upd (upd (upd (upd (upd (upd (upd (upd (upd (upd (upd (upd (upd tm 53 w49) 54 w51) 55 w52) 9 r53.1) 56 w55) 57 w56) 59 w57) 58 w57) 60 w59) 61 w60) 62 (tm 1)) 63 w61) 64 w62) r63.2) else
  B.b (bin .eql (.int .i64) w56 (.sv (.int .i64 11))) fun w72 =>
  B.b (asB w72) fun t73 =>
  if t73 then (B.b (asB w72) fun t74 =>
  if t74 then (B.b (fa 3 r53.1) fun w75 =>
  B.b (ld 1 false w75 r54.2) fun w76 =>
  B.b (bin .add (.int .i64) w76 (tm 1)) fun w77 =>
  B.b (fa 3 r53.1) fun w78 =>
  B.b (storeA 1 w78 w77 r54.2) fun r79 =>
  f74_k1 B C L (upd (upd (upd (upd (upd (upd (upd (upd (upd (upd (upd (upd (upd (upd (upd tm 53 w49) 54 w51) 55 w52) 9 r53.1) 56 w55) 57 w56) 59 w57) 58 w57) 66 w72) 65 w72) 68 w75) 69 w76) 70 (tm 1)) 71 w77) 72 w78) r79.2) else
  f74_k1 B C L (upd (upd (upd (upd (upd (upd (upd (upd (upd (upd tm 53 w49) 54 w51) 55 w52) 9 r53.1) 56 w55) 57 w56) 59 w57) 58 w57) 66 w72) 65 w72) r54.2) else
  B.b (bin .eql (.int .i64) w56 (.sv (.int .i64 12))) fun w80 =>
  B.b (asB w80) fun t81 =>
  if t81 then (B.b (fa 3 r53.1) fun w82 =>
  B.b (ld 1 false w82 r54.2) fun w83 =>
  B.b (bin .add (.int .i64) w83 (tm 1)) fun w84 =>
  B.b (fa 3 r53.1) fun w85 =>
  B.b (storeA 1 w85 w84 r54.2) fun r86 =>
  f74_k1 B C L (upd (upd (upd (upd (upd (upd (upd (upd (upd (upd (upd (upd (upd (upd (upd (upd (upd tm 53 w49) 54 w51) 55 w52) 9 r53.1) 56 w55) 57 w56) 59 w57) 58 w57) 66 w72) 65 w72) 67 w80) 65 w80) 68 w82) 69 w83) 70 (tm 1)) 71 w84) 72 w85) r86.2) else
  f74_k1 B C L (upd (upd (upd (upd (upd (upd (upd (upd (upd (upd (upd (upd tm 53 w49) 54 w51) 55 w52) 9 r53.1) 56 w55) 57 w56) 59 w57) 58 w57) 66 w72) 65 w72) 67 w80) 65 w80) r54.2) else
  some (.exit 2, ⟨(upd tm 53 w49), h⟩)

noncomputable def f74_k2 (B : BindS) (C : CallF) (L : LoopF) (tm : Tm) (h : Heap) : Option (AV × Heap) :=
  B.b (ld 4 true (tm 6) h) fun w88 =>
  B.b (storeA 4 (tm 4) w88 h) fun r89 =>
  B.b (ld 4 true (tm 4) r89.2) fun w90 =>
  some (.tuple [w90, (.sv (.int .i64 0))], r89.2)

noncomputable def f74_k0 (B : BindS) (C : CallF) (L : LoopF) (tm : Tm) (h : Heap) : Option (AV × Heap) :=
  B.b (fa 3 (tm 2)) fun w46 =>
  B.b (ld 1 false w46 h) fun w47 =>
  B.b (ln (.slice 47 5 40 false) w47) fun w48 =>
  B.b (L (fun s => f74_b1 B C L s.tm s.h) ⟨(upd (upd (upd (upd tm 49 w46) 50 w47) 51 w48) 52 (.sv (.int .i64 0))), h⟩) fun r87 => (outBlock 2 (outSeq (f74_k2 B C L) (endK B tab [.cell 4 39, .tmp 5]))) r87.1 r87.2.tm r87.2.h

noncomputable def f74_sh (B : BindS) (C : CallF) (L : LoopF) (v0 : AV) (v1 : AV) (h : Heap) : Option (AV × Heap) :=
  B.b (boxA 4 v0 h) fun r1 =>
  B.b (alloc [.sv (.int .i64 0), .sv (.int .i64 0), .sv (.int .i64 0), .nil] r1.2) fun r2 =>
  B.b (ld 4 true r1.1 r2.2) fun w3 =>
  B.b (C 78 [w3] r2.2) fun r4 =>
  B.b (bin .neq (.int .i64) r4.1 (.sv (.int .i64 0))) fun w5 =>
  B.b (gO (some (w5, false)) (some v1) .dead) fun w6 =>
  B.b (gO (some (w5, false)) (bin .lss (.int .i64) w6 (.sv (.int .i64 0))) .dead) fun w7 =>
  B.b ((asB w5).bind fun t => some (if t then (.sv (.bool true)) else w7)) fun w8 =>
  B.b (gO (some (w8, false)) (some v1) .dead) fun w9 =>
  B.b (gO (some (w8, false)) (bin .gtr (.int .i64) w9 (.sv (.int .i64 4096))) .dead) fun w10 =>
  B.b ((asB w8).bind fun t => some (if t then (.sv (.bool true)) else w10)) fun w11 =>
  B.b (asB w11) fun t12 =>
  if t12 then (B.b (bdA tab 39 []) fun w13 =>
  B.b (storeA 4 r2.1 w13 r4.2) fun r14 =>
  B.b (ld 4 true r2.1 r14.2) fun w15 =>
  some (.tuple [w15, (.sv (.int .i64 1))], r14.2)) else
  B.b (fa 3 r1.1) fun w16 =>
  B.b (ld 1 false w16 r4.2) fun w17 =>
  B.b (ln (.slice 47 5 40 false) w17) fun w18 =>
  B.b (bin .add (.int .i64) w18 v1) fun w19 =>
  B.b (bin .gtr (.int .i64) w19 (.sv (.int .i64 4096))) fun w20 =>
  B.b (asB w20) fun t21 =>
  if t21 then (B.b (bdA tab 39 []) fun w22 =>
  B.b (storeA 4 r2.1 w22 r4.2) fun r23 =>
  B.b (ld 4 true r2.1 r23.2) fun w24 =>
  some (.tuple [w24, (.sv (.int .i64 2))], r23.2)) else
  B.b (fa 0 r1.1) fun w25 =>
  B.b (ld 1 false w25 r4.2) fun w26 =>
  B.b (fa 1 r1.1) fun w27 =>
  B.b (ld 1 false w27 r4.2) fun w28 =>
  B.b (fa 2 r1.1) fun w29 =>
  B.b (ld 1 false w29 r4.2) fun w30 =>
  B.b (bdA tab 39 [(0, w26), (1, w28), (2, w30)]) fun w31 =>
  B.b (alloc [.sv (.int .i64 0), .sv (.int .i64 0), .sv (.int .i64 0), .nil] r4.2) fun r32 =>
  B.b (storeA 4 r32.1 w31 r32.2) fun r33 =>
  B.b (L (fun s => f74_b0 B C L s.tm s.h) ⟨(upd (upd (upd (upd (upd (upd (upd (upd (upd (upd (upd (upd (upd (upd (upd (upd (upd (upd (upd (upd (upd (upd (upd (upd (upd (upd (upd (upd (upd (upd (init [v0, v1]) 2 r1.1) 4 r2.1) 5 (.sv (.int .i64 0))) 10 w3) 11 r4.1) 12 w5) 13 w5) 14 w6) 15 w7) 16 w8) 17 w8) 18 w9) 19 w10) 20 w11) 22 w16) 23 w17) 24 w18) 25 v1) 26 w19) 27 w20) 29 w25) 30 w26) 31 w27) 32 w28) 33 w29) 34 w30) 35 w31) 6 r32.1) 36 v1) 37 (.sv (.int .i64 0))), r33.2⟩) fun r45 => (outBlock 0 (outSeq (f74_k0 B C L) (endK B tab [.cell 4 39, .tmp 5]))) r45.1 r45.2.tm r45.2.h
theorem f74_eq (B : BindS) (C : CallF) (L : LoopF) (v0 : AV) (v1 : AV) (h : Heap) : evFunc B tab shared C L noD Try.f74 [v0, v1] h = f74_sh B C L v0 v1 h := by kernel_rfl

/-! purfle/purfleref14.Text -/
noncomputable def f73_b0 (B : BindS) (C : CallF) (L : LoopF) (tm : Tm) (h : Heap) : Option (Out × St) :=
  B.b (bin .lss (.int .i64) (tm 22) (tm 21)) fun w16 =>
  B.b (asB w16) fun t17 =>
  if t17 then (B.b (ia (.slice 3 1 8 false) (tm 20) (tm 22)) fun w18 =>
  B.b (ld 1 false w18 h) fun w19 =>
  B.b (C 133 [w19] h) fun r20 =>
  B.b (apA (.slice 35 3 32 false) (tm 4) r20.1 r20.2) fun r21 =>
  B.b (bin .add (.int .i64) (tm 22) (.sv (.int .i64 1))) fun w22 =>
  some (.normal, ⟨(upd (upd (upd (upd (upd (upd (upd (upd (upd (upd (upd tm 23 w16) 24 w18) 25 w19) 6 w19) 26 (tm 4)) 27 w19) 28 r20.1) 29 r21.1) 4 r21.1) 30 w22) 22 w22), r21.2⟩)) else
  some (.exit 0, ⟨(upd tm 23 w16), h⟩)

noncomputable def f73_b1 (B : BindS) (C : CallF) (L : LoopF) (tm : Tm) (h : Heap) : Option (Out × St) :=
  B.b (bin .lss (.int .i64) (tm 34) (tm 33)) fun w27 =>
  B.b (asB w27) fun t28 =>
  if t28 then (B.b (ia (.slice 47 5 40 false) (tm 32) (tm 34)) fun w29 =>
  B.b (ld 5 true w29 h) fun w30 =>
  B.b (alloc [.sv (.int .i64 0), .sv (.int .i64 0), .sv (.int .i64 0), .sv (.int .i64 0), .sv (.int .i64 0)] h) fun r31 =>
  B.b (storeA 5 r31.1 w30 r31.2) fun r32 =>
  B.b (bdA tab 35 [(0, (.sv (.int .i64 4)))]) fun w33 =>
  B.b (bsA (.slice 35 3 32 false) (some [.sv (.int .i64 0), .sv (.str []), .sv (.int .i64 0)]) 1 [(0, w33)] r32.2) fun r34 =>
  B.b (apA (.slice 35 3 32 false) (tm 4) r34.1 r34.2) fun r35 =>
  B.b (ld 5 true r31.1 r35.2) fun w36 =>
  gPast none 5 true r31.1 w36 [r32.2, r34.2] (B.b (C 134 [w36] []) fun r37 =>
  B.b (apA (.slice 35 3 32 false) r35.1 r37.1 r35.2) fun r38 =>
  B.b (bin .add (.int .i64) (tm 34) (.sv (.int .i64 1))) fun w39 =>
  some (.normal, ⟨(upd (upd (upd (upd (upd (upd (upd (upd (upd (upd (upd (upd (upd (upd tm 35 w27) 36 w29) 37 w30) 8 r31.1) 38 (tm 4)) 39 w33) 40 r34.1) 41 r35.1) 42 w36) 43 r37.1) 44 r38.1) 4 r38.1) 45 w39) 34 w39), r38.2⟩))) else
  some (.exit 2, ⟨(upd tm 35 w27), h⟩)

noncomputable def f73_k1 (B : BindS) (C : CallF) (L : LoopF) (tm : Tm) (h : Heap) : Option (AV × Heap) :=
  B.b (C 27 [(tm 4)] h) fun r41 =>
  B.b (ex 0 r41.1) fun w42 =>
  B.b (ex 1 r41.1) fun w43 =>
  some (.tuple [w42, w43], r41.2)

noncomputable def f73_k0 (B : BindS) (C : CallF) (L : LoopF) (tm : Tm) (h : Heap) : Option (AV × Heap) :=
  B.b (fa 3 (tm 1)) fun w24 =>
  B.b (ld 1 false w24 h) fun w25 =>
  B.b (ln (.slice 47 5 40 false) w25) fun w26 =>
  B.b (L (fun s => f73_b1 B C L s.tm s.h) ⟨(upd (upd (upd (upd tm 31 w24) 32 w25) 33 w26) 34 (.sv (.int .i64 0))), h⟩) fun r40 => (outBlock 2 (outSeq (f73_k1 B C L) (endK B tab [.tmp 2, .tmp 3]))) r40.1 r40.2.tm r40.2.h

noncomputable def f73_sh (B : BindS) (C : CallF) (L : LoopF) (v0 : AV) (h : Heap) : Option (AV × Heap) :=
  B.b (boxA 4 v0 h) fun r1 =>
  B.b (ld 4 true r1.1 r1.2) fun w2 =>
  B.b (C 78 [w2] r1.2) fun r3 =>
  B.b (bin .neq (.int .i64) r3.1 (.sv (.int .i64 0))) fun w4 =>
  B.b (asB w4) fun t5 =>
  if t5 then (some (.tuple [(.sv (.str [])), (.sv (.int .i64 1))], r3.2)) else
  B.b (C 132 [(.sv (.str [99, 111, 100, 101]))] r3.2) fun r6 =>
  B.b (bsA (.slice 35 3 32 false) (some [.sv (.int .i64 0), .sv (.str []), .sv (.int .i64 0)]) 1 [(0, r6.1)] r6.2) fun r7 =>
  B.b (fa 0 r1.1) fun w8 =>
  B.b (ld 1 false w8 r7.2) fun w9 =>
  B.b (fa 1 r1.1) fun w10 =>
  B.b (ld 1 false w10 r7.2) fun w11 =>
  B.b (fa 2 r1.1) fun w12 =>
  B.b (ld 1 false w12 r7.2) fun w13 =>
  B.b (bsA (.slice 3 1 8 false) (some [.sv (.int .i64 0)]) 3 [(0, w9), (1, w11), (2, w13)] r7.2) fun r14 =>
  B.b (ln (.slice 3 1 8 false) r14.1) fun w15 =>
  B.b (L (fun s => f73_b0 B C L s.tm s.h) ⟨(upd (upd (upd (upd (upd (upd (upd (upd (upd (upd (upd (upd (upd (upd (upd (upd (upd (upd (init [v0]) 1 r1.1) 2 (.sv (.str []))) 3 (.sv (.int .i64 0))) 9 w2) 10 r3.1) 11 w4) 12 r6.1) 13 r7.1) 4 r7.1) 14 w8) 15 w9) 16 w10) 17 w11) 18 w12) 19 w13) 20 r14.1) 21 w15) 22 (.sv (.int .i64 0))), r14.2⟩) fun r23 => (outBlock 0 (outSeq (f73_k0 B C L) (endK B tab [.tmp 2, .tmp 3]))) r23.1 r23.2.tm r23.2.h
theorem f73_eq (B : BindS) (C : CallF) (L : LoopF) (v0 : AV) (h : Heap) : evFunc B tab shared C L noD Try.f73 [v0] h = f73_sh B C L v0 h := by kernel_rfl

/-! purfle/purfleref14.named -/

noncomputable def f132_sh (B : BindS) (C : CallF) (L : LoopF) (v0 : AV) (h : Heap) : Option (AV × Heap) :=
  B.b (alloc [.sv (.int .i64 0), .sv (.str []), .sv (.int .i64 0)] h) fun r1 =>
  B.b (bdA tab 35 [(0, (.sv (.int .i64 1))), (1, v0)]) fun w2 =>
  B.b (storeA 3 r1.1 w2 r1.2) fun r3 =>
  B.b (ld 3 true r1.1 r3.2) fun w4 =>
  some (w4, r3.2)
theorem f132_eq (B : BindS) (C : CallF) (L : LoopF) (v0 : AV) (h : Heap) : evFunc B tab shared C L noD Try.f132 [v0] h = f132_sh B C L v0 h := by kernel_rfl

/-! purfle/purfleref14.numbered -/

noncomputable def f133_sh (B : BindS) (C : CallF) (L : LoopF) (v0 : AV) (h : Heap) : Option (AV × Heap) :=
  B.b (bin .lss (.int .i64) v0 (.sv (.int .i64 0))) fun w1 =>
  B.b (asB w1) fun t2 =>
  if t2 then (B.b (bdA tab 35 [(0, (.sv (.int .i64 3))), (1, (.sv (.str [45])))]) fun w3 =>
  B.b (bsA (.slice 35 3 32 false) (some [.sv (.int .i64 0), .sv (.str []), .sv (.int .i64 0)]) 1 [(0, w3)] h) fun r4 =>
  B.b (un .neg v0) fun w5 =>
  B.b (C 133 [w5] r4.2) fun r6 =>
  B.b (apA (.slice 35 3 32 false) r4.1 r6.1 r6.2) fun r7 =>
  some (r7.1, r7.2)) else
  B.b (C 182 [v0] h) fun r8 =>
  B.b (bdA tab 35 [(0, (.sv (.int .i64 2))), (1, r8.1), (2, v0)]) fun w9 =>
  B.b (bsA (.slice 35 3 32 false) (some [.sv (.int .i64 0), .sv (.str []), .sv (.int .i64 0)]) 1 [(0, w9)] r8.2) fun r10 =>
  some (r10.1, r10.2)
theorem f133_eq (B : BindS) (C : CallF) (L : LoopF) (v0 : AV) (h : Heap) : evFunc B tab shared C L noD Try.f133 [v0] h = f133_sh B C L v0 h := by kernel_rfl

/-! purfle/purfleref14.line -/
noncomputable def f134_k0 (B : BindS) (C : CallF) (L : LoopF) (tm : Tm) (h : Heap) : Option (Out × St) :=
  B.b (asB (tm 30)) fun t19 =>
  if t19 then (B.b (C 182 [(tm 7)] h) fun r20 =>
  B.b (bin .add .str (.sv (.str [114])) r20.1) fun w21 =>
  B.b (C 132 [w21] r20.2) fun r22 =>
  B.b (bsA (.slice 35 3 32 false) (some [.sv (.int .i64 0), .sv (.str []), .sv (.int .i64 0)]) 1 [(0, r22.1)] r22.2) fun r23 =>
  B.b (apA (.slice 35 3 32 false) (tm 5) r23.1 r23.2) fun r24 =>
  B.b (bin .add (.int .i64) (tm 19) (.sv (.int .i64 1))) fun w25 =>
  some (.normal, ⟨(upd (upd (upd (upd (upd (upd (upd (upd (upd (upd tm 33 (tm 5)) 34 (tm 7)) 35 r20.1) 36 w21) 37 r22.1) 38 r23.1) 39 r24.1) 5 r24.1) 62 w25) 19 w25), r24.2⟩)) else
  B.b (bin .eql (.int .u8) (tm 29) (.sv (.int .u8 97))) fun w26 =>
  B.b (asB w26) fun t27 =>
  if t27 then (B.b (C 182 [(tm 7)] h) fun r28 =>
  B.b (bin .add .str (.sv (.str [97])) r28.1) fun w29 =>
  B.b (C 132 [w29] r28.2) fun r30 =>
  B.b (bsA (.slice 35 3 32 false) (some [.sv (.int .i64 0), .sv (.str []), .sv (.int .i64 0)]) 1 [(0, r30.1)] r30.2) fun r31 =>
  B.b (apA (.slice 35 3 32 false) (tm 5) r31.1 r31.2) fun r32 =>
  B.b (bin .add (.int .i64) (tm 19) (.sv (.int .i64 1))) fun w33 =>
  some (.normal, ⟨(upd (upd (upd (upd (upd (upd (upd (upd (upd (upd (upd (upd tm 41 w26) 40 w26) 42 (tm 5)) 43 (tm 7)) 44 r28.1) 45 w29) 46 r30.1) 47 r31.1) 48 r32.1) 5 r32.1) 62 w33) 19 w33), r32.2⟩)) else
  B.b (bin .eql (.int .u8) (tm 29) (.sv (.int .u8 112))) fun w34 =>
  B.b (asB w34) fun t35 =>
  if t35 then (B.b (C 133 [(tm 7)] h) fun r36 =>
  B.b (apA (.slice 35 3 32 false) (tm 5) r36.1 r36.2) fun r37 =>
  B.b (bin .add (.int .i64) (tm 19) (.sv (.int .i64 1))) fun w38 =>
  some (.normal, ⟨(upd (upd (upd (upd (upd (upd (upd (upd (upd (upd (upd tm 41 w26) 40 w26) 50 w34) 49 w34) 51 (tm 5)) 52 (tm 7)) 53 r36.1) 54 r37.1) 5 r37.1) 62 w38) 19 w38), r37.2⟩)) else
  B.b (bin .eql (.int .u8) (tm 29) (.sv (.int .u8 110))) fun w39 =>
  B.b (asB w39) fun t40 =>
  if t40 then (B.b (fa 4 (tm 1)) fun w41 =>
  B.b (ld 1 false w41 h) fun w42 =>
  B.b (C 133 [w42] h) fun r43 =>
  B.b (apA (.slice 35 3 32 false) (tm 5) r43.1 r43.2) fun r44 =>
  B.b (bin .add (.int .i64) (tm 19) (.sv (.int .i64 1))) fun w45 =>
  some (.normal, ⟨(upd (upd (upd (upd (upd (upd (upd (upd (upd (upd (upd (upd (upd (upd tm 41 w26) 40 w26) 50 w34) 49 w34) 56 w39) 55 w39) 57 (tm 5)) 58 w41) 59 w42) 60 r43.1) 61 r44.1) 5 r44.1) 62 w45) 19 w45), r44.2⟩)) else
  B.b (bin .add (.int .i64) (tm 19) (.sv (.int .i64 1))) fun w46 =>
  some (.normal, ⟨(upd (upd (upd (upd (upd (upd (upd (upd tm 41 w26) 40 w26) 50 w34) 49 w34) 56 w39) 55 w39) 62 w46) 19 w46), h⟩)

noncomputable def f134_b0 (B : BindS) (C : CallF) (L : LoopF) (tm : Tm) (h : Heap) : Option (Out × St) :=
  B.b (bin .lss (.int .i64) (tm 19) (tm 18)) fun w10 =>
  B.b (asB w10) fun t11 =>
  if t11 then (B.b (ld 5 true (tm 1) h) fun w12 =>
  B.b (C 136 [w12] h) fun r13 =>
  B.b (ia (.slice 3 1 8 false) r13.1 (tm 19)) fun w14 =>
  B.b (ld 1 false w14 r13.2) fun w15 =>
  B.b (ix .str (tm 4) (tm 19)) fun w16 =>
  B.b (bin .eql (.int .u8) w16 (.sv (.int .u8 119))) fun w17 =>
  B.b (asB w17) fun t18 =>
  if t18 then (f134_k0 B C L (upd (upd (upd (upd (upd (upd (upd (upd (upd (upd (upd (upd (upd (upd tm 20 w10) 21 (tm 19)) 6 (tm 19)) 22 w12) 23 r13.1) 24 (tm 19)) 25 w14) 26 w15) 7 w15) 27 (tm 4)) 28 (tm 19)) 29 w16) 31 w17) 30 w17) r13.2) else
  B.b (bin .eql (.int .u8) w16 (.sv (.int .u8 114))) fun w47 =>
  f134_k0 B C L (upd (upd (upd (upd (upd (upd (upd (upd (upd (upd (upd (upd (upd (upd (upd (upd tm 20 w10) 21 (tm 19)) 6 (tm 19)) 22 w12) 23 r13.1) 24 (tm 19)) 25 w14) 26 w15) 7 w15) 27 (tm 4)) 28 (tm 19)) 29 w16) 31 w17) 30 w17) 32 w47) 30 w47) r13.2) else
  some (.exit 0, ⟨(upd tm 20 w10), h⟩)

noncomputable def f134_k1 (B : BindS) (C : CallF) (L : LoopF) (tm : Tm) (h : Heap) : Option (AV × Heap) :=
  some ((tm 5), h)

noncomputable def f134_sh (B : BindS) (C : CallF) (L : LoopF) (v0 : AV) (h : Heap) : Option (AV × Heap) :=
  B.b (boxA 5 v0 h) fun r1 =>
  B.b (fa 0 r1.1) fun w2 =>
  B.b (ld 1 false w2 r1.2) fun w3 =>
  B.b (C 135 [w3] r1.2) fun r4 =>
  B.b (ex 0 r4.1) fun w5 =>
  B.b (ex 1 r4.1) fun w6 =>
  B.b (C 132 [w5] r4.2) fun r7 =>
  B.b (bsA (.slice 35 3 32 false) (some [.sv (.int .i64 0), .sv (.str []), .sv (.int .i64 0)]) 1 [(0, r7.1)] r7.2) fun r8 =>
  B.b (ln .str w6) fun w9 =>
  B.b (L (fun s => f134_b0 B C L s.tm s.h) ⟨(upd (upd (upd (upd (upd (upd (upd (upd (upd (upd (upd (upd (upd (upd (upd (upd (upd (init [v0]) 1 r1.1) 2 .nil) 9 w2) 10 w3) 11 r4.1) 8 r4.1) 12 w5) 13 w6) 3 w5) 4 w6) 14 w5) 15 r7.1) 16 r8.1) 5 r8.1) 17 w6) 18 w9) 19 (.sv (.int .i64 0))), r8.2⟩) fun r48 => (outBlock 0 (outSeq (f134_k1 B C L) (endK B tab [.tmp 2]))) r48.1 r48.2.tm r48.2.h
theorem f134_eq (B : BindS) (C : CallF) (L : LoopF) (v0 : AV) (h : Heap) : evFunc B tab shared C L noD Try.f134 [v0] h = f134_sh B C L v0 h := by kernel_rfl

end Go.Proofs.Ytmhamnnfcmkcfaa

/- Code with one register fewer: the law's parts. -/
set_option maxRecDepth 100000
namespace Go.Proofs.Ytmhamnnfcmkcfaa
open Go.RowKit

section
variable {J : Option (List AV → Option AV)}

theorem c36 (c : Cod) (h : Heap) : Cw J 36 [codA c] h = some (Bo (decide (c.l.length ≤ 300)), h) := by
  have key : Ok (evFunc optB tab shared (Cw J) loopW noD Try.f36 [codA c] []) fun r => r.1 = Bo (decide (c.l.length ≤ 300)) := by
    rw [f36_eq]
    have b1 : boxA 4 (codA c) [] = some (.ptr 0 0, [.cells 0 (c.sv.map .sv) true]) := box_eq (cellsOf_agg _) rfl (cells_all _)
    have g3 : ld 1 false (.ptr 0 (0 + 3)) [Ent.cells 0 (c.sv.map .sv) true] = some (.sv (inssSV c.l)) := rfl
    have hln : ln (.slice 47 5 40 false) (.sv (inssSV c.l)) = some (I c.l.length) := by simp [inssSV]
    simp -implicitDefEqProofs only [f36_sh, optB_b, b1, Option.bind_some, fa_ptr, g3, hln, bin_leq, ok_some]
    have q : decide (((c.l.length : Nat) : Int) ≤ 300) = decide (c.l.length ≤ 300) := decide_eq_decide.2 (by omega)
    rw [q]
  obtain ⟨⟨r, hr⟩, h1, rfl⟩ := key
  exact call_sv Try.func36 (by kernel_rfl) (by rfl) (by rfl) (by rfl) h1 (frzR_set (by rfl))

def liveT : List UInt8 := [99, 111, 100, 101, 32, 49, 32, 48, 32, 48, 10, 104, 97, 108, 116]
theorem live_parse : parseS liveT = (⟨1, 0, 0, [⟨0, 0, 0, 0, 0⟩]⟩, 2, 0) := by kernel_rfl

theorem c32 (h : Heap) : Cw J 32 [] h = some (Bo true, h) := by
  have key : Ok (evFunc optB tab shared (Cw J) loopW noD Try.f32 [] []) fun r => r.1 = Bo true := by
    rw [f32_eq]
    have h33 : ∀ h, Cw J 33 [.sv (.str [99, 111, 100, 101, 32, 49, 32, 48, 32, 48, 10, 104, 97, 108, 116])] h = some (.tuple [codA ⟨1, 0, 0, [⟨0, 0, 0, 0, 0⟩]⟩, I 2, I 0], h) := fun h => by
      have := c33 (J := J) liveT (by decide) h
      rw [live_parse] at this
      exact this
    have hc : checkC ⟨1, 0, 0, [⟨0, 0, 0, 0, 0⟩]⟩ = 0 := by decide
    have h37 : ∀ h, Cw J 37 [codA ⟨1, 0, 0, [⟨0, 0, 0, 0, 0⟩]⟩] h = some (I 0, h) := fun h => by rw [c37 _ (by decide) h, hc]
    have hal : alloc [.sv (.int .i64 0), .sv (.int .i64 0), .sv (.int .i64 0), .nil] [] = some (.ptr 0 0, [.cells 0 [I 0, I 0, I 0, .nil] true]) := alloc_eq rfl
    have hst : storeA 4 (.ptr 0 0) (codA ⟨1, 0, 0, [⟨0, 0, 0, 0, 0⟩]⟩) [Ent.cells 0 [I 0, I 0, I 0, .nil] true] = some (.undef, [.cells 0 ((⟨1, 0, 0, [⟨0, 0, 0, 0, 0⟩]⟩ : Cod).sv.map .sv) true]) := by rfl
    have g0 : ld 1 false (.ptr 0 (0 + 0)) [Ent.cells 0 ((⟨1, 0, 0, [⟨0, 0, 0, 0, 0⟩]⟩ : Cod).sv.map .sv) true] = some (I 1) := rfl
    have g3 : ld 1 false (.ptr 0 (0 + 3)) [Ent.cells 0 ((⟨1, 0, 0, [⟨0, 0, 0, 0, 0⟩]⟩ : Cod).sv.map .sv) true] = some (.sv (inssSV [⟨0, 0, 0, 0, 0⟩])) := rfl
    have g : ld 4 true (.ptr 0 0) [Ent.cells 0 ((⟨1, 0, 0, [⟨0, 0, 0, 0, 0⟩]⟩ : Cod).sv.map .sv) true] = some (codA ⟨1, 0, 0, [⟨0, 0, 0, 0, 0⟩]⟩) := rfl
    have hln : ln (.slice 47 5 40 false) (.sv (inssSV [⟨0, 0, 0, 0, 0⟩])) = some (I 1) := by simp [inssSV]
    simp -implicitDefEqProofs only [f32_sh, optB_b, h33, Option.bind_some, ex_tuple, List.getElem?_cons_zero, List.getElem?_cons_succ, hal, hst, bin_eql, decide_true, gO_tt, asB_bo, if_true, fa_ptr, g0, g3, hln, g, h37, ok_some]
  obtain ⟨⟨r, hr⟩, h1, rfl⟩ := key
  exact call_sv Try.func32 (by kernel_rfl) (by rfl) (by rfl) (by rfl) h1 (frzR_set (by rfl))

end
end Go.Proofs.Ytmhamnnfcmkcfaa

/- A row of a slice, put. -/
namespace Go.Proofs.Ytmhamnnfcmkcfaa

theorem flat_set {α : Type} {esz : Nat} {c : List α} : ∀ (rows : List (List α)) (i : Nat), (∀ r ∈ rows, r.length = esz) → i < rows.length → rows.flatten.take (i * esz) ++ c ++ rows.flatten.drop (i * esz + esz) = (rows.set i c).flatten
  | [], i, _, hi => by simp at hi
  | r :: rows, 0, h, _ => by
    have hr := h r (by simp)
    simp [← hr]
  | r :: rows, i + 1, h, hi => by
    have hr := h r (by simp)
    have ih := flat_set (c := c) rows i (fun x hx => h x (by simp [hx])) (by simpa using hi)
    have e1 : (i + 1) * esz = r.length + i * esz := by rw [hr, Nat.succ_mul, Nat.add_comm]
    have e2 : (i + 1) * esz + esz = r.length + (i * esz + esz) := by rw [e1, Nat.add_assoc]
    rw [e2, e1]
    simp only [List.set_cons_succ, List.flatten_cons, List.take_length_add_append, List.drop_length_add_append]
    rw [← ih]
    simp only [List.append_assoc]

theorem row_put {h : Heap} {e esz b : Nat} {y : Bool} {v : AV} {rows : List (List SV)} {i : Nat} {c : List SV} (hr : IsRow h esz v rows) (hi : i < rows.length) (hc : c.length = esz) :
    ∃ p h', ia (.slice e esz b y) v (I i) = some p ∧ (∀ x, cellsOf x = some (c.map .sv) → storeA esz p x h = some (.undef, h')) ∧ IsRow h' esz v (rows.set i c) ∧ Keeps v h h' ∧ h'.length = h.length := by
  rcases hr.2 with ⟨-, q⟩ | ⟨id, rfl, h3⟩
  · subst q; simp at hi
  · have hlt := (List.getElem?_eq_some_iff.1 h3).1
    have hfl := flatten_len rows hr.1
    have hle : 0 + i * esz + esz ≤ (rows.flatten.map AV.sv).length := by
      rw [List.length_map, hfl]
      have : (i + 1) * esz ≤ rows.length * esz := Nat.mul_le_mul_right _ hi
      rw [Nat.succ_mul] at this
      omega
    refine ⟨_, h.set id (.cells esz ((rows.set i c).flatten.map .sv) true), ia_own (i := i) rfl hi, ?_, ⟨?_, .inr ⟨id, by simp, by simp [hlt]⟩⟩, ?_, by simp⟩
    · intro x hx
      rw [store_eq (n := esz) h3 hx (by simpa using hc) hle]
      congr 3
      rw [← flat_set (c := c) rows i hr.1 hi]
      unfold splice
      simp only [Nat.zero_add, List.length_map, hc, List.map_append, List.map_take, List.map_drop]
    · intro r hr'
      rcases List.mem_or_eq_of_mem_set hr' with q | q
      · exact hr.1 r q
      · rw [q]; exact hc
    · intro j x hx hn
      have hne : id ≠ j := fun q => hn 0 rows.length (by rw [q])
      rw [List.getElem?_set_ne hne]
      exact hx

end Go.Proofs.Ytmhamnnfcmkcfaa

/- Code put further on, plainly. -/
namespace Go.Proofs.Ytmhamnnfcmkcfaa

/-- An instruction's place, put further on. -/
def farI (by_ : Int) (x : Ins) : Ins :=
  { x with a := if kd0 x.op = 4 then x.a + by_ else x.a, b := if kd1 x.op = 4 then x.b + by_ else x.b, c := if kd2 x.op = 4 then x.c + by_ else x.c }
def jumpI (i : Nat) : Ins := ⟨10, (i : Int) + 1, 0, 0, 0⟩
def jumps (n : Nat) : List Ins := (List.range n).map jumpI
def farC (c : Cod) (n : Nat) : Cod := { c with l := jumps n ++ c.l.map (farI n) }
def shiftS (c : Cod) (n : Int) : Cod × Int :=
  if checkC c ≠ 0 ∨ n < 0 ∨ 4096 < n then (noCod, 1) else if 4096 < c.l.length + n then (noCod, 2) else (farC c n.toNat, 0)

theorem farI_op (n : Int) (x : Ins) : (farI n x).op = x.op := rfl

theorem farI_add (m n : Int) (x : Ins) : farI n (farI m x) = farI (m + n) x := by
  unfold farI
  simp only
  congr 1 <;> split <;> omega

theorem jumps_far (m n : Nat) : jumps n ++ (jumps m).map (farI n) = jumps (m + n) := by
  apply List.ext_getElem?
  intro i
  unfold jumps
  rw [List.getElem?_append]
  simp only [List.length_map, List.length_range, List.getElem?_map]
  by_cases h : i < n
  · rw [if_pos h, List.getElem?_range h, List.getElem?_range (by omega)]
  · rw [if_neg h]
    by_cases h2 : i - n < m
    · rw [List.getElem?_range h2, List.getElem?_range (by omega)]
      simp only [Option.map_some]
      congr 1
      unfold jumpI farI
      have k0 : kd0 10 = 4 := rfl
      have k1 : kd1 10 = 0 := rfl
      have k2 : kd2 10 = 0 := rfl
      simp only [k0, k1, k2, if_true]
      simp
      omega
    · rw [List.getElem?_eq_none (by simp; omega), List.getElem?_eq_none (by simp; omega)]
      rfl

theorem farC_add (c : Cod) (m n : Nat) : farC (farC c m) n = farC c (m + n) := by
  unfold farC
  simp only [List.map_append, List.map_map]
  congr 1
  rw [← List.append_assoc, jumps_far]
  congr 1
  apply List.map_congr_left
  intro x _
  simp only [Function.comp_apply, farI_add]
  congr 1

theorem jumps_len (n : Nat) : (jumps n).length = n := by simp [jumps]
theorem farC_len (c : Cod) (n : Nat) : (farC c n).l.length = n + c.l.length := by simp [farC, jumps_len]

theorem fit_far (c : Cod) (n : Nat) (k f : Int) (h : fitS c k f = true) : fitS (farC c n) k (if k = 4 then f + n else f) = true := by
  unfold fitS limS at *
  simp only [Bool.and_eq_true, decide_eq_true_eq] at h ⊢
  by_cases h4 : k = 4
  · subst h4
    simp only [show ¬ ((4 : Int) = 1 ∨ (4 : Int) = 2) by omega, show ¬ (4 : Int) = 3 by omega, if_false, if_true, farC_len] at h ⊢
    omega
  · simp only [h4, if_false] at h ⊢
    exact h

theorem may_far {c : Cod} {x : Ins} (n : Nat) (h : mayS x c = true) : mayS (farI n x) (farC c n) = true := by
  simp only [mayS, Bool.and_eq_true] at h ⊢
  obtain ⟨⟨⟨⟨h1, h2⟩, h3⟩, h4⟩, h5⟩ := h
  exact ⟨⟨⟨⟨h1, fit_far c n _ _ h2⟩, fit_far c n _ _ h3⟩, fit_far c n _ _ h4⟩, h5⟩

theorem may_jump {c : Cod} {i n : Nat} (hi : i < n) (hc : 0 < c.l.length) : mayS (jumpI i) (farC c n) = true := by
  have k0 : kd0 10 = 4 := rfl
  have k1 : kd1 10 = 0 := rfl
  have k2 : kd2 10 = 0 := rfl
  have hr : inR 10 = true := rfl
  have l1 : fitS (farC c n) 4 ((i : Int) + 1) = true := by
    simp only [fitS, limS, farC_len, Bool.and_eq_true, decide_eq_true_eq]
    simp
    omega
  have l2 : fitS (farC c n) 0 0 = true := by simp [fitS, limS]
  simp [mayS, jumpI, k0, k1, k2, hr, l1, l2]

theorem far_ok {c : Cod} (h : checkOk c = true) {n : Nat} (hn : c.l.length + n ≤ 4096) : checkOk (farC c n) = true := by
  have h' := h
  simp only [checkOk, Bool.and_eq_true, decide_eq_true_eq, List.all_eq_true] at h' ⊢
  obtain ⟨⟨⟨⟨hh, h1⟩, h2⟩, hm⟩, h3⟩ := h'
  have hlast : lastOp (farC c n) = lastOp c := by
    unfold lastOp
    have hne : c.l ≠ [] := fun q => h1 (by simp [q])
    simp only [farC]
    rw [List.getLast?_append, List.getLast?_map]
    cases q : c.l.getLast? with
    | none => exact absurd (List.getLast?_eq_none_iff.1 q) hne
    | some x => rfl
  refine ⟨⟨⟨⟨hh, ?_⟩, ?_⟩, ?_⟩, ?_⟩
  · rw [farC_len]; omega
  · rw [farC_len]; omega
  · intro x hx
    simp only [farC, List.mem_append, List.mem_map] at hx
    rcases hx with hx | ⟨y, hy, rfl⟩
    · obtain ⟨i, hi, rfl⟩ := List.mem_map.1 hx
      exact may_jump (List.mem_range.1 hi) (by omega)
    · exact may_far n (hm y hy)
  · rw [hlast]; exact h3

theorem check_of_ok {c : Cod} (h : checkOk c = true) : checkC c = 0 := by simp [checkC, h]
theorem ok_of_check {c : Cod} (h : checkC c = 0) : checkOk c = true := by
  unfold checkC at h
  cases q : checkOk c with
  | true => rfl
  | false => rw [q] at h; simp at h

theorem ok_regs {c : Cod} (h : checkOk c = true) : (0 ≤ c.regs ∧ c.regs ≤ 128) ∧ c.l.length ≤ 4096 ∧ (∀ x ∈ c.l, mayS x c = true) ∧ ((lastOp c = 0) ∨ (lastOp c = 10)) := by
  simp only [checkOk, headOk, Bool.and_eq_true, Bool.or_eq_true, decide_eq_true_eq, List.all_eq_true] at h
  exact ⟨⟨h.1.1.1.1.1.1.1.1.1, h.1.1.1.1.1.1.1.1.2⟩, h.1.1.2, h.1.2, h.2⟩

theorem shift_ok {c : Cod} (h : checkOk c = true) {n : Nat} (hn : c.l.length + n ≤ 4096) : shiftS c n = (farC c n, 0) := by
  unfold shiftS
  rw [if_neg (by simp [check_of_ok h]; omega), if_neg (by omega)]
  simp

theorem reads_far (n : Int) (x : Ins) : readsS (farI n x) = readsS x := by
  unfold readsS
  have h0 : kd0 x.op = 2 → ¬ kd0 x.op = 4 := by omega
  have h1 : kd1 x.op = 2 → ¬ kd1 x.op = 4 := by omega
  have h2 : kd2 x.op = 2 → ¬ kd2 x.op = 4 := by omega
  rw [farI_op]
  congr 1
  · congr 1
    · by_cases q : kd0 x.op = 2
      · simp [q, farI]
      · simp [q]
    · by_cases q : kd1 x.op = 2
      · simp [q, farI]
      · simp [q]
  · by_cases q : kd2 x.op = 2
    · simp [q, farI]
    · simp [q]

theorem writes_far (n : Int) (x : Ins) : writesS (farI n x) = writesS x := by
  unfold writesS
  rw [farI_op]
  by_cases q : kd0 x.op = 1
  · simp [q, farI]
  · simp [q]

end Go.Proofs.Ytmhamnnfcmkcfaa

/- Code put further on: equal ones. -/
set_option maxRecDepth 100000
namespace Go.Proofs.Ytmhamnnfcmkcfaa
open Go.RowKit

section
variable {J : Option (List AV → Option AV)}

theorem take_step {α : Type} {a b : List α} {j : Nat} {x y : α} (h : a.take j = b.take j) (hx : a[j]? = some x) (hy : b[j]? = some y) (e : x = y) : a.take (j + 1) = b.take (j + 1) := by
  rw [List.take_add_one, List.take_add_one, h, hx, hy, e]

def E43 (a b : List Int) (n : Nat) (st : St) : Prop :=
  ∃ j : Nat, st.tm 0 = .sv (intsSV a) ∧ st.tm 1 = .sv (intsSV b) ∧ st.tm 12 = I a.length ∧ st.tm 13 = I j ∧ j ≤ a.length ∧ a.take j = b.take j ∧ n = a.length - j

theorem l43_b0 {a b : List Int} (hl : a.length = b.length) (ha : a.length ≤ 1000000000) (n : Nat) (st : St) (hI : E43 a b n st) :
    Ok (f43_b0 optB (Cw J) loopW st.tm st.h) (Nxt (E43 a b) (fun r => (r.1 = .exit 0 ∧ a = b) ∨ (r.1 = .ret ∧ a ≠ b ∧ r.2.tm 4 = Bo false)) n) := by
  obtain ⟨tm, h⟩ := st
  obtain ⟨j, e0, e1, e12, e13, hj, ht, rfl⟩ := hI
  simp only at e0 e1 e12 e13 ⊢
  by_cases hlt : j < a.length
  · obtain ⟨x, hx⟩ : ∃ x, a[j]? = some x := ⟨_, List.getElem?_eq_getElem hlt⟩
    obtain ⟨y, hy⟩ : ∃ y, b[j]? = some y := ⟨_, List.getElem?_eq_getElem (hl ▸ hlt)⟩
    have hlt' : (j : Int) < (a.length : Nat) := by omega
    have ix1 : ia (.slice 3 1 8 false) (.sv (intsSV a)) (I j) = some (.ref [.int .i64 x]) := ia_sv (i := j) rfl (by simp [hx]) rfl
    have ix2 : ia (.slice 3 1 8 false) (.sv (intsSV b)) (I j) = some (.ref [.int .i64 y]) := ia_sv (i := j) rfl (by simp [hy]) rfl
    have ld1 : ∀ z : Int, ld 1 false (.ref [.int .i64 z]) h = some (I z) := fun z => rfl
    have w1 : IntKind.i64.wrap ((j : Int) + 1) = ((j + 1 : Nat) : Int) := by rw [wrapI (by omega) (by omega)]; omega
    by_cases hxy : x = y
    · simp -implicitDefEqProofs only [f43_b0, optB_b, e13, e12, bin_lss, hlt', Option.bind_some, decide_true, asB_bo, if_true, e0, ix1, ld1, e1, ix2, bin_neq, hxy, Bool.not_true, Bool.false_eq_true, if_false, bin_add, w1, ok_some]
      exact nxt_n (a.length - (j + 1)) (by omega) ⟨j + 1, by simp [upd, e0], by simp [upd, e1], by simp [upd, e12], by simp [upd], by omega, take_step ht hx hy hxy, rfl⟩
    · simp -implicitDefEqProofs only [f43_b0, optB_b, e13, e12, bin_lss, hlt', Option.bind_some, decide_true, decide_false, asB_bo, if_true, e0, ix1, ld1, e1, ix2, bin_neq, hxy, Bool.not_false, ok_some]
      exact nxt_r (.inr ⟨rfl, fun q => by subst q; rw [hx] at hy; cases hy; exact hxy rfl, by simp [upd]⟩)
  · have hlt' : ¬ ((j : Int) < (a.length : Nat)) := by omega
    simp -implicitDefEqProofs only [f43_b0, optB_b, e13, e12, bin_lss, hlt', Option.bind_some, decide_false, asB_bo, Bool.false_eq_true, if_false, ok_some]
    refine nxt_e (.inl ⟨rfl, ?_⟩)
    rw [List.take_of_length_le (by omega), List.take_of_length_le (by omega)] at ht
    exact ht

theorem e43 {a b : List Int} (ha : a.length ≤ 1000000000) : Ok (evFunc optB tab shared (Cw J) loopW noD Try.f43 [.sv (intsSV a), .sv (intsSV b)] []) fun r => r.1 = Bo (decide (a = b)) := by
  rw [f43_eq]
  have ln1 : ∀ l : List Int, ln (.slice 3 1 8 false) (.sv (intsSV l)) = some (I l.length) := fun l => by simp [intsSV]
  by_cases hl : a.length = b.length
  · have hl' : ((a.length : Nat) : Int) = (b.length : Nat) := by omega
    simp -implicitDefEqProofs only [f43_sh, optB_b, ln1, Option.bind_some, bin_neq, hl', decide_true, Bool.not_true, asB_bo, Bool.false_eq_true, if_false]
    rw [← hl']
    refine loop_ok (E43 a b) (fun r => (r.1 = .exit 0 ∧ a = b) ∨ (r.1 = .ret ∧ a ≠ b ∧ r.2.tm 4 = Bo false)) (n := a.length) ⟨0, by simp [upd, init], by simp [upd, init], by simp [upd], by simp [upd], by omega, by simp, by omega⟩ (fun n st hI => l43_b0 hl ha n st hI) ?_
    rintro ⟨o, st⟩ (⟨rfl, rfl⟩ | ⟨rfl, hne, e4⟩)
    · simp -implicitDefEqProofs only [outBlock_exit, if_true, outSeq_normal, f43_k0, ok_some, decide_true]
    · simp only at e4
      simp -implicitDefEqProofs only [outBlock_ret, outSeq_ret, endK_ret, resK_tmp, resK_nil, tup_one, e4, ok_some, hne, decide_false]
  · have hl' : ¬ ((a.length : Nat) : Int) = (b.length : Nat) := by omega
    have hne : a ≠ b := fun q => hl (by rw [q])
    simp -implicitDefEqProofs only [f43_sh, optB_b, ln1, Option.bind_some, bin_neq, hl', decide_false, Bool.not_false, asB_bo, if_true, ok_some, hne]

theorem c43 {a b : List Int} (ha : a.length ≤ 1000000000) (h : Heap) : Cw J 43 [.sv (intsSV a), .sv (intsSV b)] h = some (Bo (decide (a = b)), h) := by
  obtain ⟨⟨r, hr⟩, h1, rfl⟩ := e43 (J := J) (b := b) ha
  exact call_sv Try.func43 (by kernel_rfl) (by rfl) (by rfl) (by rfl) h1 (frzR_set (by rfl))

/-- Of slices of one's own: they are settled. -/
theorem c43o {a b : List Int} {u v : AV} {h : Heap} (hu : IsRow h 1 u (intRow a)) (hv : IsRow h 1 v (intRow b)) (ha : a.length ≤ 1000000000) : ∃ ids, Cw J 43 [u, v] h = some (Bo (decide (a = b)), settle h ids) ∧ ∀ i ∈ ids, ∃ cs wr, h[i]? = some (.cells 1 cs wr) := by
  obtain ⟨⟨r, hr⟩, h1, rfl⟩ := e43 (J := J) (b := b) ha
  have hf : ∀ {w : AV} {l : List Int}, IsRow h 1 w (intRow l) → ∃ ids, frzV frzDepth h w = some (.sv (intsSV l), ids) ∧ ∀ i ∈ ids, ∃ cs wr, h[i]? = some (.cells 1 cs wr) := by
    intro w l hw
    rcases hw.2 with ⟨rfl, q⟩ | ⟨id, rfl, h3⟩
    · have : l = [] := by simpa [intRow] using q
      subst this
      exact ⟨[], rfl, by simp⟩
    · have := frz_own (n := 5) (by decide) hw.1 h3
      exact ⟨[id], by simp only [frzV, frzDepth, this, Option.bind_some]; rfl, fun i hi => by rw [List.mem_singleton.1 hi]; exact ⟨_, _, h3⟩⟩
  obtain ⟨i1, f1, g1⟩ := hf hu
  obtain ⟨i2, f2, g2⟩ := hf hv
  refine ⟨i1 ++ i2, call_own Try.func43 (by kernel_rfl) (by rfl) (by rfl) (args' := [.sv (intsSV a), .sv (intsSV b)]) (ids := i1 ++ i2) ?_ h1 (frzR_set (by rfl)), ?_⟩
  · simp only [frzVs, f1, f2, Option.bind_some, List.append_nil]
  · intro i hi
    rcases List.mem_append.1 hi with q | q
    · exact g1 i q
    · exact g2 i q

/-! ### Instructions -/

theorem neq_ins (x y : Ins) : bin .neq (.struct (some [.int .i64, .int .i64, .int .i64, .int .i64, .int .i64])) (.agg (x.sv.map .sv)) (.agg (y.sv.map .sv)) = some (Bo (!decide (x = y))) := by
  simp only [bin, eqAgg, Ins.sv, List.map_cons, List.map_nil, eqCells, and_self, if_true, Option.bind_some]
  congr 4
  rw [Bool.eq_iff_iff]
  cases x; cases y
  simp

def E105 (a b : List Ins) (n : Nat) (st : St) : Prop :=
  ∃ j : Nat, st.tm 0 = .sv (inssSV a) ∧ st.tm 1 = .sv (inssSV b) ∧ st.tm 12 = I a.length ∧ st.tm 13 = I j ∧ j ≤ a.length ∧ a.take j = b.take j ∧ n = a.length - j

theorem l105_b0 {a b : List Ins} (hl : a.length = b.length) (ha : a.length ≤ 1000000000) (n : Nat) (st : St) (hI : E105 a b n st) :
    Ok (f105_b0 optB (Cw J) loopW st.tm st.h) (Nxt (E105 a b) (fun r => (r.1 = .exit 0 ∧ a = b) ∨ (r.1 = .ret ∧ a ≠ b ∧ r.2.tm 4 = Bo false)) n) := by
  obtain ⟨tm, h⟩ := st
  obtain ⟨j, e0, e1, e12, e13, hj, ht, rfl⟩ := hI
  simp only at e0 e1 e12 e13 ⊢
  by_cases hlt : j < a.length
  · obtain ⟨x, hx⟩ : ∃ x, a[j]? = some x := ⟨_, List.getElem?_eq_getElem hlt⟩
    obtain ⟨y, hy⟩ : ∃ y, b[j]? = some y := ⟨_, List.getElem?_eq_getElem (hl ▸ hlt)⟩
    have hlt' : (j : Int) < (a.length : Nat) := by omega
    have ix1 : ia (.slice 47 5 40 false) (.sv (inssSV a)) (I j) = some (.ref x.sv) := ia_sv (i := j) rfl (by simp [hx]) rfl
    have ix2 : ia (.slice 47 5 40 false) (.sv (inssSV b)) (I j) = some (.ref y.sv) := ia_sv (i := j) rfl (by simp [hy]) rfl
    have ld1 : ∀ z : Ins, ld 5 true (.ref z.sv) h = some (.agg (z.sv.map .sv)) := fun z => by rw [ld_ref (by simp [Ins.sv])]; rfl
    have w1 : IntKind.i64.wrap ((j : Int) + 1) = ((j + 1 : Nat) : Int) := by rw [wrapI (by omega) (by omega)]; omega
    by_cases hxy : x = y
    · simp -implicitDefEqProofs only [f105_b0, optB_b, e13, e12, bin_lss, hlt', Option.bind_some, decide_true, asB_bo, if_true, e0, ix1, ld1, e1, ix2, neq_ins, hxy, Bool.not_true, Bool.false_eq_true, if_false, bin_add, w1, ok_some]
      exact nxt_n (a.length - (j + 1)) (by omega) ⟨j + 1, by simp [upd, e0], by simp [upd, e1], by simp [upd, e12], by simp [upd], by omega, take_step ht hx hy hxy, rfl⟩
    · simp -implicitDefEqProofs only [f105_b0, optB_b, e13, e12, bin_lss, hlt', Option.bind_some, decide_true, decide_false, asB_bo, if_true, e0, ix1, ld1, e1, ix2, neq_ins, hxy, Bool.not_false, ok_some]
      exact nxt_r (.inr ⟨rfl, fun q => by subst q; rw [hx] at hy; cases hy; exact hxy rfl, by simp [upd]⟩)
  · have hlt' : ¬ ((j : Int) < (a.length : Nat)) := by omega
    simp -implicitDefEqProofs only [f105_b0, optB_b, e13, e12, bin_lss, hlt', Option.bind_some, decide_false, asB_bo, Bool.false_eq_true, if_false, ok_some]
    refine nxt_e (.inl ⟨rfl, ?_⟩)
    rw [List.take_of_length_le (by omega), List.take_of_length_le (by omega)] at ht
    exact ht

theorem c105 {a b : List Ins} (ha : a.length ≤ 1000000000) (h : Heap) : Cw J 105 [.sv (inssSV a), .sv (inssSV b)] h = some (Bo (decide (a = b)), h) := by
  have key : Ok (evFunc optB tab shared (Cw J) loopW noD Try.f105 [.sv (inssSV a), .sv (inssSV b)] []) fun r => r.1 = Bo (decide (a = b)) := by
    rw [f105_eq]
    have ln1 : ∀ l : List Ins, ln (.slice 47 5 40 false) (.sv (inssSV l)) = some (I l.length) := fun l => by simp [inssSV]
    by_cases hl : a.length = b.length
    · have hl' : ((a.length : Nat) : Int) = (b.length : Nat) := by omega
      simp -implicitDefEqProofs only [f105_sh, optB_b, ln1, Option.bind_some, bin_neq, hl', decide_true, Bool.not_true, asB_bo, Bool.false_eq_true, if_false]
      rw [← hl']
      refine loop_ok (E105 a b) (fun r => (r.1 = .exit 0 ∧ a = b) ∨ (r.1 = .ret ∧ a ≠ b ∧ r.2.tm 4 = Bo false)) (n := a.length) ⟨0, by simp [upd, init], by simp [upd, init], by simp [upd], by simp [upd], by omega, by simp, by omega⟩ (fun n st hI => l105_b0 hl ha n st hI) ?_
      rintro ⟨o, st⟩ (⟨rfl, rfl⟩ | ⟨rfl, hne, e4⟩)
      · simp -implicitDefEqProofs only [outBlock_exit, if_true, outSeq_normal, f105_k0, ok_some, decide_true]
      · simp only at e4
        simp -implicitDefEqProofs only [outBlock_ret, outSeq_ret, endK_ret, resK_tmp, resK_nil, tup_one, e4, ok_some, hne, decide_false]
    · have hl' : ¬ ((a.length : Nat) : Int) = (b.length : Nat) := by omega
      have hne : a ≠ b := fun q => hl (by rw [q])
      simp -implicitDefEqProofs only [f105_sh, optB_b, ln1, Option.bind_some, bin_neq, hl', decide_false, Bool.not_false, asB_bo, if_true, ok_some, hne]
  obtain ⟨⟨r, hr⟩, h1, rfl⟩ := key
  exact call_sv Try.func105 (by kernel_rfl) (by rfl) (by rfl) (by rfl) h1 (frzR_set (by rfl))

theorem eql3 (a b c x y z : Int) : bin .eql (.arr 3 1 false (some [.int .i64, .int .i64, .int .i64])) (.agg [I a, I b, I c]) (.agg [I x, I y, I z]) = some (Bo (decide (a = x ∧ b = y ∧ c = z))) := by
  simp only [bin, eqAgg, eqCells, and_self, if_true, Option.bind_some]
  congr 3
  rw [Bool.eq_iff_iff]
  simp

theorem c42 {c d : Cod} (hl : c.l.length ≤ 1000000000) (h : Heap) : Cw J 42 [codA c, codA d] h = some (Bo (decide (c.regs = d.regs ∧ c.arrs = d.arrs ∧ c.inn = d.inn) && decide (c.l = d.l)), h) := by
  have key : Ok (evFunc optB tab shared (Cw J) loopW noD Try.f42 [codA c, codA d] []) fun r => r.1 = Bo (decide (c.regs = d.regs ∧ c.arrs = d.arrs ∧ c.inn = d.inn) && decide (c.l = d.l)) := by
    rw [f42_eq]
    have b1 : boxA 4 (codA c) [] = some (.ptr 0 0, [.cells 0 (c.sv.map .sv) true]) := box_eq (cellsOf_agg _) rfl (cells_all _)
    have b2 : boxA 4 (codA d) [.cells 0 (c.sv.map .sv) true] = some (.ptr 1 0, [.cells 0 (c.sv.map .sv) true, .cells 0 (d.sv.map .sv) true]) := box_eq (cellsOf_agg _) rfl (cells_all _)
    have g0 : ld 1 false (.ptr 0 (0 + 0)) [Ent.cells 0 (c.sv.map .sv) true, .cells 0 (d.sv.map .sv) true] = some (I c.regs) := rfl
    have g1 : ld 1 false (.ptr 0 (0 + 1)) [Ent.cells 0 (c.sv.map .sv) true, .cells 0 (d.sv.map .sv) true] = some (I c.arrs) := rfl
    have g2 : ld 1 false (.ptr 0 (0 + 2)) [Ent.cells 0 (c.sv.map .sv) true, .cells 0 (d.sv.map .sv) true] = some (I c.inn) := rfl
    have g3 : ld 1 false (.ptr 0 (0 + 3)) [Ent.cells 0 (c.sv.map .sv) true, .cells 0 (d.sv.map .sv) true] = some (.sv (inssSV c.l)) := rfl
    have k0 : ld 1 false (.ptr 1 (0 + 0)) [Ent.cells 0 (c.sv.map .sv) true, .cells 0 (d.sv.map .sv) true] = some (I d.regs) := rfl
    have k1 : ld 1 false (.ptr 1 (0 + 1)) [Ent.cells 0 (c.sv.map .sv) true, .cells 0 (d.sv.map .sv) true] = some (I d.arrs) := rfl
    have k2 : ld 1 false (.ptr 1 (0 + 2)) [Ent.cells 0 (c.sv.map .sv) true, .cells 0 (d.sv.map .sv) true] = some (I d.inn) := rfl
    have k3 : ld 1 false (.ptr 1 (0 + 3)) [Ent.cells 0 (c.sv.map .sv) true, .cells 0 (d.sv.map .sv) true] = some (.sv (inssSV d.l)) := rfl
    have bd : ∀ x y z : Int, bdA tab 135 [(0, I x), (1, I y), (2, I z)] = some (.agg [I x, I y, I z]) := fun x y z => by rfl
    by_cases hq : c.regs = d.regs ∧ c.arrs = d.arrs ∧ c.inn = d.inn
    · simp -implicitDefEqProofs only [f42_sh, optB_b, b1, b2, Option.bind_some, fa_ptr, g0, g1, g2, g3, k0, k1, k2, k3, bd, eql3, hq, and_self, decide_true, gO_tt, if_true, c105 hl, asB_bo, ok_some, Bool.true_and]
    · simp -implicitDefEqProofs only [f42_sh, optB_b, b1, b2, Option.bind_some, fa_ptr, g0, g1, g2, g3, k0, k1, k2, k3, bd, eql3, hq, decide_false, gO_tt, Bool.false_eq_true, if_false, asB_bo, ok_some, Bool.false_and]
  obtain ⟨⟨r, hr⟩, h1, rfl⟩ := key
  exact call_sv Try.func42 (by kernel_rfl) (by rfl) (by rfl) (by rfl) h1 (frzR_set (by rfl))

end
end Go.Proofs.Ytmhamnnfcmkcfaa
