/- Functions as the abstract interpreter comes to them: printed by wip/tools/gensh.py. -/
import Derived.KernelRfl
import Derived.Test.YtmhamnnfcmkcfaaProg
import Derived.Test.YtmhamnnfcmkcfaaP2
import Derived.Test.YtmhamnnfcmkcfaaP4
import Derived.ChangeArms
import Derived.ChangeShapes
import Derived.WideShapes
import Derived.ChangeMaps5
import Derived.Carry
import Derived.Test.YtmhamnnfcmkcfaaP1
set_option linter.unusedVariables false
set_option maxRecDepth 100000
namespace Go.Proofs.Ytmhamnnfcmkcfaa

/-! purfle/purfleref14.word -/

noncomputable def f135_sh (B : BindS) (C : CallF) (L : LoopF) (v0 : AV) (h : Heap) : Option (AV × Heap) :=
  B.b (bsA (.slice 9 1 16 false) (some [.sv (.str [])]) 13 [(0, (.sv (.str [104, 97, 108, 116]))), (1, (.sv (.str [115, 101, 116]))), (2, (.sv (.str [109, 111, 118, 101]))), (3, (.sv (.str [97, 100, 100]))), (4, (.sv (.str [115, 117, 98]))), (5, (.sv (.str [109, 117, 108]))), (6, (.sv (.str [108, 111, 97, 100]))), (7, (.sv (.str [115, 116, 111, 114, 101]))), (8, (.sv (.str [108, 101, 110]))), (9, (.sv (.str [112, 117, 115, 104]))), (10, (.sv (.str [106, 117, 109, 112]))), (11, (.sv (.str [108, 101, 115, 115]))), (12, (.sv (.str [115, 97, 109, 101])))] h) fun r1 =>
  B.b (bsA (.slice 9 1 16 false) (some [.sv (.str [])]) 13 [(0, (.sv (.str []))), (1, (.sv (.str [119, 110]))), (2, (.sv (.str [119, 114]))), (3, (.sv (.str [119, 114, 114]))), (4, (.sv (.str [119, 114, 114]))), (5, (.sv (.str [119, 114, 114]))), (6, (.sv (.str [119, 97, 114]))), (7, (.sv (.str [97, 114, 114]))), (8, (.sv (.str [119, 97]))), (9, (.sv (.str [97, 114]))), (10, (.sv (.str [112]))), (11, (.sv (.str [114, 114, 112]))), (12, (.sv (.str [114, 114, 112])))] r1.2) fun r2 =>
  B.b (bin .lss (.int .i64) v0 (.sv (.int .i64 0))) fun w3 =>
  B.b (gO (some (w3, false)) (some v0) .dead) fun w4 =>
  B.b (gO (some (w3, false)) (some r1.1) .dead) fun w5 =>
  B.b (gO (some (w3, false)) (ln (.slice 9 1 16 false) w5) .dead) fun w6 =>
  B.b (gO (some (w3, false)) (bin .geq (.int .i64) w4 w6) .dead) fun w7 =>
  B.b ((asB w3).bind fun t => some (if t then (.sv (.bool true)) else w7)) fun w8 =>
  B.b (asB w8) fun t9 =>
  if t9 then (some (.tuple [(.sv (.str [])), (.sv (.str []))], r2.2)) else
  B.b (ia (.slice 9 1 16 false) r1.1 v0) fun w10 =>
  B.b (ld 1 false w10 r2.2) fun w11 =>
  B.b (ia (.slice 9 1 16 false) r2.1 v0) fun w12 =>
  B.b (ld 1 false w12 r2.2) fun w13 =>
  some (.tuple [w11, w13], r2.2)
theorem f135_eq (B : BindS) (C : CallF) (L : LoopF) (v0 : AV) (h : Heap) : evFunc B tab shared C L noD Try.f135 [v0] h = f135_sh B C L v0 h := by kernel_rfl

/-! purfle/purfleref14.fields -/

noncomputable def f136_sh (B : BindS) (C : CallF) (L : LoopF) (v0 : AV) (h : Heap) : Option (AV × Heap) :=
  B.b (boxA 5 v0 h) fun r1 =>
  B.b (fa 1 r1.1) fun w2 =>
  B.b (ld 1 false w2 r1.2) fun w3 =>
  B.b (fa 2 r1.1) fun w4 =>
  B.b (ld 1 false w4 r1.2) fun w5 =>
  B.b (fa 3 r1.1) fun w6 =>
  B.b (ld 1 false w6 r1.2) fun w7 =>
  B.b (bsA (.slice 3 1 8 false) (some [.sv (.int .i64 0)]) 3 [(0, w3), (1, w5), (2, w7)] r1.2) fun r8 =>
  some (r8.1, r8.2)
theorem f136_eq (B : BindS) (C : CallF) (L : LoopF) (v0 : AV) (h : Heap) : evFunc B tab shared C L noD Try.f136 [v0] h = f136_sh B C L v0 h := by kernel_rfl

/-! purfle/purfleref14.op -/
noncomputable def f151_b0 (B : BindS) (C : CallF) (L : LoopF) (tm : Tm) (h : Heap) : Option (Out × St) :=
  B.b (bin .lss (.int .i64) (tm 6) (.sv (.int .i64 13))) fun w1 =>
  B.b (asB w1) fun t2 =>
  if t2 then (B.b (C 135 [(tm 6)] h) fun r3 =>
  B.b (ex 0 r3.1) fun w4 =>
  B.b (ex 1 r3.1) fun w5 =>
  B.b (bin .eql .str w4 (tm 0)) fun w6 =>
  B.b (asB w6) fun t7 =>
  if t7 then (some (.ret, ⟨(upd (upd (upd (upd (upd (upd (upd (upd (upd (upd (upd (upd (upd (upd (upd tm 7 w1) 8 (tm 6)) 3 (tm 6)) 10 (tm 6)) 11 r3.1) 9 r3.1) 12 w4) 13 w5) 4 w4) 5 w5) 14 w4) 15 (tm 0)) 16 w6) 17 (tm 6)) 2 (tm 6)), r3.2⟩)) else
  B.b (bin .add (.int .i64) (tm 6) (.sv (.int .i64 1))) fun w8 =>
  some (.normal, ⟨(upd (upd (upd (upd (upd (upd (upd (upd (upd (upd (upd (upd (upd (upd (upd tm 7 w1) 8 (tm 6)) 3 (tm 6)) 10 (tm 6)) 11 r3.1) 9 r3.1) 12 w4) 13 w5) 4 w4) 5 w5) 14 w4) 15 (tm 0)) 16 w6) 18 w8) 6 w8), r3.2⟩)) else
  some (.exit 0, ⟨(upd tm 7 w1), h⟩)

noncomputable def f151_k0 (B : BindS) (C : CallF) (L : LoopF) (tm : Tm) (h : Heap) : Option (AV × Heap) :=
  some ((.sv (.int .i64 (-1))), h)

noncomputable def f151_sh (B : BindS) (C : CallF) (L : LoopF) (v0 : AV) (h : Heap) : Option (AV × Heap) :=
  B.b (L (fun s => f151_b0 B C L s.tm s.h) ⟨(upd (upd (init [v0]) 2 (.sv (.int .i64 0))) 6 (.sv (.int .i64 0))), h⟩) fun r9 => (outBlock 0 (outSeq (f151_k0 B C L) (endK B tab [.tmp 2]))) r9.1 r9.2.tm r9.2.h
theorem f151_eq (B : BindS) (C : CallF) (L : LoopF) (v0 : AV) (h : Heap) : evFunc B tab shared C L noD Try.f151 [v0] h = f151_sh B C L v0 h := by kernel_rfl

/-! purfle/purfleref14.behind -/

noncomputable def f152_sh (B : BindS) (C : CallF) (L : LoopF) (v0 : AV) (v1 : AV) (h : Heap) : Option (AV × Heap) :=
  B.b (boxA 3 v0 h) fun r1 =>
  B.b (fa 0 r1.1) fun w2 =>
  B.b (ld 1 false w2 r1.2) fun w3 =>
  B.b (bin .neq (.int .i64) w3 (.sv (.int .i64 1))) fun w4 =>
  B.b (gO (some (w4, false)) (fa 1 r1.1) .dead) fun w5 =>
  B.b (gO (some (w4, false)) (ld 1 false w5 r1.2) .dead) fun w6 =>
  B.b (gO (some (w4, false)) (sl .str w6 none (some (.sv (.int .i64 1))) r1.2) .dead) fun w7 =>
  B.b (gO (some (w4, false)) (some v1) .dead) fun w8 =>
  B.b (gO (some (w4, false)) (bin .neq .str w7 w8) .dead) fun w9 =>
  B.b ((asB w4).bind fun t => some (if t then (.sv (.bool true)) else w9)) fun w10 =>
  B.b (asB w10) fun t11 =>
  if t11 then (some (.tuple [(.sv (.int .i64 0)), (.sv (.bool false))], r1.2)) else
  B.b (fa 1 r1.1) fun w12 =>
  B.b (ld 1 false w12 r1.2) fun w13 =>
  B.b (sl .str w13 (some (.sv (.int .i64 1))) none r1.2) fun w14 =>
  B.b (C 93 [w14] r1.2) fun r15 =>
  B.b (ex 0 r15.1) fun w16 =>
  B.b (ex 1 r15.1) fun w17 =>
  some (.tuple [w16, w17], r15.2)
theorem f152_eq (B : BindS) (C : CallF) (L : LoopF) (v0 : AV) (v1 : AV) (h : Heap) : evFunc B tab shared C L noD Try.f152 [v0, v1] h = f152_sh B C L v0 v1 h := by kernel_rfl

/-! purfle/purfleref14.ins -/
noncomputable def f99_k1 (B : BindS) (C : CallF) (L : LoopF) (tm : Tm) (h : Heap) : Option (Out × St) :=
  B.b (un .not (tm 9)) fun w58 =>
  B.b (asB w58) fun t59 =>
  if t59 then (B.b (ld 5 true (tm 4) h) fun w60 =>
  B.b (storeA 5 (tm 2) w60 h) fun r61 =>
  some (.ret, ⟨(upd (upd (upd (upd tm 139 (tm 9)) 140 w58) 141 w60) 3 (.sv (.bool false))), r61.2⟩)) else
  B.b (sl (.slice 35 3 32 false) (tm 0) (some (.sv (.int .i64 1))) none h) fun w62 =>
  B.b (bin .add (.int .i64) (tm 46) (.sv (.int .i64 1))) fun w63 =>
  some (.normal, ⟨(upd (upd (upd (upd (upd (upd (upd tm 139 (tm 9)) 140 w58) 142 (tm 0)) 143 w62) 0 w62) 144 w63) 46 w63), h⟩)

noncomputable def f99_k0 (B : BindS) (C : CallF) (L : LoopF) (tm : Tm) (h : Heap) : Option (Out × St) :=
  B.b (asB (tm 61)) fun t50 =>
  if t50 then (B.b (ia (.slice 35 3 32 false) (tm 0) (.sv (.int .i64 0))) fun w51 =>
  B.b (ld 3 true w51 h) fun w52 =>
  B.b (C 152 [w52, (.sv (.str [114]))] h) fun r53 =>
  B.b (ex 0 r53.1) fun w54 =>
  B.b (ex 1 r53.1) fun w55 =>
  B.b (ia (.slice 3 1 8 false) (tm 7) (tm 8)) fun w56 =>
  B.b (storeA 1 w56 w54 r53.2) fun r57 =>
  f99_k1 B C L (upd (upd (upd (upd (upd (upd (upd (upd (upd (upd (upd tm 65 (tm 7)) 66 (tm 8)) 67 (tm 0)) 68 w51) 69 w52) 70 r53.1) 64 r53.1) 71 w54) 72 w55) 73 w56) 9 w55) r57.2) else
  B.b (bin .eql (.int .u8) (tm 60) (.sv (.int .u8 97))) fun w64 =>
  B.b (asB w64) fun t65 =>
  if t65 then (B.b (ia (.slice 35 3 32 false) (tm 0) (.sv (.int .i64 0))) fun w66 =>
  B.b (ld 3 true w66 h) fun w67 =>
  B.b (C 152 [w67, (.sv (.str [97]))] h) fun r68 =>
  B.b (ex 0 r68.1) fun w69 =>
  B.b (ex 1 r68.1) fun w70 =>
  B.b (ia (.slice 3 1 8 false) (tm 7) (tm 8)) fun w71 =>
  B.b (storeA 1 w71 w69 r68.2) fun r72 =>
  f99_k1 B C L (upd (upd (upd (upd (upd (upd (upd (upd (upd (upd (upd (upd (upd tm 75 w64) 74 w64) 77 (tm 7)) 78 (tm 8)) 79 (tm 0)) 80 w66) 81 w67) 82 r68.1) 76 r68.1) 83 w69) 84 w70) 85 w71) 9 w70) r72.2) else
  B.b (bin .eql (.int .u8) (tm 60) (.sv (.int .u8 112))) fun w73 =>
  B.b (asB w73) fun t74 =>
  if t74 then (B.b (ia (.slice 35 3 32 false) (tm 0) (.sv (.int .i64 0))) fun w75 =>
  B.b (fa 2 w75) fun w76 =>
  B.b (ld 1 false w76 h) fun w77 =>
  B.b (ia (.slice 3 1 8 false) (tm 7) (tm 8)) fun w78 =>
  B.b (storeA 1 w78 w77 h) fun r79 =>
  f99_k1 B C L (upd (upd (upd (upd (upd (upd (upd (upd (upd (upd (upd tm 75 w64) 74 w64) 87 w73) 86 w73) 88 (tm 7)) 89 (tm 8)) 90 (tm 0)) 91 w75) 92 w76) 93 w77) 94 w78) r79.2) else
  B.b (bin .eql (.int .u8) (tm 60) (.sv (.int .u8 110))) fun w80 =>
  B.b (asB w80) fun t81 =>
  if t81 then (B.b (ia (.slice 35 3 32 false) (tm 0) (.sv (.int .i64 0))) fun w82 =>
  B.b (fa 2 w82) fun w83 =>
  B.b (ld 1 false w83 h) fun w84 =>
  B.b (fa 4 (tm 4)) fun w85 =>
  B.b (storeA 1 w85 w84 h) fun r86 =>
  B.b (ia (.slice 35 3 32 false) (tm 0) (.sv (.int .i64 0))) fun w87 =>
  B.b (fa 0 w87) fun w88 =>
  B.b (ld 1 false w88 r86.2) fun w89 =>
  B.b (bin .eql (.int .i64) w89 (.sv (.int .i64 3))) fun w90 =>
  B.b (gO (some (w90, true)) (some (tm 0)) .dead) fun w91 =>
  B.b (gO (some (w90, true)) (ia (.slice 35 3 32 false) w91 (.sv (.int .i64 0))) .dead) fun w92 =>
  B.b (gO (some (w90, true)) (fa 1 w92) .dead) fun w93 =>
  B.b (gO (some (w90, true)) (ld 1 false w93 r86.2) .dead) fun w94 =>
  B.b (gO (some (w90, true)) (bin .eql .str w94 (.sv (.str [45]))) .dead) fun w95 =>
  B.b ((asB w90).bind fun t => some (if t then w95 else (.sv (.bool false)))) fun w96 =>
  B.b (gO (some (w96, true)) (some (tm 0)) .dead) fun w97 =>
  B.b (gO (some (w96, true)) (ln (.slice 35 3 32 false) w97) .dead) fun w98 =>
  B.b (gO (some (w96, true)) (bin .eql (.int .i64) w98 (.sv (.int .i64 2))) .dead) fun w99 =>
  B.b ((asB w96).bind fun t => some (if t then w99 else (.sv (.bool false)))) fun w100 =>
  B.b (asB w100) fun t101 =>
  if t101 then (B.b (sl (.slice 35 3 32 false) (tm 0) (some (.sv (.int .i64 1))) none r86.2) fun w102 =>
  B.b (ia (.slice 35 3 32 false) w102 (.sv (.int .i64 0))) fun w103 =>
  B.b (fa 2 w103) fun w104 =>
  B.b (ld 1 false w104 r86.2) fun w105 =>
  B.b (un .neg w105) fun w106 =>
  B.b (fa 4 (tm 4)) fun w107 =>
  B.b (storeA 1 w107 w106 r86.2) fun r108 =>
  B.b (ia (.slice 35 3 32 false) w102 (.sv (.int .i64 0))) fun w109 =>
  B.b (fa 0 w109) fun w110 =>
  B.b (ld 1 false w110 r108.2) fun w111 =>
  B.b (bin .eql (.int .i64) w111 (.sv (.int .i64 2))) fun w112 =>
  B.b (gO (some (w112, true)) (some w102) .dead) fun w113 =>
  B.b (gO (some (w112, true)) (ia (.slice 35 3 32 false) w113 (.sv (.int .i64 0))) .dead) fun w114 =>
  B.b (gO (some (w112, true)) (fa 2 w114) .dead) fun w115 =>
  B.b (gO (some (w112, true)) (ld 1 false w115 r108.2) .dead) fun w116 =>
  B.b (gO (some (w112, true)) (bin .neq (.int .i64) w116 (.sv (.int .i64 0))) .dead) fun w117 =>
  B.b ((asB w112).bind fun t => some (if t then w117 else (.sv (.bool false)))) fun w118 =>
  f99_k1 B C L (upd (upd (upd (upd (upd (upd (upd (upd (upd (upd (upd (upd (upd (upd (upd (upd (upd (upd (upd (upd (upd (upd (upd (upd (upd (upd (upd (upd (upd (upd (upd (upd (upd (upd (upd (upd (upd (upd (upd (upd (upd (upd (upd (upd (upd (upd (upd (upd (upd (upd tm 75 w64) 74 w64) 87 w73) 86 w73) 96 w80) 95 w80) 97 (tm 0)) 98 w82) 99 w83) 100 w84) 101 w85) 102 (tm 0)) 103 w87) 104 w88) 105 w89) 106 w90) 107 w90) 108 w91) 109 w92) 110 w93) 111 w94) 112 w95) 113 w96) 114 w96) 115 w97) 116 w98) 117 w99) 118 w100) 119 (tm 0)) 120 w102) 0 w102) 121 w102) 122 w103) 123 w104) 124 w105) 125 w106) 126 w107) 127 w102) 128 w109) 129 w110) 130 w111) 131 w112) 132 w112) 133 w113) 134 w114) 135 w115) 136 w116) 137 w117) 138 w118) 9 w118) r108.2) else
  f99_k1 B C L (upd (upd (upd (upd (upd (upd (upd (upd (upd (upd (upd (upd (upd (upd (upd (upd (upd (upd (upd (upd (upd (upd (upd (upd (upd (upd (upd (upd tm 75 w64) 74 w64) 87 w73) 86 w73) 96 w80) 95 w80) 97 (tm 0)) 98 w82) 99 w83) 100 w84) 101 w85) 102 (tm 0)) 103 w87) 104 w88) 105 w89) 106 w90) 107 w90) 108 w91) 109 w92) 110 w93) 111 w94) 112 w95) 113 w96) 114 w96) 115 w97) 116 w98) 117 w99) 118 w100) r86.2) else
  f99_k1 B C L (upd (upd (upd (upd (upd (upd tm 75 w64) 74 w64) 87 w73) 86 w73) 96 w80) 95 w80) h

noncomputable def f99_b0 (B : BindS) (C : CallF) (L : LoopF) (tm : Tm) (h : Heap) : Option (Out × St) :=
  B.b (bin .lss (.int .i64) (tm 46) (tm 45)) fun w36 =>
  B.b (asB w36) fun t37 =>
  if t37 then (B.b (ln (.slice 35 3 32 false) (tm 0)) fun w38 =>
  B.b (bin .eql (.int .i64) w38 (.sv (.int .i64 0))) fun w39 =>
  B.b (asB w39) fun t40 =>
  if t40 then (B.b (ld 5 true (tm 4) h) fun w41 =>
  B.b (storeA 5 (tm 2) w41 h) fun r42 =>
  some (.ret, ⟨(upd (upd (upd (upd (upd (upd (upd (upd tm 47 w36) 48 (tm 46)) 8 (tm 46)) 49 (tm 0)) 50 w38) 51 w39) 52 w41) 3 (.sv (.bool false))), r42.2⟩)) else
  B.b (ia (.slice 35 3 32 false) (tm 0) (.sv (.int .i64 0))) fun w43 =>
  B.b (fa 0 w43) fun w44 =>
  B.b (ld 1 false w44 h) fun w45 =>
  B.b (bin .eql (.int .i64) w45 (.sv (.int .i64 2))) fun w46 =>
  B.b (ix .str (tm 6) (tm 46)) fun w47 =>
  B.b (bin .eql (.int .u8) w47 (.sv (.int .u8 119))) fun w48 =>
  B.b (asB w48) fun t49 =>
  if t49 then (f99_k0 B C L (upd (upd (upd (upd (upd (upd (upd (upd (upd (upd (upd (upd (upd (upd (upd (upd (upd tm 47 w36) 48 (tm 46)) 8 (tm 46)) 49 (tm 0)) 50 w38) 51 w39) 53 (tm 0)) 54 w43) 55 w44) 56 w45) 57 w46) 9 w46) 58 (tm 6)) 59 (tm 46)) 60 w47) 62 w48) 61 w48) h) else
  B.b (bin .eql (.int .u8) w47 (.sv (.int .u8 114))) fun w119 =>
  f99_k0 B C L (upd (upd (upd (upd (upd (upd (upd (upd (upd (upd (upd (upd (upd (upd (upd (upd (upd (upd (upd tm 47 w36) 48 (tm 46)) 8 (tm 46)) 49 (tm 0)) 50 w38) 51 w39) 53 (tm 0)) 54 w43) 55 w44) 56 w45) 57 w46) 9 w46) 58 (tm 6)) 59 (tm 46)) 60 w47) 62 w48) 61 w48) 63 w119) 61 w119) h) else
  some (.exit 0, ⟨(upd tm 47 w36), h⟩)

noncomputable def f99_k2 (B : BindS) (C : CallF) (L : LoopF) (tm : Tm) (h : Heap) : Option (AV × Heap) :=
  B.b (ia (.slice 3 1 8 false) (tm 7) (.sv (.int .i64 0))) fun w121 =>
  B.b (ld 1 false w121 h) fun w122 =>
  B.b (fa 1 (tm 4)) fun w123 =>
  B.b (storeA 1 w123 w122 h) fun r124 =>
  B.b (ia (.slice 3 1 8 false) (tm 7) (.sv (.int .i64 1))) fun w125 =>
  B.b (ld 1 false w125 r124.2) fun w126 =>
  B.b (fa 2 (tm 4)) fun w127 =>
  B.b (storeA 1 w127 w126 r124.2) fun r128 =>
  B.b (ia (.slice 3 1 8 false) (tm 7) (.sv (.int .i64 2))) fun w129 =>
  B.b (ld 1 false w129 r128.2) fun w130 =>
  B.b (fa 3 (tm 4)) fun w131 =>
  B.b (storeA 1 w131 w130 r128.2) fun r132 =>
  B.b (ld 5 true (tm 4) r132.2) fun w133 =>
  B.b (ln (.slice 35 3 32 false) (tm 0)) fun w134 =>
  B.b (bin .eql (.int .i64) w134 (.sv (.int .i64 0))) fun w135 =>
  B.b (storeA 5 (tm 2) w133 r132.2) fun r136 =>
  B.b (ld 5 true (tm 2) r136.2) fun w137 =>
  some (.tuple [w137, w135], r136.2)

noncomputable def f99_sh (B : BindS) (C : CallF) (L : LoopF) (v0 : AV) (h : Heap) : Option (AV × Heap) :=
  B.b (alloc [.sv (.int .i64 0), .sv (.int .i64 0), .sv (.int .i64 0), .sv (.int .i64 0), .sv (.int .i64 0)] h) fun r1 =>
  B.b (ln (.slice 35 3 32 false) v0) fun w2 =>
  B.b (bin .eql (.int .i64) w2 (.sv (.int .i64 0))) fun w3 =>
  B.b (gO (some (w3, false)) (some v0) .dead) fun w4 =>
  B.b (gO (some (w3, false)) (ia (.slice 35 3 32 false) w4 (.sv (.int .i64 0))) .dead) fun w5 =>
  B.b (gO (some (w3, false)) (fa 0 w5) .dead) fun w6 =>
  B.b (gO (some (w3, false)) (ld 1 false w6 r1.2) .dead) fun w7 =>
  B.b (gO (some (w3, false)) (bin .neq (.int .i64) w7 (.sv (.int .i64 1))) .dead) fun w8 =>
  B.b ((asB w3).bind fun t => some (if t then (.sv (.bool true)) else w8)) fun w9 =>
  B.b (gO (some (w9, false)) (some v0) .dead) fun w10 =>
  B.b (gO (some (w9, false)) (ia (.slice 35 3 32 false) w10 (.sv (.int .i64 0))) .dead) fun w11 =>
  B.b (gO (some (w9, false)) (fa 1 w11) .dead) fun w12 =>
  B.b (gO (some (w9, false)) (ld 1 false w12 r1.2) .dead) fun w13 =>
  B.b (gO (some (w9, false)) (C 151 [w13] r1.2) (.dead, r1.2)) fun r14 =>
  B.b (gO (some (w9, false)) (bin .lss (.int .i64) r14.1 (.sv (.int .i64 0))) .dead) fun w15 =>
  B.b ((asB w9).bind fun t => some (if t then (.sv (.bool true)) else w15)) fun w16 =>
  B.b (asB w16) fun t17 =>
  if t17 then (B.b (bdA tab 47 []) fun w18 =>
  B.b (storeA 5 r1.1 w18 r14.2) fun r19 =>
  B.b (ld 5 true r1.1 r19.2) fun w20 =>
  some (.tuple [w20, (.sv (.bool false))], r19.2)) else
  B.b (ia (.slice 35 3 32 false) v0 (.sv (.int .i64 0))) fun w21 =>
  B.b (fa 1 w21) fun w22 =>
  B.b (ld 1 false w22 r14.2) fun w23 =>
  B.b (C 151 [w23] r14.2) fun r24 =>
  B.b (bdA tab 47 [(0, r24.1)]) fun w25 =>
  B.b (alloc [.sv (.int .i64 0), .sv (.int .i64 0), .sv (.int .i64 0), .sv (.int .i64 0), .sv (.int .i64 0)] r24.2) fun r26 =>
  B.b (storeA 5 r26.1 w25 r26.2) fun r27 =>
  B.b (fa 0 r26.1) fun w28 =>
  B.b (ld 1 false w28 r27.2) fun w29 =>
  B.b (C 135 [w29] r27.2) fun r30 =>
  B.b (ex 0 r30.1) fun w31 =>
  B.b (ex 1 r30.1) fun w32 =>
  B.b (sl (.slice 35 3 32 false) v0 (some (.sv (.int .i64 1))) none r30.2) fun w33 =>
  B.b (bsA (.slice 3 1 8 false) (some [.sv (.int .i64 0)]) 3 [(0, (.sv (.int .i64 0))), (1, (.sv (.int .i64 0))), (2, (.sv (.int .i64 0)))] r30.2) fun r34 =>
  B.b (ln .str w32) fun w35 =>
  B.b (L (fun s => f99_b0 B C L s.tm s.h) ⟨(upd (upd (upd (upd (upd (upd (upd (upd (upd (upd (upd (upd (upd (upd (upd (upd (upd (upd (upd (upd (upd (upd (upd (upd (upd (upd (upd (upd (upd (upd (upd (upd (upd (upd (upd (upd (upd (upd (upd (upd (upd (upd (upd (init [v0]) 2 r1.1) 3 (.sv (.bool false))) 10 v0) 11 w2) 12 w3) 13 w3) 14 w4) 15 w5) 16 w6) 17 w7) 18 w8) 19 w9) 20 w9) 21 w10) 22 w11) 23 w12) 24 w13) 25 r14.1) 26 w15) 27 w16) 29 v0) 30 w21) 31 w22) 32 w23) 33 r24.1) 34 w25) 4 r26.1) 36 w28) 37 w29) 38 r30.1) 35 r30.1) 39 w31) 40 w32) 5 w31) 6 w32) 41 v0) 42 w33) 0 w33) 43 r34.1) 7 r34.1) 44 w32) 45 w35) 46 (.sv (.int .i64 0))), r34.2⟩) fun r120 => (outBlock 0 (outSeq (f99_k2 B C L) (endK B tab [.cell 2 47, .tmp 3]))) r120.1 r120.2.tm r120.2.h
theorem f99_eq (B : BindS) (C : CallF) (L : LoopF) (v0 : AV) (h : Heap) : evFunc B tab shared C L noD Try.f99 [v0] h = f99_sh B C L v0 h := by kernel_rfl

/-! purfle/purfleref14.Parse -/
noncomputable def f34_b0 (B : BindS) (C : CallF) (L : LoopF) (tm : Tm) (h : Heap) : Option (Out × St) :=
  B.b (bin .lss (.int .i64) (tm 90) (tm 89)) fun w70 =>
  B.b (asB w70) fun t71 =>
  if t71 then (B.b (ia (.slice 22 1 24 false) (tm 88) (tm 90)) fun w72 =>
  B.b (ld 1 false w72 h) fun w73 =>
  B.b (C 99 [w73] h) fun r74 =>
  B.b (ex 0 r74.1) fun w75 =>
  B.b (ex 1 r74.1) fun w76 =>
  B.b (alloc [.sv (.int .i64 0), .sv (.int .i64 0), .sv (.int .i64 0), .sv (.int .i64 0), .sv (.int .i64 0)] r74.2) fun r77 =>
  B.b (storeA 5 r77.1 w75 r77.2) fun r78 =>
  B.b (un .not w76) fun w79 =>
  B.b (asB w79) fun t80 =>
  if t80 then (B.b (bdA tab 39 []) fun w81 =>
  B.b (bin .add (.int .i64) (tm 90) (.sv (.int .i64 1))) fun w82 =>
  B.b (storeA 4 (tm 2) w81 r78.2) fun r83 =>
  some (.ret, ⟨(upd (upd (upd (upd (upd (upd (upd (upd (upd (upd (upd (upd (upd (upd (upd (upd (upd (upd (upd (upd tm 91 w70) 92 (tm 90)) 93 w72) 94 w73) 11 (tm 90)) 12 w73) 96 w73) 97 r74.1) 95 r74.1) 98 w75) 99 w76) 13 r77.1) 14 w76) 100 w76) 101 w79) 102 w81) 103 (tm 90)) 104 w82) 3 w82) 4 (.sv (.int .i64 6))), r83.2⟩)) else
  B.b (fa 3 (tm 10)) fun w84 =>
  B.b (ld 1 false w84 r78.2) fun w85 =>
  B.b (ld 5 true r77.1 r78.2) fun w86 =>
  B.b (bsA (.slice 47 5 40 false) (some [.sv (.int .i64 0), .sv (.int .i64 0), .sv (.int .i64 0), .sv (.int .i64 0), .sv (.int .i64 0)]) 1 [(0, w86)] r78.2) fun r87 =>
  B.b (apA (.slice 47 5 40 false) w85 r87.1 r87.2) fun r88 =>
  B.b (fa 3 (tm 10)) fun w89 =>
  B.b (storeA 1 w89 r88.1 r88.2) fun r90 =>
  B.b (bin .add (.int .i64) (tm 90) (.sv (.int .i64 1))) fun w91 =>
  some (.normal, ⟨(upd (upd (upd (upd (upd (upd (upd (upd (upd (upd (upd (upd (upd (upd (upd (upd (upd (upd (upd (upd (upd (upd (upd tm 91 w70) 92 (tm 90)) 93 w72) 94 w73) 11 (tm 90)) 12 w73) 96 w73) 97 r74.1) 95 r74.1) 98 w75) 99 w76) 13 r77.1) 14 w76) 100 w76) 101 w79) 105 w84) 106 w85) 107 w86) 108 r87.1) 109 r88.1) 110 w89) 111 w91) 90 w91), r90.2⟩)) else
  some (.exit 0, ⟨(upd tm 91 w70), h⟩)

noncomputable def f34_k0 (B : BindS) (C : CallF) (L : LoopF) (tm : Tm) (h : Heap) : Option (AV × Heap) :=
  B.b (ld 4 true (tm 10) h) fun w93 =>
  B.b (C 78 [w93] h) fun r94 =>
  B.b (bin .neq (.int .i64) r94.1 (.sv (.int .i64 0))) fun w95 =>
  B.b (asB w95) fun t96 =>
  if t96 then (B.b (bdA tab 39 []) fun w97 =>
  B.b (storeA 4 (tm 2) w97 r94.2) fun r98 =>
  B.b (ld 4 true (tm 2) r98.2) fun w99 =>
  some (.tuple [w99, (.sv (.int .i64 0)), (.sv (.int .i64 1))], r98.2)) else
  B.b (ld 4 true (tm 10) r94.2) fun w100 =>
  B.b (ln (.slice 22 1 24 false) (tm 8)) fun w101 =>
  B.b (storeA 4 (tm 2) w100 r94.2) fun r102 =>
  B.b (ld 4 true (tm 2) r102.2) fun w103 =>
  some (.tuple [w103, w101, (.sv (.int .i64 0))], r102.2)

noncomputable def f34_sh (B : BindS) (C : CallF) (L : LoopF) (v0 : AV) (h : Heap) : Option (AV × Heap) :=
  B.b (alloc [.sv (.int .i64 0), .sv (.int .i64 0), .sv (.int .i64 0), .nil] h) fun r1 =>
  B.b (C 98 [v0] r1.2) fun r2 =>
  B.b (ex 0 r2.1) fun w3 =>
  B.b (ex 1 r2.1) fun w4 =>
  B.b (ex 2 r2.1) fun w5 =>
  B.b (bin .neq (.int .i64) w5 (.sv (.int .i64 0))) fun w6 =>
  B.b (asB w6) fun t7 =>
  if t7 then (B.b (bdA tab 39 []) fun w8 =>
  B.b (storeA 4 r1.1 w8 r2.2) fun r9 =>
  B.b (ld 4 true r1.1 r9.2) fun w10 =>
  some (.tuple [w10, w4, w5], r9.2)) else
  B.b (C 29 [w3] r2.2) fun r11 =>
  B.b (ln (.slice 22 1 24 false) r11.1) fun w12 =>
  B.b (bin .eql (.int .i64) w12 (.sv (.int .i64 0))) fun w13 =>
  B.b (asB w13) fun t14 =>
  if t14 then (B.b (bdA tab 39 []) fun w15 =>
  B.b (storeA 4 r1.1 w15 r11.2) fun r16 =>
  B.b (ld 4 true r1.1 r16.2) fun w17 =>
  some (.tuple [w17, (.sv (.int .i64 0)), (.sv (.int .i64 6))], r16.2)) else
  B.b (ia (.slice 22 1 24 false) r11.1 (.sv (.int .i64 0))) fun w18 =>
  B.b (ld 1 false w18 r11.2) fun w19 =>
  B.b (ln (.slice 35 3 32 false) w19) fun w20 =>
  B.b (bin .neq (.int .i64) w20 (.sv (.int .i64 4))) fun w21 =>
  B.b (gO (some (w21, false)) (some w19) .dead) fun w22 =>
  B.b (gO (some (w21, false)) (ia (.slice 35 3 32 false) w22 (.sv (.int .i64 0))) .dead) fun w23 =>
  B.b (gO (some (w21, false)) (fa 0 w23) .dead) fun w24 =>
  B.b (gO (some (w21, false)) (ld 1 false w24 r11.2) .dead) fun w25 =>
  B.b (gO (some (w21, false)) (bin .neq (.int .i64) w25 (.sv (.int .i64 1))) .dead) fun w26 =>
  B.b ((asB w21).bind fun t => some (if t then (.sv (.bool true)) else w26)) fun w27 =>
  B.b (gO (some (w27, false)) (some w19) .dead) fun w28 =>
  B.b (gO (some (w27, false)) (ia (.slice 35 3 32 false) w28 (.sv (.int .i64 0))) .dead) fun w29 =>
  B.b (gO (some (w27, false)) (fa 1 w29) .dead) fun w30 =>
  B.b (gO (some (w27, false)) (ld 1 false w30 r11.2) .dead) fun w31 =>
  B.b (gO (some (w27, false)) (bin .neq .str w31 (.sv (.str [99, 111, 100, 101]))) .dead) fun w32 =>
  B.b ((asB w27).bind fun t => some (if t then (.sv (.bool true)) else w32)) fun w33 =>
  B.b (gO (some (w33, false)) (some w19) .dead) fun w34 =>
  B.b (gO (some (w33, false)) (ia (.slice 35 3 32 false) w34 (.sv (.int .i64 1))) .dead) fun w35 =>
  B.b (gO (some (w33, false)) (fa 0 w35) .dead) fun w36 =>
  B.b (gO (some (w33, false)) (ld 1 false w36 r11.2) .dead) fun w37 =>
  B.b (gO (some (w33, false)) (bin .neq (.int .i64) w37 (.sv (.int .i64 2))) .dead) fun w38 =>
  B.b ((asB w33).bind fun t => some (if t then (.sv (.bool true)) else w38)) fun w39 =>
  B.b (gO (some (w39, false)) (some w19) .dead) fun w40 =>
  B.b (gO (some (w39, false)) (ia (.slice 35 3 32 false) w40 (.sv (.int .i64 2))) .dead) fun w41 =>
  B.b (gO (some (w39, false)) (fa 0 w41) .dead) fun w42 =>
  B.b (gO (some (w39, false)) (ld 1 false w42 r11.2) .dead) fun w43 =>
  B.b (gO (some (w39, false)) (bin .neq (.int .i64) w43 (.sv (.int .i64 2))) .dead) fun w44 =>
  B.b ((asB w39).bind fun t => some (if t then (.sv (.bool true)) else w44)) fun w45 =>
  B.b (gO (some (w45, false)) (some w19) .dead) fun w46 =>
  B.b (gO (some (w45, false)) (ia (.slice 35 3 32 false) w46 (.sv (.int .i64 3))) .dead) fun w47 =>
  B.b (gO (some (w45, false)) (fa 0 w47) .dead) fun w48 =>
  B.b (gO (some (w45, false)) (ld 1 false w48 r11.2) .dead) fun w49 =>
  B.b (gO (some (w45, false)) (bin .neq (.int .i64) w49 (.sv (.int .i64 2))) .dead) fun w50 =>
  B.b ((asB w45).bind fun t => some (if t then (.sv (.bool true)) else w50)) fun w51 =>
  B.b (asB w51) fun t52 =>
  if t52 then (B.b (bdA tab 39 []) fun w53 =>
  B.b (storeA 4 r1.1 w53 r11.2) fun r54 =>
  B.b (ld 4 true r1.1 r54.2) fun w55 =>
  some (.tuple [w55, (.sv (.int .i64 0)), (.sv (.int .i64 6))], r54.2)) else
  B.b (ia (.slice 35 3 32 false) w19 (.sv (.int .i64 1))) fun w56 =>
  B.b (fa 2 w56) fun w57 =>
  B.b (ld 1 false w57 r11.2) fun w58 =>
  B.b (ia (.slice 35 3 32 false) w19 (.sv (.int .i64 2))) fun w59 =>
  B.b (fa 2 w59) fun w60 =>
  B.b (ld 1 false w60 r11.2) fun w61 =>
  B.b (ia (.slice 35 3 32 false) w19 (.sv (.int .i64 3))) fun w62 =>
  B.b (fa 2 w62) fun w63 =>
  B.b (ld 1 false w63 r11.2) fun w64 =>
  B.b (bdA tab 39 [(0, w58), (1, w61), (2, w64)]) fun w65 =>
  B.b (alloc [.sv (.int .i64 0), .sv (.int .i64 0), .sv (.int .i64 0), .nil] r11.2) fun r66 =>
  gChk [⟨1, none, 1, false, w63, w64⟩, ⟨1, none, 1, false, w60, w61⟩, ⟨1, none, 1, false, w57, w58⟩] r66.2 (B.b (storeA 4 r66.1 w65 r66.2) fun r67 =>
  B.b (sl (.slice 22 1 24 false) r11.1 (some (.sv (.int .i64 1))) none r67.2) fun w68 =>
  B.b (ln (.slice 22 1 24 false) w68) fun w69 =>
  B.b (L (fun s => f34_b0 B C L s.tm s.h) ⟨(upd (upd (upd (upd (upd (upd (upd (upd (upd (upd (upd (upd (upd (upd (upd (upd (upd (upd (upd (upd (upd (upd (upd (upd (upd (upd (upd (upd (upd (upd (upd (upd (upd (upd (upd (upd (upd (upd (upd (upd (upd (upd (upd (upd (upd (upd (upd (upd (upd (upd (upd (upd (upd (upd (upd (upd (upd (upd (upd (upd (upd (upd (upd (upd (upd (upd (upd (upd (upd (upd (upd (upd (upd (upd (upd (upd (upd (upd (upd (upd (init [v0]) 2 r1.1) 3 (.sv (.int .i64 0))) 4 (.sv (.int .i64 0))) 16 v0) 17 r2.1) 15 r2.1) 18 w3) 19 w4) 20 w5) 5 w3) 6 w4) 7 w5) 21 w5) 22 w6) 26 w3) 27 r11.1) 8 r11.1) 28 r11.1) 29 w12) 30 w13) 32 r11.1) 33 w18) 34 w19) 9 w19) 35 w19) 36 w20) 37 w21) 38 w21) 39 w22) 40 w23) 41 w24) 42 w25) 43 w26) 44 w27) 45 w27) 46 w28) 47 w29) 48 w30) 49 w31) 50 w32) 51 w33) 52 w33) 53 w34) 54 w35) 55 w36) 56 w37) 57 w38) 58 w39) 59 w39) 60 w40) 61 w41) 62 w42) 63 w43) 64 w44) 65 w45) 66 w45) 67 w46) 68 w47) 69 w48) 70 w49) 71 w50) 72 w51) 74 w19) 75 w56) 76 w57) 77 w58) 78 w19) 79 w59) 80 w60) 81 w61) 82 w19) 83 w62) 84 w63) 85 w64) 86 w65) 10 r66.1) 87 r11.1) 88 w68) 89 w69) 90 (.sv (.int .i64 0))), r67.2⟩) fun r92 => (outBlock 0 (outSeq (f34_k0 B C L) (endK B tab [.cell 2 39, .tmp 3, .tmp 4]))) r92.1 r92.2.tm r92.2.h)
theorem f34_eq (B : BindS) (C : CallF) (L : LoopF) (v0 : AV) (h : Heap) : evFunc B tab shared C L noD Try.f34 [v0] h = f34_sh B C L v0 h := by kernel_rfl

/-! purfle/purfleref14.Same -/
noncomputable def f35_b0 (B : BindS) (C : CallF) (L : LoopF) (tm : Tm) (h : Heap) : Option (Out × St) :=
  B.b (bin .lss (.int .i64) (tm 37) (tm 36)) fun w32 =>
  B.b (asB w32) fun t33 =>
  if t33 then (B.b (fa 3 (tm 2)) fun w34 =>
  B.b (ld 1 false w34 h) fun w35 =>
  B.b (ia (.slice 47 5 40 false) w35 (tm 37)) fun w36 =>
  B.b (ld 5 true w36 h) fun w37 =>
  B.b (fa 3 (tm 3)) fun w38 =>
  B.b (ld 1 false w38 h) fun w39 =>
  B.b (ia (.slice 47 5 40 false) w39 (tm 37)) fun w40 =>
  B.b (ld 5 true w40 h) fun w41 =>
  B.b (bin .neq (.struct (some [.int .i64, .int .i64, .int .i64, .int .i64, .int .i64])) w37 w41) fun w42 =>
  B.b (asB w42) fun t43 =>
  if t43 then (some (.ret, ⟨(upd (upd (upd (upd (upd (upd (upd (upd (upd (upd (upd (upd (upd (upd (upd tm 38 w32) 39 (tm 37)) 5 (tm 37)) 40 w34) 41 w35) 42 (tm 37)) 43 w36) 44 w37) 45 w38) 46 w39) 47 (tm 37)) 48 w40) 49 w41) 50 w42) 4 (.sv (.bool false))), h⟩)) else
  B.b (bin .add (.int .i64) (tm 37) (.sv (.int .i64 1))) fun w44 =>
  some (.normal, ⟨(upd (upd (upd (upd (upd (upd (upd (upd (upd (upd (upd (upd (upd (upd (upd (upd tm 38 w32) 39 (tm 37)) 5 (tm 37)) 40 w34) 41 w35) 42 (tm 37)) 43 w36) 44 w37) 45 w38) 46 w39) 47 (tm 37)) 48 w40) 49 w41) 50 w42) 51 w44) 37 w44), h⟩)) else
  some (.exit 0, ⟨(upd tm 38 w32), h⟩)

noncomputable def f35_k0 (B : BindS) (C : CallF) (L : LoopF) (tm : Tm) (h : Heap) : Option (AV × Heap) :=
  some ((.sv (.bool true)), h)

noncomputable def f35_sh (B : BindS) (C : CallF) (L : LoopF) (v0 : AV) (v1 : AV) (h : Heap) : Option (AV × Heap) :=
  B.b (boxA 4 v0 h) fun r1 =>
  B.b (boxA 4 v1 r1.2) fun r2 =>
  B.b (fa 0 r1.1) fun w3 =>
  B.b (ld 1 false w3 r2.2) fun w4 =>
  B.b (fa 0 r2.1) fun w5 =>
  B.b (ld 1 false w5 r2.2) fun w6 =>
  B.b (bin .neq (.int .i64) w4 w6) fun w7 =>
  B.b (gO (some (w7, false)) (fa 1 r1.1) .dead) fun w8 =>
  B.b (gO (some (w7, false)) (ld 1 false w8 r2.2) .dead) fun w9 =>
  B.b (gO (some (w7, false)) (fa 1 r2.1) .dead) fun w10 =>
  B.b (gO (some (w7, false)) (ld 1 false w10 r2.2) .dead) fun w11 =>
  B.b (gO (some (w7, false)) (bin .neq (.int .i64) w9 w11) .dead) fun w12 =>
  B.b ((asB w7).bind fun t => some (if t then (.sv (.bool true)) else w12)) fun w13 =>
  B.b (gO (some (w13, false)) (fa 2 r1.1) .dead) fun w14 =>
  B.b (gO (some (w13, false)) (ld 1 false w14 r2.2) .dead) fun w15 =>
  B.b (gO (some (w13, false)) (fa 2 r2.1) .dead) fun w16 =>
  B.b (gO (some (w13, false)) (ld 1 false w16 r2.2) .dead) fun w17 =>
  B.b (gO (some (w13, false)) (bin .neq (.int .i64) w15 w17) .dead) fun w18 =>
  B.b ((asB w13).bind fun t => some (if t then (.sv (.bool true)) else w18)) fun w19 =>
  B.b (gO (some (w19, false)) (fa 3 r1.1) .dead) fun w20 =>
  B.b (gO (some (w19, false)) (ld 1 false w20 r2.2) .dead) fun w21 =>
  B.b (gO (some (w19, false)) (ln (.slice 47 5 40 false) w21) .dead) fun w22 =>
  B.b (gO (some (w19, false)) (fa 3 r2.1) .dead) fun w23 =>
  B.b (gO (some (w19, false)) (ld 1 false w23 r2.2) .dead) fun w24 =>
  B.b (gO (some (w19, false)) (ln (.slice 47 5 40 false) w24) .dead) fun w25 =>
  B.b (gO (some (w19, false)) (bin .neq (.int .i64) w22 w25) .dead) fun w26 =>
  B.b ((asB w19).bind fun t => some (if t then (.sv (.bool true)) else w26)) fun w27 =>
  B.b (asB w27) fun t28 =>
  if t28 then (some ((.sv (.bool false)), r2.2)) else
  B.b (fa 3 r1.1) fun w29 =>
  B.b (ld 1 false w29 r2.2) fun w30 =>
  B.b (ln (.slice 47 5 40 false) w30) fun w31 =>
  B.b (L (fun s => f35_b0 B C L s.tm s.h) ⟨(upd (upd (upd (upd (upd (upd (upd (upd (upd (upd (upd (upd (upd (upd (upd (upd (upd (upd (upd (upd (upd (upd (upd (upd (upd (upd (upd (upd (upd (upd (upd (upd (upd (upd (upd (init [v0, v1]) 2 r1.1) 3 r2.1) 4 (.sv (.bool false))) 6 w3) 7 w4) 8 w5) 9 w6) 10 w7) 11 w7) 12 w8) 13 w9) 14 w10) 15 w11) 16 w12) 17 w13) 18 w13) 19 w14) 20 w15) 21 w16) 22 w17) 23 w18) 24 w19) 25 w19) 26 w20) 27 w21) 28 w22) 29 w23) 30 w24) 31 w25) 32 w26) 33 w27) 34 w29) 35 w30) 36 w31) 37 (.sv (.int .i64 0))), r2.2⟩) fun r45 => (outBlock 0 (outSeq (f35_k0 B C L) (endK B tab [.tmp 4]))) r45.1 r45.2.tm r45.2.h
theorem f35_eq (B : BindS) (C : CallF) (L : LoopF) (v0 : AV) (v1 : AV) (h : Heap) : evFunc B tab shared C L noD Try.f35 [v0, v1] h = f35_sh B C L v0 v1 h := by kernel_rfl

/-! purfle/purfleref14.Few -/

noncomputable def f36_sh (B : BindS) (C : CallF) (L : LoopF) (v0 : AV) (h : Heap) : Option (AV × Heap) :=
  B.b (boxA 4 v0 h) fun r1 =>
  B.b (fa 3 r1.1) fun w2 =>
  B.b (ld 1 false w2 r1.2) fun w3 =>
  B.b (ln (.slice 47 5 40 false) w3) fun w4 =>
  B.b (bin .leq (.int .i64) w4 (.sv (.int .i64 300))) fun w5 =>
  some (w5, r1.2)
theorem f36_eq (B : BindS) (C : CallF) (L : LoopF) (v0 : AV) (h : Heap) : evFunc B tab shared C L noD Try.f36 [v0] h = f36_sh B C L v0 h := by kernel_rfl

/-! purfle/purfleref14.may -/
noncomputable def f137_k2 (B : BindS) (C : CallF) (L : LoopF) (tm : Tm) (h : Heap) : Option (Out × St) :=
  B.b (ia (.slice 3 1 8 false) (tm 7) (tm 9)) fun w23 =>
  B.b (ld 1 false w23 h) fun w24 =>
  B.b (bin .lss (.int .i64) w24 (.sv (.int .i64 0))) fun w25 =>
  B.b (gO (some (w25, false)) (some (tm 7)) .dead) fun w26 =>
  B.b (gO (some (w25, false)) (some (tm 9)) .dead) fun w27 =>
  B.b (gO (some (w25, false)) (ia (.slice 3 1 8 false) w26 w27) .dead) fun w28 =>
  B.b (gO (some (w25, false)) (ld 1 false w28 h) .dead) fun w29 =>
  B.b (gO (some (w25, false)) (some (tm 11)) .dead) fun w30 =>
  B.b (gO (some (w25, false)) (bin .geq (.int .i64) w29 w30) .dead) fun w31 =>
  B.b ((asB w25).bind fun t => some (if t then (.sv (.bool true)) else w31)) fun w32 =>
  B.b (asB w32) fun t33 =>
  if t33 then (some (.ret, ⟨(upd (upd (upd (upd (upd (upd (upd (upd (upd (upd (upd (upd (upd (upd tm 49 (tm 7)) 50 (tm 9)) 51 w23) 52 w24) 53 w25) 54 w25) 55 w26) 56 w27) 57 w28) 58 w29) 59 w30) 60 w31) 61 w32) 4 (.sv (.bool false))), h⟩)) else
  B.b (bin .add (.int .i64) (tm 22) (.sv (.int .i64 1))) fun w34 =>
  some (.normal, ⟨(upd (upd (upd (upd (upd (upd (upd (upd (upd (upd (upd (upd (upd (upd (upd tm 49 (tm 7)) 50 (tm 9)) 51 w23) 52 w24) 53 w25) 54 w25) 55 w26) 56 w27) 57 w28) 58 w29) 59 w30) 60 w31) 61 w32) 62 w34) 22 w34), h⟩)

noncomputable def f137_k1 (B : BindS) (C : CallF) (L : LoopF) (tm : Tm) (h : Heap) : Option (Out × St) :=
  B.b (asB (tm 33)) fun t20 =>
  if t20 then (B.b (fa 0 (tm 3)) fun w21 =>
  B.b (ld 1 false w21 h) fun w22 =>
  f137_k2 B C L (upd (upd (upd tm 36 w21) 37 w22) 11 w22) h) else
  B.b (bin .eql (.int .u8) (tm 32) (.sv (.int .u8 97))) fun w35 =>
  B.b (asB w35) fun t36 =>
  if t36 then (B.b (fa 1 (tm 3)) fun w37 =>
  B.b (ld 1 false w37 h) fun w38 =>
  f137_k2 B C L (upd (upd (upd (upd (upd tm 39 w35) 38 w35) 40 w37) 41 w38) 11 w38) h) else
  B.b (bin .eql (.int .u8) (tm 32) (.sv (.int .u8 112))) fun w39 =>
  B.b (asB w39) fun t40 =>
  if t40 then (B.b (fa 3 (tm 3)) fun w41 =>
  B.b (ld 1 false w41 h) fun w42 =>
  B.b (ln (.slice 47 5 40 false) w42) fun w43 =>
  f137_k2 B C L (upd (upd (upd (upd (upd (upd (upd (upd tm 39 w35) 38 w35) 43 w39) 42 w39) 44 w41) 45 w42) 46 w43) 11 w43) h) else
  B.b (bin .eql (.int .u8) (tm 32) (.sv (.int .u8 110))) fun w44 =>
  B.b (asB w44) fun t45 =>
  if t45 then (f137_k2 B C L (upd (upd (upd (upd (upd (upd (upd tm 39 w35) 38 w35) 43 w39) 42 w39) 48 w44) 47 w44) 8 (.sv (.bool true))) h) else
  f137_k2 B C L (upd (upd (upd (upd (upd (upd tm 39 w35) 38 w35) 43 w39) 42 w39) 48 w44) 47 w44) h

noncomputable def f137_k0 (B : BindS) (C : CallF) (L : LoopF) (tm : Tm) (h : Heap) : Option (Out × St) :=
  B.b (bin .eql (.int .u8) (tm 10) (.sv (.int .u8 119))) fun w18 =>
  B.b (asB w18) fun t19 =>
  if t19 then (f137_k1 B C L (upd (upd (upd (upd tm 11 (.sv (.int .i64 1))) 32 (tm 10)) 34 w18) 33 w18) h) else
  B.b (bin .eql (.int .u8) (tm 10) (.sv (.int .u8 114))) fun w46 =>
  f137_k1 B C L (upd (upd (upd (upd (upd (upd tm 11 (.sv (.int .i64 1))) 32 (tm 10)) 34 w18) 33 w18) 35 w46) 33 w46) h

noncomputable def f137_b0 (B : BindS) (C : CallF) (L : LoopF) (tm : Tm) (h : Heap) : Option (Out × St) :=
  B.b (bin .lss (.int .i64) (tm 22) (.sv (.int .i64 3))) fun w12 =>
  B.b (asB w12) fun t13 =>
  if t13 then (B.b (ln .str (tm 6)) fun w14 =>
  B.b (bin .lss (.int .i64) (tm 22) w14) fun w15 =>
  B.b (asB w15) fun t16 =>
  if t16 then (B.b (ix .str (tm 6) (tm 22)) fun w17 =>
  f137_k0 B C L (upd (upd (upd (upd (upd (upd (upd (upd (upd (upd (upd (upd tm 23 w12) 24 (tm 22)) 9 (tm 22)) 10 (.sv (.int .u8 32))) 25 (tm 22)) 26 (tm 6)) 27 w14) 28 w15) 29 (tm 6)) 30 (tm 22)) 31 w17) 10 w17) h) else
  f137_k0 B C L (upd (upd (upd (upd (upd (upd (upd (upd tm 23 w12) 24 (tm 22)) 9 (tm 22)) 10 (.sv (.int .u8 32))) 25 (tm 22)) 26 (tm 6)) 27 w14) 28 w15) h) else
  some (.exit 0, ⟨(upd tm 23 w12), h⟩)

noncomputable def f137_k3 (B : BindS) (C : CallF) (L : LoopF) (tm : Tm) (h : Heap) : Option (AV × Heap) :=
  B.b (un .not (tm 8)) fun w48 =>
  B.b (asB w48) fun t49 =>
  if t49 then (B.b (fa 4 (tm 2)) fun w50 =>
  B.b (ld 1 false w50 h) fun w51 =>
  B.b (bin .eql (.int .i64) w51 (.sv (.int .i64 0))) fun w52 =>
  some (w52, h)) else
  B.b (fa 4 (tm 2)) fun w53 =>
  B.b (ld 1 false w53 h) fun w54 =>
  B.b (bin .gtr (.int .i64) w54 (.sv (.int .i64 (-1000000000000000000)))) fun w55 =>
  B.b (gO (some (w55, true)) (fa 4 (tm 2)) .dead) fun w56 =>
  B.b (gO (some (w55, true)) (ld 1 false w56 h) .dead) fun w57 =>
  B.b (gO (some (w55, true)) (bin .lss (.int .i64) w57 (.sv (.int .i64 1000000000000000000))) .dead) fun w58 =>
  B.b ((asB w55).bind fun t => some (if t then w58 else (.sv (.bool false)))) fun w59 =>
  some (w59, h)

noncomputable def f137_sh (B : BindS) (C : CallF) (L : LoopF) (v0 : AV) (v1 : AV) (h : Heap) : Option (AV × Heap) :=
  B.b (boxA 5 v0 h) fun r1 =>
  B.b (boxA 4 v1 r1.2) fun r2 =>
  B.b (fa 0 r1.1) fun w3 =>
  B.b (ld 1 false w3 r2.2) fun w4 =>
  B.b (C 135 [w4] r2.2) fun r5 =>
  B.b (ex 0 r5.1) fun w6 =>
  B.b (ex 1 r5.1) fun w7 =>
  B.b (bin .eql .str w6 (.sv (.str []))) fun w8 =>
  B.b (asB w8) fun t9 =>
  if t9 then (some ((.sv (.bool false)), r5.2)) else
  B.b (ld 5 true r1.1 r5.2) fun w10 =>
  B.b (C 136 [w10] r5.2) fun r11 =>
  B.b (L (fun s => f137_b0 B C L s.tm s.h) ⟨(upd (upd (upd (upd (upd (upd (upd (upd (upd (upd (upd (upd (upd (upd (upd (upd (upd (upd (init [v0, v1]) 2 r1.1) 3 r2.1) 4 (.sv (.bool false))) 13 w3) 14 w4) 15 r5.1) 12 r5.1) 16 w6) 17 w7) 5 w6) 6 w7) 18 w6) 19 w8) 20 w10) 21 r11.1) 7 r11.1) 8 (.sv (.bool false))) 22 (.sv (.int .i64 0))), r11.2⟩) fun r47 => (outBlock 0 (outSeq (f137_k3 B C L) (endK B tab [.tmp 4]))) r47.1 r47.2.tm r47.2.h
theorem f137_eq (B : BindS) (C : CallF) (L : LoopF) (v0 : AV) (v1 : AV) (h : Heap) : evFunc B tab shared C L noD Try.f137 [v0, v1] h = f137_sh B C L v0 v1 h := by kernel_rfl

/-! purfle/purfleref14.Check -/
noncomputable def f78_b0 (B : BindS) (C : CallF) (L : LoopF) (tm : Tm) (h : Heap) : Option (Out × St) :=
  B.b (bin .lss (.int .i64) (tm 52) (tm 51)) fun w40 =>
  B.b (asB w40) fun t41 =>
  if t41 then (B.b (ia (.slice 47 5 40 false) (tm 50) (tm 52)) fun w42 =>
  B.b (ld 5 true w42 h) fun w43 =>
  B.b (alloc [.sv (.int .i64 0), .sv (.int .i64 0), .sv (.int .i64 0), .sv (.int .i64 0), .sv (.int .i64 0)] h) fun r44 =>
  B.b (storeA 5 r44.1 w43 r44.2) fun r45 =>
  B.b (gO (some ((tm 3), true)) (ld 5 true r44.1 r45.2) .dead) fun w46 =>
  B.b (gO (some ((tm 3), true)) (ld 4 true (tm 1) r45.2) .dead) fun w47 =>
  B.b (gO (some ((tm 3), true)) (C 137 [w46, w47] r45.2) (.dead, r45.2)) fun r48 =>
  B.b ((asB (tm 3)).bind fun t => some (if t then r48.1 else (.sv (.bool false)))) fun w49 =>
  B.b (bin .add (.int .i64) (tm 52) (.sv (.int .i64 1))) fun w50 =>
  some (.normal, ⟨(upd (upd (upd (upd (upd (upd (upd (upd (upd (upd (upd (upd (upd tm 53 w40) 54 w42) 55 w43) 5 r44.1) 56 (tm 3)) 57 (tm 3)) 58 w46) 59 w47) 60 r48.1) 61 w49) 3 w49) 62 w50) 52 w50), r48.2⟩)) else
  some (.exit 0, ⟨(upd tm 53 w40), h⟩)

noncomputable def f78_k0 (B : BindS) (C : CallF) (L : LoopF) (tm : Tm) (h : Heap) : Option (AV × Heap) :=
  B.b (un .not (tm 3)) fun w52 =>
  B.b (asB w52) fun t53 =>
  if t53 then (some ((.sv (.int .i64 1)), h)) else
  B.b (fa 3 (tm 1)) fun w54 =>
  B.b (ld 1 false w54 h) fun w55 =>
  B.b (fa 3 (tm 1)) fun w56 =>
  B.b (ld 1 false w56 h) fun w57 =>
  B.b (ln (.slice 47 5 40 false) w57) fun w58 =>
  B.b (bin .sub (.int .i64) w58 (.sv (.int .i64 1))) fun w59 =>
  B.b (ia (.slice 47 5 40 false) w55 w59) fun w60 =>
  B.b (ld 5 true w60 h) fun w61 =>
  B.b (alloc [.sv (.int .i64 0), .sv (.int .i64 0), .sv (.int .i64 0), .sv (.int .i64 0), .sv (.int .i64 0)] h) fun r62 =>
  B.b (storeA 5 r62.1 w61 r62.2) fun r63 =>
  B.b (fa 0 r62.1) fun w64 =>
  B.b (ld 1 false w64 r63.2) fun w65 =>
  B.b (bin .neq (.int .i64) w65 (.sv (.int .i64 0))) fun w66 =>
  B.b (gO (some (w66, true)) (fa 0 r62.1) .dead) fun w67 =>
  B.b (gO (some (w66, true)) (ld 1 false w67 r63.2) .dead) fun w68 =>
  B.b (gO (some (w66, true)) (bin .neq (.int .i64) w68 (.sv (.int .i64 10))) .dead) fun w69 =>
  B.b ((asB w66).bind fun t => some (if t then w69 else (.sv (.bool false)))) fun w70 =>
  B.b (asB w70) fun t71 =>
  if t71 then (some ((.sv (.int .i64 1)), r63.2)) else
  some ((.sv (.int .i64 0)), r63.2)

noncomputable def f78_sh (B : BindS) (C : CallF) (L : LoopF) (v0 : AV) (h : Heap) : Option (AV × Heap) :=
  B.b (boxA 4 v0 h) fun r1 =>
  B.b (fa 0 r1.1) fun w2 =>
  B.b (ld 1 false w2 r1.2) fun w3 =>
  B.b (bin .geq (.int .i64) w3 (.sv (.int .i64 0))) fun w4 =>
  B.b (gO (some (w4, true)) (fa 0 r1.1) .dead) fun w5 =>
  B.b (gO (some (w4, true)) (ld 1 false w5 r1.2) .dead) fun w6 =>
  B.b (gO (some (w4, true)) (bin .leq (.int .i64) w6 (.sv (.int .i64 128))) .dead) fun w7 =>
  B.b ((asB w4).bind fun t => some (if t then w7 else (.sv (.bool false)))) fun w8 =>
  B.b (gO (some (w8, true)) (fa 1 r1.1) .dead) fun w9 =>
  B.b (gO (some (w8, true)) (ld 1 false w9 r1.2) .dead) fun w10 =>
  B.b (gO (some (w8, true)) (bin .geq (.int .i64) w10 (.sv (.int .i64 0))) .dead) fun w11 =>
  B.b ((asB w8).bind fun t => some (if t then w11 else (.sv (.bool false)))) fun w12 =>
  B.b (gO (some (w12, true)) (fa 1 r1.1) .dead) fun w13 =>
  B.b (gO (some (w12, true)) (ld 1 false w13 r1.2) .dead) fun w14 =>
  B.b (gO (some (w12, true)) (bin .leq (.int .i64) w14 (.sv (.int .i64 128))) .dead) fun w15 =>
  B.b ((asB w12).bind fun t => some (if t then w15 else (.sv (.bool false)))) fun w16 =>
  B.b (gO (some (w16, true)) (fa 2 r1.1) .dead) fun w17 =>
  B.b (gO (some (w16, true)) (ld 1 false w17 r1.2) .dead) fun w18 =>
  B.b (gO (some (w16, true)) (bin .geq (.int .i64) w18 (.sv (.int .i64 0))) .dead) fun w19 =>
  B.b ((asB w16).bind fun t => some (if t then w19 else (.sv (.bool false)))) fun w20 =>
  B.b (gO (some (w20, true)) (fa 2 r1.1) .dead) fun w21 =>
  B.b (gO (some (w20, true)) (ld 1 false w21 r1.2) .dead) fun w22 =>
  B.b (gO (some (w20, true)) (fa 1 r1.1) .dead) fun w23 =>
  B.b (gO (some (w20, true)) (ld 1 false w23 r1.2) .dead) fun w24 =>
  B.b (gO (some (w20, true)) (bin .leq (.int .i64) w22 w24) .dead) fun w25 =>
  B.b ((asB w20).bind fun t => some (if t then w25 else (.sv (.bool false)))) fun w26 =>
  B.b (gO (some (w26, true)) (fa 3 r1.1) .dead) fun w27 =>
  B.b (gO (some (w26, true)) (ld 1 false w27 r1.2) .dead) fun w28 =>
  B.b (gO (some (w26, true)) (ln (.slice 47 5 40 false) w28) .dead) fun w29 =>
  B.b (gO (some (w26, true)) (bin .geq (.int .i64) w29 (.sv (.int .i64 1))) .dead) fun w30 =>
  B.b ((asB w26).bind fun t => some (if t then w30 else (.sv (.bool false)))) fun w31 =>
  B.b (gO (some (w31, true)) (fa 3 r1.1) .dead) fun w32 =>
  B.b (gO (some (w31, true)) (ld 1 false w32 r1.2) .dead) fun w33 =>
  B.b (gO (some (w31, true)) (ln (.slice 47 5 40 false) w33) .dead) fun w34 =>
  B.b (gO (some (w31, true)) (bin .leq (.int .i64) w34 (.sv (.int .i64 4096))) .dead) fun w35 =>
  B.b ((asB w31).bind fun t => some (if t then w35 else (.sv (.bool false)))) fun w36 =>
  B.b (fa 3 r1.1) fun w37 =>
  B.b (ld 1 false w37 r1.2) fun w38 =>
  B.b (ln (.slice 47 5 40 false) w38) fun w39 =>
  B.b (L (fun s => f78_b0 B C L s.tm s.h) ⟨(upd (upd (upd (upd (upd (upd (upd (upd (upd (upd (upd (upd (upd (upd (upd (upd (upd (upd (upd (upd (upd (upd (upd (upd (upd (upd (upd (upd (upd (upd (upd (upd (upd (upd (upd (upd (upd (upd (upd (upd (upd (upd (upd (upd (upd (upd (upd (upd (upd (init [v0]) 1 r1.1) 2 (.sv (.int .i64 0))) 7 w2) 8 w3) 9 w4) 10 w4) 11 w5) 12 w6) 13 w7) 14 w8) 15 w8) 16 w9) 17 w10) 18 w11) 19 w12) 20 w12) 21 w13) 22 w14) 23 w15) 24 w16) 25 w16) 26 w17) 27 w18) 28 w19) 29 w20) 30 w20) 31 w21) 32 w22) 33 w23) 34 w24) 35 w25) 36 w26) 37 w26) 38 w27) 39 w28) 40 w29) 41 w30) 42 w31) 43 w31) 44 w32) 45 w33) 46 w34) 47 w35) 48 w36) 3 w36) 49 w37) 50 w38) 51 w39) 52 (.sv (.int .i64 0))), r1.2⟩) fun r51 => (outBlock 0 (outSeq (f78_k0 B C L) (endK B tab [.tmp 2]))) r51.1 r51.2.tm r51.2.h
theorem f78_eq (B : BindS) (C : CallF) (L : LoopF) (v0 : AV) (h : Heap) : evFunc B tab shared C L noD Try.f78 [v0] h = f78_sh B C L v0 h := by kernel_rfl

/-! purfle/purfleref01.Equal -/
noncomputable def f43_b0 (B : BindS) (C : CallF) (L : LoopF) (tm : Tm) (h : Heap) : Option (Out × St) :=
  B.b (bin .lss (.int .i64) (tm 13) (tm 12)) fun w6 =>
  B.b (asB w6) fun t7 =>
  if t7 then (B.b (ia (.slice 3 1 8 false) (tm 0) (tm 13)) fun w8 =>
  B.b (ld 1 false w8 h) fun w9 =>
  B.b (ia (.slice 3 1 8 false) (tm 1) (tm 13)) fun w10 =>
  B.b (ld 1 false w10 h) fun w11 =>
  B.b (bin .neq (.int .i64) w9 w11) fun w12 =>
  B.b (asB w12) fun t13 =>
  if t13 then (some (.ret, ⟨(upd (upd (upd (upd (upd (upd (upd (upd (upd (upd (upd (upd (upd tm 14 w6) 15 (tm 13)) 5 (tm 13)) 16 (tm 0)) 17 (tm 13)) 18 w8) 19 w9) 20 (tm 1)) 21 (tm 13)) 22 w10) 23 w11) 24 w12) 4 (.sv (.bool false))), h⟩)) else
  B.b (bin .add (.int .i64) (tm 13) (.sv (.int .i64 1))) fun w14 =>
  some (.normal, ⟨(upd (upd (upd (upd (upd (upd (upd (upd (upd (upd (upd (upd (upd (upd tm 14 w6) 15 (tm 13)) 5 (tm 13)) 16 (tm 0)) 17 (tm 13)) 18 w8) 19 w9) 20 (tm 1)) 21 (tm 13)) 22 w10) 23 w11) 24 w12) 25 w14) 13 w14), h⟩)) else
  some (.exit 0, ⟨(upd tm 14 w6), h⟩)

noncomputable def f43_k0 (B : BindS) (C : CallF) (L : LoopF) (tm : Tm) (h : Heap) : Option (AV × Heap) :=
  some ((.sv (.bool true)), h)

noncomputable def f43_sh (B : BindS) (C : CallF) (L : LoopF) (v0 : AV) (v1 : AV) (h : Heap) : Option (AV × Heap) :=
  B.b (ln (.slice 3 1 8 false) v0) fun w1 =>
  B.b (ln (.slice 3 1 8 false) v1) fun w2 =>
  B.b (bin .neq (.int .i64) w1 w2) fun w3 =>
  B.b (asB w3) fun t4 =>
  if t4 then (some ((.sv (.bool false)), h)) else
  B.b (ln (.slice 3 1 8 false) v0) fun w5 =>
  B.b (L (fun s => f43_b0 B C L s.tm s.h) ⟨(upd (upd (upd (upd (upd (upd (upd (upd (upd (init [v0, v1]) 4 (.sv (.bool false))) 6 v0) 7 w1) 8 v1) 9 w2) 10 w3) 11 v0) 12 w5) 13 (.sv (.int .i64 0))), h⟩) fun r15 => (outBlock 0 (outSeq (f43_k0 B C L) (endK B tab [.tmp 4]))) r15.1 r15.2.tm r15.2.h
theorem f43_eq (B : BindS) (C : CallF) (L : LoopF) (v0 : AV) (v1 : AV) (h : Heap) : evFunc B tab shared C L noD Try.f43 [v0, v1] h = f43_sh B C L v0 v1 h := by kernel_rfl

/-! purfle/purfleref14.Reads -/
noncomputable def f76_b0 (B : BindS) (C : CallF) (L : LoopF) (tm : Tm) (h : Heap) : Option (Out × St) :=
  B.b (bin .lss (.int .i64) (tm 15) (tm 14)) fun w8 =>
  B.b (asB w8) fun t9 =>
  if t9 then (B.b (ix .str (tm 4) (tm 15)) fun w10 =>
  B.b (bin .eql (.int .u8) w10 (.sv (.int .u8 114))) fun w11 =>
  B.b (asB w11) fun t12 =>
  if t12 then (B.b (ld 5 true (tm 1) h) fun w13 =>
  B.b (C 136 [w13] h) fun r14 =>
  B.b (ia (.slice 3 1 8 false) r14.1 (tm 15)) fun w15 =>
  B.b (ld 1 false w15 r14.2) fun w16 =>
  B.b (bsA (.slice 3 1 8 false) (some [.sv (.int .i64 0)]) 1 [(0, w16)] r14.2) fun r17 =>
  B.b (apA (.slice 3 1 8 false) (tm 5) r17.1 r17.2) fun r18 =>
  B.b (bin .add (.int .i64) (tm 15) (.sv (.int .i64 1))) fun w19 =>
  some (.normal, ⟨(upd (upd (upd (upd (upd (upd (upd (upd (upd (upd (upd (upd (upd (upd (upd (upd (upd (upd tm 16 w8) 17 (tm 15)) 6 (tm 15)) 18 (tm 4)) 19 (tm 15)) 20 w10) 21 w11) 22 (tm 5)) 23 w13) 24 r14.1) 25 (tm 15)) 26 w15) 27 w16) 28 r17.1) 29 r18.1) 5 r18.1) 30 w19) 15 w19), r18.2⟩)) else
  B.b (bin .add (.int .i64) (tm 15) (.sv (.int .i64 1))) fun w20 =>
  some (.normal, ⟨(upd (upd (upd (upd (upd (upd (upd (upd (upd tm 16 w8) 17 (tm 15)) 6 (tm 15)) 18 (tm 4)) 19 (tm 15)) 20 w10) 21 w11) 30 w20) 15 w20), h⟩)) else
  some (.exit 0, ⟨(upd tm 16 w8), h⟩)

noncomputable def f76_k0 (B : BindS) (C : CallF) (L : LoopF) (tm : Tm) (h : Heap) : Option (AV × Heap) :=
  some ((tm 5), h)

noncomputable def f76_sh (B : BindS) (C : CallF) (L : LoopF) (v0 : AV) (h : Heap) : Option (AV × Heap) :=
  B.b (boxA 5 v0 h) fun r1 =>
  B.b (fa 0 r1.1) fun w2 =>
  B.b (ld 1 false w2 r1.2) fun w3 =>
  B.b (C 135 [w3] r1.2) fun r4 =>
  B.b (ex 0 r4.1) fun w5 =>
  B.b (ex 1 r4.1) fun w6 =>
  B.b (ln .str w6) fun w7 =>
  B.b (L (fun s => f76_b0 B C L s.tm s.h) ⟨(upd (upd (upd (upd (upd (upd (upd (upd (upd (upd (upd (upd (upd (upd (init [v0]) 1 r1.1) 2 .nil) 8 w2) 9 w3) 10 r4.1) 7 r4.1) 11 w5) 12 w6) 3 w5) 4 w6) 5 .nil) 13 w6) 14 w7) 15 (.sv (.int .i64 0))), r4.2⟩) fun r21 => (outBlock 0 (outSeq (f76_k0 B C L) (endK B tab [.tmp 2]))) r21.1 r21.2.tm r21.2.h
theorem f76_eq (B : BindS) (C : CallF) (L : LoopF) (v0 : AV) (h : Heap) : evFunc B tab shared C L noD Try.f76 [v0] h = f76_sh B C L v0 h := by kernel_rfl

/-! purfle/purfleref14.Writes -/

noncomputable def f75_sh (B : BindS) (C : CallF) (L : LoopF) (v0 : AV) (h : Heap) : Option (AV × Heap) :=
  B.b (boxA 5 v0 h) fun r1 =>
  B.b (fa 0 r1.1) fun w2 =>
  B.b (ld 1 false w2 r1.2) fun w3 =>
  B.b (C 135 [w3] r1.2) fun r4 =>
  B.b (ex 0 r4.1) fun w5 =>
  B.b (ex 1 r4.1) fun w6 =>
  B.b (bin .neq .str w6 (.sv (.str []))) fun w7 =>
  B.b (gO (some (w7, true)) (some w6) .dead) fun w8 =>
  B.b (gO (some (w7, true)) (ix .str w8 (.sv (.int .i64 0))) .dead) fun w9 =>
  B.b (gO (some (w7, true)) (bin .eql (.int .u8) w9 (.sv (.int .u8 119))) .dead) fun w10 =>
  B.b ((asB w7).bind fun t => some (if t then w10 else (.sv (.bool false)))) fun w11 =>
  B.b (asB w11) fun t12 =>
  if t12 then (B.b (fa 1 r1.1) fun w13 =>
  B.b (ld 1 false w13 r4.2) fun w14 =>
  some (.tuple [w14, (.sv (.bool true))], r4.2)) else
  some (.tuple [(.sv (.int .i64 0)), (.sv (.bool false))], r4.2)
theorem f75_eq (B : BindS) (C : CallF) (L : LoopF) (v0 : AV) (h : Heap) : evFunc B tab shared C L noD Try.f75 [v0] h = f75_sh B C L v0 h := by kernel_rfl

/-! purfle/purfleref14.Next -/
noncomputable def f77_k0 (B : BindS) (C : CallF) (L : LoopF) (tm : Tm) (h : Heap) : Option (AV × Heap) :=
  B.b (asB (tm 14)) fun t9 =>
  if t9 then (some (.nil, h)) else
  B.b (bin .eql .str (tm 13) (.sv (.str [106, 117, 109, 112]))) fun w10 =>
  B.b (asB w10) fun t11 =>
  if t11 then (B.b (fa 1 (tm 2)) fun w12 =>
  B.b (ld 1 false w12 h) fun w13 =>
  B.b (bsA (.slice 3 1 8 false) (some [.sv (.int .i64 0)]) 1 [(0, w13)] h) fun r14 =>
  some (r14.1, r14.2)) else
  B.b (bin .eql .str (tm 13) (.sv (.str [108, 101, 115, 115]))) fun w15 =>
  B.b (asB w15) fun t16 =>
  if t16 then (B.b (asB w15) fun t17 =>
  if t17 then (B.b (bin .add (.int .i64) (tm 1) (.sv (.int .i64 1))) fun w18 =>
  B.b (fa 3 (tm 2)) fun w19 =>
  B.b (ld 1 false w19 h) fun w20 =>
  B.b (bsA (.slice 3 1 8 false) (some [.sv (.int .i64 0)]) 2 [(0, w18), (1, w20)] h) fun r21 =>
  some (r21.1, r21.2)) else
  B.b (bin .add (.int .i64) (tm 1) (.sv (.int .i64 1))) fun w22 =>
  B.b (bsA (.slice 3 1 8 false) (some [.sv (.int .i64 0)]) 1 [(0, w22)] h) fun r23 =>
  some (r23.1, r23.2)) else
  B.b (bin .eql .str (tm 13) (.sv (.str [115, 97, 109, 101]))) fun w24 =>
  B.b (asB w24) fun t25 =>
  if t25 then (B.b (bin .add (.int .i64) (tm 1) (.sv (.int .i64 1))) fun w26 =>
  B.b (fa 3 (tm 2)) fun w27 =>
  B.b (ld 1 false w27 h) fun w28 =>
  B.b (bsA (.slice 3 1 8 false) (some [.sv (.int .i64 0)]) 2 [(0, w26), (1, w28)] h) fun r29 =>
  some (r29.1, r29.2)) else
  B.b (bin .add (.int .i64) (tm 1) (.sv (.int .i64 1))) fun w30 =>
  B.b (bsA (.slice 3 1 8 false) (some [.sv (.int .i64 0)]) 1 [(0, w30)] h) fun r31 =>
  some (r31.1, r31.2)

noncomputable def f77_sh (B : BindS) (C : CallF) (L : LoopF) (v0 : AV) (v1 : AV) (h : Heap) : Option (AV × Heap) :=
  B.b (boxA 5 v0 h) fun r1 =>
  B.b (fa 0 r1.1) fun w2 =>
  B.b (ld 1 false w2 r1.2) fun w3 =>
  B.b (C 135 [w3] r1.2) fun r4 =>
  B.b (ex 0 r4.1) fun w5 =>
  B.b (ex 1 r4.1) fun w6 =>
  B.b (bin .eql .str w5 (.sv (.str []))) fun w7 =>
  B.b (asB w7) fun t8 =>
  if t8 then (f77_k0 B C L (upd (upd (upd (upd (upd (upd (upd (upd (upd (upd (upd (upd (upd (init [v0, v1]) 2 r1.1) 4 .nil) 8 w2) 9 w3) 10 r4.1) 7 r4.1) 11 w5) 12 w6) 5 w5) 6 w6) 13 w5) 15 w7) 14 w7) r4.2) else
  B.b (bin .eql .str w5 (.sv (.str [104, 97, 108, 116]))) fun w32 =>
  f77_k0 B C L (upd (upd (upd (upd (upd (upd (upd (upd (upd (upd (upd (upd (upd (upd (upd (init [v0, v1]) 2 r1.1) 4 .nil) 8 w2) 9 w3) 10 r4.1) 7 r4.1) 11 w5) 12 w6) 5 w5) 6 w6) 13 w5) 15 w7) 14 w7) 16 w32) 14 w32) r4.2
theorem f77_eq (B : BindS) (C : CallF) (L : LoopF) (v0 : AV) (v1 : AV) (h : Heap) : evFunc B tab shared C L noD Try.f77 [v0, v1] h = f77_sh B C L v0 v1 h := by kernel_rfl

/-! purfle/purfleref14.Shift -/
noncomputable def f74_b0 (B : BindS) (C : CallF) (L : LoopF) (tm : Tm) (h : Heap) : Option (Out × St) :=
  B.b (bin .lss (.int .i64) (tm 37) (tm 36)) fun w34 =>
  B.b (asB w34) fun t35 =>
  if t35 then (B.b (fa 3 (tm 6)) fun w36 =>
  B.b (ld 1 false w36 h) fun w37 =>
  B.b (bin .add (.int .i64) (tm 37) (.sv (.int .i64 1))) fun w38 =>
  B.b (bdA tab 47 [(0, (.sv (.int .i64 10))), (1, w38)]) fun w39 =>
  B.b (bsA (.slice 47 5 40 false) (some [.sv (.int .i64 0), .sv (.int .i64 0), .sv (.int .i64 0), .sv (.int .i64 0), .sv (.int .i64 0)]) 1 [(0, w39)] h) fun r40 =>
  B.b (apA (.slice 47 5 40 false) w37 r40.1 r40.2) fun r41 =>
  B.b (fa 3 (tm 6)) fun w42 =>
  B.b (storeA 1 w42 r41.1 r41.2) fun r43 =>
  B.b (bin .add (.int .i64) (tm 37) (.sv (.int .i64 1))) fun w44 =>
  some (.normal, ⟨(upd (upd (upd (upd (upd (upd (upd (upd (upd (upd (upd (upd (upd tm 38 w34) 39 (tm 37)) 7 (tm 37)) 40 w36) 41 w37) 42 (tm 37)) 43 w38) 44 w39) 45 r40.1) 46 r41.1) 47 w42) 48 w44) 37 w44), r43.2⟩)) else
  some (.exit 0, ⟨(upd tm 38 w34), h⟩)

noncomputable def f74_k1 (B : BindS) (C : CallF) (L : LoopF) (tm : Tm) (h : Heap) : Option (Out × St) :=
  B.b (fa 3 (tm 6)) fun w64 =>
  B.b (ld 1 false w64 h) fun w65 =>
  B.b (ld 5 true (tm 9) h) fun w66 =>
  B.b (bsA (.slice 47 5 40 false) (some [.sv (.int .i64 0), .sv (.int .i64 0), .sv (.int .i64 0), .sv (.int .i64 0), .sv (.int .i64 0)]) 1 [(0, w66)] h) fun r67 =>
  B.b (apA (.slice 47 5 40 false) w65 r67.1 r67.2) fun r68 =>
  B.b (fa 3 (tm 6)) fun w69 =>
  B.b (storeA 1 w69 r68.1 r68.2) fun r70 =>
  B.b (bin .add (.int .i64) (tm 52) (.sv (.int .i64 1))) fun w71 =>
  some (.normal, ⟨(upd (upd (upd (upd (upd (upd (upd (upd tm 73 w64) 74 w65) 75 w66) 76 r67.1) 77 r68.1) 78 w69) 79 w71) 52 w71), r70.2⟩)

noncomputable def f74_b1 (B : BindS) (C : CallF) (L : LoopF) (tm : Tm) (h : Heap) : Option (Out × St) :=
  B.b (bin .lss (.int .i64) (tm 52) (tm 51)) fun w49 =>
  B.b (asB w49) fun t50 =>
  if t50 then (B.b (ia (.slice 47 5 40 false) (tm 50) (tm 52)) fun w51 =>
  B.b (ld 5 true w51 h) fun w52 =>
  B.b (alloc [.sv (.int .i64 0), .sv (.int .i64 0), .sv (.int .i64 0), .sv (.int .i64 0), .sv (.int .i64 0)] h) fun r53 =>
  B.b (storeA 5 r53.1 w52 r53.2) fun r54 =>
  B.b (fa 0 r53.1) fun w55 =>
  B.b (ld 1 false w55 r54.2) fun w56 =>
  B.b (bin .eql (.int .i64) w56 (.sv (.int .i64 10))) fun w57 =>
  B.b (asB w57) fun t58 =>
  if t58 then (B.b (fa 1 r53.1) fun w59 =>
  B.b (ld 1 false w59 r54.2) fun w60 =>
  B.b (bin .add (.int .i64) w60 (tm 1)) fun w61 =>
  B.b (fa 1 r53.1) fun w62 =>
  B.b (storeA 1 w62 w61 r54.2) fun r63 =>
  f74_k1 B C L (upd (upd (upd (upd (upd (upd (upd (upd (upd (upd (upd (upd (upd tm 53 w49) 54 w51) 55 w52) 9 r53.1) 56 w55) 57 w56) 59 w57) 58 w57) 60 w59) 61 w60) 62 (tm 1)) 63 w61) 64 w62) r63.2) else
  B.b (bin .eql (.int .i64) w56 (.sv (.int .i64 11))) fun w72 =>
  B.b (asB w72) fun t73 =>
  if t73 then (B.b (asB w72) fun t74 =>
  if t74 then (B.b (fa 3 r53.1) fun w75 =>
  B.b (ld 1 false w75 r54.2) fun w76 =>
  B.b (bin .add (.int .i64) w76 (tm 1)) fun w77 =>
  B.b (fa 3 r53.1) fun w78 =>
  B.b (storeA 1 w78 w77 r54.2) fun r79 =>
  f74_k1 B C L (upd (upd (upd (upd (upd (upd (upd (upd (upd (upd (upd (upd (upd (upd (upd tm 53 w49) 54 w51) 55 w52) 9 r53.1) 56 w55) 57 w56) 59 w57) 58 w57) 66 w72) 65 w72) 68 w75) 69 w76) 70 (tm 1)) 71 w77) 72 w78) r79.2) else
  f74_k1 B C L (upd (upd (upd (upd (upd (upd (upd (upd (upd (upd tm 53 w49) 54 w51) 55 w52) 9 r53.1) 56 w55) 57 w56) 59 w57) 58 w57) 66 w72) 65 w72) r54.2) else
  B.b (bin .eql (.int .i64) w56 (.sv (.int .i64 12))) fun w80 =>
  B.b (asB w80) fun t81 =>
  if t81 then (B.b (fa 3 r53.1) fun w82 =>
  B.b (ld 1 false w82 r54.2) fun w83 =>
  B.b (bin .add (.int .i64) w83 (tm 1)) fun w84 =>
  B.b (fa 3 r53.1) fun w85 =>
  B.b (storeA 1 w85 w84 r54.2) fun r86 =>
  f74_k1 B C L (upd (upd (upd (upd (upd (upd (upd (upd (upd (upd (upd (upd (upd (upd (upd (upd (upd tm 53 w49) 54 w51) 55 w52) 9 r53.1) 56 w55) 57 w56) 59 w57) 58 w57) 66 w72) 65 w72) 67 w80) 65 w80) 68 w82) 69 w83) 70 (tm 1)) 71 w84) 72 w85) r86.2) else
  f74_k1 B C L (upd (upd (upd (upd (upd (upd (upd (upd (upd (upd (upd (upd tm 53 w49) 54 w51) 55 w52) 9 r53.1) 56 w55) 57 w56) 59 w57) 58 w57) 66 w72) 65 w72) 67 w80) 65 w80) r54.2) else
  some (.exit 2, ⟨(upd tm 53 w49), h⟩)

noncomputable def f74_k2 (B : BindS) (C : CallF) (L : LoopF) (tm : Tm) (h : Heap) : Option (AV × Heap) :=
  B.b (ld 4 true (tm 6) h) fun w88 =>
  B.b (storeA 4 (tm 4) w88 h) fun r89 =>
  B.b (ld 4 true (tm 4) r89.2) fun w90 =>
  some (.tuple [w90, (.sv (.int .i64 0))], r89.2)

noncomputable def f74_k0 (B : BindS) (C : CallF) (L : LoopF) (tm : Tm) (h : Heap) : Option (AV × Heap) :=
  B.b (fa 3 (tm 2)) fun w46 =>
  B.b (ld 1 false w46 h) fun w47 =>
  B.b (ln (.slice 47 5 40 false) w47) fun w48 =>
  B.b (L (fun s => f74_b1 B C L s.tm s.h) ⟨(upd (upd (upd (upd tm 49 w46) 50 w47) 51 w48) 52 (.sv (.int .i64 0))), h⟩) fun r87 => (outBlock 2 (outSeq (f74_k2 B C L) (endK B tab [.cell 4 39, .tmp 5]))) r87.1 r87.2.tm r87.2.h

noncomputable def f74_sh (B : BindS) (C : CallF) (L : LoopF) (v0 : AV) (v1 : AV) (h : Heap) : Option (AV × Heap) :=
  B.b (boxA 4 v0 h) fun r1 =>
  B.b (alloc [.sv (.int .i64 0), .sv (.int .i64 0), .sv (.int .i64 0), .nil] r1.2) fun r2 =>
  B.b (ld 4 true r1.1 r2.2) fun w3 =>
  B.b (C 78 [w3] r2.2) fun r4 =>
  B.b (bin .neq (.int .i64) r4.1 (.sv (.int .i64 0))) fun w5 =>
  B.b (gO (some (w5, false)) (some v1) .dead) fun w6 =>
  B.b (gO (some (w5, false)) (bin .lss (.int .i64) w6 (.sv (.int .i64 0))) .dead) fun w7 =>
  B.b ((asB w5).bind fun t => some (if t then (.sv (.bool true)) else w7)) fun w8 =>
  B.b (gO (some (w8, false)) (some v1) .dead) fun w9 =>
  B.b (gO (some (w8, false)) (bin .gtr (.int .i64) w9 (.sv (.int .i64 4096))) .dead) fun w10 =>
  B.b ((asB w8).bind fun t => some (if t then (.sv (.bool true)) else w10)) fun w11 =>
  B.b (asB w11) fun t12 =>
  if t12 then (B.b (bdA tab 39 []) fun w13 =>
  B.b (storeA 4 r2.1 w13 r4.2) fun r14 =>
  B.b (ld 4 true r2.1 r14.2) fun w15 =>
  some (.tuple [w15, (.sv (.int .i64 1))], r14.2)) else
  B.b (fa 3 r1.1) fun w16 =>
  B.b (ld 1 false w16 r4.2) fun w17 =>
  B.b (ln (.slice 47 5 40 false) w17) fun w18 =>
  B.b (bin .add (.int .i64) w18 v1) fun w19 =>
  B.b (bin .gtr (.int .i64) w19 (.sv (.int .i64 4096))) fun w20 =>
  B.b (asB w20) fun t21 =>
  if t21 then (B.b (bdA tab 39 []) fun w22 =>
  B.b (storeA 4 r2.1 w22 r4.2) fun r23 =>
  B.b (ld 4 true r2.1 r23.2) fun w24 =>
  some (.tuple [w24, (.sv (.int .i64 2))], r23.2)) else
  B.b (fa 0 r1.1) fun w25 =>
  B.b (ld 1 false w25 r4.2) fun w26 =>
  B.b (fa 1 r1.1) fun w27 =>
  B.b (ld 1 false w27 r4.2) fun w28 =>
  B.b (fa 2 r1.1) fun w29 =>
  B.b (ld 1 false w29 r4.2) fun w30 =>
  B.b (bdA tab 39 [(0, w26), (1, w28), (2, w30)]) fun w31 =>
  B.b (alloc [.sv (.int .i64 0), .sv (.int .i64 0), .sv (.int .i64 0), .nil] r4.2) fun r32 =>
  B.b (storeA 4 r32.1 w31 r32.2) fun r33 =>
  B.b (L (fun s => f74_b0 B C L s.tm s.h) ⟨(upd (upd (upd (upd (upd (upd (upd (upd (upd (upd (upd (upd (upd (upd (upd (upd (upd (upd (upd (upd (upd (upd (upd (upd (upd (upd (upd (upd (upd (upd (init [v0, v1]) 2 r1.1) 4 r2.1) 5 (.sv (.int .i64 0))) 10 w3) 11 r4.1) 12 w5) 13 w5) 14 w6) 15 w7) 16 w8) 17 w8) 18 w9) 19 w10) 20 w11) 22 w16) 23 w17) 24 w18) 25 v1) 26 w19) 27 w20) 29 w25) 30 w26) 31 w27) 32 w28) 33 w29) 34 w30) 35 w31) 6 r32.1) 36 v1) 37 (.sv (.int .i64 0))), r33.2⟩) fun r45 => (outBlock 0 (outSeq (f74_k0 B C L) (endK B tab [.cell 4 39, .tmp 5]))) r45.1 r45.2.tm r45.2.h
theorem f74_eq (B : BindS) (C : CallF) (L : LoopF) (v0 : AV) (v1 : AV) (h : Heap) : evFunc B tab shared C L noD Try.f74 [v0, v1] h = f74_sh B C L v0 v1 h := by kernel_rfl

/-! purfle/purfleref14.Text -/
noncomputable def f73_b0 (B : BindS) (C : CallF) (L : LoopF) (tm : Tm) (h : Heap) : Option (Out × St) :=
  B.b (bin .lss (.int .i64) (tm 22) (tm 21)) fun w16 =>
  B.b (asB w16) fun t17 =>
  if t17 then (B.b (ia (.slice 3 1 8 false) (tm 20) (tm 22)) fun w18 =>
  B.b (ld 1 false w18 h) fun w19 =>
  B.b (C 133 [w19] h) fun r20 =>
  B.b (apA (.slice 35 3 32 false) (tm 4) r20.1 r20.2) fun r21 =>
  B.b (bin .add (.int .i64) (tm 22) (.sv (.int .i64 1))) fun w22 =>
  some (.normal, ⟨(upd (upd (upd (upd (upd (upd (upd (upd (upd (upd (upd tm 23 w16) 24 w18) 25 w19) 6 w19) 26 (tm 4)) 27 w19) 28 r20.1) 29 r21.1) 4 r21.1) 30 w22) 22 w22), r21.2⟩)) else
  some (.exit 0, ⟨(upd tm 23 w16), h⟩)

noncomputable def f73_b1 (B : BindS) (C : CallF) (L : LoopF) (tm : Tm) (h : Heap) : Option (Out × St) :=
  B.b (bin .lss (.int .i64) (tm 34) (tm 33)) fun w27 =>
  B.b (asB w27) fun t28 =>
  if t28 then (B.b (ia (.slice 47 5 40 false) (tm 32) (tm 34)) fun w29 =>
  B.b (ld 5 true w29 h) fun w30 =>
  B.b (alloc [.sv (.int .i64 0), .sv (.int .i64 0), .sv (.int .i64 0), .sv (.int .i64 0), .sv (.int .i64 0)] h) fun r31 =>
  B.b (storeA 5 r31.1 w30 r31.2) fun r32 =>
  B.b (bdA tab 35 [(0, (.sv (.int .i64 4)))]) fun w33 =>
  B.b (bsA (.slice 35 3 32 false) (some [.sv (.int .i64 0), .sv (.str []), .sv (.int .i64 0)]) 1 [(0, w33)] r32.2) fun r34 =>
  B.b (apA (.slice 35 3 32 false) (tm 4) r34.1 r34.2) fun r35 =>
  B.b (ld 5 true r31.1 r35.2) fun w36 =>
  gPast none 5 true r31.1 w36 [r32.2, r34.2] (B.b (C 134 [w36] []) fun r37 =>
  B.b (apA (.slice 35 3 32 false) r35.1 r37.1 r35.2) fun r38 =>
  B.b (bin .add (.int .i64) (tm 34) (.sv (.int .i64 1))) fun w39 =>
  some (.normal, ⟨(upd (upd (upd (upd (upd (upd (upd (upd (upd (upd (upd (upd (upd (upd tm 35 w27) 36 w29) 37 w30) 8 r31.1) 38 (tm 4)) 39 w33) 40 r34.1) 41 r35.1) 42 w36) 43 r37.1) 44 r38.1) 4 r38.1) 45 w39) 34 w39), r38.2⟩))) else
  some (.exit 2, ⟨(upd tm 35 w27), h⟩)

noncomputable def f73_k1 (B : BindS) (C : CallF) (L : LoopF) (tm : Tm) (h : Heap) : Option (AV × Heap) :=
  B.b (C 27 [(tm 4)] h) fun r41 =>
  B.b (ex 0 r41.1) fun w42 =>
  B.b (ex 1 r41.1) fun w43 =>
  some (.tuple [w42, w43], r41.2)

noncomputable def f73_k0 (B : BindS) (C : CallF) (L : LoopF) (tm : Tm) (h : Heap) : Option (AV × Heap) :=
  B.b (fa 3 (tm 1)) fun w24 =>
  B.b (ld 1 false w24 h) fun w25 =>
  B.b (ln (.slice 47 5 40 false) w25) fun w26 =>
  B.b (L (fun s => f73_b1 B C L s.tm s.h) ⟨(upd (upd (upd (upd tm 31 w24) 32 w25) 33 w26) 34 (.sv (.int .i64 0))), h⟩) fun r40 => (outBlock 2 (outSeq (f73_k1 B C L) (endK B tab [.tmp 2, .tmp 3]))) r40.1 r40.2.tm r40.2.h

noncomputable def f73_sh (B : BindS) (C : CallF) (L : LoopF) (v0 : AV) (h : Heap) : Option (AV × Heap) :=
  B.b (boxA 4 v0 h) fun r1 =>
  B.b (ld 4 true r1.1 r1.2) fun w2 =>
  B.b (C 78 [w2] r1.2) fun r3 =>
  B.b (bin .neq (.int .i64) r3.1 (.sv (.int .i64 0))) fun w4 =>
  B.b (asB w4) fun t5 =>
  if t5 then (some (.tuple [(.sv (.str [])), (.sv (.int .i64 1))], r3.2)) else
  B.b (C 132 [(.sv (.str [99, 111, 100, 101]))] r3.2) fun r6 =>
  B.b (bsA (.slice 35 3 32 false) (some [.sv (.int .i64 0), .sv (.str []), .sv (.int .i64 0)]) 1 [(0, r6.1)] r6.2) fun r7 =>
  B.b (fa 0 r1.1) fun w8 =>
  B.b (ld 1 false w8 r7.2) fun w9 =>
  B.b (fa 1 r1.1) fun w10 =>
  B.b (ld 1 false w10 r7.2) fun w11 =>
  B.b (fa 2 r1.1) fun w12 =>
  B.b (ld 1 false w12 r7.2) fun w13 =>
  B.b (bsA (.slice 3 1 8 false) (some [.sv (.int .i64 0)]) 3 [(0, w9), (1, w11), (2, w13)] r7.2) fun r14 =>
  B.b (ln (.slice 3 1 8 false) r14.1) fun w15 =>
  B.b (L (fun s => f73_b0 B C L s.tm s.h) ⟨(upd (upd (upd (upd (upd (upd (upd (upd (upd (upd (upd (upd (upd (upd (upd (upd (upd (upd (init [v0]) 1 r1.1) 2 (.sv (.str []))) 3 (.sv (.int .i64 0))) 9 w2) 10 r3.1) 11 w4) 12 r6.1) 13 r7.1) 4 r7.1) 14 w8) 15 w9) 16 w10) 17 w11) 18 w12) 19 w13) 20 r14.1) 21 w15) 22 (.sv (.int .i64 0))), r14.2⟩) fun r23 => (outBlock 0 (outSeq (f73_k0 B C L) (endK B tab [.tmp 2, .tmp 3]))) r23.1 r23.2.tm r23.2.h
theorem f73_eq (B : BindS) (C : CallF) (L : LoopF) (v0 : AV) (h : Heap) : evFunc B tab shared C L noD Try.f73 [v0] h = f73_sh B C L v0 h := by kernel_rfl

/-! purfle/purfleref14.named -/

noncomputable def f132_sh (B : BindS) (C : CallF) (L : LoopF) (v0 : AV) (h : Heap) : Option (AV × Heap) :=
  B.b (alloc [.sv (.int .i64 0), .sv (.str []), .sv (.int .i64 0)] h) fun r1 =>
  B.b (bdA tab 35 [(0, (.sv (.int .i64 1))), (1, v0)]) fun w2 =>
  B.b (storeA 3 r1.1 w2 r1.2) fun r3 =>
  B.b (ld 3 true r1.1 r3.2) fun w4 =>
  some (w4, r3.2)
theorem f132_eq (B : BindS) (C : CallF) (L : LoopF) (v0 : AV) (h : Heap) : evFunc B tab shared C L noD Try.f132 [v0] h = f132_sh B C L v0 h := by kernel_rfl

/-! purfle/purfleref14.numbered -/

noncomputable def f133_sh (B : BindS) (C : CallF) (L : LoopF) (v0 : AV) (h : Heap) : Option (AV × Heap) :=
  B.b (bin .lss (.int .i64) v0 (.sv (.int .i64 0))) fun w1 =>
  B.b (asB w1) fun t2 =>
  if t2 then (B.b (bdA tab 35 [(0, (.sv (.int .i64 3))), (1, (.sv (.str [45])))]) fun w3 =>
  B.b (bsA (.slice 35 3 32 false) (some [.sv (.int .i64 0), .sv (.str []), .sv (.int .i64 0)]) 1 [(0, w3)] h) fun r4 =>
  B.b (un .neg v0) fun w5 =>
  B.b (C 133 [w5] r4.2) fun r6 =>
  B.b (apA (.slice 35 3 32 false) r4.1 r6.1 r6.2) fun r7 =>
  some (r7.1, r7.2)) else
  B.b (C 182 [v0] h) fun r8 =>
  B.b (bdA tab 35 [(0, (.sv (.int .i64 2))), (1, r8.1), (2, v0)]) fun w9 =>
  B.b (bsA (.slice 35 3 32 false) (some [.sv (.int .i64 0), .sv (.str []), .sv (.int .i64 0)]) 1 [(0, w9)] r8.2) fun r10 =>
  some (r10.1, r10.2)
theorem f133_eq (B : BindS) (C : CallF) (L : LoopF) (v0 : AV) (h : Heap) : evFunc B tab shared C L noD Try.f133 [v0] h = f133_sh B C L v0 h := by kernel_rfl

/-! purfle/purfleref14.line -/
noncomputable def f134_k0 (B : BindS) (C : CallF) (L : LoopF) (tm : Tm) (h : Heap) : Option (Out × St) :=
  B.b (asB (tm 30)) fun t19 =>
  if t19 then (B.b (C 182 [(tm 7)] h) fun r20 =>
  B.b (bin .add .str (.sv (.str [114])) r20.1) fun w21 =>
  B.b (C 132 [w21] r20.2) fun r22 =>
  B.b (bsA (.slice 35 3 32 false) (some [.sv (.int .i64 0), .sv (.str []), .sv (.int .i64 0)]) 1 [(0, r22.1)] r22.2) fun r23 =>
  B.b (apA (.slice 35 3 32 false) (tm 5) r23.1 r23.2) fun r24 =>
  B.b (bin .add (.int .i64) (tm 19) (.sv (.int .i64 1))) fun w25 =>
  some (.normal, ⟨(upd (upd (upd (upd (upd (upd (upd (upd (upd (upd tm 33 (tm 5)) 34 (tm 7)) 35 r20.1) 36 w21) 37 r22.1) 38 r23.1) 39 r24.1) 5 r24.1) 62 w25) 19 w25), r24.2⟩)) else
  B.b (bin .eql (.int .u8) (tm 29) (.sv (.int .u8 97))) fun w26 =>
  B.b (asB w26) fun t27 =>
  if t27 then (B.b (C 182 [(tm 7)] h) fun r28 =>
  B.b (bin .add .str (.sv (.str [97])) r28.1) fun w29 =>
  B.b (C 132 [w29] r28.2) fun r30 =>
  B.b (bsA (.slice 35 3 32 false) (some [.sv (.int .i64 0), .sv (.str []), .sv (.int .i64 0)]) 1 [(0, r30.1)] r30.2) fun r31 =>
  B.b (apA (.slice 35 3 32 false) (tm 5) r31.1 r31.2) fun r32 =>
  B.b (bin .add (.int .i64) (tm 19) (.sv (.int .i64 1))) fun w33 =>
  some (.normal, ⟨(upd (upd (upd (upd (upd (upd (upd (upd (upd (upd (upd (upd tm 41 w26) 40 w26) 42 (tm 5)) 43 (tm 7)) 44 r28.1) 45 w29) 46 r30.1) 47 r31.1) 48 r32.1) 5 r32.1) 62 w33) 19 w33), r32.2⟩)) else
  B.b (bin .eql (.int .u8) (tm 29) (.sv (.int .u8 112))) fun w34 =>
  B.b (asB w34) fun t35 =>
  if t35 then (B.b (C 133 [(tm 7)] h) fun r36 =>
  B.b (apA (.slice 35 3 32 false) (tm 5) r36.1 r36.2) fun r37 =>
  B.b (bin .add (.int .i64) (tm 19) (.sv (.int .i64 1))) fun w38 =>
  some (.normal, ⟨(upd (upd (upd (upd (upd (upd (upd (upd (upd (upd (upd tm 41 w26) 40 w26) 50 w34) 49 w34) 51 (tm 5)) 52 (tm 7)) 53 r36.1) 54 r37.1) 5 r37.1) 62 w38) 19 w38), r37.2⟩)) else
  B.b (bin .eql (.int .u8) (tm 29) (.sv (.int .u8 110))) fun w39 =>
  B.b (asB w39) fun t40 =>
  if t40 then (B.b (fa 4 (tm 1)) fun w41 =>
  B.b (ld 1 false w41 h) fun w42 =>
  B.b (C 133 [w42] h) fun r43 =>
  B.b (apA (.slice 35 3 32 false) (tm 5) r43.1 r43.2) fun r44 =>
  B.b (bin .add (.int .i64) (tm 19) (.sv (.int .i64 1))) fun w45 =>
  some (.normal, ⟨(upd (upd (upd (upd (upd (upd (upd (upd (upd (upd (upd (upd (upd (upd tm 41 w26) 40 w26) 50 w34) 49 w34) 56 w39) 55 w39) 57 (tm 5)) 58 w41) 59 w42) 60 r43.1) 61 r44.1) 5 r44.1) 62 w45) 19 w45), r44.2⟩)) else
  B.b (bin .add (.int .i64) (tm 19) (.sv (.int .i64 1))) fun w46 =>
  some (.normal, ⟨(upd (upd (upd (upd (upd (upd (upd (upd tm 41 w26) 40 w26) 50 w34) 49 w34) 56 w39) 55 w39) 62 w46) 19 w46), h⟩)

noncomputable def f134_b0 (B : BindS) (C : CallF) (L : LoopF) (tm : Tm) (h : Heap) : Option (Out × St) :=
  B.b (bin .lss (.int .i64) (tm 19) (tm 18)) fun w10 =>
  B.b (asB w10) fun t11 =>
  if t11 then (B.b (ld 5 true (tm 1) h) fun w12 =>
  B.b (C 136 [w12] h) fun r13 =>
  B.b (ia (.slice 3 1 8 false) r13.1 (tm 19)) fun w14 =>
  B.b (ld 1 false w14 r13.2) fun w15 =>
  B.b (ix .str (tm 4) (tm 19)) fun w16 =>
  B.b (bin .eql (.int .u8) w16 (.sv (.int .u8 119))) fun w17 =>
  B.b (asB w17) fun t18 =>
  if t18 then (f134_k0 B C L (upd (upd (upd (upd (upd (upd (upd (upd (upd (upd (upd (upd (upd (upd tm 20 w10) 21 (tm 19)) 6 (tm 19)) 22 w12) 23 r13.1) 24 (tm 19)) 25 w14) 26 w15) 7 w15) 27 (tm 4)) 28 (tm 19)) 29 w16) 31 w17) 30 w17) r13.2) else
  B.b (bin .eql (.int .u8) w16 (.sv (.int .u8 114))) fun w47 =>
  f134_k0 B C L (upd (upd (upd (upd (upd (upd (upd (upd (upd (upd (upd (upd (upd (upd (upd (upd tm 20 w10) 21 (tm 19)) 6 (tm 19)) 22 w12) 23 r13.1) 24 (tm 19)) 25 w14) 26 w15) 7 w15) 27 (tm 4)) 28 (tm 19)) 29 w16) 31 w17) 30 w17) 32 w47) 30 w47) r13.2) else
  some (.exit 0, ⟨(upd tm 20 w10), h⟩)

noncomputable def f134_k1 (B : BindS) (C : CallF) (L : LoopF) (tm : Tm) (h : Heap) : Option (AV × Heap) :=
  some ((tm 5), h)

noncomputable def f134_sh (B : BindS) (C : CallF) (L : LoopF) (v0 : AV) (h : Heap) : Option (AV × Heap) :=
  B.b (boxA 5 v0 h) fun r1 =>
  B.b (fa 0 r1.1) fun w2 =>
  B.b (ld 1 false w2 r1.2) fun w3 =>
  B.b (C 135 [w3] r1.2) fun r4 =>
  B.b (ex 0 r4.1) fun w5 =>
  B.b (ex 1 r4.1) fun w6 =>
  B.b (C 132 [w5] r4.2) fun r7 =>
  B.b (bsA (.slice 35 3 32 false) (some [.sv (.int .i64 0), .sv (.str []), .sv (.int .i64 0)]) 1 [(0, r7.1)] r7.2) fun r8 =>
  B.b (ln .str w6) fun w9 =>
  B.b (L (fun s => f134_b0 B C L s.tm s.h) ⟨(upd (upd (upd (upd (upd (upd (upd (upd (upd (upd (upd (upd (upd (upd (upd (upd (upd (init [v0]) 1 r1.1) 2 .nil) 9 w2) 10 w3) 11 r4.1) 8 r4.1) 12 w5) 13 w6) 3 w5) 4 w6) 14 w5) 15 r7.1) 16 r8.1) 5 r8.1) 17 w6) 18 w9) 19 (.sv (.int .i64 0))), r8.2⟩) fun r48 => (outBlock 0 (outSeq (f134_k1 B C L) (endK B tab [.tmp 2]))) r48.1 r48.2.tm r48.2.h
theorem f134_eq (B : BindS) (C : CallF) (L : LoopF) (v0 : AV) (h : Heap) : evFunc B tab shared C L noD Try.f134 [v0] h = f134_sh B C L v0 h := by kernel_rfl

end Go.Proofs.Ytmhamnnfcmkcfaa

/- Code with one register fewer: the law's parts. -/
set_option maxRecDepth 100000
namespace Go.Proofs.Ytmhamnnfcmkcfaa
open Go.RowKit

section
variable {J : Option (List AV → Option AV)}

theorem c36 (c : Cod) (h : Heap) : Cw J 36 [codA c] h = some (Bo (decide (c.l.length ≤ 300)), h) := by
  have key : Ok (evFunc optB tab shared (Cw J) loopW noD Try.f36 [codA c] []) fun r => r.1 = Bo (decide (c.l.length ≤ 300)) := by
    rw [f36_eq]
    have b1 : boxA 4 (codA c) [] = some (.ptr 0 0, [.cells 0 (c.sv.map .sv) true]) := box_eq (cellsOf_agg _) rfl (cells_all _)
    have g3 : ld 1 false (.ptr 0 (0 + 3)) [Ent.cells 0 (c.sv.map .sv) true] = some (.sv (inssSV c.l)) := rfl
    have hln : ln (.slice 47 5 40 false) (.sv (inssSV c.l)) = some (I c.l.length) := by simp [inssSV]
    simp -implicitDefEqProofs only [f36_sh, optB_b, b1, Option.bind_some, fa_ptr, g3, hln, bin_leq, ok_some]
    have q : decide (((c.l.length : Nat) : Int) ≤ 300) = decide (c.l.length ≤ 300) := decide_eq_decide.2 (by omega)
    rw [q]
  obtain ⟨⟨r, hr⟩, h1, rfl⟩ := key
  exact call_sv Try.func36 (by kernel_rfl) (by rfl) (by rfl) (by rfl) h1 (frzR_set (by rfl))

def liveT : List UInt8 := [99, 111, 100, 101, 32, 49, 32, 48, 32, 48, 10, 104, 97, 108, 116]
theorem live_parse : parseS liveT = (⟨1, 0, 0, [⟨0, 0, 0, 0, 0⟩]⟩, 2, 0) := by kernel_rfl

theorem c32 (h : Heap) : Cw J 32 [] h = some (Bo true, h) := by
  have key : Ok (evFunc optB tab shared (Cw J) loopW noD Try.f32 [] []) fun r => r.1 = Bo true := by
    rw [f32_eq]
    have h33 : ∀ h, Cw J 33 [.sv (.str [99, 111, 100, 101, 32, 49, 32, 48, 32, 48, 10, 104, 97, 108, 116])] h = some (.tuple [codA ⟨1, 0, 0, [⟨0, 0, 0, 0, 0⟩]⟩, I 2, I 0], h) := fun h => by
      have := c33 (J := J) liveT (by decide) h
      rw [live_parse] at this
      exact this
    have hc : checkC ⟨1, 0, 0, [⟨0, 0, 0, 0, 0⟩]⟩ = 0 := by decide
    have h37 : ∀ h, Cw J 37 [codA ⟨1, 0, 0, [⟨0, 0, 0, 0, 0⟩]⟩] h = some (I 0, h) := fun h => by rw [c37 _ (by decide) h, hc]
    have hal : alloc [.sv (.int .i64 0), .sv (.int .i64 0), .sv (.int .i64 0), .nil] [] = some (.ptr 0 0, [.cells 0 [I 0, I 0, I 0, .nil] true]) := alloc_eq rfl
    have hst : storeA 4 (.ptr 0 0) (codA ⟨1, 0, 0, [⟨0, 0, 0, 0, 0⟩]⟩) [Ent.cells 0 [I 0, I 0, I 0, .nil] true] = some (.undef, [.cells 0 ((⟨1, 0, 0, [⟨0, 0, 0, 0, 0⟩]⟩ : Cod).sv.map .sv) true]) := by rfl
    have g0 : ld 1 false (.ptr 0 (0 + 0)) [Ent.cells 0 ((⟨1, 0, 0, [⟨0, 0, 0, 0, 0⟩]⟩ : Cod).sv.map .sv) true] = some (I 1) := rfl
    have g3 : ld 1 false (.ptr 0 (0 + 3)) [Ent.cells 0 ((⟨1, 0, 0, [⟨0, 0, 0, 0, 0⟩]⟩ : Cod).sv.map .sv) true] = some (.sv (inssSV [⟨0, 0, 0, 0, 0⟩])) := rfl
    have g : ld 4 true (.ptr 0 0) [Ent.cells 0 ((⟨1, 0, 0, [⟨0, 0, 0, 0, 0⟩]⟩ : Cod).sv.map .sv) true] = some (codA ⟨1, 0, 0, [⟨0, 0, 0, 0, 0⟩]⟩) := rfl
    have hln : ln (.slice 47 5 40 false) (.sv (inssSV [⟨0, 0, 0, 0, 0⟩])) = some (I 1) := by simp [inssSV]
    simp -implicitDefEqProofs only [f32_sh, optB_b, h33, Option.bind_some, ex_tuple, List.getElem?_cons_zero, List.getElem?_cons_succ, hal, hst, bin_eql, decide_true, gO_tt, asB_bo, if_true, fa_ptr, g0, g3, hln, g, h37, ok_some]
  obtain ⟨⟨r, hr⟩, h1, rfl⟩ := key
  exact call_sv Try.func32 (by kernel_rfl) (by rfl) (by rfl) (by rfl) h1 (frzR_set (by rfl))

end
end Go.Proofs.Ytmhamnnfcmkcfaa

/- Code with one register fewer: the law's loops. -/
set_option maxRecDepth 100000
namespace Go.Proofs.Ytmhamnnfcmkcfaa
open Go.RowKit

section
variable {J : Option (List AV → Option AV)}

theorem flat_ints : ∀ (l : List Int), (intRow l).flatten = l.map (SV.int .i64)
  | [] => rfl
  | n :: l => by
    have := flat_ints l
    simp only [intRow] at this
    simp [intRow, this]

theorem row_get {h : Heap} {v : AV} {l : List Int} {j : Nat} {n : Int} (hr : IsRow h 1 v (intRow l)) (hj : l[j]? = some n) : ∃ w, ia (.slice 3 1 8 false) v (I j) = some w ∧ ld 1 false w h = some (I n) := by
  have hlt := (List.getElem?_eq_some_iff.1 hj).1
  rcases hr.2 with ⟨-, q⟩ | ⟨id, rfl, h3⟩
  · have : l = [] := by simpa [intRow] using q
    subst this; simp at hj
  · refine ⟨_, ia_own (i := j) rfl (by simpa [intRow] using hlt), ?_⟩
    rw [flat_ints] at h3
    rw [ld_ptr h3 (by simp; omega)]
    have e : ((l.map (SV.int .i64)).map AV.sv).drop (0 + j * 1) = AV.sv (.int .i64 n) :: ((l.map (SV.int .i64)).map AV.sv).drop (0 + j * 1 + 1) := by
      rw [List.drop_eq_getElem_cons (by simp; omega)]
      congr 1
      have := (List.getElem?_eq_some_iff.1 hj).2
      simp [this]
    rw [e]
    rfl

/-- What stays in a round of the outer loop. -/
def Kept (c : Cod) (i : Nat) (st : St) : Prop :=
  st.tm 1 = .ptr 0 0 ∧ st.tm 3 = Bo true ∧ st.tm 25 = .sv (inssSV c.l) ∧ st.tm 26 = I c.l.length ∧ st.tm 27 = I i

def B1Inv (c : Cod) (i : Nat) (al : List Int) (last : Bool) (H : Heap) (x5 x6 : AV) (n : Nat) (st : St) : Prop :=
  ∃ (j : Nat) (v : AV), Kept c i st ∧ st.h = H ∧ st.tm 5 = x5 ∧ st.tm 6 = x6 ∧ st.tm 44 = v ∧ IsRow H 1 v (intRow al) ∧ st.tm 45 = I al.length ∧ st.tm 46 = I j ∧ j ≤ al.length ∧ st.tm 4 = Bo (last || (al.take j).any (· == c.regs - 1)) ∧ n = al.length - j

def B1Post (c : Cod) (i : Nat) (al : List Int) (last : Bool) (H : Heap) (x5 x6 : AV) (r : Out × St) : Prop :=
  r.1 = .exit 2 ∧ Kept c i r.2 ∧ r.2.h = H ∧ r.2.tm 5 = x5 ∧ r.2.tm 6 = x6 ∧ r.2.tm 4 = Bo (last || al.any (· == c.regs - 1))

theorem l6_b1 {c : Cod} {i : Nat} {al : List Int} {last : Bool} {H : Heap} {x5 x6 : AV} (hH : H[0]? = some (.cells 0 (c.sv.map .sv) true)) (hin : ∀ r ∈ al, 0 ≤ r ∧ r < c.regs) (hregs : 0 ≤ c.regs ∧ c.regs ≤ 128) (hal : al.length ≤ 1000) (n : Nat) (st : St) (hI : B1Inv c i al last H x5 x6 n st) :
    Ok (f6_b1 optB (Cw J) loopW st.tm st.h) (Nxt (B1Inv c i al last H x5 x6) (B1Post c i al last H x5 x6) n) := by
  obtain ⟨tm, h⟩ := st
  obtain ⟨j, v, ⟨k1, k3, k25, k26, k27⟩, rfl, e5, e6, e44, hr, e45, e46, hj, e4, rfl⟩ := hI
  simp only at k1 k3 k25 k26 k27 e5 e6 e44 hr e45 e46 e4 hH ⊢
  by_cases hlt : j < al.length
  · obtain ⟨r, hget⟩ : ∃ r, al[j]? = some r := ⟨_, List.getElem?_eq_getElem hlt⟩
    obtain ⟨q0, q1⟩ := hin r (List.mem_of_getElem? hget)
    obtain ⟨w, hia, hld⟩ := row_get hr hget
    have hlt' : (j : Int) < (al.length : Nat) := by omega
    have g0 : ld 1 false (.ptr 0 (0 + 0)) h = some (I c.regs) := by rw [ld_ptr hH (by simp [Cod.sv])]; rfl
    have n1 : ¬ r < 0 := by omega
    have n2 : ¬ c.regs ≤ r := by omega
    have w1 : IntKind.i64.wrap ((j : Int) + 1) = ((j + 1 : Nat) : Int) := by rw [wrapI (by omega) (by omega)]; omega
    have w2 : IntKind.i64.wrap (c.regs - 1) = c.regs - 1 := wrapI (by omega) (by omega)
    have htake : (al.take (j + 1)).any (· == c.regs - 1) = ((al.take j).any (· == c.regs - 1) || (r == c.regs - 1)) := by
      rw [List.take_add_one, hget]; simp
    have hd : decide (r = c.regs - 1) = (r == c.regs - 1) := by rw [Bool.eq_iff_iff]; simp
    cases hb : (last || (al.take j).any (· == c.regs - 1)) with
    | true =>
      rw [hb] at e4
      simp -implicitDefEqProofs only [f6_b1, optB_b, e46, e45, bin_lss, hlt', Option.bind_some, decide_true, decide_false, asB_bo, if_true, e44, hia, hld, n1, gO_ff, Bool.false_eq_true, if_false, k1, fa_ptr, g0, bin_geq, n2, e4, bin_add, w1, ok_some]
      refine nxt_n (al.length - (j + 1)) (by omega) ⟨j + 1, v, ⟨?_, ?_, ?_, ?_, ?_⟩, rfl, ?_, ?_, ?_, hr, ?_, ?_, by omega, ?_, rfl⟩
      · simp [upd, k1]
      · simp [upd, k3]
      · simp [upd, k25]
      · simp [upd, k26]
      · simp [upd, k27]
      · simp [upd, e5]
      · simp [upd, e6]
      · simp [upd, e44]
      · simp [upd, e45]
      · simp [upd]
      · rw [htake, ← Bool.or_assoc, hb]; simp [upd]
    | false =>
      rw [hb] at e4
      simp -implicitDefEqProofs only [f6_b1, optB_b, e46, e45, bin_lss, hlt', Option.bind_some, decide_true, decide_false, asB_bo, if_true, e44, hia, hld, n1, gO_ff, Bool.false_eq_true, if_false, k1, fa_ptr, g0, bin_geq, n2, e4, bin_sub, w2, bin_eql, bin_add, w1, ok_some]
      refine nxt_n (al.length - (j + 1)) (by omega) ⟨j + 1, v, ⟨?_, ?_, ?_, ?_, ?_⟩, rfl, ?_, ?_, ?_, hr, ?_, ?_, by omega, ?_, rfl⟩
      · simp [upd, k1]
      · simp [upd, k3]
      · simp [upd, k25]
      · simp [upd, k26]
      · simp [upd, k27]
      · simp [upd, e5]
      · simp [upd, e6]
      · simp [upd, e44]
      · simp [upd, e45]
      · simp [upd]
      · rw [htake, ← Bool.or_assoc, hb, hd]; simp [upd]
  · have hj2 : j = al.length := by omega
    have hlt' : ¬ ((j : Int) < (al.length : Nat)) := by omega
    simp -implicitDefEqProofs only [f6_b1, optB_b, e46, e45, bin_lss, hlt', Option.bind_some, decide_false, asB_bo, Bool.false_eq_true, if_false, ok_some]
    rw [hj2, List.take_length] at e4
    exact nxt_e ⟨rfl, ⟨by simp [upd, k1], by simp [upd, k3], by simp [upd, k25], by simp [upd, k26], by simp [upd, k27]⟩, rfl, by simp [upd, e5], by simp [upd, e6], by simp [upd, e4]⟩

def B2Inv (c : Cod) (i : Nat) (nx : List Int) (last : Bool) (H : Heap) (n : Nat) (st : St) : Prop :=
  ∃ j : Nat, Kept c i st ∧ st.h = H ∧ st.tm 69 = .sv (intsSV nx) ∧ st.tm 70 = I nx.length ∧ st.tm 71 = I j ∧ j ≤ nx.length ∧ st.tm 4 = Bo last ∧ n = nx.length - j

def B2Post (c : Cod) (i : Nat) (last : Bool) (H : Heap) (r : Out × St) : Prop :=
  r.1 = .exit 4 ∧ Kept c i r.2 ∧ r.2.h = H ∧ r.2.tm 4 = Bo last

theorem l6_b2 {c : Cod} {i : Nat} {nx : List Int} {last : Bool} {H : Heap} (hH : H[0]? = some (.cells 0 (c.sv.map .sv) true)) (hin : ∀ r ∈ nx, 0 ≤ r ∧ r < c.l.length) (hal : nx.length ≤ 1000) (n : Nat) (st : St) (hI : B2Inv c i nx last H n st) :
    Ok (f6_b2 optB (Cw J) loopW st.tm st.h) (Nxt (B2Inv c i nx last H) (B2Post c i last H) n) := by
  obtain ⟨tm, h⟩ := st
  obtain ⟨j, ⟨k1, k3, k25, k26, k27⟩, rfl, e69, e70, e71, hj, e4, rfl⟩ := hI
  simp only at k1 k3 k25 k26 k27 e69 e70 e71 e4 hH ⊢
  by_cases hlt : j < nx.length
  · obtain ⟨r, hget⟩ : ∃ r, nx[j]? = some r := ⟨_, List.getElem?_eq_getElem hlt⟩
    obtain ⟨q0, q1⟩ := hin r (List.mem_of_getElem? hget)
    have hia : ia (.slice 3 1 8 false) (.sv (intsSV nx)) (I j) = some (.ref [.int .i64 r]) := ia_sv (i := j) rfl (by simp [hget]) rfl
    have hld : ld 1 false (.ref [.int .i64 r]) h = some (I r) := rfl
    have hlt' : (j : Int) < (nx.length : Nat) := by omega
    have g3 : ld 1 false (.ptr 0 (0 + 3)) h = some (.sv (inssSV c.l)) := by rw [ld_ptr hH (by simp [Cod.sv])]; rfl
    have hln : ln (.slice 47 5 40 false) (.sv (inssSV c.l)) = some (I c.l.length) := by simp [inssSV]
    have n1 : ¬ r < 0 := by omega
    have n2 : ¬ (c.l.length : Int) ≤ r := by omega
    have w1 : IntKind.i64.wrap ((j : Int) + 1) = ((j + 1 : Nat) : Int) := by rw [wrapI (by omega) (by omega)]; omega
    simp -implicitDefEqProofs only [f6_b2, optB_b, e71, e70, bin_lss, hlt', Option.bind_some, decide_true, decide_false, asB_bo, if_true, e69, hia, hld, n1, gO_ff, Bool.false_eq_true, if_false, k1, fa_ptr, g3, hln, bin_geq, n2, bin_add, w1, ok_some]
    refine nxt_n (nx.length - (j + 1)) (by omega) ⟨j + 1, ⟨?_, ?_, ?_, ?_, ?_⟩, rfl, ?_, ?_, ?_, by omega, ?_, rfl⟩
    · simp [upd, k1]
    · simp [upd, k3]
    · simp [upd, k25]
    · simp [upd, k26]
    · simp [upd, k27]
    · simp [upd, e69]
    · simp [upd, e70]
    · simp [upd]
    · simp [upd, e4]
  · have hlt' : ¬ ((j : Int) < (nx.length : Nat)) := by omega
    simp -implicitDefEqProofs only [f6_b2, optB_b, e71, e70, bin_lss, hlt', Option.bind_some, decide_false, asB_bo, Bool.false_eq_true, if_false, ok_some]
    exact nxt_e ⟨rfl, ⟨by simp [upd, k1], by simp [upd, k3], by simp [upd, k25], by simp [upd, k26], by simp [upd, k27]⟩, rfl, by simp [upd, e4]⟩

end
end Go.Proofs.Ytmhamnnfcmkcfaa

/- Code with one register fewer: the law. -/
set_option maxRecDepth 100000
namespace Go.Proofs.Ytmhamnnfcmkcfaa
open Go.RowKit

section
variable {J : Option (List AV → Option AV)}

def B0Inv (c : Cod) (n : Nat) (st : St) : Prop :=
  ∃ i : Nat, Kept c i st ∧ st.h[0]? = some (.cells 0 (c.sv.map .sv) true) ∧ st.tm 4 = Bo (lastS c (c.l.take i)) ∧ i ≤ c.l.length ∧ n = c.l.length - i

def B0Post (c : Cod) (r : Out × St) : Prop :=
  r.1 = .exit 0 ∧ r.2.tm 1 = .ptr 0 0 ∧ r.2.tm 3 = Bo true ∧ r.2.h[0]? = some (.cells 0 (c.sv.map .sv) true) ∧ r.2.tm 4 = Bo (lastS c c.l)

theorem ok_regs {c : Cod} (h : checkOk c = true) : (0 ≤ c.regs ∧ c.regs ≤ 128) ∧ c.l.length ≤ 4096 ∧ (∀ x ∈ c.l, mayS x c = true) ∧ ((lastOp c = 0) ∨ (lastOp c = 10)) := by
  simp only [checkOk, headOk, Bool.and_eq_true, Bool.or_eq_true, decide_eq_true_eq, List.all_eq_true] at h
  exact ⟨⟨h.1.1.1.1.1.1.1.1.1, h.1.1.1.1.1.1.1.1.2⟩, h.1.1.2, h.1.2, h.2⟩

theorem allS_len (x : Ins) : (allS x).length ≤ 4 := by
  unfold allS readsS
  (repeat' split) <;> simp

theorem nextS_len (x : Ins) (i : Int) : (nextS x i).length ≤ 2 := by
  unfold nextS
  (repeat' split) <;> simp

theorem l6_k0 {c : Cod} (hok : checkOk c = true) {i : Nat} {x : Ins} (hx : c.l[i]? = some x) {tm : Tm} {h : Heap} (hk : Kept c i ⟨tm, h⟩) (hH : h[0]? = some (.cells 0 (c.sv.map .sv) true)) (e4 : tm 4 = Bo (lastS c (c.l.take i)))
    (e5 : tm 5 = I i) {X : Nat} (e6 : tm 6 = .ptr X 0) (hX : h[X]? = some (.cells 0 (x.sv.map .sv) true)) (hr : IsRow h 1 (tm 7) (intRow (allS x))) : Ok (f6_k0 optB (Cw J) loopW tm h) (Nxt (B0Inv c) (B0Post c) (c.l.length - i)) := by
  obtain ⟨hregs, hlen, hmay, hlast⟩ := ok_regs hok
  obtain ⟨k1, k3, k25, k26, k27⟩ := hk
  simp only at k1 k3 k25 k26 k27
  have hilt : i < c.l.length := (List.getElem?_eq_some_iff.1 hx).1
  have hm := hmay x (List.mem_of_getElem? hx)
  have hin := allS_in hm
  have hln7 := hr.len 3 8 false
  have hal := allS_len x
  have hnl := nextS_len x i
  have htk : lastS c (c.l.take (i + 1)) = (lastS c (c.l.take i) || (allS x).any (· == c.regs - 1)) := by
    unfold lastS
    rw [List.take_add_one, hx]; simp
  have hnx := nextS_in hm hilt (by omega) (fun q => by
    have e : c.l.getLast? = some x := by rw [List.getLast?_eq_getElem?, ← hx]; congr 1; omega
    have e2 : lastOp c = x.op := by simp [lastOp, e]
    rw [e2] at hlast
    exact hlast)
  have hrl : (intRow (allS x)).length = (allS x).length := by simp [intRow]
  rw [hrl] at hln7
  simp -implicitDefEqProofs only [f6_k0, optB_b, hln7, Option.bind_some]
  refine loop_ok (B1Inv c i (allS x) (lastS c (c.l.take i)) h (I i) (.ptr X 0)) (B1Post c i (allS x) (lastS c (c.l.take i)) h (I i) (.ptr X 0)) (n := (allS x).length) ⟨0, tm 7, ⟨?_, ?_, ?_, ?_, ?_⟩, rfl, ?_, ?_, ?_, hr, ?_, ?_, by omega, ?_, rfl⟩ (fun n st hI => l6_b1 hH hin hregs (by omega) n st hI) ?_
  · simp [upd, k1]
  · simp [upd, k3]
  · simp [upd, k25]
  · simp [upd, k26]
  · simp [upd, k27]
  · simp [upd, e5]
  · simp [upd, e6]
  · simp [upd]
  · simp [upd]
  · simp [upd]
  · simp [upd, e4]
  rintro ⟨o, ⟨tm1, h1⟩⟩ ⟨rfl, ⟨j1, j3, j25, j26, j27⟩, rfl, j5, j6, j4⟩
  simp only at j1 j3 j25 j26 j27 j5 j6 j4 hH hX ⊢
  have hld : ld 5 true (.ptr X 0) h1 = some (.agg (x.sv.map .sv)) := by rw [ld_ptr hX (by simp [Ins.sv])]; rfl
  have hln : ln (.slice 3 1 8 false) (.sv (intsSV (nextS x i))) = some (I (nextS x i).length) := by simp [intsSV]
  simp -implicitDefEqProofs only [outBlock_exit, if_true, outSeq_normal, f6_k1, optB_b, j6, hld, Option.bind_some, j5, c40, hln]
  refine loop_ok (B2Inv c i (nextS x i) (lastS c (c.l.take (i + 1))) h1) (B2Post c i (lastS c (c.l.take (i + 1))) h1) (n := (nextS x i).length) ⟨0, ⟨?_, ?_, ?_, ?_, ?_⟩, rfl, ?_, ?_, ?_, by omega, ?_, rfl⟩ (fun n st hI => l6_b2 hH hnx (by omega) n st hI) ?_
  · simp [upd, j1]
  · simp [upd, j3]
  · simp [upd, j25]
  · simp [upd, j26]
  · simp [upd, j27]
  · simp [upd]
  · simp [upd]
  · simp [upd]
  · simp [upd, j4, htk]
  rintro ⟨o, ⟨tm2, h2⟩⟩ ⟨rfl, ⟨m1, m3, m25, m26, m27⟩, rfl, m4⟩
  simp only at m1 m3 m25 m26 m27 m4 hH ⊢
  have w1 : IntKind.i64.wrap ((i : Int) + 1) = ((i + 1 : Nat) : Int) := by rw [wrapI (by omega) (by omega)]; omega
  simp -implicitDefEqProofs only [outBlock_exit, if_true, outSeq_normal, outBlock_normal, f6_k2, optB_b, m27, bin_add, w1, Option.bind_some, ok_some]
  refine nxt_n (c.l.length - (i + 1)) (by omega) ⟨i + 1, ⟨?_, ?_, ?_, ?_, ?_⟩, hH, ?_, by omega, rfl⟩
  · simp [upd, m1]
  · simp [upd, m3]
  · simp [upd, m25]
  · simp [upd, m26]
  · simp [upd]
  · simp [upd, m4]

theorem l6_b0 {c : Cod} (hok : checkOk c = true) (n : Nat) (st : St) (hI : B0Inv c n st) : Ok (f6_b0 optB (Cw J) loopW st.tm st.h) (Nxt (B0Inv c) (B0Post c) n) := by
  obtain ⟨tm, h⟩ := st
  obtain ⟨i, ⟨k1, k3, k25, k26, k27⟩, hH, e4, hi, rfl⟩ := hI
  simp only at k1 k3 k25 k26 k27 hH e4 ⊢
  by_cases hlt : i < c.l.length
  · obtain ⟨x, hx⟩ : ∃ x, c.l[i]? = some x := ⟨_, List.getElem?_eq_getElem hlt⟩
    have hia : ia (.slice 47 5 40 false) (.sv (inssSV c.l)) (I i) = some (.ref x.sv) := ia_sv (i := i) rfl (by simp [hx]) rfl
    have hld : ld 5 true (.ref x.sv) h = some (.agg (x.sv.map .sv)) := by rw [ld_ref (by simp [Ins.sv])]; rfl
    have hlt' : (i : Int) < (c.l.length : Nat) := by omega
    have hal : alloc [.sv (.int .i64 0), .sv (.int .i64 0), .sv (.int .i64 0), .sv (.int .i64 0), .sv (.int .i64 0)] h = some (.ptr h.length 0, h ++ [.cells 0 [.sv (.int .i64 0), .sv (.int .i64 0), .sv (.int .i64 0), .sv (.int .i64 0), .sv (.int .i64 0)] true]) := alloc_eq rfl
    have hst : storeA 5 (.ptr h.length 0) (.agg (x.sv.map .sv)) (h ++ [.cells 0 [.sv (.int .i64 0), .sv (.int .i64 0), .sv (.int .i64 0), .sv (.int .i64 0), .sv (.int .i64 0)] true]) = some (.undef, h ++ [.cells 0 (x.sv.map .sv) true]) := by
      rw [store_eq (heap_last _ _) (cellsOf_agg _) (by rfl) (by simp), heap_set_last]; rfl
    have hX : (h ++ [Ent.cells 0 (x.sv.map .sv) true])[h.length]? = some (.cells 0 (x.sv.map .sv) true) := heap_last _ _
    have hH1 : (h ++ [Ent.cells 0 (x.sv.map .sv) true])[0]? = some (.cells 0 (c.sv.map .sv) true) := app_get hH _
    have hld1 : ld 5 true (.ptr h.length 0) (h ++ [Ent.cells 0 (x.sv.map .sv) true]) = some (.agg (x.sv.map .sv)) := by rw [ld_ptr hX (by simp [Ins.sv])]; rfl
    simp -implicitDefEqProofs only [f6_b0, optB_b, k27, k26, bin_lss, hlt', Option.bind_some, decide_true, asB_bo, if_true, k25, hia, hld, hal, hst, hld1]
    generalize h ++ [Ent.cells 0 (x.sv.map .sv) true] = h1 at *
    generalize h.length = X at *
    refine Ok.bind (c38 x h1) ?_
    rintro ⟨v, h2⟩ ⟨hr, hE⟩
    simp only at hr hE ⊢
    have hX2 := hE _ _ hX
    have hH2 := hE _ _ hH1
    have hld2 : ld 5 true (.ptr X 0) h2 = some (.agg (x.sv.map .sv)) := by rw [ld_ptr hX2 (by simp [Ins.sv])]; rfl
    simp -implicitDefEqProofs only [hld2, Option.bind_some, c39, ex_tuple, List.getElem?_cons_zero, List.getElem?_cons_succ, asB_bo]
    cases hw : (writesS x).2 with
    | true =>
      have hal4 := allS_len x
      have hall : allS x = readsS x ++ [(writesS x).1] := by simp [allS, hw]
      rw [hall] at hal4
      obtain ⟨v', h', -, q2, q3, q4, q5, q6, id, q7, q8⟩ := push_one (e := 3) (b := 8) (y := false) (z := [.sv (.int .i64 0)]) (x := I (writesS x).1) (c := [.int .i64 (writesS x).1]) hr rfl rfl (by decide) rfl rfl (by decide) (by decide) (by simp [intRow]; simp at hal4; omega)
      simp -implicitDefEqProofs only [if_true, q2, q3, Option.bind_some]
      refine l6_k0 hok hx (X := X) ⟨?_, ?_, ?_, ?_, ?_⟩ (q5 _ _ hH2 (hr.other hH2 (by decide))) ?_ ?_ ?_ (q5 _ _ hX2 (hr.other hX2 (by decide))) ?_
      · simp [upd, k1]
      · simp [upd, k3]
      · simp [upd, k25]
      · simp [upd, k26]
      · simp [upd, k27]
      · simp [upd, e4]
      · simp [upd]
      · simp [upd]
      · rw [hall]; simpa [upd, intRow] using q4
    | false =>
      have hall : allS x = readsS x := by simp [allS, hw]
      simp -implicitDefEqProofs only [Bool.false_eq_true, if_false]
      refine l6_k0 hok hx (X := X) ⟨?_, ?_, ?_, ?_, ?_⟩ hH2 ?_ ?_ ?_ hX2 ?_
      · simp [upd, k1]
      · simp [upd, k3]
      · simp [upd, k25]
      · simp [upd, k26]
      · simp [upd, k27]
      · simp [upd, e4]
      · simp [upd]
      · simp [upd]
      · rw [hall]; simpa [upd] using hr
  · have hi2 : i = c.l.length := by omega
    have hlt' : ¬ ((i : Int) < (c.l.length : Nat)) := by omega
    simp -implicitDefEqProofs only [f6_b0, optB_b, k27, k26, bin_lss, hlt', Option.bind_some, decide_false, asB_bo, Bool.false_eq_true, if_false, ok_some]
    rw [hi2, List.take_length] at e4
    exact nxt_e ⟨rfl, by simp [upd, k1], by simp [upd, k3], hH, by simp [upd, e4]⟩

end
end Go.Proofs.Ytmhamnnfcmkcfaa

/- Code with one register fewer: the law, whole. -/
set_option maxRecDepth 100000
namespace Go.Proofs.Ytmhamnnfcmkcfaa
open Go.RowKit

section
variable {J : Option (List AV → Option AV)}

theorem l6_k3 {c : Cod} (hok : checkOk c = true) {tm : Tm} {h : Heap} (k1 : tm 1 = .ptr 0 0) (k3 : tm 3 = Bo true) (hH : h[0]? = some (.cells 0 (c.sv.map .sv) true)) (e4 : tm 4 = Bo (lastS c c.l)) : Ok (f6_k3 optB (Cw J) loopW tm h) fun r => r.1 = Bo true := by
  obtain ⟨hregs, hlen, -, -⟩ := ok_regs hok
  have hlt : 0 < h.length := (List.getElem?_eq_some_iff.1 hH).1
  have g0 : ld 1 false (.ptr 0 (0 + 0)) h = some (I c.regs) := by rw [ld_ptr hH (by simp [Cod.sv])]; rfl
  have w2 : IntKind.i64.wrap (c.regs - 1) = c.regs - 1 := wrapI (by omega) (by omega)
  have hst : storeA 1 (.ptr 0 (0 + 0)) (I (c.regs - 1)) h = some (.undef, h.set 0 (.cells 0 ((lessC c).sv.map .sv) true)) := by
    rw [store_eq (n := 1) (vs := [I (c.regs - 1)]) hH rfl rfl (by simp [Cod.sv])]; rfl
  have hH2 : (h.set 0 (.cells 0 ((lessC c).sv.map .sv) true))[0]? = some (.cells 0 ((lessC c).sv.map .sv) true) := by simp [hlt]
  have hld : ld 4 true (.ptr 0 0) (h.set 0 (.cells 0 ((lessC c).sv.map .sv) true)) = some (codA (lessC c)) := by rw [ld_ptr hH2 (by simp [Cod.sv])]; rfl
  have g0' : ld 1 false (.ptr 0 (0 + 0)) (h.set 0 (.cells 0 ((lessC c).sv.map .sv) true)) = some (I (c.regs - 1)) := by rw [ld_ptr hH2 (by simp [Cod.sv])]; rfl
  have h37 := c37 (J := J) (lessC c) (by show c.l.length ≤ _; omega) (h.set 0 (.cells 0 ((lessC c).sv.map .sv) true))
  have hlaw := less_law hok
  generalize h.set 0 (.cells 0 ((lessC c).sv.map .sv) true) = h1 at *
  cases hb : lastS c c.l with
  | true =>
    rw [hb] at e4 hlaw
    simp -implicitDefEqProofs only [f6_k3, optB_b, k1, fa_ptr, g0, Option.bind_some, bin_sub, w2, hst, k3, gO_tt, if_true, hld, h37, bin_eql, e4, un_not, Bool.not_true, Bool.false_eq_true, if_false, asB_bo, bin_eqlB, ok_some, hlaw, Bool.false_and, beq_self_eq_true]
  | false =>
    rw [hb] at e4 hlaw
    simp -implicitDefEqProofs only [f6_k3, optB_b, k1, fa_ptr, g0, g0', Option.bind_some, bin_sub, w2, hst, k3, gO_tt, if_true, hld, h37, bin_eql, e4, un_not, Bool.not_false, asB_bo, bin_geq, bin_eqlB, ok_some, hlaw, Bool.true_and, beq_self_eq_true]

theorem law6 (c : Cod) : Ok (evFunc optB tab shared (Cw J) loopW noD Try.f6 [codA c] []) fun r => r.1 = Bo true := by
  rw [f6_eq]
  have b1 : boxA 4 (codA c) [] = some (.ptr 0 0, [.cells 0 (c.sv.map .sv) true]) := box_eq (cellsOf_agg _) rfl (cells_all _)
  have g : ld 4 true (.ptr 0 0) [Ent.cells 0 (c.sv.map .sv) true] = some (codA c) := rfl
  have g3 : ld 1 false (.ptr 0 (0 + 3)) [Ent.cells 0 (c.sv.map .sv) true] = some (.sv (inssSV c.l)) := rfl
  have hln : ln (.slice 47 5 40 false) (.sv (inssSV c.l)) = some (I c.l.length) := by simp [inssSV]
  by_cases hf : c.l.length ≤ 300
  · have hl : c.l.length ≤ 9223372036854775806 := by omega
    by_cases hz : checkC c = 0
    · have hok : checkOk c = true := by
        unfold checkC at hz
        cases h : checkOk c with
        | true => rfl
        | false => rw [h] at hz; simp at hz
      simp -implicitDefEqProofs only [f6_sh, optB_b, b1, Option.bind_some, c32, g, c36, hf, decide_true, un_not, Bool.not_true, gO_ff, Bool.false_eq_true, if_false, c37 c hl, bin_neq, hz, asB_bo, fa_ptr, g3, hln]
      refine loop_ok (B0Inv c) (B0Post c) (n := c.l.length) ⟨0, ⟨?_, ?_, ?_, ?_, ?_⟩, rfl, ?_, by omega, rfl⟩ (fun n st hI => l6_b0 hok n st hI) ?_
      · simp [upd]
      · simp [upd]
      · simp [upd]
      · simp [upd]
      · simp [upd]
      · simp [upd, lastS]
      rintro ⟨o, ⟨tm, h⟩⟩ ⟨rfl, k1, k3, hH, e4⟩
      simp only at k1 k3 hH e4 ⊢
      simp -implicitDefEqProofs only [outBlock_exit, if_true, outSeq_normal]
      exact l6_k3 hok k1 k3 hH e4
    · simp -implicitDefEqProofs only [f6_sh, optB_b, b1, Option.bind_some, c32, g, c36, hf, decide_true, decide_false, un_not, Bool.not_true, Bool.not_false, gO_ff, Bool.false_eq_true, if_false, c37 c hl, bin_neq, hz, asB_bo, if_true, ok_some]
  · simp -implicitDefEqProofs only [f6_sh, optB_b, b1, Option.bind_some, c32, g, c36, hf, decide_false, un_not, Bool.not_false, gO_ff, if_true, asB_bo, gO_dead, ok_some]

end
end Go.Proofs.Ytmhamnnfcmkcfaa

/- What a call is handed, read: settled values of its types. -/
namespace Go.Proofs.Ytmhamnnfcmkcfaa
open Go.RowKit

/-- All that lies in memory is settled. -/
def allOf (w : World) : Settled := fun b o => w.cell? ⟨b, o, none⟩

def tiles (P : Program) : List Field → Nat → Nat → Bool
  | [], o, n => o == n
  | f :: fs, o, n => f.offset == o && tiles P fs (o + P.cellsOf f.type) n

def okT (P : Program) (ok : List Nat) : Bool := ok.all fun t => match P.underlying t with
  | some .bool => true
  | some (.int _) => true
  | some .string => true
  | some (.slice e) => ok.contains e && decide (0 < P.cellsOf e)
  | some (.struct fs) => fs.toList.all (fun f => ok.contains f.type) && tiles P fs.toList 0 (P.cellsOf t)
  | _ => false

def fitsF (fit : TypeId → List SV → Prop) : List Field → List SV → Prop
  | [], l => l = []
  | f :: fs, l => ∃ a b, l = a ++ b ∧ fit f.type a ∧ fitsF fit fs b

/-- Settled cells that a type may have. -/
def fits (P : Program) : Nat → TypeId → List SV → Prop
  | 0, _, _ => False
  | n + 1, t, l => match P.underlying t with
    | some .bool => ∃ b, l = [.bool b]
    | some (.int k) => ∃ i, l = [.int k i] ∧ (Lit.int k i).wf = true
    | some .string => ∃ s, l = [.str s] ∧ s.length ≤ maxLen
    | some (.slice e) => ∃ xs, l = [.slice xs] ∧ xs.length ≤ maxLen ∧ ∀ x ∈ xs, fits P n e x
    | some (.struct fs) => fitsF (fits P n) fs.toList l
    | _ => False

def RepSL (S : Settled) (l : List SV) (cs : List Value) : Prop := l.length = cs.length ∧ ∀ (j : Nat) (s : SV) (v : Value), l[j]? = some s → cs[j]? = some v → RepS S s v

theorem RepSL.append {S : Settled} {a b : List SV} {cs ds : List Value} (h : RepSL S a cs) (k : RepSL S b ds) : RepSL S (a ++ b) (cs ++ ds) := by
  refine ⟨by simp [h.1, k.1], fun j s v h1 h2 => ?_⟩
  rw [List.getElem?_append] at h1 h2
  rw [h.1] at h1
  split at h1
  · rename_i q; rw [if_pos q] at h2; exact h.2 j s v h1 h2
  · rename_i q; rw [if_neg q] at h2; exact k.2 _ s v h1 h2

theorem RepSL.one {S : Settled} {s : SV} {v : Value} (h : RepS S s v) : RepSL S [s] [v] := by
  refine ⟨rfl, fun j s' v' h1 h2 => ?_⟩
  cases j with
  | zero => simp at h1 h2; subst h1; subst h2; exact h
  | succ j => simp at h1

section
variable {H : Type} {enc : TypeId × Value → H} {P : Program} {w : World} {base : Nat} {sp : Nat → Bool} {held : Bool}

theorem fields_fits {n : Nat} {cs : List Value} :
    ∀ (fl : List Field) (o : Nat), (∀ f ∈ fl, ∃ y, DataW.trod enc P w base sp held n f.type ((cs.drop f.offset).take (P.cellsOf f.type)) = some y) → tiles P fl o cs.length = true →
      (∀ f ∈ fl, ∀ cs y, DataW.trod enc P w base sp held n f.type cs = some y → ∃ l, RepSL (allOf w) l cs ∧ fits P n f.type l) → ∃ l, RepSL (allOf w) l (cs.drop o) ∧ fitsF (fits P n) fl l
  | [], o, _, ht, _ => by
    simp only [tiles, beq_iff_eq] at ht
    subst ht
    exact ⟨[], ⟨by simp, fun j s v h => by simp at h⟩, rfl⟩
  | f :: fl, o, h, ht, hI => by
    simp only [tiles, Bool.and_eq_true, beq_iff_eq] at ht
    obtain ⟨rfl, ht⟩ := ht
    obtain ⟨y, hy⟩ := h f (List.mem_cons_self ..)
    obtain ⟨a, ha, hfa⟩ := hI f (List.mem_cons_self ..) _ _ hy
    obtain ⟨b, hb, hfb⟩ := fields_fits (cs := cs) fl _ (fun g hg => h g (List.mem_cons_of_mem _ hg)) ht (fun g hg => hI g (List.mem_cons_of_mem _ hg))
    refine ⟨a ++ b, ?_, a, b, rfl, hfa, hfb⟩
    have := ha.append hb
    rw [← List.drop_drop, List.take_append_drop] at this
    exact this

theorem trod_fits {ok : List Nat} (hok : okT P ok = true) : ∀ (fuel : Nat) (t : TypeId) (cs : List Value) (y : DataW H × List MemPlace), t ∈ ok → DataW.trod enc P w base sp held fuel t cs = some y → ∃ l, RepSL (allOf w) l cs ∧ fits P fuel t l := by
  intro fuel
  induction fuel with
  | zero => intro t cs y _ e; simp [DataW.trod] at e
  | succ n ih =>
    intro t cs y ht e
    have hk := List.all_eq_true.1 hok t ht
    split at hk
    · rename_i hu
      obtain ⟨b, rfl, -⟩ := DataW.trod_bool hu e
      exact ⟨[.bool b], .one (.bool b), by simp [fits, hu]⟩
    · rename_i k hu
      obtain ⟨i, rfl, -, hw⟩ := DataW.trod_int hu e
      exact ⟨[.int k i], .one (.int k i), by simp [fits, hu, hw]⟩
    · rename_i hu
      obtain ⟨s, rfl, -, hs⟩ := DataW.trod_string hu e
      refine ⟨[.str s.data.toList], .one (.str s.data.toList), ?_⟩
      simp only [fits, hu]
      exact ⟨_, rfl, by simpa using hs⟩
    · rename_i el hu
      rw [Bool.and_eq_true] at hk
      have hel : el ∈ ok := by simpa using hk.1
      have hpos : 0 < P.cellsOf el := of_decide_eq_true hk.2
      rcases DataW.trod_slice hu e with ⟨rfl, -⟩ | ⟨a, len, cap, elems, rest, m, hm, rfl, -, -, hle, hcap, hlen, hel2, -⟩
      · refine ⟨[.slice []], .one (.slice0 _ _), ?_⟩
        simp only [fits, hu]
        exact ⟨[], rfl, Nat.zero_le _, fun x hx => by simp at hx⟩
      · obtain rfl : n = m := by omega
        have each : ∀ i, i < len → ∃ ci l, w.cells? base (a.add (i * P.cellsOf el)) (P.cellsOf el) = some ci ∧ RepSL (allOf w) l ci ∧ fits P n el l := by
          intro i hi
          have h1 := hel2 i hi
          rw [List.getElem?_eq_getElem (by omega)] at h1
          obtain ⟨ci, h2, h3⟩ := Option.bind_eq_some_iff.1 h1
          obtain ⟨l, h4, h5⟩ := ih el ci _ hel h3
          exact ⟨ci, l, h2, h4, h5⟩
        by_cases hz : len = 0
        · subst hz
          refine ⟨[.slice []], .one (.slice0 _ _), ?_⟩
          simp only [fits, hu]
          exact ⟨[], rfl, Nat.zero_le _, fun x hx => by simp at hx⟩
        · -- the address is a plain one
          obtain ⟨b, o, spot⟩ := a
          have hspot : spot = none := by
            obtain ⟨ci, l, h1, h2, -⟩ := each 0 (by omega)
            obtain ⟨-, hl, hc⟩ := World.cells?_some h1
            have h0 := hc 0 hpos
            obtain ⟨v, hv⟩ : ∃ v, ci[0]? = some v := ⟨ci[0]'(by omega), List.getElem?_eq_getElem _⟩
            rw [hv] at h0
            simpa [Addr.add] using World.cell?_spot h0
          subst hspot
          let xs : List (List SV) := (List.range len).map fun i => if h : i < len then Classical.choose (Classical.choose_spec (each i h)) else []
          have hxl : xs.length = len := by simp [xs]
          have hx : ∀ i (h : i < len), xs[i]? = some (Classical.choose (Classical.choose_spec (each i h))) := by
            intro i h
            simp [xs, h]
          have hxs : ∀ i x, xs[i]? = some x → ∃ ci, i < len ∧ w.cells? base ((⟨b, o, none⟩ : Addr).add (i * P.cellsOf el)) (P.cellsOf el) = some ci ∧ RepSL (allOf w) x ci ∧ fits P n el x := by
            intro i x h
            have hi : i < len := by rw [← hxl]; exact (List.getElem?_eq_some_iff.1 h).1
            rw [hx i hi] at h
            cases h
            obtain ⟨h1, h2, h3⟩ := Classical.choose_spec (Classical.choose_spec (each i hi))
            exact ⟨_, hi, h1, h2, h3⟩
          have hcell : ∀ i x, xs[i]? = some x → x.length = P.cellsOf el ∧ ∀ j s, x[j]? = some s → ∃ v, w.cell? ⟨b, o + i * P.cellsOf el + j, none⟩ = some v ∧ RepS (allOf w) s v := by
            intro i x h
            obtain ⟨ci, hi, h1, h2, h3⟩ := hxs i x h
            obtain ⟨-, hl, hc⟩ := World.cells?_some h1
            refine ⟨by rw [h2.1, hl], fun j s hs => ?_⟩
            have hj : j < ci.length := by rw [← h2.1]; exact (List.getElem?_eq_some_iff.1 hs).1
            have hv : ci[j]? = some ci[j] := List.getElem?_eq_getElem hj
            have hcj := hc j (by omega)
            rw [Addr.add_mid, Addr.add_mid, hv] at hcj
            exact ⟨_, hcj, h2.2 j s _ hs hv⟩
          refine ⟨[.slice xs], ?_, ?_⟩
          · refine .one ?_
            have := RepS.slice (S := allOf w) xs b o cap (P.cellsOf el) (fun i j => (w.cell? ⟨b, o + i * P.cellsOf el + j, none⟩).getD undef) (by omega) ?_ ?_ ?_
            · rw [hxl] at this; exact this
            · intro c hc
              obtain ⟨i, hi⟩ := List.mem_iff_getElem?.1 hc
              exact (hcell i c hi).1
            · intro i j hi hj
              obtain ⟨h1, h2⟩ := hcell i _ (List.getElem?_eq_getElem hi)
              obtain ⟨v, hv, -⟩ := h2 j _ (List.getElem?_eq_getElem (by omega))
              simp only [allOf, hv, Option.getD_some]
            · intro i j c s hi hj
              obtain ⟨h1, h2⟩ := hcell i c hi
              obtain ⟨v, hv, hr⟩ := h2 j s hj
              simp only [hv, Option.getD_some]
              exact hr
          · simp only [fits, hu]
            refine ⟨xs, rfl, by omega, fun x hx => ?_⟩
            obtain ⟨i, hi⟩ := List.mem_iff_getElem?.1 hx
            obtain ⟨ci, -, -, -, h3⟩ := hxs i x hi
            exact h3
    · rename_i fs hu
      rw [Bool.and_eq_true] at hk
      obtain ⟨xs, m, hm, -, hlen, hsz, hf⟩ := DataW.trod_struct hu e
      obtain rfl : n = m := by omega
      have hmem : ∀ f ∈ fs.toList, f.type ∈ ok := fun f hf => by simpa using List.all_eq_true.1 hk.1 f hf
      have hget : ∀ f ∈ fs.toList, ∃ y, DataW.trod enc P w base sp held n f.type ((cs.drop f.offset).take (P.cellsOf f.type)) = some y := by
        intro f hfm
        obtain ⟨i, hi⟩ := List.mem_iff_getElem?.1 hfm
        rw [Array.getElem?_toList] at hi
        have h1 := hf i f hi
        have : i < xs.length := by rw [hsz]; exact (Array.getElem?_eq_some_iff.1 hi).1
        exact ⟨xs[i], by rw [h1, List.getElem?_eq_getElem this]⟩
      obtain ⟨l, h1, h2⟩ := fields_fits (cs := cs) (n := n) (enc := enc) (P := P) (w := w) (base := base) (sp := sp) (held := held) fs.toList 0 hget (by rw [hlen]; exact hk.2) (fun f hfm cs y => ih f.type cs y (hmem f hfm))
      refine ⟨l, by simpa using h1, ?_⟩
      simp only [fits, hu]
      exact h2
    · cases hk

end
end Go.Proofs.Ytmhamnnfcmkcfaa

/- From the interpreter's answer to a call of a law. -/
namespace Go.Proofs.Ytmhamnnfcmkcfaa
open Go.RowKit

/-- An argument's value. -/
def argOf (agg : Bool) (l : List SV) : AV := if agg then .agg (l.map .sv) else .sv (l.headD .nilp)

def isAggT (P : Program) (t : Nat) : Bool := match P.underlying t with | some (.struct _) => true | _ => false

section
variable {H : Type} {enc : TypeId × Value → H} {P : Program}

open Go.WideShapes in
theorem arg_rep {w : World} {base b0 : Nat} {sp : Nat → Bool} {held : Bool} {r : Reach} {ok : List Nat} (hok : okT P ok = true) {t : Nat} (ht : t ∈ ok) {v : Value} {d : DataW H} {ps : List MemPlace}
    (hval : Value.okWide P w r b0 t v) (h : DataW.Trod enc P w base sp held t v d ps) : ∃ fuel l, fits P fuel t l ∧ ∀ loc, Rep ⟨allOf w, loc⟩ (argOf (isAggT P t) l) v := by
  obtain ⟨fuel, hf⟩ := h
  obtain ⟨l, h1, h2⟩ := trod_fits hok fuel t _ _ ht hf
  refine ⟨fuel, l, h2, fun loc => ?_⟩
  have hk := List.all_eq_true.1 hok t ht
  have one : ∀ (s : SV), l = [s] → v.cells = #[v] → isAggT P t = false → Rep ⟨allOf w, loc⟩ (argOf (isAggT P t) l) v := by
    rintro s rfl hc ha
    rw [ha]
    rw [hc] at h1
    exact .sv (h1.2 0 s v rfl rfl)
  cases fuel with
  | zero => exact h2.elim
  | succ n =>
  simp only [fits] at h2
  split at hk
  · rename_i hu
    rw [hu] at h2
    obtain ⟨b, rfl⟩ := h2
    obtain ⟨b', rfl⟩ := okWide_bool hu hval
    exact one _ rfl rfl (by simp [isAggT, hu])
  · rename_i k hu
    rw [hu] at h2
    obtain ⟨i, rfl, -⟩ := h2
    obtain ⟨b', rfl⟩ := okWide_int hu hval
    exact one _ rfl rfl (by simp [isAggT, hu])
  · rename_i hu
    rw [hu] at h2
    obtain ⟨i, rfl, -⟩ := h2
    obtain ⟨b', rfl⟩ := okWide_string hu hval
    exact one _ rfl rfl (by simp [isAggT, hu])
  · rename_i el hu
    rw [hu] at h2
    obtain ⟨i, rfl, -⟩ := h2
    obtain ⟨a, len, cap, rfl⟩ := okWide_slice hu hval
    exact one _ rfl rfl (by simp [isAggT, hu])
  · rename_i fs hu
    have ha : isAggT P t = true := by simp [isAggT, hu]
    rw [ha]
    simp only [Value.okWide, hu] at hval
    obtain ⟨cs, rfl, -⟩ := hval
    have := h1.1
    have h3 : Rep ⟨allOf w, loc⟩ (.agg (l.map .sv)) (.agg cs.toList.toArray) := .agg _ cs.toList (by simpa [Value.cells] using this) (fun j c u q1 q2 => by
      rw [List.getElem?_map] at q1
      obtain ⟨s, hs, rfl⟩ := Option.map_eq_some_iff.1 q1
      exact .sv (h1.2 j s u hs q2))
    simpa [argOf] using h3
  · cases hk

set_option maxRecDepth 100000 in
/-- What the row asks of a call. -/
theorem walk_of_ev {J : Option (List AV → Option AV)} (hJ : JoinOk J) {n : Nat} {fn : Func} (hfn : Try.prog.funcs[n]? = some fn) (hg : good fn = true) {args : List AV} {h' : Heap} (e : evFunc optB tab shared (callW (env J)) loopW noD fn args [] = some (.sv (.bool true), h'))
    {w : World} {cargs : List Value} (hL : RepL ⟨allOf w, fun _ => none⟩ args cargs) : Calls Try.prog n cargs.toArray w fun e w' => e = .returned (.bool true) ∧ Below w.heap.size w w' := by
  refine (calls_of_ev (env_ok hJ) (env_plain J) (env_fn hfn hg) e hL (fun b o u h => h)).mono ?_
  intro en w' q
  cases en with
  | returned cv =>
    obtain ⟨hb, G', -, -, hr⟩ := q
    cases hr with | sv hr =>
    cases hr
    exact ⟨rfl, hb⟩
  | panicked c => exact q.elim
  | outgrown => exact q.elim

end
end Go.Proofs.Ytmhamnnfcmkcfaa

/- What a law's arguments are: code. -/
set_option maxRecDepth 100000
namespace Go.Proofs.Ytmhamnnfcmkcfaa
open Go.RowKit

def I64 (n : Int) : Prop := (Lit.int .i64 n).wf = true

theorem fit_int3 {n : Nat} {l : List SV} (h : fits Try.prog n 3 l) : ∃ i, l = [.int .i64 i] ∧ I64 i := by
  cases n with
  | zero => exact h.elim
  | succ n =>
    simp only [fits, Try.underlying3] at h
    exact h

theorem fit_int2 {n : Nat} {l : List SV} (h : fits Try.prog n 2 l) : ∃ i, l = [.int .i64 i] ∧ I64 i := by
  cases n with
  | zero => exact h.elim
  | succ n =>
    simp only [fits, Try.underlying2] at h
    exact h

def Ins.ok (x : Ins) : Prop := I64 x.op ∧ I64 x.a ∧ I64 x.b ∧ I64 x.c ∧ I64 x.n
def Cod.ok (c : Cod) : Prop := I64 c.regs ∧ I64 c.arrs ∧ I64 c.inn ∧ c.l.length ≤ maxLen ∧ ∀ x ∈ c.l, x.ok

theorem fit_ins {n : Nat} {l : List SV} (h : fits Try.prog n 47 l) : ∃ x : Ins, l = x.sv ∧ x.ok := by
  cases n with
  | zero => exact h.elim
  | succ n =>
    simp only [fits, Try.underlying47, fitsF] at h
    obtain ⟨a0, b0, rfl, h0, a1, b1, rfl, h1, a2, b2, rfl, h2, a3, b3, rfl, h3, a4, b4, rfl, h4, rfl⟩ := h
    obtain ⟨i0, rfl, w0⟩ := fit_int3 h0
    obtain ⟨i1, rfl, w1⟩ := fit_int3 h1
    obtain ⟨i2, rfl, w2⟩ := fit_int3 h2
    obtain ⟨i3, rfl, w3⟩ := fit_int3 h3
    obtain ⟨i4, rfl, w4⟩ := fit_int2 h4
    exact ⟨⟨i0, i1, i2, i3, i4⟩, rfl, w0, w1, w2, w3, w4⟩

theorem fit_inss {n : Nat} : ∀ (xs : List (List SV)), (∀ x ∈ xs, fits Try.prog n 47 x) → ∃ l : List Ins, xs = l.map Ins.sv ∧ ∀ x ∈ l, x.ok
  | [], _ => ⟨[], rfl, fun x h => by simp at h⟩
  | x :: xs, h => by
    obtain ⟨y, rfl, hy⟩ := fit_ins (h x (by simp))
    obtain ⟨l, rfl, hl⟩ := fit_inss xs fun z hz => h z (by simp [hz])
    exact ⟨y :: l, rfl, fun z hz => by
      rcases List.mem_cons.1 hz with rfl | hz
      · exact hy
      · exact hl z hz⟩

theorem fit_cod {n : Nat} {l : List SV} (h : fits Try.prog n 39 l) : ∃ c : Cod, l = c.sv ∧ c.ok := by
  cases n with
  | zero => exact h.elim
  | succ n =>
    simp only [fits, Try.underlying39, fitsF] at h
    obtain ⟨a0, b0, rfl, h0, a1, b1, rfl, h1, a2, b2, rfl, h2, a3, b3, rfl, h3, rfl⟩ := h
    obtain ⟨i0, rfl, w0⟩ := fit_int3 h0
    obtain ⟨i1, rfl, w1⟩ := fit_int3 h1
    obtain ⟨i2, rfl, w2⟩ := fit_int3 h2
    cases n with
    | zero => exact h3.elim
    | succ n =>
      simp only [fits, Try.underlying37] at h3
      obtain ⟨xs, rfl, hl, hx⟩ := h3
      obtain ⟨l, rfl, hl2⟩ := fit_inss xs hx
      exact ⟨⟨i0, i1, i2, l⟩, rfl, w0, w1, w2, by simpa using hl, hl2⟩

theorem fit_str {n : Nat} {l : List SV} (h : fits Try.prog n 9 l) : ∃ s : List UInt8, l = [.str s] ∧ s.length ≤ maxLen := by
  cases n with
  | zero => exact h.elim
  | succ n =>
    simp only [fits, Try.underlying9] at h
    exact h

end Go.Proofs.Ytmhamnnfcmkcfaa
