/-
  The summaries of sum.More and page.Open, and that they speak true.
-/
import Derived.Test.YtamlmddkcghhlaaGreatDoorB1
import Derived.Test.YtamlmddkcghhlaaGreatDoorA5
import Derived.Test.YtamlmddkcghhlaaGreatDoorA3
set_option linter.unusedSimpArgs false
set_option linter.unusedVariables false
namespace Go.Proofs.YtamlmddkcghhlaaGreatDoor
open Go Go.Ab

/- coffret/sum.More -/
noncomputable section
noncomputable def c351 : Code := codeOf Tryz.f351
def k351_r0 : List KI := [.mk .no (.at (.mk 4)) (.mv (.con (.int .i64 0))),
  .mk .no (.at (.mk 5)) (.mv (.con (.int .i64 0)))]
def k351_r1 : List KI := [.mk .no (.at (.mk 9)) (.mv (.slot (.mk 0))),
  .mk .no (.at (.mk 10)) (.call 377 [(.slot (.mk 9))]),
  .mk .no (.at (.mk 11)) (.not (.slot (.mk 10)))]
def k351_r2 : List KI := [.mk .no (.at (.mk 4)) (.mv (.con (.int .i64 0))),
  .mk .no (.at (.mk 5)) (.mv (.con (.int .i64 1)))]
def k351_r3 : List KI := [.mk .no (.at (.mk 12)) (.mv (.slot (.mk 0))),
  .mk .no (.at (.mk 13)) (.conv .u32 (.slot (.mk 12))),
  .mk .no (.at (.mk 14)) (.un .xor (.slot (.mk 13))),
  .mk .no (.at (.mk 6)) (.mv (.slot (.mk 14)))]
def k351_r4 : List KI := [.mk .no (.at (.mk 15)) (.mv (.slot (.mk 1))),
  .mk .no (.at (.mk 16)) (.len (.slot (.mk 15))),
  .mk .no (.at (.mk 17)) (.mv (.con (.int .i64 0)))]
def k351_r5 : List KI := [.mk .no (.at (.mk 18)) (.bin .lss .lss 3 (.tmp 17) (.tmp 16) (.slot (.mk 17)) (.slot (.mk 16)))]
def k351_r6 : List KI := [.mk .no (.at (.mk 19)) (.idxA 1 (.slot (.mk 15)) (.slot (.mk 17))),
  .mk .no (.at (.mk 20)) (.load1 (.slot (.mk 19))),
  .mk .no (.at (.mk 8)) (.mv (.slot (.mk 20)))]
def k351_r7 : List KI := [.mk .no (.at (.mk 21)) (.mv (.slot (.mk 6))),
  .mk .no (.at (.mk 22)) (.mv (.slot (.mk 8))),
  .mk .no (.at (.mk 23)) (.conv .u32 (.slot (.mk 22))),
  .mk .no (.at (.mk 24)) (.bin .xor .xor 318 (.tmp 21) (.tmp 23) (.slot (.mk 21)) (.slot (.mk 23))),
  .mk .no (.at (.mk 6)) (.mv (.slot (.mk 24)))]
def k351_r8 : List KI := [.mk .no (.at (.mk 25)) (.mv (.slot (.mk 6))),
  .mk .no (.at (.mk 26)) (.shf .shr .shr 318 (.tmp 25) (.const (.int .u64 4)) (.slot (.mk 25)) (.con (.int .u64 4))),
  .mk .no (.at (.mk 27)) (.mv (.slot (.mk 6))),
  .mk .no (.at (.mk 28)) (.bin .and .and 318 (.tmp 27) (.const (.int .u32 15)) (.slot (.mk 27)) (.con (.int .u32 15))),
  .mk .no (.at (.mk 29)) (.idxP 1 16 (.con (.ptr 3 0)) (.slot (.mk 28))),
  .mk .no (.at (.mk 30)) (.load1 (.slot (.mk 29))),
  .mk .no (.at (.mk 31)) (.bin .xor .xor 318 (.tmp 26) (.tmp 30) (.slot (.mk 26)) (.slot (.mk 30))),
  .mk .no (.at (.mk 6)) (.mv (.slot (.mk 31)))]
def k351_r9 : List KI := [.mk .no (.at (.mk 32)) (.mv (.slot (.mk 6))),
  .mk .no (.at (.mk 33)) (.shf .shr .shr 318 (.tmp 32) (.const (.int .u64 4)) (.slot (.mk 32)) (.con (.int .u64 4))),
  .mk .no (.at (.mk 34)) (.mv (.slot (.mk 6))),
  .mk .no (.at (.mk 35)) (.bin .and .and 318 (.tmp 34) (.const (.int .u32 15)) (.slot (.mk 34)) (.con (.int .u32 15))),
  .mk .no (.at (.mk 36)) (.idxP 1 16 (.con (.ptr 3 0)) (.slot (.mk 35))),
  .mk .no (.at (.mk 37)) (.load1 (.slot (.mk 36))),
  .mk .no (.at (.mk 38)) (.bin .xor .xor 318 (.tmp 33) (.tmp 37) (.slot (.mk 33)) (.slot (.mk 37))),
  .mk .no (.at (.mk 6)) (.mv (.slot (.mk 38)))]
def k351_r10 : List KI := [.mk .no (.at (.mk 39)) (.bin .add .add 3 (.tmp 17) (.const (.int .i64 1)) (.slot (.mk 17)) (.con (.int .i64 1))),
  .mk .no (.at (.mk 17)) (.mv (.slot (.mk 39)))]
def k351_B0 : KCode := .seq (.region (ropsOf c351 5) k351_r5) (.seq (.cond (.slot (.mk 18)) (.skip) (.exit 0)) (.seq (.block 1 (.seq (.region (ropsOf c351 6) k351_r6) (.seq (.region (ropsOf c351 7) k351_r7) (.seq (.region (ropsOf c351 8) k351_r8) (.region (ropsOf c351 9) k351_r9))))) (.region (ropsOf c351 10) k351_r10)))
def k351_L0 : KCode := .loop (loopOf c351 0) k351_B0
def k351_r11 : List KI := [.mk .no (.at (.mk 40)) (.mv (.slot (.mk 6))),
  .mk .no (.at (.mk 41)) (.un .xor (.slot (.mk 40))),
  .mk .no (.at (.mk 42)) (.conv .i64 (.slot (.mk 41))),
  .mk .no (.at (.mk 4)) (.mv (.slot (.mk 42))),
  .mk .no (.at (.mk 5)) (.mv (.con (.int .i64 0)))]
def k351 : KCode := .seq (.region (ropsOf c351 0) k351_r0) (.seq (.seq (.region (ropsOf c351 1) k351_r1) (.cond (.slot (.mk 11)) (.seq (.region (ropsOf c351 2) k351_r2) (.ret)) (.skip))) (.seq (.region (ropsOf c351 3) k351_r3) (.seq (.seq (.region (ropsOf c351 4) k351_r4) (.block 0 (k351_L0))) (.seq (.region (ropsOf c351 11) k351_r11) (.ret)))))
end
theorem k351_eq : kcode env0 ⟨351, 43, false⟩ c351 = k351 := by kernel_rfl
theorem ft351 : getN env0.ft 351 = some (.body Tryz.f351) := by kernel_rfl
theorem body351 : Tryz.f351.body = some c351 := rfl
theorem nt351 : Tryz.f351.ntmps = 43 := rfl
theorem res351 : kres Tryz.f351.results.toList = some [.mk 4, .mk 5] := by kernel_rfl
theorem k351_L0_eq : kcode env0 ⟨351, 43, false⟩ (.loop (loopOf c351 0)) = k351_L0 := by kernel_rfl
/- coffret/sum.may -/
noncomputable section
noncomputable def c377 : Code := codeOf Tryz.f377
def k377_r0 : List KI := [.mk .no (.at (.mk 2)) (.mv (.con (.bool false)))]
def k377_r1 : List KI := [.mk .no (.at (.mk 3)) (.mv (.slot (.mk 0))),
  .mk .no (.at (.mk 4)) (.bin .geq .geq 3 (.tmp 3) (.const (.int .i64 0)) (.slot (.mk 3)) (.con (.int .i64 0))),
  .mk .no (.at (.mk 5)) (.mv (.slot (.mk 4))),
  .mk (.g (.mk 5) true) (.at (.mk 6)) (.mv (.slot (.mk 0))),
  .mk (.g (.mk 5) true) (.at (.mk 7)) (.bin .leq .leq 3 (.tmp 6) (.const (.int .i64 4294967295)) (.slot (.mk 6)) (.con (.int .i64 4294967295))),
  .mk .no (.at (.mk 8)) (.pick (.slot (.mk 5)) (.slot (.mk 7)) (.con (.bool false))),
  .mk .no (.at (.mk 2)) (.mv (.slot (.mk 8)))]
def k377 : KCode := .seq (.region (ropsOf c377 0) k377_r0) (.seq (.region (ropsOf c377 1) k377_r1) (.ret))
end
theorem k377_eq : kcode env0 ⟨377, 9, false⟩ c377 = k377 := by kernel_rfl
theorem ft377 : getN env0.ft 377 = some (.body Tryz.f377) := by kernel_rfl
theorem body377 : Tryz.f377.body = some c377 := rfl
theorem nt377 : Tryz.f377.ntmps = 9 := rfl
theorem res377 : kres Tryz.f377.results.toList = some [.mk 2] := by kernel_rfl
/- coffret/sum.Sum -/
noncomputable section
noncomputable def c300 : Code := codeOf Tryz.f300
def k300_r0 : List KI := [.mk .no (.at (.mk 2)) (.mv (.con (.int .i64 0)))]
def k300_r1 : List KI := [.mk .no (.at (.mk 6)) (.mv (.slot (.mk 0))),
  .mk .no (.at (.mk 7)) (.call 351 [(.con (.int .i64 0)), (.slot (.mk 6))]),
  .mk .no (.at (.mk 5)) (.mv (.slot (.mk 7))),
  .mk .no (.at (.mk 8)) (.ext 0 (.slot (.mk 5))),
  .mk .no (.at (.mk 9)) (.ext 1 (.slot (.mk 5))),
  .mk .no (.at (.mk 3)) (.mv (.slot (.mk 8))),
  .mk .no (.at (.mk 4)) (.mv (.slot (.mk 9)))]
def k300_r2 : List KI := [.mk .no (.at (.mk 10)) (.mv (.slot (.mk 3))),
  .mk .no (.at (.mk 2)) (.mv (.slot (.mk 10)))]
def k300 : KCode := .seq (.region (ropsOf c300 0) k300_r0) (.seq (.region (ropsOf c300 1) k300_r1) (.seq (.region (ropsOf c300 2) k300_r2) (.ret)))
end
theorem k300_eq : kcode env0 ⟨300, 11, false⟩ c300 = k300 := by kernel_rfl
theorem ft300 : getN env0.ft 300 = some (.body Tryz.f300) := by kernel_rfl
theorem body300 : Tryz.f300.body = some c300 := rfl
theorem nt300 : Tryz.f300.ntmps = 11 := rfl
theorem res300 : kres Tryz.f300.results.toList = some [.mk 2] := by kernel_rfl
/- coffret/sum.Read -/
noncomputable section
noncomputable def c241 : Code := codeOf Tryz.f241
def k241_r0 : List KI := [.mk .no (.at (.mk 6)) (.mv (.con (.int .i64 0))),
  .mk .no (.at (.mk 7)) (.mv (.con (.int .i64 0)))]
def k241_r1 : List KI := [.mk .no (.at (.mk 12)) (.mv (.slot (.mk 2))),
  .mk .no (.at (.mk 13)) (.bin .lss .lss 3 (.tmp 12) (.const (.int .i64 1)) (.slot (.mk 12)) (.con (.int .i64 1))),
  .mk .no (.at (.mk 14)) (.mv (.slot (.mk 13))),
  .mk (.g (.mk 14) false) (.at (.mk 15)) (.mv (.slot (.mk 2))),
  .mk (.g (.mk 14) false) (.at (.mk 16)) (.bin .gtr .gtr 3 (.tmp 15) (.const (.int .i64 8)) (.slot (.mk 15)) (.con (.int .i64 8))),
  .mk .no (.at (.mk 17)) (.pick (.slot (.mk 14)) (.con (.bool true)) (.slot (.mk 16))),
  .mk .no (.at (.mk 18)) (.mv (.slot (.mk 17))),
  .mk (.g (.mk 18) false) (.at (.mk 19)) (.mv (.slot (.mk 1))),
  .mk (.g (.mk 18) false) (.at (.mk 20)) (.bin .lss .lss 3 (.tmp 19) (.const (.int .i64 0)) (.slot (.mk 19)) (.con (.int .i64 0))),
  .mk .no (.at (.mk 21)) (.pick (.slot (.mk 18)) (.con (.bool true)) (.slot (.mk 20))),
  .mk .no (.at (.mk 22)) (.mv (.slot (.mk 21))),
  .mk (.g (.mk 22) false) (.at (.mk 23)) (.mv (.slot (.mk 1))),
  .mk (.g (.mk 22) false) (.at (.mk 24)) (.mv (.slot (.mk 0))),
  .mk (.g (.mk 22) false) (.at (.mk 25)) (.len (.slot (.mk 24))),
  .mk (.g (.mk 22) false) (.at (.mk 26)) (.bin .gtr .gtr 3 (.tmp 23) (.tmp 25) (.slot (.mk 23)) (.slot (.mk 25))),
  .mk .no (.at (.mk 27)) (.pick (.slot (.mk 22)) (.con (.bool true)) (.slot (.mk 26))),
  .mk .no (.at (.mk 11)) (.mv (.slot (.mk 27)))]
def k241_r2 : List KI := [.mk .no (.at (.mk 6)) (.mv (.con (.int .i64 0))),
  .mk .no (.at (.mk 7)) (.mv (.con (.int .i64 1)))]
def k241_r3 : List KI := [.mk .no (.at (.mk 29)) (.mv (.slot (.mk 0))),
  .mk .no (.at (.mk 30)) (.len (.slot (.mk 29))),
  .mk .no (.at (.mk 31)) (.mv (.slot (.mk 1))),
  .mk .no (.at (.mk 32)) (.bin .sub .sub 3 (.tmp 30) (.tmp 31) (.slot (.mk 30)) (.slot (.mk 31))),
  .mk .no (.at (.mk 33)) (.mv (.slot (.mk 2))),
  .mk .no (.at (.mk 34)) (.bin .lss .lss 3 (.tmp 32) (.tmp 33) (.slot (.mk 32)) (.slot (.mk 33))),
  .mk .no (.at (.mk 28)) (.mv (.slot (.mk 34)))]
def k241_r4 : List KI := [.mk .no (.at (.mk 6)) (.mv (.con (.int .i64 0))),
  .mk .no (.at (.mk 7)) (.mv (.con (.int .i64 110)))]
def k241_r5 : List KI := [.mk .no (.at (.mk 8)) (.mv (.con (.int .u64 0)))]
def k241_r6 : List KI := [.mk .no (.at (.mk 35)) (.mv (.slot (.mk 0))),
  .mk .no (.at (.mk 36)) (.mv (.slot (.mk 1))),
  .mk .no (.at (.mk 37)) (.mv (.slot (.mk 1))),
  .mk .no (.at (.mk 38)) (.mv (.slot (.mk 2))),
  .mk .no (.at (.mk 39)) (.bin .add .add 3 (.tmp 37) (.tmp 38) (.slot (.mk 37)) (.slot (.mk 38))),
  .mk .no (.at (.mk 40)) (.slc 1 (.slot (.mk 35)) (some (.slot (.mk 36))) (some (.slot (.mk 39)))),
  .mk .no (.at (.mk 41)) (.len (.slot (.mk 40))),
  .mk .no (.at (.mk 42)) (.mv (.con (.int .i64 0)))]
def k241_r7 : List KI := [.mk .no (.at (.mk 43)) (.bin .lss .lss 3 (.tmp 42) (.tmp 41) (.slot (.mk 42)) (.slot (.mk 41)))]
def k241_r8 : List KI := [.mk .no (.at (.mk 44)) (.mv (.slot (.mk 42))),
  .mk .no (.at (.mk 45)) (.idxA 1 (.slot (.mk 40)) (.slot (.mk 42))),
  .mk .no (.at (.mk 46)) (.load1 (.slot (.mk 45))),
  .mk .no (.at (.mk 9)) (.mv (.slot (.mk 44))),
  .mk .no (.at (.mk 10)) (.mv (.slot (.mk 46)))]
def k241_r9 : List KI := [.mk .no (.at (.mk 47)) (.mv (.slot (.mk 8))),
  .mk .no (.at (.mk 48)) (.mv (.slot (.mk 10))),
  .mk .no (.at (.mk 49)) (.conv .u64 (.slot (.mk 48))),
  .mk .no (.at (.mk 50)) (.mv (.slot (.mk 9))),
  .mk .no (.at (.mk 51)) (.bin .mul .mul 3 (.const (.int .i64 8)) (.tmp 50) (.con (.int .i64 8)) (.slot (.mk 50))),
  .mk .no (.at (.mk 52)) (.shf .shl .shl 320 (.tmp 49) (.tmp 51) (.slot (.mk 49)) (.slot (.mk 51))),
  .mk .no (.at (.mk 53)) (.bin .or .or 320 (.tmp 47) (.tmp 52) (.slot (.mk 47)) (.slot (.mk 52))),
  .mk .no (.at (.mk 8)) (.mv (.slot (.mk 53)))]
def k241_r10 : List KI := [.mk .no (.at (.mk 54)) (.bin .add .add 3 (.tmp 42) (.const (.int .i64 1)) (.slot (.mk 42)) (.con (.int .i64 1))),
  .mk .no (.at (.mk 42)) (.mv (.slot (.mk 54)))]
def k241_B0 : KCode := .seq (.region (ropsOf c241 7) k241_r7) (.seq (.cond (.slot (.mk 43)) (.skip) (.exit 1)) (.seq (.block 2 (.seq (.region (ropsOf c241 8) k241_r8) (.region (ropsOf c241 9) k241_r9))) (.region (ropsOf c241 10) k241_r10)))
def k241_L0 : KCode := .loop (loopOf c241 0) k241_B0
def k241_r11 : List KI := [.mk .no (.at (.mk 55)) (.mv (.slot (.mk 8))),
  .mk .no (.at (.mk 56)) (.bin .gtr .gtr 320 (.tmp 55) (.const (.int .u64 9223372036854775807)) (.slot (.mk 55)) (.con (.int .u64 9223372036854775807)))]
def k241_r12 : List KI := [.mk .no (.at (.mk 6)) (.mv (.con (.int .i64 0))),
  .mk .no (.at (.mk 7)) (.mv (.con (.int .i64 111)))]
def k241_r13 : List KI := [.mk .no (.at (.mk 57)) (.mv (.slot (.mk 8))),
  .mk .no (.at (.mk 58)) (.conv .i64 (.slot (.mk 57))),
  .mk .no (.at (.mk 6)) (.mv (.slot (.mk 58))),
  .mk .no (.at (.mk 7)) (.mv (.con (.int .i64 0)))]
def k241 : KCode := .seq (.region (ropsOf c241 0) k241_r0) (.seq (.block 0 (.seq (.region (ropsOf c241 1) k241_r1) (.cond (.slot (.mk 11)) (.seq (.region (ropsOf c241 2) k241_r2) (.ret)) (.seq (.region (ropsOf c241 3) k241_r3) (.cond (.slot (.mk 28)) (.seq (.region (ropsOf c241 4) k241_r4) (.ret)) (.skip)))))) (.seq (.region (ropsOf c241 5) k241_r5) (.seq (.seq (.region (ropsOf c241 6) k241_r6) (.block 1 (k241_L0))) (.seq (.seq (.region (ropsOf c241 11) k241_r11) (.cond (.slot (.mk 56)) (.seq (.region (ropsOf c241 12) k241_r12) (.ret)) (.skip))) (.seq (.region (ropsOf c241 13) k241_r13) (.ret))))))
end
theorem k241_eq : kcode env0 ⟨241, 59, false⟩ c241 = k241 := by kernel_rfl
theorem ft241 : getN env0.ft 241 = some (.body Tryz.f241) := by kernel_rfl
theorem body241 : Tryz.f241.body = some c241 := rfl
theorem nt241 : Tryz.f241.ntmps = 59 := rfl
theorem res241 : kres Tryz.f241.results.toList = some [.mk 6, .mk 7] := by kernel_rfl
theorem k241_L0_eq : kcode env0 ⟨241, 59, false⟩ (.loop (loopOf c241 0)) = k241_L0 := by kernel_rfl
/- coffret/page.read -/
noncomputable section
noncomputable def c352 : Code := codeOf Tryz.f352
def k352_r0 : List KI := [.mk .no (.at (.mk 6)) (.mv (.con (.int .i64 0)))]
def k352_r1 : List KI := [.mk .no (.at (.mk 10)) (.mv (.slot (.mk 0))),
  .mk .no (.at (.mk 11)) (.mv (.slot (.mk 1))),
  .mk .no (.at (.mk 12)) (.mv (.slot (.mk 2))),
  .mk .no (.at (.mk 13)) (.call 241 [(.slot (.mk 10)), (.slot (.mk 11)), (.slot (.mk 12))]),
  .mk .no (.at (.mk 9)) (.mv (.slot (.mk 13))),
  .mk .no (.at (.mk 14)) (.ext 0 (.slot (.mk 9))),
  .mk .no (.at (.mk 15)) (.ext 1 (.slot (.mk 9))),
  .mk .no (.at (.mk 7)) (.mv (.slot (.mk 14))),
  .mk .no (.at (.mk 8)) (.mv (.slot (.mk 15)))]
def k352_r2 : List KI := [.mk .no (.at (.mk 16)) (.mv (.slot (.mk 7))),
  .mk .no (.at (.mk 6)) (.mv (.slot (.mk 16)))]
def k352 : KCode := .seq (.region (ropsOf c352 0) k352_r0) (.seq (.region (ropsOf c352 1) k352_r1) (.seq (.region (ropsOf c352 2) k352_r2) (.ret)))
end
theorem k352_eq : kcode env0 ⟨352, 17, false⟩ c352 = k352 := by kernel_rfl
theorem ft352 : getN env0.ft 352 = some (.body Tryz.f352) := by kernel_rfl
theorem body352 : Tryz.f352.body = some c352 := rfl
theorem nt352 : Tryz.f352.ntmps = 17 := rfl
theorem res352 : kres Tryz.f352.results.toList = some [.mk 6] := by kernel_rfl
/- coffret/page.Open -/
noncomputable section
noncomputable def c301 : Code := codeOf Tryz.f301
def k301_r0 : List KI := [.mk .no (.at (.mk 4)) (.mv (.con (.int .i64 0))),
  .mk .no (.at (.mk 5)) (.mv (.con (.nilslice))),
  .mk .no (.at (.mk 6)) (.mv (.con (.int .i64 0)))]
def k301_r1 : List KI := [.mk .no (.at (.mk 13)) (.mv (.slot (.mk 0))),
  .mk .no (.at (.mk 14)) (.len (.slot (.mk 13))),
  .mk .no (.at (.mk 15)) (.bin .neq .neq 3 (.tmp 14) (.const (.int .i64 4096)) (.slot (.mk 14)) (.con (.int .i64 4096))),
  .mk .no (.at (.mk 12)) (.mv (.slot (.mk 15)))]
def k301_r2 : List KI := [.mk .no (.at (.mk 4)) (.mv (.con (.int .i64 0))),
  .mk .no (.at (.mk 5)) (.mv (.con (.nilslice))),
  .mk .no (.at (.mk 6)) (.mv (.con (.int .i64 122)))]
def k301_r3 : List KDI := [.pure none .no (.at (.mk 17)) (.mv (.slot (.mk 0))) (operOf c301 3 0),
  .pure none .no (.at (.mk 19)) (.mv (.slot (.mk 0))) (operOf c301 3 2),
  .pure (some 1) .no (.at (.mk 20)) (.slc 1 (.slot (.mk 19)) (some (.con (.int .i64 4))) none) (operOf c301 3 3),
  .eff false .no (.at (.mk 18)) (.call 352 [(.slot (.mk 17)), (.con (.int .i64 0)), (.con (.int .i64 4))]),
  .eff true .no (.at (.mk 21)) (.call 300 [(.slot (.mk 20))]),
  .pure (some 0) .no (.at (.mk 22)) (.bin .neq .neq 3 (.tmp 18) (.tmp 21) (.slot (.mk 18)) (.slot (.mk 21))) (operOf c301 3 5),
  .pure none .no (.at (.mk 16)) (.mv (.slot (.mk 22))) (operOf c301 3 6)]
def k301_r4 : List KI := [.mk .no (.at (.mk 4)) (.mv (.con (.int .i64 0))),
  .mk .no (.at (.mk 5)) (.mv (.con (.nilslice))),
  .mk .no (.at (.mk 6)) (.mv (.con (.int .i64 120)))]
def k301_r5 : List KI := [.mk .no (.at (.mk 24)) (.mv (.slot (.mk 0))),
  .mk .no (.at (.mk 25)) (.call 352 [(.slot (.mk 24)), (.con (.int .i64 4)), (.con (.int .i64 4))]),
  .mk .no (.at (.mk 26)) (.mv (.slot (.mk 1))),
  .mk .no (.at (.mk 27)) (.bin .neq .neq 3 (.tmp 25) (.tmp 26) (.slot (.mk 25)) (.slot (.mk 26))),
  .mk .no (.at (.mk 23)) (.mv (.slot (.mk 27)))]
def k301_r6 : List KI := [.mk .no (.at (.mk 4)) (.mv (.con (.int .i64 0))),
  .mk .no (.at (.mk 5)) (.mv (.con (.nilslice))),
  .mk .no (.at (.mk 6)) (.mv (.con (.int .i64 121)))]
def k301_r7 : List KDI := [.pure none .no (.at (.mk 28)) (.mv (.slot (.mk 0))) (operOf c301 7 0),
  .pure none .no (.at (.mk 29)) (.idxA 1 (.slot (.mk 28)) (.con (.int .i64 8))) (operOf c301 7 1),
  .pure (some 1) .no (.at (.mk 30)) (.load1 (.slot (.mk 29))) (operOf c301 7 2),
  .pure none .no (.at (.mk 31)) (.conv .i64 (.slot (.mk 30))) (operOf c301 7 3),
  .pure none .no (.at (.mk 32)) (.mv (.slot (.mk 0))) (operOf c301 7 4),
  .eff false .no (.at (.mk 33)) (.call 352 [(.slot (.mk 32)), (.con (.int .i64 9)), (.con (.int .i64 2))]),
  .pure none .no (.at (.mk 7)) (.mv (.slot (.mk 31))) (operOf c301 7 6),
  .pure none .no (.at (.mk 8)) (.mv (.slot (.mk 33))) (operOf c301 7 7)]
def k301_r8 : List KI := [.mk .no (.at (.mk 34)) (.mv (.slot (.mk 7))),
  .mk .no (.at (.mk 35)) (.bin .eql .eql 3 (.tmp 34) (.const (.int .i64 0)) (.slot (.mk 34)) (.con (.int .i64 0))),
  .mk .no (.at (.mk 36)) (.mv (.slot (.mk 35))),
  .mk (.g (.mk 36) false) (.at (.mk 37)) (.mv (.slot (.mk 8))),
  .mk (.g (.mk 36) false) (.at (.mk 38)) (.bin .gtr .gtr 3 (.tmp 37) (.const (.int .i64 4085)) (.slot (.mk 37)) (.con (.int .i64 4085))),
  .mk .no (.at (.mk 39)) (.pick (.slot (.mk 36)) (.con (.bool true)) (.slot (.mk 38)))]
def k301_r9 : List KI := [.mk .no (.at (.mk 4)) (.mv (.con (.int .i64 0))),
  .mk .no (.at (.mk 5)) (.mv (.con (.nilslice))),
  .mk .no (.at (.mk 6)) (.mv (.con (.int .i64 122)))]
def k301_r10 : List KI := [.mk .no (.at (.mk 40)) (.mv (.slot (.mk 0))),
  .mk .no (.at (.mk 41)) (.mv (.slot (.mk 8))),
  .mk .no (.at (.mk 42)) (.bin .add .add 3 (.const (.int .i64 11)) (.tmp 41) (.con (.int .i64 11)) (.slot (.mk 41))),
  .mk .no (.at (.mk 43)) (.slc 1 (.slot (.mk 40)) (some (.slot (.mk 42))) none),
  .mk .no (.at (.mk 44)) (.len (.slot (.mk 43))),
  .mk .no (.at (.mk 45)) (.mv (.con (.int .i64 0)))]
def k301_r11 : List KI := [.mk .no (.at (.mk 46)) (.bin .lss .lss 3 (.tmp 45) (.tmp 44) (.slot (.mk 45)) (.slot (.mk 44)))]
def k301_r12 : List KI := [.mk .no (.at (.mk 47)) (.idxA 1 (.slot (.mk 43)) (.slot (.mk 45))),
  .mk .no (.at (.mk 48)) (.load1 (.slot (.mk 47))),
  .mk .no (.at (.mk 10)) (.mv (.slot (.mk 48)))]
def k301_r13 : List KI := [.mk .no (.at (.mk 49)) (.mv (.slot (.mk 10))),
  .mk .no (.at (.mk 50)) (.bin .neq .neq 5 (.tmp 49) (.const (.int .u8 0)) (.slot (.mk 49)) (.con (.int .u8 0)))]
def k301_r14 : List KI := [.mk .no (.at (.mk 4)) (.mv (.con (.int .i64 0))),
  .mk .no (.at (.mk 5)) (.mv (.con (.nilslice))),
  .mk .no (.at (.mk 6)) (.mv (.con (.int .i64 122)))]
def k301_r15 : List KI := [.mk .no (.at (.mk 51)) (.bin .add .add 3 (.tmp 45) (.const (.int .i64 1)) (.slot (.mk 45)) (.con (.int .i64 1))),
  .mk .no (.at (.mk 45)) (.mv (.slot (.mk 51)))]
def k301_B0 : KCode := .seq (.region (ropsOf c301 11) k301_r11) (.seq (.cond (.slot (.mk 46)) (.skip) (.exit 1)) (.seq (.block 2 (.seq (.region (ropsOf c301 12) k301_r12) (.seq (.region (ropsOf c301 13) k301_r13) (.cond (.slot (.mk 50)) (.seq (.region (ropsOf c301 14) k301_r14) (.ret)) (.skip))))) (.region (ropsOf c301 15) k301_r15)))
def k301_L0 : KCode := .loop (loopOf c301 0) k301_B0
def k301_r16 : List KI := [.mk .no (.at (.mk 52)) (.mv (.slot (.mk 8))),
  .mk .no (.at (.mk 53)) (.mkSlice 5 1 1 [.int .u8 0] (.slot (.mk 52)) (.slot (.mk 52))),
  .mk .no (.at (.mk 11)) (.mv (.slot (.mk 53)))]
def k301_r17 : List KI := [.mk .no (.at (.mk 54)) (.mv (.slot (.mk 11))),
  .mk .no (.at (.mk 55)) (.mv (.slot (.mk 0))),
  .mk .no (.at (.mk 56)) (.slc 1 (.slot (.mk 55)) (some (.con (.int .i64 11))) none),
  .mk .no (.at (.mk 57)) (.copy 1 (.slot (.mk 54)) (.slot (.mk 56)))]
def k301_r18 : List KI := [.mk .no (.at (.mk 58)) (.mv (.slot (.mk 7))),
  .mk .no (.at (.mk 59)) (.mv (.slot (.mk 11))),
  .mk .no (.at (.mk 4)) (.mv (.slot (.mk 58))),
  .mk .no (.at (.mk 5)) (.mv (.slot (.mk 59))),
  .mk .no (.at (.mk 6)) (.mv (.con (.int .i64 0)))]
def k301 : KCode := .seq (.region (ropsOf c301 0) k301_r0) (.seq (.block 0 (.seq (.region (ropsOf c301 1) k301_r1) (.cond (.slot (.mk 12)) (.seq (.region (ropsOf c301 2) k301_r2) (.ret)) (.seq (.draw (ropsOf c301 3) k301_r3) (.cond (.slot (.mk 16)) (.seq (.region (ropsOf c301 4) k301_r4) (.ret)) (.seq (.region (ropsOf c301 5) k301_r5) (.cond (.slot (.mk 23)) (.seq (.region (ropsOf c301 6) k301_r6) (.ret)) (.skip)))))))) (.seq (.draw (ropsOf c301 7) k301_r7) (.seq (.seq (.region (ropsOf c301 8) k301_r8) (.cond (.slot (.mk 39)) (.seq (.region (ropsOf c301 9) k301_r9) (.ret)) (.skip))) (.seq (.seq (.region (ropsOf c301 10) k301_r10) (.block 1 (k301_L0))) (.seq (.region (ropsOf c301 16) k301_r16) (.seq (.region (ropsOf c301 17) k301_r17) (.seq (.region (ropsOf c301 18) k301_r18) (.ret))))))))
end
theorem k301_eq : kcode env0 ⟨301, 60, false⟩ c301 = k301 := by kernel_rfl
theorem ft301 : getN env0.ft 301 = some (.body Tryz.f301) := by kernel_rfl
theorem body301 : Tryz.f301.body = some c301 := rfl
theorem nt301 : Tryz.f301.ntmps = 60 := rfl
theorem res301 : kres Tryz.f301.results.toList = some [.mk 4, .mk 5, .mk 6] := by kernel_rfl
theorem k301_L0_eq : kcode env0 ⟨301, 60, false⟩ (.loop (loopOf c301 0)) = k301_L0 := by kernel_rfl
end Go.Proofs.YtamlmddkcghhlaaGreatDoor
namespace Go.Proofs.YtamlmddkcghhlaaGreatDoor
open Go Go.Ab

theorem wrap_u32 {n : Nat} (h : n ≤ 4294967295) : IntKind.u32.wrap (n : Int) = n := wrap_nat h
theorem wrap_i64 {n : Nat} (h : n ≤ 9223372036854775807) : IntKind.i64.wrap (n : Int) = n := wrap_nat h
theorem intBin_of {op : BinOp} {b : KB} (hb : KB.of op = some b) {k : IntKind} {x y : Nat} {v : AV} (hv : ∀ s, b.fn k s x y = some v) : intBin op k x y = some v := by
  have := intBinK_eq hb (k := k) (x := x) (y := y) rfl
  rw [← this]
  exact hv _
theorem ble_t {a b : Nat} (h : a ≤ b) : Nat.ble a b = true := by simpa using h
theorem bin_xor {x y : Nat} (h1 : x ≤ 4294967295) (h2 : y ≤ 4294967295) : intBin .xor .u32 x y = some (.int .u32 (Nat.xor x y : Nat)) := intBin_of (b := .xor) rfl fun s => by
  have h3 : Nat.xor x y < 2 ^ 32 := Nat.xor_lt_two_pow (n := 32) (by omega) (by omega)
  show nbIn Nat.xor .u32 s x y = _
  unfold nbIn condO fitO
  rw [ble_t (show x ≤ khi .u32 from h1), ble_t (show y ≤ khi .u32 from h2), ble_t (show Nat.xor x y ≤ khi .u32 by show _ ≤ 4294967295; omega)]
  rfl
theorem bin_and {x y : Nat} (h1 : x ≤ 4294967295) (h2 : y ≤ 4294967295) : intBin .and .u32 x y = some (.int .u32 (Nat.land x y : Nat)) := intBin_of (b := .and) rfl fun s => by
  have h3 : Nat.land x y < 2 ^ 32 := Nat.and_lt_two_pow (n := 32) x (by omega)
  show nbIn Nat.land .u32 s x y = _
  unfold nbIn condO fitO
  rw [ble_t (show x ≤ khi .u32 from h1), ble_t (show y ≤ khi .u32 from h2), ble_t (show Nat.land x y ≤ khi .u32 by show _ ≤ 4294967295; omega)]
  rfl
theorem shr4 {x : Nat} (h1 : x ≤ 4294967295) : intShift .shr .u32 x 4 = some (.int .u32 (Nat.shiftRight x 4 : Nat)) := by
  have := shr_eq (k := .u32) (x := x) (y := 4) rfl
  rw [← this]
  show nbShr .u32 _ x 4 = _
  unfold nbShr condO
  rw [ble_t (show (4 : Nat) ≤ 64 by decide), ble_t (show x ≤ khi .u32 from h1)]
  rfl

/- what it reckons -/
noncomputable section
def tabN (i : Nat) : Nat := Nat.land (Nat.shiftRight 9937593612760466100516450665319420528403982636753068485404800763335476026940182181175496972418787619281442302519629725716261212251300561153615832085954560 (Nat.mul 32 i)) 4294967295
def half (r : Nat) : Nat := Nat.xor (Nat.shiftRight r 4) (tabN (Nat.land r 15))
def crcB (r c : Nat) : Nat := half (half (Nat.xor r c))
def crcF (ih : Nat → Option Nat) (r : Nat) : Option Nat := Bool.rec (motive := fun _ => Option Nat) none (ih r) (Nat.ble r 4294967295)
def crcC (ih : Nat → Option Nat) (r c : Nat) : Option Nat := Bool.rec (motive := fun _ => Option Nat) none (crcF ih (crcB r c)) (Nat.ble c 255)
def crcI (ih : Nat → Option Nat) (r : Nat) (n : Int) : Option Nat := Int.rec (motive := fun _ => Option Nat) (crcC ih r) (fun _ => none) n
def crcA (a : AV) (_ : List AV) (ih : Nat → Option Nat) (r : Nat) : Option Nat :=
  AV.rec (motive_1 := fun _ => Option Nat) (motive_2 := fun _ => Unit) (fun _ => none) (fun _ n => crcI ih r n) (fun _ => none) none (fun _ _ => none) none (fun _ _ _ _ => none) none (fun _ => none) none (fun _ _ _ _ _ => none) (fun _ => none) none (fun _ _ _ => none) (fun _ _ => none) (fun _ _ => none) () (fun _ _ _ _ => ()) a
def crcS (r : Nat) : Option Nat := some r
def crcL (l : List AV) : Nat → Option Nat := List.rec (motive := fun _ => Nat → Option Nat) crcS crcA l
/-- Do the cells hold the table? -/
def tabI (ih : Nat → Bool) (i : Nat) (n : Int) : Bool := Int.rec (motive := fun _ => Bool) (fun c => Bool.rec (motive := fun _ => Bool) false (ih (Nat.succ i)) (Nat.beq c (tabN i))) (fun _ => false) n
def tabA (a : AV) (_ : List AV) (ih : Nat → Bool) (i : Nat) : Bool :=
  AV.rec (motive_1 := fun _ => Bool) (motive_2 := fun _ => Unit) (fun _ => false) (fun k n => Bool.rec (motive := fun _ => Bool) false (tabI ih i n) (kindEq k .u32)) (fun _ => false) false (fun _ _ => false) false (fun _ _ _ _ => false) false (fun _ => false) false (fun _ _ _ _ _ => false) (fun _ => false) false (fun _ _ _ => false) (fun _ _ => false) (fun _ _ => false) () (fun _ _ _ _ => ()) a
def tabL (l : List AV) : Nat → Bool := List.rec (motive := fun _ => Nat → Bool) (fun i => Nat.beq i 16) tabA l
end
theorem tab_at : ∀ {l : List AV} {i : Nat}, tabL l i = true → ∀ j, i + j < 16 → lget l j = some (.int .u32 (tabN (i + j) : Nat))
  | [], i, h, j, hj => by
    have : i = 16 := by
      have : Nat.beq i 16 = true := h
      simpa using this
    omega
  | a :: l, i, h, j, hj => by
    change tabA a l (tabL l) i = true at h
    cases a with
    | int k n =>
      change (Bool.rec (motive := fun _ => Bool) false (tabI (tabL l) i n) (kindEq k .u32) : Bool) = true at h
      cases hk : kindEq k .u32 with
      | false => rw [hk] at h; cases h
      | true =>
        rw [hk] at h
        have := kindEq_iff hk
        subst this
        cases n with
        | negSucc c => cases h
        | ofNat c =>
          change (Bool.rec (motive := fun _ => Bool) false (tabL l (i + 1)) (Nat.beq c (tabN i)) : Bool) = true at h
          cases hc : Nat.beq c (tabN i) with
          | false => rw [hc] at h; cases h
          | true =>
            rw [hc] at h
            have := Nat.eq_of_beq_eq_true hc
            subst this
            cases j with
            | zero => rfl
            | succ j =>
              show lget l j = _
              rw [tab_at h j (by omega), show i + 1 + j = i + (j + 1) by omega]
    | _ => cases h
def TabIn (h : H) : Prop := ∃ r, h.get 3 = some (.row r) ∧ tabL r.cells 0 = true
theorem crc_nil (r : Nat) : crcL [] r = some r := rfl
theorem crc_cons {a : AV} {l : List AV} {r R : Nat} (h : crcL (a :: l) r = some R) : ∃ k c, a = .int k (c : Nat) ∧ c ≤ 255 ∧ crcB r c ≤ 4294967295 ∧ crcL l (crcB r c) = some R := by
  change crcA a l (crcL l) r = some R at h
  cases a with
  | int k n =>
    cases n with
    | ofNat c =>
      change crcC (crcL l) r c = some R at h
      unfold crcC at h
      cases hc : Nat.ble c 255 with
      | false => rw [hc] at h; cases h
      | true =>
        rw [hc] at h
        change crcF (crcL l) (crcB r c) = some R at h
        unfold crcF at h
        cases hr : Nat.ble (crcB r c) 4294967295 with
        | false => rw [hr] at h; cases h
        | true => rw [hr] at h; exact ⟨k, c, rfl, by simpa using hc, by simpa using hr, h⟩
    | negSucc c => cases h
  | _ => cases h
theorem tab_le (i : Nat) : tabN i ≤ 4294967295 := by
  have : tabN i < 2 ^ 32 := Nat.and_lt_two_pow (n := 32) _ (by decide)
  omega
theorem half_le {r : Nat} (h : r ≤ 4294967295) : half r ≤ 4294967295 := by
  have h1 : Nat.shiftRight r 4 < 2 ^ 32 := by
    rw [show Nat.shiftRight r 4 = r / 2 ^ 4 from Nat.shiftRight_eq_div_pow r 4]; omega
  have h2 := tab_le (Nat.land r 15)
  have : half r < 2 ^ 32 := Nat.xor_lt_two_pow (n := 32) h1 (by omega)
  omega
/- how it runs -/
theorem more_loop {h : H} {b o n c : Nat} {rr : Row} (hb : h.get b = some (.row rr)) (hg : TabIn h) (hn : n ≤ 9223372036854775807) {defs : List ADef} {pan : Option AV} {rcd : Bool} {Q : Out → Prop} {R : Nat} :
    ∀ (vs : List AV) (N i r : Nat) (t : PT AV), vs.length ≤ N → (∀ j v, lget vs j = some v → lget rr.cells (o + (i + j)) = some v) → i + vs.length = n → crcL vs r = some R → r ≤ 4294967295 →
      (KP.mk 6).get t = some (.int .u32 (r : Nat)) → (KP.mk 15).get t = some (.slice b o n c) → (KP.mk 16).get t = some (.int .i64 (n : Nat)) → (KP.mk 17).get t = some (.int .i64 (i : Nat)) →
      (∀ t', (KP.mk 6).get t' = some (.int .u32 (R : Nat)) → Q (.ext 0 ⟨t', defs, pan, rcd⟩ h)) →
      (codeK k351_L0 ⟨env0, recK env0 N, ⟨351, 43, false⟩⟩ ⟨t, defs, pan, rcd⟩ h).all Q
  | [], N, i, r, t, _, hv, hi, hc, hr, h6, h15, h16, h17, hQ => by
    have hin : i = n := by simpa using hi
    subst hin
    rw [crc_nil] at hc
    injection hc with hc
    subst hc
    have hlt : ¬ ((i : Int) < (i : Int)) := by omega
    simp -implicitDefEqProofs only [k351_L0, k351_B0, k351_r5, h16, h17, hlt, go_sem, Nat.reduceAdd, Nat.reduceEqDiff, reduceCtorEq, ↓reduceIte, Nat.reduceLT, Nat.reduceMul, Nat.reduceSub, Nat.reduceLeDiff]
    exact hQ _ (by simp only [KP.get_at, Nat.reduceEqDiff, Nat.one_ne_zero, Nat.zero_ne_one, ↓reduceIte, if_true, if_false, reduceCtorEq]; exact h6)
  | a :: l, 0, i, r, t, hN, hv, hi, hc, hr, h6, h15, h16, h17, hQ => absurd hN (by simp)
  | a :: l, N + 1, i, r, t, hN, hv, hi, hc, hr, h6, h15, h16, h17, hQ => by
    obtain ⟨ka, x, rfl, hx, hcr, hc⟩ := crc_cons hc
    simp only [List.length_cons] at hi
    obtain ⟨tr, hg', htab⟩ := hg
    have hlt : ((i : Int) < (n : Int)) := by omega
    have hlt2 : i < n := by omega
    have hcell : lget rr.cells (o + i) = some (.int ka (x : Nat)) := hv 0 _ rfl
    have hw : IntKind.u32.wrap (x : Int) = (x : Nat) := wrap_u32 (by omega)
    have hx1 := bin_xor hr (show x ≤ 4294967295 by omega)
    have hy1 : Nat.xor r x ≤ 4294967295 := by
      have : Nat.xor r x < 2 ^ 32 := Nat.xor_lt_two_pow (n := 32) (by omega) (by omega)
      omega
    have step : ∀ {y : Nat}, y ≤ 4294967295 → intShift .shr .u32 (y : Int) 4 = some (.int .u32 (Nat.shiftRight y 4 : Nat)) ∧ intBin .and .u32 (y : Int) 15 = some (.int .u32 (Nat.land y 15 : Nat)) ∧ Nat.land y 15 < 16 ∧
        lget tr.cells (Nat.land y 15) = some (.int .u32 (tabN (Nat.land y 15) : Nat)) ∧
        intBin .xor .u32 (Nat.shiftRight y 4 : Nat) (tabN (Nat.land y 15) : Nat) = some (.int .u32 (half y : Nat)) := by
      intro y hy
      have h1 : Nat.land y 15 < 16 := Nat.lt_succ_of_le (Nat.and_le_right (n := y) (m := 15))
      have h2 : Nat.shiftRight y 4 < 2 ^ 32 := by
        rw [show Nat.shiftRight y 4 = y / 2 ^ 4 from Nat.shiftRight_eq_div_pow y 4]; omega
      refine ⟨shr4 hy, bin_and hy (by decide), h1, ?_, bin_xor (by omega) (tab_le _)⟩
      have := tab_at htab (Nat.land y 15) (by omega)
      rwa [Nat.zero_add] at this
    obtain ⟨a1, a2, a3, a5, a6⟩ := step hy1
    obtain ⟨b1, b2, b3, b5, b6⟩ := step (half_le hy1)
    have hadd : IntKind.i64.wrap ((i : Int) + 1) = ((i + 1 : Nat) : Int) := wrap_i64 (n := i + 1) (by omega)
    simp -implicitDefEqProofs only [k351_L0, k351_B0, k351_r5, k351_r6, k351_r7, k351_r8, k351_r9, k351_r10, h6, h15, h16, h17, hlt, hlt2, s_row hb, s_row hg', hcell, hw, hx1, a1, a2, a3, a5, a6, b1, b2, b3, b5, b6, hadd, go_sem, Nat.reduceAdd, Nat.reduceEqDiff, reduceCtorEq, ↓reduceIte, Nat.reduceLT, Nat.reduceMul, Nat.reduceSub, Nat.reduceLeDiff]
    rw [recK_code, k351_L0_eq]
    refine more_loop (o := o) (c := c) hb ⟨tr, hg', htab⟩ hn l N (i + 1) (crcB r x) _ (by simpa using hN) (fun j v hj => ?_) (by omega) hc hcr ?_ ?_ ?_ ?_ hQ
    · have := hv (j + 1) v hj
      rw [show i + 1 + j = i + (j + 1) by omega]; exact this
    · simp only [KP.get_at, Nat.reduceEqDiff, Nat.one_ne_zero, Nat.zero_ne_one, ↓reduceIte, if_true, if_false, reduceCtorEq]; rfl
    · simp only [KP.get_at, Nat.reduceEqDiff, Nat.one_ne_zero, Nat.zero_ne_one, ↓reduceIte, if_true, if_false, reduceCtorEq]; exact h15
    · simp only [KP.get_at, Nat.reduceEqDiff, Nat.one_ne_zero, Nat.zero_ne_one, ↓reduceIte, if_true, if_false, reduceCtorEq]; exact h16
    · simp only [KP.get_at, Nat.reduceEqDiff, Nat.one_ne_zero, Nat.zero_ne_one, ↓reduceIte, if_true, if_false, reduceCtorEq]

theorem may_run {N s : Nat} (hs : s ≤ 4294967295) {h : H} {Q : CR → Prop} (hQ : Q (.ok (.bool true) h false)) : ((recK env0 (N + 1)).call 377 [.int .i64 (s : Nat)] h none).all Q := by
  rw [recK_call]
  refine enter_rule ft377 body377 nt377 k377_eq rfl ?_
  have h1 : ((s : Int) ≥ 0) := by omega
  have h2 : ((s : Int) ≤ 4294967295) := by omega
  simp -implicitDefEqProofs only [k377, k377_r0, k377_r1, go_sem, Nat.reduceAdd, Nat.reduceEqDiff, reduceCtorEq, ↓reduceIte, Nat.reduceLT, Nat.reduceMul, Nat.reduceSub, Nat.reduceLeDiff, h1, h2]
  exact leave1_rule res377 (by simp only [KP.get_at, Nat.reduceEqDiff, Nat.one_ne_zero, Nat.zero_ne_one, ↓reduceIte, if_true, if_false, reduceCtorEq]) hQ

theorem more_run {s : Nat} (hs : s ≤ 4294967295) {h : H} {b o n c N : Nat} {rr : Row} {cs : List AV} {R : Nat} (hb : h.get b = some (.row rr)) (hg : TabIn h) (hn : n ≤ 9223372036854775807) (hcs : lpart o n rr.cells = some cs) (hR : crcL cs (Nat.sub 4294967295 s) = some R)
    (hR2 : R ≤ 4294967295) (hN : n ≤ N) {Q : CR → Prop} (hQ : Q (.ok (.tup [.int .i64 (Nat.sub 4294967295 R : Nat), .int .i64 0]) h false)) : ((recK env0 (N + 2)).call 351 [.int .i64 (s : Nat), .slice b o n c] h none).all Q := by
  rw [recK_call]
  refine enter_rule ft351 body351 nt351 k351_eq rfl ?_
  have hm : ∀ (k : KK) (t : PT AV) (d : KR), (k (.bool true) h).all (fun o => (enter2 env0 (recK env0 (N + 1)) Tryz.f351 o).all Q) → True := fun _ _ _ _ => trivial
  have hw1 : IntKind.u32.wrap (s : Int) = s := wrap_u32 hs
  have hx : ∀ {y : Nat}, y ≤ 4294967295 → intBin .xor .u32 (if IntKind.u32.signed then -1 else IntKind.u32.max) (y : Int) = some (.int .u32 (Nat.sub 4294967295 y : Nat)) := by
    intro y hy
    have := bin_xor (x := 4294967295) (y := y) (by decide) hy
    have e : Nat.xor 4294967295 y = Nat.sub 4294967295 y := by
      refine Nat.eq_of_testBit_eq fun i => ?_
      have h1 : (Nat.xor 4294967295 y).testBit i = ((2 ^ 32 - 1).testBit i ^^ y.testBit i) := Nat.testBit_xor ..
      have h2 : (Nat.sub 4294967295 y).testBit i = (2 ^ 32 - (y + 1)).testBit i := by
        congr 1
        show 4294967295 - y = 2 ^ 32 - (y + 1)
        omega
      rw [h1, h2, Nat.testBit_two_pow_sub_one, Nat.testBit_two_pow_sub_succ (by omega)]
      by_cases hi : i < 32
      · simp [hi]
      · have : y.testBit i = false := Nat.testBit_lt_two_pow (Nat.lt_of_lt_of_le (show y < 2 ^ 32 by omega) (Nat.pow_le_pow_right (by decide) (by omega)))
        simp [hi, this]
    rw [e] at this
    exact this
  simp -implicitDefEqProofs only [k351, k351_r0, k351_r1, k351_r2, k351_r3, k351_r4, k351_r11, go_sem, Nat.reduceAdd, Nat.reduceEqDiff, reduceCtorEq, ↓reduceIte, Nat.reduceLT, Nat.reduceMul, Nat.reduceSub, Nat.reduceLeDiff]
  refine bindK_all (bindK_all (bindK_all (may_run hs ?_)))
  have hx1 := hx hs
  simp -implicitDefEqProofs only [hw1, hx1, go_sem, Nat.reduceAdd, Nat.reduceEqDiff, reduceCtorEq, ↓reduceIte, Nat.reduceLT, Nat.reduceMul, Nat.reduceSub, Nat.reduceLeDiff]
  refine bindK_all (bindK_all ?_)
  refine more_loop (o := o) (c := c) hb hg hn cs (N + 1) 0 _ _ ?_ ?_ ?_ hR (Nat.sub_le _ _) ?_ ?_ ?_ ?_ ?_
  · have := (lpart_length _ _ _ _ hcs).1; omega
  · intro j v hj
    rw [lpart_eq] at hcs
    split at hcs
    · injection hcs with hcs
      subst hcs
      rw [lget_eq] at hj ⊢
      rw [List.getElem?_take] at hj
      split at hj
      · rw [List.getElem?_drop] at hj
        rw [Nat.zero_add]; exact hj
      · cases hj
    · cases hcs
  · have := (lpart_length _ _ _ _ hcs).1; omega
  · simp only [KP.get_at, Nat.reduceEqDiff, Nat.one_ne_zero, Nat.zero_ne_one, ↓reduceIte, if_true, if_false, reduceCtorEq]
  · simp only [KP.get_at, Nat.reduceEqDiff, Nat.one_ne_zero, Nat.zero_ne_one, ↓reduceIte, if_true, if_false, reduceCtorEq]
  · simp only [KP.get_at, Nat.reduceEqDiff, Nat.one_ne_zero, Nat.zero_ne_one, ↓reduceIte, if_true, if_false, reduceCtorEq]
  · simp only [KP.get_at, Nat.reduceEqDiff, Nat.one_ne_zero, Nat.zero_ne_one, ↓reduceIte, if_true, if_false, reduceCtorEq]; rfl
  · intro t' ht'
    have hR3 := hx hR2
    have hw2 : IntKind.i64.wrap ((Nat.sub 4294967295 R : Nat) : Int) = (Nat.sub 4294967295 R : Nat) := wrap_i64 (Nat.le_trans (Nat.sub_le _ _) (by decide))
    simp -implicitDefEqProofs only [ht', hR3, hw2, go_sem, Nat.reduceAdd, Nat.reduceEqDiff, reduceCtorEq, ↓reduceIte, Nat.reduceLT, Nat.reduceMul, Nat.reduceSub, Nat.reduceLeDiff]
    exact leave2_rule res351 (by simp only [KP.get_at, Nat.reduceEqDiff, Nat.one_ne_zero, Nat.zero_ne_one, ↓reduceIte, if_true, if_false, reduceCtorEq]) (by simp only [KP.get_at, Nat.reduceEqDiff, Nat.one_ne_zero, Nat.zero_ne_one, ↓reduceIte, if_true, if_false, reduceCtorEq]) hQ
end Go.Proofs.YtamlmddkcghhlaaGreatDoor
namespace Go.Proofs.YtamlmddkcghhlaaGreatDoor
open Go Go.Ab

theorem crc_le : ∀ {l : List AV} {r R : Nat}, crcL l r = some R → r ≤ 4294967295 → R ≤ 4294967295
  | [], r, R, h, hr => by rw [crc_nil] at h; injection h with h; omega
  | a :: l, r, R, h, hr => by
    obtain ⟨k, c, _, _, h2, h3⟩ := crc_cons h
    exact crc_le h3 h2

theorem sum_run {h : H} {b o n c N : Nat} {rr : Row} {cs : List AV} {R : Nat} (hb : h.get b = some (.row rr)) (hg : TabIn h) (hn : n ≤ 9223372036854775807) (hcs : lpart o n rr.cells = some cs) (hR : crcL cs 4294967295 = some R)
    (hN : n ≤ N) {Q : CR → Prop} (hQ : Q (.ok (.int .i64 (Nat.sub 4294967295 R : Nat)) h false)) : ((recK env0 (N + 3)).call 300 [.slice b o n c] h none).all Q := by
  rw [recK_call]
  refine enter_rule ft300 body300 nt300 k300_eq rfl ?_
  simp -implicitDefEqProofs only [k300, k300_r0, k300_r1, k300_r2, go_sem, Nat.reduceAdd, Nat.reduceEqDiff, reduceCtorEq, ↓reduceIte, Nat.reduceLT, Nat.reduceMul, Nat.reduceSub, Nat.reduceLeDiff]
  refine bindK_all (bindK_all (more_run (s := 0) (by decide) hb hg hn hcs hR (crc_le hR (by decide)) hN ?_))
  simp only [lget, go_sem, Nat.reduceAdd, Nat.reduceEqDiff, reduceCtorEq, ↓reduceIte, Nat.reduceLT, Nat.reduceMul, Nat.reduceSub, Nat.reduceLeDiff]
  exact leave1_rule res300 (by simp only [KP.get_at, Nat.reduceEqDiff, Nat.one_ne_zero, Nat.zero_ne_one, ↓reduceIte, if_true, if_false, reduceCtorEq]) hQ

/- numbers -/
noncomputable section
def numC (ih : Nat → Nat → Option Nat) (i acc c : Nat) : Option Nat := Bool.rec (motive := fun _ => Option Nat) none (ih (Nat.succ i) (Nat.lor acc (Nat.shiftLeft c (Nat.mul 8 i)))) (Nat.ble c 255)
def numI (ih : Nat → Nat → Option Nat) (i acc : Nat) (n : Int) : Option Nat := Int.rec (motive := fun _ => Option Nat) (numC ih i acc) (fun _ => none) n
def numA (a : AV) (_ : List AV) (ih : Nat → Nat → Option Nat) (i acc : Nat) : Option Nat :=
  AV.rec (motive_1 := fun _ => Option Nat) (motive_2 := fun _ => Unit) (fun _ => none) (fun _ n => numI ih i acc n) (fun _ => none) none (fun _ _ => none) none (fun _ _ _ _ => none) none (fun _ => none) none (fun _ _ _ _ _ => none) (fun _ => none) none (fun _ _ _ => none) (fun _ _ => none) (fun _ _ => none) () (fun _ _ _ _ => ()) a
def numL (l : List AV) : Nat → Nat → Option Nat := List.rec (motive := fun _ => Nat → Nat → Option Nat) (fun _ acc => some acc) numA l
end
theorem num_cons {a : AV} {l : List AV} {i acc R : Nat} (h : numL (a :: l) i acc = some R) : ∃ k c, a = .int k (c : Nat) ∧ c ≤ 255 ∧ numL l (i + 1) (Nat.lor acc (Nat.shiftLeft c (8 * i))) = some R := by
  change numA a l (numL l) i acc = some R at h
  cases a with
  | int k n =>
    cases n with
    | ofNat c =>
      change numC (numL l) i acc c = some R at h
      unfold numC at h
      cases hc : Nat.ble c 255 with
      | false => rw [hc] at h; cases h
      | true => rw [hc] at h; exact ⟨k, c, rfl, by simpa using hc, h⟩
    | negSucc c => cases h
  | _ => cases h
theorem num_step {c i acc : Nat} (hc : c ≤ 255) (hi : i ≤ 6) (ha : acc < 2 ^ (8 * i)) : Nat.shiftLeft c (8 * i) < 2 ^ (8 * (i + 1)) ∧ Nat.lor acc (Nat.shiftLeft c (8 * i)) < 2 ^ (8 * (i + 1)) := by
  have h1 : Nat.shiftLeft c (8 * i) < 2 ^ (8 * (i + 1)) := by
    rw [show Nat.shiftLeft c (8 * i) = c * 2 ^ (8 * i) from Nat.shiftLeft_eq c (8 * i), show 8 * (i + 1) = 8 + 8 * i by omega, Nat.pow_add]
    exact Nat.mul_lt_mul_of_pos_right (by omega) (Nat.two_pow_pos _)
  exact ⟨h1, Nat.or_lt_two_pow (Nat.lt_of_lt_of_le ha (Nat.pow_le_pow_right (by decide) (by omega))) h1⟩
theorem pow8 {i : Nat} (h : i ≤ 7) : 2 ^ (8 * i) ≤ 72057594037927936 := Nat.pow_le_pow_right (n := 2) (by decide) (show 8 * i ≤ 56 by omega)
theorem num_le : ∀ {l : List AV} {i acc R : Nat}, numL l i acc = some R → i + l.length ≤ 7 → acc < 2 ^ (8 * i) → R < 72057594037927936
  | [], i, acc, R, h, hi, ha => by
    have : acc = R := by injection h
    subst this
    exact Nat.lt_of_lt_of_le ha (pow8 (by simpa using hi))
  | a :: l, i, acc, R, h, hi, ha => by
    simp only [List.length_cons] at hi
    obtain ⟨k, c, _, hc, h2⟩ := num_cons h
    exact num_le h2 (by omega) (num_step hc (by omega) ha).2
theorem bin_or64 {x y : Nat} (h1 : x < 72057594037927936) (h2 : y < 72057594037927936) : intBin .or .u64 x y = some (.int .u64 (Nat.lor x y : Nat)) := intBin_of (b := .or) rfl fun s => by
  have h3 : Nat.lor x y < 2 ^ 56 := Nat.or_lt_two_pow (n := 56) (by omega) (by omega)
  show nbIn Nat.lor .u64 s x y = _
  unfold nbIn condO fitO
  rw [ble_t (show x ≤ khi .u64 by show _ ≤ 18446744073709551615; omega), ble_t (show y ≤ khi .u64 by show _ ≤ 18446744073709551615; omega), ble_t (show Nat.lor x y ≤ khi .u64 by show _ ≤ 18446744073709551615; omega)]
  rfl
theorem shl_u64 {x i : Nat} (hi : i ≤ 7) (h : Nat.shiftLeft x (8 * i) < 72057594037927936) : intShift .shl .u64 x (8 * i : Nat) = some (.int .u64 (Nat.shiftLeft x (8 * i) : Nat)) := by
  have := shl_eq (k := .u64) (x := x) (y := (8 * i : Nat)) rfl
  rw [← this]
  show nbShl .u64 _ x (8 * i) = _
  unfold nbShl condO fitO
  rw [ble_t (show 8 * i ≤ 64 by omega), ble_t (show Nat.shiftLeft x (8 * i) ≤ khi .u64 by show _ ≤ 18446744073709551615; omega)]
  rfl

theorem read_loop {h : H} {b o n c : Nat} {rr : Row} (hb : h.get b = some (.row rr)) (hn : n ≤ 7) {defs : List ADef} {pan : Option AV} {rcd : Bool} {Q : Out → Prop} {R : Nat} :
    ∀ (vs : List AV) (N i acc : Nat) (t : PT AV), vs.length ≤ N → (∀ j v, lget vs j = some v → lget rr.cells (o + (i + j)) = some v) → i + vs.length = n → numL vs i acc = some R → acc < 2 ^ (8 * i) →
      (KP.mk 8).get t = some (.int .u64 (acc : Nat)) → (KP.mk 40).get t = some (.slice b o n c) → (KP.mk 41).get t = some (.int .i64 (n : Nat)) → (KP.mk 42).get t = some (.int .i64 (i : Nat)) →
      (∀ t', (KP.mk 8).get t' = some (.int .u64 (R : Nat)) → Q (.ext 1 ⟨t', defs, pan, rcd⟩ h)) →
      (codeK k241_L0 ⟨env0, recK env0 N, ⟨241, 59, false⟩⟩ ⟨t, defs, pan, rcd⟩ h).all Q
  | [], N, i, acc, t, _, hv, hi, hc, hr, h8, h40, h41, h42, hQ => by
    have hin : i = n := by simpa using hi
    subst hin
    have hc : acc = R := by injection hc
    subst hc
    have hlt : ¬ ((i : Int) < (i : Int)) := by omega
    simp -implicitDefEqProofs only [k241_L0, k241_B0, k241_r7, h41, h42, hlt, go_sem, Nat.reduceAdd, Nat.reduceEqDiff, reduceCtorEq, ↓reduceIte, Nat.reduceLT, Nat.reduceMul, Nat.reduceSub, Nat.reduceLeDiff]
    exact hQ _ (by simp only [KP.get_at, Nat.reduceEqDiff, Nat.one_ne_zero, Nat.zero_ne_one, ↓reduceIte, if_true, if_false, reduceCtorEq]; exact h8)
  | a :: l, 0, i, r, t, hN, hv, hi, hc, hr, h8, h40, h41, h42, hQ => absurd hN (by simp)
  | a :: l, N + 1, i, acc, t, hN, hv, hi, hc, hr, h8, h40, h41, h42, hQ => by
    obtain ⟨ka, x, rfl, hx, hc⟩ := num_cons hc
    simp only [List.length_cons] at hi
    have hlt : ((i : Int) < (n : Int)) := by omega
    have hlt2 : i < n := by omega
    have hcell : lget rr.cells (o + i) = some (.int ka (x : Nat)) := hv 0 _ rfl
    have hw : IntKind.u64.wrap (x : Int) = (x : Nat) := wrap_nat (k := .u64) (show x ≤ 18446744073709551615 by omega)
    have hm : IntKind.i64.wrap (8 * (i : Int)) = ((8 * i : Nat) : Int) := wrap_i64 (n := 8 * i) (by omega)
    obtain ⟨g1, g2⟩ := num_step (c := x) (i := i) (acc := acc) hx (by omega) hr
    have hp := pow8 (i := i + 1) (by omega)
    have hp0 := pow8 (i := i) (by omega)
    have hs := shl_u64 (x := x) (i := i) (by omega) (by omega)
    have ho := bin_or64 (x := acc) (y := Nat.shiftLeft x (8 * i)) (by omega) (by omega)
    have hadd : IntKind.i64.wrap ((i : Int) + 1) = ((i + 1 : Nat) : Int) := wrap_i64 (n := i + 1) (by omega)
    simp -implicitDefEqProofs only [k241_L0, k241_B0, k241_r7, k241_r8, k241_r9, k241_r10, h8, h40, h41, h42, hlt, hlt2, s_row hb, hcell, hw, hm, hs, ho, hadd, go_sem, Nat.reduceAdd, Nat.reduceEqDiff, reduceCtorEq, ↓reduceIte, Nat.reduceLT, Nat.reduceMul, Nat.reduceSub, Nat.reduceLeDiff]
    rw [recK_code, k241_L0_eq]
    refine read_loop (o := o) (c := c) hb hn l N (i + 1) (Nat.lor acc (Nat.shiftLeft x (8 * i))) _ (by simpa using hN) (fun j v hj => ?_) (by omega) hc g2 ?_ ?_ ?_ ?_ hQ
    · have := hv (j + 1) v hj
      rw [show i + 1 + j = i + (j + 1) by omega]; exact this
    · simp only [KP.get_at, Nat.reduceEqDiff, Nat.one_ne_zero, Nat.zero_ne_one, ↓reduceIte, if_true, if_false, reduceCtorEq]
    · simp only [KP.get_at, Nat.reduceEqDiff, Nat.one_ne_zero, Nat.zero_ne_one, ↓reduceIte, if_true, if_false, reduceCtorEq]; exact h40
    · simp only [KP.get_at, Nat.reduceEqDiff, Nat.one_ne_zero, Nat.zero_ne_one, ↓reduceIte, if_true, if_false, reduceCtorEq]; exact h41
    · simp only [KP.get_at, Nat.reduceEqDiff, Nat.one_ne_zero, Nat.zero_ne_one, ↓reduceIte, if_true, if_false, reduceCtorEq]

theorem lpart_get {α : Type} {o n : Nat} {l vs : List α} (h : lpart o n l = some vs) : ∀ j v, lget vs j = some v → lget l (o + j) = some v := by
  intro j v hj
  rw [lpart_eq] at h
  split at h
  · injection h with h
    subst h
    rw [lget_eq] at hj ⊢
    rw [List.getElem?_take] at hj
    split at hj
    · rwa [List.getElem?_drop] at hj
    · cases hj
  · cases h

theorem read_run {h : H} {b o n c N at' size : Nat} {rr : Row} {cs : List AV} {R : Nat} (hb : h.get b = some (.row rr)) (he : rr.es = 1) (hn : n ≤ 4294967295) (h1 : 1 ≤ size) (h7 : size ≤ 7) (hat : at' + size ≤ n) (hc : n ≤ c)
    (hcs : lpart (o + at') size rr.cells = some cs) (hR : numL cs 0 0 = some R) {Q : CR → Prop} (hQ : Q (.ok (.tup [.int .i64 (R : Nat), .int .i64 0]) h false)) :
    ((recK env0 (N + 9)).call 241 [.slice b o n c, .int .i64 (at' : Nat), .int .i64 (size : Nat)] h none).all Q := by
  rw [recK_call]
  refine enter_rule ft241 body241 nt241 k241_eq rfl ?_
  have hl := (lpart_length _ _ _ _ hcs).1
  have a1 : ¬ ((size : Int) < 1) := by omega
  have a2 : ¬ ((size : Int) > 8) := by omega
  have a3 : ¬ ((at' : Int) < 0) := by omega
  have a4 : ¬ ((at' : Int) > n) := by omega
  have a5 : IntKind.i64.wrap ((n : Int) - at') = ((n - at' : Nat) : Int) := by
    rw [show ((n : Int) - at') = ((n - at' : Nat) : Int) by omega]; exact wrap_i64 (by omega)
  have a6 : ¬ (((n - at' : Nat) : Int) < size) := by omega
  have a7 : IntKind.i64.wrap ((at' : Int) + size) = ((at' + size : Nat) : Int) := wrap_i64 (n := at' + size) (by omega)
  have a8 := fun (k : KK) => s_slcd' h k 1 b o c at' (at' + size) hb he (by omega) (by omega) (by omega)
  have a9 : at' + size - at' = size := by omega
  simp -implicitDefEqProofs only [k241, k241_r0, k241_r1, k241_r2, k241_r3, k241_r4, k241_r5, k241_r6, a1, a2, a3, a4, a5, a6, a7, a8, a9, go_sem, Nat.reduceAdd, Nat.reduceEqDiff, reduceCtorEq, ↓reduceIte, Nat.reduceLT, Nat.reduceMul, Nat.reduceSub, Nat.reduceLeDiff]
  refine bindK_all (bindK_all ?_)
  refine read_loop (o := o + at') (c := c - at') hb h7 cs (N + 8) 0 0 _ ?_ ?_ ?_ hR (by decide) ?_ ?_ ?_ ?_ ?_
  · omega
  · intro j v hj
    rw [Nat.zero_add]
    exact lpart_get hcs j v hj
  · omega
  · simp -implicitDefEqProofs only [KP.get_at, Nat.reduceEqDiff, Nat.one_ne_zero, Nat.zero_ne_one, ↓reduceIte, if_true, if_false, reduceCtorEq]; rfl
  · simp -implicitDefEqProofs only [KP.get_at, Nat.reduceEqDiff, Nat.one_ne_zero, Nat.zero_ne_one, ↓reduceIte, if_true, if_false, reduceCtorEq]
  · simp -implicitDefEqProofs only [KP.get_at, Nat.reduceEqDiff, Nat.one_ne_zero, Nat.zero_ne_one, ↓reduceIte, if_true, if_false, reduceCtorEq]
  · simp -implicitDefEqProofs only [KP.get_at, Nat.reduceEqDiff, Nat.one_ne_zero, Nat.zero_ne_one, ↓reduceIte, if_true, if_false, reduceCtorEq]; rfl
  · intro t' ht'
    have hle := num_le hR (by omega) (by decide)
    have b1 : ¬ ((R : Int) > 9223372036854775807) := by omega
    have b2 : IntKind.i64.wrap (R : Int) = (R : Nat) := wrap_i64 (by omega)
    simp -implicitDefEqProofs only [k241_r11, k241_r12, k241_r13, ht', b1, b2, go_sem, Nat.reduceAdd, Nat.reduceEqDiff, reduceCtorEq, ↓reduceIte, Nat.reduceLT, Nat.reduceMul, Nat.reduceSub, Nat.reduceLeDiff]
    exact leave2_rule res241 (by simp only [KP.get_at, Nat.reduceEqDiff, Nat.one_ne_zero, Nat.zero_ne_one, ↓reduceIte, if_true, if_false, reduceCtorEq]) (by simp only [KP.get_at, Nat.reduceEqDiff, Nat.one_ne_zero, Nat.zero_ne_one, ↓reduceIte, if_true, if_false, reduceCtorEq]) hQ

theorem pread_run {h : H} {b o n c N at' size : Nat} {rr : Row} {cs : List AV} {R : Nat} (hb : h.get b = some (.row rr)) (he : rr.es = 1) (hn : n ≤ 4294967295) (h1 : 1 ≤ size) (h7 : size ≤ 7) (hat : at' + size ≤ n) (hc : n ≤ c)
    (hcs : lpart (o + at') size rr.cells = some cs) (hR : numL cs 0 0 = some R) {Q : CR → Prop} (hQ : Q (.ok (.int .i64 (R : Nat)) h false)) :
    ((recK env0 (N + 10)).call 352 [.slice b o n c, .int .i64 (at' : Nat), .int .i64 (size : Nat)] h none).all Q := by
  rw [recK_call]
  refine enter_rule ft352 body352 nt352 k352_eq rfl ?_
  simp -implicitDefEqProofs only [k352, k352_r0, k352_r1, k352_r2, go_sem, Nat.reduceAdd, Nat.reduceEqDiff, reduceCtorEq, ↓reduceIte, Nat.reduceLT, Nat.reduceMul, Nat.reduceSub, Nat.reduceLeDiff]
  refine bindK_all (bindK_all (read_run (N := N) hb he hn h1 h7 hat hc hcs hR ?_))
  simp -implicitDefEqProofs only [lget, go_sem, Nat.reduceAdd, Nat.reduceEqDiff, reduceCtorEq, ↓reduceIte, Nat.reduceLT, Nat.reduceMul, Nat.reduceSub, Nat.reduceLeDiff]
  exact leave1_rule res352 (by simp only [KP.get_at, Nat.reduceEqDiff, Nat.one_ne_zero, Nat.zero_ne_one, ↓reduceIte, if_true, if_false, reduceCtorEq]) hQ

/-- Zero bytes. -/
def isZ (v : AV) : Prop := v = .int .u8 (0 : Nat)
theorem scan_loop {h : H} {b o n c : Nat} {rr : Row} (hb : h.get b = some (.row rr)) (hn : n ≤ 4294967295) {defs : List ADef} {pan : Option AV} {rcd : Bool} {Q : Out → Prop} {t0 : PT AV} :
    ∀ (vs : List AV) (N i : Nat) (t : PT AV), vs.length ≤ N → (∀ j v, lget vs j = some v → lget rr.cells (o + (i + j)) = some v) → i + vs.length = n → (∀ v ∈ vs, isZ v) →
      (KP.mk 43).get t = some (.slice b o n c) → (KP.mk 44).get t = some (.int .i64 (n : Nat)) → (KP.mk 45).get t = some (.int .i64 (i : Nat)) → (KP.mk 0).get t = (KP.mk 0).get t0 → (KP.mk 7).get t = (KP.mk 7).get t0 → (KP.mk 8).get t = (KP.mk 8).get t0 →
      (∀ t', (KP.mk 0).get t' = (KP.mk 0).get t0 → (KP.mk 7).get t' = (KP.mk 7).get t0 → (KP.mk 8).get t' = (KP.mk 8).get t0 → Q (.ext 1 ⟨t', defs, pan, rcd⟩ h)) →
      (codeK k301_L0 ⟨env0, recK env0 N, ⟨301, 60, false⟩⟩ ⟨t, defs, pan, rcd⟩ h).all Q
  | [], N, i, t, _, hv, hi, hz, h43, h44, h45, g0, g7, g8, hQ => by
    have hin : i = n := by simpa using hi
    subst hin
    have hlt : ¬ ((i : Int) < (i : Int)) := by omega
    simp -implicitDefEqProofs only [k301_L0, k301_B0, k301_r11, h44, h45, hlt, go_sem, Nat.reduceAdd, Nat.reduceEqDiff, reduceCtorEq, ↓reduceIte, Nat.reduceLT, Nat.reduceMul, Nat.reduceSub, Nat.reduceLeDiff]
    exact hQ _ (by simp only [KP.get_at, Nat.reduceEqDiff, Nat.one_ne_zero, Nat.zero_ne_one, ↓reduceIte, if_true, if_false, reduceCtorEq]; exact g0) (by simp only [KP.get_at, Nat.reduceEqDiff, Nat.one_ne_zero, Nat.zero_ne_one, ↓reduceIte, if_true, if_false, reduceCtorEq]; exact g7) (by simp only [KP.get_at, Nat.reduceEqDiff, Nat.one_ne_zero, Nat.zero_ne_one, ↓reduceIte, if_true, if_false, reduceCtorEq]; exact g8)
  | a :: l, 0, i, t, hN, hv, hi, hz, h43, h44, h45, g0, g7, g8, hQ => absurd hN (by simp)
  | a :: l, N + 1, i, t, hN, hv, hi, hz, h43, h44, h45, g0, g7, g8, hQ => by
    have ha : a = .int .u8 ((0 : Nat) : Int) := hz a (by simp)
    subst ha
    simp only [List.length_cons] at hi
    have hlt : ((i : Int) < (n : Int)) := by omega
    have hlt2 : i < n := by omega
    have hcell : lget rr.cells (o + i) = some (.int .u8 0) := hv 0 _ rfl
    have hadd : IntKind.i64.wrap ((i : Int) + 1) = ((i + 1 : Nat) : Int) := wrap_i64 (n := i + 1) (by omega)
    simp -implicitDefEqProofs only [k301_L0, k301_B0, k301_r11, k301_r12, k301_r13, k301_r14, k301_r15, h43, h44, h45, hlt, hlt2, s_row hb, hcell, hadd, go_sem, Nat.reduceAdd, Nat.reduceEqDiff, reduceCtorEq, ↓reduceIte, Nat.reduceLT, Nat.reduceMul, Nat.reduceSub, Nat.reduceLeDiff]
    rw [recK_code, k301_L0_eq]
    refine scan_loop (o := o) (c := c) (t0 := t0) hb hn l N (i + 1) _ (by simpa using hN) (fun j v hj => ?_) (by omega) (fun v hv => hz v (by simp [hv])) ?_ ?_ ?_ ?_ ?_ ?_ hQ
    · have := hv (j + 1) v hj
      rw [show i + 1 + j = i + (j + 1) by omega]; exact this
    · simp only [KP.get_at, Nat.reduceEqDiff, Nat.one_ne_zero, Nat.zero_ne_one, ↓reduceIte, if_true, if_false, reduceCtorEq]; exact h43
    · simp only [KP.get_at, Nat.reduceEqDiff, Nat.one_ne_zero, Nat.zero_ne_one, ↓reduceIte, if_true, if_false, reduceCtorEq]; exact h44
    · simp only [KP.get_at, Nat.reduceEqDiff, Nat.one_ne_zero, Nat.zero_ne_one, ↓reduceIte, if_true, if_false, reduceCtorEq]
    · simp only [KP.get_at, Nat.reduceEqDiff, Nat.one_ne_zero, Nat.zero_ne_one, ↓reduceIte, if_true, if_false, reduceCtorEq]; exact g0
    · simp only [KP.get_at, Nat.reduceEqDiff, Nat.one_ne_zero, Nat.zero_ne_one, ↓reduceIte, if_true, if_false, reduceCtorEq]; exact g7
    · simp only [KP.get_at, Nat.reduceEqDiff, Nat.one_ne_zero, Nat.zero_ne_one, ↓reduceIte, if_true, if_false, reduceCtorEq]; exact g8
end Go.Proofs.YtamlmddkcghhlaaGreatDoor
namespace Go.Proofs.YtamlmddkcghhlaaGreatDoor
open Go Go.Ab

theorem crc_one : ∀ {l : List AV} {r R : Nat}, crcL l r = some R → allOne l = true
  | [], r, R, _ => rfl
  | a :: l, r, R, h => by
    obtain ⟨k, c, rfl, _, _, h3⟩ := crc_cons h
    have := crc_one h3
    show (Bool.rec (motive := fun _ => Bool) false (allOne l) true : Bool) = true
    exact this

theorem n4096 : ((4096 : Nat) : Int) = 4096 := rfl
theorem open_err {h : H} {b o c N num : Nat} {rr : Row} {c0 cs : List AV} {s R : Nat} (hb : h.get b = some (.row rr)) (he : rr.es = 1) (hg : TabIn h) (hc : 4096 ≤ c)
    (h0 : lpart o 4 rr.cells = some c0) (hs : numL c0 0 0 = some s) (h4 : lpart (o + 4) 4092 rr.cells = some cs) (hR : crcL cs 4294967295 = some R) (hne : s ≠ Nat.sub 4294967295 R) (hN : 4092 ≤ N)
    {Q : CR → Prop} (hQ : Q (.ok (.tup [.int .i64 0, .nilslice, .int .i64 120]) h false)) :
    ((recK env0 (N + 12)).call 301 [.slice b o 4096 c, .int .i64 (num : Nat)] h none).all Q := by
  rw [recK_call]
  refine enter_rule ft301 body301 nt301 k301_eq rfl ?_
  have a8 := fun (k : KK) => s_slcd' h k 1 b o c 4 4096 hb he (by omega) (by omega) (by omega)
  simp -implicitDefEqProofs only [k301, k301_r0, k301_r1, k301_r2, k301_r3, k301_r4, a8, n4096, Nat.reduceSub, Nat.reduceMul, go_sem, Nat.reduceAdd, Nat.reduceEqDiff, reduceCtorEq, ↓reduceIte, Nat.reduceLT, Nat.reduceMul, Nat.reduceSub, Nat.reduceLeDiff]
  repeat with_reducible refine bindK_all ?_
  refine pread_run (at' := 0) (size := 4) (N := N + 1) (cs := c0) hb he (by decide) (by decide) (by decide) (by decide) hc h0 hs ?_
  simp -implicitDefEqProofs only [a8, Nat.reduceSub, Nat.reduceMul, go_sem, Nat.reduceAdd, Nat.reduceEqDiff, reduceCtorEq, ↓reduceIte, Nat.reduceLT, Nat.reduceMul, Nat.reduceSub, Nat.reduceLeDiff]
  repeat with_reducible refine bindK_all ?_
  refine sum_run (N := N + 8) hb hg (by decide) h4 hR (by omega) ?_
  have hne' : ¬ ((s : Int) = (Nat.sub 4294967295 R : Nat)) := by omega
  simp -implicitDefEqProofs only [a8, hne', Nat.reduceSub, Nat.reduceMul, go_sem, Nat.reduceAdd, Nat.reduceEqDiff, reduceCtorEq, ↓reduceIte, Nat.reduceLT, Nat.reduceMul, Nat.reduceSub, Nat.reduceLeDiff]
  exact leave3_rule res301 (by simp only [KP.get_at, Nat.reduceEqDiff, Nat.one_ne_zero, Nat.zero_ne_one, ↓reduceIte, if_true, if_false, reduceCtorEq]) (by simp only [KP.get_at, Nat.reduceEqDiff, Nat.one_ne_zero, Nat.zero_ne_one, ↓reduceIte, if_true, if_false, reduceCtorEq]) (by simp only [KP.get_at, Nat.reduceEqDiff, Nat.one_ne_zero, Nat.zero_ne_one, ↓reduceIte, if_true, if_false, reduceCtorEq]) hQ

theorem open_ok {h : H} {b o c N num : Nat} {rr : Row} {cs : List AV} {s R kind len : Nat} (hb : h.get b = some (.row rr)) (he : rr.es = 1) (hg : TabIn h) (hb2 : b ≠ h.sz) (hc : 4096 ≤ c)
    (hcs : lpart o 4096 rr.cells = some cs) (hs : numL (cs.take 4) 0 0 = some s) (hR : crcL (cs.drop 4) 4294967295 = some R) (hsR : s = Nat.sub 4294967295 R)
    (hnum : numL ((cs.drop 4).take 4) 0 0 = some num) (hkind : numL ((cs.drop 8).take 1) 0 0 = some kind) (hk1 : 1 ≤ kind) (hlen : numL ((cs.drop 9).take 2) 0 0 = some len) (hl : len ≤ 4084)
    (hz : ∀ v ∈ cs.drop (11 + len), isZ v) (hN : 4092 ≤ N)
    {Q : CR → Prop} (hQ : Q (.ok (.tup [.int .i64 (kind : Nat), .slice h.sz 0 len len, .int .i64 0]) (h.new (.row ⟨(cs.drop 11).take len, len, 5, false, 1, true, false⟩)) false)) :
    ((recK env0 (N + 12)).call 301 [.slice b o 4096 c, .int .i64 (num : Nat)] h none).all Q := by
  have hcl := (lpart_length _ _ _ _ hcs).1
  have sub := fun (a m : Nat) (hm : a + m ≤ 4096) => lpart_sub (a := a) (m := m) hcs hm
  have h0 : lpart o 4 rr.cells = some (cs.take 4) := sub 0 4 (by decide)
  have h4 : lpart (o + 4) 4092 rr.cells = some (cs.drop 4) := by
    rw [sub 4 4092 (by decide), List.take_of_length_le (by simp; omega)]
  have h11 : lpart (o + 11) 4085 rr.cells = some (cs.drop 11) := by
    rw [sub 11 4085 (by decide), List.take_of_length_le (by simp; omega)]
  have hzz : lpart (o + (11 + len)) (4096 - (11 + len)) rr.cells = some (cs.drop (11 + len)) := by
    rw [sub (11 + len) (4096 - (11 + len)) (by omega), List.take_of_length_le (by simp; omega)]
  have hk8 : ∃ kk, lget rr.cells (o + 8) = some (.int kk (kind : Nat)) ∧ kind ≤ 255 := by
    have h8 := sub 8 1 (by decide)
    cases hd : (cs.drop 8).take 1 with
    | nil =>
      have := congrArg List.length hd
      simp at this
      omega
    | cons a l =>
      rw [hd] at hkind h8
      obtain ⟨kk, c, rfl, hc, h2⟩ := num_cons hkind
      have hl : l = [] := by
        have := congrArg List.length hd
        simp at this
        cases l with
        | nil => rfl
        | cons a l => simp at this; omega
      subst hl
      have hh : Nat.lor 0 (Nat.shiftLeft c (8 * 0)) = kind := by injection h2
      have hh2 : Nat.lor 0 (Nat.shiftLeft c (8 * 0)) = c := Nat.zero_or c
      rw [hh2] at hh
      subst hh
      exact ⟨kk, lpart_get h8 0 _ rfl, hc⟩
  obtain ⟨kk, hcell, hk2⟩ := hk8
  rw [recK_call]
  refine enter_rule ft301 body301 nt301 k301_eq rfl ?_
  have a8 := fun (k : KK) => s_slcd' h k 1 b o c 4 4096 hb he (by omega) (by omega) (by omega)
  simp -implicitDefEqProofs only [k301, k301_r0, k301_r1, k301_r2, k301_r3, k301_r4, a8, n4096, Nat.reduceSub, Nat.reduceMul, go_sem, Nat.reduceAdd, Nat.reduceEqDiff, reduceCtorEq, ↓reduceIte, Nat.reduceLT, Nat.reduceMul, Nat.reduceSub, Nat.reduceLeDiff]
  repeat with_reducible refine bindK_all ?_
  refine pread_run (at' := 0) (size := 4) (N := N + 1) (cs := cs.take 4) hb he (by decide) (by decide) (by decide) (by decide) hc h0 hs ?_
  simp -implicitDefEqProofs only [a8, Nat.reduceSub, Nat.reduceMul, go_sem, Nat.reduceAdd, Nat.reduceEqDiff, reduceCtorEq, ↓reduceIte, Nat.reduceLT, Nat.reduceMul, Nat.reduceSub, Nat.reduceLeDiff]
  repeat with_reducible refine bindK_all ?_
  refine sum_run (N := N + 8) hb hg (by decide) h4 hR (by omega) ?_
  have hne' : ((s : Int) = (Nat.sub 4294967295 R : Nat)) := by omega
  simp -implicitDefEqProofs only [a8, hne', Nat.reduceSub, Nat.reduceMul, k301_r5, go_sem, Nat.reduceAdd, Nat.reduceEqDiff, reduceCtorEq, ↓reduceIte, Nat.reduceLT, Nat.reduceMul, Nat.reduceSub, Nat.reduceLeDiff]
  repeat with_reducible refine bindK_all ?_
  refine pread_run (at' := 4) (size := 4) (N := N + 1) hb he (by decide) (by decide) (by decide) (by decide) hc (sub 4 4 (by decide)) hnum ?_
  have w1 : IntKind.i64.wrap (kind : Int) = (kind : Nat) := wrap_i64 (by omega)
  simp -implicitDefEqProofs only [k301_r6, k301_r7, s_row hb, hcell, w1, go_sem, Nat.reduceAdd, Nat.reduceEqDiff, reduceCtorEq, ↓reduceIte, Nat.reduceLT, Nat.reduceMul, Nat.reduceSub, Nat.reduceLeDiff]
  repeat with_reducible refine bindK_all ?_
  refine pread_run (at' := 9) (size := 2) (N := N + 1) hb he (by decide) (by decide) (by decide) (by decide) hc (sub 9 2 (by decide)) hlen ?_
  have w2 : IntKind.i64.wrap (11 + (len : Int)) = ((11 + len : Nat) : Int) := wrap_i64 (n := 11 + len) (by omega)
  have a9 := fun (k : KK) => s_slcd' h k 1 b o c (11 + len) 4096 hb he (by omega) (by omega) (by omega)
  have b1 : ¬ ((kind : Int) = 0) := by omega
  have b2 : ¬ ((len : Int) > 4085) := by omega
  simp -implicitDefEqProofs only [k301_r8, k301_r9, k301_r10, s_row hb, hcell, w1, w2, a9, b1, b2, Nat.reduceSub, Nat.reduceMul, go_sem, Nat.reduceAdd, Nat.reduceEqDiff, reduceCtorEq, ↓reduceIte, Nat.reduceLT, Nat.reduceMul, Nat.reduceSub, Nat.reduceLeDiff]
  repeat with_reducible refine bindK_all ?_
  refine scan_loop (o := o + (11 + len)) (n := 4096 - (11 + len)) (c := c - (11 + len)) hb (by omega) (cs.drop (11 + len)) (N + 11) 0 _ (by simp; omega) (fun j v hj => by rw [Nat.zero_add]; exact lpart_get hzz j v hj) (by simp; omega) hz ?_ ?_ ?_ rfl rfl rfl ?_
  · simp only [KP.get_at, Nat.reduceEqDiff, Nat.one_ne_zero, Nat.zero_ne_one, ↓reduceIte, if_true, if_false, reduceCtorEq]
  · simp only [KP.get_at, Nat.reduceEqDiff, Nat.one_ne_zero, Nat.zero_ne_one, ↓reduceIte, if_true, if_false, reduceCtorEq]
  · simp only [KP.get_at, Nat.reduceEqDiff, Nat.one_ne_zero, Nat.zero_ne_one, ↓reduceIte, if_true, if_false, reduceCtorEq]; rfl
  intro t' g0 g7 g8
  have g0' : (KP.mk 0).get t' = some (.slice b o 4096 c) := g0.trans (by simp only [KP.get_at, Nat.reduceEqDiff, Nat.one_ne_zero, Nat.zero_ne_one, ↓reduceIte, if_true, if_false, reduceCtorEq])
  have g7' : (KP.mk 7).get t' = some (.int .i64 (kind : Nat)) := g7.trans (by simp only [KP.get_at, Nat.reduceEqDiff, Nat.one_ne_zero, Nat.zero_ne_one, ↓reduceIte, if_true, if_false, reduceCtorEq])
  have g8' : (KP.mk 8).get t' = some (.int .i64 (len : Nat)) := g8.trans (by simp only [KP.get_at, Nat.reduceEqDiff, Nat.one_ne_zero, Nat.zero_ne_one, ↓reduceIte, if_true, if_false, reduceCtorEq])
  have m1 := fun (k : KK) => h_mkSd h k (el := 5) (size := 1) (bytes := 1) (n := len) (m := len) (z := [.int .u8 0]) (Nat.le_refl _) (by omega) (by omega) rfl
  have hone : allOne (cs.drop 11) = true := by
    have := crc_one hR
    rw [allOne_eq] at this ⊢
    rw [List.all_eq_true] at this ⊢
    intro v hv
    refine this v ?_
    rw [show cs.drop 11 = (cs.drop 4).drop 7 by rw [List.drop_drop]] at hv
    exact List.mem_of_mem_drop hv
  have hone2 : allOne ((cs.drop 11).take (len * 1)) = true := by
    rw [allOne_eq, List.all_eq_true] at hone ⊢
    exact fun v hv => hone v (List.mem_of_mem_take hv)
  generalize hh1 : h.new (.row ⟨lrep len [.int .u8 0], len * 1, 5, false, 1, true, false⟩) = h1 at m1
  have hb1 : h1.get b = some (.row rr) := by rw [← hh1, H.get_new_ne _ _ hb2, hb]
  have a10 := fun (k : KK) => s_slcd' h1 k 1 b o c 11 4096 hb1 he (by omega) (by omega) (by omega)
  have cp : ∃ n h2, (∀ k : KK, kCopyb 1 h1 k (.slice h.sz 0 len len) (.slice b (o + 11) 4085 (c - 11)) = k (.int .i64 n) h2) ∧ h2 = h.new (.row ⟨(cs.drop 11).take len, len, 5, false, 1, true, false⟩) := by
    cases hz0 : len with
    | zero =>
      subst hz0
      refine ⟨_, _, fun k => h_copy0 h1 k (es := 1) hb1 h11, ?_⟩
      rw [← hh1]; rfl
    | succ m =>
      rw [← hz0]
      refine ⟨_, _, fun k => h_copyL h1 k (es := 1) hb1 h11 (by rw [← hh1, H.get_new_self]) rfl (by omega) (by omega) (by show 0 + len * 1 ≤ len * 1; omega) hone2, ?_⟩
      rw [← hh1, H.new_put, lput_whole _ _ (by rw [lrep_length, List.length_take, List.length_drop, hcl]; simp; omega)]
      simp
  obtain ⟨n, h2, hcp, hh2⟩ := cp
  simp -implicitDefEqProofs only [k301_r16, k301_r17, k301_r18, g0', g7', g8', m1, a10, hcp, go_sem, go_sem, Nat.reduceAdd, Nat.reduceEqDiff, reduceCtorEq, ↓reduceIte, Nat.reduceLT, Nat.reduceMul, Nat.reduceSub, Nat.reduceLeDiff]
  rw [← hh2] at hQ
  exact leave3_rule res301 (by simp only [KP.get_at, Nat.reduceEqDiff, Nat.one_ne_zero, Nat.zero_ne_one, ↓reduceIte, if_true, if_false, reduceCtorEq]) (by simp only [KP.get_at, Nat.reduceEqDiff, Nat.one_ne_zero, Nat.zero_ne_one, ↓reduceIte, if_true, if_false, reduceCtorEq]) (by simp only [KP.get_at, Nat.reduceEqDiff, Nat.one_ne_zero, Nat.zero_ne_one, ↓reduceIte, if_true, if_false, reduceCtorEq]) hQ
end Go.Proofs.YtamlmddkcghhlaaGreatDoor
namespace Go.Proofs.YtamlmddkcghhlaaGreatDoor
open Go Go.Ab

noncomputable section
def rowAt (h : H) (b : Nat) : Option Row :=
  Option.rec (motive := fun _ => Option Row) none (fun x => AO.rec (motive := fun _ => Option Row) some none none (fun _ _ => none) (fun _ _ => none) (fun _ _ _ _ => none) (fun _ _ _ _ _ _ _ _ => none) x) (getN h.blk b)
def zI (ih : Bool) (n : Int) : Bool := Int.rec (motive := fun _ => Bool) (fun c => Bool.rec (motive := fun _ => Bool) false ih (Nat.beq c 0)) (fun _ => false) n
def zA (a : AV) (_ : List AV) (ih : Bool) : Bool :=
  AV.rec (motive_1 := fun _ => Bool) (motive_2 := fun _ => Unit) (fun _ => false) (fun k n => Bool.rec (motive := fun _ => Bool) false (zI ih n) (kindEq k .u8)) (fun _ => false) false (fun _ _ => false) false (fun _ _ _ _ => false) false (fun _ => false) false (fun _ _ _ _ _ => false) (fun _ => false) false (fun _ _ _ => false) (fun _ _ => false) (fun _ _ => false) () (fun _ _ _ _ => ()) a
def allZ (l : List AV) : Bool := List.rec (motive := fun _ => Bool) true zA l
def ifB (b : Bool) (x : Option (AV × H)) : Option (AV × H) := Bool.rec (motive := fun _ => Option (AV × H)) none x b
def getB {α : Type} (a : Option α) (f : α → Option (AV × H)) : Option (AV × H) := Option.rec (motive := fun _ => Option (AV × H)) none f a

def sumMore (args : List AV) (h : H) : Option (AV × H) :=
  match args with
  | [.int .i64 (.ofNat s), .slice b o n _] =>
    ifB (Nat.ble s 4294967295) (ifB (Nat.ble n 1000000) (getB (rowAt h b) fun r => getB (rowAt h 3) fun q => ifB (tabL q.cells 0) (getB (partK o n r.cells) fun cs => getB (crcL cs (Nat.sub 4294967295 s)) fun R =>
      ifB (Nat.ble R 4294967295) (some (.tup [.int .i64 (.ofNat (Nat.sub 4294967295 R)), .int .i64 0], h)))))
  | _ => none
def openGood (b num : Nat) (h : H) (cs : List AV) : Option (AV × H) :=
  getB (numL (takeK (dropK cs 4) 4) 0 0) fun pl => getB (numL (takeK (dropK cs 8) 1) 0 0) fun kind => getB (numL (takeK (dropK cs 9) 2) 0 0) fun len =>
    ifB (Nat.beq pl num) (ifB (Nat.ble 1 kind) (ifB (Nat.ble len 4084) (ifB (allZ (dropK cs (Nat.add 11 len)))
      (some (.tup [.int .i64 (.ofNat kind), .slice h.sz 0 len len, .int .i64 0], newK h (.row ⟨takeK (dropK cs 11) len, len, 5, false, 1, true, false⟩))))))
def openBad (h : H) : Option (AV × H) := some (.tup [.int .i64 0, .nilslice, .int .i64 120], h)
def pageOpen (args : List AV) (h : H) : Option (AV × H) :=
  match args with
  | [.slice b o n c, .int .i64 (.ofNat num)] =>
    ifB (Nat.beq n 4096) (ifB (Nat.ble 4096 c) (ifB (Nat.ble (Nat.succ b) h.sz) (getB (rowAt h b) fun r => getB (rowAt h 3) fun q => ifB (Nat.beq r.es 1) (ifB (tabL q.cells 0)
      (getB (partK o 4096 r.cells) fun cs => getB (numL (takeK cs 4) 0 0) fun s => getB (crcL (dropK cs 4) 4294967295) fun R =>
        Bool.rec (motive := fun _ => Option (AV × H)) (openBad h) (openGood b num h cs) (Nat.beq s (Nat.sub 4294967295 R)))))))
  | _ => none
def env1 : Env := ⟨tt, ft, ri, fun f => Bool.rec (motive := fun _ => Option (List AV → H → Option (AV × H))) (Bool.rec (motive := fun _ => Option (List AV → H → Option (AV × H))) none (some pageOpen) (Nat.beq f 301)) (some sumMore) (Nat.beq f 351)⟩
end

theorem ifB_some {b : Bool} {x : Option (AV × H)} {y : AV × H} (h : ifB b x = some y) : b = true ∧ x = some y := by
  cases b with
  | false => cases h
  | true => exact ⟨rfl, h⟩
theorem getB_some {α : Type} {a : Option α} {f : α → Option (AV × H)} {y : AV × H} (h : getB a f = some y) : ∃ x, a = some x ∧ f x = some y := by
  cases a with
  | none => cases h
  | some x => exact ⟨x, rfl, h⟩
theorem rowAt_some {h : H} {b : Nat} {r : Row} (hr : rowAt h b = some r) : h.get b = some (.row r) := by
  unfold rowAt at hr
  rw [getN_eq] at hr
  show h.blk.get b = _
  cases hx : h.blk.get b with
  | none => rw [hx] at hr; cases hr
  | some x =>
    rw [hx] at hr
    cases x with
    | row q =>
      have : some q = some r := hr
      injection this with this
      rw [this]
    | _ => cases hr
theorem allZ_all : ∀ {l : List AV}, allZ l = true → ∀ v ∈ l, isZ v
  | [], _, v, hv => by cases hv
  | a :: l, h, v, hv => by
    change zA a l (allZ l) = true at h
    cases a with
    | int k n =>
      change (Bool.rec (motive := fun _ => Bool) false (zI (allZ l) n) (kindEq k .u8) : Bool) = true at h
      cases hk : kindEq k .u8 with
      | false => rw [hk] at h; cases h
      | true =>
        rw [hk] at h
        have := kindEq_iff hk
        subst this
        cases n with
        | negSucc c => cases h
        | ofNat c =>
          change (Bool.rec (motive := fun _ => Bool) false (allZ l) (Nat.beq c 0) : Bool) = true at h
          cases hc : Nat.beq c 0 with
          | false => rw [hc] at h; cases h
          | true =>
            rw [hc] at h
            have := Nat.eq_of_beq_eq_true hc
            subst this
            rcases List.mem_cons.1 hv with hv | hv
            · exact hv
            · exact allZ_all h v hv
    | _ => cases h

theorem sumMore_run {args : List AV} {h h' : H} {v : AV} (hs : sumMore args h = some (v, h')) : ∃ N, ((recK env0 N).call 351 args h none).all fun cr => cr = .ok v h' false := by
  unfold sumMore at hs
  split at hs
  · rename_i s b o n c
    obtain ⟨h1, hs⟩ := ifB_some hs
    obtain ⟨h2, hs⟩ := ifB_some hs
    obtain ⟨r, h3, hs⟩ := getB_some hs
    obtain ⟨q, h4, hs⟩ := getB_some hs
    obtain ⟨h5, hs⟩ := ifB_some hs
    obtain ⟨cs, h6, hs⟩ := getB_some hs
    obtain ⟨R, h7, hs⟩ := getB_some hs
    obtain ⟨h8, hs⟩ := ifB_some hs
    injection hs with hs
    injection hs with hs1 hs2
    subst hs1 hs2
    rw [partK_eq] at h6
    have h1 := Nat.le_of_ble_eq_true h1
    have h2 := Nat.le_of_ble_eq_true h2
    have h8 := Nat.le_of_ble_eq_true h8
    exact ⟨n + 2, more_run h1 (rowAt_some h3) ⟨q, rowAt_some h4, h5⟩ (by omega) h6 h7 h8 (Nat.le_refl _) rfl⟩
  · cases hs

theorem pageOpen_run {args : List AV} {h h' : H} {v : AV} (hs : pageOpen args h = some (v, h')) : ∃ N, ((recK env0 N).call 301 args h none).all fun cr => cr = .ok v h' false := by
  unfold pageOpen at hs
  split at hs
  · rename_i b o n c num
    obtain ⟨h1, hs⟩ := ifB_some hs
    obtain ⟨h2, hs⟩ := ifB_some hs
    obtain ⟨h3, hs⟩ := ifB_some hs
    obtain ⟨r, h4, hs⟩ := getB_some hs
    obtain ⟨q, h5, hs⟩ := getB_some hs
    obtain ⟨h6, hs⟩ := ifB_some hs
    obtain ⟨h7, hs⟩ := ifB_some hs
    obtain ⟨cs, h8, hs⟩ := getB_some hs
    obtain ⟨s, h9, hs⟩ := getB_some hs
    obtain ⟨R, h10, hz⟩ := getB_some hs
    clear hs
    have := Nat.eq_of_beq_eq_true h1
    subst this
    have h2 := Nat.le_of_ble_eq_true h2
    have h3 := Nat.le_of_ble_eq_true h3
    have h6 := Nat.eq_of_beq_eq_true h6
    rw [partK_eq] at h8
    rw [takeK_eq] at h9
    rw [dropK_eq] at h10
    have hcl := (lpart_length _ _ _ _ h8).1
    refine ⟨4092 + 12, ?_⟩
    cases hb : Nat.beq s (Nat.sub 4294967295 R) with
    | false =>
      rw [hb] at hz
      change openBad h = _ at hz
      unfold openBad at hz
      injection hz with hs
      injection hs with hs1 hs2
      subst hs1 hs2
      have hne : s ≠ Nat.sub 4294967295 R := fun e => by rw [e, Nat.beq_refl] at hb; cases hb
      exact open_err (rowAt_some h4) h6 ⟨q, rowAt_some h5, h7⟩ h2 (lpart_sub (a := 0) h8 (by decide)) h9 (by rw [lpart_sub (a := 4) (m := 4092) h8 (by decide), List.take_of_length_le (by simp; omega)]) h10 hne (Nat.le_refl _) rfl
    | true =>
      rw [hb] at hz
      change openGood b num h cs = _ at hz
      unfold openGood at hz
      obtain ⟨pl, a1, hs⟩ := getB_some hz
      obtain ⟨kind, a2, hs⟩ := getB_some hs
      obtain ⟨len, a3, hs⟩ := getB_some hs
      obtain ⟨a4, hs⟩ := ifB_some hs
      obtain ⟨a5, hs⟩ := ifB_some hs
      obtain ⟨a6, hs⟩ := ifB_some hs
      obtain ⟨a7, hz2⟩ := ifB_some hs
      injection hz2 with hs
      injection hs with hs1 hs2
      subst hs1 hs2
      have := Nat.eq_of_beq_eq_true a4
      subst this
      rw [takeK_eq, dropK_eq] at a1 a2 a3
      rw [dropK_eq] at a7
      rw [newK_eq, takeK_eq, dropK_eq]
      exact open_ok (rowAt_some h4) h6 ⟨q, rowAt_some h5, h7⟩ (by omega) h2 h8 h9 h10 (Nat.eq_of_beq_eq_true hb) a1 a2 (Nat.le_of_ble_eq_true a5) a3 (Nat.le_of_ble_eq_true a6) (allZ_all a7) (Nat.le_refl _) rfl
  · cases hs

section
variable {P : Program} {G B : Nat}
theorem sums0 : SumsOK P env0 G B := fun _ _ _ _ _ _ h => by cases h
theorem call_of (EO : EnvOK P env0 G) {f N : Nat} {args : List AV} {h h' : H} {v : AV} (hc : ((recK env0 N).call f args h none).all fun cr => cr = .ok v h' false) (hf : ∃ fn, env0.ft.get f = some (.body fn)) {cs : List Frame} {m : Emb} {w : World} {args' : Array Value}
    (hv : VRels m args args'.toList) (R : Rel G B (CodeC env1 G) m h w.heap) : CallTo P env1 G B f .normal cs (lone (Frame.enter P f args' .normal) cs w) m h w (.ok v h' false) := by
  obtain ⟨cr, hq, hx⟩ := (sim_all EO sums0 N).1 f args h none _ ((recK_le env0 N).call f args h none _ hc) .normal cs m w args' hv R (.inl rfl) hf
  subst hq
  exact hx
theorem ft351' : env0.ft.get 351 = some (.body Tryz.f351) := by rw [← getN_eq]; exact ft351
theorem ft301' : env0.ft.get 301 = some (.body Tryz.f301) := by rw [← getN_eq]; exact ft301
theorem sums1 (EO : EnvOK P env0 G) : SumsOK P env1 G B := by
  intro f g args h v h' hf hg cs m w args' hv R
  change (Bool.rec (motive := fun _ => Option (List AV → H → Option (AV × H))) (Bool.rec (motive := fun _ => Option (List AV → H → Option (AV × H))) none (some pageOpen) (Nat.beq f 301)) (some sumMore) (Nat.beq f 351)) = some g at hf
  cases h1 : Nat.beq f 351 with
  | true =>
    rw [h1] at hf
    have hf : some sumMore = some g := hf
    injection hf with hf
    subst hf
    have := Nat.eq_of_beq_eq_true h1
    subst this
    obtain ⟨N, hc⟩ := sumMore_run hg
    exact call_of EO hc ⟨_, ft351'⟩ hv R
  | false =>
    rw [h1] at hf
    cases h2 : Nat.beq f 301 with
    | false => rw [h2] at hf; cases hf
    | true =>
      rw [h2] at hf
      have hf : some pageOpen = some g := hf
      injection hf with hf
      subst hf
      have := Nat.eq_of_beq_eq_true h2
      subst this
      obtain ⟨N, hc⟩ := pageOpen_run hg
      exact call_of EO hc ⟨_, ft301'⟩ hv R
end
end Go.Proofs.YtamlmddkcghhlaaGreatDoor
