/-
  The start's relation.
-/
import Derived.Test.YtamlmddkcghhlaaGreatDoorRows
import Derived.MakeChecks
import Derived.Test.YtamlmddkcghhlaaGreatDoorB2
import Derived.Test.YtamlmddkcghhlaaGreatDoorA5
import Derived.Test.YtamlmddkcghhlaaGreatDoorB4
import Derived.Test.YtamlmddkcghhlaaGreatDoorB3
set_option linter.unusedSimpArgs false
set_option linter.unusedVariables false
namespace Go.Proofs.YtamlmddkcghhlaaGreatDoor
open Go Go.Ab

def GlobAt (w : World) (g : Nat) (vs : List Value) : Prop := ∃ c el fz, w.heap[g]? = some (.cells c el fz) ∧ c.toList = vs
theorem laid_one {P : Program} {w : World} {nm : String} {d : DataW Unit} {r : List (String × DataW Unit)} {ps : List MemPlace} {g t : Nat} {f : DataW Unit → List Value} (h : DataW.LaidVars P w ((nm, d) :: r) ps)
    (hg : P.globalNamed nm = some g) (ht : (P.globals[g]?).map (·.type) = some t) (hf : FlatAt Unit (fun _ => ()) P w 0 (fun _ => true) false t f) : GlobAt w g (f d) ∧ ∃ q, DataW.LaidVars P w r q := by
  obtain ⟨g', t', cs, fuel, p, q, a1, a2, a3, a4, a5, _⟩ := h
  rw [hg] at a1
  injection a1 with a1
  subst a1
  rw [ht] at a2
  injection a2 with a2
  subst a2
  refine ⟨?_, q, a5⟩
  have hc := hf _ _ _ _ a4
  unfold World.var? at a3
  rw [hg] at a3
  change (match w.heap[g]? with | some (.cells cs _ _) => some cs | _ => none) = some cs at a3
  split at a3
  · rename_i c el fz hw
    injection a3 with a3
    subst a3
    exact ⟨_, _, _, hw, hc⟩
  · cases a3
section
variable {w : World}
abbrev FA (w : World) (t : Nat) (f : DataW Unit → List Value) : Prop := FlatAt Unit (fun _ => ()) Tryz.prog w 0 (fun _ => true) false t f
theorem fa442 : FA w 442 (flatA flatI) := flat_array Tryz.underlying442 (by kernel_rfl) (flat_int Tryz.underlying5)
theorem fa461 : FA w 461 (flatA flatI) := flat_array Tryz.underlying461 (by kernel_rfl) (flat_int Tryz.underlying318)
theorem fa471 : FA w 471 (flatA flatI) := flat_array Tryz.underlying471 (by kernel_rfl) (flat_int Tryz.underlying320)
theorem fa473 : FA w 473 (flatA flatI) := flat_array Tryz.underlying473 (by kernel_rfl) (flat_int Tryz.underlying5)
theorem fa474 : FA w 474 (flatA flatI) := flat_array Tryz.underlying474 (by kernel_rfl) (flat_int Tryz.underlying5)
theorem fa445 : FA w 445 (flatA (flatA flatI)) := flat_array Tryz.underlying445 (by kernel_rfl) (flat_pair Tryz.underlying444 rfl rfl (by kernel_rfl) (by kernel_rfl) (by kernel_rfl) (flat_int Tryz.underlying5) (flat_int Tryz.underlying5))

def gcells (o : AO) : List AV :=
  match o with
  | .row r => r.cells
  | _ => []
theorem globs (h : laidMetH Tryz.prog Rows.catalogNamesRow.laid w) : GlobAt w 1 ((gcells gl1).map intV) ∧ GlobAt w 2 ((gcells gl2).map intV) ∧ GlobAt w 3 ((gcells gl3).map intV) ∧ GlobAt w 4 ((gcells gl4).map intV) ∧ GlobAt w 5 ((gcells gl5).map intV) ∧ GlobAt w 6 ((gcells gl6).map intV) := by
  rw [MakeChecks.laidMetH_plain _ _ _ (by kernel_rfl)] at h
  obtain ⟨ps, h, _⟩ := h
  change DataW.LaidVars Tryz.prog w [("math/bits.deBruijn32tab", Rows.laid_math_bits_deBruijn32tab), ("math/bits.deBruijn64tab", Rows.laid_math_bits_deBruijn64tab), ("internal/strconv.uint64pow10", Rows.laid_internal_strconv_uint64pow10), ("unicode/utf8.acceptRanges", Rows.laid_unicode_utf8_acceptRanges), ("coffret/sum.nibble", Rows.laid_coffret_sum_nibble), ("unicode/utf8.first", Rows.laid_unicode_utf8_first)] ps at h
  obtain ⟨g5, q5, h⟩ := laid_one h (g := 5) (by kernel_rfl) (t := 473) (by kernel_rfl) fa473
  obtain ⟨g6, q6, h⟩ := laid_one h (g := 6) (by kernel_rfl) (t := 474) (by kernel_rfl) fa474
  obtain ⟨g4, q4, h⟩ := laid_one h (g := 4) (by kernel_rfl) (t := 471) (by kernel_rfl) fa471
  obtain ⟨g2, q2, h⟩ := laid_one h (g := 2) (by kernel_rfl) (t := 445) (by kernel_rfl) fa445
  obtain ⟨g3, q3, h⟩ := laid_one h (g := 3) (by kernel_rfl) (t := 461) (by kernel_rfl) fa461
  obtain ⟨g1, q1, h⟩ := laid_one h (g := 1) (by kernel_rfl) (t := 442) (by kernel_rfl) fa442
  have e1 : flatA flatI Rows.laid_unicode_utf8_first = (gcells gl1).map intV := by kernel_rfl
  have e2 : flatA (flatA flatI) (Rows.laid_unicode_utf8_acceptRanges (H := Unit)) = (gcells gl2).map intV := by kernel_rfl
  have e3 : flatA flatI (Rows.laid_coffret_sum_nibble (H := Unit)) = (gcells gl3).map intV := by kernel_rfl
  have e4 : flatA flatI (Rows.laid_internal_strconv_uint64pow10 (H := Unit)) = (gcells gl4).map intV := by kernel_rfl
  have e5 : flatA flatI (Rows.laid_math_bits_deBruijn32tab (H := Unit)) = (gcells gl5).map intV := by kernel_rfl
  have e6 : flatA flatI (Rows.laid_math_bits_deBruijn64tab (H := Unit)) = (gcells gl6).map intV := by kernel_rfl
  rw [e1] at g1
  rw [e2] at g2
  rw [e3] at g3
  rw [e4] at g4
  rw [e5] at g5
  rw [e6] at g6
  exact ⟨g1, g2, g3, g4, g5, g6⟩
end
end Go.Proofs.YtamlmddkcghhlaaGreatDoor
namespace Go.Proofs.YtamlmddkcghhlaaGreatDoor
open Go Go.Ab

/- coffret/coffretlaw18.CatalogNames -/
noncomputable section
noncomputable def c3 : Code := codeOf Tryz.f3
def k3_r0 : List KI := [.mk .no (.at (.mk 4)) (.boxN 24 6 (.slot (.mk 1))),
  .mk .no (.at (.mk 6)) (.mv (.con (.bool false)))]
def k3_r1 : List KI := [.mk .no (.at (.mk 8)) (.call 8 []),
  .mk .no (.at (.mk 7)) (.mv (.slot (.mk 8)))]
def k3_r2 : List KDI := [.pure none .no (.at (.mk 9)) (.mv (.slot (.mk 7))) (operOf c3 2 0),
  .pure none .no (.at (.mk 10)) (.mv (.slot (.mk 9))) (operOf c3 2 1),
  .pure none (.g (.mk 10) true) (.at (.mk 11)) (.mv (.slot (.mk 0))) (operOf c3 2 2),
  .pure none (.g (.mk 10) true) (.at (.mk 13)) (.mv (.slot (.mk 0))) (operOf c3 2 4),
  .eff false (.g (.mk 10) true) (.at (.mk 12)) (.call 9 [(.slot (.mk 11))]),
  .eff true (.g (.mk 10) true) (.at (.mk 14)) (.call 10 [(.slot (.mk 13))]),
  .pure (some 0) (.g (.mk 10) true) (.at (.mk 15)) (.bin .eql .eql 4 (.tmp 12) (.tmp 14) (.slot (.mk 12)) (.slot (.mk 14))) (operOf c3 2 6),
  .pure none .no (.at (.mk 16)) (.pick (.slot (.mk 10)) (.slot (.mk 15)) (.con (.bool false))) (operOf c3 2 7),
  .pure none .no (.at (.mk 17)) (.mv (.slot (.mk 16))) (operOf c3 2 8),
  .pure (some 0) (.g (.mk 17) true) (.at (.mk 18)) (.loadN 6 (.slot (.mk 4))) (operOf c3 2 9),
  .pure none (.g (.mk 17) true) (.at (.mk 20)) (.fldA 1 (.slot (.mk 4))) (operOf c3 2 11),
  .pure (some 1) (.g (.mk 17) true) (.at (.mk 21)) (.load1 (.slot (.mk 20))) (operOf c3 2 12),
  .pure none (.g (.mk 17) true) (.at (.mk 22)) (.bin .mul .mul 3 (.const (.int .i64 16)) (.tmp 21) (.con (.int .i64 16)) (.slot (.mk 21))) (operOf c3 2 13),
  .eff false (.g (.mk 17) true) (.at (.mk 19)) (.call 11 [(.slot (.mk 18))]),
  .pure (some 0) (.g (.mk 17) true) (.at (.mk 23)) (.bin .eql .eql 3 (.tmp 19) (.tmp 22) (.slot (.mk 19)) (.slot (.mk 22))) (operOf c3 2 14),
  .pure none .no (.at (.mk 24)) (.pick (.slot (.mk 17)) (.slot (.mk 23)) (.con (.bool false))) (operOf c3 2 15),
  .pure none .no (.at (.mk 25)) (.mv (.slot (.mk 24))) (operOf c3 2 16),
  .pure (some 0) (.g (.mk 25) true) (.at (.mk 26)) (.loadN 6 (.slot (.mk 4))) (operOf c3 2 17),
  .pure none (.g (.mk 25) true) (.at (.mk 27)) (.mv (.slot (.mk 2))) (operOf c3 2 18),
  .pure none (.g (.mk 25) true) (.at (.mk 29)) (.fldA 1 (.slot (.mk 4))) (operOf c3 2 20),
  .pure (some 1) (.g (.mk 25) true) (.at (.mk 30)) (.load1 (.slot (.mk 29))) (operOf c3 2 21),
  .pure none (.g (.mk 25) true) (.at (.mk 31)) (.bin .mul .mul 3 (.const (.int .i64 16)) (.tmp 30) (.con (.int .i64 16)) (.slot (.mk 30))) (operOf c3 2 22),
  .pure none (.g (.mk 25) true) (.at (.mk 32)) (.mv (.slot (.mk 2))) (operOf c3 2 23),
  .pure none (.g (.mk 25) true) (.at (.mk 33)) (.bin .add .add 3 (.tmp 31) (.tmp 32) (.slot (.mk 31)) (.slot (.mk 32))) (operOf c3 2 24),
  .eff false (.g (.mk 25) true) (.at (.mk 28)) (.call 12 [(.slot (.mk 26)), (.slot (.mk 27))]),
  .pure (some 0) (.g (.mk 25) true) (.at (.mk 34)) (.bin .eql .eql 3 (.tmp 28) (.tmp 33) (.slot (.mk 28)) (.slot (.mk 33))) (operOf c3 2 25),
  .pure none .no (.at (.mk 35)) (.pick (.slot (.mk 25)) (.slot (.mk 34)) (.con (.bool false))) (operOf c3 2 26),
  .pure none .no (.at (.mk 6)) (.mv (.slot (.mk 35))) (operOf c3 2 27)]
def k3 : KCode := .seq (.region (ropsOf c3 0) k3_r0) (.seq (.region (ropsOf c3 1) k3_r1) (.seq (.draw (ropsOf c3 2) k3_r2) (.ret)))
end
theorem k3_eq : kcode env1 ⟨3, 36, false⟩ c3 = k3 := by kernel_rfl
theorem ft3 : getN env1.ft 3 = some (.body Tryz.f3) := by kernel_rfl
theorem body3 : Tryz.f3.body = some c3 := rfl
theorem nt3 : Tryz.f3.ntmps = 36 := rfl
theorem res3 : kres Tryz.f3.results.toList = some [.mk 6] := by kernel_rfl
/- coffret/catalog.Right -/
noncomputable section
noncomputable def c9 : Code := codeOf Tryz.f9
def k9_r0 : List KI := [.mk .no (.at (.mk 2)) (.mv (.con (.bool false)))]
def k9_r1 : List KI := [.mk .no (.at (.mk 3)) (.mv (.con (.func 31 [] [])))]
def k9_r2 : List KI := [.mk .no (.at (.mk 4)) (.mv (.slot (.mk 0))),
  .mk .no (.at (.mk 5)) (.bin .neq .neq 9 (.tmp 4) (.const (.string ⟨⟨[]⟩⟩)) (.slot (.mk 4)) (.con (.str []))),
  .mk .no (.at (.mk 6)) (.mv (.slot (.mk 5))),
  .mk (.g (.mk 6) true) (.at (.mk 7)) (.mv (.slot (.mk 0))),
  .mk (.g (.mk 6) true) (.at (.mk 8)) (.lenS (.slot (.mk 7))),
  .mk (.g (.mk 6) true) (.at (.mk 9)) (.bin .leq .leq 3 (.tmp 8) (.const (.int .i64 100)) (.slot (.mk 8)) (.con (.int .i64 100))),
  .mk .no (.at (.mk 10)) (.pick (.slot (.mk 6)) (.slot (.mk 9)) (.con (.bool false))),
  .mk .no (.at (.mk 11)) (.mv (.slot (.mk 10))),
  .mk (.g (.mk 11) true) (.at (.mk 12)) (.mv (.slot (.mk 0))),
  .mk (.g (.mk 11) true) (.at (.mk 13)) (.mv (.slot (.mk 3))),
  .mk (.g (.mk 11) true) (.at (.mk 14)) (.call 32 [(.slot (.mk 12)), (.slot (.mk 13))]),
  .mk (.g (.mk 11) true) (.at (.mk 15)) (.not (.slot (.mk 14))),
  .mk .no (.at (.mk 16)) (.pick (.slot (.mk 11)) (.slot (.mk 15)) (.con (.bool false))),
  .mk .no (.at (.mk 2)) (.mv (.slot (.mk 16)))]
def k9 : KCode := .seq (.region (ropsOf c9 0) k9_r0) (.seq (.region (ropsOf c9 1) k9_r1) (.seq (.region (ropsOf c9 2) k9_r2) (.ret)))
end
theorem k9_eq : kcode env1 ⟨9, 17, false⟩ c9 = k9 := by kernel_rfl
theorem ft9 : getN env1.ft 9 = some (.body Tryz.f9) := by kernel_rfl
theorem body9 : Tryz.f9.body = some c9 := rfl
theorem nt9 : Tryz.f9.ntmps = 17 := rfl
theorem res9 : kres Tryz.f9.results.toList = some [.mk 2] := by kernel_rfl
/- coffret/coffretref18.Right -/
noncomputable section
noncomputable def c10 : Code := codeOf Tryz.f10
def k10_r0 : List KI := [.mk .no (.at (.mk 2)) (.mv (.con (.bool false)))]
def k10_r1 : List KI := [.mk .no (.at (.mk 4)) (.mv (.slot (.mk 0))),
  .mk .no (.at (.mk 5)) (.lenS (.slot (.mk 4))),
  .mk .no (.at (.mk 6)) (.bin .lss .lss 3 (.tmp 5) (.const (.int .i64 1)) (.slot (.mk 5)) (.con (.int .i64 1))),
  .mk .no (.at (.mk 7)) (.mv (.slot (.mk 6))),
  .mk (.g (.mk 7) false) (.at (.mk 8)) (.mv (.slot (.mk 0))),
  .mk (.g (.mk 7) false) (.at (.mk 9)) (.lenS (.slot (.mk 8))),
  .mk (.g (.mk 7) false) (.at (.mk 10)) (.bin .gtr .gtr 3 (.tmp 9) (.const (.int .i64 100)) (.slot (.mk 9)) (.con (.int .i64 100))),
  .mk .no (.at (.mk 11)) (.pick (.slot (.mk 7)) (.con (.bool true)) (.slot (.mk 10)))]
def k10_r2 : List KI := [.mk .no (.at (.mk 2)) (.mv (.con (.bool false)))]
def k10_r3 : List KI := [.mk .no (.at (.mk 3)) (.mv (.con (.int .i64 0)))]
def k10_r4 : List KI := [.mk .no (.at (.mk 12)) (.mv (.slot (.mk 3))),
  .mk .no (.at (.mk 13)) (.mv (.slot (.mk 0))),
  .mk .no (.at (.mk 14)) (.lenS (.slot (.mk 13))),
  .mk .no (.at (.mk 15)) (.bin .lss .lss 3 (.tmp 12) (.tmp 14) (.slot (.mk 12)) (.slot (.mk 14)))]
def k10_r6 : List KI := [.mk .no (.at (.mk 18)) (.mv (.slot (.mk 0))),
  .mk .no (.at (.mk 19)) (.mv (.slot (.mk 3))),
  .mk .no (.at (.mk 20)) (.idxS (.slot (.mk 18)) (.slot (.mk 19))),
  .mk .no (.at (.mk 21)) (.bin .lss .lss 5 (.tmp 20) (.const (.int .u8 33)) (.slot (.mk 20)) (.con (.int .u8 33))),
  .mk .no (.at (.mk 22)) (.mv (.slot (.mk 21))),
  .mk (.g (.mk 22) false) (.at (.mk 23)) (.mv (.slot (.mk 0))),
  .mk (.g (.mk 22) false) (.at (.mk 24)) (.mv (.slot (.mk 3))),
  .mk (.g (.mk 22) false) (.at (.mk 25)) (.idxS (.slot (.mk 23)) (.slot (.mk 24))),
  .mk (.g (.mk 22) false) (.at (.mk 26)) (.bin .gtr .gtr 5 (.tmp 25) (.const (.int .u8 126)) (.slot (.mk 25)) (.con (.int .u8 126))),
  .mk .no (.at (.mk 27)) (.pick (.slot (.mk 22)) (.con (.bool true)) (.slot (.mk 26))),
  .mk .no (.at (.mk 28)) (.mv (.slot (.mk 27))),
  .mk (.g (.mk 28) false) (.at (.mk 29)) (.mv (.slot (.mk 0))),
  .mk (.g (.mk 28) false) (.at (.mk 30)) (.mv (.slot (.mk 3))),
  .mk (.g (.mk 28) false) (.at (.mk 31)) (.idxS (.slot (.mk 29)) (.slot (.mk 30))),
  .mk (.g (.mk 28) false) (.at (.mk 32)) (.bin .eql .eql 5 (.tmp 31) (.const (.int .u8 36)) (.slot (.mk 31)) (.con (.int .u8 36))),
  .mk .no (.at (.mk 33)) (.pick (.slot (.mk 28)) (.con (.bool true)) (.slot (.mk 32)))]
def k10_r7 : List KI := [.mk .no (.at (.mk 2)) (.mv (.con (.bool false)))]
def k10_r5 : List KI := [.mk .no (.at (.mk 16)) (.mv (.slot (.mk 3))),
  .mk .no (.at (.mk 17)) (.bin .add .add 3 (.tmp 16) (.const (.int .i64 1)) (.slot (.mk 16)) (.con (.int .i64 1))),
  .mk .no (.at (.mk 3)) (.mv (.slot (.mk 17)))]
def k10_B0 : KCode := .seq (.seq (.region (ropsOf c10 4) k10_r4) (.cond (.slot (.mk 15)) (.skip) (.exit 0))) (.seq (.block 1 (.seq (.region (ropsOf c10 6) k10_r6) (.cond (.slot (.mk 33)) (.seq (.region (ropsOf c10 7) k10_r7) (.ret)) (.skip)))) (.region (ropsOf c10 5) k10_r5))
def k10_L0 : KCode := .loop (loopOf c10 0) k10_B0
def k10_r8 : List KI := [.mk .no (.at (.mk 2)) (.mv (.con (.bool true)))]
def k10 : KCode := .seq (.region (ropsOf c10 0) k10_r0) (.seq (.seq (.region (ropsOf c10 1) k10_r1) (.cond (.slot (.mk 11)) (.seq (.region (ropsOf c10 2) k10_r2) (.ret)) (.skip))) (.seq (.seq (.region (ropsOf c10 3) k10_r3) (.block 0 (k10_L0))) (.seq (.region (ropsOf c10 8) k10_r8) (.ret))))
end
theorem k10_eq : kcode env1 ⟨10, 34, false⟩ c10 = k10 := by kernel_rfl
theorem ft10 : getN env1.ft 10 = some (.body Tryz.f10) := by kernel_rfl
theorem body10 : Tryz.f10.body = some c10 := rfl
theorem nt10 : Tryz.f10.ntmps = 34 := rfl
theorem res10 : kres Tryz.f10.results.toList = some [.mk 2] := by kernel_rfl
theorem k10_L0_eq : kcode env1 ⟨10, 34, false⟩ (.loop (loopOf c10 0)) = k10_L0 := by kernel_rfl
/- coffret/catalog.Docs -/
noncomputable section
noncomputable def c11 : Code := codeOf Tryz.f11
def k11_r0 : List KI := [.mk .no (.at (.mk 1)) (.boxN 24 6 (.slot (.mk 0))),
  .mk .no (.at (.mk 2)) (.mv (.con (.int .i64 0)))]
def k11_r1 : List KI := [.mk .no (.at (.mk 3)) (.fldA 1 (.slot (.mk 1))),
  .mk .no (.at (.mk 4)) (.load1 (.slot (.mk 3))),
  .mk .no (.at (.mk 5)) (.bin .mul .mul 3 (.const (.int .i64 16)) (.tmp 4) (.con (.int .i64 16)) (.slot (.mk 4))),
  .mk .no (.at (.mk 2)) (.mv (.slot (.mk 5)))]
def k11 : KCode := .seq (.region (ropsOf c11 0) k11_r0) (.seq (.region (ropsOf c11 1) k11_r1) (.ret))
end
theorem k11_eq : kcode env1 ⟨11, 6, false⟩ c11 = k11 := by kernel_rfl
theorem ft11 : getN env1.ft 11 = some (.body Tryz.f11) := by kernel_rfl
theorem body11 : Tryz.f11.body = some c11 := rfl
theorem nt11 : Tryz.f11.ntmps = 6 := rfl
theorem res11 : kres Tryz.f11.results.toList = some [.mk 2] := by kernel_rfl
/- coffret/catalog.Entries -/
noncomputable section
noncomputable def c12 : Code := codeOf Tryz.f12
def k12_r0 : List KI := [.mk .no (.at (.mk 2)) (.boxN 24 6 (.slot (.mk 0))),
  .mk .no (.at (.mk 4)) (.mv (.con (.int .i64 0)))]
def k12_r1 : List KI := [.mk .no (.at (.mk 5)) (.loadN 6 (.slot (.mk 2))),
  .mk .no (.at (.mk 6)) (.call 11 [(.slot (.mk 5))]),
  .mk .no (.at (.mk 7)) (.mv (.slot (.mk 1))),
  .mk .no (.at (.mk 8)) (.bin .add .add 3 (.tmp 6) (.tmp 7) (.slot (.mk 6)) (.slot (.mk 7))),
  .mk .no (.at (.mk 4)) (.mv (.slot (.mk 8)))]
def k12 : KCode := .seq (.region (ropsOf c12 0) k12_r0) (.seq (.region (ropsOf c12 1) k12_r1) (.ret))
end
theorem k12_eq : kcode env1 ⟨12, 9, false⟩ c12 = k12 := by kernel_rfl
theorem ft12 : getN env1.ft 12 = some (.body Tryz.f12) := by kernel_rfl
theorem body12 : Tryz.f12.body = some c12 := rfl
theorem nt12 : Tryz.f12.ntmps = 9 := rfl
theorem res12 : kres Tryz.f12.results.toList = some [.mk 4] := by kernel_rfl
/- coffret/catalog.Right$1 -/
noncomputable section
noncomputable def c31 : Code := codeOf Tryz.f31
def k31_r0 : List KI := [.mk .no (.at (.mk 2)) (.mv (.con (.bool false)))]
def k31_r1 : List KI := [.mk .no (.at (.mk 3)) (.mv (.slot (.mk 0))),
  .mk .no (.at (.mk 4)) (.bin .leq .leq 21 (.tmp 3) (.const (.int .i32 32)) (.slot (.mk 3)) (.con (.int .i32 32))),
  .mk .no (.at (.mk 5)) (.mv (.slot (.mk 4))),
  .mk (.g (.mk 5) false) (.at (.mk 6)) (.mv (.slot (.mk 0))),
  .mk (.g (.mk 5) false) (.at (.mk 7)) (.bin .gtr .gtr 21 (.tmp 6) (.const (.int .i32 126)) (.slot (.mk 6)) (.con (.int .i32 126))),
  .mk .no (.at (.mk 8)) (.pick (.slot (.mk 5)) (.con (.bool true)) (.slot (.mk 7))),
  .mk .no (.at (.mk 9)) (.mv (.slot (.mk 8))),
  .mk (.g (.mk 9) false) (.at (.mk 10)) (.mv (.slot (.mk 0))),
  .mk (.g (.mk 9) false) (.at (.mk 11)) (.bin .eql .eql 21 (.tmp 10) (.const (.int .i32 36)) (.slot (.mk 10)) (.con (.int .i32 36))),
  .mk .no (.at (.mk 12)) (.pick (.slot (.mk 9)) (.con (.bool true)) (.slot (.mk 11))),
  .mk .no (.at (.mk 2)) (.mv (.slot (.mk 12)))]
def k31 : KCode := .seq (.region (ropsOf c31 0) k31_r0) (.seq (.region (ropsOf c31 1) k31_r1) (.ret))
end
theorem k31_eq : kcode env1 ⟨31, 13, false⟩ c31 = k31 := by kernel_rfl
theorem ft31 : getN env1.ft 31 = some (.body Tryz.f31) := by kernel_rfl
theorem body31 : Tryz.f31.body = some c31 := rfl
theorem nt31 : Tryz.f31.ntmps = 13 := rfl
theorem res31 : kres Tryz.f31.results.toList = some [.mk 2] := by kernel_rfl
/- strings.ContainsFunc -/
noncomputable section
noncomputable def c32 : Code := codeOf Tryz.f32
def k32_r0 : List KI := [.mk .no (.at (.mk 4)) (.mv (.con (.bool false)))]
def k32_r1 : List KI := [.mk .no (.at (.mk 5)) (.mv (.slot (.mk 0))),
  .mk .no (.at (.mk 6)) (.mv (.slot (.mk 1))),
  .mk .no (.at (.mk 7)) (.call 81 [(.slot (.mk 5)), (.slot (.mk 6))]),
  .mk .no (.at (.mk 8)) (.bin .geq .geq 3 (.tmp 7) (.const (.int .i64 0)) (.slot (.mk 7)) (.con (.int .i64 0))),
  .mk .no (.at (.mk 4)) (.mv (.slot (.mk 8)))]
def k32 : KCode := .seq (.region (ropsOf c32 0) k32_r0) (.seq (.region (ropsOf c32 1) k32_r1) (.ret))
end
theorem k32_eq : kcode env1 ⟨32, 9, false⟩ c32 = k32 := by kernel_rfl
theorem ft32 : getN env1.ft 32 = some (.body Tryz.f32) := by kernel_rfl
theorem body32 : Tryz.f32.body = some c32 := rfl
theorem nt32 : Tryz.f32.ntmps = 9 := rfl
theorem res32 : kres Tryz.f32.results.toList = some [.mk 4] := by kernel_rfl
/- strings.IndexFunc -/
noncomputable section
noncomputable def c81 : Code := codeOf Tryz.f81
def k81_r0 : List KI := [.mk .no (.at (.mk 4)) (.mv (.con (.int .i64 0)))]
def k81_r1 : List KI := [.mk .no (.at (.mk 5)) (.mv (.slot (.mk 0))),
  .mk .no (.at (.mk 6)) (.mv (.slot (.mk 1))),
  .mk .no (.at (.mk 7)) (.call 146 [(.slot (.mk 5)), (.slot (.mk 6)), (.con (.bool true))]),
  .mk .no (.at (.mk 4)) (.mv (.slot (.mk 7)))]
def k81 : KCode := .seq (.region (ropsOf c81 0) k81_r0) (.seq (.region (ropsOf c81 1) k81_r1) (.ret))
end
theorem k81_eq : kcode env1 ⟨81, 8, false⟩ c81 = k81 := by kernel_rfl
theorem ft81 : getN env1.ft 81 = some (.body Tryz.f81) := by kernel_rfl
theorem body81 : Tryz.f81.body = some c81 := rfl
theorem nt81 : Tryz.f81.ntmps = 8 := rfl
theorem res81 : kres Tryz.f81.results.toList = some [.mk 4] := by kernel_rfl
/- strings.indexFunc -/
noncomputable section
noncomputable def c146 : Code := codeOf Tryz.f146
def k146_r0 : List KI := [.mk .no (.at (.mk 6)) (.mv (.con (.int .i64 0)))]
def k146_r1 : List KI := [.mk .no (.at (.mk 9)) (.mv (.slot (.mk 0))),
  .slow (operOf c146 1 1)]
def k146_r2 : List KI := [.slow (operOf c146 2 0),
  .mk .no (.at (.mk 12)) (.ext 0 (.slot (.mk 11)))]
def k146_r3 : List KI := [.mk .no (.at (.mk 13)) (.ext 1 (.slot (.mk 11))),
  .mk .no (.at (.mk 14)) (.ext 2 (.slot (.mk 11))),
  .mk .no (.at (.mk 7)) (.mv (.slot (.mk 13))),
  .mk .no (.at (.mk 8)) (.mv (.slot (.mk 14)))]
def k146_r4 : List KI := [.mk .no (.at (.mk 15)) (.mv (.slot (.mk 1))),
  .mk .no (.at (.mk 16)) (.mv (.slot (.mk 8))),
  .mk .no (.at (.mk 17)) (.callV (.slot (.mk 15)) [(.slot (.mk 16))]),
  .mk .no (.at (.mk 18)) (.mv (.slot (.mk 2))),
  .mk .no (.at (.mk 19)) (.bin .eql .eql 4 (.tmp 17) (.tmp 18) (.slot (.mk 17)) (.slot (.mk 18)))]
def k146_r5 : List KI := [.mk .no (.at (.mk 20)) (.mv (.slot (.mk 7))),
  .mk .no (.at (.mk 6)) (.mv (.slot (.mk 20)))]
def k146_B0 : KCode := .seq (.region (ropsOf c146 2) k146_r2) (.seq (.cond (.slot (.mk 12)) (.skip) (.exit 0)) (.block 1 (.seq (.region (ropsOf c146 3) k146_r3) (.seq (.region (ropsOf c146 4) k146_r4) (.cond (.slot (.mk 19)) (.seq (.region (ropsOf c146 5) k146_r5) (.ret)) (.skip))))))
def k146_L0 : KCode := .loop (loopOf c146 0) k146_B0
def k146_r6 : List KI := [.mk .no (.at (.mk 6)) (.mv (.con (.int .i64 (-1))))]
def k146 : KCode := .seq (.region (ropsOf c146 0) k146_r0) (.seq (.seq (.region (ropsOf c146 1) k146_r1) (.block 0 (k146_L0))) (.seq (.region (ropsOf c146 6) k146_r6) (.ret)))
end
theorem k146_eq : kcode env1 ⟨146, 21, false⟩ c146 = k146 := by kernel_rfl
theorem ft146 : getN env1.ft 146 = some (.body Tryz.f146) := by kernel_rfl
theorem body146 : Tryz.f146.body = some c146 := rfl
theorem nt146 : Tryz.f146.ntmps = 21 := rfl
theorem res146 : kres Tryz.f146.results.toList = some [.mk 6] := by kernel_rfl
theorem k146_L0_eq : kcode env1 ⟨146, 21, false⟩ (.loop (loopOf c146 0)) = k146_L0 := by kernel_rfl
end Go.Proofs.YtamlmddkcghhlaaGreatDoor
namespace Go.Proofs.YtamlmddkcghhlaaGreatDoor
open Go Go.Ab

def gb (b : UInt8) : Bool := decide (33 ≤ b.toNat) && (decide (b.toNat ≤ 126) && !(decide (b.toNat = 36)))
def goodL (l : List UInt8) : Bool := l.all gb
def badN (c : Nat) : Bool := !(decide (33 ≤ c) && (decide (c ≤ 126) && !(decide (c = 36))))

theorem get_drop {s l : List UInt8} {b : UInt8} {pos : Nat} (h : s.drop pos = b :: l) : (ByteArray.get! ⟨⟨s⟩⟩ (pos + 0)) = b := by
  show (⟨s⟩ : Array UInt8)[pos + 0]! = b
  have : s[pos]? = some b := by
    have := congrArg (fun x => x[0]?) h
    simpa using this
  obtain ⟨h1, h2⟩ := List.getElem?_eq_some_iff.1 this
  simp [h1, h2]
theorem dec_ascii {s l : List UInt8} {b : UInt8} {pos : Nat} (h : s.drop pos = b :: l) (hb : b.toNat < 128) : Utf8.decode ⟨⟨s⟩⟩ pos = (b.toNat, 1) := by
  unfold Utf8.decode
  simp only [get_drop h]
  rw [if_pos hb]
theorem dec_high {s l : List UInt8} {b : UInt8} {pos : Nat} (h : s.drop pos = b :: l) (hb : ¬ b.toNat < 128) : 126 < (Utf8.decode ⟨⟨s⟩⟩ pos).1 := by
  unfold Utf8.decode
  simp only [get_drop h]
  rw [if_neg hb]
  repeat' split
  all_goals first | (simp only [Utf8.runeError]; omega) | (simp only [Bool.and_eq_true, decide_eq_true_eq] at *; omega)

theorem run31 {h : H} {N c : Nat} {Q : CR → Prop} (hQ : Q (.ok (.bool (badN c)) h false)) : ((recK env1 (N + 1)).call 31 [.int .i32 (c : Nat)] h none).all Q := by
  rw [recK_call]
  refine enter_rule ft31 body31 nt31 k31_eq rfl ?_
  have key : ∀ b, badN c = b → ∀ t : PT AV, (KP.mk 2).get t = some (.bool b) → (leaveK env1 (recK env1 N) Tryz.f31 ⟨t, [], none, false⟩ h).all Q := by
    intro b hb t ht
    rw [hb] at hQ
    exact leave1_rule res31 ht hQ
  by_cases h1 : (c : Int) ≤ 32
  · simp -implicitDefEqProofs only [k31, k31_r0, k31_r1, h1, go_sem, Nat.reduceAdd, Nat.reduceEqDiff, reduceCtorEq, ↓reduceIte, Nat.reduceLT, Nat.reduceMul, Nat.reduceSub, Nat.reduceLeDiff]
    refine key true (by unfold badN; simp; omega) _ ?_
    simp only [KP.get_at, Nat.reduceEqDiff, Nat.one_ne_zero, Nat.zero_ne_one, ↓reduceIte, if_true, if_false, reduceCtorEq]
  · by_cases h2 : (c : Int) > 126
    · simp -implicitDefEqProofs only [k31, k31_r0, k31_r1, h1, h2, go_sem, Nat.reduceAdd, Nat.reduceEqDiff, reduceCtorEq, ↓reduceIte, Nat.reduceLT, Nat.reduceMul, Nat.reduceSub, Nat.reduceLeDiff]
      refine key true (by unfold badN; simp; omega) _ ?_
      simp only [KP.get_at, Nat.reduceEqDiff, Nat.one_ne_zero, Nat.zero_ne_one, ↓reduceIte, if_true, if_false, reduceCtorEq]
    · by_cases h3 : (c : Int) = 36
      · have h3' := eq_true h3
        simp -implicitDefEqProofs only [k31, k31_r0, k31_r1, h1, h2, h3', go_sem, Nat.reduceAdd, Nat.reduceEqDiff, reduceCtorEq, ↓reduceIte, Nat.reduceLT, Nat.reduceMul, Nat.reduceSub, Nat.reduceLeDiff]
        refine key true (by unfold badN; simp; omega) _ ?_
        simp only [KP.get_at, Nat.reduceEqDiff, Nat.one_ne_zero, Nat.zero_ne_one, ↓reduceIte, if_true, if_false, reduceCtorEq]
      · simp -implicitDefEqProofs only [k31, k31_r0, k31_r1, h1, h2, h3, go_sem, Nat.reduceAdd, Nat.reduceEqDiff, reduceCtorEq, ↓reduceIte, Nat.reduceLT, Nat.reduceMul, Nat.reduceSub, Nat.reduceLeDiff]
        refine key false (by unfold badN; simp; omega) _ ?_
        simp only [KP.get_at, Nat.reduceEqDiff, Nat.one_ne_zero, Nat.zero_ne_one, ↓reduceIte, if_true, if_false, reduceCtorEq]
theorem eqlB (h : H) (xo yo : Operand) (a b : Bool) : binA env1 h .eql 4 xo yo (.bool a) (.bool b) = some (.bool (a == b)) := by cases a <;> cases b <;> kernel_rfl
theorem callA31 (h : H) (args : List AV) : callA env1 h 31 args = .call 31 args := by kernel_rfl

theorem good_of {b : UInt8} (hb : b.toNat < 128) : badN b.toNat = !(gb b) := rfl

theorem loop146 {h0 : H} {r : Nat} {s : List UInt8} {defs : List ADef} {pan : Option AV} {rcd : Bool} {Q : Out → Prop} :
    ∀ (vs : List UInt8) (N pos : Nat) (t : PT AV), vs.length ≤ N → s.drop pos = vs → pos ≤ s.length → s.length ≤ 4611686018427387904 →
      (KP.mk 1).get t = some (.func 31 [] []) → (KP.mk 2).get t = some (.bool true) → (KP.mk 10).get t = some (.ptr r 0) →
      (goodL vs = true → ∀ t' p', Q (.ext 0 ⟨t', defs, pan, rcd⟩ (h0.put r (.siter s p')))) →
      (goodL vs = false → ∀ t' p' (n : Nat), (KP.mk 6).get t' = some (.int .i64 (n : Nat)) → Q (.ret ⟨t', defs, pan, rcd⟩ (h0.put r (.siter s p')))) →
      (codeK k146_L0 ⟨env1, recK env1 (N + 1), ⟨146, 21, false⟩⟩ ⟨t, defs, pan, rcd⟩ (h0.put r (.siter s pos))).all Q
  | [], N, pos, t, hN, hv, hp, hs, g1, g2, g10, hQ, _ => by
    have hpos : ¬ pos < s.length := by
      have := congrArg List.length hv
      simp at this
      omega
    have hnx := fun (S : KS) (hS : S.cx.nt = 21) (d : KR) (l : List KI) => next_none (S := S) (d := d) (l := l) (h := h0.put r (.siter s pos)) (o := operOf c146 2 0) (D := 11) rfl rfl (by rw [hS]; decide) rfl g10 (H.get_put_self _ _ _) hpos
    have hnx' := fun (d : KR) (l : List KI) => hnx ⟨env1, recK env1 (N + 1), ⟨146, 21, false⟩, ropsOf c146 2, true⟩ rfl d l
    simp -implicitDefEqProofs only [k146_L0, k146_B0, k146_r2, hnx', lget, go_sem, Nat.reduceAdd, Nat.reduceEqDiff, reduceCtorEq, ↓reduceIte, Nat.reduceLT, Nat.reduceMul, Nat.reduceSub, Nat.reduceLeDiff]
    exact hQ rfl _ _
  | b :: l, N, pos, t, hN, hv, hp, hs, g1, g2, g10, hQ, hQ2 => by
    obtain ⟨N, rfl⟩ : ∃ m, N = m + 1 := ⟨N - 1, by simp at hN; omega⟩
    simp only [List.length_cons] at hN
    have hlen := congrArg List.length hv
    simp only [List.length_drop, List.length_cons] at hlen
    have hpos : pos < s.length := by omega
    have hnx := fun (S : KS) (hS : S.cx.nt = 21) (d : KR) (l : List KI) => next_more (S := S) (d := d) (l := l) (h := h0.put r (.siter s pos)) (o := operOf c146 2 0) (D := 11) rfl rfl (by rw [hS]; decide) rfl g10 (H.get_put_self _ _ _) hpos
    have hnx' := fun (d : KR) (l : List KI) => hnx ⟨env1, recK env1 (N + 1 + 1), ⟨146, 21, false⟩, ropsOf c146 2, true⟩ rfl d l
    rw [H.put_put] at hnx'
    have bad : ∀ {c w : Nat}, Utf8.decode ⟨⟨s⟩⟩ pos = (c, w) → badN c = true → gb b = false → (codeK k146_L0 ⟨env1, recK env1 (N + 1 + 1), ⟨146, 21, false⟩⟩ ⟨t, defs, pan, rcd⟩ (h0.put r (.siter s pos))).all Q := by
      intro c w hd hb hg
      rw [hd] at hnx'
      simp -implicitDefEqProofs only [k146_L0, k146_B0, k146_r2, k146_r3, k146_r4, k146_r5, hnx', lget, g1, g2, callA31, go_sem, Nat.reduceAdd, Nat.reduceEqDiff, reduceCtorEq, ↓reduceIte, Nat.reduceLT, Nat.reduceMul, Nat.reduceSub, Nat.reduceLeDiff]
      repeat with_reducible refine bindK_all ?_
      refine run31 (N := N + 1) ?_
      rw [hb]
      simp -implicitDefEqProofs only [k146_r5, g2, eqlB, beq_self_eq_true, go_sem, Nat.reduceAdd, Nat.reduceEqDiff, reduceCtorEq, ↓reduceIte, Nat.reduceLT, Nat.reduceMul, Nat.reduceSub, Nat.reduceLeDiff]
      exact hQ2 (by show (gb b && goodL l) = false; rw [hg]; rfl) _ _ pos (by simp only [KP.get_at, Nat.reduceEqDiff, Nat.one_ne_zero, Nat.zero_ne_one, ↓reduceIte, if_true, if_false, reduceCtorEq])
    by_cases h128 : b.toNat < 128
    · have hd := dec_ascii hv h128
      cases hg : gb b with
      | false => exact bad hd (by rw [good_of h128, hg]; rfl) hg
      | true =>
        have hb : badN b.toNat = false := by rw [good_of h128, hg]; rfl
        rw [hd] at hnx'
        have hbt : (false == true) = false := rfl
        simp -implicitDefEqProofs only [k146_L0, k146_B0, k146_r2, k146_r3, k146_r4, k146_r5, hnx', lget, g1, g2, callA31, go_sem, Nat.reduceAdd, Nat.reduceEqDiff, reduceCtorEq, ↓reduceIte, Nat.reduceLT, Nat.reduceMul, Nat.reduceSub, Nat.reduceLeDiff]
        repeat with_reducible refine bindK_all ?_
        refine run31 (N := N + 1) ?_
        rw [hb]
        simp -implicitDefEqProofs only [k146_r5, g2, eqlB, hbt, go_sem, Nat.reduceAdd, Nat.reduceEqDiff, reduceCtorEq, ↓reduceIte, Nat.reduceLT, Nat.reduceMul, Nat.reduceSub, Nat.reduceLeDiff]
        rw [recK_code, k146_L0_eq]
        refine loop146 l N (pos + 1) _ (by omega) (by rw [← List.drop_drop, hv]; rfl) (by omega) hs ?_ ?_ ?_ (fun hgl => hQ (by show (gb b && goodL l) = true; rw [hg, hgl]; rfl)) (fun hgl => hQ2 (by show (gb b && goodL l) = false; rw [hg, hgl]; rfl))
        · simp only [KP.get_at, Nat.reduceEqDiff, Nat.one_ne_zero, Nat.zero_ne_one, ↓reduceIte, if_true, if_false, reduceCtorEq]; exact g1
        · simp only [KP.get_at, Nat.reduceEqDiff, Nat.one_ne_zero, Nat.zero_ne_one, ↓reduceIte, if_true, if_false, reduceCtorEq]; exact g2
        · simp only [KP.get_at, Nat.reduceEqDiff, Nat.one_ne_zero, Nat.zero_ne_one, ↓reduceIte, if_true, if_false, reduceCtorEq]; exact g10
    · have hh := dec_high hv h128
      have hg : gb b = false := by
        unfold gb
        have : ¬ b.toNat ≤ 126 := by omega
        simp [this]
      refine bad (c := (Utf8.decode ⟨⟨s⟩⟩ pos).1) (w := (Utf8.decode ⟨⟨s⟩⟩ pos).2) rfl ?_ hg
      unfold badN
      have : ¬ (Utf8.decode ⟨⟨s⟩⟩ pos).1 ≤ 126 := by omega
      simp [this]

theorem tt9 : ∃ ti, env1.tt.get 9 = some ti ∧ ti.kind = .str := by
  have h : (env1.tt.get 9).map (·.kind) = some .str := by kernel_rfl
  cases hx : env1.tt.get 9 with
  | none => rw [hx] at h; cases h
  | some ti =>
    rw [hx] at h
    exact ⟨ti, rfl, by injection h⟩
theorem run146 {h : H} {N : Nat} {s : List UInt8} (hs : s.length ≤ 4611686018427387904) (hN : s.length ≤ N) {Q : CR → Prop} (hg : goodL s = true → ∀ p, Q (.ok (.int .i64 (-1)) (h.new (.siter s p)) false)) (hb : goodL s = false → ∀ p n, Q (.ok (.int .i64 (n : Nat)) (h.new (.siter s p)) false)) :
    ((recK env1 (N + 2)).call 146 [.str s, .func 31 [] [], .bool true] h none).all Q := by
  obtain ⟨ti, ht, hk⟩ := tt9
  rw [recK_call]
  refine enter_rule ft146 body146 nt146 k146_eq rfl ?_
  have hr := fun (S : KS) (hS : S.cx.nt = 21) (he : S.e = env1) (t : PT AV) (d : KR) (l : List KI) (hs : (KP.mk 9).get t = some (.str s)) => range_str (S := S) (d := d) (l := l) (h := h) (o := operOf c146 1 1) (D := 10) rfl rfl (by rw [hS]; decide) rfl (by rw [he]; exact ht) hk hs
  have hr' := fun (t : PT AV) (d : KR) (l : List KI) (hs : (KP.mk 9).get t = some (.str s)) => hr ⟨env1, recK env1 (N + 1), ⟨146, 21, false⟩, ropsOf c146 1, true⟩ rfl rfl t d l hs
  simp -implicitDefEqProofs only [k146, k146_r0, k146_r1, hr', go_sem, Nat.reduceAdd, Nat.reduceEqDiff, reduceCtorEq, ↓reduceIte, Nat.reduceLT, Nat.reduceMul, Nat.reduceSub, Nat.reduceLeDiff]
  repeat with_reducible refine bindK_all ?_
  rw [← H.new_put h (.siter s 0) (.siter s 0)]
  refine loop146 s N 0 _ hN rfl (Nat.zero_le _) hs ?_ ?_ ?_ ?_ ?_
  · simp only [KP.get_at, Nat.reduceEqDiff, Nat.one_ne_zero, Nat.zero_ne_one, ↓reduceIte, if_true, if_false, reduceCtorEq]
  · simp only [KP.get_at, Nat.reduceEqDiff, Nat.one_ne_zero, Nat.zero_ne_one, ↓reduceIte, if_true, if_false, reduceCtorEq]
  · simp only [KP.get_at, Nat.reduceEqDiff, Nat.one_ne_zero, Nat.zero_ne_one, ↓reduceIte, if_true, if_false, reduceCtorEq]
  · intro hgl t' p'
    simp -implicitDefEqProofs only [k146_r6, go_sem, Nat.reduceAdd, Nat.reduceEqDiff, reduceCtorEq, ↓reduceIte, Nat.reduceLT, Nat.reduceMul, Nat.reduceSub, Nat.reduceLeDiff]
    rw [H.new_put]
    exact leave1_rule res146 (by simp only [KP.get_at, Nat.reduceEqDiff, Nat.one_ne_zero, Nat.zero_ne_one, ↓reduceIte, if_true, if_false, reduceCtorEq]) (hg hgl p')
  · intro hgl t' p' n hn
    simp -implicitDefEqProofs only [go_sem, Nat.reduceAdd, Nat.reduceEqDiff, reduceCtorEq, ↓reduceIte, Nat.reduceLT, Nat.reduceMul, Nat.reduceSub, Nat.reduceLeDiff]
    rw [H.new_put]
    exact leave1_rule res146 hn (hb hgl p' n)
end Go.Proofs.YtamlmddkcghhlaaGreatDoor
namespace Go.Proofs.YtamlmddkcghhlaaGreatDoor
open Go Go.Ab

/-- A heap that has grown at most. -/
def Grew (h h' : H) : Prop := h.sz ≤ h'.sz ∧ ∀ b, b < h.sz → h'.get b = h.get b
theorem Grew.refl (h : H) : Grew h h := ⟨Nat.le_refl _, fun _ _ => rfl⟩
theorem Grew.new (h : H) (o : AO) : Grew h (h.new o) := ⟨Nat.le_succ _, fun b hb => H.get_new_ne _ _ (by omega)⟩
theorem Grew.trans {a b c : H} (x : Grew a b) (y : Grew b c) : Grew a c := ⟨Nat.le_trans x.1 y.1, fun i hi => (y.2 i (Nat.lt_of_lt_of_le hi x.1)).trans (x.2 i hi)⟩
def okName (s : List UInt8) : Bool := decide (1 ≤ s.length) && (decide (s.length ≤ 100) && goodL s)

theorem run81 {h : H} {N : Nat} {s : List UInt8} (hs : s.length ≤ 4611686018427387904) (hN : s.length ≤ N) {Q : CR → Prop} (hg : goodL s = true → ∀ p, Q (.ok (.int .i64 (-1)) (h.new (.siter s p)) false)) (hb : goodL s = false → ∀ p n, Q (.ok (.int .i64 (n : Nat)) (h.new (.siter s p)) false)) :
    ((recK env1 (N + 3)).call 81 [.str s, .func 31 [] []] h none).all Q := by
  rw [recK_call]
  refine enter_rule ft81 body81 nt81 k81_eq rfl ?_
  simp -implicitDefEqProofs only [k81, k81_r0, k81_r1, go_sem, Nat.reduceAdd, Nat.reduceEqDiff, reduceCtorEq, ↓reduceIte, Nat.reduceLT, Nat.reduceMul, Nat.reduceSub, Nat.reduceLeDiff]
  repeat with_reducible refine bindK_all ?_
  refine run146 hs hN (fun hgl p => ?_) (fun hgl p n => ?_)
  · simp -implicitDefEqProofs only [go_sem, Nat.reduceAdd, Nat.reduceEqDiff, reduceCtorEq, ↓reduceIte, Nat.reduceLT, Nat.reduceMul, Nat.reduceSub, Nat.reduceLeDiff]
    exact leave1_rule res81 (by simp only [KP.get_at, Nat.reduceEqDiff, Nat.one_ne_zero, Nat.zero_ne_one, ↓reduceIte, if_true, if_false, reduceCtorEq]) (hg hgl p)
  · simp -implicitDefEqProofs only [go_sem, Nat.reduceAdd, Nat.reduceEqDiff, reduceCtorEq, ↓reduceIte, Nat.reduceLT, Nat.reduceMul, Nat.reduceSub, Nat.reduceLeDiff]
    exact leave1_rule res81 (by simp only [KP.get_at, Nat.reduceEqDiff, Nat.one_ne_zero, Nat.zero_ne_one, ↓reduceIte, if_true, if_false, reduceCtorEq]) (hb hgl p n)
theorem run32 {h : H} {N : Nat} {s : List UInt8} (hs : s.length ≤ 4611686018427387904) (hN : s.length ≤ N) {Q : CR → Prop} (hQ : ∀ p, Q (.ok (.bool (!(goodL s))) (h.new (.siter s p)) false)) :
    ((recK env1 (N + 4)).call 32 [.str s, .func 31 [] []] h none).all Q := by
  rw [recK_call]
  refine enter_rule ft32 body32 nt32 k32_eq rfl ?_
  simp -implicitDefEqProofs only [k32, k32_r0, k32_r1, go_sem, Nat.reduceAdd, Nat.reduceEqDiff, reduceCtorEq, ↓reduceIte, Nat.reduceLT, Nat.reduceMul, Nat.reduceSub, Nat.reduceLeDiff]
  repeat with_reducible refine bindK_all ?_
  refine run81 hs hN (fun hgl p => ?_) (fun hgl p n => ?_)
  · have h1 : ¬ ((-1 : Int) ≥ 0) := by decide
    have := hQ p
    rw [hgl] at this
    simp -implicitDefEqProofs only [h1, go_sem, Nat.reduceAdd, Nat.reduceEqDiff, reduceCtorEq, ↓reduceIte, Nat.reduceLT, Nat.reduceMul, Nat.reduceSub, Nat.reduceLeDiff]
    exact leave1_rule res32 (by simp only [KP.get_at, Nat.reduceEqDiff, Nat.one_ne_zero, Nat.zero_ne_one, ↓reduceIte, if_true, if_false, reduceCtorEq]; rfl) this
  · have h1 : ((n : Int) ≥ 0) := by omega
    have := hQ p
    rw [hgl] at this
    simp -implicitDefEqProofs only [h1, go_sem, Nat.reduceAdd, Nat.reduceEqDiff, reduceCtorEq, ↓reduceIte, Nat.reduceLT, Nat.reduceMul, Nat.reduceSub, Nat.reduceLeDiff]
    exact leave1_rule res32 (by simp only [KP.get_at, Nat.reduceEqDiff, Nat.one_ne_zero, Nat.zero_ne_one, ↓reduceIte, if_true, if_false, reduceCtorEq]; rfl) this
theorem neqE (h : H) (xo yo : Operand) : binA env1 h .neq 9 xo yo (.str []) (.str []) = some (.bool false) := by kernel_rfl
theorem neqC (h : H) (xo yo : Operand) (b : UInt8) (l : List UInt8) : binA env1 h .neq 9 xo yo (.str (b :: l)) (.str []) = some (.bool true) := by kernel_rfl
theorem run9 {h : H} {N : Nat} {s : List UInt8} {Q : CR → Prop} (hQ : ∀ h', Grew h h' → Q (.ok (.bool (okName s)) h' false)) : ((recK env1 (N + 105)).call 9 [.str s] h none).all Q := by
  rw [recK_call]
  refine enter_rule ft9 body9 nt9 k9_eq rfl ?_
  cases s with
  | nil =>
    simp -implicitDefEqProofs only [k9, k9_r0, k9_r1, k9_r2, neqE, go_sem, Nat.reduceAdd, Nat.reduceEqDiff, reduceCtorEq, ↓reduceIte, Nat.reduceLT, Nat.reduceMul, Nat.reduceSub, Nat.reduceLeDiff]
    exact leave1_rule res9 (by simp only [KP.get_at, Nat.reduceEqDiff, Nat.one_ne_zero, Nat.zero_ne_one, ↓reduceIte, if_true, if_false, reduceCtorEq]; rfl) (hQ h (Grew.refl h))
  | cons b l =>
    by_cases h1 : ((b :: l).length : Int) ≤ 100
    · simp -implicitDefEqProofs only [k9, k9_r0, k9_r1, k9_r2, neqC, h1, go_sem, Nat.reduceAdd, Nat.reduceEqDiff, reduceCtorEq, ↓reduceIte, Nat.reduceLT, Nat.reduceMul, Nat.reduceSub, Nat.reduceLeDiff]
      repeat with_reducible refine bindK_all ?_
      refine run32 (N := N + 100) (by omega) (by omega) (fun p => ?_)
      have := hQ _ (Grew.new h (.siter (b :: l) p))
      have ho : okName (b :: l) = goodL (b :: l) := by
        unfold okName
        rw [show decide (1 ≤ (b :: l).length) = true by simp, show decide ((b :: l).length ≤ 100) = true by simpa using (by omega : (b :: l).length ≤ 100)]
        rfl
      rw [ho] at this
      cases hg : goodL (b :: l) with
      | true =>
        rw [hg] at this
        simp -implicitDefEqProofs only [go_sem, Nat.reduceAdd, Nat.reduceEqDiff, reduceCtorEq, ↓reduceIte, Nat.reduceLT, Nat.reduceMul, Nat.reduceSub, Nat.reduceLeDiff]
        exact leave1_rule res9 (by simp only [KP.get_at, Nat.reduceEqDiff, Nat.one_ne_zero, Nat.zero_ne_one, ↓reduceIte, if_true, if_false, reduceCtorEq]) this
      | false =>
        rw [hg] at this
        simp -implicitDefEqProofs only [go_sem, Nat.reduceAdd, Nat.reduceEqDiff, reduceCtorEq, ↓reduceIte, Nat.reduceLT, Nat.reduceMul, Nat.reduceSub, Nat.reduceLeDiff]
        exact leave1_rule res9 (by simp only [KP.get_at, Nat.reduceEqDiff, Nat.one_ne_zero, Nat.zero_ne_one, ↓reduceIte, if_true, if_false, reduceCtorEq]) this
    · simp -implicitDefEqProofs only [k9, k9_r0, k9_r1, k9_r2, neqC, h1, go_sem, Nat.reduceAdd, Nat.reduceEqDiff, reduceCtorEq, ↓reduceIte, Nat.reduceLT, Nat.reduceMul, Nat.reduceSub, Nat.reduceLeDiff]
      have ho : okName (b :: l) = false := by
        unfold okName
        rw [show decide ((b :: l).length ≤ 100) = false by simpa using (by omega : ¬ (b :: l).length ≤ 100)]
        simp
      have := hQ h (Grew.refl h)
      rw [ho] at this
      exact leave1_rule res9 (by simp only [KP.get_at, Nat.reduceEqDiff, Nat.one_ne_zero, Nat.zero_ne_one, ↓reduceIte, if_true, if_false, reduceCtorEq]) this

theorem loop10 {h : H} {s : List UInt8} {defs : List ADef} {pan : Option AV} {rcd : Bool} {Q : Out → Prop} (hs : s.length ≤ 100) :
    ∀ (vs : List UInt8) (N pos : Nat) (t : PT AV), vs.length ≤ N → s.drop pos = vs → pos ≤ s.length →
      (KP.mk 0).get t = some (.str s) → (KP.mk 3).get t = some (.int .i64 (pos : Nat)) →
      (goodL vs = true → ∀ t', Q (.ext 0 ⟨t', defs, pan, rcd⟩ h)) →
      (goodL vs = false → ∀ t', (KP.mk 2).get t' = some (.bool false) → Q (.ret ⟨t', defs, pan, rcd⟩ h)) →
      (codeK k10_L0 ⟨env1, recK env1 N, ⟨10, 34, false⟩⟩ ⟨t, defs, pan, rcd⟩ h).all Q
  | [], N, pos, t, hN, hv, hp, g0, g3, hQ, _ => by
    have hpos : ¬ ((pos : Int) < (s.length : Int)) := by
      have := congrArg List.length hv
      simp at this
      omega
    simp -implicitDefEqProofs only [k10_L0, k10_B0, k10_r4, g0, g3, hpos, go_sem, Nat.reduceAdd, Nat.reduceEqDiff, reduceCtorEq, ↓reduceIte, Nat.reduceLT, Nat.reduceMul, Nat.reduceSub, Nat.reduceLeDiff]
    exact hQ rfl _
  | b :: l, N, pos, t, hN, hv, hp, g0, g3, hQ, hQ2 => by
    obtain ⟨N, rfl⟩ : ∃ m, N = m + 1 := ⟨N - 1, by simp at hN; omega⟩
    simp only [List.length_cons] at hN
    have hlen := congrArg List.length hv
    simp only [List.length_drop, List.length_cons] at hlen
    have hpos : ((pos : Int) < (s.length : Int)) := by omega
    have hat : lget s pos = some b := by
      rw [lget_eq]
      have := congrArg (fun x => x[0]?) hv
      simpa using this
    have hu : ofU8 b = .int .u8 (b.toNat : Nat) := rfl
    have hadd : IntKind.i64.wrap ((pos : Int) + 1) = ((pos + 1 : Nat) : Int) := wrap_i64 (n := pos + 1) (by omega)
    have bad : gb b = false → goodL (b :: l) = false := fun hg => by show (gb b && goodL l) = false; rw [hg]; rfl
    by_cases h1 : (b.toNat : Int) < 33
    · simp -implicitDefEqProofs only [k10_L0, k10_B0, k10_r4, k10_r6, k10_r7, g0, g3, hpos, hat, hu, h1, go_sem, Nat.reduceAdd, Nat.reduceEqDiff, reduceCtorEq, ↓reduceIte, Nat.reduceLT, Nat.reduceMul, Nat.reduceSub, Nat.reduceLeDiff]
      exact hQ2 (bad (by unfold gb; rw [show decide (33 ≤ b.toNat) = false from decide_eq_false (by omega)]; rfl)) _ (by simp only [KP.get_at, Nat.reduceEqDiff, Nat.one_ne_zero, Nat.zero_ne_one, ↓reduceIte, if_true, if_false, reduceCtorEq])
    · by_cases h2 : (b.toNat : Int) > 126
      · simp -implicitDefEqProofs only [k10_L0, k10_B0, k10_r4, k10_r6, k10_r7, g0, g3, hpos, hat, hu, h1, h2, go_sem, Nat.reduceAdd, Nat.reduceEqDiff, reduceCtorEq, ↓reduceIte, Nat.reduceLT, Nat.reduceMul, Nat.reduceSub, Nat.reduceLeDiff]
        exact hQ2 (bad (by unfold gb; rw [show decide (b.toNat ≤ 126) = false from decide_eq_false (by omega)]; simp)) _ (by simp only [KP.get_at, Nat.reduceEqDiff, Nat.one_ne_zero, Nat.zero_ne_one, ↓reduceIte, if_true, if_false, reduceCtorEq])
      · by_cases h3 : (b.toNat : Int) = 36
        · have h3' := eq_true h3
          simp -implicitDefEqProofs only [k10_L0, k10_B0, k10_r4, k10_r6, k10_r7, g0, g3, hpos, hat, hu, h1, h2, h3', go_sem, Nat.reduceAdd, Nat.reduceEqDiff, reduceCtorEq, ↓reduceIte, Nat.reduceLT, Nat.reduceMul, Nat.reduceSub, Nat.reduceLeDiff]
          exact hQ2 (bad (by unfold gb; rw [show decide (b.toNat = 36) = true from decide_eq_true (by omega)]; simp)) _ (by simp only [KP.get_at, Nat.reduceEqDiff, Nat.one_ne_zero, Nat.zero_ne_one, ↓reduceIte, if_true, if_false, reduceCtorEq])
        · have hg : gb b = true := by
            unfold gb
            rw [show decide (33 ≤ b.toNat) = true from decide_eq_true (by omega), show decide (b.toNat ≤ 126) = true from decide_eq_true (by omega), show decide (b.toNat = 36) = false from decide_eq_false (by omega)]
            rfl
          simp -implicitDefEqProofs only [k10_L0, k10_B0, k10_r4, k10_r5, k10_r6, k10_r7, g0, g3, hpos, hat, hu, h1, h2, h3, hadd, go_sem, Nat.reduceAdd, Nat.reduceEqDiff, reduceCtorEq, ↓reduceIte, Nat.reduceLT, Nat.reduceMul, Nat.reduceSub, Nat.reduceLeDiff]
          rw [recK_code, k10_L0_eq]
          refine loop10 hs l N (pos + 1) _ (by omega) (by rw [← List.drop_drop, hv]; rfl) (by omega) ?_ ?_ (fun hgl => hQ (by show (gb b && goodL l) = true; rw [hg, hgl]; rfl)) (fun hgl => hQ2 (by show (gb b && goodL l) = false; rw [hg, hgl]; rfl))
          · simp only [KP.get_at, Nat.reduceEqDiff, Nat.one_ne_zero, Nat.zero_ne_one, ↓reduceIte, if_true, if_false, reduceCtorEq]; exact g0
          · simp only [KP.get_at, Nat.reduceEqDiff, Nat.one_ne_zero, Nat.zero_ne_one, ↓reduceIte, if_true, if_false, reduceCtorEq]
theorem run10 {h : H} {N : Nat} {s : List UInt8} {Q : CR → Prop} (hQ : Q (.ok (.bool (okName s)) h false)) : ((recK env1 (N + 101)).call 10 [.str s] h none).all Q := by
  rw [recK_call]
  refine enter_rule ft10 body10 nt10 k10_eq rfl ?_
  have key : ∀ b, okName s = b → ∀ t : PT AV, (KP.mk 2).get t = some (.bool b) → (leaveK env1 (recK env1 (N + 100)) Tryz.f10 ⟨t, [], none, false⟩ h).all Q := by
    intro b hb t ht
    rw [hb] at hQ
    exact leave1_rule res10 ht hQ
  by_cases h1 : (s.length : Int) < 1
  · simp -implicitDefEqProofs only [k10, k10_r0, k10_r1, k10_r2, h1, go_sem, Nat.reduceAdd, Nat.reduceEqDiff, reduceCtorEq, ↓reduceIte, Nat.reduceLT, Nat.reduceMul, Nat.reduceSub, Nat.reduceLeDiff]
    refine key false (by unfold okName; rw [show decide (1 ≤ s.length) = false from decide_eq_false (by omega)]; rfl) _ ?_
    simp only [KP.get_at, Nat.reduceEqDiff, Nat.one_ne_zero, Nat.zero_ne_one, ↓reduceIte, if_true, if_false, reduceCtorEq]
  · by_cases h2 : (s.length : Int) > 100
    · simp -implicitDefEqProofs only [k10, k10_r0, k10_r1, k10_r2, h1, h2, go_sem, Nat.reduceAdd, Nat.reduceEqDiff, reduceCtorEq, ↓reduceIte, Nat.reduceLT, Nat.reduceMul, Nat.reduceSub, Nat.reduceLeDiff]
      refine key false (by unfold okName; rw [show decide (s.length ≤ 100) = false from decide_eq_false (by omega)]; simp) _ ?_
      simp only [KP.get_at, Nat.reduceEqDiff, Nat.one_ne_zero, Nat.zero_ne_one, ↓reduceIte, if_true, if_false, reduceCtorEq]
    · have ho : okName s = goodL s := by
        unfold okName
        rw [show decide (1 ≤ s.length) = true from decide_eq_true (by omega), show decide (s.length ≤ 100) = true from decide_eq_true (by omega)]
        rfl
      simp -implicitDefEqProofs only [k10, k10_r0, k10_r1, k10_r2, k10_r3, h1, h2, go_sem, Nat.reduceAdd, Nat.reduceEqDiff, reduceCtorEq, ↓reduceIte, Nat.reduceLT, Nat.reduceMul, Nat.reduceSub, Nat.reduceLeDiff]
      repeat with_reducible refine bindK_all ?_
      refine loop10 (by omega) s (N + 100) 0 _ (by omega) rfl (Nat.zero_le _) ?_ ?_ ?_ ?_
      · simp only [KP.get_at, Nat.reduceEqDiff, Nat.one_ne_zero, Nat.zero_ne_one, ↓reduceIte, if_true, if_false, reduceCtorEq]
      · simp only [KP.get_at, Nat.reduceEqDiff, Nat.one_ne_zero, Nat.zero_ne_one, ↓reduceIte, if_true, if_false, reduceCtorEq]; rfl
      · intro hg t'
        simp -implicitDefEqProofs only [k10_r8, go_sem, Nat.reduceAdd, Nat.reduceEqDiff, reduceCtorEq, ↓reduceIte, Nat.reduceLT, Nat.reduceMul, Nat.reduceSub, Nat.reduceLeDiff]
        refine key true (by rw [ho, hg]) _ ?_
        simp only [KP.get_at, Nat.reduceEqDiff, Nat.one_ne_zero, Nat.zero_ne_one, ↓reduceIte, if_true, if_false, reduceCtorEq]
      · intro hg t' ht'
        simp -implicitDefEqProofs only [go_sem, Nat.reduceAdd, Nat.reduceEqDiff, reduceCtorEq, ↓reduceIte, Nat.reduceLT, Nat.reduceMul, Nat.reduceSub, Nat.reduceLeDiff]
        exact key false (by rw [ho, hg]) _ ht'
end Go.Proofs.YtamlmddkcghhlaaGreatDoor
namespace Go.Proofs.YtamlmddkcghhlaaGreatDoor
open Go Go.Ab

def catRow (cs : List AV) : Row := ⟨cs, 6, 24, false, 6, true, false⟩
theorem run11 {h : H} {N : Nat} {c0 c2 c3 c4 c5 : AV} {sz : Int} (h1 : allOne [c0, .int .i64 sz, c2, c3, c4, c5] = true) {Q : CR → Prop} (hQ : ∀ h', Grew h h' → Q (.ok (.int .i64 (IntKind.i64.wrap (16 * sz))) h' false)) :
    ((recK env1 (N + 1)).call 11 [.agg [c0, .int .i64 sz, c2, c3, c4, c5]] h none).all Q := by
  rw [recK_call]
  refine enter_rule ft11 body11 nt11 k11_eq rfl ?_
  have hb := fun (k : KK) => h_boxNa h k 24 6 (cs := [c0, .int .i64 sz, c2, c3, c4, c5]) rfl h1
  generalize hh1 : h.new (.row ⟨[c0, .int .i64 sz, c2, c3, c4, c5], 6, 24, false, 6, true, false⟩) = h2 at hb
  have hr : h2.get h.sz = some (.row ⟨[c0, .int .i64 sz, c2, c3, c4, c5], 6, 24, false, 6, true, false⟩) := by rw [← hh1, H.get_new_self]
  have hg : Grew h h2 := by rw [← hh1]; exact Grew.new _ _
  simp -implicitDefEqProofs only [k11, k11_r0, k11_r1, hb, s_row hr, lget, go_sem, go_sem, Nat.reduceAdd, Nat.reduceEqDiff, reduceCtorEq, ↓reduceIte, Nat.reduceLT, Nat.reduceMul, Nat.reduceSub, Nat.reduceLeDiff]
  exact leave1_rule res11 (by simp only [KP.get_at, Nat.reduceEqDiff, Nat.one_ne_zero, Nat.zero_ne_one, ↓reduceIte, if_true, if_false, reduceCtorEq]) (hQ _ hg)
theorem run12 {h : H} {N : Nat} {c0 c2 c3 c4 c5 : AV} {sz n : Int} (h1 : allOne [c0, .int .i64 sz, c2, c3, c4, c5] = true) {Q : CR → Prop} (hQ : ∀ h', Grew h h' → Q (.ok (.int .i64 (IntKind.i64.wrap (IntKind.i64.wrap (16 * sz) + n))) h' false)) :
    ((recK env1 (N + 2)).call 12 [.agg [c0, .int .i64 sz, c2, c3, c4, c5], .int .i64 n] h none).all Q := by
  rw [recK_call]
  refine enter_rule ft12 body12 nt12 k12_eq rfl ?_
  have hb := fun (k : KK) => h_boxNa h k 24 6 (cs := [c0, .int .i64 sz, c2, c3, c4, c5]) rfl h1
  generalize hh1 : h.new (.row ⟨[c0, .int .i64 sz, c2, c3, c4, c5], 6, 24, false, 6, true, false⟩) = h2 at hb
  have hr : h2.get h.sz = some (.row ⟨[c0, .int .i64 sz, c2, c3, c4, c5], 6, 24, false, 6, true, false⟩) := by rw [← hh1, H.get_new_self]
  have hg : Grew h h2 := by rw [← hh1]; exact Grew.new _ _
  have hl : lpart 0 6 [c0, .int .i64 sz, c2, c3, c4, c5] = some [c0, .int .i64 sz, c2, c3, c4, c5] := rfl
  simp -implicitDefEqProofs only [k12, k12_r0, k12_r1, hb, s_row hr, hl, go_sem, go_sem, Nat.reduceAdd, Nat.reduceEqDiff, reduceCtorEq, ↓reduceIte, Nat.reduceLT, Nat.reduceMul, Nat.reduceSub, Nat.reduceLeDiff]
  repeat with_reducible refine bindK_all ?_
  refine run11 (N := N) h1 (fun h' hg' => ?_)
  simp -implicitDefEqProofs only [go_sem, Nat.reduceAdd, Nat.reduceEqDiff, reduceCtorEq, ↓reduceIte, Nat.reduceLT, Nat.reduceMul, Nat.reduceSub, Nat.reduceLeDiff]
  exact leave1_rule res12 (by simp only [KP.get_at, Nat.reduceEqDiff, Nat.one_ne_zero, Nat.zero_ne_one, ↓reduceIte, if_true, if_false, reduceCtorEq]) (hQ _ (hg.trans hg'))

theorem run3 {h : H} {N : Nat} {s : List UInt8} {c0 c2 c3 c4 c5 : AV} {sz n : Int} {h1 : H} (ho : allOne [c0, .int .i64 sz, c2, c3, c4, c5] = true)
    (haw : (recK env1 (N + 105)).call 8 [] (h.new (.row (catRow [c0, .int .i64 sz, c2, c3, c4, c5]))) none = .ret (.ok (.bool true) h1 false)) (hz : h.sz < h1.sz) (hr1 : h1.get h.sz = some (.row (catRow [c0, .int .i64 sz, c2, c3, c4, c5])))
    {Q : CR → Prop} (hQ : ∀ h', Grew h1 h' → Q (.ok (.bool true) h' false)) :
    ((recK env1 (N + 106)).call 3 [.str s, .agg [c0, .int .i64 sz, c2, c3, c4, c5], .int .i64 n] h none).all Q := by
  rw [recK_call]
  refine enter_rule ft3 body3 nt3 k3_eq rfl ?_
  have hb := fun (k : KK) => h_boxNa h k 24 6 (cs := [c0, .int .i64 sz, c2, c3, c4, c5]) rfl ho
  have hl : lpart 0 6 [c0, .int .i64 sz, c2, c3, c4, c5] = some [c0, .int .i64 sz, c2, c3, c4, c5] := rfl
  have hbt : (true == true) = true := rfl
  have row : ∀ h', Grew h1 h' → ∀ k, rowK h' h.sz k = k ⟨[c0, .int .i64 sz, c2, c3, c4, c5], 6, 24, false, 6, true, false⟩ := fun h' hg k => s_row (by rw [hg.2 _ hz, hr1]; rfl) k
  simp -implicitDefEqProofs only [k3, k3_r0, k3_r1, hb, go_sem, go_sem, Nat.reduceAdd, Nat.reduceEqDiff, reduceCtorEq, ↓reduceIte, Nat.reduceLT, Nat.reduceMul, Nat.reduceSub, Nat.reduceLeDiff]
  repeat with_reducible refine bindK_all ?_
  change T.all _ ((recK env1 (N + 105)).call 8 [] (h.new (.row (catRow [c0, .int .i64 sz, c2, c3, c4, c5]))) none)
  rw [haw]
  show T.all _ (kRet _ _ _ _ _)
  simp -implicitDefEqProofs only [k3_r2, go_sem, Nat.reduceAdd, Nat.reduceEqDiff, reduceCtorEq, ↓reduceIte, Nat.reduceLT, Nat.reduceMul, Nat.reduceSub, Nat.reduceLeDiff]
  repeat with_reducible refine bindK_all ?_
  refine run9 (N := N) (fun h2 g2 => ?_)
  have r2 := row h2 g2
  simp -implicitDefEqProofs only [go_sem, Nat.reduceAdd, Nat.reduceEqDiff, reduceCtorEq, ↓reduceIte, Nat.reduceLT, Nat.reduceMul, Nat.reduceSub, Nat.reduceLeDiff]
  repeat with_reducible refine bindK_all ?_
  refine run10 (N := N + 4) ?_
  have hbb : (okName s == okName s) = true := by cases okName s <;> rfl
  simp -implicitDefEqProofs only [eqlB, hbb, r2, hl, lget, go_sem, Nat.reduceAdd, Nat.reduceEqDiff, reduceCtorEq, ↓reduceIte, Nat.reduceLT, Nat.reduceMul, Nat.reduceSub, Nat.reduceLeDiff]
  repeat with_reducible refine bindK_all ?_
  refine run11 (N := N + 104) ho (fun h3 g3 => ?_)
  have r3 := row h3 (g2.trans g3)
  simp -implicitDefEqProofs only [eqlB, r2, r3, hl, lget, go_sem, Nat.reduceAdd, Nat.reduceEqDiff, reduceCtorEq, ↓reduceIte, Nat.reduceLT, Nat.reduceMul, Nat.reduceSub, Nat.reduceLeDiff]
  repeat with_reducible refine bindK_all ?_
  refine run12 (N := N + 103) ho (fun h4 g4 => ?_)
  have r4 := row h4 ((g2.trans g3).trans g4)
  simp -implicitDefEqProofs only [eqlB, r2, r3, r4, hl, lget, go_sem, Nat.reduceAdd, Nat.reduceEqDiff, reduceCtorEq, ↓reduceIte, Nat.reduceLT, Nat.reduceMul, Nat.reduceSub, Nat.reduceLeDiff]
  exact leave1_rule res3 (by simp only [KP.get_at, Nat.reduceEqDiff, Nat.one_ne_zero, Nat.zero_ne_one, ↓reduceIte, if_true, if_false, reduceCtorEq]) (hQ h4 ((g2.trans g3).trans g4))
end Go.Proofs.YtamlmddkcghhlaaGreatDoor
namespace Go.Proofs.YtamlmddkcghhlaaGreatDoor
open Go Go.Ab

theorem chk8_some {t : T CR} {x : AO} (h : chk8 t = some x) : ∃ h', t = .ret (.ok (.bool true) h' false) ∧ 9 ≤ h'.sz ∧ h'.get 8 = some x := by
  unfold chk8 at h
  split at h
  · rename_i h'
    cases hb : Nat.ble 9 h'.sz with
    | false => rw [hb] at h; cases h
    | true =>
      rw [hb] at h
      refine ⟨h', rfl, Nat.le_of_ble_eq_true hb, ?_⟩
      have h : getN h'.blk 8 = some x := h
      rwa [getN_eq] at h
  · cases h
/-- The heap at the start: the package's variables, and a block that is not looked into. -/
noncomputable def h8 (e : Nat → Nat) (y : AO) : H := ⟨8, ((((((((PT.lf.set 0 AO.opaq).set 1 (ofElem (e 1) gl1)).set 2 (ofElem (e 2) gl2)).set 3 (ofElem (e 3) gl3)).set 4 (ofElem (e 4) gl4)).set 5 (ofElem (e 5) gl5)).set 6 (ofElem (e 6) gl6)).set 7 y)⟩
theorem names_K (e : Nat → Nat) (y : AO) (s : List UInt8) {c0 c2 c3 c4 c5 : AV} {sz n : Int} (ho : allOne [c0, .int .i64 sz, c2, c3, c4, c5] = true) :
    ((recK env1 100001).call 3 [.str s, .agg [c0, .int .i64 sz, c2, c3, c4, c5], .int .i64 n] (h8 e y) none).all fun cr => ∃ v h', cr = .ok v h' false ∧ v = .bool true := by
  obtain ⟨h1, ha, hz, hr⟩ := chk8_some (awake9 e y (.row (catRow [c0, .int .i64 sz, c2, c3, c4, c5])))
  exact run3 (N := 99895) (h := h8 e y) (h1 := h1) ho ha hz hr (fun h' _ => ⟨_, h', rfl, rfl⟩)
theorem ft3' : ∃ fn, env1.ft.get 3 = some (.body fn) := ⟨_, by rw [← getN_eq]; exact ft3⟩
theorem names_calls {B : Nat} {m : Emb} {w : World} {args' : Array Value} (e : Nat → Nat) (y : AO) (s : List UInt8) {c0 c2 c3 c4 c5 : AV} {sz n : Int} (ho : allOne [c0, .int .i64 sz, c2, c3, c4, c5] = true)
    (hv : VRels m [.str s, .agg [c0, .int .i64 sz, c2, c3, c4, c5], .int .i64 n] args'.toList) (R : Rel 7 B (CodeC env1 7) m (h8 e y) w.heap) :
    Calls Tryz.prog 3 args' w fun en w' => en = .returned (.bool true) ∧ ∃ m' h', Rel 7 B (CodeC env1 7) m' h' w'.heap ∧ Turn B m (h8 e y) w m' h' w' := by
  refine (calls_of (sim1 100001) (Q := fun v _ => v = .bool true) (names_K e y s ho) hv R ft3').mono fun en w' hx => ?_
  obtain ⟨v, h', v', m', hv, he, hr, hR, hT⟩ := hx
  subst hv
  cases hr
  exact ⟨he, m', h', hR, hT⟩
end Go.Proofs.YtamlmddkcghhlaaGreatDoor
namespace Go.Proofs.YtamlmddkcghhlaaGreatDoor
open Go Go.Ab

/-- Where the start's blocks lie. -/
def sz8 (g : Nat) : Nat := match g with | 1 => 256 | 2 => 32 | 3 => 16 | 4 => 20 | 5 => 32 | 6 => 64 | _ => 0
def m8 (x : Option BI) : Emb := fun b => if b < 7 then some ⟨b, 0, sz8 b, none⟩ else if b = 7 then x else none

theorem get8 (e : Nat → Nat) (y : AO) : (h8 e y).get 0 = some .opaq ∧ (h8 e y).get 1 = some (ofElem (e 1) gl1) ∧ (h8 e y).get 2 = some (ofElem (e 2) gl2) ∧ (h8 e y).get 3 = some (ofElem (e 3) gl3) ∧ (h8 e y).get 4 = some (ofElem (e 4) gl4) ∧
    (h8 e y).get 5 = some (ofElem (e 5) gl5) ∧ (h8 e y).get 6 = some (ofElem (e 6) gl6) ∧ (h8 e y).get 7 = some y := by
  refine ⟨?_, ?_, ?_, ?_, ?_, ?_, ?_, ?_⟩ <;> kernel_rfl

theorem row_rel {m : Emb} {C : CodeP} {w : World} {g n : Nat} {o : AO} {cs : List AV} (ho : ∀ el, ofElem el o = .row ⟨cs, n, el, false, 1, false, false⟩ ∨ ofElem el o = .row ⟨cs, n, el, false, 2, false, false⟩) (hn : cs.length = n) (hi : cs.all isIntA = true)
    (h : GlobAt w g (cs.map intV)) : ∃ el, ORel m C ⟨g, 0, n, none⟩ (ofElem el o) w.heap[g]? := by
  obtain ⟨c, el, fz, hw, hc⟩ := h
  refine ⟨el, ?_⟩
  have hsz : c.size = n := by rw [← Array.length_toList, hc, List.length_map, hn]
  have hcell : ∀ j v, lget cs j = some v → ∃ x, c[0 + j]? = some x ∧ VRel m v x ∧ oneCell v = true := by
    intro j v hj
    obtain ⟨x, hx, hr⟩ := (intsV_rel (m := m) hi).get j v hj
    refine ⟨x, ?_, hr, ?_⟩
    · rw [Nat.zero_add, ← Array.getElem?_toList, hc]; exact hx
    · rw [lget_eq] at hj
      have hm := List.mem_of_getElem? hj
      have := List.all_eq_true.1 hi v hm
      cases v with
      | int k n => rfl
      | _ => exact absurd this (by simp [isIntA])
  rcases ho el with ho | ho
  · rw [ho]
    exact ⟨c, fz, hw, hsz, by simp, hn.symm, rfl, fun _ => ⟨rfl, rfl⟩, hcell, fun hf => by cases hf⟩
  · rw [ho]
    exact ⟨c, fz, hw, hsz, by simp, hn.symm, rfl, fun _ => ⟨rfl, rfl⟩, hcell, fun hf => by cases hf⟩

theorem rel8 {w : World} {C : CodeP} (hL : laidMetH Tryz.prog Rows.catalogNamesRow.laid w) (x : Option BI) (hx : ∀ i, x = some i → i.r < w.heap.size) : ∃ e, Rel 7 w.heap.size C (m8 x) (h8 e .opaq) w.heap := by
  obtain ⟨a1, a2, a3, a4, a5, a6⟩ := globs hL
  obtain ⟨e1, r1⟩ := row_rel (m := m8 x) (C := C) (o := gl1) (n := 256) (fun _ => .inl rfl) (by kernel_rfl) (by kernel_rfl) a1
  obtain ⟨e2, r2⟩ := row_rel (m := m8 x) (C := C) (o := gl2) (n := 32) (fun _ => .inl rfl) (by kernel_rfl) (by kernel_rfl) a2
  obtain ⟨e3, r3⟩ := row_rel (m := m8 x) (C := C) (o := gl3) (n := 16) (fun _ => .inl rfl) (by kernel_rfl) (by kernel_rfl) a3
  obtain ⟨e4, r4⟩ := row_rel (m := m8 x) (C := C) (o := gl4) (n := 20) (fun _ => .inl rfl) (by kernel_rfl) (by kernel_rfl) a4
  obtain ⟨e5, r5⟩ := row_rel (m := m8 x) (C := C) (o := gl5) (n := 32) (fun _ => .inl rfl) (by kernel_rfl) (by kernel_rfl) a5
  obtain ⟨e6, r6⟩ := row_rel (m := m8 x) (C := C) (o := gl6) (n := 64) (fun _ => .inl rfl) (by kernel_rfl) (by kernel_rfl) a6
  let e : Nat → Nat := fun g => match g with | 1 => e1 | 2 => e2 | 3 => e3 | 4 => e4 | 5 => e5 | 6 => e6 | _ => 0
  obtain ⟨g0, g1, g2, g3, g4, g5, g6, g7⟩ := get8 e .opaq
  have hb6 : 6 < w.heap.size := by
    obtain ⟨c, el, fz, hw, _⟩ := a6
    exact (Array.getElem?_eq_some_iff.1 hw).1
  have dom : ∀ b i, m8 x b = some i → (b < 7 ∧ i = ⟨b, 0, sz8 b, none⟩) ∨ (b = 7 ∧ x = some i) := by
    intro b i h
    unfold m8 at h
    split at h
    · injection h with h
      exact .inl ⟨by assumption, h.symm⟩
    · split at h
      · exact .inr ⟨by assumption, h⟩
      · cases h
  have what : ∀ b, b < 8 → ∃ o, (h8 e .opaq).get b = some o ∧ o.ro ∧ (b = 7 → o = .opaq) ∧ (b < 7 → ORel (m8 x) C ⟨b, 0, sz8 b, none⟩ o w.heap[b]?) := by
    intro b hb
    match b, hb with
    | 0, _ => exact ⟨_, g0, trivial, fun h => (by cases h), fun _ => trivial⟩
    | 1, _ => exact ⟨_, g1, ⟨rfl, rfl⟩, fun h => (by cases h), fun _ => r1⟩
    | 2, _ => exact ⟨_, g2, ⟨rfl, rfl⟩, fun h => (by cases h), fun _ => r2⟩
    | 3, _ => exact ⟨_, g3, ⟨rfl, rfl⟩, fun h => (by cases h), fun _ => r3⟩
    | 4, _ => exact ⟨_, g4, ⟨rfl, rfl⟩, fun h => (by cases h), fun _ => r4⟩
    | 5, _ => exact ⟨_, g5, ⟨rfl, rfl⟩, fun h => (by cases h), fun _ => r5⟩
    | 6, _ => exact ⟨_, g6, ⟨rfl, rfl⟩, fun h => (by cases h), fun _ => r6⟩
    | 7, _ => exact ⟨_, g7, trivial, fun _ => rfl, fun h => absurd h (by decide)⟩
    | b + 8, h => exact absurd h (by omega)
  have lt8 : ∀ b i, m8 x b = some i → b < 8 := fun b i h => by rcases dom b i h with ⟨h1, _⟩ | ⟨h1, _⟩ <;> omega
  refine ⟨e, ⟨?_, ?_, ?_, ?_, ?_, ?_, Nat.le_refl _⟩, lt8⟩
  · intro b i h
    rcases dom b i h with ⟨h1, rfl⟩ | ⟨_, h2⟩
    · show b < _; omega
    · exact hx i h2
  · intro b i h
    obtain ⟨o, q1, _, q3, q4⟩ := what b (lt8 b i h)
    refine ⟨o, q1, ?_⟩
    rcases dom b i h with ⟨h1, rfl⟩ | ⟨h1, _⟩
    · exact q4 h1
    · rw [q3 h1]; trivial
  · intro b i mb ver left cur h hg
    obtain ⟨o, q1, q2, _⟩ := what b (lt8 b i h)
    rw [q1] at hg
    injection hg with hg
    subst hg
    exact q2.elim
  · intro b b' i i' o o' h h' hg hg' hl hl' hne
    rcases dom b i h with ⟨h1, rfl⟩ | ⟨h1, _⟩
    · rcases dom b' i' h' with ⟨h1', rfl⟩ | ⟨h1', _⟩
      · exact hne
      · obtain ⟨o2, q1, _, q3, _⟩ := what b' (by omega)
        rw [q1] at hg'
        injection hg' with hg'
        subst hg'
        rw [q3 h1'] at hl'
        cases hl'
    · obtain ⟨o2, q1, _, q3, _⟩ := what b (by omega)
      rw [q1] at hg
      injection hg with hg
      subst hg
      rw [q3 h1] at hl
      cases hl
  · intro g hg
    exact ⟨⟨g, 0, sz8 g, none⟩, by unfold m8; rw [if_pos hg], rfl, rfl⟩
  · intro b i h _
    obtain ⟨o, q1, q2, _⟩ := what b (lt8 b i h)
    exact ⟨o, q1, q2⟩
end Go.Proofs.YtamlmddkcghhlaaGreatDoor
