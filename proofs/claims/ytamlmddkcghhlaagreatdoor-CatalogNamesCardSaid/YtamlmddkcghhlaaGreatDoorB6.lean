/-
  CatalogNames: the row and its tied card.
-/
import Derived.ProofKit
import Derived.Lay
import Derived.Carry
import Derived.LaidOnce
import Derived.SevenTiedAt
import Derived.Test.YtamlmddkcghhlaaGreatDoorTie
import Derived.Test.YtamlmddkcghhlaaGreatDoorCards
import Derived.Test.YtamlmddkcghhlaaGreatDoorB5
set_option linter.unusedSimpArgs false
set_option linter.unusedVariables false
namespace Go.Proofs.YtamlmddkcghhlaaGreatDoor
set_option maxRecDepth 100000
open Go Go.Ab Go.ChangeShapes Go.WideShapes Go.ChangeAt Go.RowKit

theorem own : ownKnob Tryz.prog.godebug = none := by kernel_rfl
theorem laidOut : laidOutB Tryz.prog = true := by kernel_rfl

theorem below_of_turn {m m' : Emb} {h h' : H} {w w' : World} (T : Turn w.heap.size m h w m' h' w') : Below w.heap.size w w' := ⟨T.os, T.tape, T.output, T.wsz, fun k hk => T.low k hk⟩

theorem cell_int {W : World} {base : Nat} {v : Value} (h : Cell.okWide Tryz.prog W .any base 3 v) : ∃ n, v = .int .i64 n := by
  simp only [Cell.okWide, Tryz.underlying3, Cell.ok] at h
  cases v <;> simp_all
theorem cell_bool {W : World} {base : Nat} {v : Value} (h : Cell.okWide Tryz.prog W .any base 4 v) : ∃ b, v = .bool b := by
  simp only [Cell.okWide, Tryz.underlying4, Cell.ok] at h
  cases v <;> simp_all
theorem cell_str {W : World} {base : Nat} {v : Value} (h : Cell.okWide Tryz.prog W .any base 9 v) : ∃ s, v = .string s := by
  simp only [Cell.okWide, Tryz.underlying9, Cell.ok] at h
  cases v <;> simp_all
theorem cell_slice {W : World} {base : Nat} {v : Value} (h : Cell.okWide Tryz.prog W .any base 22 v) : v = .slice none 0 0 ∨ ∃ r off len cap, v = .slice (some ⟨r, off, none⟩) len cap ∧ r < W.heap.size := by
  unfold Cell.okWide at h
  rw [Tryz.underlying22] at h
  cases v with
  | slice a len cap =>
    change Cell.ok Tryz.prog W .any base 22 (.slice a len cap) at h
    unfold Cell.ok at h
    rw [Tryz.underlying22] at h
    cases a with
    | none =>
      cases len with
      | zero => cases cap with
        | zero => exact .inl rfl
        | succ n => exact h.elim
      | succ n => exact h.elim
    | some a =>
      obtain ⟨_, _, _, hs, row, cells, hw, _⟩ := h
      obtain ⟨r, off, spot⟩ := a
      have hs : spot = none := hs
      subst hs
      refine .inr ⟨r, off, len, cap, rfl, ?_⟩
      unfold World.shape? at hw
      split at hw
      · rename_i hx
        exact (Array.getElem?_eq_some_iff.1 hx).1
      · cases hw
  | _ =>
    change Cell.ok Tryz.prog W .any base 22 _ at h
    unfold Cell.ok at h
    rw [Tryz.underlying22] at h
    exact h.elim

theorem open_cat {W : World} {base : Nat} {v : Value} (h : Value.okWide Tryz.prog W .any base 24 v) : ∃ s n1 b n3 n4 v5, v = .agg #[.string s, .int .i64 n1, .bool b, .int .i64 n3, .int .i64 n4, v5] ∧
    (v5 = .slice none 0 0 ∨ ∃ r off len cap, v5 = .slice (some ⟨r, off, none⟩) len cap ∧ r < W.heap.size) := by
  unfold Value.okWide at h
  rw [Tryz.underlying24] at h
  obtain ⟨cs, rfl, hn, ts, hts, _, hc⟩ := h
  have e6 : Tryz.prog.cellsOf 24 = 6 := by kernel_rfl
  have ets : Tryz.prog.cellTypes Tryz.prog.depth 24 = some [9, 3, 4, 3, 3, 22] := by kernel_rfl
  rw [ets] at hts
  injection hts with hts
  subst hts
  rw [e6] at hn
  obtain ⟨l⟩ := cs
  match l, hn with
  | [c0, c1, c2, c3, c4, c5], _ =>
    obtain ⟨u0, q0, r0⟩ := hc 0 c0 rfl
    obtain ⟨u1, q1, r1⟩ := hc 1 c1 rfl
    obtain ⟨u2, q2, r2⟩ := hc 2 c2 rfl
    obtain ⟨u3, q3, r3⟩ := hc 3 c3 rfl
    obtain ⟨u4, q4, r4⟩ := hc 4 c4 rfl
    obtain ⟨u5, q5, r5⟩ := hc 5 c5 rfl
    cases q0; cases q1; cases q2; cases q3; cases q4; cases q5
    obtain ⟨s, rfl⟩ := cell_str r0
    obtain ⟨n1, rfl⟩ := cell_int r1
    obtain ⟨b, rfl⟩ := cell_bool r2
    obtain ⟨n3, rfl⟩ := cell_int r3
    obtain ⟨n4, rfl⟩ := cell_int r4
    exact ⟨s, n1, b, n3, n4, c5, rfl, cell_slice r5⟩

theorem names_law {W : World} {base : Nat} {v0 v1 v2 : Value} (h0 : Value.okWide Tryz.prog W .any base 9 v0) (h1 : Value.okWide Tryz.prog W .any base 24 v1) (h2 : Value.okWide Tryz.prog W .any base 3 v2) (hL : laidMetH Tryz.prog Rows.catalogNamesRow.laid W) :
    Calls Tryz.prog 3 #[v0, v1, v2] W fun e W' => e = .returned (.bool true) ∧ Below W.heap.size W W' := by
  obtain ⟨s, rfl⟩ := okWide_string Tryz.underlying9 h0
  obtain ⟨n, rfl⟩ := okWide_int Tryz.underlying3 h2
  obtain ⟨nm, n1, b, n3, n4, v5, rfl, h5⟩ := open_cat h1
  have go : ∀ (x : Option BI) (a5 : AV), (∀ i, x = some i → i.r < W.heap.size) → one1 a5 = true → VRel (m8 x) a5 v5 → Calls Tryz.prog 3 #[.string s, .agg #[.string nm, .int .i64 n1, .bool b, .int .i64 n3, .int .i64 n4, v5], .int .i64 n] W fun e W' => e = .returned (.bool true) ∧ Below W.heap.size W W' := by
    intro x a5 hx ho hv5
    obtain ⟨e, R⟩ := rel8 (C := CodeC env1 7) hL x hx
    refine (names_calls e .opaq s.data.toList (c0 := .str nm.data.toList) (c2 := .bool b) (c3 := .int .i64 n3) (c4 := .int .i64 n4) (c5 := a5) (sz := n1) (n := n) ?_ ?_ R).mono fun en W' ⟨he, m', h', _, T⟩ => ⟨he, below_of_turn T⟩
    · show (Bool.rec (motive := fun _ => Bool) false (Bool.rec (motive := fun _ => Bool) false true (one1 a5)) true : Bool) = true
      rw [ho]
    · exact .cons _ _ _ _ (.str _ _ rfl) (.cons _ _ _ _ (.agg _ _ (.cons _ _ _ _ (.str _ _ rfl) (.cons _ _ _ _ (.int _ _) (.cons _ _ _ _ (.bool _) (.cons _ _ _ _ (.int _ _) (.cons _ _ _ _ (.int _ _) (.cons _ _ _ _ hv5 .nil))))))) (.cons _ _ _ _ (.int _ _) .nil))
  rcases h5 with rfl | ⟨r, off, len, cap, rfl, hr⟩
  · exact go none .nilslice (fun i h => by cases h) rfl .nilslice
  · refine go (some ⟨r, 0, 0, none⟩) (.slice 7 off len cap) (fun i h => by cases h; exact hr) rfl ?_
    have := VRel.slice (m := m8 (some ⟨r, 0, 0, none⟩)) 7 off len cap cap ⟨r, 0, 0, none⟩ rfl (.inl rfl)
    rwa [show (0 : Nat) + off = off from Nat.zero_add off] at this
end Go.Proofs.YtamlmddkcghhlaaGreatDoor
namespace Go.Proofs.YtamlmddkcghhlaaGreatDoor
set_option maxRecDepth 100000
open Go Go.ChangeShapes Go.WideShapes Go.ChangeAt Go.RowKit

theorem names_lifted (os : Os) (started : os.Started) (H : Type) (enc : TypeId × Value → H) :
    ReturnsInHanded {} Tryz.checked os 3 .any (fun w args => (Rows.catalogNamesSpec.pre enc Tryz.prog Tryz.f3 [] false w args ∧ laidMetH Tryz.prog Rows.catalogNamesRow.laid w) ∧ sizedMet enc Tryz.prog Tryz.f3 (OpenSpec.ofChange Rows.catalogNamesSpec) false w args)
      (Rows.catalogNamesSpec.post enc Tryz.prog Tryz.f3 false true false false) := by
  refine returnsInHanded_of_change_and (C := Tryz.checked) (X := fun w _ => laidMetH Tryz.prog Rows.catalogNamesRow.laid w) (fun _ _ _ hh h => h.of_heap hh) own started (by kernel_rfl) Tryz.func3
    (ChangeSpec.witness_shaped (enc := enc) (C := Tryz.checked) (os := os) (X := fun w _ => laidMetH Tryz.prog Rows.catalogNamesRow.laid w) false (World.laidAll Tryz.prog os Rows.catalogNamesRow.laid) #[.string ⟨#[]⟩, .agg #[.string ⟨#[]⟩, .int .i64 0, .bool false, .int .i64 0, .int .i64 0, .slice none 0 0], .int .i64 0] 8 (World.laidAll_os _ _ _)
      (World.shaped_of_ZipB (by kernel_rfl) (by kernel_rfl)) (by kernel_rfl) (by kernel_rfl) (by kernel_rfl)
      (by rw [MakeChecks.laidMetH_plain _ _ _ (by kernel_rfl)]; exact laidMet_laidAll _ (by kernel_rfl) (by kernel_rfl))) ?_
  intro W base args ds gs before hval0 hW _ _ hL _
  have hval : ∀ (j : Nat) t v, Tryz.f3.params[j]? = some t → args[j]? = some v → Value.okWide Tryz.prog W .any base t v := hval0
  have hW' := hW
  obtain ⟨p, q, hA0, hV, rfl, _, _⟩ := hW
  have hA : DataW.TrodAll enc Tryz.prog W 0 (fun _ => true) true Tryz.f3.params.toList args.toList ds p := hA0
  rw [Tryz.params3] at hA hval
  obtain ⟨v0, v1, v2, d0, d1, d2, p0, p1, p2, rfl, rfl, rfl, h0, h1, h2⟩ := trodAll_three hA
  obtain ⟨rfl, rfl⟩ := trodVars_none hV
  clear hA0 hval0
  simp only [List.append_nil] at hW'
  have hlt := hW'.lt
  refine (names_law (hval 0 9 v0 rfl rfl) (hval 1 24 v1 rfl rfl) (hval 2 3 v2 rfl rfl) hL).mono fun e W' ⟨he, hb⟩ => ?_
  subst he
  have t0 := Below.trod laidOut (by kernel_rfl) (of_decide_eq_true (by kernel_rfl)) h0 hb (fun x hx => hlt x (by simp [hx]))
  have t1 := Below.trod laidOut (by kernel_rfl) (of_decide_eq_true (by kernel_rfl)) h1 hb (fun x hx => hlt x (by simp [hx]))
  have t2 := Below.trod laidOut (by kernel_rfl) (of_decide_eq_true (by kernel_rfl)) h2 hb (fun x hx => hlt x (by simp [hx]))
  exact ⟨_, rfl, _, _, _, [], _, [], hW', trodAll_mk1 (shut_bool Tryz.underlying4 _), trodAll_mk3 t0 t1 t2, rfl, hb.frame _, fun h => by cases h⟩
end Go.Proofs.YtamlmddkcghhlaaGreatDoor
