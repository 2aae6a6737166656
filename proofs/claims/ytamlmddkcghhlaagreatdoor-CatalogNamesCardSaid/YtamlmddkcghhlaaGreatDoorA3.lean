/-
  THE MACHINE A GROWS WITH ITS FUEL: what it runs to with less, it runs to with more.
-/
import Derived.Defers
import Derived.Orders
import Derived.Test.YtamlmddkcghhlaaGreatDoorA2
set_option linter.unusedSimpArgs false
set_option linter.unusedVariables false
namespace Go.Ab

/-- What the tables must say of the program. -/
structure EnvOK (P : Program) (e : Env) (G : Nat) : Prop extends TabOK P e where
  fields : ∀ t ti fs, e.tt.get t = some ti → ti.kind = .struct fs → fieldsKnown e fs = true
  body : ∀ f fn, e.ft.get f = some (.body fn) → P.funcs[f]? = some fn ∧ fn.name ≠ "runtime.NumGoroutine" ∧ ∃ c, fn.body = some c ∧ codeOk e.tt e.ri G f c = true
  ext : ∀ f x, e.ft.get f = some (.ext x) → ∃ fn, P.funcs[f]? = some fn ∧ fn.name ≠ "runtime.NumGoroutine" ∧ fn.body = none ∧ Extern.findNext fn = none ∧ Extern.find fn = some (extFn x)
  sumBody : ∀ f g, e.sums f = some g → ∃ fn, e.ft.get f = some (.body fn)
  mixed : P.follows .mixedOrders = true

section
variable {G B : Nat} {C : CodeP} {P : Program} {e : Env} {m : Emb} {h h' : H} {w : World} {fr : Fr} {t : Array Value} {nt : Nat} {o : Oper} {v : AV}

def OpRes (P : Program) (e : Env) (G B : Nat) (C : CodeP) (m : Emb) (h : H) (w : World) (t : Array Value) (o : Oper) : OR → Prop
  | .val v h' => Sim1 P G B C m h w t o v h' ∨ ∃ f g args args', e.sums f = some g ∧ g args h = some (v, h') ∧ VRels m args args'.toList ∧ (execOp (ev t) o).run P w = .ok (.enter f args') w
  | .pan v h' => h' = h ∧ ∃ v', (execOp (ev t) o).run P w = .halt (.panic v') w ∧ VRel m v v'
  | .call f args => (∃ fn, e.ft.get f = some (.body fn)) ∧ e.sums f = none ∧ ∃ args', (execOp (ev t) o).run P w = .ok (.enter f args') w ∧ VRels m args args'.toList
  | .yld l args => ∃ i args', m l = some i ∧ VRels m args args'.toList ∧ (execOp (ev t) o).run P w = (Instr.yield i.r args').run P w
  | .dfr (.call f args) => (∃ fn, e.ft.get f = some (.body fn)) ∧ ∃ (caps args' : Array Value), (execOp (ev t) o).run P w = .ok (.defer { target := .fn (.func f) caps, args := args' }) w ∧ VRels m args (args' ++ caps).toList
  | .dfr .mark => False
  | .rcv => (execOp (ev t) o).run P w = .ok .recover w
  | .pick n kk => ∃ i, i < n ∧ ∀ v h', kk i = some (v, h') → Sim1 P G B C m h w t o v h'
  | .bad => True

theorem OR.of_cases (P : Program) (e : Env) (G B : Nat) (C : CodeP) (m : Emb) (h0 h : H) (w : World) (t : Array Value) (o : Oper) (x : Option AV) (hx : ∀ v, x = some v → OpRes P e G B C m h0 w t o (.val v h)) : OpRes P e G B C m h0 w t o (OR.of h x) := by
  cases x with
  | none => trivial
  | some v => exact hx v rfl

/-- Of most operations: they go on with a value, or nothing is said. -/
def OR.plain : OR → Prop
  | .val _ _ => True
  | .bad => True
  | _ => False

theorem OpRes.of_plain {x : OR} (hp : x.plain) (hx : ∀ v h', x = .val v h' → Sim1 P G B C m h w t o v h') : OpRes P e G B C m h w t o x := by
  cases x with
  | val v h' => exact .inl (hx v h' rfl)
  | bad => trivial
  | _ => exact hp.elim

theorem OR.of_plain (h : H) (x : Option AV) : (OR.of h x).plain := by cases x <;> trivial
theorem OR.of2_plain (x : Option (AV × H)) : (OR.of2 x).plain := by
  cases x with
  | none => trivial
  | some y => obtain ⟨a, b⟩ := y; trivial

theorem run_value {s : Sem Value} {v' : Value} {w' : World} (hr : s.run P w = .ok v' w') : (do pure (Next.value (← s)) : Sem Next).run P w = .ok (.value v') w' := by
  simp [hr]

theorem SimB.sim1 {s : Sem Value} {h' : H} (x : SimB P G B C m h w s v h') (hr : ∀ v' w', s.run P w = .ok v' w' → (execOp (ev t) o).run P w = .ok (.value v') w') : Sim1 P G B C m h w t o v h' := by
  obtain ⟨v', w', m', h1, h2, h3, h4⟩ := x
  exact ⟨v', w', m', .inl (hr _ _ h1), h2, h3, h4⟩

theorem VRel.func_inv {f : Nat} {a c : List AV} {x : Value} (q : VRel m (.func f a c) x) : ∃ a' c', x = .func (.func f) a' c' ∧ VRels m a a'.toList ∧ VRels m c c'.toList := by
  cases q with
  | func _ _ _ a' c' ha hc => exact ⟨a', c', rfl, ha, hc⟩
theorem VRel.yield_inv {l : Nat} {x : Value} (q : VRel m (.yield l) x) : ∃ i, m l = some i ∧ x = .func (.yield i.r) #[] #[] := by
  cases q with
  | yield _ i hi => exact ⟨i, hi, rfl⟩

/-- A call of a function's value. -/
theorem sim_callFn (EO : EnvOK P e G) {f : Nat} {args : List AV} {args' : Array Value} (R : Rel G B C m h w.heap) (ra : VRels m args args'.toList) (hex : ∀ x, (callFunc f args').run P w = x → (execOp (ev t) o).run P w = x) : OpRes P e G B C m h w t o (callA e h f args) := by
  unfold callA
  have hbody : ∀ fn, e.ft.get f = some (.body fn) → (execOp (ev t) o).run P w = .ok (.enter f args') w := by
    intro fn hfn
    obtain ⟨h1, h2, c, h3, _⟩ := EO.body f fn hfn
    refine hex _ ?_
    simp [callFunc, h1, h2, h3]
  cases hs : e.sums f with
  | some g =>
    obtain ⟨fn, hfn⟩ := EO.sumBody f g hs
    cases hg : g args h with
    | none => simp only [hg]; trivial
    | some y =>
      obtain ⟨v, h'⟩ := y
      simp only [hg]
      exact .inr ⟨f, g, args, args', hs, hg, ra, hbody fn hfn⟩
  | none =>
    cases hf : e.ft.get f with
    | none => trivial
    | some x =>
      cases x with
      | body fn => exact ⟨⟨fn, hf⟩, hs, args', hbody fn hf, ra⟩
      | ext x =>
        obtain ⟨fn, h1, h2, h3, h4, h5⟩ := EO.ext f x hf
        refine OpRes.of_plain (OR.of2_plain _) fun v h' hv => ?_
        refine (sim_ext R ra (OR.of2_val hv)).sim1 fun v' w' hr => hex _ ?_
        simp [callFunc, h1, h2, h3, h4, h5, hr]

theorem all_ops {x : Op} (h : x.operands.toList.all (opdOk G) = true) : ∀ y ∈ x.operands.toList, opdOk G y = true := List.all_eq_true.1 h


theorem builtin_plain {b : Builtin} {argTypes : Array TypeId} {args : List AV} (hb : b ≠ .recover ∧ b ≠ .panic) : (builtinA e h b argTypes args).plain := by
  unfold builtinA
  repeat' split
  all_goals first | trivial | exact OR.of_plain _ _ | exact OR.of2_plain _ | exact (hb.1 rfl).elim | exact (hb.2 rfl).elim | skip
  dsimp only
  repeat' split
  all_goals trivial

/-- Builtins. -/
theorem sim_builtin (EO : EnvOK P e G) {b : Builtin} {argTypes : Array TypeId} {ty : TypeId} {consts : Array Bool} {args : List AV} {args' : Array Value} (R : Rel G B C m h w.heap) (r : VRels m args args'.toList) (hok : argOk b argTypes = true)
    (hex : ∀ x, (builtin b argTypes ty consts args').run P w = x → (execOp (ev t) o).run P w = x) : OpRes P e G B C m h w t o (builtinA e h b argTypes args) := by
  have go : ∀ {s : Sem Value} {v : AV} {h' : H}, (builtin b argTypes ty consts args').run P w = (do pure (Next.value (← s)) : Sem Next).run P w → SimB P G B C m h w s v h' → Sim1 P G B C m h w t o v h' := by
    intro s v h' hs hb
    exact hb.sim1 fun v' w' hr => hex _ (by rw [hs]; exact run_value hr)
  have one : ∀ {x : AV}, args = [x] → True := fun _ => trivial
  cases b with
  | len =>
    refine OpRes.of_plain (builtin_plain (by simp)) fun v h' hv => ?_
    match args, r, hv with
    | [], _, hv => cases hv
    | [x], r, hv => exact go rfl (sim_len EO.toTabOK R r hv)
    | _ :: _ :: _, _, hv => cases hv
  | cap =>
    refine OpRes.of_plain (builtin_plain (by simp)) fun v h' hv => ?_
    match args, r, hv with
    | [], _, hv => cases hv
    | [x], r, hv => exact go rfl (sim_cap EO.toTabOK R r hv)
    | _ :: _ :: _, _, hv => cases hv
  | append =>
    refine OpRes.of_plain (builtin_plain (by simp)) fun v h' hv => ?_
    match args, r, hv with
    | [], _, hv => cases hv
    | [_], _, hv => cases hv
    | [s, x], r, hv => exact go rfl (sim_append EO.toTabOK R r hv)
    | _ :: _ :: _ :: _, _, hv => cases hv
  | copy =>
    refine OpRes.of_plain (builtin_plain (by simp)) fun v h' hv => ?_
    match args, r, hv with
    | [], _, hv => cases hv
    | [_], _, hv => cases hv
    | [s, x], r, hv => exact go rfl (sim_copy EO.toTabOK R r hv)
    | _ :: _ :: _ :: _, _, hv => cases hv
  | delete =>
    refine OpRes.of_plain (builtin_plain (by simp)) fun v h' hv => ?_
    match args, r, hv with
    | [], _, hv => cases hv
    | [_], _, hv => cases hv
    | [s, x], r, hv => exact go rfl (sim_delete EO.toTabOK R r hv)
    | _ :: _ :: _ :: _, _, hv => cases hv
  | max =>
    refine OpRes.of_plain (builtin_plain (by simp)) fun v h' hv => ?_
    match args, r, hv with
    | [], _, hv => cases hv
    | x :: l, r, hv => exact go rfl (sim_max R r hv)
  | min =>
    refine OpRes.of_plain (builtin_plain (by simp)) fun v h' hv => ?_
    match args, r, hv with
    | [], _, hv => cases hv
    | x :: l, r, hv => exact go rfl (sim_min R r hv)
  | unsafeSliceData =>
    refine OpRes.of_plain (builtin_plain (by simp)) fun v h' hv => ?_
    match args, r, hv with
    | [], _, hv => cases hv
    | [x], r, hv => exact go rfl (sim_sliceData R r hv)
    | a :: _ :: _, _, hv => cases a <;> cases hv
  | unsafeString =>
    refine OpRes.of_plain (builtin_plain (by simp)) fun v h' hv => ?_
    have h0 : 0 < argTypes.size := by simpa [argOk] using hok
    exact go rfl (sim_unsafeString EO.toTabOK R r hv ⟨argTypes[0], by simp⟩)
  | recover =>
    match args, r with
    | [], r =>
      have h0 : args' = #[] := Array.toList_inj.1 (by generalize args'.toList = l at r; cases r; rfl)
      show (execOp (ev t) o).run P w = .ok .recover w
      refine hex _ ?_
      simp [builtin]
    | _ :: _, _ => trivial
  | panic =>
    match args, r with
    | [.iface ty a], r =>
      obtain ⟨x', rfl, a0, rx⟩ := args1 r
      obtain ⟨y, rfl, ry⟩ := rx.iface_inv
      refine ⟨rfl, .iface ty y, hex _ ?_, .iface _ _ _ ry⟩
      simp [builtin, a0, Instr.panic, goPanic]
    | [], _ => trivial
    | a :: _ :: _, _ => cases a <;> trivial
    | [.bool _], _ | [.int _ _], _ | [.str _], _ | [.nilptr], _ | [.ptr _ _], _ | [.nilslice], _ | [.slice _ _ _ _], _ | [.nilmap], _ | [.map _], _ | [.nilfunc], _ | [.func _ _ _], _ | [.yield _], _ | [.niliface], _ | [.agg _], _ | [.tup _], _ => trivial
  | _ => trivial

/-- One operation. -/
theorem sim_op (EO : EnvOK P e G) (R : Rel G B C m h w.heap) (F : TRel m fr.tmps t) (hx : o.op.operands.toList.all (opdOk G) = true) : OpRes P e G B C m h w t o (opA e fr h nt o) := by
  have T := EO.toTabOK
  cases ho : o.op with
  | move x => exact OpRes.of_plain (by simp only [opA, ho]; exact OR.of_plain _ _) fun v h' hv => sim_move (.inl ho) R F (by simpa [ho, Op.operands] using hx) hv
  | assign x => exact OpRes.of_plain (by simp only [opA, ho]; exact OR.of_plain _ _) fun v h' hv => sim_move (.inr ho) R F (by simpa [ho, Op.operands] using hx) hv
  | pick c a b =>
    simp only [ho, Op.operands, List.all_cons, List.all_nil, Bool.and_true, Bool.and_eq_true] at hx
    exact OpRes.of_plain (by simp only [opA, ho]; (repeat' split) <;> first | trivial | exact OR.of_plain _ _ | exact OR.of2_plain _) fun v h' hv => sim_pick ho R F hx.1 hx.2.1 hx.2.2 hv
  | alloc ty => exact OpRes.of_plain (by simp only [opA, ho]; (repeat' split) <;> first | trivial | exact OR.of_plain _ _ | exact OR.of2_plain _) fun v h' hv => sim_alloc T ho R hv
  | box ty x => exact OpRes.of_plain (by simp only [opA, ho]; (repeat' split) <;> first | trivial | exact OR.of_plain _ _ | exact OR.of2_plain _) fun v h' hv => sim_box T ho R F (by simpa [ho, Op.operands] using hx) hv
  | build ty ps =>
    exact OpRes.of_plain (by simp only [opA, ho]; (repeat' split) <;> first | trivial | exact OR.of_plain _ _ | exact OR.of2_plain _) fun v h' hv => sim_build T EO.fields ho R F (by simpa [ho, Op.operands] using hx) hv
  | buildSlice ty n ps =>
    exact OpRes.of_plain (by simp only [opA, ho]; (repeat' split) <;> first | trivial | exact OR.of_plain _ _ | exact OR.of2_plain _) fun v h' hv => sim_buildSlice T ho R F (by simpa [ho, Op.operands] using hx) hv
  | load ty x => exact OpRes.of_plain (by simp only [opA, ho]; (repeat' split) <;> first | trivial | exact OR.of_plain _ _ | exact OR.of2_plain _) fun v h' hv => sim_load T ho R F (by simpa [ho, Op.operands] using hx) hv
  | store ty a x =>
    simp only [ho, Op.operands, List.all_cons, List.all_nil, Bool.and_true, Bool.and_eq_true] at hx
    exact OpRes.of_plain (by simp only [opA, ho]; (repeat' split) <;> first | trivial | exact OR.of_plain _ _ | exact OR.of2_plain _) fun v h' hv => sim_store T ho R F hx.1 hx.2 hv
  | nilCheck x => exact OpRes.of_plain (by simp only [opA, ho]; (repeat' split) <;> first | trivial | exact OR.of_plain _ _ | exact OR.of2_plain _) fun v h' hv => sim_nilCheck ho R F (by simpa [ho, Op.operands] using hx) hv
  | binOp op ty x y yt =>
    simp only [ho, Op.operands, List.all_cons, List.all_nil, Bool.and_true, Bool.and_eq_true] at hx
    exact OpRes.of_plain (by simp only [opA, ho]; (repeat' split) <;> first | trivial | exact OR.of_plain _ _ | exact OR.of2_plain _) fun v h' hv => sim_bin T ho R F hx.1 hx.2 hv
  | unOp op ty x => exact OpRes.of_plain (by simp only [opA, ho]; (repeat' split) <;> first | trivial | exact OR.of_plain _ _ | exact OR.of2_plain _) fun v h' hv => sim_un ho R F (by simpa [ho, Op.operands] using hx) hv
  | convert s d x => exact OpRes.of_plain (by simp only [opA, ho]; (repeat' split) <;> first | trivial | exact OR.of_plain _ _ | exact OR.of2_plain _) fun v h' hv => sim_convert T ho R F (by simpa [ho, Op.operands] using hx) hv
  | makeInterface ty x => exact OpRes.of_plain (by simp only [opA, ho]; (repeat' split) <;> first | trivial | exact OR.of_plain _ _ | exact OR.of2_plain _) fun v h' hv => sim_makeInterface T ho R F (by simpa [ho, Op.operands] using hx) hv
  | makeFunc fn a c =>
    cases fn with
    | func f =>
      simp only [ho, Op.operands, Array.toList_append, List.all_append, Bool.and_eq_true] at hx
      exact OpRes.of_plain (by simp only [opA, ho]; (repeat' split) <;> first | trivial | exact OR.of_plain _ _ | exact OR.of2_plain _) fun v h' hv => sim_makeFunc ho R F hx.1 hx.2 hv
    | _ => simp only [opA, ho]; trivial
  | makeMap ty r => exact OpRes.of_plain (by simp only [opA, ho]; (repeat' split) <;> first | trivial | exact OR.of_plain _ _ | exact OR.of2_plain _) fun v h' hv => sim_makeMap ho R hv
  | makeSlice ty l c =>
    simp only [ho, Op.operands, List.all_cons, List.all_nil, Bool.and_true, Bool.and_eq_true] at hx
    exact OpRes.of_plain (by simp only [opA, ho]; (repeat' split) <;> first | trivial | exact OR.of_plain _ _ | exact OR.of2_plain _) fun v h' hv => sim_makeSlice T ho R F hx.1 hx.2 hv
  | slice ty x lo hi mx =>
    have hopt : ∀ y : Option Operand, (∀ z ∈ y.toArray.toList, opdOk G z = true) → optOk G y = true := by
      intro y hy
      cases y with
      | none => rfl
      | some z => exact hy z (by simp)
    have hall := List.all_eq_true.1 hx
    simp only [ho, Op.operands, Array.toList_append, List.mem_append] at hall
    exact OpRes.of_plain (by simp only [opA, ho]; (repeat' split) <;> first | trivial | exact OR.of_plain _ _ | exact OR.of2_plain _) fun v h' hv =>
      sim_slice T ho R F (hall x (.inl (.inl (.inl (by simp))))) (hopt lo fun z hz => hall z (.inl (.inl (.inr hz)))) (hopt hi fun z hz => hall z (.inl (.inr hz))) (hopt mx fun z hz => hall z (.inr hz)) hv
  | fieldAddr ty x n => exact OpRes.of_plain (by simp only [opA, ho]; (repeat' split) <;> first | trivial | exact OR.of_plain _ _ | exact OR.of2_plain _) fun v h' hv => sim_fieldAddr T ho R F (by simpa [ho, Op.operands] using hx) hv
  | field ty x n => exact OpRes.of_plain (by simp only [opA, ho]; (repeat' split) <;> first | trivial | exact OR.of_plain _ _ | exact OR.of2_plain _) fun v h' hv => sim_field T ho R F (by simpa [ho, Op.operands] using hx) hv
  | indexAddr ty x ix =>
    simp only [ho, Op.operands, List.all_cons, List.all_nil, Bool.and_true, Bool.and_eq_true] at hx
    exact OpRes.of_plain (by simp only [opA, ho]; (repeat' split) <;> first | trivial | exact OR.of_plain _ _ | exact OR.of2_plain _) fun v h' hv => sim_indexAddr T ho R F hx.1 hx.2 hv
  | index ty x ix =>
    simp only [ho, Op.operands, List.all_cons, List.all_nil, Bool.and_true, Bool.and_eq_true] at hx
    exact OpRes.of_plain (by simp only [opA, ho]; (repeat' split) <;> first | trivial | exact OR.of_plain _ _ | exact OR.of2_plain _) fun v h' hv => sim_index T ho R F hx.1 hx.2 hv
  | lookup ty x ix ok =>
    simp only [ho, Op.operands, List.all_cons, List.all_nil, Bool.and_true, Bool.and_eq_true] at hx
    exact OpRes.of_plain (by simp only [opA, ho]; (repeat' split) <;> first | trivial | exact OR.of_plain _ _ | exact OR.of2_plain _) fun v h' hv => sim_lookup T ho R F hx.1 hx.2 hv
  | mapUpdate ty x ix y =>
    simp only [ho, Op.operands, List.all_cons, List.all_nil, Bool.and_true, Bool.and_eq_true] at hx
    exact OpRes.of_plain (by simp only [opA, ho]; (repeat' split) <;> first | trivial | exact OR.of_plain _ _ | exact OR.of2_plain _) fun v h' hv => sim_mapUpdate T (.inl ho) R F hx.1 hx.2.1 hx.2.2 hv
  | insert ty x ix y =>
    simp only [ho, Op.operands, List.all_cons, List.all_nil, Bool.and_true, Bool.and_eq_true] at hx
    exact OpRes.of_plain (by simp only [opA, ho]; (repeat' split) <;> first | trivial | exact OR.of_plain _ _ | exact OR.of2_plain _) fun v h' hv => sim_mapUpdate T (.inr ho) R F hx.1 hx.2.1 hx.2.2 hv
  | range ty x => exact OpRes.of_plain (by simp only [opA, ho]; (repeat' split) <;> first | trivial | exact OR.of_plain _ _ | exact OR.of2_plain _) fun v h' hv => sim_range T ho R F (by simpa [ho, Op.operands] using hx) hv
  | next x isStr =>
    obtain ⟨h1, h2⟩ := sim_next (nt := nt) ho R F (by simpa [ho, Op.operands] using hx)
    cases hop : opA e fr h nt o with
    | val v h' => exact .inl (h1 _ _ hop)
    | pick n kk => exact h2 _ _ hop
    | bad => trivial
    | _ =>
      exfalso
      simp only [opA, ho] at hop
      revert hop
      repeat' split
      all_goals first | (intro q; cases q) | skip
  | entry x => exact OpRes.of_plain (by simp only [opA, ho]; (repeat' split) <;> first | trivial | exact OR.of_plain _ _ | exact OR.of2_plain _) fun v h' hv => sim_entry ho R F (by simpa [ho, Op.operands] using hx) hv
  | typeAssert x xt a ok => exact OpRes.of_plain (by simp only [opA, ho, failsA]; (repeat' split) <;> first | trivial | exact OR.of_plain _ _ | exact OR.of2_plain _) fun v h' hv => sim_typeAssert T ho R F (by simpa [ho, Op.operands] using hx) hv
  | extract x i => exact OpRes.of_plain (by simp only [opA, ho]; (repeat' split) <;> first | trivial | exact OR.of_plain _ _ | exact OR.of2_plain _) fun v h' hv => sim_extract ho R F (by simpa [ho, Op.operands] using hx) hv
  | panic x =>
    cases hop : opA e fr h nt o with
    | pan v h' => exact sim_panic ho R F (by simpa [ho, Op.operands] using hx) hop
    | bad => trivial
    | _ =>
      exfalso
      simp only [opA, ho] at hop
      revert hop
      repeat' split
      all_goals first | (intro q; cases q) | skip
  | call c =>
    simp only [ho, Op.operands, Call.operands, Array.toList_append, List.all_append, Bool.and_eq_true] at hx
    simp only [opA, ho]
    split
    · trivial
    · rename_i args ha
      have ra : VRels m args (c.args.map (ev t)).toList := by simpa using evals_rel R F hx.2 ha
      split
      · rename_i b hb
        cases hok : argOk b c.argTypes with
        | false => trivial
        | true =>
          refine sim_builtin EO (ty := o.type) (consts := c.args.map fun | .const _ => true | _ => false) R ra hok fun x hr => ?_
          have : (execOp (ev t) o).run P w = (builtin b c.argTypes o.type (c.args.map fun | .const _ => true | _ => false) (c.args.map (ev t))).run P w := by
            simp [execOp, ho, resolve, hb, invoke]
            rfl
          rw [this]; exact hr
      · rename_i f hf
        have hfo : opdOk G f = true := by simpa [hf] using hx.1
        split
        · rename_i f' first caps hfv
          obtain ⟨a', c', hfv', r1, r2⟩ := (eval_rel R F hfo hfv).func_inv
          refine sim_callFn EO (args' := a' ++ c.args.map (ev t) ++ c') R (by simpa using (r1.append ra).append r2) fun x hr => ?_
          have : (execOp (ev t) o).run P w = (callFunc f' (a' ++ c.args.map (ev t) ++ c')).run P w := by
            simp [execOp, ho, resolve, hf, hfv', Deferred.ofValue, invoke]
          rw [this]; exact hr
        · rename_i l hfv
          obtain ⟨i, hi, hfv'⟩ := (eval_rel R F hfo hfv).yield_inv
          refine ⟨i, c.args.map (ev t), hi, ra, ?_⟩
          simp [execOp, ho, resolve, hf, hfv', Deferred.ofValue, invoke]
        · trivial
      · trivial
  | defer c =>
    simp only [ho, Op.operands, Call.operands, Array.toList_append, List.all_append, Bool.and_eq_true] at hx
    simp only [opA, ho]
    split
    · rename_i args f ha hf
      have ra : VRels m args (c.args.map (ev t)).toList := by simpa using evals_rel R F hx.2 ha
      have hfo : opdOk G f = true := by simpa [hf] using hx.1
      split
      · rename_i f' first caps hfv
        obtain ⟨a', c', hfv', r1, r2⟩ := (eval_rel R F hfo hfv).func_inv
        split
        · rename_i fn hs hfn
          refine ⟨⟨fn, hfn⟩, c', a' ++ c.args.map (ev t), ?_, by simpa using (r1.append ra).append r2⟩
          simp [execOp, ho, resolve, hf, hfv', Deferred.ofValue]
        · trivial
      · trivial
    · trivial
  | _ => simp only [opA, ho]; trivial
end
end Go.Ab
namespace Go.Ab

/-- Of every branch. -/
def T.all {α : Type} (Q : α → Prop) : T α → Prop
  | .ret a => Q a
  | .pick n k => ∀ i, i < n → (k i).all Q
  | .bad => False

theorem T.all_bind {α β : Type} {Q : β → Prop} {f : α → T β} : ∀ {x : T α}, (x.bind f).all Q → x.all fun a => (f a).all Q
  | .ret _, h => h
  | .pick _ k, h => fun i hi => T.all_bind (x := k i) (h i hi)
  | .bad, h => h
theorem T.all_mono {α : Type} {Q Q' : α → Prop} (hq : ∀ a, Q a → Q' a) : ∀ {x : T α}, x.all Q → x.all Q'
  | .ret _, h => hq _ h
  | .pick _ k, h => fun i hi => T.all_mono hq (x := k i) (h i hi)
  | .bad, h => h

/-- What does not turn in a running frame. -/
structure Host where
  fn : Nat
  kind : CallKind
  round : Option Nat

def Host.fr (b : Host) (t : Array Value) (ds : List Deferred) (todo : List Item) : Frame :=
  { fn := b.fn, tmps := t, todo, defers := ds, mode := .run, kind := b.kind, roundOf := b.round }

theorem Host.eval_fr (b : Host) (t : Array Value) (ds : List Deferred) (todo : List Item) : (b.fr t ds todo).eval = ev t := eval_ev _

def recM : FrameMode → FrameMode
  | .panicking (x :: older) => .panicking ({ x with recovered := true } :: older)
  | u => u
/-- The callers' frames, the first one's panic recovered. -/
def recd : List Frame → List Frame
  | c :: rest => { c with mode := recM c.mode } :: rest
  | [] => []
def csAt (cs : List Frame) (rcd : Bool) : List Frame := if rcd then recd cs else cs

/-- On which panic a frame runs. -/
def PanOK (m : Emb) (kind : CallKind) (cs : List Frame) : Option AV → Prop
  | none => kind = .normal ∨ (kind = .deferred ∧ ∃ c rest, cs = c :: rest ∧ c.mode = .returning)
  | some v => kind = .deferred ∧ ∃ c rest v' older, cs = c :: rest ∧ c.mode = .panicking ({ v := v', recovered := false } :: older) ∧ VRel m v v'

theorem PanOK.mono {m m' : Emb} (hm : m.le m') {kind : CallKind} {cs : List Frame} {p : Option AV} (h : PanOK m kind cs p) : PanOK m' kind cs p := by
  cases p with
  | none => exact h
  | some v => obtain ⟨h1, c, rest, v', older, h2, h3, h4⟩ := h; exact ⟨h1, c, rest, v', older, h2, h3, h4.mono hm⟩

/-- The deferred calls. -/
inductive DRels (e : Env) (m : Emb) (hp : Array Obj) (z : Nat) : List ADef → List Deferred → Prop
  | nil : DRels e m hp z [] []
  | mark (r : Nat) (ds : List ADef) (dds : List Deferred) (hz : z ≤ r) (hr : hp[r]? = some (.deferred (some []))) (hm : ∀ b i, m b = some i → i.r ≠ r) (hd : ∀ d ∈ dds, d.target ≠ .collected r) (h : DRels e m hp z ds dds) :
      DRels e m hp z (.mark :: ds) ({ target := .collected r, args := #[] } :: dds)
  | call (f : Nat) (args : List AV) (caps args' : Array Value) (ds : List ADef) (dds : List Deferred) (hf : ∃ fn, e.ft.get f = some (.body fn)) (ha : VRels m args (args' ++ caps).toList) (h : DRels e m hp z ds dds) :
      DRels e m hp z (.call f args :: ds) ({ target := .fn (.func f) caps, args := args' } :: dds)

theorem Turn.away {B : Nat} {m m' : Emb} {h h' : H} {w w' : World} (T : Turn B m h w m' h' w') {r : Nat} (hr : r < w.heap.size) (hm : ∀ b i, m b = some i → i.r ≠ r) : w'.heap[r]? = w.heap[r]? ∧ ∀ b i, m' b = some i → i.r ≠ r := by
  refine ⟨T.frame r hr hm, fun b i hb => ?_⟩
  cases hmb : m b with
  | some j =>
    have := T.mono _ _ hmb
    rw [hb] at this
    cases this
    exact hm b i hmb
  | none =>
    rcases (T.new b i hb hmb).2 with q | ⟨b0, i0, q1, q2⟩
    · omega
    · rw [← q2]; exact hm b0 i0 q1

theorem lt_of_get {hp : Array Obj} {r : Nat} {o : Obj} (h : hp[r]? = some o) : r < hp.size := (Array.getElem?_eq_some_iff.1 h).1

theorem DRels.turn {e : Env} {B : Nat} {m m' : Emb} {h h' : H} {w w' : World} (T : Turn B m h w m' h' w') {z : Nat} {ds : List ADef} {dds : List Deferred} (x : DRels e m w.heap z ds dds) : DRels e m' w'.heap z ds dds := by
  induction x with
  | nil => exact .nil
  | mark r ds dds hz hr hm hd _ ih =>
    have ha := T.away (lt_of_get hr) hm
    exact .mark r ds dds hz (ha.1.trans hr) ha.2 hd ih
  | call f args caps args' ds dds hf ha _ ih => exact .call f args caps args' ds dds hf (ha.mono T.mono) ih

theorem TRel.mono {m m' : Emb} (hm : m.le m') {x : PT AV} {t : Array Value} (h : TRel m x t) : TRel m' x t := fun i v hi => let ⟨y, a, b⟩ := h i v hi; ⟨y, a, b.mono hm⟩

theorem TRel.set {m : Emb} {x : PT AV} {t : Array Value} (h : TRel m x t) {d : Nat} {v : AV} {v' : Value} (hd : d < t.size) (hv : VRel m v v') : TRel m (x.set d v) (t.setIfInBounds d v') := fun i u hi => by
  rw [PT.get_set] at hi
  by_cases hid : i = d
  · subst hid
    rw [if_pos rfl] at hi
    cases hi
    exact ⟨v', Array.getElem?_setIfInBounds_self_of_lt hd, hv⟩
  · rw [if_neg hid] at hi
    obtain ⟨y, a, b⟩ := h i u hi
    exact ⟨y, by rw [Array.getElem?_setIfInBounds_ne (Ne.symm hid)]; exact a, b⟩

section
variable (P : Program) (e : Env) (G B : Nat)

/-- The static look at code. -/
def CodeC : CodeP := fun f c => codeOk e.tt e.ri G f c = true ∧ ∃ fn, e.ft.get f = some (.body fn)

/-- A running frame on both sides. -/
structure St (cx : Cx) (b : Host) (z : Nat) (cs : List Frame) (m : Emb) (fr : Fr) (h : H) (t : Array Value) (ds : List Deferred) (w : World) : Prop where
  T : TRel m fr.tmps t
  nt : t.size = cx.nt
  D : DRels e m w.heap z fr.defs ds
  R : Rel G B (CodeC e G) m h w.heap
  pan : PanOK m b.kind cs fr.pan
  round : cx.round = b.round.isSome
  rd : cx.round = true → fr.defs = []
  fn : b.fn = cx.f
  zle : B ≤ z
  zw : z ≤ w.heap.size

/-- How code may end. -/
def OutTo (cx : Cx) (b : Host) (z : Nat) (cs : List Frame) (k : List Item) (M : Machine) (m : Emb) (h : H) (w : World) : Out → Prop
  | .nrm fr' h' => ∃ m' t' ds' w', Steps P M (lone (b.fr t' ds' k) (csAt cs fr'.rcd) w') ∧ St e G B cx b z cs m' fr' h' t' ds' w' ∧ Turn B m h w m' h' w'
  | .ext id fr' h' => ∃ m' t' ds' w' kr, Steps P M (lone (b.fr t' ds' (.code (.exit id) :: kr)) (csAt cs fr'.rcd) w') ∧ exitTo id kr = exitTo id k ∧ St e G B cx b z cs m' fr' h' t' ds' w' ∧ Turn B m h w m' h' w'
  | .ret fr' h' => ∃ m' t' ds' w' kr, Steps P M (lone (b.fr t' ds' (.code .ret :: kr)) (csAt cs fr'.rcd) w') ∧ St e G B cx b z cs m' fr' h' t' ds' w' ∧ Turn B m h w m' h' w'
  | .pan v fr' h' => ∃ m' t' ds' w' kr v', Steps P M (lone { b.fr t' ds' kr with mode := .panicking [{ v := v', recovered := false }] } (csAt cs fr'.rcd) w') ∧ VRel m' v v' ∧ St e G B cx b z cs m' fr' h' t' ds' w' ∧ Turn B m h w m' h' w'

/-- How a call may end. -/
def CallTo (f : Nat) (kind : CallKind) (cs : List Frame) (M : Machine) (m : Emb) (h : H) (w : World) : CR → Prop
  | .ok v h' rcd => ∃ m' w' fr' v', Steps P M (lone fr' (csAt cs rcd) w') ∧ fr'.mode = .returning ∧ fr'.defers = [] ∧ fr'.kind = kind ∧ fr'.fn = f ∧ (∃ fn, P.funcs[f]? = some fn ∧ (results fn fr'.tmps).run P w' = .ok v' w') ∧
      VRel m' v v' ∧ Rel G B (CodeC e G) m' h' w'.heap ∧ Turn B m h w m' h' w'
  | .pan v h' => ∃ m' w' fr' v', Steps P M (lone fr' cs w') ∧ fr'.mode = .panicking [{ v := v', recovered := false }] ∧ fr'.defers = [] ∧ fr'.fn = f ∧ (∃ fn, P.funcs[f]? = some fn) ∧
      VRel m' v v' ∧ Rel G B (CodeC e G) m' h' w'.heap ∧ Turn B m h w m' h' w'

/-- How a call or a round comes back to the frame that made it. -/
def BackTo (c : Frame) (cs : List Frame) (M : Machine) (m : Emb) (h : H) (w : World) : CR → Prop
  | .ok v h' _ => ∃ m' w' v', Steps P M (lone (c.finish v') cs w') ∧ VRel m' v v' ∧ Rel G B (CodeC e G) m' h' w'.heap ∧ Turn B m h w m' h' w'
  | .pan v h' => ∃ m' w' v', Steps P M (lone (c.raise [{ v := v', recovered := false }]) cs w') ∧ VRel m' v v' ∧ Rel G B (CodeC e G) m' h' w'.heap ∧ Turn B m h w m' h' w'

def CallSim (call : Nat → List AV → H → Option AV → T CR) : Prop :=
  ∀ f args h p Q, (call f args h p).all Q → ∀ kind cs m w (args' : Array Value), VRels m args args'.toList → Rel G B (CodeC e G) m h w.heap → PanOK m kind cs p → (∃ fn, e.ft.get f = some (.body fn)) →
    ∃ cr, Q cr ∧ CallTo P e G B f kind cs (lone (Frame.enter P f args' kind) cs w) m h w cr

/-- The item that stands for code. -/
def CItem (c : Code) (it : Item) : Prop := it = .code c ∨ ∃ body, c = .loop body ∧ it = .inLoop body

def CodeSim (code : Cx → Code → Fr → H → T Out) : Prop :=
  ∀ cx c fr h Q, CodeC e G cx.f c → (code cx c fr h).all Q → ∀ it b z cs k m t ds w, CItem c it → St e G B cx b z cs m fr h t ds w →
    ∃ out, Q out ∧ OutTo P e G B cx b z cs k (lone (b.fr t ds (it :: k)) (csAt cs fr.rcd) w) m h w out
end

section
variable {P : Program} {e : Env} {G B : Nat} {cx : Cx} {b : Host} {z : Nat} {cs : List Frame} {k k' : List Item} {M M' : Machine} {m m₁ : Emb} {h h₁ : H} {w w₁ : World} {fr : Fr} {t : Array Value} {ds : List Deferred}

theorem OutTo.steps {out : Out} (hs : Steps P M M') (T : Turn B m h w m₁ h₁ w₁) (x : OutTo P e G B cx b z cs k M' m₁ h₁ w₁ out) : OutTo P e G B cx b z cs k M m h w out := by
  cases out with
  | nrm fr' h' => obtain ⟨m', t', ds', w', a1, a2, a3⟩ := x; exact ⟨m', t', ds', w', hs.trans a1, a2, T.trans a3⟩
  | ext id fr' h' => obtain ⟨m', t', ds', w', kr, a1, a2, a3, a4⟩ := x; exact ⟨m', t', ds', w', kr, hs.trans a1, a2, a3, T.trans a4⟩
  | ret fr' h' => obtain ⟨m', t', ds', w', kr, a1, a2, a3⟩ := x; exact ⟨m', t', ds', w', kr, hs.trans a1, a2, T.trans a3⟩
  | pan v fr' h' => obtain ⟨m', t', ds', w', kr, v', a1, a2, a3, a4⟩ := x; exact ⟨m', t', ds', w', kr, v', hs.trans a1, a2, a3, T.trans a4⟩

theorem OutTo.steps0 {out : Out} (hs : Steps P M M') (x : OutTo P e G B cx b z cs k M' m h w out) : OutTo P e G B cx b z cs k M m h w out := x.steps hs (Turn.refl _ _ _ _)

/-- What passes by: the items behind it do not matter to an exit. -/
theorem OutTo.pass {out : Out} (hk : ∀ id, exitTo id k = exitTo id k') (hn : ∀ fr' h', out ≠ .nrm fr' h') (x : OutTo P e G B cx b z cs k M m h w out) : OutTo P e G B cx b z cs k' M m h w out := by
  cases out with
  | nrm fr' h' => exact absurd rfl (hn fr' h')
  | ext id fr' h' => obtain ⟨m', t', ds', w', kr, a1, a2, a3, a4⟩ := x; exact ⟨m', t', ds', w', kr, a1, a2.trans (hk id), a3, a4⟩
  | ret fr' h' => exact x
  | pan v fr' h' => exact x

theorem hstep_skip : step P (lone (b.fr t ds (.code .skip :: k)) cs w) = .next (lone (b.fr t ds k) cs w) := step_lone_go (by simp [stepG, stepG.exec, Host.fr])
theorem hstep_inBlock {id : Nat} : step P (lone (b.fr t ds (.inBlock id :: k)) cs w) = .next (lone (b.fr t ds k) cs w) := step_lone_go (by simp [stepG, stepG.exec, Host.fr])
theorem hstep_seq {x y : Code} : step P (lone (b.fr t ds (.code (.seq x y) :: k)) cs w) = .next (lone (b.fr t ds (.code x :: .code y :: k)) cs w) := step_lone_go (by simp [stepG, stepG.exec, Host.fr])
theorem hstep_cond {c : Operand} {x y : Code} {q : Bool} (hc : ev t c = .bool q) : step P (lone (b.fr t ds (.code (.cond c x y) :: k)) cs w) = .next (lone (b.fr t ds (.code (if q then x else y) :: k)) cs w) :=
  step_lone_go (by
    have := congrFun (Host.eval_fr b t ds (.code (.cond c x y) :: k)) c
    simp only [Host.fr] at this
    simp [stepG, stepG.exec, Host.fr, this, hc])
theorem hstep_block {id : Nat} {c : Code} : step P (lone (b.fr t ds (.code (.block id c) :: k)) cs w) = .next (lone (b.fr t ds (.code c :: .inBlock id :: k)) cs w) := step_lone_go (by simp [stepG, stepG.exec, Host.fr])
theorem hstep_loop {c : Code} : step P (lone (b.fr t ds (.code (.loop c) :: k)) cs w) = .next (lone (b.fr t ds (.code c :: .inLoop c :: k)) cs w) := step_lone_go (by simp [stepG, stepG.exec, Host.fr])
theorem hstep_inLoop {c : Code} : step P (lone (b.fr t ds (.inLoop c :: k)) cs w) = .next (lone (b.fr t ds (.code c :: .inLoop c :: k)) cs w) := step_lone_go (by simp [stepG, stepG.exec, Host.fr])
theorem hstep_exit {id : Nat} (hk : exitTo id k = some k') : step P (lone (b.fr t ds (.code (.exit id) :: k)) cs w) = .next (lone (b.fr t ds k') cs w) := step_lone_go (by simp [stepG, stepG.exec, Host.fr, hk])
theorem hstep_region {id : Nat} {ops : Array Oper} : step P (lone (b.fr t ds (.code (.region id ops false) :: k)) cs w) = .next (lone (b.fr t ds (.inRegion ops (List.range ops.size) :: k)) cs w) := step_lone_go (by simp [stepG, stepG.exec, Host.fr])
theorem hstep_done {ops : Array Oper} : step P (lone (b.fr t ds (.inRegion ops [] :: k)) cs w) = .next (lone (b.fr t ds k) cs w) := step_lone_go (by simp [stepG, stepG.exec, Host.fr])
end
end Go.Ab
namespace Go.Ab
section
variable {P : Program} {b : Host} {cs : List Frame} {k : List Item} {w w' : World} {t : Array Value} {ds : List Deferred} {ops : Array Oper} {i : Nat} {rest : List Nat} {o : Oper}

def putT (t : Array Value) (dst : Option Tmp) (v : Value) : Array Value := match dst with | some d => t.setIfInBounds d v | none => t

theorem finish_fr (ho : ops[i]? = some o) (v : Value) : (b.fr t ds (.inRegion ops (i :: rest) :: k)).finish v = b.fr (putT t o.dst v) ds (.inRegion ops rest :: k) := by
  simp only [Frame.finish, Host.fr, ho, Option.bind_some, putT]
  cases o.dst <;> rfl

theorem hstep_skipOp (ho : ops[i]? = some o) (hw : Region.wanted o (yielded ops t) = false) :
    step P (lone (b.fr t ds (.inRegion ops (i :: rest) :: k)) cs w) = .next (lone (b.fr (putT t o.dst undef) ds (.inRegion ops rest :: k)) cs w) := by
  rw [← finish_fr ho]
  exact step_lone_go (by simp [stepG, stepG.exec, Host.fr, ho, hw])

theorem hstep_op (ho : ops[i]? = some o) (hw : Region.wanted o (yielded ops t) = true) (hd : b.round = none ∨ ∀ c, o.op ≠ .defer c) :
    stepG P true { frame := b.fr t ds (.inRegion ops (i :: rest) :: k), callers := cs, status := .running, dying := none } w =
      stepG.apply P true (b.fr t ds (.inRegion ops (i :: rest) :: k)) cs none (execOp (ev t) o) w := by
  have he := Host.eval_fr b t ds (.inRegion ops (i :: rest) :: k)
  simp only [Host.fr] at he
  simp only [stepG, stepG.exec, stepG.oper, Frame.oper?, Host.fr, ho, hw, he, Option.map_some, Option.getD_some, if_true]
  cases hb : b.round with
  | none => rfl
  | some l =>
    cases hop : o.op <;> first | rfl | (rcases hd with hd | hd <;> first | (rw [hb] at hd; cases hd) | exact absurd hop (hd _))

theorem hstep_value (ho : ops[i]? = some o) (hw : Region.wanted o (yielded ops t) = true) (hd : b.round = none ∨ ∀ c, o.op ≠ .defer c) {v : Value} (hr : (execOp (ev t) o).run P w = .ok (.value v) w') :
    step P (lone (b.fr t ds (.inRegion ops (i :: rest) :: k)) cs w) = .next (lone (b.fr (putT t o.dst v) ds (.inRegion ops rest :: k)) cs w') := by
  rw [← finish_fr ho]
  exact step_lone_go (by rw [hstep_op ho hw hd]; simp [stepG.apply, Sem.runT_eq, hr, Host.fr])

theorem hstep_skipped (ho : ops[i]? = some o) (hw : Region.wanted o (yielded ops t) = true) (hd : b.round = none ∨ ∀ c, o.op ≠ .defer c) (hr : (execOp (ev t) o).run P w = .ok .skip w') :
    step P (lone (b.fr t ds (.inRegion ops (i :: rest) :: k)) cs w) = .next (lone (b.fr (putT t o.dst undef) ds (.inRegion ops rest :: k)) cs w') := by
  rw [← finish_fr ho]
  exact step_lone_go (by rw [hstep_op ho hw hd]; simp [stepG.apply, Sem.runT_eq, hr, Host.fr])

theorem hstep_panic (ho : ops[i]? = some o) (hw : Region.wanted o (yielded ops t) = true) (hd : b.round = none ∨ ∀ c, o.op ≠ .defer c) {v : Value} (hr : (execOp (ev t) o).run P w = .halt (.panic v) w') :
    step P (lone (b.fr t ds (.inRegion ops (i :: rest) :: k)) cs w) = .next (lone { b.fr t ds (.inRegion ops (i :: rest) :: k) with mode := .panicking [{ v, recovered := false }] } cs w') :=
  step_lone_go (by rw [hstep_op ho hw hd]; simp [stepG.apply, Sem.runT_eq, hr, Host.fr, Frame.raise])

theorem hstep_enter (ho : ops[i]? = some o) (hw : Region.wanted o (yielded ops t) = true) (hd : b.round = none ∨ ∀ c, o.op ≠ .defer c) {f : Nat} {args : Array Value} (hr : (execOp (ev t) o).run P w = .ok (.enter f args) w') :
    step P (lone (b.fr t ds (.inRegion ops (i :: rest) :: k)) cs w) = .next (lone (Frame.enter P f args .normal) (b.fr t ds (.inRegion ops (i :: rest) :: k) :: cs) w') :=
  step_lone_go (by rw [hstep_op ho hw hd]; simp [stepG.apply, Sem.runT_eq, hr, Host.fr])

theorem hstep_round (ho : ops[i]? = some o) (hw : Region.wanted o (yielded ops t) = true) (hd : b.round = none ∨ ∀ c, o.op ≠ .defer c) {l f : Nat} {tmps : Array Value} {as' body : Code} (hr : (execOp (ev t) o).run P w = .ok (.round l f tmps as' body) w') :
    step P (lone (b.fr t ds (.inRegion ops (i :: rest) :: k)) cs w) = .next (lone (Frame.round l f tmps as' body .normal) (b.fr t ds (.inRegion ops (i :: rest) :: k) :: cs) w') :=
  step_lone_go (by rw [hstep_op ho hw hd]; simp [stepG.apply, Sem.runT_eq, hr, Host.fr])

theorem hstep_defer (ho : ops[i]? = some o) (hw : Region.wanted o (yielded ops t) = true) (hb : b.round = none) {d : Deferred} (hr : (execOp (ev t) o).run P w = .ok (.defer d) w') :
    step P (lone (b.fr t ds (.inRegion ops (i :: rest) :: k)) cs w) = .next (lone (b.fr (putT t o.dst undef) (d :: ds) (.inRegion ops rest :: k)) cs w') := by
  rw [← finish_fr ho]
  exact step_lone_go (by rw [hstep_op ho hw (.inl hb)]; simp [stepG.apply, Sem.runT_eq, hr, Host.fr])

theorem hstep_recover_some (ho : ops[i]? = some o) (hw : Region.wanted o (yielded ops t) = true) (hb : b.round = none) (hr : (execOp (ev t) o).run P w = .ok .recover w') {c : Frame} {cs0 : List Frame} {v : Value} {older : List PanicEntry}
    (hk : b.kind = .deferred) (hc : cs = c :: cs0) (hm : c.mode = .panicking ({ v, recovered := false } :: older)) :
    step P (lone (b.fr t ds (.inRegion ops (i :: rest) :: k)) cs w) = .next (lone (b.fr (putT t o.dst v) ds (.inRegion ops rest :: k)) (recd cs) w') := by
  rw [← finish_fr ho]
  subst hc
  exact step_lone_go (by rw [hstep_op ho hw (.inl hb)]; simp [stepG.apply, Sem.runT_eq, hr, Host.fr, hb, tryRecover, hk, hm, recd, recM])

theorem hstep_recover_none (ho : ops[i]? = some o) (hw : Region.wanted o (yielded ops t) = true) (hb : b.round = none) (hr : (execOp (ev t) o).run P w = .ok .recover w')
    (hn : ∀ todo, tryRecover (b.fr t ds todo) cs = none) :
    step P (lone (b.fr t ds (.inRegion ops (i :: rest) :: k)) cs w) = .next (lone (b.fr (putT t o.dst .nilIface) ds (.inRegion ops rest :: k)) cs w') := by
  rw [← finish_fr ho]
  refine step_lone_go ?_
  rw [hstep_op ho hw (.inl hb)]
  have := hn (.inRegion ops (i :: rest) :: k)
  have hr0 : (b.fr t ds (.inRegion ops (i :: rest) :: k)).roundOf = none := hb
  simp only [stepG.apply, Sem.runT_eq, hr, hr0, this, GStep.bare_after]
  simp [Host.fr]

/-- A call's end, the frame that made it waiting. -/
theorem hstep_returned {fr c : Frame} {fn : Func} {v : Value} (hm : fr.mode = .returning) (hd : fr.defers = []) (hk : fr.kind = .normal) (hf : P.funcs[fr.fn]? = some fn) (hr : (results fn fr.tmps).run P w = .ok v w) :
    step P (lone fr (c :: cs) w) = .next (lone (c.finish v) cs w) :=
  step_lone_go (by simp only [stepG, unwind, doReturn, hm, hd, hk, hf, Sem.runT_eq, hr, GStep.bare_after, GStep.bare_go])

theorem hstep_raised {fr c : Frame} {chain : List PanicEntry} (hm : fr.mode = .panicking chain) (hd : fr.defers = []) (hf : (∃ fn, P.funcs[fr.fn]? = some fn)) :
    step P (lone fr (c :: cs) w) = .next (lone (c.raise chain) cs w) := by
  obtain ⟨fn, hf⟩ := hf
  exact step_lone_go (by simp [stepG, unwind, Frame.catches, hm, hd, hf])

end

section
variable {P : Program} {e : Env} {G B : Nat} {cs : List Frame} {m : Emb} {h : H} {w : World}

theorem recd_run (c : Frame) (cs : List Frame) (hm : c.mode = .run) (q : Bool) : csAt (c :: cs) q = c :: cs := by
  cases q with
  | false => rfl
  | true => simp only [csAt, recd, if_true, hm, recM]; rw [← hm]

theorem CallTo.back {f : Nat} {c : Frame} (hc : c.mode = .run) {M : Machine} {cr : CR} (x : CallTo P e G B f .normal (c :: cs) M m h w cr) : BackTo P e G B c cs M m h w cr := by
  cases cr with
  | ok v h' rcd =>
    obtain ⟨m', w', fr', v', a1, a2, a3, a4, a5, ⟨fn, a6, a7⟩, a8, a9, a10⟩ := x
    rw [recd_run c cs hc] at a1
    exact ⟨m', w', v', a1.trans (.one (hstep_returned a2 a3 a4 (a5 ▸ a6) a7)), a8, a9, a10⟩
  | pan v h' =>
    obtain ⟨m', w', fr', v', a1, a2, a3, a4, a5, a6, a7, a8⟩ := x
    exact ⟨m', w', v', a1.trans (.one (hstep_raised a2 a3 (a4 ▸ a5))), a6, a7, a8⟩

theorem BackTo.steps {c : Frame} {M M' : Machine} (hs : Steps P M M') {cr : CR} (x : BackTo P e G B c cs M' m h w cr) : BackTo P e G B c cs M m h w cr := by
  cases cr with
  | ok v h' rcd => obtain ⟨m', w', v', a1, a2⟩ := x; exact ⟨m', w', v', hs.trans a1, a2⟩
  | pan v h' => obtain ⟨m', w', v', a1, a2⟩ := x; exact ⟨m', w', v', hs.trans a1, a2⟩
end
end Go.Ab
namespace Go.Ab
section
variable {P : Program} {e : Env} {G B : Nat} {cs : List Frame} {m : Emb} {h : H} {w : World} {fr fr' : Fr} {t : Array Value} {ds : List Deferred} {ops : Array Oper} {i : Nat} {rest : List Nat} {o : Oper} {k : List Item} {b : Host} {nt : Nat}

theorem VRel.bool_inv {q : Bool} {x : Value} (r : VRel m (.bool q) x) : x = .bool q := by cases r; rfl
theorem VRel.not_bool {v : AV} {x : Value} (r : VRel m v x) (hv : ∀ q, v ≠ .bool q) : ∀ q, x ≠ .bool q := by
  intro q hq
  subst hq
  cases r
  exact hv _ rfl

theorem wanted_rel (F : TRel m fr.tmps t) {q : Bool} (hw : wantedA ops.toList fr o = some q) : Region.wanted o (yielded ops t) = q := by
  unfold wantedA at hw
  unfold Region.wanted
  split at hw
  · rename_i hg
    rw [hg]
    simpa using hw
  · rename_i j want hg
    rw [hg]
    dsimp only
    split at hw
    · rename_i oj hj
      rw [lget_eq, Array.getElem?_toList] at hj
      split at hw
      · rename_i d hd
        split at hw
        · rename_i q' hq
          obtain ⟨y, hy, hr⟩ := F d _ hq
          have hyb := hr.bool_inv
          subst hyb
          have hy' : yielded ops t j = some q' := by simp only [yielded, hj, Option.bind_some, hd, hy]
          rw [hy']
          exact Option.some.inj hw
        · rename_i v' hn hq
          injection hw with hw
          subst hw
          obtain ⟨y, hy, hr⟩ := F d v' hq
          have hyb := hr.not_bool (fun q hq' => hn q hq')
          have : yielded ops t j = none := by
            simp only [yielded, hj, Option.bind_some, hd, hy]
            try (split <;> first | rfl | (rename_i q2 hq2; injection hq2 with hq2; exact absurd hq2 (hyb q2)))
          rw [this]; rfl
        · cases hw
      · cases hw
    · cases hw

theorem put_rel (F : TRel m fr.tmps t) (hn : t.size = nt) {dst : Option Tmp} {v : AV} {v' : Value} (hv : VRel m v v') (hp : fr.put nt dst v = some fr') :
    TRel m fr'.tmps (putT t dst v') ∧ (putT t dst v').size = nt ∧ fr'.defs = fr.defs ∧ fr'.pan = fr.pan ∧ fr'.rcd = fr.rcd := by
  unfold Fr.put at hp
  split at hp
  · injection hp with hp; subst hp; exact ⟨F, hn, rfl, rfl, rfl⟩
  · rename_i d
    split at hp
    · rename_i hd
      have hd : d < nt := by simpa using hd
      injection hp with hp; subst hp
      exact ⟨F.set (by rw [hn]; exact hd) hv, by simp [putT, hn], rfl, rfl, rfl⟩
    · cases hp

/-- What an operation comes to, on the real side. -/
def ResTo (P : Program) (e : Env) (G B : Nat) (b : Host) (t : Array Value) (ds : List Deferred) (ops : Array Oper) (i : Nat) (rest : List Nat) (k : List Item) (cs : List Frame) (o : Oper) (m : Emb) (h : H) (w : World) : ORes → Prop
  | .val v h' => ∃ m' w' v', Steps P (lone (b.fr t ds (.inRegion ops (i :: rest) :: k)) cs w) (lone (b.fr (putT t o.dst v') ds (.inRegion ops rest :: k)) cs w') ∧ VRel m' v v' ∧ Rel G B (CodeC e G) m' h' w'.heap ∧ Turn B m h w m' h' w'
  | .pan v h' => ∃ m' w' v', Steps P (lone (b.fr t ds (.inRegion ops (i :: rest) :: k)) cs w) (lone { b.fr t ds (.inRegion ops (i :: rest) :: k) with mode := .panicking [{ v := v', recovered := false }] } cs w') ∧
      VRel m' v v' ∧ Rel G B (CodeC e G) m' h' w'.heap ∧ Turn B m h w m' h' w'
  | .dfr (.call f args) => Region.wanted o (yielded ops t) = true ∧ (∃ fn, e.ft.get f = some (.body fn)) ∧ ∃ (caps args' : Array Value), (execOp (ev t) o).run P w = .ok (.defer { target := .fn (.func f) caps, args := args' }) w ∧ VRels m args (args' ++ caps).toList
  | .dfr .mark => False
  | .rcv => Region.wanted o (yielded ops t) = true ∧ (execOp (ev t) o).run P w = .ok .recover w

/-- The summaries speak true. -/
def SumsOK (P : Program) (e : Env) (G B : Nat) : Prop :=
  ∀ f g args h v h', e.sums f = some g → g args h = some (v, h') → ∀ cs m w (args' : Array Value), VRels m args args'.toList → Rel G B (CodeC e G) m h w.heap →
    CallTo P e G B f .normal cs (lone (Frame.enter P f args' .normal) cs w) m h w (.ok v h' false)

/-- What is said of a round. -/
def RoundSim (P : Program) (e : Env) (G B : Nat) (r : Rec) : Prop :=
  ∀ l args h Q, (roundA r l args h).all Q → ∀ m w i (args' : Array Value), m l = some i → VRels m args args'.toList → Rel G B (CodeC e G) m h w.heap →
    ∃ f tmps as' body, (Instr.yield i.r args').run P w = .ok (.round i.r f tmps as' body) w ∧
      ∀ c cs, c.mode = .run → ∃ cr, Q cr ∧ BackTo P e G B c cs (lone (Frame.round i.r f tmps as' body .normal) (c :: cs) w) m h w cr

def CR.ores : CR → ORes
  | .ok v h _ => .val v h
  | .pan v h => .pan v h
theorem CR.res_all {cr : CR} {Q : ORes → Prop} (hq : (CR.res cr).all Q) : Q cr.ores := by
  cases cr <;> exact hq

theorem opA_defer {c : Call} (ho : o.op = .defer c) : (∃ d, opA e fr h nt o = .dfr d) ∨ opA e fr h nt o = .bad := by
  simp only [opA, ho]
  repeat' split
  all_goals first | exact .inr rfl | exact .inl ⟨_, rfl⟩

theorem raise_run {c : Frame} (hc : c.mode = .run) (vs : List PanicEntry) : c.raise vs = { c with mode := .panicking vs } := by
  simp only [Frame.raise, hc]

theorem BackTo.res {cr : CR} {M : Machine} (ho : ops[i]? = some o) (hs : Steps P (lone (b.fr t ds (.inRegion ops (i :: rest) :: k)) cs w) M) (x : BackTo P e G B (b.fr t ds (.inRegion ops (i :: rest) :: k)) cs M m h w cr) :
    ResTo P e G B b t ds ops i rest k cs o m h w cr.ores := by
  cases cr with
  | ok v h' rcd =>
    obtain ⟨m', w', v', a1, a2, a3, a4⟩ := x
    rw [finish_fr ho] at a1
    exact ⟨m', w', v', hs.trans a1, a2, a3, a4⟩
  | pan v h' =>
    obtain ⟨m', w', v', a1, a2, a3, a4⟩ := x
    rw [raise_run rfl] at a1
    exact ⟨m', w', v', hs.trans a1, a2, a3, a4⟩

theorem sim_runOp (EO : EnvOK P e G) (SO : SumsOK P e G B) {r : Rec} (CS : CallSim P e G B r.call) (RS : RoundSim P e G B r) (ho : ops[i]? = some o) (hx : o.op.operands.toList.all (opdOk G) = true)
    (R : Rel G B (CodeC e G) m h w.heap) (F : TRel m fr.tmps t) {Q : ORes → Prop} (hq : (runOp e r nt ops.toList o fr h).all Q) :
    ∃ res, Q res ∧ ResTo P e G B b t ds ops i rest k cs o m h w res := by
  unfold runOp at hq
  split at hq
  · exact hq.elim
  · rename_i hw
    exact ⟨_, hq, m, w, undef, .one (hstep_skipOp ho (wanted_rel F hw)), .tup _ _ .nil, R, Turn.refl _ _ _ _⟩
  · rename_i hw
    have hw := wanted_rel F hw
    have hd : ∀ {x}, opA e fr h nt o = x → (∀ d, x ≠ .dfr d) → x ≠ .bad → b.round = none ∨ ∀ c, o.op ≠ .defer c := by
      intro x hx1 hx2 hx3
      refine .inr fun c hc => ?_
      rcases opA_defer (e := e) (fr := fr) (h := h) (nt := nt) hc with ⟨d, q⟩ | q
      · exact hx2 d (hx1.symm.trans q)
      · exact hx3 (hx1.symm.trans q)
    have so := sim_op (B := B) (nt := nt) EO R F hx
    have sim1 : ∀ {v h'}, (b.round = none ∨ ∀ c, o.op ≠ .defer c) → Sim1 P G B (CodeC e G) m h w t o v h' → ResTo P e G B b t ds ops i rest k cs o m h w (.val v h') := by
      intro v h' hd' s
      obtain ⟨v', w', m', hop, a1, a2, a3⟩ := s
      rcases hop with hop | ⟨hop, rfl⟩
      · exact ⟨m', w', v', .one (hstep_value ho hw hd' hop), a1, a2, a3⟩
      · exact ⟨m', w', undef, .one (hstep_skipped ho hw hd' hop), a1, a2, a3⟩
    split at hq
    · rename_i v h' hop
      rw [hop] at so
      refine ⟨_, hq, ?_⟩
      rcases so with so | ⟨f, g, args, args', q1, q2, q3, q4⟩
      · exact sim1 (hd hop (by simp) (by simp)) so
      · have := SO f g args h v h' q1 q2 (b.fr t ds (.inRegion ops (i :: rest) :: k) :: cs) m w args' q3 R
        exact (CallTo.back rfl this).res ho (.one (hstep_enter ho hw (hd hop (by simp) (by simp)) q4))
    · rename_i v h' hop
      rw [hop] at so
      obtain ⟨rfl, v', q1, q2⟩ := so
      exact ⟨_, hq, m, w, v', .one (hstep_panic ho hw (hd hop (by simp) (by simp)) q1), q2, R, Turn.refl _ _ _ _⟩
    · rename_i f args hop
      rw [hop] at so
      obtain ⟨hf, _, args', q1, q2⟩ := so
      obtain ⟨cr, c1, c2⟩ := CS f args h none _ (T.all_bind hq) .normal (b.fr t ds (.inRegion ops (i :: rest) :: k) :: cs) m w args' q2 R (.inl rfl) hf
      exact ⟨_, CR.res_all c1, (CallTo.back rfl c2).res ho (.one (hstep_enter ho hw (hd hop (by simp) (by simp)) q1))⟩
    · rename_i l args hop
      rw [hop] at so
      obtain ⟨j, args', q1, q2, q3⟩ := so
      obtain ⟨f, tmps, as', body, r1, r2⟩ := RS l args h _ (T.all_bind hq) m w j args' q1 q2 R
      obtain ⟨cr, c1, c2⟩ := r2 (b.fr t ds (.inRegion ops (i :: rest) :: k)) cs rfl
      exact ⟨_, CR.res_all c1, c2.res ho (.one (hstep_round ho hw (hd hop (by simp) (by simp)) (q3.trans r1)))⟩
    · rename_i d hop
      rw [hop] at so
      refine ⟨_, hq, ?_⟩
      cases d with
      | mark => exact so
      | call f args => exact ⟨hw, so⟩
    · rename_i hop
      rw [hop] at so
      exact ⟨_, hq, hw, so⟩
    · rename_i n kk hop
      rw [hop] at so
      obtain ⟨j, hj, q⟩ := so
      have hqj := hq j hj
      dsimp only at hqj
      split at hqj
      · rename_i v h' hk
        exact ⟨_, hqj, sim1 (hd hop (by simp) (by simp)) (q v h' hk)⟩
      · exact hqj.elim
    · exact hq.elim
end
end Go.Ab
namespace Go.Ab
section
variable {P : Program} {e : Env} {G B : Nat} {C : CodeP} {cs : List Frame} {m : Emb} {h : H} {w w' : World} {fr fr' : Fr} {t : Array Value} {ds : List Deferred} {k : List Item} {b : Host} {nt : Nat}

theorem loop_obj (R : Rel G B C m h w.heap) {l : Nat} {i : BI} {st : LoopState} {pend : Option Code} {fn nt : Nat} {tmps : PT AV} {params : List Nat} {assign body : Code} (hi : m l = some i) (hg : h.get l = some (.loop st pend fn nt tmps params assign body)) :
    ∃ L : Loop, i.s = 0 ∧ w.heap[i.r]? = some (.loop L) ∧ L.state = st ∧ L.pending = pend ∧ L.fn = fn ∧ L.tmps.size = nt ∧ TRel m tmps L.tmps ∧ L.params.toList = params ∧ L.assign = assign ∧ L.body = body ∧ C fn assign ∧ C fn body := by
  obtain ⟨o, h1, h2⟩ := R.obj l i hi
  rw [hg] at h1
  cases h1
  exact h2

theorem run_getLoop {r : Nat} {L : Loop} (hw : w.heap[r]? = some (.loop L)) : (Instr.getLoop r).run P w = .ok L w := by
  simp [Instr.getLoop, run_getObj (P := P) hw (by intro _ _ _ q; cases q)]

/-- A loop's object turned. -/
theorem loop_put (R : Rel G B C m h w.heap) {l : Nat} {i : BI} {st st' : LoopState} {pend pend' : Option Code} {fn nt : Nat} {tmps : PT AV} {params : List Nat} {assign body : Code} (hi : m l = some i) (hg : h.get l = some (.loop st pend fn nt tmps params assign body)) {L : Loop} (hw : w.heap[i.r]? = some (.loop L)) :
    ∃ w', (setObj i.r (.loop { L with state := st', pending := pend' })).run P w = .ok () w' ∧ Rel G B C m (h.put l (.loop st' pend' fn nt tmps params assign body)) w'.heap ∧ Turn B m h w m (h.put l (.loop st' pend' fn nt tmps params assign body)) w' := by
  obtain ⟨L0, c0, c1, c2, c3, c4, c5, c6, c7, c8, c9, c10, c11⟩ := loop_obj R hi hg
  rw [hw] at c1
  cases c1
  have hB := R.above hi hg (by simp [AO.ro])
  have hd := R.dom l i hi
  refine ⟨{ w with heap := w.heap.setIfInBounds i.r (.loop { L with state := st', pending := pend' }) }, run_setObj (P := P) hw (by intro _ _ _ q; cases q), ?_, ?_⟩
  · refine R.put hi hg rfl hB (by simp) (fun k hk => Array.getElem?_setIfInBounds_ne (Ne.symm hk)) ?_ (fun _ _ _ _ q => by cases q) (fun _ _ q => by cases q)
    exact ⟨{ L with state := st', pending := pend' }, c0, Array.getElem?_setIfInBounds_self_of_lt hd, rfl, rfl, c4, c5, c6, c7, c8, c9, c10, c11⟩
  · exact Turn.put hi hB (by simp) (fun k hk => Array.getElem?_setIfInBounds_ne (Ne.symm hk)) rfl rfl rfl

theorem setParams_rel : ∀ {ps : List Nat} {vs : List AV} {vs' : List Value} {x x' : PT AV} {t : Array Value}, setParams nt ps vs x = some x' → VRels m vs vs' → TRel m x t → t.size = nt →
    TRel m x' ((ps.zip vs').foldl (fun tm (p : Nat × Value) => tm.setIfInBounds p.1 p.2) t) ∧ ((ps.zip vs').foldl (fun tm (p : Nat × Value) => tm.setIfInBounds p.1 p.2) t).size = nt ∧ ps.length = vs'.length
  | [], [], _, x, x', t, hs, hv, F, hn => by
    cases hv
    simp [setParams] at hs
    subst hs
    exact ⟨F, hn, rfl⟩
  | p :: ps, v :: vs, _, x, x', t, hs, hv, F, hn => by
    cases hv with
    | cons _ a _ vs' ha hv =>
      simp only [setParams] at hs
      cases hp : Nat.blt p nt with
      | false => rw [hp] at hs; cases hs
      | true =>
        rw [hp] at hs
        have hlt : p < t.size := by rw [hn]; simpa using hp
        obtain ⟨h1, h2, h3⟩ := setParams_rel (t := t.setIfInBounds p a) hs hv (F.set hlt ha) (by simpa using hn)
        exact ⟨h1, h2, by simp [h3]⟩
  | [], _ :: _, _, _, _, _, hs, _, _, _ => by simp [setParams] at hs
  | _ :: _, [], _, _, _, _, hs, _, _, _ => by simp [setParams] at hs

section
variable {l : Nat} {v : Value} {c : Frame}
theorem hstep_beginRound (hb : b.round = some l) (hr : (Instr.beginRound l).run P w = .ok () w') : step P (lone (b.fr t ds (.beginRound :: k)) cs w) = .next (lone (b.fr t ds k) cs w') :=
  step_lone_go (by simp [stepG, stepG.exec, stepG.apply, Host.fr, hb, Sem.runT_eq, hr, Result.andThen, Frame.finish])
theorem hstep_round_end (hb : b.round = some l) (hk : b.kind = .normal) (hr : (Instr.endRound l none).run P w = .ok v w') : step P (lone (b.fr t ds []) (c :: cs) w) = .next (lone (c.finish v) cs w') :=
  step_lone_go (by simp [stepG, stepG.exec, Host.fr, hb, hk, Sem.runT_eq, hr, doReturn])
theorem hstep_round_ret (hb : b.round = some l) (hk : b.kind = .normal) (hr : (Instr.endRound l (some .ret)).run P w = .ok v w') : step P (lone (b.fr t ds (.code .ret :: k)) (c :: cs) w) = .next (lone (c.finish v) cs w') :=
  step_lone_go (by simp [stepG, stepG.exec, Host.fr, hb, hk, Sem.runT_eq, hr, doReturn])
theorem hstep_round_exit {id : Nat} (hb : b.round = some l) (hk : b.kind = .normal) (hx : exitTo id k = none) (hr : (Instr.endRound l (some (.exit id))).run P w = .ok v w') : step P (lone (b.fr t ds (.code (.exit id) :: k)) (c :: cs) w) = .next (lone (c.finish v) cs w') :=
  step_lone_go (by simp [stepG, stepG.exec, Host.fr, hb, hk, hx, Sem.runT_eq, hr, doReturn])
end

theorem DRels.nil_inv {z : Nat} {hp : Array Obj} {dds : List Deferred} (x : DRels e m hp z [] dds) : dds = [] := by cases x; rfl

/-- The end of a round. -/
theorem endRound_rel (R : Rel G B C m h w.heap) {l : Nat} {i : BI} {fr : Fr} {jump : Option Code} {Q : CR → Prop} (hi : m l = some i) (hq : (roundA.fin l fr h jump).all Q) :
    ∃ h' w', Q (.ok (.bool jump.isNone) h' false) ∧ (Instr.endRound i.r jump).run P w = .ok (.bool jump.isNone) w' ∧ Rel G B C m h' w'.heap ∧ Turn B m h w m h' w' := by
  unfold roundA.fin at hq
  split at hq
  · rename_i st pend fn nt tmps params assign body hds hg
    obtain ⟨L, c0, c1, _⟩ := loop_obj R hi hg
    cases jump with
    | none =>
      obtain ⟨w', d1, d2, d3⟩ := loop_put (P := P) (st' := .ready) (pend' := none) R hi hg c1
      exact ⟨_, w', hq, by simp [Instr.endRound, run_getLoop c1, d1], d2, d3⟩
    | some j =>
      obtain ⟨w', d1, d2, d3⟩ := loop_put (P := P) (st' := .done) (pend' := some j) R hi hg c1
      exact ⟨_, w', hq, by simp [Instr.endRound, run_getLoop c1, d1], d2, d3⟩
  · exact hq.elim

theorem sim_round (EO : EnvOK P e G) {r : Rec} (CS : CodeSim P e G B r.code) : RoundSim P e G B r := by
  intro l args h Q hq m w i args' hi ra R
  unfold roundA at hq
  split at hq
  · rename_i st pend fn nt tmps params assign body hg
    obtain ⟨L, c0, c1, c2, c3, c4, c5, c6, c7, c8, c9, c10, c11⟩ := loop_obj R hi hg
    split at hq
    · exact hq.elim
    · rename_i t hsp
      obtain ⟨F, hsz, hlen⟩ := setParams_rel hsp ra c6 c5
      have hL : (L.params.toList.zip args'.toList) = (L.params.zip args').toList := by simp
      rw [← c7, hL] at F hsz
      have hfold : (L.params.zip args').toList.foldl (fun tm (p : Nat × Value) => tm.setIfInBounds p.1 p.2) L.tmps = (L.params.zip args').foldl (fun tm (p : Nat × Value) => tm.setIfInBounds p.1 p.2) L.tmps := Array.foldl_toList _
      rw [hfold] at F hsz
      refine ⟨L.fn, (L.params.zip args').foldl (fun tm (p : Nat × Value) => tm.setIfInBounds p.1 p.2) L.tmps, L.assign, L.body, ?_, ?_⟩
      · have hl : args'.size = L.params.size := by rw [← Array.length_toList, ← Array.length_toList, c7, hlen]
        simp [Instr.yield, run_getLoop c1, hl]
      · intro c cs hc
        let b : Host := ⟨fn, .normal, some i.r⟩
        have hfr : Frame.round i.r L.fn ((L.params.zip args').foldl (fun tm (p : Nat × Value) => tm.setIfInBounds p.1 p.2) L.tmps) L.assign L.body .normal =
            b.fr ((L.params.zip args').foldl (fun tm (p : Nat × Value) => tm.setIfInBounds p.1 p.2) L.tmps) [] [.code assign, .beginRound, .code body] := by
          simp [Frame.round, Host.fr, b, c4, c8, c9]
        rw [hfr]
        have hs1 := CS ⟨fn, nt, true⟩ assign ⟨t, [], none, false⟩ h _ c10 (T.all_bind hq) (.code assign) b w.heap.size (c :: cs) [.beginRound, .code body] m _ [] w (.inl rfl)
          ⟨F, hsz, .nil, R, .inl rfl, rfl, fun _ => rfl, rfl, R.bsz, Nat.le_refl _⟩
        obtain ⟨out, q1, q2⟩ := hs1
        cases out with
        | nrm fr1 h1 =>
          obtain ⟨m1, t1, ds1, w1, a1, a2, a3⟩ := q2
          dsimp only at q1
          split at q1
          · rename_i pend1 fn1 nt1 tmps1 params1 assign1 body1 hg1
            have hi1 := a3.mono _ _ hi
            obtain ⟨L1, e0, e1, e2, e3, e4, e5, e6, e7, e8, e9, e10, e11⟩ := loop_obj a2.R hi1 hg1
            have hds := a2.D
            rw [a2.rd rfl] at hds
            have hds1 := hds.nil_inv
            subst hds1
            obtain ⟨w2, d1, d2, d3⟩ := loop_put (P := P) (st' := .busy) (pend' := pend1) a2.R hi1 hg1 e1
            have hbeg : (Instr.beginRound i.r).run P w1 = .ok () w2 := by
              have : ({ L1 with state := .busy, pending := pend1 } : Loop) = { L1 with state := .busy } := by rw [← e3]
              rw [this] at d1
              simp [Instr.beginRound, run_getLoop e1, d1, e2]
            have hcs : ∀ q, csAt (c :: cs) q = c :: cs := recd_run c cs hc
            have hst2 : St e G B ⟨fn, nt, true⟩ b w.heap.size (c :: cs) m1 fr1 (h1.put l (.loop .busy pend1 fn1 nt1 tmps1 params1 assign1 body1)) t1 [] w2 :=
              ⟨a2.T, a2.nt, a2.D.turn d3, d2, a2.pan, rfl, a2.rd, rfl, a2.zle, Nat.le_trans a2.zw d3.wsz⟩
            obtain ⟨out2, r1, r2⟩ := CS ⟨fn, nt, true⟩ body fr1 _ _ c11 (T.all_bind q1) (.code body) b w.heap.size (c :: cs) [] m1 t1 [] w2 (.inl rfl) hst2
            have hpre : Steps P (lone (b.fr ((L.params.zip args').foldl (fun tm (p : Nat × Value) => tm.setIfInBounds p.1 p.2) L.tmps) [] [.code assign, .beginRound, .code body]) (c :: cs) w) (lone (b.fr t1 [] [.code body]) (c :: cs) w2) := by
              refine Steps.trans a1 ?_
              rw [hcs]
              exact .one (hstep_beginRound rfl hbeg)
            have hT := a3.trans d3
            have fini : ∀ {m3 : Emb} {fr3 : Fr} {h3 : H} {t3 : Array Value} {ds3 : List Deferred} {w3 : World} {jump : Option Code} {todo : List Item}, St e G B ⟨fn, nt, true⟩ b w.heap.size (c :: cs) m3 fr3 h3 t3 ds3 w3 → Turn B m1 (h1.put l (.loop .busy pend1 fn1 nt1 tmps1 params1 assign1 body1)) w2 m3 h3 w3 →
                Steps P (lone (b.fr t1 [] [.code body]) (csAt (c :: cs) fr1.rcd) w2) (lone (b.fr t3 ds3 todo) (csAt (c :: cs) fr3.rcd) w3) → 
                (∀ {v w4}, (Instr.endRound i.r jump).run P w3 = .ok v w4 → step P (lone (b.fr t3 ds3 todo) (c :: cs) w3) = .next (lone (c.finish v) cs w4)) →
                (roundA.fin l fr3 h3 jump).all Q → ∃ cr, Q cr ∧ BackTo P e G B c cs (lone (b.fr ((L.params.zip args').foldl (fun tm (p : Nat × Value) => tm.setIfInBounds p.1 p.2) L.tmps) [] [.code assign, .beginRound, .code body]) (c :: cs) w) m h w cr := by
              intro m3 fr3 h3 t3 ds3 w3 jump todo s1 s2 s3 s4 s5
              obtain ⟨h4, w4, f1, f2, f3, f4⟩ := endRound_rel (P := P) s1.R (s2.mono _ _ hi1) s5
              rw [hcs, hcs] at s3
              exact ⟨_, f1, m3, w4, .bool jump.isNone, hpre.trans (s3.trans (.one (s4 f2))), .bool _, f3, (hT.trans s2).trans f4⟩
            cases out2 with
            | nrm fr3 h3 =>
              obtain ⟨m3, t3, ds3, w3, s1, s2, s3⟩ := r2
              exact fini (jump := none) s2 s3 s1 (fun hr => hstep_round_end rfl rfl hr) r1
            | ext id fr3 h3 =>
              obtain ⟨m3, t3, ds3, w3, kr, s1, s0, s2, s3⟩ := r2
              exact fini (jump := some (.exit id)) s2 s3 s1 (fun hr => hstep_round_exit rfl rfl (s0.trans rfl) hr) r1
            | ret fr3 h3 =>
              obtain ⟨m3, t3, ds3, w3, kr, s1, s2, s3⟩ := r2
              exact fini (jump := some .ret) s2 s3 s1 (fun hr => hstep_round_ret rfl rfl hr) r1
            | pan v fr3 h3 =>
              obtain ⟨m3, t3, ds3, w3, kr, v', s1, s0, s2, s3⟩ := r2
              have hds := s2.D
              rw [s2.rd rfl] at hds
              have hds3 := hds.nil_inv
              subst hds3
              rw [hcs, hcs] at s1
              obtain ⟨_, gn, hgn⟩ := c11
              exact ⟨_, r1, m3, w3, v', hpre.trans (s1.trans (.one (hstep_raised rfl rfl ⟨gn, (EO.body _ _ hgn).1⟩))), s0, s2.R, hT.trans s3⟩
          · exact q1.elim
        | ext id fr1 h1 => exact q1.elim
        | ret fr1 h1 => exact q1.elim
        | pan v fr1 h1 => exact q1.elim
  · exact hq.elim
end
end Go.Ab
namespace Go.Ab

/-- A running frame on both sides, its slots left out. -/
structure St0 (e : Env) (G B : Nat) (cx : Cx) (b : Host) (z : Nat) (cs : List Frame) (m : Emb) (fr : Fr) (h : H) (t : Array Value) (ds : List Deferred) (w : World) : Prop where
  nt : t.size = cx.nt
  D : DRels e m w.heap z fr.defs ds
  R : Rel G B (CodeC e G) m h w.heap
  pan : PanOK m b.kind cs fr.pan
  round : cx.round = b.round.isSome
  rd : cx.round = true → fr.defs = []
  fn : b.fn = cx.f
  zle : B ≤ z
  zw : z ≤ w.heap.size

section
variable {P : Program} {e : Env} {G B : Nat} {cx : Cx} {z : Nat} {cs : List Frame} {m m' : Emb} {h h' : H} {w w' : World} {fr fr' : Fr} {t : Array Value} {ds : List Deferred} {ops : Array Oper} {i : Nat} {rest : List Nat} {o : Oper} {k : List Item} {b : Host}

theorem St.st0 (s : St e G B cx b z cs m fr h t ds w) : St0 e G B cx b z cs m fr h t ds w := ⟨s.nt, s.D, s.R, s.pan, s.round, s.rd, s.fn, s.zle, s.zw⟩
theorem St0.st (s : St0 e G B cx b z cs m fr h t ds w) (F : TRel m fr.tmps t) : St e G B cx b z cs m fr h t ds w := ⟨F, s.nt, s.D, s.R, s.pan, s.round, s.rd, s.fn, s.zle, s.zw⟩

/-- The world turned. -/
theorem St0.turn (s : St0 e G B cx b z cs m fr h t ds w) (T : Turn B m h w m' h' w') (R' : Rel G B (CodeC e G) m' h' w'.heap) : St0 e G B cx b z cs m' fr h' t ds w' :=
  ⟨s.nt, s.D.turn T, R', s.pan.mono T.mono, s.round, s.rd, s.fn, s.zle, Nat.le_trans s.zw T.wsz⟩

theorem Fr.put_some {nt : Nat} {dst : Option Tmp} {v : AV} (hp : fr.put nt dst v = some fr') : fr' = { fr with tmps := fr'.tmps } ∧ ∀ v2, ∃ fr2, fr.put nt dst v2 = some fr2 := by
  unfold Fr.put at hp
  cases dst with
  | none => injection hp with hp; subst hp; exact ⟨rfl, fun v2 => ⟨fr, rfl⟩⟩
  | some d =>
    dsimp only at hp
    split at hp
    · rename_i hd
      injection hp with hp; subst hp
      exact ⟨rfl, fun v2 => ⟨_, by simp only [Fr.put]; rw [if_pos hd]⟩⟩
    · cases hp

theorem Fr.put_same {fr1 : Fr} {nt : Nat} {v : AV} : ∀ {dst : Option Tmp}, fr1.put nt dst v = some fr' → fr1.tmps = fr.tmps → ∃ fr0, fr.put nt dst v = some fr0 ∧ fr'.tmps = fr0.tmps
  | none, hp, ht => by
    simp only [Fr.put, Option.some.injEq] at hp
    subst hp
    exact ⟨fr, rfl, ht⟩
  | some d, hp, ht => by
    simp only [Fr.put] at hp ⊢
    split at hp
    · rename_i hd
      injection hp with hp; subst hp
      exact ⟨_, if_pos hd, by rw [ht]⟩
    · cases hp

theorem putT_size (dst : Option Tmp) (v : Value) : (putT t dst v).size = t.size := by cases dst <;> simp [putT]

/-- What an operation comes to is laid into its slot. -/
theorem sim_putOp (s : St0 e G B cx b z cs m fr h t ds w) (ho : ops[i]? = some o) {pk : Bool} {kk : Fr → H → T Out} {Q : Out → Prop} {res : ORes} (hq : (putOp cx pk o.dst fr h kk res).all Q)
    (hr : ResTo P e G B b t ds ops i rest k (csAt cs fr.rcd) o m h w res) :
    (∃ v v' m' w' fr0 fr' h' ds', fr.put cx.nt o.dst v = some fr0 ∧ fr'.tmps = fr0.tmps ∧ (kk fr' h').all Q ∧ VRel m' v v' ∧
      Steps P (lone (b.fr t ds (.inRegion ops (i :: rest) :: k)) (csAt cs fr.rcd) w) (lone (b.fr (putT t o.dst v') ds' (.inRegion ops rest :: k)) (csAt cs fr'.rcd) w') ∧
      St0 e G B cx b z cs m' fr' h' (putT t o.dst v') ds' w' ∧ Turn B m h w m' h' w') ∨
    (pk = true ∧ ∃ v h' m' w' v', Q (.pan v fr h') ∧
      Steps P (lone (b.fr t ds (.inRegion ops (i :: rest) :: k)) (csAt cs fr.rcd) w) (lone { b.fr t ds (.inRegion ops (i :: rest) :: k) with mode := .panicking [{ v := v', recovered := false }] } (csAt cs fr.rcd) w') ∧
      VRel m' v v' ∧ St0 e G B cx b z cs m' fr h' t ds w' ∧ Turn B m h w m' h' w') := by
  have sz : ∀ v', (putT t o.dst v').size = cx.nt := fun v' => (putT_size _ _).trans s.nt
  cases res with
  | val v h' =>
    obtain ⟨m', w', v', a1, a2, a3, a4⟩ := hr
    simp only [putOp] at hq
    split at hq
    · rename_i fr' hp
      have hfr := (Fr.put_some hp).1
      refine .inl ⟨v, v', m', w', fr', fr', h', ds, hp, rfl, hq, a2, ?_, ?_, a4⟩
      · rw [hfr]; exact a1
      · have := s.turn a4 a3
        rw [hfr]
        exact ⟨sz v', this.D, this.R, this.pan, this.round, this.rd, this.fn, this.zle, this.zw⟩
    · exact hq.elim
  | pan v h' =>
    obtain ⟨m', w', v', a1, a2, a3, a4⟩ := hr
    simp only [putOp] at hq
    cases pk with
    | false => exact hq.elim
    | true => exact .inr ⟨rfl, v, h', m', w', v', hq, a1, a2, s.turn a4 a3, a4⟩
  | dfr d =>
    simp only [putOp] at hq
    split at hq
    · exact hq.elim
    · rename_i hrd
      have hb : b.round = none := by
        have := s.round
        rw [Bool.eq_false_iff.2 hrd] at this
        cases hbr : b.round with
        | none => rfl
        | some l => rw [hbr] at this; cases this
      split at hq
      · rename_i fr' hp
        cases d with
        | mark => exact hr.elim
        | call f args =>
          obtain ⟨hw, hf, caps, args', hrun, ra⟩ := hr
          have hfr := (Fr.put_some hp).1
          obtain ⟨fr0, hp0⟩ := Fr.put_same (fr := fr) hp rfl
          refine .inl ⟨.tup [], undef, m, w, fr0, fr', h, { target := .fn (.func f) caps, args := args' } :: ds, hp0.1, hp0.2, hq, .tup _ _ .nil, ?_, ?_, Turn.refl _ _ _ _⟩
          · rw [hfr]; exact .one (hstep_defer ho hw hb hrun)
          · rw [hfr]
            exact ⟨sz _, .call f args caps args' _ _ hf ra s.D, s.R, s.pan, s.round, fun q => absurd q hrd, s.fn, s.zle, s.zw⟩
      · exact hq.elim
  | rcv =>
    obtain ⟨hw, hrun⟩ := hr
    simp only [putOp] at hq
    split at hq
    · exact hq.elim
    · rename_i hrd
      have hb : b.round = none := by
        have := s.round
        rw [Bool.eq_false_iff.2 hrd] at this
        cases hbr : b.round with
        | none => rfl
        | some l => rw [hbr] at this; cases this
      have mk : ∀ (fr1 : Fr) (v : AV) (v' : Value) (fr' : Fr), fr1.put cx.nt o.dst v = some fr' → fr1.tmps = fr.tmps → fr1.defs = fr.defs → fr1.pan = fr.pan → (kk fr' h).all Q → VRel m v v' →
          Steps P (lone (b.fr t ds (.inRegion ops (i :: rest) :: k)) (csAt cs fr.rcd) w) (lone (b.fr (putT t o.dst v') ds (.inRegion ops rest :: k)) (csAt cs fr1.rcd) w) →
          (∃ v v' m' w' fr0 fr' h' ds', fr.put cx.nt o.dst v = some fr0 ∧ fr'.tmps = fr0.tmps ∧ (kk fr' h').all Q ∧ VRel m' v v' ∧
            Steps P (lone (b.fr t ds (.inRegion ops (i :: rest) :: k)) (csAt cs fr.rcd) w) (lone (b.fr (putT t o.dst v') ds' (.inRegion ops rest :: k)) (csAt cs fr'.rcd) w') ∧
            St0 e G B cx b z cs m' fr' h' (putT t o.dst v') ds' w' ∧ Turn B m h w m' h' w') := by
        intro fr1 v v' fr' hp ht hd hpn hk hv hs
        have hfr := (Fr.put_some hp).1
        obtain ⟨fr0, hp0⟩ := Fr.put_same (fr := fr) hp ht
        refine ⟨v, v', m, w, fr0, fr', h, ds, hp0.1, hp0.2, hk, hv, ?_, ?_, Turn.refl _ _ _ _⟩
        · rw [hfr]; exact hs
        · rw [hfr]
          exact ⟨sz _, by rw [hd]; exact s.D, s.R, by rw [hpn]; exact s.pan, s.round, fun q => absurd q hrd, s.fn, s.zle, s.zw⟩
      have none_ : (∀ todo, tryRecover (b.fr t ds todo) (csAt cs fr.rcd) = none) → ∀ fr', fr.put cx.nt o.dst .niliface = some fr' → (kk fr' h).all Q → _ := fun hn fr' hp hk => mk fr .niliface .nilIface fr' hp rfl rfl rfl hk .niliface (.one (hstep_recover_none ho hw hb hrun hn))
      have hpan := s.pan
      split at hq
      · rename_i v hpn hrc
        split at hq
        · rename_i fr' hp
          rw [hpn] at hpan
          obtain ⟨hk, c, rest', v', older, hcs, hcm, hv⟩ := hpan
          refine .inl (mk { fr with rcd := true } v v' fr' hp rfl rfl rfl hq hv ?_)
          have hs := hstep_recover_some (t := t) (ds := ds) (rest := rest) (k := k) ho hw hb hrun hk hcs hcm
          rw [hrc]
          exact .one hs
        · exact hq.elim
      · rename_i hno
        split at hq
        · rename_i fr' hp
          refine .inl (none_ ?_ fr' hp hq)
          intro todo
          cases hpn : fr.pan with
          | none =>
            rw [hpn] at hpan
            rcases hpan with hk | ⟨hk, c, rest', hcs, hcm⟩
            · simp [tryRecover, Host.fr, hk]
            · subst hcs
              cases fr.rcd <;> simp [tryRecover, Host.fr, hk, csAt, recd, recM, hcm]
          | some v =>
            rw [hpn] at hpan
            obtain ⟨hk, c, rest', v', older, hcs, hcm, hv⟩ := hpan
            subst hcs
            cases hrc : fr.rcd with
            | false => exact (hno v hpn hrc).elim
            | true => simp [tryRecover, Host.fr, hk, csAt, recd, recM, hcm]
        · exact hq.elim

/-- One operation, every slot known. -/
theorem sim_oneOp (EO : EnvOK P e G) (SO : SumsOK P e G B) {r : Rec} (CS : CallSim P e G B r.call) (RS : RoundSim P e G B r) (ho : ops[i]? = some o) (hx : o.op.operands.toList.all (opdOk G) = true)
    (s : St e G B cx b z cs m fr h t ds w) {pk : Bool} {kk : Fr → H → T Out} {Q : Out → Prop} (hq : (oneOp e r cx pk ops.toList o fr h kk).all Q) :
    (∃ m' w' fr' h' t' ds', (kk fr' h').all Q ∧ Steps P (lone (b.fr t ds (.inRegion ops (i :: rest) :: k)) (csAt cs fr.rcd) w) (lone (b.fr t' ds' (.inRegion ops rest :: k)) (csAt cs fr'.rcd) w') ∧
      St e G B cx b z cs m' fr' h' t' ds' w' ∧ Turn B m h w m' h' w') ∨
    (∃ out, Q out ∧ OutTo P e G B cx b z cs k (lone (b.fr t ds (.inRegion ops (i :: rest) :: k)) (csAt cs fr.rcd) w) m h w out) := by
  obtain ⟨res, r1, r2⟩ := sim_runOp (rest := rest) (k := k) (b := b) (ds := ds) (cs := csAt cs fr.rcd) EO SO CS RS ho hx s.R s.T (T.all_bind hq)
  rcases sim_putOp s.st0 ho r1 r2 with ⟨v, v', m', w', fr0, fr', h', ds', a1, a2, a3, a4, a5, a6, a7⟩ | ⟨_, v, h', m', w', v', a1, a2, a3, a4, a5⟩
  · refine .inl ⟨m', w', fr', h', _, ds', a3, a5, a6.st ?_, a7⟩
    rw [a2]
    exact (put_rel (s.T.mono a7.mono) s.nt a4 a1).1
  · exact .inr ⟨_, a1, m', t, ds, w', _, v', a2, a3, a4.st (s.T.mono a5.mono), a5⟩

/-- The operations of a region in the order of the text. -/
theorem sim_ops (EO : EnvOK P e G) (SO : SumsOK P e G B) {r : Rec} (CS : CallSim P e G B r.call) (RS : RoundSim P e G B r) (hx : ∀ o ∈ ops.toList, o.op.operands.toList.all (opdOk G) = true) {Q : Out → Prop} :
    ∀ (l : List Oper) (n : Nat) {m : Emb} {fr : Fr} {h : H} {t : Array Value} {ds : List Deferred} {w : World}, ops.toList.drop n = l → St e G B cx b z cs m fr h t ds w → (opsA e r cx ops.toList l fr h).all Q →
    ∃ out, Q out ∧ OutTo P e G B cx b z cs k (lone (b.fr t ds (.inRegion ops ((List.range ops.size).drop n) :: k)) (csAt cs fr.rcd) w) m h w out
  | [], n, m, fr, h, t, ds, w, hl, s, hq => by
    have hn : ops.size ≤ n := by simpa using hl
    refine ⟨_, hq, m, t, ds, w, ?_, s, Turn.refl _ _ _ _⟩
    rw [List.drop_eq_nil_of_le (by simpa using hn)]
    exact .one hstep_done
  | o :: l, n, m, fr, h, t, ds, w, hl, s, hq => by
    have hn : n < ops.size := by
      rcases Nat.lt_or_ge n ops.size with q | q
      · exact q
      · rw [List.drop_eq_nil_of_le (by simpa using q)] at hl; cases hl
    have ho : ops[n]? = some o := by
      have : (ops.toList.drop n)[0]? = some o := by rw [hl]; rfl
      simpa using this
    have hdr : (List.range ops.size).drop n = n :: (List.range ops.size).drop (n + 1) := by
      rw [List.drop_eq_getElem_cons (by simpa using hn)]
      simp
    have hl' : ops.toList.drop (n + 1) = l := by
      have : (ops.toList.drop n).drop 1 = l := by rw [hl]; rfl
      rwa [List.drop_drop] at this
    rw [hdr]
    rcases sim_oneOp (rest := (List.range ops.size).drop (n + 1)) (k := k) EO SO CS RS ho (hx o (by
        have := List.mem_of_getElem? (l := ops.toList) (i := n) (by rw [Array.getElem?_toList]; exact ho)
        exact this)) s hq with ⟨m', w', fr', h', t', ds', a1, a2, a3, a4⟩ | x
    · obtain ⟨out, b1, b2⟩ := sim_ops EO SO CS RS hx l (n + 1) hl' a3 a1
      exact ⟨out, b1, b2.steps a2 a4⟩
    · exact x
end
end Go.Ab
namespace Go.Ab
section
variable {P : Program} {e : Env} {G B : Nat} {C : CodeP} {cx : Cx} {z : Nat} {cs : List Frame} {m m' m₀ : Emb} {h h' h₀ : H} {w w' w₀ : World} {fr fr' : Fr} {t : Array Value} {ds : List Deferred} {b : Host} {hp hp' : Array Obj}

/-- A real object turned that no abstract block stands for. -/
theorem Rel.away (R : Rel G B C m h hp) {r : Nat} (hr : ∀ b i, m b = some i → i.r ≠ r) (hs : hp'.size = hp.size) (hne : ∀ k, k ≠ r → hp'[k]? = hp[k]?) : Rel G B C m h hp' where
  dom := fun x j e => by rw [hs]; exact R.dom x j e
  obj := fun x j e => let ⟨o, a, q⟩ := R.obj x j e; ⟨o, a, by rw [hne _ (hr x j e)]; exact q⟩
  iter := fun x j mb ver left cur e hx => by
    obtain ⟨es, v, a1, a2, a3⟩ := R.iter x j mb ver left cur e hx
    refine ⟨es, v, a1, a2, fun e' => ?_⟩
    obtain ⟨im, seen, last, es', l', c1, c2, c3, c4⟩ := a3 e'
    exact ⟨im, seen, last, es', l', c1, by rw [hne _ (hr mb im c1)]; exact c2, by rw [hne _ (hr x j e)]; exact c3, c4⟩
  inj := R.inj
  glob := R.glob
  low := R.low
  bsz := by rw [hs]; exact R.bsz
  bound := R.bound

/-- The same, of a turn from a world in which it was not there yet. -/
theorem Turn.later (T : Turn B m₀ h₀ w₀ m h w) {r : Nat} (hr : w₀.heap.size ≤ r) (hB : B ≤ r) (hs : w'.heap.size = w.heap.size) (hne : ∀ k, k ≠ r → w'.heap[k]? = w.heap[k]?) (ho : w'.os = w.os) (hu : w'.output = w.output) (ht : w'.tape = w.tape) : Turn B m₀ h₀ w₀ m h w' where
  mono := T.mono
  new := T.new
  hsz := T.hsz
  wsz := by rw [hs]; exact T.wsz
  frame := fun x hx hn => (hne x (by omega)).trans (T.frame x hx hn)
  old := T.old
  low := fun x hx => (hne x (by omega)).trans (T.low x hx)
  os := ho.trans T.os
  output := hu.trans T.output
  tape := ht.trans T.tape

theorem DRels.away {ds : List ADef} {dds : List Deferred} {r : Nat} (x : DRels e m hp z ds dds) (hd : ∀ d ∈ dds, d.target ≠ .collected r) (hne : ∀ k, k ≠ r → hp'[k]? = hp[k]?) : DRels e m hp' z ds dds := by
  induction x with
  | nil => exact .nil
  | mark q ds dds hz hr hm hd' _ ih => exact .mark q ds dds hz ((hne q (fun e => hd _ (List.mem_cons_self ..) (by rw [e]))).trans hr) hm hd' (ih fun d q' => hd d (List.mem_cons_of_mem _ q'))
  | call f args caps args' ds dds hf ha _ ih => exact .call f args caps args' ds dds hf ha (ih fun d q' => hd d (List.mem_cons_of_mem _ q'))

theorem hstep_take {fr : Frame} {r : Nat} {a : Array Value} (hm : fr.mode ≠ .run) (hd : fr.defers = { target := .collected r, args := a } :: ds) (hr : w.heap[r]? = some (.deferred (some []))) :
    step P (lone fr cs w) = .next (lone { fr with defers := ds } cs { w with heap := w.heap.setIfInBounds r (.deferred none) }) := by
  have ht : (Instr.takeDeferred r).run P w = .ok [] { w with heap := w.heap.setIfInBounds r (.deferred none) } := by
    have hs := run_setObj (P := P) (ob := .deferred (some [])) (ob' := .deferred none) hr (by intro _ _ _ q; cases q)
    simp [Instr.takeDeferred, run_getObj (P := P) hr (by intro _ _ _ q; cases q), hs]
  refine step_lone_go ?_
  cases hmode : fr.mode with
  | run => exact absurd hmode hm
  | returning => simp [stepG, unwind, hmode, hd, Sem.runT_eq, ht]
  | panicking chain => simp [stepG, unwind, hmode, hd, Sem.runT_eq, ht]

def resF (t : Array Value) : ResultVar → Sem Value
  | .tmp i => pure (t.getD i undef)
  | .cell a ty => do loadVar ty (← asAddr (t.getD a undef))
theorem results_eq (fn : Func) (t : Array Value) : results fn t = (do let vs ← fn.results.mapM (resF t); pure (if h : vs.size = 1 then vs[0] else .tuple vs)) := rfl

theorem results_run (EO : EnvOK P e G) (R : Rel G B C m h w.heap) (F : TRel m fr.tmps t) : ∀ (rs : List ResultVar) {vs : List AV}, resultA e fr h rs = some vs →
    ∃ xs : List Value, (rs.mapM (resF t)).run P w = .ok xs w ∧ VRels m vs xs
  | [], vs, hv => by
    simp only [resultA, Option.some.injEq] at hv
    subst hv
    exact ⟨[], by simp, .nil⟩
  | .tmp i :: l, vs, hv => by
    simp only [resultA] at hv
    split at hv
    · rename_i v r hv1 hr
      injection hv with hv
      subst hv
      obtain ⟨xs, h1, h2⟩ := results_run EO R F l hr
      obtain ⟨y, hy, ry⟩ := F i v hv1
      refine ⟨y :: xs, ?_, .cons _ _ _ _ ry h2⟩
      have : t.getD i undef = y := by simp [Array.getD_eq_getD_getElem?, hy]
      simp only [List.mapM_cons, resF, Sem.run_bind, Sem.run_pure, Result.andThen_ok, this]
      rw [h1]; rfl
    · cases hv
  | .cell a ty :: l, vs, hv => by
    simp only [resultA] at hv
    split at hv
    · rename_i b o ti hv1 hti
      split at hv
      · rename_i v r hld hr
        injection hv with hv
        subst hv
        obtain ⟨xs, h1, h2⟩ := results_run EO R F l hr
        obtain ⟨y, hy, ry⟩ := F a _ hv1
        obtain ⟨i, hi, rfl⟩ := ry.ptr_inv
        obtain ⟨x, hx, rx⟩ := loadT_run (P := P) EO.toTabOK hti R hi hld
        refine ⟨x :: xs, ?_, .cons _ _ _ _ rx h2⟩
        have : t.getD a undef = .pointer (some ⟨i.r, i.s + o, none⟩) := by simp [Array.getD_eq_getD_getElem?, hy]
        simp only [List.mapM_cons, resF, Sem.run_bind, this]
        rw [show asAddr (Value.pointer (some (⟨i.r, i.s + o, none⟩ : Addr))) = pure ⟨i.r, i.s + o, none⟩ from rfl]
        simp only [Sem.run_pure, Result.andThen_ok, hx]
        rw [h1]; rfl
      · cases hv
    · cases hv

theorem resultsA_run (EO : EnvOK P e G) (R : Rel G B C m h w.heap) (F : TRel m fr.tmps t) {fn : Func} {v : AV} (hv : resultsA e fn fr h = some v) : ∃ v', (results fn t).run P w = .ok v' w ∧ VRel m v v' := by
  unfold resultsA at hv
  cases hr : resultA e fr h fn.results.toList with
  | none => rw [hr] at hv; cases hv
  | some vs =>
    obtain ⟨xs, h1, h2⟩ := results_run EO R F fn.results.toList hr
    have hm : (fn.results.mapM (resF t)).run P w = .ok xs.toArray w := by
      have : fn.results = fn.results.toList.toArray := by simp
      rw [this, List.mapM_toArray]
      simp only [map_eq_pure_bind, Sem.run_bind, h1, Result.andThen_ok, Sem.run_pure]
    have hres : (results fn t).run P w = .ok (if h : xs.toArray.size = 1 then xs.toArray[0] else .tuple xs.toArray) w := by
      rw [results_eq]
      simp only [Sem.run_bind]
      rw [hm]
      rfl
    refine ⟨_, hres, ?_⟩
    have hl := h2.length
    rw [hr] at hv
    match vs, hv with
    | [v0], hv =>
      simp at hv
      subst hv
      cases h2 with
      | cons _ x _ l' hx hl' =>
        cases hl'
        simpa using hx
    | [], hv =>
      simp at hv
      subst hv
      cases h2
      exact .tup _ _ .nil
    | a :: a2 :: l, hv =>
      simp at hv
      subst hv
      have : ¬ xs.toArray.size = 1 := by simp at hl ⊢; omega
      rw [dif_neg this]
      exact .tup _ _ (by simpa using h2)

/-- On which mode a frame leaves. -/
def LMode (m : Emb) : Option AV → FrameMode → Prop
  | none, u => u = .returning
  | some v, u => ∃ v', u = .panicking [{ v := v', recovered := false }] ∧ VRel m v v'

theorem sim_leave (EO : EnvOK P e G) {r : Rec} (CS : CallSim P e G B r.call) {fn : Func} {f : Nat} {kind : CallKind} (hf : P.funcs[f]? = some fn) {Q : CR → Prop} {rcd : Bool} {todo : List Item} : ∀ (ads : List ADef) {p : Option AV} {m : Emb} {h : H} {w : World} {ds : List Deferred} {u : FrameMode},
    (leaveA e r fn fr ads p h).all Q → fr.rcd = rcd → DRels e m w.heap w₀.heap.size ads ds → TRel m fr.tmps t → Rel G B (CodeC e G) m h w.heap → Turn B m₀ h₀ w₀ m h w → B ≤ w₀.heap.size → LMode m p u →
    ∃ cr, Q cr ∧ CallTo P e G B f kind cs (lone { (⟨f, kind, none⟩ : Host).fr t ds todo with mode := u } (csAt cs rcd) w) m₀ h₀ w₀ cr
  | [], none, m, h, w, ds, u, hq, hrc, D, F, R, T, hB, hu => by
    have hds := D.nil_inv
    subst hds
    simp only [leaveA] at hq
    split at hq
    · rename_i v hv
      obtain ⟨v', hr, rv⟩ := resultsA_run EO R F hv
      rw [hrc] at hq
      exact ⟨_, hq, m, w, _, v', Steps.refl _ _, hu, rfl, rfl, rfl, ⟨fn, hf, hr⟩, rv, R, T⟩
    · exact hq.elim
  | [], some v, m, h, w, ds, u, hq, hrc, D, F, R, T, hB, hu => by
    have hds := D.nil_inv
    subst hds
    simp only [leaveA] at hq
    split at hq
    · exact hq.elim
    · rename_i hn
      obtain ⟨v', hu, rv⟩ := hu
      have : rcd = false := by rw [← hrc]; exact Bool.eq_false_iff.2 hn
      subst this
      exact ⟨_, hq, m, w, _, v', Steps.refl _ _, hu, rfl, rfl, ⟨fn, hf⟩, rv, R, T⟩
  | .mark :: ads, p, m, h, w, ds, u, hq, hrc, D, F, R, T, hB, hu => by
    cases D with
    | mark q _ dds hz hr hm hd D =>
      have hne : ∀ k, k ≠ q → ({ w with heap := w.heap.setIfInBounds q (.deferred none) } : World).heap[k]? = w.heap[k]? := fun k hk => Array.getElem?_setIfInBounds_ne (Ne.symm hk)
      have hmode : u ≠ .run := by
        cases p with
        | none => rw [show u = .returning from hu]; simp
        | some v => obtain ⟨v', hu, _⟩ := hu; rw [hu]; simp
      obtain ⟨cr, c1, c2⟩ := sim_leave EO CS (kind := kind) (todo := todo) (w := { w with heap := w.heap.setIfInBounds q (.deferred none) }) hf ads hq hrc (D.away hd hne) F (R.away hm (by simp) hne) (T.later hz (Nat.le_trans hB hz) (by simp) hne rfl rfl rfl) hB hu
      refine ⟨cr, c1, ?_⟩
      have hs : Steps P (lone { (⟨f, kind, none⟩ : Host).fr t ({ target := .collected q, args := #[] } :: dds) todo with mode := u } (csAt cs rcd) w) _ := .one (hstep_take hmode rfl hr)
      cases cr with
      | ok v h' rc => obtain ⟨m', w', fr', v', a1, a2⟩ := c2; exact ⟨m', w', fr', v', hs.trans a1, a2⟩
      | pan v h' => obtain ⟨m', w', fr', v', a1, a2⟩ := c2; exact ⟨m', w', fr', v', hs.trans a1, a2⟩
  | .call g args :: ads, p, m, h, w, ds, u, hq, hrc, D, F, R, T, hB, hu => by
    cases D with
    | call _ _ caps args' _ dds hg ha D =>
      have hmode : u ≠ .run := by
        cases p with
        | none => rw [show u = .returning from hu]; simp
        | some v => obtain ⟨v', hu, _⟩ := hu; rw [hu]; simp
      simp only [leaveA] at hq
      obtain ⟨gn, hgn⟩ := hg
      obtain ⟨h1, h2, c, h3, _⟩ := EO.body g gn hgn
      have hinv : (invoke (.fn (.func g) caps) args').run P w = .ok (.enter g (args' ++ caps)) w := by simp [invoke, callFunc, h1, h2, h3]
      have hs := step_defer (P := P) (fr := { (⟨f, kind, none⟩ : Host).fr t ({ target := .fn (.func g) caps, args := args' } :: dds) todo with mode := u }) (cs := csAt cs rcd) (w := w) hmode rfl rfl hinv
      have hpan : PanOK m .deferred ({ (⟨f, kind, none⟩ : Host).fr t dds todo with mode := u } :: csAt cs rcd) p := by
        cases p with
        | none => exact .inr ⟨rfl, _, _, rfl, hu⟩
        | some v => obtain ⟨v', hu, rv⟩ := hu; exact ⟨rfl, _, _, v', [], rfl, hu, rv⟩
      obtain ⟨cr, c1, c2⟩ := CS g args h p _ (Go.Ab.T.all_bind hq) .deferred ({ (⟨f, kind, none⟩ : Host).fr t dds todo with mode := u } :: csAt cs rcd) m w (args' ++ caps) ha R hpan ⟨gn, hgn⟩
      cases cr with
      | pan v h' => exact c1.elim
      | ok v h' rc =>
        obtain ⟨m', w', fr', v', a1, a2, a3, a4, a5, ⟨fn', a6, a7⟩, a8, a9, a10⟩ := c2
        dsimp only at c1
        -- the caller's mode afterwards
        let u' : FrameMode := if rc then .returning else u
        have hset : ∀ (c0 : Frame), (csAt (c0 :: csAt cs rcd) rc) = { c0 with mode := (if rc then recM c0.mode else c0.mode) } :: csAt cs rcd := by
          intro c0
          cases rc <;> rfl
        rw [hset] at a1
        have hgoing : fr'.going P w' (.returned v') := ⟨a2, a3, fn', a5 ▸ a6, a7⟩
        have hs2 := step_going_returned (P := P) (cs := csAt cs rcd) (c := { ({ (⟨f, kind, none⟩ : Host).fr t dds todo with mode := u } : Frame) with mode := (if rc then recM u else u) }) a4 hgoing
        have hsettle : settle (if rc = true then recM u else u) = u' := by
          cases p with
          | none =>
            have : u = .returning := hu
            subst this
            cases rc <;> rfl
          | some v =>
            obtain ⟨v', hu, _⟩ := hu
            subst hu
            cases rc <;> rfl
        rw [hsettle] at hs2
        have hu' : LMode m' (if rc = true then none else p) u' := by
          cases rc with
          | true => rfl
          | false =>
            cases p with
            | none => exact hu
            | some v => obtain ⟨v', hu, rv⟩ := hu; exact ⟨v', hu, rv.mono a10.mono⟩
        obtain ⟨cr, d1, d2⟩ := sim_leave EO CS (kind := kind) (todo := todo) hf ads c1 hrc (D.turn a10) (F.mono a10.mono) a9 (T.trans a10) hB hu'
        refine ⟨cr, d1, ?_⟩
        have hall := (Steps.one hs).trans (a1.trans (.one hs2))
        cases cr with
        | ok v h' rc => obtain ⟨m', w', fr', v', a1, a2⟩ := d2; exact ⟨m', w', fr', v', hall.trans a1, a2⟩
        | pan v h' => obtain ⟨m', w', fr', v', a1, a2⟩ := d2; exact ⟨m', w', fr', v', hall.trans a1, a2⟩

theorem initTmps_rel : ∀ (l : List AV) (l' : List Value) (n : Nat) (x : PT AV) (t : Array Value), VRels m l l' → TRel m x t → (∀ j y, l'[j]? = some y → t[n + j]? = some y) → TRel m (initTmps n l x) t
  | [], _, _, _, _, hv, F, _ => by cases hv; exact F
  | v :: l, _, n, x, t, hv, F, ht => by
    cases hv with
    | cons _ y _ l' hy hl =>
      refine initTmps_rel l l' (n + 1) _ t hl ?_ (fun j q hj => by have := ht (j + 1) q (by simpa using hj); rwa [show n + 1 + j = n + (j + 1) by omega])
      intro i u hi
      rw [PT.get_set] at hi
      by_cases hin : i = n
      · subst hin
        rw [if_pos rfl] at hi
        cases hi
        exact ⟨y, by simpa using ht 0 y rfl, hy⟩
      · rw [if_neg hin] at hi
        exact F i u hi

/-- Calls, by code. -/
theorem sim_enter (EO : EnvOK P e G) {r : Rec} (CS : CallSim P e G B r.call) (KS : CodeSim P e G B (codeA e r)) : CallSim P e G B (enterA e r) := by
  intro f args h p Q hq kind cs m w args' ra R hp hf
  unfold enterA at hq
  split at hq
  · rename_i fn hfn
    obtain ⟨h1, h2, c, h3, h4⟩ := EO.body f fn hfn
    rw [h3] at hq
    dsimp only at hq
    split at hq
    · rename_i hle
      have hle : args.length ≤ fn.ntmps := by simpa using hle
      have hl := ra.length
      have hfr : Frame.enter P f args' kind = (⟨f, kind, none⟩ : Host).fr (args' ++ Array.replicate (fn.ntmps - args'.size) undef) [] [.code c] := by
        simp [Frame.enter, Host.fr, h1, h3]
      rw [hfr]
      have F : TRel m (initTmps 0 args .lf) (args' ++ Array.replicate (fn.ntmps - args'.size) undef) := by
        refine initTmps_rel args args'.toList 0 .lf _ ra (fun i v hi => by cases hi) (fun j y hj => ?_)
        rw [Nat.zero_add]
        rw [Array.getElem?_toList] at hj
        rw [Array.getElem?_append_left (Array.getElem?_eq_some_iff.1 hj).1]
        exact hj
      have hsz : (args' ++ Array.replicate (fn.ntmps - args'.size) undef).size = fn.ntmps := by simp at hl ⊢; omega
      obtain ⟨out, q1, q2⟩ := KS ⟨f, fn.ntmps, false⟩ c ⟨initTmps 0 args .lf, [], p, false⟩ h _ ⟨h4, fn, hfn⟩ (T.all_bind hq) (.code c) ⟨f, kind, none⟩ w.heap.size cs [] m _ [] w (.inl rfl)
        ⟨F, hsz, .nil, R, hp, rfl, (fun q => by cases q), rfl, R.bsz, Nat.le_refl _⟩
      cases out with
      | ext id fr' h' => exact q1.elim
      | nrm fr' h' =>
        obtain ⟨m', t', ds', w', a1, a2, a3⟩ := q2
        obtain ⟨cr, c1, c2⟩ := sim_leave (kind := kind) (cs := cs) (todo := []) (u := .returning) EO CS h1 _ q1 rfl a2.D a2.T a2.R a3 R.bsz rfl
        refine ⟨cr, c1, ?_⟩
        have hend : step P (lone ((⟨f, kind, none⟩ : Host).fr t' ds' []) (csAt cs fr'.rcd) w') = .next (lone { (⟨f, kind, none⟩ : Host).fr t' ds' [] with mode := .returning } (csAt cs fr'.rcd) w') := step_lone_go (by simp [stepG, stepG.exec, Host.fr])
        have hs := a1.trans (.one hend)
        cases cr with
        | ok v h' rc => obtain ⟨m', w', fr', v', a1, a2⟩ := c2; exact ⟨m', w', fr', v', hs.trans a1, a2⟩
        | pan v h' => obtain ⟨m', w', fr', v', a1, a2⟩ := c2; exact ⟨m', w', fr', v', hs.trans a1, a2⟩
      | ret fr' h' =>
        obtain ⟨m', t', ds', w', kr, a1, a2, a3⟩ := q2
        obtain ⟨cr, c1, c2⟩ := sim_leave (kind := kind) (cs := cs) (todo := .code .ret :: kr) (u := .returning) EO CS h1 _ q1 rfl a2.D a2.T a2.R a3 R.bsz rfl
        refine ⟨cr, c1, ?_⟩
        have hend : step P (lone ((⟨f, kind, none⟩ : Host).fr t' ds' (.code .ret :: kr)) (csAt cs fr'.rcd) w') = .next (lone { (⟨f, kind, none⟩ : Host).fr t' ds' (.code .ret :: kr) with mode := .returning } (csAt cs fr'.rcd) w') := step_lone_go (by simp [stepG, stepG.exec, Host.fr])
        have hs := a1.trans (.one hend)
        cases cr with
        | ok v h' rc => obtain ⟨m', w', fr', v', a1, a2⟩ := c2; exact ⟨m', w', fr', v', hs.trans a1, a2⟩
        | pan v h' => obtain ⟨m', w', fr', v', a1, a2⟩ := c2; exact ⟨m', w', fr', v', hs.trans a1, a2⟩
      | pan v fr' h' =>
        obtain ⟨m', t', ds', w', kr, v', a1, a0, a2, a3⟩ := q2
        obtain ⟨cr, c1, c2⟩ := sim_leave (kind := kind) (cs := cs) (todo := kr) EO CS h1 _ q1 rfl a2.D a2.T a2.R a3 R.bsz ⟨v', rfl, a0⟩
        refine ⟨cr, c1, ?_⟩
        cases cr with
        | ok v h' rc => obtain ⟨m', w', fr', v', b1, b2⟩ := c2; exact ⟨m', w', fr', v', a1.trans b1, b2⟩
        | pan v h' => obtain ⟨m', w', fr', v', b1, b2⟩ := c2; exact ⟨m', w', fr', v', a1.trans b1, b2⟩
    · exact hq.elim
  · exact hq.elim
end
end Go.Ab
namespace Go.Ab
section
variable {P : Program} {e : Env} {G B : Nat} {C : CodeP} {cx : Cx} {z : Nat} {cs : List Frame} {m m' m₀ : Emb} {h h' h₀ : H} {w w' w₀ : World} {fr fr' : Fr} {t : Array Value} {ds : List Deferred} {b : Host} {hp hp' : Array Obj} {k : List Item}

/-- What is said of a drawn region, in the order that the tape draws. -/
def DrawSim (P : Program) (e : Env) (G B : Nat) (r : Rec) : Prop :=
  ∀ (cx : Cx) (ops : Array Oper) (ri : RI) (fr : Fr) (h : H) (Q : Out → Prop), drawOk e.tt ops ri = true → (∀ o ∈ ops.toList, o.op.operands.toList.all (opdOk G) = true) → (drawA e r cx ops.toList ri ri.ord [] fr h).all Q →
    ∀ b z cs k m t ds w τ, St e G B cx b z cs m fr h t ds w → ∃ out, Q out ∧ OutTo P e G B cx b z cs k (lone (b.fr t ds (.inRegion ops (Region.linearise .any ops τ) :: k)) (csAt cs fr.rcd) w) m h w out

theorem hstep_draw (hm : P.follows .mixedOrders = true) {id : Nat} {ops : Array Oper} : ∃ τ, step P (lone (b.fr t ds (.code (.region id ops true) :: k)) cs w) = .next (lone (b.fr t ds (.inRegion ops (Region.linearise .any ops τ) :: k)) cs { w with drawn := w.drawn + 1 }) :=
  ⟨_, step_lone_go (by simp [stepG, stepG.exec, Host.fr, choose, Sem.run, Question.forced, Question.cut, Region.schedule, hm]; rfl)⟩

theorem DRels.targets {ds : List ADef} {dds : List Deferred} (x : DRels e m hp z ds dds) : ∀ d ∈ dds, ∀ r, d.target = .collected r → r < hp.size := by
  induction x with
  | nil => intro d hd; cases hd
  | mark q ds dds hz hr hm hd' _ ih =>
    intro d hd r hr'
    rcases List.mem_cons.1 hd with rfl | hd
    · cases hr'; exact lt_of_get hr
    · exact ih d hd r hr'
  | call f args caps args' ds dds hf ha _ ih =>
    intro d hd r hr'
    rcases List.mem_cons.1 hd with rfl | hd
    · cases hr'
    · exact ih d hd r hr'

/-- A loop over a function begins: the real side. -/
theorem hstep_rangeFunc {f : Operand} {params : Array Tmp} {assign body : Code} {l : Nat} {mark : List Deferred} {w1 : World} (hen : (Instr.enterLoop b.fn t params assign body b.round).run P w = .ok (l, mark) w1) {g : Nat} {a' c' : Array Value}
    (hf : ev t f = .func (.func g) a' c') (hcall : (callFunc g (a' ++ #[.func (.yield l) #[] #[]] ++ c')).run P w1 = .ok (.enter g (a' ++ #[.func (.yield l) #[] #[]] ++ c')) w1) :
    step P (lone (b.fr t ds (.code (.rangeFunc f params assign body) :: k)) cs w) =
      .next (lone (Frame.enter P g (a' ++ #[.func (.yield l) #[] #[]] ++ c') .normal) (b.fr t (mark ++ ds) (.inRangeFunc l :: k) :: cs) w1) := by
  have he := congrFun (Host.eval_fr b t (mark ++ ds) (.inRangeFunc l :: k)) f
  simp only [Host.fr] at he
  refine step_lone_go ?_
  have hsem : (do let d ← resolve (Frame.eval { fn := b.fn, tmps := t, todo := .inRangeFunc l :: k, defers := mark ++ ds, mode := .run, kind := b.kind, roundOf := b.round }) { callee := .value f, args := #[.const (.func (.yield l) #[] #[])], argTypes := #[] } 0; invoke d.target d.args : Sem Next).run P w1 = .ok (.enter g (a' ++ #[.func (.yield l) #[] #[]] ++ c')) w1 := by
    simp only [resolve, he, hf, Deferred.ofValue, Sem.run_bind, Sem.run_pure, Result.andThen_ok, invoke, List.map_toArray, List.map_cons, List.map_nil]
    exact hcall
  simp only [stepG, stepG.exec, Host.fr, Sem.runT_eq, hen, GStep.bare_after, stepG.apply, if_true, hsem]
  rfl

theorem hstep_endLoop {l : Nat} {jump : Option Code} (hr : (Instr.endLoop l).run P w = .ok jump w') : step P (lone (b.fr t ds (.endRangeFunc l :: k)) cs w) = .next (lone (b.fr t ds ((jump.map Item.code).toList ++ k)) cs w') :=
  step_lone_go (by simp [stepG, stepG.exec, Host.fr, Sem.runT_eq, hr])

theorem finish_range {l : Nat} (v : Value) : (b.fr t ds (.inRangeFunc l :: k)).finish v = b.fr t ds (.endRangeFunc l :: k) := rfl

theorem callA_call {f f' : Nat} {args args' : List AV} (hc : callA e h f args = .call f' args') : f' = f ∧ args' = args ∧ ∃ fn, e.ft.get f = some (.body fn) := by
  unfold callA at hc
  cases hs : e.sums f with
  | some g =>
    rw [hs] at hc
    cases hx : g args h with
    | none => simp [hx, OR.of2] at hc
    | some y => simp [hx, OR.of2] at hc
  | none =>
    rw [hs] at hc
    cases hf : e.ft.get f with
    | none => simp [hf] at hc
    | some x =>
      cases x with
      | body fn => simp [hf] at hc; exact ⟨hc.1.symm, hc.2.symm, fn, rfl⟩
      | ext x =>
        cases hx : extA h x args with
        | none => simp [hf, hx, OR.of2] at hc
        | some y => simp [hf, hx, OR.of2] at hc

/-- The loop over a function, after its call. -/
theorem sim_rangeFunc (EO : EnvOK P e G) {r : Rec} (CS : CallSim P e G B r.call) {f : Operand} {params : Array Tmp} {assign body : Code} {Q : Out → Prop} (hC : CodeC e G cx.f (.rangeFunc f params assign body)) (hq : (codeA e r cx (.rangeFunc f params assign body) fr h).all Q)
    (s : St e G B cx b z cs m fr h t ds w) : ∃ out, Q out ∧ OutTo P e G B cx b z cs k (lone (b.fr t ds (.code (.rangeFunc f params assign body) :: k)) (csAt cs fr.rcd) w) m h w out := by
  obtain ⟨hok, hfn⟩ := hC
  simp only [codeOk, Bool.and_eq_true] at hok
  unfold codeA at hq
  cases hrd : cx.round with
  | true => rw [hrd] at hq; exact hq.elim
  | false =>
  rw [hrd] at hq
  dsimp only [cond] at hq
  split at hq
  · rename_i fv hfv
    split at hq
    · rename_i g first caps
      split at hq
      · rename_i g' args hcall
        obtain ⟨a', c', hfv', r1, r2⟩ := (eval_rel s.R s.T hok.1.1 hfv).func_inv
        -- what is called
        have hg := callA_call hcall
        obtain ⟨rfl, rfl, gn, hgn⟩ := hg
        obtain ⟨h1, h2, c, h3, _⟩ := EO.body g' gn hgn
        -- the loop's object, and the mark
        have key : ∃ l mark w1 m1, (Instr.enterLoop b.fn t params assign body b.round).run P w = .ok (l, mark) w1 ∧ m1 h.sz = some ⟨l, 0, 0, none⟩ ∧
            St e G B cx b z cs m1 { fr with defs := .mark :: fr.defs } (h.new (.loop .ready none cx.f cx.nt fr.tmps params.toList assign body)) t (mark ++ ds) w1 ∧
            Turn B m h w m1 (h.new (.loop .ready none cx.f cx.nt fr.tmps params.toList assign body)) w1 := by
          have hb : b.round = none := by
            have := s.round
            rw [hrd] at this
            cases hbr : b.round with
            | none => rfl
            | some l0 => rw [hbr] at this; cases this
          let L : Loop := { state := .ready, pending := none, fn := b.fn, tmps := t, params, assign, body, defers := w.heap.size }
          let w1 : World := { w with heap := (w.heap.push (.deferred (some []))).push (.loop L) }
          have T0 : Turn B m h w m h { w with heap := w.heap.push (.deferred (some [])) } := Turn.grow s.R.bsz (by simp) (fun k hk => by rw [Array.getElem?_push, if_neg (by omega)]) rfl rfl rfl
          have R0 : Rel G B (CodeC e G) m h (w.heap.push (.deferred (some []))) := s.R.grow (by simp) (fun k hk => by rw [Array.getElem?_push, if_neg (by omega)])
          have hO : ORel (upd m h.sz ⟨w.heap.size + 1, 0, 0, none⟩) (CodeC e G) ⟨w.heap.size + 1, 0, 0, none⟩ (.loop .ready none cx.f cx.nt fr.tmps params.toList assign body) (some (.loop L)) :=
            ⟨L, rfl, rfl, rfl, rfl, s.fn, s.nt, s.T.mono (R0.upd_le _), rfl, rfl, rfl, ⟨hok.1.2, hfn⟩, ⟨hok.2, hfn⟩⟩
          have R1 := R0.new (i := ⟨w.heap.size + 1, 0, 0, none⟩) (o := .loop .ready none cx.f cx.nt fr.tmps params.toList assign body) (ob := .loop L) (by simp) hO (fun _ _ _ _ q => by cases q)
          have T1 : Turn B m h { w with heap := w.heap.push (.deferred (some [])) } (upd m h.sz ⟨w.heap.size + 1, 0, 0, none⟩) (h.new (.loop .ready none cx.f cx.nt fr.tmps params.toList assign body)) w1 :=
            Turn.alloc (w := { w with heap := w.heap.push (.deferred (some [])) }) R0 (by simp) rfl rfl rfl rfl
          have D0 := s.D.turn (T0.trans T1)
          have hmk : w1.heap[w.heap.size]? = some (.deferred (some [])) := by
            show ((w.heap.push (.deferred (some []))).push (.loop L))[w.heap.size]? = _
            rw [Array.getElem?_push, if_neg (by simp), Array.getElem?_push, if_pos rfl]
          refine ⟨w.heap.size + 1, [{ target := .collected w.heap.size, args := #[] }], w1, _, ?_, upd_self _ _ _, ⟨(s.T.mono (T0.trans T1).mono), s.nt, ?_, R1, s.pan.mono (T0.trans T1).mono, s.round, (fun q => by rw [hrd] at q; cases q), s.fn, s.zle, Nat.le_trans s.zw (T0.trans T1).wsz⟩, T0.trans T1⟩
          · rw [hb]
            simp [Instr.enterLoop, w1, L]; rfl
          · refine .mark _ _ _ s.zw hmk ?_ ?_ D0
            · intro x i hx
              by_cases hxs : x = h.sz
              · subst hxs
                rw [upd_self] at hx
                cases hx
                simp
              · rw [upd_ne _ _ _ hxs] at hx
                have := s.R.dom x i hx
                omega
            · intro d hd q
              have := s.D.targets d hd _ q
              omega
        obtain ⟨l, mark, w1, m1, hen, hm1, s1, T1⟩ := key
        have hst : step P (lone (b.fr t ds (.code (.rangeFunc f params assign body) :: k)) (csAt cs fr.rcd) w) = _ := hstep_rangeFunc hen hfv' (by simp [callFunc, h1, h2, h3])
        obtain ⟨cr, c1, c2⟩ := CS g' _ _ none _ (Go.Ab.T.all_bind hq) .normal (b.fr t (mark ++ ds) (.inRangeFunc l :: k) :: csAt cs fr.rcd) m1 w1 (a' ++ #[.func (.yield l) #[] #[]] ++ c')
          (by
            have q1 := r1.mono T1.mono
            have q2 := r2.mono T1.mono
            have q3 : VRels m1 [.yield h.sz] [.func (.yield l) #[] #[]] := .cons _ _ _ _ (.yield h.sz ⟨l, 0, 0, none⟩ hm1) .nil
            simpa using (q1.append q3).append q2) s1.R (.inl rfl) ⟨gn, hgn⟩
        have c3 := CallTo.back (P := P) rfl c2
        cases cr with
        | pan v h2 =>
          obtain ⟨m2, w2, v', a1, a2, a3, a4⟩ := c3
          rw [raise_run rfl] at a1
          refine ⟨_, c1, m2, t, mark ++ ds, w2, .inRangeFunc l :: k, v', ?_, a2, ((s1.st0.turn a4 a3).st (s1.T.mono a4.mono)), T1.trans a4⟩
          exact .head hst a1
        | ok v h2 rc =>
          obtain ⟨m2, w2, v', a1, a2, a3, a4⟩ := c3
          rw [finish_range] at a1
          dsimp only at c1
          split at c1
          · rename_i st pend fn nt tmps ps as' bd hg2
            split at c1
            · exact c1.elim
            · rename_i hnb
              have hm2 := a4.mono _ _ hm1
              obtain ⟨L, e0, e1, e2, e3, _⟩ := loop_obj a3 hm2 hg2
              obtain ⟨w3, d1, d2, d3⟩ := loop_put (P := P) (st' := .exhausted) (pend' := pend) a3 hm2 hg2 e1
              have hend : (Instr.endLoop l).run P w2 = .ok pend w3 := by
                have hb : ¬ L.state = LoopState.busy := by
                  rw [e2]
                  intro q
                  exact hnb q
                simp [Instr.endLoop, run_getLoop e1, hb, e3, d1]
              have hs2 : Steps P (lone (b.fr t ds (.code (.rangeFunc f params assign body) :: k)) (csAt cs fr.rcd) w) (lone (b.fr t (mark ++ ds) ((pend.map Item.code).toList ++ k)) (csAt cs fr.rcd) w3) :=
                .head hst (a1.trans (.one (hstep_endLoop hend)))
              have T3 := (T1.trans a4).trans d3
              have s3 := (((s1.st0.turn a4 a3).turn d3 d2).st (s1.T.mono (a4.trans d3).mono))
              split at c1
              · exact ⟨_, c1, m2, t, mark ++ ds, w3, hs2, s3, T3⟩
              · rename_i id
                exact ⟨_, c1, m2, t, mark ++ ds, w3, k, hs2, rfl, s3, T3⟩
              · exact ⟨_, c1, m2, t, mark ++ ds, w3, k, hs2, s3, T3⟩
              · exact c1.elim
          · exact c1.elim
      · exact hq.elim
    · exact hq.elim
  · exact hq.elim

/-- Code, by calls, by further rounds, and by what is drawn. -/
theorem sim_code (EO : EnvOK P e G) (SO : SumsOK P e G B) {r : Rec} (CS : CallSim P e G B r.call) (KS : CodeSim P e G B r.code) (DS : DrawSim P e G B r) : CodeSim P e G B (codeA e r) := by
  have RS := sim_round EO KS
  intro cx c
  induction c with
  | skip =>
    intro fr h Q hC hq it b z cs k m t ds w hit s
    rcases hit with rfl | ⟨_, hx, _⟩
    · exact ⟨_, hq, m, t, ds, w, .one hstep_skip, s, Turn.refl _ _ _ _⟩
    · cases hx
  | region id ops draw =>
    intro fr h Q hC hq it b z cs k m t ds w hit s
    rcases hit with rfl | ⟨_, hx, _⟩
    · obtain ⟨hok, hfn⟩ := hC
      simp only [codeOk, Bool.and_eq_true, List.all_eq_true] at hok
      have hops : ∀ o ∈ ops.toList, o.op.operands.toList.all (opdOk G) = true := fun o ho => List.all_eq_true.2 (hok.1 o ho)
      unfold codeA at hq
      cases draw with
      | false =>
        obtain ⟨out, q1, q2⟩ := sim_ops EO SO CS RS hops ops.toList 0 rfl s hq
        exact ⟨out, q1, q2.steps0 (.one hstep_region)⟩
      | true =>
        dsimp only [cond] at hq
        split at hq
        · rename_i rt hrt
          split at hq
          · rename_i ri hri
            have hdr : drawOk e.tt ops ri = true := by
              have := hok.2
              simp only [cond_true, hrt, hri] at this
              exact this
            obtain ⟨τ, hτ⟩ := hstep_draw (P := P) (b := b) (t := t) (ds := ds) (k := k) (cs := csAt cs fr.rcd) (w := w) (id := id) (ops := ops) EO.mixed
            have T0 : Turn B m h w m h { w with drawn := w.drawn + 1 } := Turn.of_world rfl rfl rfl rfl
            obtain ⟨out, q1, q2⟩ := DS cx ops ri fr h Q hdr hops hq b z cs k m t ds { w with drawn := w.drawn + 1 } τ ⟨s.T, s.nt, s.D, s.R, s.pan, s.round, s.rd, s.fn, s.zle, s.zw⟩
            exact ⟨out, q1, q2.steps (.one hτ) T0⟩
          · exact hq.elim
        · exact hq.elim
    · cases hx
  | seq x y ihx ihy =>
    intro fr h Q hC hq it b z cs k m t ds w hit s
    rcases hit with rfl | ⟨_, hx, _⟩
    · obtain ⟨hok, hfn⟩ := hC
      simp only [codeOk, Bool.and_eq_true] at hok
      obtain ⟨out, q1, q2⟩ := ihx fr h _ ⟨hok.1, hfn⟩ (Go.Ab.T.all_bind hq) (.code x) b z cs (.code y :: k) m t ds w (.inl rfl) s
      have h0 : Steps P (lone (b.fr t ds (.code (.seq x y) :: k)) (csAt cs fr.rcd) w) _ := .one hstep_seq
      cases out with
      | nrm fr1 h1 =>
        obtain ⟨m1, t1, ds1, w1, a1, a2, a3⟩ := q2
        obtain ⟨out2, r1, r2⟩ := ihy fr1 h1 Q ⟨hok.2, hfn⟩ q1 (.code y) b z cs k m1 t1 ds1 w1 (.inl rfl) a2
        exact ⟨out2, r1, r2.steps (h0.trans a1) a3⟩
      | ext id fr1 h1 => exact ⟨_, q1, (q2.pass (k' := k) (fun id => rfl) (by intro _ _ q; cases q)).steps0 h0⟩
      | ret fr1 h1 => exact ⟨_, q1, (q2.pass (k' := k) (fun id => rfl) (by intro _ _ q; cases q)).steps0 h0⟩
      | pan v fr1 h1 => exact ⟨_, q1, (q2.pass (k' := k) (fun id => rfl) (by intro _ _ q; cases q)).steps0 h0⟩
    · cases hx
  | cond c x y ihx ihy =>
    intro fr h Q hC hq it b z cs k m t ds w hit s
    rcases hit with rfl | ⟨_, hx, _⟩
    · obtain ⟨hok, hfn⟩ := hC
      simp only [codeOk, Bool.and_eq_true] at hok
      unfold codeA at hq
      split at hq
      · rename_i hc
        have hcv := (eval_rel s.R s.T hok.1.1 hc).bool_inv
        obtain ⟨out, q1, q2⟩ := ihx fr h Q ⟨hok.1.2, hfn⟩ hq (.code x) b z cs k m t ds w (.inl rfl) s
        exact ⟨out, q1, q2.steps0 (.one (hstep_cond (q := true) hcv))⟩
      · rename_i hc
        have hcv := (eval_rel s.R s.T hok.1.1 hc).bool_inv
        obtain ⟨out, q1, q2⟩ := ihy fr h Q ⟨hok.2, hfn⟩ hq (.code y) b z cs k m t ds w (.inl rfl) s
        exact ⟨out, q1, q2.steps0 (.one (hstep_cond (q := false) hcv))⟩
      · exact hq.elim
    · cases hx
  | block id c ih =>
    intro fr h Q hC hq it b z cs k m t ds w hit s
    rcases hit with rfl | ⟨_, hx, _⟩
    · obtain ⟨hok, hfn⟩ := hC
      simp only [codeOk] at hok
      obtain ⟨out, q1, q2⟩ := ih fr h _ ⟨hok, hfn⟩ (Go.Ab.T.all_bind hq) (.code c) b z cs (.inBlock id :: k) m t ds w (.inl rfl) s
      have h0 : Steps P (lone (b.fr t ds (.code (.block id c) :: k)) (csAt cs fr.rcd) w) _ := .one hstep_block
      cases out with
      | nrm fr1 h1 =>
        obtain ⟨m1, t1, ds1, w1, a1, a2, a3⟩ := q2
        exact ⟨_, q1, m1, t1, ds1, w1, h0.trans (a1.trans (.one hstep_inBlock)), a2, a3⟩
      | ext id' fr1 h1 =>
        obtain ⟨m1, t1, ds1, w1, kr, a1, a0, a2, a3⟩ := q2
        dsimp only at q1
        cases hid : Nat.beq id' id with
        | true =>
          rw [hid] at q1
          have hid : id' = id := by simpa using hid
          subst hid
          have hx : exitTo id' kr = some k := by rw [a0]; simp [exitTo]
          exact ⟨_, q1, m1, t1, ds1, w1, h0.trans (a1.trans (.one (hstep_exit hx))), a2, a3⟩
        | false =>
          rw [hid] at q1
          have hne : id ≠ id' := fun q => by subst q; simp at hid
          have hx : exitTo id' kr = exitTo id' k := by rw [a0]; simp [exitTo, hne]
          exact ⟨_, q1, m1, t1, ds1, w1, kr, h0.trans a1, hx, a2, a3⟩
      | ret fr1 h1 =>
        obtain ⟨m1, t1, ds1, w1, kr, a1, a2⟩ := q2
        exact ⟨_, q1, m1, t1, ds1, w1, kr, h0.trans a1, a2⟩
      | pan v fr1 h1 =>
        obtain ⟨m1, t1, ds1, w1, kr, v', a1, a2⟩ := q2
        exact ⟨_, q1, m1, t1, ds1, w1, kr, v', h0.trans a1, a2⟩
    · cases hx
  | loop c ih =>
    intro fr h Q hC hq it b z cs k m t ds w hit s
    have h0 : Steps P (lone (b.fr t ds (it :: k)) (csAt cs fr.rcd) w) (lone (b.fr t ds (.code c :: .inLoop c :: k)) (csAt cs fr.rcd) w) := by
      rcases hit with rfl | ⟨_, hx, rfl⟩
      · exact .one hstep_loop
      · cases hx; exact .one hstep_inLoop
    have hC' := hC
    obtain ⟨hok, hfn⟩ := hC
    simp only [codeOk] at hok
    obtain ⟨out, q1, q2⟩ := ih fr h _ ⟨hok, hfn⟩ (Go.Ab.T.all_bind hq) (.code c) b z cs (.inLoop c :: k) m t ds w (.inl rfl) s
    cases out with
    | nrm fr1 h1 =>
      obtain ⟨m1, t1, ds1, w1, a1, a2, a3⟩ := q2
      obtain ⟨out2, r1, r2⟩ := KS cx (.loop c) fr1 h1 Q hC' q1 (.inLoop c) b z cs k m1 t1 ds1 w1 (.inr ⟨c, rfl, rfl⟩) a2
      exact ⟨out2, r1, r2.steps (h0.trans a1) a3⟩
    | ext id fr1 h1 => exact ⟨_, q1, (q2.pass (k' := k) (fun id => rfl) (by intro _ _ q; cases q)).steps0 h0⟩
    | ret fr1 h1 => exact ⟨_, q1, (q2.pass (k' := k) (fun id => rfl) (by intro _ _ q; cases q)).steps0 h0⟩
    | pan v fr1 h1 => exact ⟨_, q1, (q2.pass (k' := k) (fun id => rfl) (by intro _ _ q; cases q)).steps0 h0⟩
  | rangeFunc f params assign body _ _ =>
    intro fr h Q hC hq it b z cs k m t ds w hit s
    rcases hit with rfl | ⟨_, hx, _⟩
    · exact sim_rangeFunc EO CS hC hq s
    · cases hx
  | exit id =>
    intro fr h Q hC hq it b z cs k m t ds w hit s
    rcases hit with rfl | ⟨_, hx, _⟩
    · exact ⟨_, hq, m, t, ds, w, k, Steps.refl _ _, rfl, s, Turn.refl _ _ _ _⟩
    · cases hx
  | ret =>
    intro fr h Q hC hq it b z cs k m t ds w hit s
    rcases hit with rfl | ⟨_, hx, _⟩
    · exact ⟨_, hq, m, t, ds, w, k, Steps.refl _ _, s, Turn.refl _ _ _ _⟩
    · cases hx
  | scope c _ => intro fr h Q hC; exact absurd hC.1 (by simp [codeOk])
  | label l => intro fr h Q hC; exact absurd hC.1 (by simp [codeOk])
  | goto l => intro fr h Q hC; exact absurd hC.1 (by simp [codeOk])
  | refuse s =>
    intro fr h Q hC hq
    unfold codeA at hq
    exact hq.elim
end
end Go.Ab
namespace Go.Ab
section
variable {e : Env} {h h1 h2 : H} {fr fr2 : Fr} {nt : Nat} {o : Oper} {v : AV} {ops : List Oper}

theorem evals_congr : ∀ {l : List Operand}, (∀ x ∈ l, fr.eval x = fr2.eval x) → fr.evals l = fr2.evals l
  | [], _ => rfl
  | x :: l, hl => by
    have := evals_congr (l := l) (fun y hy => hl y (List.mem_cons_of_mem _ hy))
    simp only [Fr.evals, hl x (List.mem_cons_self ..), this]

theorem optEval_congr {x : Option Operand} (hx : ∀ y ∈ x.toList, fr.eval y = fr2.eval y) : optEval fr x = optEval fr2 x := by
  cases x with
  | none => rfl
  | some y => simp only [optEval, hx y (by simp)]

theorem opA_congr (H : ∀ x ∈ o.op.operands.toList, fr.eval x = fr2.eval x) : opA e fr h nt o = opA e fr2 h nt o := by
  cases ho : o.op with
  | alloc _ => simp only [opA, ho]
  | build ty ps =>
    have hh : fr.evals (ps.toList.map (·.2)) = fr2.evals (ps.toList.map (·.2)) := evals_congr fun x hx => H x (by simpa [ho, Op.operands] using hx)
    simp only [opA, ho, hh]
  | buildSlice ty n ps =>
    have hh : fr.evals (ps.toList.map (·.2)) = fr2.evals (ps.toList.map (·.2)) := evals_congr fun x hx => H x (by simpa [ho, Op.operands] using hx)
    simp only [opA, ho, hh]
  | makeFunc f a c =>
    have h1 : fr.evals a.toList = fr2.evals a.toList := evals_congr fun x hx => H x (by simp [ho, Op.operands]; exact .inl (by simpa using hx))
    have h2 : fr.evals c.toList = fr2.evals c.toList := evals_congr fun x hx => H x (by simp [ho, Op.operands]; exact .inr (by simpa using hx))
    cases f <;> simp only [opA, ho, h1, h2]
  | makeMap t r => simp only [opA, ho]
  | slice t x lo hi mx =>
    have h0 := H x (by simp [ho, Op.operands])
    have h1 : optEval fr lo = optEval fr2 lo := optEval_congr fun y hy => H y (by simp [ho, Op.operands]; exact .inr (.inl (by simpa using hy)))
    have h2 : optEval fr hi = optEval fr2 hi := optEval_congr fun y hy => H y (by simp [ho, Op.operands]; exact .inr (.inr (.inl (by simpa using hy))))
    have h3 : optEval fr mx = optEval fr2 mx := optEval_congr fun y hy => H y (by simp [ho, Op.operands]; exact .inr (.inr (.inr (by simpa using hy))))
    simp only [opA, ho, h0, h1, h2, h3]
  | call c =>
    have h1 : fr.evals c.args.toList = fr2.evals c.args.toList := evals_congr fun x hx => H x (by simp [ho, Op.operands, Call.operands]; exact .inr (by simpa using hx))
    simp only [opA, ho, h1]
    cases hc : c.callee with
    | value f =>
      have h2 := H f (by simp [ho, Op.operands, Call.operands, hc])
      simp only [h2]
    | _ => rfl
  | defer c =>
    have h1 : fr.evals c.args.toList = fr2.evals c.args.toList := evals_congr fun x hx => H x (by simp [ho, Op.operands, Call.operands]; exact .inr (by simpa using hx))
    simp only [opA, ho, h1]
    cases hc : c.callee with
    | value f =>
      have h2 := H f (by simp [ho, Op.operands, Call.operands, hc])
      cases fr2.evals c.args.toList with
      | none => rfl
      | some a => simp only [h2]
    | _ => cases fr2.evals c.args.toList <;> rfl
  | move x => simp only [opA, ho, H x (by simp [ho, Op.operands])]
  | assign x => simp only [opA, ho, H x (by simp [ho, Op.operands])]
  | box t x => simp only [opA, ho, H x (by simp [ho, Op.operands])]
  | load t x => simp only [opA, ho, H x (by simp [ho, Op.operands])]
  | nilCheck x => simp only [opA, ho, H x (by simp [ho, Op.operands])]
  | unOp op t x => simp only [opA, ho, H x (by simp [ho, Op.operands])]
  | convert s d x => simp only [opA, ho, H x (by simp [ho, Op.operands])]
  | makeInterface t x => simp only [opA, ho, H x (by simp [ho, Op.operands])]
  | fieldAddr t x f => simp only [opA, ho, H x (by simp [ho, Op.operands])]
  | field t x f => simp only [opA, ho, H x (by simp [ho, Op.operands])]
  | range t x => simp only [opA, ho, H x (by simp [ho, Op.operands])]
  | next x q => simp only [opA, ho, H x (by simp [ho, Op.operands])]
  | entry x => simp only [opA, ho, H x (by simp [ho, Op.operands])]
  | typeAssert x a b c => simp only [opA, ho, H x (by simp [ho, Op.operands])]
  | extract x i => simp only [opA, ho, H x (by simp [ho, Op.operands])]
  | panic x => simp only [opA, ho, H x (by simp [ho, Op.operands])]
  | pick c a b => simp only [opA, ho, H c (by simp [ho, Op.operands]), H a (by simp [ho, Op.operands]), H b (by simp [ho, Op.operands])]
  | store t a x => simp only [opA, ho, H a (by simp [ho, Op.operands]), H x (by simp [ho, Op.operands])]
  | binOp op t x y yt => simp only [opA, ho, H x (by simp [ho, Op.operands]), H y (by simp [ho, Op.operands])]
  | makeSlice t l c => simp only [opA, ho, H l (by simp [ho, Op.operands]), H c (by simp [ho, Op.operands])]
  | indexAddr t x i => simp only [opA, ho, H x (by simp [ho, Op.operands]), H i (by simp [ho, Op.operands])]
  | index t x i => simp only [opA, ho, H x (by simp [ho, Op.operands]), H i (by simp [ho, Op.operands])]
  | lookup t x i ok => simp only [opA, ho, H x (by simp [ho, Op.operands]), H i (by simp [ho, Op.operands])]
  | mapUpdate t x i y => simp only [opA, ho, H x (by simp [ho, Op.operands]), H i (by simp [ho, Op.operands]), H y (by simp [ho, Op.operands])]
  | insert t x i y => simp only [opA, ho, H x (by simp [ho, Op.operands]), H i (by simp [ho, Op.operands]), H y (by simp [ho, Op.operands])]
  | _ => simp only [opA, ho]

/-- Two frames alike in the slots that an operation looks at. -/
def Alike (ops : List Oper) (o : Oper) (fr fr2 : Fr) : Prop := ∀ d ∈ looks ops o, fr.tmps.get d = fr2.tmps.get d

theorem Alike.opA (H : Alike ops o fr fr2) : opA e fr h nt o = opA e fr2 h nt o := by
  refine opA_congr fun x hx => ?_
  cases x with
  | tmp d => exact H d (List.mem_append_left _ (List.mem_filterMap.2 ⟨.tmp d, hx, rfl⟩))
  | _ => rfl

theorem Alike.wanted (H : Alike ops o fr fr2) : wantedA ops fr o = wantedA ops fr2 o := by
  unfold wantedA
  cases hg : o.guard with
  | none => rfl
  | some p =>
    obtain ⟨j, want⟩ := p
    dsimp only
    cases hj : lget ops j with
    | none => rfl
    | some oj =>
      dsimp only
      cases hd : oj.dst with
      | none => rfl
      | some d =>
        have := H d (List.mem_append_right _ (by simp [hg, hj, hd]))
        simp only [this]

theorem Alike.run {r : Rec} (H : Alike ops o fr fr2) : runOp e r nt ops o fr h = runOp e r nt ops o fr2 h := by
  unfold runOp
  rw [H.wanted, H.opA]

/-- A frame of the slots that an operation looks at alone. -/
def keepT (t : PT AV) : List Nat → PT AV
  | [] => .lf
  | d :: ds => match t.get d with
    | some v => (keepT t ds).set d v
    | none => keepT t ds
theorem keepT_get (t : PT AV) : ∀ (ds : List Nat) (d : Nat), (keepT t ds).get d = if d ∈ ds then t.get d else none
  | [], d => by simp [keepT]; rfl
  | x :: ds, d => by
    unfold keepT
    have ih := keepT_get t ds d
    cases hx : t.get x with
    | none =>
      dsimp only
      rw [ih]
      by_cases hd : d = x
      · subst hd; simp [hx]
      · simp [hd]
    | some v =>
      dsimp only
      rw [PT.get_set]
      by_cases hd : d = x
      · subst hd; simp [hx]
      · rw [if_neg hd, ih]; simp [hd]

def keep (ops : List Oper) (o : Oper) (fr : Fr) : Fr := { fr with tmps := keepT fr.tmps (looks ops o) }
theorem keep_alike : Alike ops o fr (keep ops o fr) := fun d hd => by simp [keep, keepT_get, hd]

mutual
theorem AV.eq_of_beq (a b : AV) (h : AV.beq a b = true) : a = b := by
  match a, b, h with
  | .bool a, .bool b, h => simp [AV.beq] at h; rw [h]
  | .int j a, .int k b, h => simp [AV.beq] at h; rw [h.1, h.2]
  | .str a, .str b, h => simp [AV.beq] at h; rw [h]
  | .nilptr, .nilptr, _ => rfl
  | .ptr a o, .ptr b p, h => simp [AV.beq] at h; rw [h.1, h.2]
  | .nilslice, .nilslice, _ => rfl
  | .slice a o l c, .slice b p m d, h => simp [AV.beq] at h; rw [h.1.1.1, h.1.1.2, h.1.2, h.2]
  | .nilmap, .nilmap, _ => rfl
  | .map a, .map b, h => simp [AV.beq] at h; rw [h]
  | .nilfunc, .nilfunc, _ => rfl
  | .func f x y, .func g u v, h =>
    simp [AV.beq] at h
    rw [h.1.1, AV.eqs_of_beqs x u h.1.2, AV.eqs_of_beqs y v h.2]
  | .yield a, .yield b, h => simp [AV.beq] at h; rw [h]
  | .niliface, .niliface, _ => rfl
  | .iface t x, .iface u y, h =>
    simp [AV.beq] at h
    rw [h.1, AV.eq_of_beq x y h.2]
  | .agg x, .agg y, h => simp [AV.beq] at h; rw [AV.eqs_of_beqs x y h]
  | .tup x, .tup y, h => simp [AV.beq] at h; rw [AV.eqs_of_beqs x y h]
theorem AV.eqs_of_beqs (l k : List AV) (h : AV.beq.beqs l k = true) : l = k := by
  match l, k, h with
  | [], [], _ => rfl
  | x :: l, y :: k, h =>
    simp [AV.beq.beqs] at h
    rw [AV.eq_of_beq x y h.1, AV.eqs_of_beqs l k h.2]
end
end
end Go.Ab
namespace Go.Ab
section
variable {e : Env} {h h1 h2 : H} {fr fr2 : Fr} {nt : Nat} {o : Oper} {v : AV} {ops : List Oper}

def isAlloc (o : Oper) : Bool := match o.op with
  | .alloc _ | .box .. | .buildSlice .. | .makeMap .. | .makeSlice .. => true
  | _ => false

theorem newRow_eq (h : H) (elem : Nat) (cells : List AV) (opn : Bool) (es : Nat) (strish : Bool) : newRow h elem cells opn es strish = h.new (.row { cells := cells, n := cells.length, elem := elem, opn := opn, es := es, wr := true, strish := strish }) := rfl

theorem quiet_alloc (ha : isAlloc o = true) (hv : opA e fr h nt o = .val v h1) : ∃ ob, h1 = h.new ob ∧ ∀ h2 : H, h2.sz = h.sz → opA e fr h2 nt o = .val v (h2.new ob) := by
  cases ho : o.op with
  | alloc ty =>
    simp only [opA, ho] at hv ⊢
    split at hv
    · rename_i ti hti
      split at hv
      · rename_i z hz
        injection hv with e1 e2; subst e1; subst e2
        exact ⟨_, newRow_eq .., fun h2 hs => by rw [hs]; rfl⟩
      · cases hv
    · cases hv
  | box ty x =>
    simp only [opA, ho] at hv ⊢
    split at hv
    · rename_i ti a hti ha
      split at hv
      · rename_i hc
        injection hv with e1 e2; subst e1; subst e2
        exact ⟨_, newRow_eq .., fun h2 hs => by rw [if_pos hc, hs]; rfl⟩
      · cases hv
    · cases hv
  | makeMap ty r =>
    simp only [opA, ho] at hv ⊢
    split at hv
    · injection hv with e1 e2; subst e1; subst e2
      exact ⟨_, rfl, fun h2 hs => by rw [hs]⟩
    · cases hv
  | makeSlice ty l c =>
    simp only [opA, ho] at hv ⊢
    split at hv
    · split at hv
      · split at hv
        · split at hv
          · split at hv
            · cases hv
            · rename_i hc
              injection hv with e1 e2; subst e1; subst e2
              exact ⟨_, newRow_eq .., fun h2 hs => by rw [if_neg hc, hs]; rfl⟩
          · cases hv
        · cases hv
      · cases hv
    · cases hv
  | buildSlice ty n ps =>
    simp only [opA, ho] at hv ⊢
    split at hv
    · split at hv
      · split at hv
        · split at hv
          · split at hv
            · cases hv
            · rename_i hc
              split at hv
              · rename_i cs hcs
                split at hv
                · rename_i h1
                  injection hv with e1 e2; subst e1; subst e2
                  exact ⟨_, newRow_eq .., fun h2 hs => by rw [if_neg hc]; simp only [if_pos h1, hs]; rfl⟩
                · cases hv
              · cases hv
          · cases hv
        · cases hv
      · cases hv
    · cases hv
  | _ => simp [isAlloc, ho] at ha

theorem OR.of_any {x : Option AV} (hv : OR.of h x = .val v h1) : h1 = h ∧ ∀ h2, OR.of h2 x = .val v h2 := by
  obtain ⟨a, b⟩ := OR.of_val hv
  subst a
  exact ⟨b, fun h2 => rfl⟩

theorem quiet_pure (he : isEff e.tt o = false) (hr : isRead e.tt o = false) (ha : isAlloc o = false) (hv : opA e fr h nt o = .val v h1) : h1 = h ∧ ∀ h2 : H, opA e fr h2 nt o = .val v h2 := by
  cases ho : o.op with
  | alloc _ | box _ _ | makeMap _ _ | makeSlice _ _ _ | buildSlice _ _ _ => simp [isAlloc, ho] at ha
  | load _ _ | slice _ _ _ _ _ | lookup _ _ _ _ => simp [isRead, ho] at hr
  | move x => simp only [opA, ho] at hv ⊢; exact OR.of_any hv
  | assign x => simp only [opA, ho] at hv ⊢; exact OR.of_any hv
  | pick c a b =>
    simp only [opA, ho] at hv ⊢
    split at hv
    · injection hv with e1 e2; subst e1; subst e2; exact ⟨rfl, fun h2 => by simp_all⟩
    · injection hv with e1 e2; subst e1; subst e2; exact ⟨rfl, fun h2 => by simp_all⟩
    · cases hv
  | build ty ps =>
    simp only [opA, ho] at hv ⊢
    split at hv
    · split at hv
      · obtain ⟨a, b⟩ := OR.of_any hv; exact ⟨a, fun h2 => b h2⟩
      · split at hv
        · obtain ⟨a, b⟩ := OR.of_any hv; exact ⟨a, fun h2 => b h2⟩
        · cases hv
      · cases hv
    · cases hv
  | nilCheck x =>
    simp only [opA, ho] at hv ⊢
    split at hv <;> first | (cases hv; done) | (injection hv with e1 e2; subst e1; subst e2; exact ⟨rfl, fun h2 => rfl⟩)
  | binOp op ty x y yt =>
    simp only [opA, ho] at hv ⊢
    split at hv
    · rename_i a b hx hy
      have hop : op ≠ .eql ∧ op ≠ .neq := by
        constructor <;> (intro q; subst q; simp [isRead, ho] at hr)
      have : ∀ h2, binA e h2 op ty x y a b = binA e h op ty x y a b := by
        intro h2
        unfold binA
        split <;> first | rfl | exact absurd rfl hop.1 | exact absurd rfl hop.2
      obtain ⟨q1, q2⟩ := OR.of_any hv
      exact ⟨q1, fun h2 => by rw [this h2]; exact q2 h2⟩
    · cases hv
  | unOp op ty x =>
    simp only [opA, ho] at hv ⊢
    split at hv
    · exact OR.of_any hv
    · cases hv
  | convert s d x =>
    simp only [opA, ho] at hv ⊢
    split at hv
    · rename_i a hxa
      have key : ∀ {y}, convA e h s d a = some y → y.2 = h ∧ ∀ h2, convA e h2 s d a = some (y.1, h2) := by
        intro y hy
        unfold convA at hy
        cases hs : e.ti s with
        | none => rw [hs] at hy; cases hy
        | some si =>
          cases hd : e.ti d with
          | none => rw [hs, hd] at hy; cases hy
          | some di =>
            have hs' : e.tt.get s = some si := hs
            have hd' : e.tt.get d = some di := hd
            rw [hs, hd] at hy
            simp only [isEff, isRead, ho, hs', hd'] at he hr
            dsimp only at hy
            unfold convA
            rw [hs, hd]
            dsimp only
            generalize si.kind = k1 at *
            generalize di.kind = k2 at *
            cases k1 <;> cases k2 <;> first | (cases hr; done) | (cases he; done) | skip
            · cases a <;> first | (cases hy; done) | (simp only [Option.some.injEq] at hy; subst hy; exact ⟨rfl, fun h2 => rfl⟩)
            · cases a <;> first | (cases hy; done) | (simp only [Option.some.injEq] at hy; subst hy; exact ⟨rfl, fun h2 => rfl⟩)
      have h3 := OR.of2_val hv
      obtain ⟨q1, q2⟩ := key h3
      exact ⟨q1, fun h2 => by rw [q2 h2]; rfl⟩
    · cases hv
  | makeInterface ty x =>
    simp only [opA, ho] at hv ⊢
    split at hv
    · split at hv
      · cases hv
      · injection hv with e1 e2; subst e1; subst e2; exact ⟨rfl, fun h2 => rfl⟩
    · cases hv
  | makeFunc f a c =>
    cases f with
    | func f =>
      simp only [opA, ho] at hv ⊢
      split at hv
      · injection hv with e1 e2; subst e1; subst e2; exact ⟨rfl, fun h2 => rfl⟩
      · cases hv
    | _ => simp only [opA, ho] at hv; cases hv
  | fieldAddr ty x f =>
    simp only [opA, ho] at hv ⊢
    split at hv
    · split at hv
      · split at hv
        · split at hv
          · split at hv
            · cases hv
            · rename_i hn
              injection hv with e1 e2; subst e1; subst e2; exact ⟨rfl, fun h2 => by rw [if_neg hn]⟩
          · cases hv
        · cases hv
      · cases hv
    · cases hv
  | field ty x f =>
    simp only [opA, ho] at hv ⊢
    split at hv
    · split at hv
      · split at hv
        · split at hv
          · exact OR.of_any hv
          · cases hv
        · cases hv
      · cases hv
    · cases hv
  | indexAddr ty x i =>
    simp only [opA, ho] at hv ⊢
    split at hv
    · split at hv
      · split at hv
        · split at hv
          · rename_i hn
            injection hv with e1 e2; subst e1; subst e2; exact ⟨rfl, fun h2 => by rw [if_pos hn]⟩
          · cases hv
        · cases hv
      · split at hv
        · split at hv
          · rename_i hn
            injection hv with e1 e2; subst e1; subst e2; exact ⟨rfl, fun h2 => by rw [if_pos hn]⟩
          · cases hv
        · cases hv
      · cases hv
    · cases hv
  | index ty x i =>
    simp only [opA, ho] at hv ⊢
    split at hv
    · split at hv
      · split at hv
        · split at hv
          · rename_i hn
            obtain ⟨a, b⟩ := OR.of_any hv
            exact ⟨a, fun h2 => by rw [if_pos hn]; exact b h2⟩
          · cases hv
        · cases hv
      · split at hv
        · injection hv with e1 e2; subst e1; subst e2; exact ⟨rfl, fun h2 => rfl⟩
        · cases hv
      · cases hv
    · cases hv
  | typeAssert x xt a ok =>
    have ff : ∀ {ai : TI}, failsA ai ok h = .val v h1 → h1 = h ∧ ∀ h2, failsA ai ok h2 = .val v h2 := by
      intro ai hv
      unfold failsA at hv ⊢
      split at hv
      · rename_i hok
        split at hv
        · injection hv with e1 e2; subst e1; subst e2; exact ⟨rfl, fun h2 => by rw [if_pos hok]⟩
        · cases hv
      · cases hv
    simp only [opA, ho] at hv ⊢
    split at hv
    · split at hv
      · exact ff hv
      · split at hv
        · split at hv
          · cases hv
          · split at hv
            · cases hv
            · rename_i hn
              obtain ⟨a, b⟩ := ff hv
              exact ⟨a, fun h2 => by rw [if_neg hn]; exact b h2⟩
        · cases hv
      · exact ff hv
      · split at hv
        · rename_i hn
          injection hv with e1 e2; subst e1; subst e2; exact ⟨rfl, fun h2 => by rw [if_pos hn]⟩
        · rename_i hn
          obtain ⟨a, b⟩ := ff hv
          exact ⟨a, fun h2 => by rw [if_neg hn]; exact b h2⟩
      · cases hv
    · cases hv
  | extract x i =>
    simp only [opA, ho] at hv ⊢
    split at hv
    · exact OR.of_any hv
    · cases hv
  | call c =>
    simp only [opA, ho] at hv ⊢
    split at hv
    · cases hv
    · rename_i args hargs
      cases hc : c.callee with
      | value f => simp [isEff, ho] at he; split at he <;> simp_all
      | invoke r n => rw [hc] at hv; cases hv
      | builtin b =>
        rw [hc] at hv
        dsimp only at hv ⊢
        cases hok : argOk b c.argTypes with
        | false => rw [hok] at hv; cases hv
        | true =>
          rw [hok] at hv
          dsimp only [cond] at hv ⊢
          have hb : b = .len ∨ b = .cap ∨ b = .min ∨ b = .max := by
            obtain ⟨callee, as', ats⟩ := c
            dsimp only at hc
            subst hc
            cases b <;> first | (simp; done) | (simp [isEff, ho] at he; done)
          have hcap : b ≠ .cap := by
            intro q
            subst q
            obtain ⟨callee, as', ats⟩ := c
            dsimp only at hc
            subst hc
            simp [isRead, ho] at hr
          rcases hb with rfl | rfl | rfl | rfl
          · have hk : ∀ ti, tiOf e c.argTypes 0 = some ti → ∀ k e', ti.kind ≠ .map k e' := by
              intro ti hti k e' hk
              unfold tiOf at hti
              split at hti
              · rename_i tt htt
                obtain ⟨callee, as', ats⟩ := c
                dsimp only at hc htt
                subst hc
                have hti : e.tt.get tt = some ti := hti
                simp [isRead, ho, htt, hti, hk] at hr
              · cases hti
            unfold builtinA at hv ⊢
            match args, hv with
            | [x], hv =>
              dsimp only at hv ⊢
              cases hti : tiOf e c.argTypes 0 with
              | none => rw [hti] at hv; cases hv
              | some ti =>
                rw [hti] at hv
                dsimp only at hv ⊢
                have := hk ti hti
                generalize ti.kind = kk at *
                cases kk <;> cases x <;> first | (cases hv; done) | (injection hv with e1 e2; subst e1; subst e2; exact ⟨rfl, fun h2 => rfl⟩) | exact absurd rfl (this _ _)
            | [], hv => cases hv
            | _ :: _ :: _, hv => cases hv
          · exact absurd rfl hcap
          · unfold builtinA at hv ⊢
            match args, hv with
            | [], hv => cases hv
            | x :: l, hv => exact OR.of_any hv
          · unfold builtinA at hv ⊢
            match args, hv with
            | [], hv => cases hv
            | x :: l, hv => exact OR.of_any hv
  | _ => first | (simp [isEff, ho] at he; done) | (simp only [opA, ho] at hv; cases hv)

theorem quiet_read (he : isEff e.tt o = false) (hr : isRead e.tt o = true) (hv : opA e fr h nt o = .val v h1) : h1 = h := by
  cases ho : o.op with
  | load ty x =>
    simp only [opA, ho] at hv
    split at hv
    · exact (OR.of_val hv).2
    · cases hv
  | slice ty x lo hi mx =>
    simp only [opA, ho] at hv
    split at hv
    · exact (OR.of_val hv).2
    · cases hv
  | binOp op ty x y yt =>
    simp only [opA, ho] at hv
    split at hv
    · exact (OR.of_val hv).2
    · cases hv
  | lookup ty x ix ok =>
    simp only [opA, ho] at hv
    repeat' split at hv
    all_goals first | (cases hv; done) | (injection hv with e1 e2; exact e2.symm)
  | convert s d x =>
    simp only [opA, ho] at hv
    split at hv
    · rename_i a hxa
      have h3 := OR.of2_val hv
      unfold convA at h3
      cases hs : e.ti s with
      | none => rw [hs] at h3; cases h3
      | some si =>
        cases hd : e.ti d with
        | none => rw [hs, hd] at h3; cases h3
        | some di =>
          have hs' : e.tt.get s = some si := hs
          have hd' : e.tt.get d = some di := hd
          rw [hs, hd] at h3
          simp only [isEff, isRead, ho, hs', hd'] at he hr
          dsimp only at h3
          repeat' split at h3
          all_goals first | (cases h3; done) | (injection h3 with h3; injection h3 with e1 e2; exact e2.symm) | skip
          all_goals first | (simp_all; done) | skip
          all_goals
            rename_i s' _
            cases hx : toU8s _ with
            | none => rw [hx] at h3; cases h3
            | some q => rw [hx] at h3; injection h3 with h3; injection h3 with e1 e2; exact e2.symm
    · cases hv
  | call c =>
    simp only [opA, ho] at hv
    split at hv
    · cases hv
    · rename_i args hargs
      cases hc : c.callee with
      | value f => simp [isEff, ho] at he; split at he <;> simp_all
      | invoke r n => rw [hc] at hv; cases hv
      | builtin b =>
        rw [hc] at hv
        dsimp only at hv
        cases hok : argOk b c.argTypes with
        | false => rw [hok] at hv; cases hv
        | true =>
          rw [hok] at hv
          dsimp only [cond] at hv
          have hb : b = .len ∨ b = .cap ∨ b = .min ∨ b = .max := by
            obtain ⟨callee, as', ats⟩ := c
            dsimp only at hc
            subst hc
            cases b <;> first | (simp; done) | (simp [isEff, ho] at he; done)
          rcases hb with rfl | rfl | rfl | rfl
          · unfold builtinA at hv
            match args, hv with
            | [], hv => cases hv
            | _ :: _ :: _, hv => cases hv
            | [x], hv =>
              dsimp only at hv
              repeat' split at hv
              all_goals first | (cases hv; done) | (injection hv with e1 e2; exact e2.symm)
          · unfold builtinA at hv
            match args, hv with
            | [], hv => cases hv
            | _ :: _ :: _, hv => cases hv
            | [x], hv =>
              dsimp only at hv
              repeat' split at hv
              all_goals first | (cases hv; done) | (injection hv with e1 e2; exact e2.symm)
          · unfold builtinA at hv
            match args, hv with
            | [], hv => cases hv
            | x :: l, hv => exact (OR.of_val hv).2
          · unfold builtinA at hv
            match args, hv with
            | [], hv => cases hv
            | x :: l, hv => exact (OR.of_val hv).2
  | _ => simp [isRead, ho] at hr
end
end Go.Ab
namespace Go.Ab

theorem lmem_iff {i : Nat} : ∀ {l : List Nat}, lmem i l = true ↔ i ∈ l
  | [] => by simp [lmem]
  | j :: l => by simp [lmem, lmem_iff (l := l)]

/- edges -/
def InvM (ops : List Oper) (R : List Nat) : Prop :=
  R.length = ops.length ∧ ∀ j mk, R[j]? = some mk → ∃ o, ops[j]? = some o ∧ ∀ i, mk.testBit i = true → ∃ x ∈ o.after.toList, Region.binds .any x = true ∧ (x.on = i ∨ ∃ mk', x.on < j ∧ R[x.on]? = some mk' ∧ mk'.testBit i = true)

theorem maskOf_spec (acc : List Nat) (i : Nat) : ∀ (l : List Edge) (s : Nat), (maskOf acc l s).testBit i = true → s.testBit i = true ∨ ∃ x ∈ l, Region.binds .any x = true ∧ (x.on = i ∨ ∃ mk', acc[x.on]? = some mk' ∧ mk'.testBit i = true)
  | [], s, h => .inl h
  | x :: l, s, h => by
    unfold maskOf at h
    rcases maskOf_spec acc i l _ h with h | ⟨y, hy, h2⟩
    · cases hb : Region.binds .any x with
      | false => rw [hb] at h; exact .inl h
      | true =>
        rw [hb] at h
        simp only [cond_true, Nat.testBit_or, Bool.or_eq_true] at h
        rcases h with (h | h) | h
        · exact .inl h
        · refine .inr ⟨x, List.mem_cons_self .., hb, .inl ?_⟩
          rw [Nat.testBit_two_pow] at h
          simpa using h
        · refine .inr ⟨x, List.mem_cons_self .., hb, .inr ?_⟩
          rw [lget_eq] at h
          cases ha : acc[x.on]? with
          | none => rw [ha] at h; simp at h
          | some mk => rw [ha] at h; exact ⟨mk, rfl, h⟩
    · exact .inr ⟨y, List.mem_cons_of_mem _ hy, h2⟩

theorem masks_spec : ∀ (l : List Oper) (acc : List Nat) (pre : List Oper), InvM pre acc → InvM (pre ++ l) (masks l acc)
  | [], acc, pre, h => by simpa [masks] using h
  | o :: l, acc, pre, h => by
    unfold masks
    have := masks_spec l (acc ++ [maskOf acc o.after.toList 0]) (pre ++ [o]) ?_
    · simpa using this
    · obtain ⟨h1, h2⟩ := h
      refine ⟨by simp [h1], fun j mk hj => ?_⟩
      have mem2 : ∀ (n : Nat) (mk' : Nat), acc[n]? = some mk' → (acc ++ [maskOf acc o.after.toList 0])[n]? = some mk' := fun n mk' hn => by
        rw [List.getElem?_append_left (List.getElem?_eq_some_iff.1 hn).1]; exact hn
      rcases Nat.lt_trichotomy j acc.length with hlt | heq | hgt
      · rw [List.getElem?_append_left hlt] at hj
        obtain ⟨o', ho', hs⟩ := h2 j mk hj
        refine ⟨o', by rw [List.getElem?_append_left (by omega)]; exact ho', fun i hi => ?_⟩
        obtain ⟨x, hx, hb, hc⟩ := hs i hi
        refine ⟨x, hx, hb, hc.imp id fun ⟨mk', q1, q2, q3⟩ => ⟨mk', q1, mem2 _ _ q2, q3⟩⟩
      · subst heq
        simp at hj
        subst hj
        refine ⟨o, by rw [h1]; simp, fun i hi => ?_⟩
        rcases maskOf_spec acc i _ _ hi with q | ⟨x, hx, hb, hc⟩
        · simp at q
        · refine ⟨x, hx, hb, hc.imp id fun ⟨mk', q2, q3⟩ => ⟨mk', (List.getElem?_eq_some_iff.1 q2).1, mem2 _ _ q2, q3⟩⟩
      · rw [List.getElem?_eq_none (by simp; omega)] at hj; cases hj

/-- What is carried out has carried out what stands before it. -/
def Down (ops : List Oper) (p : Nat → Bool) : Prop := ∀ j o, ops[j]? = some o → p j = true → ∀ x ∈ o.after.toList, Region.binds .any x = true → p x.on = true

theorem bef_pre {ops : List Oper} {p : Nat → Bool} (hd : Down ops p) : ∀ (j i : Nat), (∀ o, ops[j]? = some o → ∀ x ∈ o.after.toList, Region.binds .any x = true → p x.on = true) → bef (masks ops []) i j = true → p i = true := by
  have hM : InvM ops (masks ops []) := by simpa using masks_spec ops [] [] ⟨rfl, fun j mk h => by simp at h⟩
  intro j
  induction j using Nat.strongRecOn with
  | ind j ih =>
    intro i hp hb
    unfold bef at hb
    rw [lget_eq] at hb
    cases hm : (masks ops [])[j]? with
    | none => rw [hm] at hb; cases hb
    | some mk =>
      rw [hm] at hb
      obtain ⟨o, ho, hs⟩ := hM.2 j mk hm
      obtain ⟨x, hx, hbd, hc⟩ := hs i hb
      have hpx := hp o ho x hx hbd
      rcases hc with rfl | ⟨mk', hlt, hmk', hbit⟩
      · exact hpx
      · refine ih x.on hlt i (fun o' ho' => hd x.on o' ho' hpx) ?_
        unfold bef
        rw [lget_eq, hmk']
        exact hbit

/-- What the static look says. -/
structure DrawFacts (tt : PT TI) (ops : List Oper) (ri : RI) : Prop where
  pw : ri.ord.Pairwise (fun i j => pairOk ops (masks ops []) ri i j = true)
  nd : ri.ord.Nodup
  eff : ∀ i ∈ ri.ord, ∃ o, ops[i]? = some o ∧ lmem i ri.eff = isEff tt o
  fl : ∀ a i b, ri.ord = a ++ i :: b → ∀ o, ops[i]? = some o → isEff tt o = false → isRead tt o = true → ∃ n, floats i ri.fl = some n ∧ floatOk (masks ops []) ri i n b = true
  all : ∀ i, i < ops.length → i ∈ ri.ord
  edges : ∀ j o, ops[j]? = some o → ∀ x ∈ o.after.toList, Region.binds .any x = true → x.on < j

theorem ordOk_facts {tt : PT TI} {ops : List Oper} {ms : List Nat} {ri : RI} : ∀ {l : List Nat}, ordOk tt ops ms ri l = true →
    l.Pairwise (fun i j => pairOk ops ms ri i j = true) ∧ l.Nodup ∧ (∀ i ∈ l, ∃ o, ops[i]? = some o ∧ lmem i ri.eff = isEff tt o) ∧
    (∀ a i b, l = a ++ i :: b → ∀ o, ops[i]? = some o → isEff tt o = false → isRead tt o = true → ∃ n, floats i ri.fl = some n ∧ floatOk ms ri i n b = true)
  | [], _ => ⟨.nil, .nil, by simp, fun a i b h => by simp at h⟩
  | i :: l, h => by
    unfold ordOk at h
    simp only [Bool.and_eq_true, List.all_eq_true] at h
    obtain ⟨⟨⟨h1, h2⟩, h3⟩, h4⟩ := h
    obtain ⟨a1, a2, a3, a4⟩ := ordOk_facts h4
    have hi : ∃ o, ops[i]? = some o ∧ lmem i ri.eff = isEff tt o ∧ (isEff tt o = false → isRead tt o = true → ∃ n, floats i ri.fl = some n ∧ floatOk ms ri i n l = true) := by
      rw [lget_eq] at h1
      cases ho : ops[i]? with
      | none => rw [ho] at h1; cases h1
      | some o =>
        rw [ho] at h1
        simp only [Bool.and_eq_true, beq_iff_eq] at h1
        refine ⟨o, rfl, h1.1, fun q1 q2 => ?_⟩
        have := h1.2
        rw [q1, q2] at this
        simp only [Bool.not_false, Bool.and_true, cond_true] at this
        cases hf : floats i ri.fl with
        | none => rw [hf] at this; cases this
        | some n => rw [hf] at this; exact ⟨n, rfl, this⟩
    have hni : i ∉ l := fun q => by
      have := lmem_iff.2 q
      rw [this] at h2
      cases h2
    refine ⟨.cons (fun j hj => h3 j hj) a1, .cons (fun j hj => fun q => hni (q ▸ hj)) a2, ?_, ?_⟩
    · intro j hj
      rcases List.mem_cons.1 hj with rfl | hj
      · obtain ⟨o, q1, q2, _⟩ := hi; exact ⟨o, q1, q2⟩
      · exact a3 j hj
    · intro a j b hab o ho he hr
      cases a with
      | nil =>
        simp at hab
        obtain ⟨rfl, rfl⟩ := hab
        obtain ⟨o', q1, q2, q3⟩ := hi
        rw [q1] at ho
        cases ho
        exact q3 he hr
      | cons y a =>
        simp at hab
        exact a4 a j b hab.2 o ho he hr

theorem edgesOk_spec : ∀ {l : List Oper} {n : Nat}, edgesOk n l = true → ∀ j o, l[j]? = some o → ∀ x ∈ o.after.toList, Region.binds .any x = true → x.on < n + j
  | [], _, _, _, _, h => by simp at h
  | o :: l, n, h, j, o', hj => by
    unfold edgesOk at h
    simp only [Bool.and_eq_true, List.all_eq_true] at h
    cases j with
    | zero =>
      simp at hj
      subst hj
      intro x hx hb
      have := h.1 x hx
      rw [hb] at this
      simpa using this
    | succ j =>
      intro x hx hb
      have := edgesOk_spec h.2 j o' (by simpa using hj) x hx hb
      omega

theorem allIn_spec {l : List Nat} : ∀ {n : Nat}, allIn l n = true → ∀ i, i < n → i ∈ l
  | 0, _, i, hi => by omega
  | n + 1, h, i, hi => by
    unfold allIn at h
    simp only [Bool.and_eq_true] at h
    rcases Nat.lt_or_ge i n with q | q
    · exact allIn_spec h.2 i q
    · have : i = n := by omega
      subst this
      exact lmem_iff.1 h.1

theorem draw_facts {tt : PT TI} {ops : Array Oper} {ri : RI} (h : drawOk tt ops ri = true) : DrawFacts tt ops.toList ri := by
  unfold drawOk at h
  simp only [Bool.and_eq_true] at h
  obtain ⟨a1, a2, a3, a4⟩ := ordOk_facts h.2
  exact ⟨a1, a2, a3, a4, allIn_spec h.1.2, fun j o hj x hx hb => by have := edgesOk_spec h.1.1 j o hj x hx hb; omega⟩

section
variable {G B : Nat} {C : CodeP} {m m₀ : Emb} {h h₀ : H} {w w₀ : World} {hp : Array Obj}

/-- A new block that the real side has not laid yet. -/
theorem Rel.newA (R : Rel G B C m h hp) (o : AO) : Rel G B C m (h.new o) hp where
  dom := R.dom
  obj := fun x j e => let ⟨ox, a, q⟩ := R.obj x j e; ⟨ox, by rw [H.get_new, if_neg (Nat.ne_of_lt (R.bound x j e))]; exact a, q⟩
  iter := fun x j mb ver left cur e hx => by
    rw [H.get_new, if_neg (Nat.ne_of_lt (R.bound x j e))] at hx
    obtain ⟨es, v, a1, a2, a3⟩ := R.iter x j mb ver left cur e hx
    refine ⟨es, v, ?_, a2, a3⟩
    obtain ⟨ox, b1, b2⟩ := R.obj x j e
    rw [hx] at b1; cases b1
    obtain ⟨_, im, _, _, _, b3, _⟩ := b2
    rw [H.get_new, if_neg (Nat.ne_of_lt (R.bound mb im b3))]
    exact a1
  inj := fun x y j k ox oy ex ey hx hy => by
    rw [H.get_new, if_neg (Nat.ne_of_lt (R.bound x j ex))] at hx
    rw [H.get_new, if_neg (Nat.ne_of_lt (R.bound y k ey))] at hy
    exact R.inj x y j k ox oy ex ey hx hy
  glob := R.glob
  low := fun x j e hj => by rw [H.get_new, if_neg (Nat.ne_of_lt (R.bound x j e))]; exact R.low x j e hj
  bsz := R.bsz
  bound := fun x j e => by have := R.bound x j e; simp; omega

theorem Turn.newA (T : Turn B m₀ h₀ w₀ m h w) (o : AO) : Turn B m₀ h₀ w₀ m (h.new o) w where
  mono := T.mono
  new := T.new
  hsz := by have := T.hsz; simp; omega
  wsz := T.wsz
  frame := T.frame
  old := fun x hx hn => by have := T.hsz; rw [H.get_new, if_neg (by omega)]; exact T.old x hx hn
  low := T.low
  os := T.os
  output := T.output
  tape := T.tape

/-- Heaps that say the same of every block. -/
theorem RelX.congr {h' : H} (R : RelX G B C m h hp) (hg : ∀ x, h'.get x = h.get x) : RelX G B C m h' hp where
  dom := R.dom
  obj := fun x j e => by rw [hg]; exact R.obj x j e
  iter := fun x j mb ver left cur e hx => by
    rw [hg] at hx
    obtain ⟨es, v, a1, a2⟩ := R.iter x j mb ver left cur e hx
    exact ⟨es, v, by rw [hg]; exact a1, a2⟩
  inj := fun x y j k ox oy ex ey hx hy => by rw [hg] at hx hy; exact R.inj x y j k ox oy ex ey hx hy
  glob := R.glob
  low := fun x j e hj => by rw [hg]; exact R.low x j e hj
  bsz := R.bsz
end
end Go.Ab
namespace Go.Ab

structure Ent where
  i : Nat
  o : Oper
  fr : Fr
  h : H
  v : AV

def lookE (t0 : PT AV) (p : Nat → Bool) : List Ent → Nat → Option AV
  | [], d => t0.get d
  | x :: l, d => if x.o.dst = some d ∧ p x.i = true then some x.v else lookE t0 p l d
def allP : Nat → Bool := fun _ => true

theorem lookE_skip {t0 : PT AV} {p : Nat → Bool} {d : Nat} {l : List Ent} : ∀ {l1 : List Ent}, (∀ y ∈ l1, y.o.dst = some d → p y.i = false) → lookE t0 p (l1 ++ l) d = lookE t0 p l d
  | [], _ => rfl
  | x :: l1, h => by
    rw [List.cons_append, lookE, if_neg, lookE_skip fun y hy => h y (List.mem_cons_of_mem _ hy)]
    intro q
    have := h x (List.mem_cons_self ..) q.1
    rw [this] at q
    cases q.2

theorem lookE_congr {t0 : PT AV} {p p' : Nat → Bool} {d : Nat} : ∀ {l : List Ent}, (∀ y ∈ l, y.o.dst = some d → p y.i = p' y.i) → lookE t0 p l d = lookE t0 p' l d
  | [], _ => rfl
  | x :: l, h => by
    have ih := lookE_congr (t0 := t0) (l := l) fun y hy => h y (List.mem_cons_of_mem _ hy)
    unfold lookE
    by_cases hx : x.o.dst = some d
    · rw [h x (List.mem_cons_self ..) hx, ih]
    · rw [if_neg (fun q => hx q.1), if_neg (fun q => hx q.1), ih]

def lateA (ops : List Oper) (p : Nat → Bool) (y : Ent) : Prop := isAlloc y.o = true ∧ wantedA ops y.fr y.o = some true ∧ p y.i = false

section
variable {P : Program} {e : Env} {G B : Nat} {r : Rec} {cx : Cx} {ops : Array Oper} {ri : RI} {Q : Out → Prop} {t0 : PT AV} {b : Host} {z : Nat} {cs : List Frame} {m₀ : Emb} {h₀ : H} {w₀ : World}

structure LateOk (e : Env) (cx : Cx) (ops : List Oper) (ri : RI) (h₀ : H) (p : Nat → Bool) (m : Emb) (h : H) (rest : List Nat) (mem : List Fl) (x : Ent) : Prop where
  eff : isEff e.tt x.o = false
  low : h₀.sz ≤ x.h.sz
  run : ∃ h', pureA e cx.nt ops x.o x.fr x.h = some (x.v, h') ∧ (lateA ops p x → m x.h.sz = none ∧ x.h.sz < h.sz ∧ ∃ ob, h' = x.h.new ob ∧ h.get x.h.sz = some ob)
  dst : ∀ d, x.o.dst = some d → d < cx.nt
  read : isRead e.tt x.o = true → ∃ n, (⟨x.fr, x.v, x.o, n⟩ : Fl) ∈ mem ∧ floatOk (masks ops []) ri x.i n rest = true

structure DInv (e : Env) (G B : Nat) (r : Rec) (cx : Cx) (ops : Array Oper) (ri : RI) (Q : Out → Prop) (t0 : PT AV) (b : Host) (z : Nat) (cs : List Frame) (m₀ : Emb) (h₀ : H) (w₀ : World)
    (p : Nat → Bool) (hist : List Ent) (rest : List Nat) (mem : List Fl) (m : Emb) (fr : Fr) (h : H) (t : Array Value) (ds : List Deferred) (w : World) : Prop where
  ord : ri.ord = (hist.map (·.i)).reverse ++ rest
  q : (drawA e r cx ops.toList ri rest mem fr h).all Q
  effs : ∀ x ∈ hist, lmem x.i ri.eff = true → p x.i = true
  sub : ∀ i, p i = true → i ∈ hist.map (·.i)
  opx : ∀ x ∈ hist, ops[x.i]? = some x.o
  tm : ∀ d, fr.tmps.get d = lookE t0 allP hist d
  snap : ∀ l1 x l2, hist = l1 ++ x :: l2 → ∀ d, x.fr.tmps.get d = lookE t0 allP l2 d
  late : ∀ x ∈ hist, p x.i = false → LateOk e cx ops.toList ri h₀ p m h rest mem x
  ids : hist.Pairwise fun x y => lateA ops.toList p y → y.h.sz < x.h.sz
  slots : ∀ d v, lookE t0 p hist d = some v → ∃ y, t[d]? = some y ∧ VRel m v y
  st : St0 e G B cx b z cs m fr h t ds w
  T : Turn B m₀ h₀ w₀ m h w

def Head (ri : RI) (p : Nat → Bool) (rest : List Nat) : Prop := ∀ x l, rest = x :: l → lmem x ri.eff = true ∧ p x = false

theorem Fr.put_get {fr fr' : Fr} {nt : Nat} {dst : Option Tmp} {v : AV} (hp : fr.put nt dst v = some fr') (d : Nat) : fr'.tmps.get d = if dst = some d then some v else fr.tmps.get d := by
  unfold Fr.put at hp
  cases dst with
  | none => injection hp with hp; subst hp; simp
  | some x =>
    dsimp only at hp
    split at hp
    · injection hp with hp; subst hp
      rw [PT.get_set]
      by_cases hd : d = x
      · subst hd; simp
      · rw [if_neg hd, if_neg (fun q => hd (Option.some.inj q).symm)]
    · cases hp
theorem Fr.put_lt {fr fr' : Fr} {nt : Nat} {dst : Option Tmp} {v : AV} (hp : fr.put nt dst v = some fr') (d : Nat) (hd : dst = some d) : d < nt := by
  subst hd
  unfold Fr.put at hp
  dsimp only at hp
  split at hp
  · rename_i h; simpa using h
  · cases hp

theorem pureA_quiet {fr : Fr} {h h' : H} {nt : Nat} {o : Oper} {v : AV} {l : List Oper} (he : isEff e.tt o = false) (hp : pureA e nt l o fr h = some (v, h')) :
    (∃ ob, h' = h.new ob ∧ isAlloc o = true ∧ wantedA l fr o = some true) ∨ (h' = h ∧ (isAlloc o = true → wantedA l fr o ≠ some true)) := by
  unfold pureA at hp
  split at hp
  · cases hp
  · rename_i hw
    injection hp with hp; injection hp with e1 e2
    exact .inr ⟨e2.symm, fun _ => by rw [hw]; simp⟩
  · rename_i hw
    split at hp
    · rename_i v1 h1 hv
      injection hp with hp; injection hp with e1 e2
      subst e1; subst e2
      cases ha : isAlloc o with
      | true =>
        obtain ⟨ob, q, _⟩ := quiet_alloc ha hv
        exact .inl ⟨ob, q, rfl, hw⟩
      | false =>
        cases hr : isRead e.tt o with
        | true => exact .inr ⟨quiet_read he hr hv, fun q => by cases q⟩
        | false => exact .inr ⟨(quiet_pure he hr ha hv).1, fun q => by cases q⟩
    · cases hp

/-- A goes on to its next effect. -/
theorem advance (F : DrawFacts e.tt ops.toList ri) {p : Nat → Bool} {m : Emb} {t : Array Value} {ds : List Deferred} {w : World} : ∀ (rest : List Nat) {hist : List Ent} {mem : List Fl} {fr : Fr} {h : H},
    DInv e G B r cx ops ri Q t0 b z cs m₀ h₀ w₀ p hist rest mem m fr h t ds w →
    ∃ hist' rest' mem' fr' h', DInv e G B r cx ops ri Q t0 b z cs m₀ h₀ w₀ p hist' rest' mem' m fr' h' t ds w ∧ Head ri p rest' ∧ fr'.rcd = fr.rcd
  | [], hist, mem, fr, h, I => ⟨hist, [], mem, fr, h, I, (fun x l q => by cases q), rfl⟩
  | i :: l, hist, mem, fr, h, I => by
    have hnd := F.nd
    rw [I.ord] at hnd
    have hni : i ∉ hist.map (·.i) := fun q => by
      rw [List.nodup_append] at hnd
      exact hnd.2.2 i (List.mem_reverse.2 q) i (List.mem_cons_self ..) rfl
    have hpi : p i = false := by
      cases hp : p i with
      | false => rfl
      | true => exact absurd (I.sub i hp) hni
    obtain ⟨o, ho, hef⟩ := F.eff i (by rw [I.ord]; simp)
    cases he : lmem i ri.eff with
    | true => exact ⟨hist, i :: l, mem, fr, h, I, (fun x l' q => by cases q; exact ⟨he, hpi⟩), rfl⟩
    | false =>
      have heo : isEff e.tt o = false := by rw [← hef]; exact he
      have hq := I.q
      unfold drawA at hq
      rw [lget_eq, ho] at hq
      simp only [he, cond_false] at hq
      split at hq
      · exact hq.elim
      · rename_i v h' hpu
        split at hq
        · exact hq.elim
        · rename_i fr' hpt
          have hfr := (Fr.put_some hpt).1
          have hfl : isRead e.tt o = true → ∃ n, floats i ri.fl = some n ∧ floatOk (masks ops.toList []) ri i n l = true := fun hr => F.fl ((hist.map (·.i)).reverse) i l I.ord o ho heo hr
          have hh := pureA_quiet heo hpu
          have hRT : Rel G B (CodeC e G) m h' w.heap ∧ Turn B m₀ h₀ w₀ m h' w ∧ h.sz ≤ h'.sz ∧ ∀ x, x < h.sz → h'.get x = h.get x := by
            rcases hh with ⟨ob, rfl, _, _⟩ | ⟨rfl, _⟩
            · exact ⟨I.st.R.newA ob, I.T.newA ob, by simp, fun x hx => by rw [H.get_new, if_neg (by omega)]⟩
            · exact ⟨I.st.R, I.T, Nat.le_refl _, fun x _ => rfl⟩
          have I' : DInv e G B r cx ops ri Q t0 b z cs m₀ h₀ w₀ p (⟨i, o, fr, h, v⟩ :: hist) l (match floats i ri.fl with | some n => (⟨fr, v, o, n⟩ : Fl) :: mem | none => mem) m fr' h' t ds w := by
            have hmem : ∀ y, y ∈ mem → y ∈ (match floats i ri.fl with | some n => (⟨fr, v, o, n⟩ : Fl) :: mem | none => mem) := by
              intro y hy
              cases floats i ri.fl with
              | none => exact hy
              | some n => exact List.mem_cons_of_mem _ hy
            refine ⟨?_, hq, ?_, ?_, ?_, ?_, ?_, ?_, ?_, ?_, ?_, hRT.2.1⟩
            · rw [I.ord]; simp
            · intro x hx hxe
              rcases List.mem_cons.1 hx with rfl | hx
              · rw [he] at hxe; cases hxe
              · exact I.effs x hx hxe
            · intro j hj; exact List.mem_cons_of_mem _ (I.sub j hj)
            · intro x hx
              rcases List.mem_cons.1 hx with rfl | hx
              · simpa using ho
              · exact I.opx x hx
            · intro d
              rw [Fr.put_get hpt, lookE, I.tm d]
              simp [allP]
            · intro l1 x l2 hl d
              cases l1 with
              | nil => simp at hl; obtain ⟨rfl, rfl⟩ := hl; exact I.tm d
              | cons y l1 => simp at hl; exact I.snap l1 x l2 hl.2 d
            · intro x hx hpx
              rcases List.mem_cons.1 hx with rfl | hx
              · refine ⟨heo, I.T.hsz, ⟨h', hpu, fun hl => ?_⟩, fun d hd => Fr.put_lt hpt d hd, fun hr => ?_⟩
                · rcases hh with ⟨ob, rfl, _, _⟩ | ⟨_, hno⟩
                  · exact ⟨I.st.R.none_sz, by simp, ob, rfl, by rw [H.get_new]; simp⟩
                  · exact absurd hl.2.1 (hno hl.1)
                · obtain ⟨n, q1, q2⟩ := hfl hr
                  rw [q1]
                  exact ⟨n, List.mem_cons_self .., q2⟩
              · have L := I.late x hx hpx
                refine ⟨L.eff, L.low, ?_, L.dst, fun hr => ?_⟩
                · obtain ⟨hx', r1, r2⟩ := L.run
                  refine ⟨hx', r1, fun hl => ?_⟩
                  obtain ⟨s1, s2, ob, s3, s4⟩ := r2 hl
                  exact ⟨s1, Nat.lt_of_lt_of_le s2 hRT.2.2.1, ob, s3, by rw [hRT.2.2.2 _ s2]; exact s4⟩
                · obtain ⟨n, q1, q2⟩ := L.read hr
                  refine ⟨n, hmem _ q1, ?_⟩
                  unfold floatOk at q2
                  rw [he] at q2
                  cases n <;> exact q2
            · refine .cons ?_ I.ids
              intro y hy hl
              exact ((I.late y hy hl.2.2).run.choose_spec.2 hl).2.1
            · intro d u hu
              rw [lookE, if_neg (by rw [hpi]; simp)] at hu
              exact I.slots d u hu
            · rw [hfr]
              have s := I.st
              exact ⟨s.nt, s.D, hRT.1, s.pan, s.round, s.rd, s.fn, s.zle, s.zw⟩
          obtain ⟨hist', rest', mem', fr2, h2, J1, J2, J3⟩ := advance F l I'
          refine ⟨hist', rest', mem', fr2, h2, J1, J2, J3.trans ?_⟩
          rw [hfr]
end
end Go.Ab
namespace Go.Ab
section
variable {P : Program} {e : Env} {G B : Nat} {r : Rec} {cx : Cx} {ops : Array Oper} {ri : RI} {Q : Out → Prop} {t0 : PT AV} {b : Host} {z : Nat} {cs : List Frame} {m₀ : Emb} {h₀ : H} {w₀ : World}
  {p : Nat → Bool} {hist : List Ent} {rest : List Nat} {mem : List Fl} {m : Emb} {fr : Fr} {h : H} {t : Array Value} {ds : List Deferred} {w : World}

/-- What two operations of the region have to do with one another, the one ahead of the other in A's order. -/
theorem pair_at (F : DrawFacts e.tt ops.toList ri) {i j : Nat} {l1 l2 l3 : List Nat} (ho : ri.ord = l1 ++ i :: l2 ++ j :: l3) : pairOk ops.toList (masks ops.toList []) ri i j = true := by
  have := F.pw
  rw [ho] at this
  rw [List.append_assoc, List.pairwise_append] at this
  have h2 := this.2.1
  rw [List.cons_append, List.pairwise_cons] at h2
  exact h2.1 j (by simp)

theorem pair_bef {i j : Nat} {ol : List Oper} {ms : List Nat} (hp : pairOk ol ms ri i j = true) {oi oj : Oper} (hi : ol[i]? = some oi) (hj : ol[j]? = some oj) (hc : lmem i ri.eff = true ∨ lmem j ri.pk = true ∨ meets ol oi oj = true) : bef ms i j = true := by
  unfold pairOk at hp
  rw [lget_eq, lget_eq, hi, hj] at hp
  simp only [Bool.or_eq_true, Bool.not_eq_true', Bool.or_eq_false_iff] at hp
  rcases hp with hp | ⟨⟨h1, h2⟩, h3⟩
  · exact hp
  · rcases hc with q | q | q
    · rw [h1] at q; cases q
    · rw [h2] at q; cases q
    · rw [h3] at q; cases q

theorem meets_dst {ol : List Oper} {oi oj : Oper} {d : Nat} (h : (oi.dst = some d ∧ (d ∈ looks ol oj ∨ oj.dst = some d)) ∨ (oj.dst = some d ∧ d ∈ looks ol oi)) : meets ol oi oj = true := by
  unfold meets
  rcases h with ⟨h1, h2 | h2⟩ | ⟨h1, h2⟩
  · simp [h1, lmem_iff.2 h2]
  · simp [h1, h2]
  · simp [h1, lmem_iff.2 h2]

/-- The slots that an operation of the history looks at: the real side has them. -/
theorem slots_at (F : DrawFacts e.tt ops.toList ri) (I : DInv e G B r cx ops ri Q t0 b z cs m₀ h₀ w₀ p hist rest mem m fr h t ds w) (hd : Down ops.toList p) {l1 l2 : List Ent} {x : Ent} (hh : hist = l1 ++ x :: l2) (hx : p x.i = false)
    (hpre : ∀ j, bef (masks ops.toList []) j x.i = true → p j = true) {d : Nat} (hl : d ∈ looks ops.toList x.o ∨ x.o.dst = some d) :
    (∀ y ∈ l1, y.o.dst = some d → p y.i = false) ∧ (∀ y ∈ l2, y.o.dst = some d → p y.i = true) := by
  have hox := I.opx x (by rw [hh]; simp)
  constructor
  · intro y hy hyd
    obtain ⟨a, c, hac⟩ := List.append_of_mem hy
    have hoy := I.opx y (by rw [hh]; simp [hy])
    have hp := pair_at F (i := x.i) (j := y.i) (l1 := (l2.map (·.i)).reverse) (l2 := (c.map (·.i)).reverse) (l3 := (a.map (·.i)).reverse ++ rest) (by rw [I.ord, hh, hac]; simp)
    have hb := pair_bef hp (by simpa using hox) (by simpa using hoy) (.inr (.inr (meets_dst (d := d) (by
      rcases hl with hl | hl
      · exact .inr ⟨hyd, hl⟩
      · exact .inl ⟨hl, .inr hyd⟩))))
    cases hpy : p y.i with
    | false => rfl
    | true =>
      have := bef_pre hd y.i x.i (fun o ho e' he' hb' => hd y.i o ho hpy e' he' hb') hb
      rw [hx] at this
      cases this
  · intro y hy hyd
    obtain ⟨a, c, hac⟩ := List.append_of_mem hy
    have hoy := I.opx y (by rw [hh]; simp [hy])
    have hp := pair_at F (i := y.i) (j := x.i) (l1 := (c.map (·.i)).reverse) (l2 := (a.map (·.i)).reverse) (l3 := (l1.map (·.i)).reverse ++ rest) (by rw [I.ord, hh, hac]; simp)
    exact hpre y.i (pair_bef hp (by simpa using hoy) (by simpa using hox) (.inr (.inr (meets_dst (d := d) (.inl ⟨hyd, hl⟩)))))
end
end Go.Ab
namespace Go.Ab
section
variable {P : Program} {e : Env} {G B : Nat} {r : Rec} {cx : Cx} {ops : Array Oper} {ri : RI} {Q : Out → Prop} {t0 : PT AV} {b : Host} {z : Nat} {cs : List Frame} {m₀ : Emb} {h₀ : H} {w₀ : World}
  {p : Nat → Bool} {hist : List Ent} {rest : List Nat} {mem : List Fl} {m m' : Emb} {fr : Fr} {h : H} {t : Array Value} {ds : List Deferred} {w w' : World}

def addP (p : Nat → Bool) (i : Nat) : Nat → Bool := fun j => p j || j == i

/-- The readers that wait are still. -/
theorem still_all (I : DInv e G B r cx ops ri Q t0 b z cs m₀ h₀ w₀ p hist rest mem m fr h t ds w) (hh : Head ri p rest) : mem.all (stillA e cx.nt ops.toList h) = true := by
  have hq := I.q
  cases hm : mem.all (stillA e cx.nt ops.toList h) with
  | true => rfl
  | false =>
    exfalso
    cases rest with
    | nil => unfold drawA at hq; rw [hm] at hq; exact hq
    | cons x l =>
      have hx := (hh x l rfl).1
      unfold drawA at hq
      split at hq
      · exact hq
      · rw [hx, hm] at hq; exact hq

/-- The state after a late operation. -/
theorem DRels.ext {e : Env} {hp hp' : Array Obj} {z : Nat} {ds : List ADef} {dds : List Deferred} (x : DRels e m hp z ds dds) (hle : m.le m') (hne : ∀ k, k < hp.size → hp'[k]? = hp[k]?) (hnew : ∀ b i, m' b = some i → m b = some i ∨ hp.size ≤ i.r) : DRels e m' hp' z ds dds := by
  induction x with
  | nil => exact .nil
  | mark r ds dds hz hr hm hd _ ih =>
    have hlt := lt_of_get hr
    exact .mark r ds dds hz ((hne r hlt).trans hr) (fun b i hb => by
      rcases hnew b i hb with q | q
      · exact hm b i q
      · omega) hd ih
  | call f args caps args' ds dds hf ha _ ih => exact .call f args caps args' ds dds hf (ha.mono hle) ih

theorem late_inv (I : DInv e G B r cx ops ri Q t0 b z cs m₀ h₀ w₀ p hist rest mem m fr h t ds w) {l1 l2 : List Ent} {x : Ent} (hh : hist = l1 ++ x :: l2) (hx : p x.i = false)
    (hl1 : ∀ d, x.o.dst = some d → ∀ y ∈ l1, y.o.dst = some d → p y.i = false) (hnd : (hist.map (·.i)).Nodup) (hmle : m.le m') (s' : St0 e G B cx b z cs m' fr h t ds w') (T' : Turn B m₀ h₀ w₀ m' h w') {v' : Value} (hv : VRel m' x.v v')
    (hm' : ∀ y ∈ hist, lateA ops.toList (addP p x.i) y → m' y.h.sz = none) (hdst : ∀ d, x.o.dst = some d → d < t.size) :
    DInv e G B r cx ops ri Q t0 b z cs m₀ h₀ w₀ (addP p x.i) hist rest mem m' fr h (putT t x.o.dst v') ds w' := by
  have hle : ∀ {j}, addP p x.i j = false → p j = false := fun {j} q => by
    simp only [addP, Bool.or_eq_false_iff] at q; exact q.1
  have hni : ∀ y ∈ l1 ++ l2, y.i ≠ x.i := by
    intro y hy q
    rw [hh] at hnd
    simp only [List.map_append, List.map_cons, List.nodup_append, List.nodup_cons] at hnd
    rcases List.mem_append.1 hy with hy | hy
    · exact hnd.2.2 y.i (List.mem_map.2 ⟨y, hy, rfl⟩) x.i (List.mem_cons_self ..) q
    · exact hnd.2.1.1 (q ▸ List.mem_map.2 ⟨y, hy, rfl⟩)
  refine ⟨I.ord, I.q, fun y hy hye => ?_, fun j hj => ?_, I.opx, I.tm, I.snap, fun y hy hpy => ?_, ?_, ?_, ?_, T'⟩
  · simp [addP, I.effs y hy hye]
  · simp only [addP, Bool.or_eq_true, beq_iff_eq] at hj
    rcases hj with hj | rfl
    · exact I.sub j hj
    · rw [hh]; simp
  · have L := I.late y hy (hle hpy)
    refine ⟨L.eff, L.low, ?_, L.dst, L.read⟩
    obtain ⟨hx', r1, r2⟩ := L.run
    refine ⟨hx', r1, fun hl => ?_⟩
    obtain ⟨s1, s2⟩ := r2 ⟨hl.1, hl.2.1, hle hl.2.2⟩
    exact ⟨hm' y hy hl, s2⟩
  · exact I.ids.imp fun {a c} q hl => q ⟨hl.1, hl.2.1, hle hl.2.2⟩
  · intro d v hd
    by_cases hxd : x.o.dst = some d
    · have hskip : ∀ y ∈ l1, y.o.dst = some d → addP p x.i y.i = false := fun y hy hyd => by
        have h1 := hl1 d hxd y hy hyd
        have h2 := hni y (List.mem_append_left _ hy)
        simp [addP, h1, h2]
      rw [hh, lookE_skip hskip, lookE, if_pos ⟨hxd, by simp [addP]⟩] at hd
      injection hd with hd
      subst hd
      refine ⟨v', ?_, hv⟩
      rw [hxd]
      exact Array.getElem?_setIfInBounds_self_of_lt (hdst d hxd)
    · have hc : lookE t0 (addP p x.i) hist d = lookE t0 p hist d := lookE_congr fun y hy hyd => by
        by_cases hyi : y.i = x.i
        · exfalso
          rw [hh] at hy
          rcases List.mem_append.1 hy with hy | hy
          · exact hni y (List.mem_append_left _ hy) hyi
          · rcases List.mem_cons.1 hy with rfl | hy
            · exact hxd hyd
            · exact hni y (List.mem_append_right _ hy) hyi
        · simp [addP, hyi]
      rw [hc] at hd
      obtain ⟨y, hy, ry⟩ := I.slots d v hd
      refine ⟨y, ?_, ry.mono hmle⟩
      cases hdx : x.o.dst with
      | none => exact hy
      | some d' =>
        have : d' ≠ d := fun q => hxd (by rw [hdx, q])
        simp only [putT]
        rw [Array.getElem?_setIfInBounds_ne this]
        exact hy
  · exact ⟨(putT_size _ _).trans s'.nt, s'.D, s'.R, s'.pan, s'.round, s'.rd, s'.fn, s'.zle, s'.zw⟩
end
end Go.Ab
namespace Go.Ab
section
variable {P : Program} {e : Env} {G B : Nat} {r : Rec} {cx : Cx} {ops : Array Oper} {ri : RI} {Q : Out → Prop} {t0 : PT AV} {b : Host} {z : Nat} {cs : List Frame} {m₀ : Emb} {h₀ : H} {w₀ : World}
  {p : Nat → Bool} {hist : List Ent} {rest : List Nat} {mem : List Fl} {m : Emb} {fr : Fr} {h : H} {t : Array Value} {ds : List Deferred} {w : World} {k : List Item} {restR : List Nat}

/-- An operation that goes on with a value, in whichever round. -/
theorem step_of_opTo {o : Oper} {i : Nat} {v' : Value} {w' : World} (ho : ops[i]? = some o) (hw : Region.wanted o (yielded ops t) = true) (hd : ∀ c, o.op ≠ .defer c) (hop : OpTo P t o w v' w') :
    Steps P (lone (b.fr t ds (.inRegion ops (i :: restR) :: k)) cs w) (lone (b.fr (putT t o.dst v') ds (.inRegion ops restR :: k)) cs w') := by
  rcases hop with hop | ⟨hop, rfl⟩
  · exact .one (hstep_value ho hw (.inr hd) hop)
  · exact .one (hstep_skipped ho hw (.inr hd) hop)

/-- Of an operation that is no effect: its value now is its value then, or it lays a new block. -/
theorem late_val {x : Ent} {h' : H} (he : isEff e.tt x.o = false) (hp : pureA e cx.nt ops.toList x.o x.fr x.h = some (x.v, h')) (hw : wantedA ops.toList x.fr x.o = some true)
    (hr : isRead e.tt x.o = true → ∃ n, (⟨x.fr, x.v, x.o, n⟩ : Fl) ∈ mem) (hs : mem.all (stillA e cx.nt ops.toList h) = true) :
    (isAlloc x.o = false ∧ opA e x.fr h cx.nt x.o = .val x.v h) ∨ (isAlloc x.o = true ∧ ∃ ob, h' = x.h.new ob ∧ ∀ h2 : H, h2.sz = x.h.sz → opA e x.fr h2 cx.nt x.o = .val x.v (h2.new ob)) := by
  have hop : opA e x.fr x.h cx.nt x.o = .val x.v h' := by
    unfold pureA at hp
    rw [hw] at hp
    dsimp only at hp
    split at hp
    · rename_i v1 h1 hv
      injection hp with hp; injection hp with e1 e2
      rw [hv, e1, e2]
    · cases hp
  cases ha : isAlloc x.o with
  | true => exact .inr ⟨rfl, quiet_alloc ha hop⟩
  | false =>
    refine .inl ⟨rfl, ?_⟩
    cases hrd : isRead e.tt x.o with
    | false => exact (quiet_pure he hrd ha hop).2 h
    | true =>
      obtain ⟨n, hn⟩ := hr hrd
      have := List.all_eq_true.1 hs _ hn
      unfold stillA at this
      dsimp only at this
      cases hpa : pureA e cx.nt ops.toList x.o x.fr h with
      | none => rw [hpa] at this; cases this
      | some y =>
        obtain ⟨u, h2⟩ := y
        rw [hpa] at this
        have hu := AV.eq_of_beq _ _ this
        subst hu
        unfold pureA at hpa
        rw [hw] at hpa
        dsimp only at hpa
        split at hpa
        · rename_i v1 h1 hv
          injection hpa with hpa; injection hpa with e1 e2
          have := quiet_read he hrd hv
          rw [hv, e1, this]
        · cases hpa
end
end Go.Ab
namespace Go.Ab
section
variable {P : Program} {e : Env} {G B : Nat} {r : Rec} {cx : Cx} {ops : Array Oper} {ri : RI} {Q : Out → Prop} {t0 : PT AV} {b : Host} {z : Nat} {cs : List Frame} {m₀ : Emb} {h₀ : H} {w₀ : World}
  {p : Nat → Bool} {hist : List Ent} {rest : List Nat} {mem : List Fl} {m : Emb} {fr : Fr} {h : H} {t : Array Value} {ds : List Deferred} {w : World} {k : List Item} {restR : List Nat}

theorem isEff_defer {tt : PT TI} {o : Oper} (he : isEff tt o = false) : ∀ c, o.op ≠ .defer c := by
  intro c hc
  simp [isEff, hc] at he

/-- Of an operation that lays a new block. -/
theorem sim_allocX (EO : EnvOK P e G) {C : CodeP} {o : Oper} {fr : Fr} {v : AV} {nt : Nat} {h h' : H} {m : Emb} (ha : isAlloc o = true) (R : RelX G B C m h w.heap) (hn : m h.sz = none) (F : TRel m fr.tmps t) (hx : o.op.operands.toList.all (opdOk G) = true)
    (hv : opA e fr h nt o = .val v h') : SimA P G B C m h w t o v h' := by
  have T := EO.toTabOK
  cases ho : o.op with
  | alloc ty => exact simA_alloc T ho R hn hv
  | box ty x => exact simA_box T ho R hn F (by simpa [ho, Op.operands] using hx) hv
  | makeMap ty q => exact simA_makeMap ho R hn hv
  | makeSlice ty l c =>
    simp only [ho, Op.operands, List.all_cons, List.all_nil, Bool.and_true, Bool.and_eq_true] at hx
    exact simA_makeSlice T ho R hn F hx.1 hx.2 hv
  | buildSlice ty n ps => exact simA_buildSlice T ho R hn F (by simpa [ho, Op.operands] using hx) hv
  | _ => simp [isAlloc, ho] at ha

theorem not_enter {s : Sem Value} {f : Nat} {a : Array Value} {w' : World} : (do pure (Next.value (← s)) : Sem Next).run P w ≠ .ok (.enter f a) w' := by
  simp only [Sem.run_bind]
  cases s.run P w <;> simp

theorem not_enter' {α : Type} {s : Result α} {g : α → Value} {f : Nat} {a : Array Value} {w' : World} : (s.andThen fun x w => Result.ok (Next.value (g x)) w) ≠ .ok (.enter f a) w' := by
  cases s <;> simp

/-- What is no effect calls nothing. -/
theorem quiet_enter {tt : PT TI} {o : Oper} (he : isEff tt o = false) {f : Nat} {a : Array Value} {w' : World} : (execOp (ev t) o).run P w ≠ .ok (.enter f a) w' := by
  cases ho : o.op with
  | nilCheck x =>
    simp only [execOp, ho]
    repeat' split
    all_goals first | (simp; done) | (simp [runtimePanic, goPanic, Sem.run]; done) | skip
    all_goals
      intro q
      revert q
      simp only [Sem.run_bind, run_program, Result.andThen_ok]
      generalize Sem.run P (nilAhead _ _ _ _) w = rr
      cases rr with
      | halt x w1 => simp
      | ok y w1 =>
        simp only [Result.andThen_ok]
        split <;> simp [unsupported]
  | call c =>
    cases hc : c.callee with
    | value g => simp [isEff, ho] at he; split at he <;> simp_all
    | invoke q n => simp [isEff, ho] at he; split at he <;> simp_all
    | builtin bb =>
      obtain ⟨callee, as', ats⟩ := c
      dsimp only at hc
      subst hc
      cases bb <;> first | (simp [isEff, ho] at he; done) | skip
      all_goals
        simp only [execOp, ho, resolve, Sem.run_bind, Sem.run_pure, Result.andThen_ok, invoke, builtin]
        exact not_enter'
  | pick c x y =>
    simp only [execOp, ho, Sem.run_bind, Sem.run_pure]
    exact not_enter'
  | _ => first | (simp [isEff, ho] at he; done) | (simp only [execOp, ho]; exact not_enter) | (simp [execOp, ho]; done)

theorem late_step (EO : EnvOK P e G) (F : DrawFacts e.tt ops.toList ri) (I : DInv e G B r cx ops ri Q t0 b z cs m₀ h₀ w₀ p hist rest mem m fr h t ds w) (hh : Head ri p rest) (hd : Down ops.toList p)
    {l1 l2 : List Ent} {x : Ent} (hx : hist = l1 ++ x :: l2) (hpx : p x.i = false) (hpre : ∀ j, bef (masks ops.toList []) j x.i = true → p j = true) (hops : ∀ o ∈ ops.toList, o.op.operands.toList.all (opdOk G) = true) :
    ∃ m' t' w', Steps P (lone (b.fr t ds (.inRegion ops (x.i :: restR) :: k)) (csAt cs fr.rcd) w) (lone (b.fr t' ds (.inRegion ops restR :: k)) (csAt cs fr.rcd) w') ∧
      DInv e G B r cx ops ri Q t0 b z cs m₀ h₀ w₀ (addP p x.i) hist rest mem m' fr h t' ds w' := by
  have hxm : x ∈ hist := by rw [hx]; simp
  have ho := I.opx x hxm
  have L := I.late x hxm hpx
  obtain ⟨h', hpu, hla⟩ := L.run
  have hnd : (hist.map (·.i)).Nodup := by
    have := F.nd
    rw [I.ord, List.nodup_append] at this
    exact (List.reverse_perm _).nodup_iff.1 this.1
  have hl1 : ∀ d, x.o.dst = some d → ∀ y ∈ l1, y.o.dst = some d → p y.i = false := fun d hdx => (slots_at F I hd hx hpx hpre (.inr hdx)).1
  have hdst : ∀ d, x.o.dst = some d → d < t.size := fun d hdx => by rw [I.st.nt]; exact L.dst d hdx
  -- the slots that it looks at
  have hF : TRel m (keep ops.toList x.o x.fr).tmps t := by
    intro d v hdv
    simp only [keep, keepT_get] at hdv
    split at hdv
    · rename_i hdl
      obtain ⟨q1, q2⟩ := slots_at F I hd hx hpx hpre (.inl hdl)
      refine I.slots d v ?_
      rw [I.snap l1 x l2 hx d] at hdv
      rw [hx, lookE_skip q1, lookE, if_neg (by rw [hpx]; simp)]
      rw [← hdv]
      exact lookE_congr fun y hy hyd => by rw [q2 y hy hyd]; rfl
    · cases hdv
  have hal : Alike ops.toList x.o x.fr (keep ops.toList x.o x.fr) := keep_alike
  have hopo := hops x.o (by
    have := List.mem_of_getElem? (l := ops.toList) (i := x.i) (by rw [Array.getElem?_toList]; exact ho)
    exact this)
  have keepm : ∀ {m' w'}, Turn B m h w m' h w' → ∀ y ∈ hist, lateA ops.toList (addP p x.i) y → m' y.h.sz = none := by
    intro m' w' T y hy hl
    have hpy : p y.i = false := by
      have := hl.2.2
      simp only [addP, Bool.or_eq_false_iff] at this; exact this.1
    obtain ⟨_, _, q⟩ := (I.late y hy hpy).run
    obtain ⟨s1, s2, _⟩ := q ⟨hl.1, hl.2.1, hpy⟩
    cases hm : m' y.h.sz with
    | none => rfl
    | some i => exact absurd (T.new _ i hm s1).1 (by omega)
  have hpu2 := hpu
  unfold pureA at hpu2
  split at hpu2
  · cases hpu2
  · rename_i hw
    injection hpu2 with hpu2; injection hpu2 with e1 e2
    have hw' : Region.wanted x.o (yielded ops t) = false := wanted_rel hF (by rw [← hal.wanted]; exact hw)
    refine ⟨m, _, w, .one (hstep_skipOp ho hw'), late_inv I hx hpx hl1 hnd (Emb.le.refl _) I.st I.T ?_ (keepm (Turn.refl _ _ _ _)) hdst⟩
    rw [← e1]
    exact .tup _ _ .nil
  · rename_i hw
    have hw' : Region.wanted x.o (yielded ops t) = true := wanted_rel hF (by rw [← hal.wanted]; exact hw)
    rcases late_val L.eff hpu hw (fun hr => let ⟨n, a, _⟩ := L.read hr; ⟨n, a⟩) (still_all I hh) with ⟨ha, hv⟩ | ⟨ha, ob, hob, hv⟩
    · rw [hal.opA] at hv
      have so := sim_op (B := B) (nt := cx.nt) EO I.st.R hF hopo
      rw [hv] at so
      rcases so with so | ⟨f, g, args, args', q1, q2, q3, q4⟩
      · obtain ⟨v', w', m', hop, a1, a2, a3⟩ := so
        exact ⟨m', _, w', step_of_opTo ho hw' (isEff_defer L.eff) hop, late_inv I hx hpx hl1 hnd a3.mono (I.st.turn a3 a2) (I.T.trans a3) a1 (keepm a3) hdst⟩
      · exact absurd q4 (quiet_enter L.eff)
    · obtain ⟨s1, s2, ob', s3, s4⟩ := hla ⟨ha, hw, hpx⟩
      have hobb : ob' = ob := by
        rw [hob] at s3
        injection s3 with q1 q2
        have := congrArg (fun (z : PT AO) => z.get x.h.sz) q2
        simp only [PT.get_set, if_true] at this
        exact (Option.some.inj this).symm
      subst hobb
      let hb : H := { sz := x.h.sz, blk := h.blk }
      have Rb : RelX G B (CodeC e G) m hb w.heap := I.st.R.toRelX.congr fun _ => rfl
      have hvb := hv hb rfl
      rw [hal.opA] at hvb
      obtain ⟨v', w', ab, obj, i, a1, a2, a3, a4, a5, a6, a7, a8, a9⟩ := sim_allocX EO ha Rb s1 hF hopo hvb
      have hgx : ∀ y, h.get y = (hb.new ob').get y := fun y => by
        rw [H.get_new]
        by_cases hy : y = x.h.sz
        · subst hy; rw [if_pos rfl]; exact s4
        · rw [if_neg hy]; rfl
      have R' : Rel G B (CodeC e G) (upd m x.h.sz i) h w'.heap := ⟨a9.congr hgx, fun y j hj => by
        by_cases hy : y = x.h.sz
        · subst hy; exact s2
        · rw [upd_ne _ _ _ hy] at hj; exact I.st.R.bound y j hj⟩
      have hsz : w'.heap.size = w.heap.size + 1 := by rw [a3]; simp
      have hmle : m.le (upd m x.h.sz i) := upd_le s1 i
      have hne : ∀ q, q < w.heap.size → w'.heap[q]? = w.heap[q]? := fun q hq => by rw [a3, Array.getElem?_push, if_neg (by omega)]
      have hnew : ∀ y j, upd m x.h.sz i y = some j → m y = some j ∨ w.heap.size ≤ j.r := fun y j hj => by
        by_cases hy : y = x.h.sz
        · subst hy; rw [upd_self] at hj; cases hj; exact .inr (by omega)
        · rw [upd_ne _ _ _ hy] at hj; exact .inl hj
      have s := I.st
      have T' : Turn B m₀ h₀ w₀ (upd m x.h.sz i) h w' :=
        { mono := I.T.mono.trans hmle
          new := fun y j hj hn => by
            by_cases hy : y = x.h.sz
            · subst hy
              rw [upd_self] at hj; cases hj
              have := I.T.wsz
              exact ⟨L.low, .inl (by omega)⟩
            · rw [upd_ne _ _ _ hy] at hj
              exact I.T.new y j hj hn
          hsz := I.T.hsz
          wsz := by have := I.T.wsz; omega
          frame := fun q hq hn => (hne q (by have := I.T.wsz; omega)).trans (I.T.frame q hq hn)
          old := I.T.old
          low := fun q hq => (hne q (by have := s.R.bsz; omega)).trans (I.T.low q hq)
          os := a4.trans I.T.os
          output := a5.trans I.T.output
          tape := a6.trans I.T.tape }
      refine ⟨_, _, w', step_of_opTo ho hw' (isEff_defer L.eff) (.inl a1), late_inv I hx hpx hl1 hnd hmle ⟨s.nt, s.D.ext hmle hne hnew, R', s.pan.mono hmle, s.round, s.rd, s.fn, s.zle, by have := s.zw; omega⟩ T' a8 ?_ hdst⟩
      intro y hy hl
      have hpy : p y.i = false := by
        have := hl.2.2
        simp only [addP, Bool.or_eq_false_iff] at this; exact this.1
      obtain ⟨_, _, q⟩ := (I.late y hy hpy).run
      obtain ⟨u1, _⟩ := q ⟨hl.1, hl.2.1, hpy⟩
      have hxy : y.h.sz ≠ x.h.sz := by
        have hyx : y.i ≠ x.i := by
          intro q
          have := hl.2.2
          simp [addP, q] at this
        have hids := I.ids
        rw [hx] at hids hy
        rw [List.pairwise_append] at hids
        rcases List.mem_append.1 hy with hy | hy
        · have := hids.2.2 y hy x (List.mem_cons_self ..) ⟨ha, hw, hpx⟩
          omega
        · rcases List.mem_cons.1 hy with rfl | hy
          · exact absurd rfl hyx
          · have := (List.pairwise_cons.1 hids.2.1).1 y hy ⟨hl.1, hl.2.1, hpy⟩
            omega
      rw [upd_ne _ _ _ hxy]
      exact u1
end
end Go.Ab
namespace Go.Ab
section
variable {P : Program} {e : Env} {G B : Nat} {r : Rec} {cx : Cx} {ops : Array Oper} {ri : RI} {Q : Out → Prop} {t0 : PT AV} {b : Host} {z : Nat} {cs : List Frame} {m₀ : Emb} {h₀ : H} {w₀ : World}
  {p : Nat → Bool} {hist : List Ent} {rest : List Nat} {mem : List Fl} {m : Emb} {fr : Fr} {h : H} {t : Array Value} {ds : List Deferred} {w : World} {k : List Item} {restR : List Nat}

/-- Of an effect that stands ahead: what A did before it. -/
theorem hist_bef (F : DrawFacts e.tt ops.toList ri) (I : DInv e G B r cx ops ri Q t0 b z cs m₀ h₀ w₀ p hist rest mem m fr h t ds w) {x : Nat} {l : List Nat} (hr : rest = x :: l) {o : Oper} (ho : ops[x]? = some o) {y : Ent} (hy : y ∈ hist)
    (hc : lmem y.i ri.eff = true ∨ lmem x ri.pk = true ∨ meets ops.toList y.o o = true) : bef (masks ops.toList []) y.i x = true := by
  obtain ⟨a, c, hac⟩ := List.append_of_mem hy
  have hp := pair_at F (i := y.i) (j := x) (l1 := (c.map (·.i)).reverse) (l2 := (a.map (·.i)).reverse) (l3 := l) (by rw [I.ord, hr, hac]; simp)
  exact pair_bef hp (by simpa using I.opx y hy) (by simpa using ho) hc

theorem tick_mem {x : Fl} {n : Nat} (hn : x.n = n + 1) : ∀ {l : List Fl}, x ∈ l → ({ x with n := n } : Fl) ∈ tick l
  | y :: l, hx => by
    unfold tick
    rcases List.mem_cons.1 hx with rfl | hx
    · rw [hn]; exact List.mem_cons_self ..
    · cases y.n with
      | zero => exact tick_mem hn hx
      | succ _ => exact List.mem_cons_of_mem _ (tick_mem hn hx)

theorem effect_step (EO : EnvOK P e G) (SO : SumsOK P e G B) (CS : CallSim P e G B r.call) (RS : RoundSim P e G B r) (F : DrawFacts e.tt ops.toList ri)
    (I : DInv e G B r cx ops ri Q t0 b z cs m₀ h₀ w₀ p hist rest mem m fr h t ds w) {x : Nat} {l : List Nat} (hr : rest = x :: l) (he : lmem x ri.eff = true) (hpx : p x = false)
    (hpre : ∀ j, bef (masks ops.toList []) j x = true → p j = true) (hops : ∀ o ∈ ops.toList, o.op.operands.toList.all (opdOk G) = true) :
    (∃ m' t' ds' w' hist' mem' fr' h', Steps P (lone (b.fr t ds (.inRegion ops (x :: restR) :: k)) (csAt cs fr.rcd) w) (lone (b.fr t' ds' (.inRegion ops restR :: k)) (csAt cs fr'.rcd) w') ∧
      DInv e G B r cx ops ri Q t0 b z cs m₀ h₀ w₀ (addP p x) hist' l mem' m' fr' h' t' ds' w') ∨
    (∃ out, Q out ∧ OutTo P e G B cx b z cs k (lone (b.fr t ds (.inRegion ops (x :: restR) :: k)) (csAt cs fr.rcd) w) m₀ h₀ w₀ out) := by
  obtain ⟨o, ho', hef⟩ := F.eff x (by rw [I.ord, hr]; simp)
  have ho : ops[x]? = some o := by simpa using ho'
  have hnd := F.nd
  rw [I.ord, hr] at hnd
  have hnx : x ∉ hist.map (·.i) := fun q => by
    rw [List.nodup_append] at hnd
    exact hnd.2.2 x (List.mem_reverse.2 q) x (List.mem_cons_self ..) rfl
  have hq := I.q
  rw [hr] at hq
  unfold drawA at hq
  rw [lget_eq, ho'] at hq
  simp only [he, cond_true] at hq
  have hst : mem.all (stillA e cx.nt ops.toList h) = true := by
    cases hm : mem.all (stillA e cx.nt ops.toList h) with
    | true => rfl
    | false => rw [hm] at hq; exact hq.elim
  rw [hst, cond_true] at hq
  -- the slots
  have hslot : ∀ y ∈ hist, ∀ d, y.o.dst = some d → d ∈ looks ops.toList o → p y.i = true := fun y hy d hyd hl => hpre _ (hist_bef F I hr ho hy (.inr (.inr (meets_dst (d := d) (.inl ⟨hyd, .inl hl⟩)))))
  have hF : TRel m (keep ops.toList o fr).tmps t := by
    intro d v hdv
    simp only [keep, keepT_get] at hdv
    split at hdv
    · rename_i hdl
      refine I.slots d v ?_
      rw [I.tm d] at hdv
      rw [← hdv]
      exact lookE_congr fun y hy hyd => by rw [hslot y hy d hyd hdl]; rfl
    · cases hdv
  have hal : Alike ops.toList o fr (keep ops.toList o fr) := keep_alike
  have hopo := hops o (by
    have := List.mem_of_getElem? (l := ops.toList) (i := x) (by rw [Array.getElem?_toList]; exact ho)
    exact this)
  have hq' := T.all_bind hq
  rw [hal.run] at hq'
  obtain ⟨res, r1, r2⟩ := sim_runOp (rest := restR) (k := k) (b := b) (ds := ds) (cs := csAt cs fr.rcd) EO SO CS RS ho hopo I.st.R hF hq'
  rcases sim_putOp I.st ho r1 r2 with ⟨v, v', m', w', fr0, fr', h', ds', a1, a2, a3, a4, a5, a6, a7⟩ | ⟨hpk, v, h', m', w', v', a1, a2, a3, a4, a5⟩
  · refine .inl ⟨m', _, ds', w', ⟨x, o, fr, h, v⟩ :: hist, tick mem, fr', h', a5, ?_⟩
    have hadd : ∀ {j}, addP p x j = false → p j = false := fun {j} q => by
      simp only [addP, Bool.or_eq_false_iff] at q; exact q.1
    have hlk : ∀ d, lookE t0 (addP p x) hist d = lookE t0 p hist d := fun d => lookE_congr fun y hy _ => by
      have : y.i ≠ x := fun q => hnx (q ▸ List.mem_map.2 ⟨y, hy, rfl⟩)
      simp [addP, this]
    refine ⟨?_, a3, ?_, ?_, ?_, ?_, ?_, ?_, ?_, ?_, a6, I.T.trans a7⟩
    · rw [I.ord, hr]; simp
    · intro y hy hye
      rcases List.mem_cons.1 hy with rfl | hy
      · simp [addP]
      · simp [addP, I.effs y hy hye]
    · intro j hj
      simp only [addP, Bool.or_eq_true, beq_iff_eq] at hj
      rcases hj with hj | rfl
      · exact List.mem_cons_of_mem _ (I.sub j hj)
      · exact List.mem_cons_self ..
    · intro y hy
      rcases List.mem_cons.1 hy with rfl | hy
      · exact ho
      · exact I.opx y hy
    · intro d
      rw [a2, Fr.put_get a1, lookE, I.tm d]
      simp [allP]
    · intro l1 y l2 hl d
      cases l1 with
      | nil => simp at hl; obtain ⟨rfl, rfl⟩ := hl; exact I.tm d
      | cons y1 l1 => simp at hl; exact I.snap l1 y l2 hl.2 d
    · intro y hy hpy
      rcases List.mem_cons.1 hy with rfl | hy
      · simp [addP] at hpy
      · have hpy := hadd hpy
        have L := I.late y hy hpy
        refine ⟨L.eff, L.low, ?_, L.dst, fun hrd => ?_⟩
        · obtain ⟨hx', u1, u2⟩ := L.run
          refine ⟨hx', u1, fun hl => ?_⟩
          obtain ⟨s1, s2, ob, s3, s4⟩ := u2 ⟨hl.1, hl.2.1, hpy⟩
          refine ⟨?_, Nat.lt_of_lt_of_le s2 a7.hsz, ob, s3, ?_⟩
          · cases hm : m' y.h.sz with
            | none => rfl
            | some i => exact absurd (a7.new _ i hm s1).1 (by omega)
          · rw [a7.old _ s2 s1]; exact s4
        · obtain ⟨n, q1, q2⟩ := L.read hrd
          rw [hr] at q2
          unfold floatOk at q2
          rw [he, cond_true] at q2
          cases n with
          | zero =>
            simp only [Bool.and_eq_true] at q2
            have := hpre _ q2.1
            rw [hpy] at this; cases this
          | succ n => exact ⟨n, tick_mem rfl q1, q2⟩
    · refine .cons ?_ (I.ids.imp fun {a c} q hl => q ⟨hl.1, hl.2.1, hadd hl.2.2⟩)
      intro y hy hl
      have hl : lateA ops.toList p y := ⟨hl.1, hl.2.1, hadd hl.2.2⟩
      exact ((I.late y hy hl.2.2).run.choose_spec.2 hl).2.1
    · intro d u hu
      unfold lookE at hu
      split at hu
      · rename_i hc
        injection hu with hu
        subst hu
        refine ⟨v', ?_, a4⟩
        have hlt := Fr.put_lt a1 d hc.1
        rw [← I.st.nt] at hlt
        have hod : o.dst = some d := hc.1
        rw [hod]
        exact Array.getElem?_setIfInBounds_self_of_lt hlt
      · rename_i hc
        rw [hlk] at hu
        obtain ⟨y, hy, ry⟩ := I.slots d u hu
        refine ⟨y, ?_, ry.mono a7.mono⟩
        cases hdo : o.dst with
        | none => exact hy
        | some d' =>
          have : d' ≠ d := fun q => hc ⟨by rw [hdo, q], by simp [addP]⟩
          simp only [putT]
          rw [Array.getElem?_setIfInBounds_ne this]
          exact hy
  · refine .inr ⟨_, a1, m', t, ds, w', _, v', a2, a3, a4.st ?_, I.T.trans a5⟩
    intro d u hu
    rw [I.tm d] at hu
    have : lookE t0 p hist d = some u := by
      rw [← hu]
      exact lookE_congr fun y hy _ => by rw [hpre _ (hist_bef F I hr ho hy (.inr (.inl hpk)))]; rfl
    obtain ⟨y, hy, ry⟩ := I.slots d u this
    exact ⟨y, hy, ry.mono a5.mono⟩
end
end Go.Ab
namespace Go.Ab
section
variable {P : Program} {e : Env} {G B : Nat} {r : Rec} {cx : Cx} {ops : Array Oper} {ri : RI} {Q : Out → Prop} {t0 : PT AV} {b : Host} {z : Nat} {cs : List Frame} {m₀ : Emb} {h₀ : H} {w₀ : World}
  {p : Nat → Bool} {hist : List Ent} {rest : List Nat} {mem : List Fl} {m : Emb} {fr : Fr} {h : H} {t : Array Value} {ds : List Deferred} {w : World} {k : List Item} {restR : List Nat}

theorem DInv.congr {p' : Nat → Bool} (hp : ∀ i, p' i = p i) (I : DInv e G B r cx ops ri Q t0 b z cs m₀ h₀ w₀ p hist rest mem m fr h t ds w) : DInv e G B r cx ops ri Q t0 b z cs m₀ h₀ w₀ p' hist rest mem m fr h t ds w := by
  have : p' = p := funext hp
  rw [this]; exact I

theorem OutTo.steps0' {M M' : Machine} {out : Out} (hs : Steps P M M') (x : OutTo P e G B cx b z cs k M' m₀ h₀ w₀ out) : OutTo P e G B cx b z cs k M m₀ h₀ w₀ out := x.steps0 hs

/-- All is done. -/
theorem draw_end (F : DrawFacts e.tt ops.toList ri) (I : DInv e G B r cx ops ri Q t0 b z cs m₀ h₀ w₀ p hist rest mem m fr h t ds w) (hh : Head ri p rest) (hall : ∀ i, i < ops.size → p i = true) :
    ∃ out, Q out ∧ OutTo P e G B cx b z cs k (lone (b.fr t ds (.inRegion ops [] :: k)) (csAt cs fr.rcd) w) m₀ h₀ w₀ out := by
  have hlt : ∀ i ∈ ri.ord, i < ops.size := fun i hi => by
    obtain ⟨o, ho, _⟩ := F.eff i hi
    exact (Array.getElem?_eq_some_iff.1 (by simpa using ho : ops[i]? = some o)).1
  cases hr : rest with
  | cons x l =>
    have := (hh x l hr).2
    rw [hall x (hlt x (by rw [I.ord, hr]; simp))] at this
    cases this
  | nil =>
    have hq := I.q
    rw [hr] at hq
    unfold drawA at hq
    cases hm : mem.all (stillA e cx.nt ops.toList h) with
    | false => rw [hm] at hq; exact hq.elim
    | true =>
      rw [hm] at hq
      refine ⟨_, hq, m, t, ds, w, .one hstep_done, I.st.st ?_, I.T⟩
      intro d v hd
      rw [I.tm d] at hd
      refine I.slots d v ?_
      rw [← hd]
      exact lookE_congr fun y hy _ => by
        rw [hall y.i (hlt y.i (by rw [I.ord]; exact List.mem_append_left _ (List.mem_reverse.2 (List.mem_map.2 ⟨y, hy, rfl⟩))))]; rfl

/-- The operations that are carried out. -/
def unlisted (listed : Array Bool) (n : Nat) : Nat := ((List.range n).filter fun i => !listed.getD i true).length

theorem listed_sum {n : Nat} {listed : Array Bool} {i : Nat} (hn : listed.size = n) (hi : i < n) (hl : listed.getD i true = false) : unlisted listed n = unlisted (listed.setIfInBounds i true) n + 1 := by
  have key : ∀ (l : List Nat), l.Nodup → (∀ j ∈ l, j < n) → (l.filter fun j => !listed.getD j true).length = (l.filter fun j => !(listed.setIfInBounds i true).getD j true).length + (if i ∈ l then 1 else 0) := by
    intro l
    induction l with
    | nil => intro _ _; simp
    | cons a l ih =>
      intro hnd hlt
      have ih := ih (List.nodup_cons.1 hnd).2 fun j hj => hlt j (List.mem_cons_of_mem _ hj)
      by_cases ha : a = i
      · subst ha
        have h1 : (listed.setIfInBounds a true).getD a true = true := by simp [Array.getD_eq_getD_getElem?, Array.getElem?_setIfInBounds]; split <;> rfl
        have hni := (List.nodup_cons.1 hnd).1
        rw [if_neg hni] at ih
        rw [List.filter_cons, List.filter_cons, if_pos (by simp [hl]), if_neg (by simp [h1]), if_pos (List.mem_cons_self ..)]
        simp only [List.length_cons]
        omega
      · have h1 : (listed.setIfInBounds i true).getD a true = listed.getD a true := by
          simp only [Array.getD_eq_getD_getElem?]
          rw [Array.getElem?_setIfInBounds_ne (fun q => ha q.symm)]
        have h2 : (i ∈ a :: l) ↔ i ∈ l := by simp [Ne.symm ha]
        rw [List.filter_cons, List.filter_cons, h1]
        simp only [h2]
        split
        · simp only [List.length_cons]; omega
        · exact ih
  have := key (List.range n) List.nodup_range (fun j hj => by simpa using hj)
  rw [if_pos (by simpa using hi)] at this
  exact this

theorem draw_walk (EO : EnvOK P e G) (SO : SumsOK P e G B) (CS : CallSim P e G B r.call) (RS : RoundSim P e G B r) (F : DrawFacts e.tt ops.toList ri) (hops : ∀ o ∈ ops.toList, o.op.operands.toList.all (opdOk G) = true) :
    ∀ (fuel τ : Nat) (listed : Array Bool) {hist : List Ent} {rest : List Nat} {mem : List Fl} {m : Emb} {fr : Fr} {h : H} {t : Array Value} {ds : List Deferred} {w : World}, listed.size = ops.size → unlisted listed ops.size = fuel → Down ops.toList (fun i => listed.getD i false) →
    DInv e G B r cx ops ri Q t0 b z cs m₀ h₀ w₀ (fun i => listed.getD i false) hist rest mem m fr h t ds w → Head ri (fun i => listed.getD i false) rest →
    ∃ out, Q out ∧ OutTo P e G B cx b z cs k (lone (b.fr t ds (.inRegion ops (Region.linearise.go .any ops fuel τ listed []) :: k)) (csAt cs fr.rcd) w) m₀ h₀ w₀ out := by
  intro fuel
  have getD2 : ∀ {listed : Array Bool} {i : Nat}, i < listed.size → listed.getD i true = listed.getD i false := fun {l i} hi => by simp [Array.getD_eq_getD_getElem?, hi]
  have hsz : ∀ {j : Nat} {o : Oper}, ops.toList[j]? = some o → j < ops.size := fun {j o} ho => (Array.getElem?_eq_some_iff.1 (by simpa using ho : ops[j]? = some o)).1
  induction fuel with
  | zero =>
    intro τ listed hist rest mem m fr h t ds w hs hu hd I hh
    refine draw_end F I hh fun i hi => ?_
    have := List.eq_nil_of_length_eq_zero hu
    rw [List.filter_eq_nil_iff] at this
    have := this i (by simpa using hi)
    rw [getD2 (by omega)] at this
    simpa using this
  | succ fuel ih =>
    intro τ listed hist rest mem m fr h t ds w hs hu hd I hh
    simp only [Region.linearise.go]
    generalize hrs : (List.range ops.size).filter (fun i => !listed.getD i true && ((ops[i]?).map (·.after.all fun e => !Region.binds .any e || listed.getD e.on false)).getD false) = rs
    have hrs' : Region.ready .any ops listed = rs := hrs
    cases hi : rs[τ % rs.length]? with
    | none =>
      have hnil : rs = [] := by
        cases rs with
        | nil => rfl
        | cons x xs =>
          have hlt : τ % (x :: xs).length < (x :: xs).length := Nat.mod_lt _ (by simp)
          rw [List.getElem?_eq_getElem hlt] at hi
          cases hi
      subst hnil
      refine draw_end F I hh fun i => ?_
      induction i using Nat.strongRecOn with
      | ind i ih2 =>
        intro hi
        cases hl : listed.getD i false with
        | true => rfl
        | false =>
          exfalso
          rw [List.filter_eq_nil_iff] at hrs
          have h1 := hrs i (by simpa using hi)
          rw [getD2 (by omega), hl] at h1
          apply h1
          have ho : ops[i]? = some ops[i] := Array.getElem?_eq_getElem hi
          rw [ho]
          simp only [Bool.not_false, Bool.true_and, Option.map_some, Option.getD_some, Array.all_eq_true']
          intro x hx
          cases hb : Region.binds .any x with
          | false => rfl
          | true =>
            have hlt := F.edges i ops[i] (by simp [ho]) x (by simpa using hx) hb
            simp only [Bool.not_true, Bool.false_or]
            exact ih2 x.on hlt (by omega)
    | some i =>
      have him : i ∈ rs := List.mem_of_getElem? hi
      rw [← hrs, List.mem_filter] at him
      obtain ⟨h1, h2⟩ := him
      have hlt : i < ops.size := by simpa using h1
      have ho : ops[i]? = some ops[i] := Array.getElem?_eq_getElem hlt
      rw [ho] at h2
      simp only [Option.map_some, Option.getD_some, Bool.and_eq_true, Bool.not_eq_true', Array.all_eq_true'] at h2
      obtain ⟨h2, h3⟩ := h2
      have hpi : listed.getD i false = false := by rw [← getD2 (by omega)]; exact h2
      have hready : ∀ x ∈ (ops[i]).after.toList, Region.binds .any x = true → listed.getD x.on false = true := fun x hx hb => by
        have := h3 x (by simpa using hx)
        rw [hb] at this
        simpa using this
      have hpre : ∀ j, bef (masks ops.toList []) j i = true → (fun i => listed.getD i false) j = true := fun j hj => bef_pre hd i j (fun o hoo x hx hb => by
        have : o = ops[i] := by
          have := hoo
          simp only [Array.getElem?_toList, ho, Option.some.injEq] at this
          exact this.symm
        subst this
        exact hready x hx hb) hj
      have hlist : ∀ j, (listed.setIfInBounds i true).getD j false = addP (fun i => listed.getD i false) i j := fun j => by
        simp only [addP, Array.getD_eq_getD_getElem?]
        by_cases hj : j = i
        · subst hj
          rw [Array.getElem?_setIfInBounds_self_of_lt (by omega)]
          simp
        · rw [Array.getElem?_setIfInBounds_ne (Ne.symm hj)]
          simp [hj]
      have hdown : Down ops.toList (fun j => (listed.setIfInBounds i true).getD j false) := by
        intro j o hj hp x hx hb
        dsimp only at hp ⊢
        rw [hlist] at hp ⊢
        simp only [addP, Bool.or_eq_true, beq_iff_eq] at hp ⊢
        rcases hp with hp | rfl
        · exact .inl (hd j o hj hp x hx hb)
        · refine .inl (hready x ?_ hb)
          have : o = ops[j] := by
            have := hj
            simp only [Array.getElem?_toList, ho, Option.some.injEq] at this
            exact this.symm
          subst this
          exact hx
      have hu' : unlisted (listed.setIfInBounds i true) ops.size = fuel := by
        have := listed_sum hs hlt h2
        omega
      dsimp only
      rw [linearise_go_acc, List.reverse_singleton, List.singleton_append]
      by_cases hin : i ∈ hist.map (·.i)
      · obtain ⟨x, hx, rfl⟩ := List.mem_map.1 hin
        obtain ⟨l1, l2, hl⟩ := List.append_of_mem hx
        obtain ⟨m', t', w', a1, a2⟩ := late_step (restR := Region.linearise.go .any ops fuel (τ / rs.length) (listed.setIfInBounds x.i true) []) (k := k) EO F I hh hd hl hpi hpre hops
        obtain ⟨out, q1, q2⟩ := ih (τ / rs.length) (listed.setIfInBounds x.i true) (by simpa using hs) hu' hdown (a2.congr hlist) (by
          intro y l hy
          obtain ⟨u1, u2⟩ := hh y l hy
          refine ⟨u1, ?_⟩
          dsimp only
          rw [hlist]
          simp only [addP, u2, Bool.false_or, beq_eq_false_iff_ne]
          intro q
          have hnd := F.nd
          rw [I.ord, hy, List.nodup_append] at hnd
          exact hnd.2.2 x.i (List.mem_reverse.2 hin) y (List.mem_cons_self ..) q.symm)
        exact ⟨out, q1, q2.steps0' a1⟩
      · have hir : i ∈ rest := by
          have := F.all i (by simpa using hlt)
          rw [I.ord] at this
          rcases List.mem_append.1 this with q | q
          · exact absurd (List.mem_reverse.1 q) hin
          · exact q
        cases hr : rest with
        | nil => rw [hr] at hir; cases hir
        | cons x l =>
          obtain ⟨hxe, hxp⟩ := hh x l hr
          have hxi : i = x := by
            rw [hr] at hir
            rcases List.mem_cons.1 hir with q | q
            · exact q
            · exfalso
              obtain ⟨c, d, hcd⟩ := List.append_of_mem q
              have hpo := pair_at F (i := x) (j := i) (l1 := (hist.map (·.i)).reverse) (l2 := c) (l3 := d) (by rw [I.ord, hr, hcd]; simp)
              obtain ⟨ox, hox, _⟩ := F.eff x (by rw [I.ord, hr]; simp)
              have hb := pair_bef hpo hox (by simp [ho] : ops.toList[i]? = some ops[i]) (.inl hxe)
              have := hpre x hb
              rw [hxp] at this
              cases this
          subst hxi
          rcases effect_step (restR := Region.linearise.go .any ops fuel (τ / rs.length) (listed.setIfInBounds i true) []) (k := k) EO SO CS RS F I hr hxe hpi hpre hops with ⟨m', t', ds', w', hist', mem', fr', h', a1, a2⟩ | hend
          · obtain ⟨hist2, rest2, mem2, fr2, h2', J1, J2, J3⟩ := advance F l (a2.congr hlist)
            obtain ⟨out, q1, q2⟩ := ih (τ / rs.length) (listed.setIfInBounds i true) (by simpa using hs) hu' hdown J1 J2
            rw [J3] at q2
            exact ⟨out, q1, q2.steps0' a1⟩
          · exact hend

theorem draw_sim (EO : EnvOK P e G) (SO : SumsOK P e G B) (CS : CallSim P e G B r.call) (RS : RoundSim P e G B r) : DrawSim P e G B r := by
  intro cx ops ri fr h Q hok hops hq b z cs k m t ds w τ s
  have F := draw_facts hok
  have I : DInv e G B r cx ops ri Q fr.tmps b z cs m h w (fun i => (Array.replicate ops.size false).getD i false) [] ri.ord [] m fr h t ds w := by
    refine ⟨by simp, hq, (fun x hx => by cases hx), ?_, (fun x hx => by cases hx), (fun d => rfl), ?_, (fun x hx => by cases hx), .nil, ?_, s.st0, Turn.refl _ _ _ _⟩
    · intro i hi
      simp only [Array.getD_eq_getD_getElem?, Array.getElem?_replicate] at hi
      split at hi <;> simp at hi
    · intro l1 x l2 hl
      cases l1 <;> cases hl
    · intro d v hd
      exact s.T d v hd
  obtain ⟨hist', rest', mem', fr', h', J1, J2, J3⟩ := advance F ri.ord I
  have hu : unlisted (Array.replicate ops.size false) ops.size = ops.size := by
    unfold unlisted
    rw [List.filter_eq_self.2]
    · simp
    · intro i hi
      have : i < ops.size := by simpa using hi
      simp [Array.getD_eq_getD_getElem?, this]
  obtain ⟨out, q1, q2⟩ := draw_walk (k := k) EO SO CS RS F hops ops.size τ _ (by simp) hu (by
    intro j o hj hp
    simp only [Array.getD_eq_getD_getElem?, Array.getElem?_replicate] at hp
    split at hp <;> simp at hp) J1 J2
  rw [J3] at q2
  exact ⟨out, q1, q2⟩
end
end Go.Ab
namespace Go.Ab
section
variable {P : Program} {e : Env} {G B : Nat}

theorem sim_all (EO : EnvOK P e G) (SO : SumsOK P e G B) : ∀ n, CallSim P e G B (recN e n).call ∧ CodeSim P e G B (recN e n).code
  | 0 => ⟨fun _ _ _ _ _ hq => hq.elim, fun _ _ _ _ _ _ hq => hq.elim⟩
  | n + 1 => by
    obtain ⟨CS, KS⟩ := sim_all EO SO n
    have RS := sim_round EO KS
    have K := sim_code EO SO CS KS (draw_sim EO SO CS RS)
    exact ⟨sim_enter EO CS K, K⟩

end
end Go.Ab
namespace Go.Ab

theorem T.bind_all {α β : Type} {Q : β → Prop} {f : α → T β} : ∀ {x : T α}, (x.all fun a => (f a).all Q) → (x.bind f).all Q
  | .ret _, h => h
  | .pick _ k, h => fun i hi => T.bind_all (x := k i) (h i hi)
  | .bad, h => h

def T.le {α : Type} (x y : T α) : Prop := ∀ Q, x.all Q → y.all Q
theorem T.le.refl {α : Type} (x : T α) : x.le x := fun _ h => h
theorem T.le.trans {α : Type} {x y z : T α} (a : x.le y) (b : y.le z) : x.le z := fun Q h => b Q (a Q h)
theorem T.le.bad {α : Type} (x : T α) : T.bad.le x := fun _ h => h.elim
theorem T.le.bind {α β : Type} {x y : T α} {f g : α → T β} (h : x.le y) (hf : ∀ a, (f a).le (g a)) : (x.bind f).le (y.bind g) := fun Q hq =>
  T.bind_all (T.all_mono (fun a ha => hf a Q ha) (h _ (T.all_bind hq)))
theorem T.le.pick {α : Type} {n : Nat} {f g : Nat → T α} (hf : ∀ i, (f i).le (g i)) : (T.pick n f).le (T.pick n g) := fun Q hq i hi => hf i Q (hq i hi)

structure Rec.le (r s : Rec) : Prop where
  code : ∀ cx c fr h, (r.code cx c fr h).le (s.code cx c fr h)
  call : ∀ f args h p, (r.call f args h p).le (s.call f args h p)

section
variable {e : Env} {r s : Rec} (L : r.le s)
include L

theorem roundA_le (l : Nat) (args : List AV) (h : H) : (roundA r l args h).le (roundA s l args h) := by
  unfold roundA
  split
  · split
    · exact .refl _
    · refine .bind (L.code _ _ _ _) fun o => ?_
      cases o with
      | nrm fr h1 =>
        dsimp only
        split
        · exact .bind (L.code _ _ _ _) fun o => by cases o <;> exact .refl _
        · exact .refl _
      | _ => exact .refl _
  · exact .refl _

theorem runOp_le (nt : Nat) (ops : List Oper) (o : Oper) (fr : Fr) (h : H) : (runOp e r nt ops o fr h).le (runOp e s nt ops o fr h) := by
  unfold runOp
  split
  · exact .refl _
  · exact .refl _
  · split
    · exact .refl _
    · exact .refl _
    · exact .bind (L.call _ _ _ _) fun _ => .refl _
    · exact .bind (roundA_le L _ _ _) fun _ => .refl _
    all_goals exact .refl _

theorem oneOp_le {cx : Cx} {pk : Bool} {ops : List Oper} {o : Oper} {fr : Fr} {h : H} {k k' : Fr → H → T Out} (hk : ∀ fr h, (k fr h).le (k' fr h)) : (oneOp e r cx pk ops o fr h k).le (oneOp e s cx pk ops o fr h k') := by
  unfold oneOp
  refine .bind (runOp_le L _ _ _ _ _) fun res => ?_
  cases res with
  | val v h1 =>
    simp only [putOp]
    split
    · exact hk _ _
    · exact .refl _
  | pan v h1 => exact .refl _
  | dfr d =>
    simp only [putOp]
    split
    · exact .refl _
    · split
      · exact hk _ _
      · exact .refl _
  | rcv =>
    simp only [putOp]
    split
    · exact .refl _
    · split
      · split
        · exact hk _ _
        · exact .refl _
      · split
        · exact hk _ _
        · exact .refl _

theorem opsA_le (cx : Cx) (ops : List Oper) : ∀ (l : List Oper) (fr : Fr) (h : H), (opsA e r cx ops l fr h).le (opsA e s cx ops l fr h)
  | [], _, _ => .refl _
  | _ :: l, _, _ => oneOp_le L fun fr h => opsA_le cx ops l fr h

theorem drawA_le (cx : Cx) (ops : List Oper) (ri : RI) : ∀ (l : List Nat) (m : List Fl) (fr : Fr) (h : H), (drawA e r cx ops ri l m fr h).le (drawA e s cx ops ri l m fr h)
  | [], _, _, _ => .refl _
  | i :: l, m, fr, h => by
    unfold drawA
    split
    · exact .refl _
    · rename_i o ho
      cases lmem i ri.eff with
      | true =>
        cases m.all (stillA e cx.nt ops h) with
        | true => exact oneOp_le L fun fr h => drawA_le cx ops ri l _ fr h
        | false => exact .refl _
      | false =>
        dsimp only [cond]
        split
        · exact .refl _
        · split
          · exact .refl _
          · exact drawA_le cx ops ri l _ _ _

theorem codeA_le (cx : Cx) : ∀ (c : Code) (fr : Fr) (h : H), (codeA e r cx c fr h).le (codeA e s cx c fr h)
  | .skip, _, _ => .refl _
  | .region id ops draw, fr, h => by
    unfold codeA
    cases draw with
    | true =>
      dsimp only [cond]
      split
      · split
        · exact drawA_le L _ _ _ _ _ _ _
        · exact .refl _
      · exact .refl _
    | false => exact opsA_le L _ _ _ _ _
  | .seq a b, fr, h => by
    unfold codeA
    refine .bind (codeA_le cx a fr h) fun o => ?_
    cases o with
    | nrm fr h => exact codeA_le cx b fr h
    | _ => exact .refl _
  | .cond c a b, fr, h => by
    unfold codeA
    split
    · exact codeA_le cx a fr h
    · exact codeA_le cx b fr h
    · exact .refl _
  | .block id c, fr, h => by
    unfold codeA
    refine .bind (codeA_le cx c fr h) fun o => ?_
    cases o <;> exact .refl _
  | .loop c, fr, h => by
    unfold codeA
    refine .bind (codeA_le cx c fr h) fun o => ?_
    cases o with
    | nrm fr h => exact L.code cx (.loop c) fr h
    | _ => exact .refl _
  | .rangeFunc f params assign body, fr, h => by
    unfold codeA
    cases cx.round with
    | true => exact .refl _
    | false =>
      dsimp only [cond]
      split
      · split
        · split
          · exact .bind (L.call _ _ _ _) fun _ => .refl _
          · exact .refl _
        · exact .refl _
      · exact .refl _
  | .exit id, _, _ => .refl _
  | .ret, _, _ => .refl _
  | .scope c, fr, h => by unfold codeA; exact .refl _
  | .label _, fr, h => by unfold codeA; exact .refl _
  | .goto _, fr, h => by unfold codeA; exact .refl _
  | .refuse _, fr, h => by unfold codeA; exact .refl _

theorem leaveA_le (fn : Func) (fr : Fr) : ∀ (ds : List ADef) (p : Option AV) (h : H), (leaveA e r fn fr ds p h).le (leaveA e s fn fr ds p h)
  | [], none, _ => .refl _
  | [], some _, _ => .refl _
  | .mark :: ds, p, h => by unfold leaveA; exact leaveA_le fn fr ds p h
  | .call f args :: ds, p, h => by
    unfold leaveA
    refine .bind (L.call _ _ _ _) fun o => ?_
    cases o with
    | ok v h rcd => exact leaveA_le fn fr ds _ h
    | pan v h => exact .refl _

theorem enterA_le (f : Nat) (args : List AV) (h : H) (p : Option AV) : (enterA e r f args h p).le (enterA e s f args h p) := by
  unfold enterA
  split
  · split
    · exact .refl _
    · split
      · refine .bind (codeA_le L _ _ _ _) fun o => ?_
        cases o with
        | ext id fr h => exact .refl _
        | _ => exact leaveA_le L _ _ _ _ _
      · exact .refl _
  · exact .refl _
end

theorem recN_succ_le (e : Env) : ∀ n, (recN e n).le (recN e (n + 1))
  | 0 => ⟨fun _ _ _ _ => .bad _, fun _ _ _ _ => .bad _⟩
  | n + 1 => ⟨fun cx c fr h => codeA_le (recN_succ_le e n) cx c fr h, fun f args h p => enterA_le (recN_succ_le e n) f args h p⟩

theorem Rec.le.refl (r : Rec) : r.le r := ⟨fun _ _ _ _ => .refl _, fun _ _ _ _ => .refl _⟩
theorem Rec.le.trans {r s t : Rec} (a : r.le s) (b : s.le t) : r.le t := ⟨fun _ _ _ _ => (a.code _ _ _ _).trans (b.code _ _ _ _), fun _ _ _ _ => (a.call _ _ _ _).trans (b.call _ _ _ _)⟩
theorem recN_le (e : Env) {n m : Nat} (h : n ≤ m) : (recN e n).le (recN e m) := by
  induction h with
  | refl => exact .refl _
  | step _ ih => exact ih.trans (recN_succ_le e _)
end Go.Ab
