/-
  STEPS OF AN ITERATION, ASSERTIONS, PANICS ON BOTH SIDES.
-/
import Derived.Laws.BytesString
import Derived.Test.YtamlmddkcghhlaaGreatDoorA1
set_option linter.unusedSimpArgs false
set_option linter.unusedVariables false
namespace Go.Ab
section
variable {G B : Nat} {C : CodeP} {P : Program} {e : Env} {m : Emb} {h h' : H} {w : World} {fr : Fr} {t : Array Value} {nt : Nat} {o : Oper} {v : AV}

theorem toU8s_rel : ∀ {cs : List AV} {xs : List Value} {s : List UInt8}, toU8s cs = some s → VRels m cs xs → ∃ ns : List Int, xs = ns.map (Value.int .u8) ∧ s = ns.map (fun n => UInt8.ofNat n.toNat)
  | [], _, s, h, .nil => by simp [toU8s] at h; subst h; exact ⟨[], rfl, rfl⟩
  | v :: cs, _, s, h, .cons _ x _ l' hv hl => by
    unfold toU8s at h
    split at h
    · rename_i b r hb hr
      injection h with h; subst h
      obtain ⟨ns, h1, h2⟩ := toU8s_rel hr hl
      unfold toU8 at hb
      split at hb
      · rename_i n
        injection hb with hb
        rw [hv.int_inv, h1, h2, ← hb]
        exact ⟨n :: ns, rfl, rfl⟩
      · cases hb
    · cases h

theorem foldl_push (ns : List Int) : ∀ b : ByteArray, (ns.foldl (fun r n => r.push (UInt8.ofNat n.toNat)) b).data.toList = b.data.toList ++ ns.map (fun n => UInt8.ofNat n.toNat) := by
  induction ns with
  | nil => intro b; simp
  | cons n ns ih =>
    intro b
    rw [List.foldl_cons, ih]
    obtain ⟨⟨l⟩⟩ := b
    simp [ByteArray.push]

theorem loadN_run (R : Rel G B C m h w.heap) {b off n : Nat} {i : BI} {vs : List AV} (hb : m b = some i) (hv : h.loadN b off n = some vs) :
    ∃ xs : List Value, VRels m vs xs ∧ xs.length = n ∧ (∀ v ∈ vs, oneCell v = true) ∧ (loadCells ⟨i.r, i.s + off, none⟩ n).run P w = .ok xs.toArray w := by
  obtain ⟨xs, r1, r2, _, r4, r3⟩ := R.loadN hb hv
  refine ⟨xs, r1, r2, r4, ?_⟩
  have := run_loadCells_list (P := P) w ⟨i.r, i.s + off, none⟩ xs (fun j x hx => by rw [add_plain]; exact r3 j x hx)
  rw [r2] at this
  exact this

theorem bytesToString_run (R : Rel G B C m h w.heap) {b off n c : Nat} {i : BI} {vs : List AV} {s : List UInt8} (hb : m b = some i) (hv : h.loadN b off n = some vs) (hs : toU8s vs = some s) :
    ∃ z : ByteArray, (Conv.bytesToString (.slice (some ⟨i.r, i.s + off, none⟩) n c)).run P w = .ok (.string z) w ∧ z.data.toList = s := by
  obtain ⟨xs, r1, r2, _, r3⟩ := loadN_run (P := P) R hb hv
  obtain ⟨ns, h1, h2⟩ := toU8s_rel hs r1
  subst h1
  refine ⟨_, run_bytesToString w _ n c ns r3, ?_⟩
  rw [foldl_push, h2]
  rfl

theorem u8s_rel (m : Emb) (s : ByteArray) : VRels m (s.data.toList.map ofU8) (s.data.map fun b => Value.int .u8 b.toNat).toList ∧ ∀ v ∈ s.data.toList.map ofU8, oneCell v = true := by
  constructor
  · rw [Array.toList_map]
    generalize s.data.toList = l
    induction l with
    | nil => exact .nil
    | cons b l ih => exact .cons _ _ _ _ (.int _ _) ih
  · intro v hv
    obtain ⟨b, _, rfl⟩ := List.mem_map.1 hv
    rfl

theorem freeze_push (w : World) (c : Array Value) (el : TypeId) (n : Nat) : (({ w with heap := w.heap.push (.cells c el) } : World).freeze ⟨w.heap.size, n, none⟩ 1) = { w with heap := w.heap.push (.cells c el (n, n + 1)) } := by
  simp only [World.freeze, Nat.succ_ne_zero, if_false]
  congr 1
  apply Array.ext
  · simp
  · intro i h1 h2
    simp only [Array.getElem_modify, Array.getElem_push]
    by_cases hi : i = w.heap.size
    · subst hi; simp
    · have h3 : ¬ w.heap.size = i := fun q => hi q.symm
      have h4 : i < w.heap.size := by simp at h1; omega
      simp [h3, h4]

theorem sim_convert (EO : TabOK P e) {st dt : TypeId} {x : Operand} (ho : o.op = .convert st dt x) (R : Rel G B C m h w.heap) (F : TRel m fr.tmps t) (hx : opdOk G x = true) (hv : opA e fr h nt o = .val v h') : Sim1 P G B C m h w t o v h' := by
  simp only [opA, ho] at hv
  split at hv
  · rename_i a ha
    have h1 := OR.of2_val hv
    have rx := eval_rel R F hx ha
    simp only [convA, Env.ti] at h1
    split at h1
    · rename_i si di hsi hdi
      have ks := kind_of (EO.tt _ _ hsi)
      have kd := kind_of (EO.tt _ _ hdi)
      split at h1
      · rename_i k1 k k2 n hk1 hk2
        injection h1 with h1
        injection h1 with h1 h2; subst h1; subst h2
        obtain ⟨us, hus⟩ := und_of (EO.tt _ _ hsi)
        refine Sim1.pure R (x := .int k (k.wrap n)) ?_ (.int _ _)
        simp [execOp, ho, convert, rx.int_inv, run_underlying' (mkKind_int (ks.trans hk1)), run_underlying' (mkKind_int (kd.trans hk2)), Conv.intToInt]
      · rename_i s hk1 hk2
        injection h1 with h1
        injection h1 with h1 h2; subst h1; subst h2
        have rx' := rx
        obtain ⟨b, hb, hbs⟩ := rx.str_inv
        refine Sim1.pure R (x := ev t x) ?_ rx'
        simp [execOp, ho, convert, hb, run_underlying' (mkKind_str (ks.trans hk1)), run_underlying' (mkKind_str (kd.trans hk2))]
      · rename_i el s hk1 hk2
        split at h1
        · rename_i ei hei
          split at h1
          · rename_i hku
            injection h1 with h1
            injection h1 with h1 h2; subst h1; subst h2
            obtain ⟨b, hb, hbs⟩ := rx.str_inv
            subst hbs
            have hue := mkKind_int ((kind_of (EO.tt _ _ hei)).trans hku)
            obtain ⟨cap, hc⟩ : ∃ c, (Question.appendCap b.size 0 el).cut (w.tape w.drawn (.appendCap b.size 0 el)) = c := ⟨_, rfl⟩
            have hcap : b.size ≤ cap := by rw [← hc]; simp only [Question.cut]; omega
            obtain ⟨elems, he⟩ : ∃ x, (b.data.map fun b => Value.int .u8 b.toNat) = x := ⟨_, rfl⟩
            obtain ⟨rest, hr⟩ : ∃ x, Array.replicate (cap - b.size) (Value.int .u8 0) = x := ⟨_, rfl⟩
            have R1 : Rel G B C m h ({ w with drawn := w.drawn + 1 } : World).heap := R
            have hsz : (elems ++ rest).size = cap := by
              have : b.data.size = b.size := rfl
              simp [← he, ← hr, this]; omega
            obtain ⟨u1, u2⟩ := u8s_rel m b
            rw [he] at u1
            have R' := row_new R1 (elem := el) (cs := elems) (rest := rest) (opn := true) (es := 1) (strish := true) (fz := (cap, cap + 1)) u1 u2 (fun q => by cases q) (.inr ⟨rfl, by rw [hsz]; exact Nat.le_refl _⟩)
            have T' := Turn.trans (w₁ := w) (w₂ := { w with drawn := w.drawn + 1 }) (m₂ := m) (h₂ := h) (B := B) (Turn.of_world rfl rfl rfl rfl)
              (row_new_turn (w := { w with drawn := w.drawn + 1 }) (w' := { w with heap := w.heap.push (.cells (elems ++ rest) el (cap, cap + 1)), drawn := w.drawn + 1 }) (elem := el) (cells := b.data.toList.map ofU8) (opn := true) (es := 1) (strish := true) (i := ⟨w.heap.size, 0, (elems ++ rest).size, if true = true then some ((List.map ofU8 b.data.toList).length, 1) else none⟩) R1 rfl rfl rfl rfl rfl)
            refine ⟨.slice (some ⟨w.heap.size, 0, none⟩) b.size cap, { w with heap := w.heap.push (.cells (elems ++ rest) el (cap, cap + 1)), drawn := w.drawn + 1 }, _, .inl ?_, ?_, R', T'⟩
            · have hf := freeze_push { w with drawn := w.drawn + 1 } (elems ++ rest) el cap
              have hm : (markStringish ⟨w.heap.size, 0, none⟩).run P { w with heap := w.heap.push (.cells (elems ++ rest) el), drawn := w.drawn + 1 } = .ok () { w with heap := w.heap.push (.cells (elems ++ rest) el (cap, cap + 1)), drawn := w.drawn + 1 } := by
                have hshape : World.shape? { w with heap := w.heap.push (.cells (elems ++ rest) el), drawn := w.drawn + 1 } w.heap.size = some (el, cap) := by
                  simp [World.shape?]; simpa using hsz
                simp only [markStringish, Sem.run_bind, run_shape, hshape, Result.andThen_ok, run_freeze]
                exact congrArg (Result.ok ()) hf
              simp only [execOp, ho, convert, hb, Sem.run_bind, run_underlying' (mkKind_str (ks.trans hk1)), run_underlying' (mkKind_slice (kd.trans hk2)), Result.andThen_ok, run_underlying' hue, Conv.stringToBytes, run_choose, Question.forced, Bool.false_eq_true, if_false, Go.newRow, run_newObj, Sem.run_pure, hc, he, hr, hm]
            · have := VRel.slice (m := upd m h.sz ⟨w.heap.size, 0, (elems ++ rest).size, some ((b.data.toList.map ofU8).length, 1)⟩) h.sz 0 b.data.toList.length b.data.toList.length cap _ (upd_self _ _ _)
                (.inr ⟨_, _, rfl, by simp, by simpa using hcap, by simp only [Nat.zero_add, Nat.mul_one, hsz]; exact Nat.le_refl _⟩)
              simpa using this
          · cases h1
        · cases h1
      · rename_i y el hk1 hk2
        split at h1
        · rename_i ei hei
          split at h1
          · rename_i hku
            injection h1 with h1
            injection h1 with h1 h2; subst h1; subst h2
            have hxs : ev t x = .slice none 0 0 := by
              generalize ev t x = y at rx
              cases rx
              rfl
            have hue := mkKind_int ((kind_of (EO.tt _ _ hei)).trans hku)
            refine Sim1.pure R (x := .string .empty) ?_ (.str _ _ rfl)
            simp [execOp, ho, hxs, run_convert_bytes_string w st dt el none 0 0 (mkKind_slice (ks.trans hk1)) hue (mkKind_str (kd.trans hk2)), Conv.bytesToString]
          · rename_i b off len cap hku
            split at h1
            · rename_i cs hcs
              cases hs : toU8s cs with
              | none => rw [hs] at h1; cases h1
              | some s =>
                rw [hs] at h1
                injection h1 with h1
                injection h1 with h1 h2; subst h1; subst h2
                have hue := mkKind_int ((kind_of (EO.tt _ _ hei)).trans hku)
                obtain ⟨i, hi, ⟨c', hxs, _⟩ | ⟨a, es, hl0, hc0, hxs, hop, hab⟩⟩ := rx.slice_inv
                · obtain ⟨z, hz, hzs⟩ := bytesToString_run (P := P) (c := c') R hi hcs hs
                  refine Sim1.pure R (x := .string z) ?_ (.str _ _ hzs)
                  simp [execOp, ho, hxs, run_convert_bytes_string w st dt el _ _ _ (mkKind_slice (ks.trans hk1)) hue (mkKind_str (kd.trans hk2)), hz]
                · subst hl0
                  have hcs0 : cs = [] := by
                    unfold H.loadN at hcs
                    split at hcs
                    · have := (lpart_length _ _ _ _ hcs).1
                      exact List.eq_nil_of_length_eq_zero this
                    · cases hcs
                  subst hcs0
                  simp [toU8s] at hs
                  subst hs
                  refine Sim1.pure R (x := .string .empty) ?_ (.str _ _ rfl)
                  simp [execOp, ho, hxs, run_convert_bytes_string w st dt el _ _ _ (mkKind_slice (ks.trans hk1)) hue (mkKind_str (kd.trans hk2)), Conv.bytesToString, loadCells, loadCellsFrom]
            · cases h1
          · cases h1
        · cases h1
      · rename_i q el b off len cap hk1 hk2
        split at h1
        · rename_i ei hei
          split at h1
          · rename_i hku
            split at h1
            · rename_i hsd
              split at h1
              · rename_i r hrow
                split at h1
                · rename_i hwr
                  injection h1 with h1
                  injection h1 with h1 h2; subst h1; subst h2
                  have hue := mkKind_int ((kind_of (EO.tt _ _ hei)).trans hku)
                  have hsd' : st = dt := Nat.eq_of_beq_eq_true hsd
                  subst hsd'
                  have hqel : q = el := by
                    have := mkKind_slice (ks.trans hk1)
                    rw [mkKind_slice (kd.trans hk2)] at this
                    cases this
                    rfl
                  subst hqel
                  have rx' := rx
                  obtain ⟨i, hi, hcase⟩ := rx.slice_inv
                  obtain ⟨ob, k1, k2⟩ := R.obj b i hi
                  unfold H.row? at hrow
                  rw [k1] at hrow
                  cases ob with
                  | row r' =>
                    injection hrow with hrow
                    subst hrow
                    obtain ⟨c, fz, e1, e2, e3, e4, e5, e5', e6, e7⟩ := k2
                    have hB : B ≤ i.r := by
                      rcases Nat.lt_or_ge i.r B with g | g
                      · obtain ⟨o', q1, q2⟩ := R.low b i hi g
                        rw [k1] at q1; cases q1
                        exact absurd q2.1 (by rw [hwr]; simp)
                      · exact g
                    have hlt := R.dom b i hi
                    obtain ⟨fz', hfz'⟩ : ∃ f, (if fz.1 == fz.2 then (c.size, c.size + 1) else (min fz.1 c.size, max fz.2 (c.size + 1))) = f := ⟨_, rfl⟩
                    have hW : (w.freeze ⟨i.r, c.size, none⟩ 1).heap[i.r]? = some (.cells c r'.elem fz') := by
                      simp only [World.freeze, Nat.succ_ne_zero, if_false, Array.getElem?_modify, e1, Option.map_some]
                      simp [← hfz']
                    have hoth : ∀ k, k ≠ i.r → (w.freeze ⟨i.r, c.size, none⟩ 1).heap[k]? = w.heap[k]? := fun k hk => by
                      simp [World.freeze, Array.getElem?_modify, Ne.symm hk]
                    have hsz : (w.freeze ⟨i.r, c.size, none⟩ 1).heap.size = w.heap.size := by simp [World.freeze]
                    have R' := R.put (o' := .row { r' with strish := true }) (hp' := (w.freeze ⟨i.r, c.size, none⟩ 1).heap) hi k1 rfl hB hsz hoth (by
                      rw [hW]
                      refine ⟨c, fz', rfl, e2, e3, e4, e5, e5', e6, fun _ => .inr ⟨rfl, ?_⟩⟩
                      rw [← hfz']
                      split
                      · exact Nat.le_refl _
                      · rename_i hne
                        rcases e7 hwr with q | ⟨_, q⟩
                        · exact absurd (by simpa using q) (by simpa using hne)
                        · simp; omega) (fun _ _ _ _ q => by cases q) (fun _ _ q => by cases q)
                    refine ⟨ev t x, w.freeze ⟨i.r, c.size, none⟩ 1, m, .inl ?_, rx', R', Turn.put hi hB hsz hoth rfl rfl rfl⟩
                    have hms : ∀ a : Addr, a.block = i.r → (markStringish a).run P w = .ok () (w.freeze ⟨i.r, c.size, none⟩ 1) := by
                      intro a ha
                      simp [markStringish, ha, World.shape?, e1]
                    have hxa : ∃ a l c', ev t x = .slice (some a) l c' ∧ a.block = i.r := by
                      rcases hcase with ⟨c', q, _⟩ | ⟨a, es, _, _, q, _, hab⟩
                      · exact ⟨_, _, _, q, rfl⟩
                      · exact ⟨_, _, _, q, hab⟩
                    obtain ⟨a, l, c', hxs, hab⟩ := hxa
                    simp [execOp, ho, hxs, convert, run_underlying' (mkKind_slice (ks.trans hk1)), run_underlying' hue, hms a hab]
                  | _ => cases hrow
                · cases h1
              · cases h1
            · cases h1
          · cases h1
        · cases h1
      · rename_i ty b off hk1 hk2
        split at h1
        · rename_i r pi hrow hpi
          split at h1
          · cases h1
          · rename_i hcond
            injection h1 with h1
            injection h1 with h1 h2; subst h1; subst h2
            have rx' := rx
            obtain ⟨i, hi, hxs⟩ := rx.ptr_inv
            obtain ⟨ob, k1, k2⟩ := R.obj b i hi
            unfold H.row? at hrow
            rw [k1] at hrow
            cases ob with
            | row r' =>
              injection hrow with hrow
              subst hrow
              obtain ⟨c, fz, e1, e2, e3, e4, e5, e5', e6, e7⟩ := k2
              simp only [Bool.or_eq_true, Nat.ble_eq, not_or] at hcond
              have hsz : ¬ pi.size = 0 := fun q => hcond.1 (by rw [q]; rfl)
              have hlt : i.s + off < c.size := by omega
              refine Sim1.pure R (x := ev t x) ?_ rx'
              have hs := run_sizeOf' (w := w) (EO.tt _ _ hpi)
              have hnle : ¬ c.size ≤ i.s + off := by omega
              simp [execOp, ho, hxs, convert, run_underlying' (mkKind_ptr (ks.trans hk1)), run_underlying' (mkKind_uptr (kd.trans hk2)), Conv.unsafePointer, Conv.seenAt, viewAt, World.shape?, e1, cellsIn, hs, hsz, hnle]
            | _ => cases hrow
        · cases h1
      · rename_i ty b off hk1 hk2
        split at h1
        · rename_i r pi hrow hpi
          split at h1
          · rename_i hcond
            injection h1 with h1
            injection h1 with h1 h2; subst h1; subst h2
            have rx' := rx
            obtain ⟨i, hi, hxs⟩ := rx.ptr_inv
            obtain ⟨ob, k1, k2⟩ := R.obj b i hi
            unfold H.row? at hrow
            rw [k1] at hrow
            cases ob with
            | row r' =>
              injection hrow with hrow
              subst hrow
              obtain ⟨c, fz, e1, e2, e3, e4, e5, e5', e6, e7⟩ := k2
              simp only [Bool.and_eq_true, Bool.not_eq_true'] at hcond
              obtain ⟨⟨⟨⟨q1, q2⟩, q3⟩, q4⟩, q5⟩ := hcond
              have q1' : r'.elem = ty := Nat.eq_of_beq_eq_true q1
              have q2' : off = 0 := Nat.eq_of_beq_eq_true q2
              have q3' : r'.n = pi.size := Nat.eq_of_beq_eq_true q3
              have q4' : ¬ pi.size = 0 := fun q => by rw [q] at q4; cases q4
              obtain ⟨s0, s1⟩ := e5' q5
              subst q2'
              refine Sim1.pure R (x := ev t x) ?_ rx'
              have hm := EO.tt _ _ hpi
              have hs := run_sizeOf' (w := w) hm
              have hcell : P.cellsOf ty = pi.size := by
                obtain ⟨inf, u, hinf, _, hsz, _⟩ := mkTI_info hm
                simp [Program.cellsOf, hinf, hsz]
              have hdep : ∃ d, P.depth = d + 2 := ⟨_, rfl⟩
              obtain ⟨d, hd⟩ := hdep
              have hlies : liesAt P (d + 2) ty (c.size / P.cellsOf ty) 0 ty 1 = true := by
                have : c.size / P.cellsOf ty = 1 := by rw [hcell, e2, s1, q3']; exact Nat.div_self (by omega)
                rw [this]
                unfold liesAt
                rw [Bool.or_eq_true]
                refine .inl ?_
                rw [hd]
                unfold rowAt
                simp [hcell, q4', sameLayout]
              have hvar : (variablesAt ⟨i.r, i.s + 0, none⟩ ty 1).run P w = .ok true w := by
                simp [variablesAt, World.shape?, e1, q1', s0]
                rw [hd]
                exact hlies
              simp [execOp, ho, hxs, convert, run_underlying' (mkKind_ptr (kd.trans hk2)), run_underlying' (mkKind_uptr (ks.trans hk1)), Conv.unsafePointer, Conv.seenAt, viewAt, World.shape?, e1, hs, q4', show (variablesAt ⟨i.r, i.s, none⟩ ty 1).run P w = .ok true w from hvar]
            | _ => cases hrow
          · cases h1
        · cases h1
      · cases h1
    · cases h1
  · cases hv
end
end Go.Ab
namespace Go.Ab
section
variable {G B : Nat} {C : CodeP} {P : Program} {e : Env} {m : Emb} {h h' : H} {w : World} {fr : Fr} {t : Array Value} {nt : Nat} {o : Oper} {v : AV}

/-- Two keys held against each other, as the model has them. -/
def vEq : Value → Value → Bool
  | .int _ a, .int _ b => a == b
  | .string a, .string b => a == b
  | .bool a, .bool b => a == b
  | .pointer a, .pointer b => a == b
  | _, _ => false

theorem bytes_beq (a b : ByteArray) : (a == b) = (a.data.toList == b.data.toList) := by rw [beq_toListBytes, ByteArray.toList_eq, ByteArray.toList_eq]

theorem keyEq_rel (R : Rel G B C m h w.heap) {k k' : AV} {x x' : Value} (r : VRel m k x) (r' : VRel m k' x') {b : Bool} (hk : keyEq h k k' = some b) : vEq x x' = b ∧ (b = true ↔ k = k') := by
  unfold keyEq at hk
  split at hk
  · split at hk
    · rename_i hjk
      subst hjk
      cases r; cases r'
      injection hk with hk
      subst hk
      simp [vEq]
    · cases hk
  · obtain ⟨u, rfl, hu⟩ := r.str_inv
    obtain ⟨u', rfl, hu'⟩ := r'.str_inv
    injection hk with hk
    subst hk
    simp [vEq, bytes_beq, hu, hu']
  · cases r; cases r'
    injection hk with hk
    subst hk
    simp [vEq]
  · cases r; cases r'
    injection hk with hk
    subst hk
    simp [vEq]
  · cases r; cases r'
    injection hk with hk
    subst hk
    simp [vEq]
  · cases r; cases r'
    injection hk with hk
    subst hk
    simp [vEq]
  · rename_i a oa b' ob
    split at hk
    · rename_i hp
      simp only [Bool.and_eq_true] at hp
      injection hk with hk
      subst hk
      obtain ⟨i, hi, rfl⟩ := r.ptr_inv
      obtain ⟨i', hi', rfl⟩ := r'.ptr_inv
      obtain ⟨ob1, k1, k2, _⟩ := plainAt_inv R hi hp.1
      obtain ⟨ob2, l1, l2, _⟩ := plainAt_inv R hi' hp.2
      refine ⟨?_, by simp⟩
      by_cases hbb : a = b'
      · subst hbb
        rw [hi] at hi'; cases hi'
        by_cases hoo : oa = ob
        · subst hoo; simp [vEq]
        · have h2 : Nat.beq oa ob = false := by rw [Bool.eq_false_iff]; intro q; exact hoo (Nat.eq_of_beq_eq_true q)
          simp [vEq, h2, hoo]
      · have hr : i.r ≠ i'.r := R.inj a b' i i' ob1 ob2 hi hi' k1 l1 k2 l2 hbb
        have h2 : Nat.beq a b' = false := by rw [Bool.eq_false_iff]; intro q; exact hbb (Nat.eq_of_beq_eq_true q)
        simp [vEq, h2, hr]
    · cases hk
  · cases hk

/-- The first entry that fits, and its place. -/
def ffind (f : MapEntry → Bool) : List MapEntry → Nat → Option (Nat × Value)
  | [], _ => none
  | e :: l, i => bif f e then some (i, e.val) else ffind f l (i + 1)

theorem findAsking_run {kt : TypeId} {x : Value} {f : MapEntry → Bool} : ∀ (l : List MapEntry) (i : Nat), (∀ e ∈ l, (Op.equal kt x e.key).run P w = .ok (f e) w) → (Instr.findAsking kt x l i).run P w = .ok (ffind f l i) w
  | [], i, _ => by simp [Instr.findAsking, ffind]
  | e :: l, i, hf => by
    have he := hf e (by simp)
    have hl := findAsking_run l (i + 1) (fun e' he' => hf e' (List.mem_cons_of_mem _ he'))
    simp only [Instr.findAsking, Sem.run_bind, he, Result.andThen_ok, ffind]
    cases f e
    · simpa using hl
    · simp

theorem findNow_some {d : TypeDesc} {x : Value} {f : MapEntry → Bool} : ∀ (l : List MapEntry) (i : Nat), (∀ e ∈ l, Instr.sameNow d x e.key = some (f e)) → Instr.findNow d x l i = some (ffind f l i)
  | [], i, _ => rfl
  | e :: l, i, hf => by
    have he := hf e (by simp)
    have hl := findNow_some l (i + 1) (fun e' he' => hf e' (List.mem_cons_of_mem _ he'))
    simp only [Instr.findNow, he, ffind]
    cases f e
    · simpa using hl
    · simp

/-- A key that fits its type, among entries that can be held against it. -/
theorem findKey_run (EO : TabOK P e) (R : Rel G B C m h w.heap) {kt : TypeId} {ki : TI} (hki : e.tt.get kt = some ki) {k : AV} (hkk : keyKind e ki.kind k = true) {x : Value} (r : VRel m k x) {es : List (AV × AV)} {l' l : List MapEntry} (hl : All2 (ERel m) es l') (hp : l'.Perm l)
    (hok : keysOk h k es = true) : (Instr.findKey kt x l).run P w = .ok (ffind (fun q => vEq x q.key) l 0) w := by
  have hkd := kind_of (EO.tt _ _ hki)
  have hall : ∀ q ∈ l, ∃ k', VRel m k' q.key ∧ ∃ b, keyEq h k k' = some b := by
    intro q hq
    have hq' := hp.mem_iff.2 hq
    clear hp hq
    induction hl with
    | nil => cases hq'
    | cons a b0 es0 l0 hr _ ih =>
      simp only [keysOk, Bool.and_eq_true] at hok
      rcases List.mem_cons.1 hq' with rfl | hq'
      · refine ⟨a.1, hr.1, ?_⟩
        cases hke : keyEq h k a.1 with
        | none =>
          have := hok.1
          obtain ⟨a1, a2⟩ := a
          dsimp only at hke
          rw [hke] at this
          cases this
        | some b => exact ⟨b, rfl⟩
      · exact ih hok.2 hq'
  unfold Instr.findKey
  cases hk : ki.kind with
  | int kk =>
    have hu := mkKind_int (hkd.trans hk)
    rw [hk] at hkk
    cases k with
    | int j n =>
      have hx := r.int_inv
      subst hx
      have : Instr.findNow (.int kk) (.int j n) l 0 = some (ffind (fun q => vEq (.int j n) q.key) l 0) := findNow_some l 0 fun q hq => by
        obtain ⟨k', rk, b, hb⟩ := hall q hq
        cases k' with
        | int j' n' =>
          rw [rk.int_inv]
          simp only [keyEq] at hb
          split at hb
          · rename_i hjj
            simp [Instr.sameNow, hjj, vEq]
          · cases hb
        | _ => simp [keyEq] at hb
      simp [run_underlying' hu, this]
    | _ => simp [keyKind] at hkk
  | str =>
    have hu := mkKind_str (hkd.trans hk)
    rw [hk] at hkk
    cases k with
    | str s =>
      obtain ⟨u, hx, hus⟩ := r.str_inv
      subst hx
      have : Instr.findNow .string (.string u) l 0 = some (ffind (fun q => vEq (.string u) q.key) l 0) := findNow_some l 0 fun q hq => by
        obtain ⟨k', rk, b, hb⟩ := hall q hq
        cases k' with
        | str s' =>
          obtain ⟨u', hx', _⟩ := rk.str_inv
          rw [hx']
          simp [Instr.sameNow, vEq]
        | _ => simp [keyEq] at hb
      simp [run_underlying' hu, this]
    | _ => simp [keyKind] at hkk
  | bool =>
    have hu := mkKind_bool (hkd.trans hk)
    rw [hk] at hkk
    cases k with
    | bool s =>
      cases r
      have : Instr.findNow .bool (.bool s) l 0 = some (ffind (fun q => vEq (.bool s) q.key) l 0) := findNow_some l 0 fun q hq => by
        obtain ⟨k', rk, b, hb⟩ := hall q hq
        cases k' with
        | bool s' =>
          generalize q.key = y at rk
          cases rk
          simp [Instr.sameNow, vEq]
        | _ => simp [keyEq] at hb
      simp [run_underlying' hu, this]
    | _ => simp [keyKind] at hkk
  | ptr el =>
    have hu := mkKind_ptr (hkd.trans hk)
    rw [hk] at hkk
    have hask : (Instr.findAsking kt x l).run P w = .ok (ffind (fun q => vEq x q.key) l 0) w := findAsking_run l 0 fun q hq => by
      obtain ⟨k', rk, b, hb⟩ := hall q hq
      obtain ⟨hv, _⟩ := keyEq_rel R r rk hb
      rw [hv]
      refine equalA_run EO R 1 10000 (by omega) kt k k' x q.key b ?_ r rk
      have hsz : ∃ ei, e.tt.get el = some ei ∧ ¬ ei.size = 0 := by
        have : sized e el = true := by cases k <;> simp [keyKind] at hkk <;> exact hkk
        unfold sized at this
        split at this
        · rename_i i hi
          exact ⟨i, hi, fun q => by rw [q] at this; cases this⟩
        · cases this
      obtain ⟨ei, hei, hes⟩ := hsz
      unfold equalA
      simp only [Env.ti, hki]
      clear hall hl hp hok hv
      cases k with
      | nilptr =>
        cases k' with
        | nilptr => simp only [keyEq] at hb; simp only [hk]; exact hb
        | ptr _ _ => simp only [keyEq] at hb; simp only [hk]; exact hb
        | _ => simp only [keyEq] at hb; cases hb
      | ptr a oa =>
        cases k' with
        | nilptr => simp only [keyEq] at hb; simp only [hk]; exact hb
        | ptr b' ob =>
          simp only [keyEq] at hb
          split at hb
          · rename_i hpl
            simp only [hk, hei, if_neg hes, hpl, if_true]
            exact hb
          · cases hb
        | _ => simp only [keyEq] at hb; cases hb
      | _ => simp only [keyKind] at hkk; cases hkk
    cases l with
    | nil => simp [run_underlying' hu, Instr.findNow, ffind]
    | cons q l =>
      have : Instr.findNow (.pointer el) x (q :: l) 0 = none := by
        simp only [Instr.findNow]
        cases x <;> simp [Instr.sameNow]
      simp only [Sem.run_bind, run_underlying' hu, Result.andThen_ok, this]
      exact hask
  | _ => rw [hk] at hkk; cases k <;> simp [keyKind] at hkk
end
end Go.Ab
namespace Go.Ab
section lists
variable {f : MapEntry → Bool}
def uniq (f : MapEntry → Bool) (l : List MapEntry) : Prop := (l.filter f).length ≤ 1
theorem uniq.perm {l k : List MapEntry} (h : uniq f l) (p : l.Perm k) : uniq f k := by
  unfold uniq at *
  rw [← (p.filter f).length_eq]
  exact h
theorem uniq.tail {a : MapEntry} {l : List MapEntry} (h : uniq f (a :: l)) : uniq f l := by
  unfold uniq at *
  rw [List.filter_cons] at h
  split at h
  · rw [List.length_cons] at h; omega
  · exact h
theorem uniq.rest {a : MapEntry} {l : List MapEntry} (h : uniq f (a :: l)) (ha : f a = true) : ∀ b ∈ l, f b = false := by
  unfold uniq at h
  rw [List.filter_cons, if_pos ha] at h
  intro b hb
  cases hf : f b with
  | false => rfl
  | true =>
    have : b ∈ l.filter f := List.mem_filter.2 ⟨hb, hf⟩
    have h0 : l.filter f = [] := List.eq_nil_of_length_eq_zero (by simp at h; simp; exact h)
    rw [h0] at this
    cases this
theorem ffind_none : ∀ (l : List MapEntry) (i : Nat), (∀ b ∈ l, f b = false) → ffind f l i = none
  | [], _, _ => rfl
  | a :: l, i, h => by
    unfold ffind
    rw [h a (by simp)]
    exact ffind_none l (i + 1) fun b hb => h b (List.mem_cons_of_mem _ hb)
theorem ffind_some : ∀ (l : List MapEntry) (i : Nat), uniq f l → ∀ b ∈ l, f b = true → ∃ j, ffind f l i = some (j, b.val) ∧ i ≤ j ∧ l[j - i]? = some b ∧
    (∀ g : MapEntry → MapEntry, l.modify (j - i) g = l.map fun e => bif f e then g e else e) ∧ l.eraseIdx (j - i) = l.filter fun e => !f e
  | [], _, _, b, hb, _ => by cases hb
  | a :: l, i, hu, b, hb, hf => by
    cases ha : f a with
    | true =>
      have hrest := hu.rest ha
      have hba : b = a := by
        rcases List.mem_cons.1 hb with q | q
        · exact q
        · rw [hrest b q] at hf; cases hf
      subst hba
      refine ⟨i, by simp [ffind, ha], Nat.le_refl _, by simp, fun g => ?_, ?_⟩
      · simp only [Nat.sub_self, List.map_cons, ha, cond_true]
        show g b :: l = _
        congr 1
        have : ∀ k : List MapEntry, (∀ x ∈ k, f x = false) → k = k.map fun e => bif f e then g e else e := by
          intro k
          induction k with
          | nil => intro _; rfl
          | cons x k ih => intro hk; simp [hk x (by simp)]; rw [← ih fun y hy => hk y (List.mem_cons_of_mem _ hy)]
        exact this l hrest
      · simp only [Nat.sub_self, List.eraseIdx_cons_zero, List.filter_cons, ha, Bool.not_true, Bool.false_eq_true, if_false]
        symm
        rw [List.filter_eq_self]
        intro x hx
        simp [hrest x hx]
    | false =>
      have hbl : b ∈ l := by
        rcases List.mem_cons.1 hb with q | q
        · subst q; rw [ha] at hf; cases hf
        · exact q
      obtain ⟨j, h1, h2, h3, h4, h5⟩ := ffind_some l (i + 1) hu.tail b hbl hf
      have hj : j - i = (j - (i + 1)) + 1 := by omega
      refine ⟨j, by simp [ffind, ha, h1], by omega, by rw [hj]; simpa using h3, fun g => ?_, ?_⟩
      · rw [hj, List.modify_succ_cons, h4 g]
        simp [ha]
      · rw [hj, List.eraseIdx_cons_succ, h5, List.filter_cons]
        simp [ha]
end lists

section
variable {G B : Nat} {C : CodeP} {P : Program} {e : Env} {m : Emb} {h h' : H} {w : World} {fr : Fr} {t : Array Value} {nt : Nat} {o : Oper} {v : AV}

/-- Entries beside each other, with what holding them against a key says. -/
theorem keyed (R : Rel G B C m h w.heap) {k : AV} {x : Value} (r : VRel m k x) : ∀ {es : List (AV × AV)} {l : List MapEntry}, All2 (ERel m) es l → keysOk h k es = true →
    All2 (fun a b => ERel m a b ∧ isKey h k a = vEq x b.key ∧ (isKey h k a = true ↔ k = a.1)) es l
  | _, _, .nil, _ => .nil
  | _, _, .cons a b es l hr hl, hok => by
    simp only [keysOk, Bool.and_eq_true] at hok
    refine .cons _ _ _ _ ⟨hr, ?_⟩ (keyed R r hl hok.2)
    obtain ⟨a1, a2⟩ := a
    unfold isKey
    dsimp only at *
    cases hke : keyEq h k a1 with
    | none => rw [hke] at hok; exact absurd hok.1 (by simp)
    | some bb =>
      obtain ⟨q1, q2⟩ := keyEq_rel R r hr.1 hke
      exact ⟨q1.symm, q2⟩

abbrev KRel (m : Emb) (h : H) (k : AV) (x : Value) (a : AV × AV) (b : MapEntry) : Prop := ERel m a b ∧ isKey h k a = vEq x b.key ∧ (isKey h k a = true ↔ k = a.1)

theorem keyed_uniq {k : AV} {x : Value} : ∀ {es : List (AV × AV)} {l : List MapEntry}, All2 (KRel m h k x) es l → (es.map (·.1)).Nodup → uniq (fun q => vEq x q.key) l
  | _, _, .nil, _ => by simp [uniq]
  | _, _, .cons a b es l hr hl, hn => by
    rw [List.map_cons, List.nodup_cons] at hn
    have ih := keyed_uniq hl hn.2
    unfold uniq at *
    rw [List.filter_cons]
    split
    · rename_i hb
      have hka : k = a.1 := hr.2.2.1 (by rw [hr.2.1]; exact hb)
      have : ∀ {es : List (AV × AV)} {l : List MapEntry}, All2 (KRel m h k x) es l → ¬ a.1 ∈ es.map (·.1) → l.filter (fun q => vEq x q.key) = [] := by
        intro es l hl
        induction hl with
        | nil => intro _; rfl
        | cons a' b' es' l' hr' _ ih' =>
          intro hnm
          rw [List.map_cons, List.mem_cons, not_or] at hnm
          have hf : vEq x b'.key = false := by
            rw [← hr'.2.1, Bool.eq_false_iff]
            intro q
            exact hnm.1 (hka ▸ hr'.2.2.1 q)
          rw [List.filter_cons, if_neg (by simp [hf])]
          exact ih' hnm.2
      rw [this hl hn.1]
      simp
    · exact ih

theorem find_some {k : AV} {x : Value} : ∀ {es : List (AV × AV)} {l : List MapEntry}, All2 (KRel m h k x) es l → ∀ {v : AV}, findIn h k es = some v → ∃ b ∈ l, vEq x b.key = true ∧ VRel m v b.val
  | _, _, .nil, v, hv => by simp [findIn] at hv
  | _, _, .cons a b es l hr hl, v, hv => by
    unfold findIn at hv
    cases hk : isKey h k a with
    | true =>
      rw [hk] at hv
      injection hv with hv; subst hv
      exact ⟨b, by simp, by rw [← hr.2.1]; exact hk, hr.1.2⟩
    | false =>
      rw [hk] at hv
      obtain ⟨b', h1, h2⟩ := find_some hl hv
      exact ⟨b', List.mem_cons_of_mem _ h1, h2⟩
theorem find_none {k : AV} {x : Value} : ∀ {es : List (AV × AV)} {l : List MapEntry}, All2 (KRel m h k x) es l → findIn h k es = none → ∀ b ∈ l, vEq x b.key = false
  | _, _, .nil, _, b, hb => by cases hb
  | _, _, .cons a b es l hr hl, hv, b', hb' => by
    unfold findIn at hv
    cases hk : isKey h k a with
    | true => rw [hk] at hv; cases hv
    | false =>
      rw [hk] at hv
      rcases List.mem_cons.1 hb' with rfl | q
      · rw [← hr.2.1]; exact hk
      · exact find_none hl hv b' q

/-- A map's entries, both ways. -/
theorem map_obj (R : Rel G B C m h w.heap) {r : Nat} {i : BI} {es : List (AV × AV)} {ver : Nat} (hi : m r = some i) (hg : h.get r = some (.map es ver)) :
    ∃ es' clock l', i.s = 0 ∧ w.heap[i.r]? = some (.map es' clock) ∧ l'.Perm es'.toList ∧ All2 (ERel m) es l' ∧ (es'.toList.map (·.born)).Nodup ∧ (∀ e ∈ es'.toList, e.born < clock) ∧ (es.map (·.1)).Nodup := by
  obtain ⟨o, h1, h2⟩ := R.obj r i hi
  rw [hg] at h1
  cases h1
  exact h2

theorem run_getObj {r : Nat} {ob : Obj} (hw : w.heap[r]? = some ob) (hc : ∀ c t f, ob ≠ .cells c t f) : (getObj r).run P w = .ok ob w := by
  simp only [getObj, Sem.run, hw]

theorem checkKey_run (EO : TabOK P e) {kt : TypeId} {ki : TI} (hki : e.tt.get kt = some ki) {k : AV} {x : Value} (r : VRel m k x) (hkk : keyKind e ki.kind k = true) (emp : Bool) (n : Nat) : (Instr.checkKey emp (n + 1) kt x).run P w = .ok () w := by
  have hkd := kind_of (EO.tt _ _ hki)
  unfold Instr.checkKey
  cases hk : ki.kind with
  | int kk => simp [run_underlying' (mkKind_int (hkd.trans hk))]
  | str => simp [run_underlying' (mkKind_str (hkd.trans hk))]
  | bool => simp [run_underlying' (mkKind_bool (hkd.trans hk))]
  | ptr el => simp [run_underlying' (mkKind_ptr (hkd.trans hk))]
  | _ => rw [hk] at hkk; cases k <;> cases hkk

theorem zeroOf_run (EO : TabOK P e) {ty : TypeId} {ti : TI} (hti : e.tt.get ty = some ti) {z : AV} (hz : zeroOf ti = some z) : ∃ zv, (zeroValue ty).run P w = .ok zv w ∧ VRel m z zv := by
  unfold zeroOf at hz
  split at hz
  · rename_i zl hzl
    obtain ⟨i, zv, hi, hzv, _, _, r1, r2, hlen, hagg⟩ := mkTI_zero (m := m) (EO.tt _ _ hti) hzl
    refine ⟨zv, run_zeroValue' hi hzv w, ?_⟩
    cases hta : ti.agg with
    | true =>
      rw [hta] at hz hagg
      simp only [if_true] at hz
      injection hz with hz
      subst hz
      cases zv with
      | agg c => exact .agg _ _ r1
      | _ => cases hagg
    | false =>
      rw [hta] at hz hagg
      simp only [Bool.false_eq_true, if_false] at hz
      split at hz
      · rename_i a
        injection hz with hz
        subst hz
        cases zv with
        | agg c => cases hagg
        | _ =>
          cases r1 with
          | cons _ _ _ _ q _ => exact q
      · cases hz
  · cases hz

theorem VRel.map_inv {r : Nat} {x : Value} (q : VRel m (.map r) x) : ∃ i, m r = some i ∧ x = .map (some i.r) := by
  cases q with
  | map _ i hi => exact ⟨i, hi, rfl⟩

theorem sim_lookup (EO : TabOK P e) {ty : TypeId} {x ix : Operand} {ok : Bool} (ho : o.op = .lookup ty x ix ok) (R : Rel G B C m h w.heap) (F : TRel m fr.tmps t) (hx : opdOk G x = true) (hix : opdOk G ix = true) (hv : opA e fr h nt o = .val v h') : Sim1 P G B C m h w t o v h' := by
  simp only [opA, ho, Env.ti] at hv
  split at hv
  · rename_i ti mv k hti hma hka
    have rm := eval_rel R F hx hma
    have rk := eval_rel R F hix hka
    split at hv
    · rename_i kt et hk
      split at hv
      · rename_i ki ei hki hei
        split at hv
        · rename_i hkk
          have hu := mkKind_map ((kind_of (EO.tt _ _ hti)).trans hk)
          have hck := fun emp => checkKey_run (w := w) EO hki rk hkk emp 9999
          split at hv
          · cases hv
          · rename_i es hes
            have hsrc : (ev t x = .map none ∧ es = []) ∨ (∃ r' es' clock, ev t x = .map (some r') ∧ (getObj r').run P w = .ok (.map es' clock) w ∧ ∃ l', l'.Perm es'.toList ∧ All2 (ERel m) es l' ∧ (es.map (·.1)).Nodup) := by
              split at hes
              · injection hes with hes; subst hes
                exact .inl ⟨by generalize ev t x = y at rm; cases rm; rfl, rfl⟩
              · split at hes
                · rename_i r es0 ver hg
                  injection hes with hes; subst hes
                  obtain ⟨i, hi, hxv⟩ := rm.map_inv
                  obtain ⟨es', clock, l', q0, q1, q2, q3, q4, q5, q6⟩ := map_obj R hi hg
                  exact .inr ⟨i.r, es', clock, hxv, run_getObj (P := P) q1 (by intro _ _ _ q; cases q), l', q2, q3, q6⟩
                · cases hes
              · cases hes
            have hnow0 : (Instr.findKey kt (ev t ix) []).run P w = .ok none w := by
              obtain ⟨u, huk⟩ := und_of (EO.tt _ _ hki)
              simp [Instr.findKey, run_underlying' huk, Instr.findNow]
            unfold findA at hv
            split at hv
            · cases hv
            · rename_i fv hf
              split at hf
              · rename_i hok
                injection hf with hf
                injection hv with e1 e2; subst e1; subst e2
                rcases hsrc with ⟨_, rfl⟩ | ⟨r', es', clock, hxv, hgo, l', hs2, hs3, hs4⟩
                · simp [findIn] at hf
                · have hfk := findKey_run (w := w) EO R hki hkk rk hs3 hs2 hok
                  have hkey := keyed R rk hs3 hok
                  have huq := (keyed_uniq hkey hs4).perm hs2
                  obtain ⟨b, hb1, hb2, hb3⟩ := find_some hkey hf
                  obtain ⟨j, hj, _⟩ := ffind_some es'.toList 0 huq b (hs2.mem_iff.1 hb1) hb2
                  rw [hj] at hfk
                  cases ok with
                  | true =>
                    refine Sim1.pure R (x := .tuple #[b.val, .bool true]) ?_ (.tup _ _ (.cons _ _ _ _ hb3 (.cons _ _ _ _ (.bool _) .nil)))
                    simp [execOp, ho, hxv, Instr.lookup, run_underlying' hu, hgo, hck, hfk]
                  | false =>
                    refine Sim1.pure R (x := b.val) ?_ hb3
                    simp [execOp, ho, hxv, Instr.lookup, run_underlying' hu, hgo, hck, hfk]
              · cases hf
            · rename_i hf
              split at hf
              · rename_i hok
                injection hf with hf
                split at hv
                · rename_i z hz
                  injection hv with e1 e2; subst e1; subst e2
                  obtain ⟨zv, hzv, rz⟩ := zeroOf_run (m := m) (w := w) EO hei hz
                  have hrun : (Instr.lookup ty (ev t x) (ev t ix) ok).run P w = .ok (if ok then .tuple #[zv, .bool false] else zv) w := by
                    rcases hsrc with ⟨hxv, rfl⟩ | ⟨r', es', clock, hxv, hgo, l', hs2, hs3, hs4⟩
                    · simp [hxv, Instr.lookup, run_underlying' hu, hck, hnow0, hzv]
                    · have hfk := findKey_run (w := w) EO R hki hkk rk hs3 hs2 hok
                      have hkey := keyed R rk hs3 hok
                      have hnone := find_none hkey hf
                      rw [ffind_none es'.toList 0 fun b hb => hnone b (hs2.mem_iff.2 hb)] at hfk
                      simp [hxv, Instr.lookup, run_underlying' hu, hgo, hck, hfk, hzv]
                  cases ok with
                  | true =>
                    exact Sim1.pure R (x := .tuple #[zv, .bool false]) (by simp [execOp, ho, hrun]) (.tup _ _ (.cons _ _ _ _ rz (.cons _ _ _ _ (.bool _) .nil)))
                  | false => exact Sim1.pure R (x := zv) (by simp [execOp, ho, hrun]) rz
                · cases hv
              · cases hf
        · cases hv
      · cases hv
    · cases hv
  · cases hv
end
end Go.Ab
namespace Go.Ab
section
variable {G B : Nat} {C : CodeP} {P : Program} {e : Env} {m : Emb} {h h' : H} {w : World} {fr : Fr} {t : Array Value} {nt : Nat} {o : Oper} {v : AV}

theorem Rel.above {hp : Array Obj} (R : Rel G B C m h hp) {b : Nat} {i : BI} {o : AO} (hi : m b = some i) (hg : h.get b = some o) (hn : ¬ o.ro) : B ≤ i.r := by
  rcases Nat.lt_or_ge i.r B with g | g
  · obtain ⟨o', q1, q2⟩ := R.low b i hi g
    rw [hg] at q1; cases q1
    exact absurd q2 hn
  · exact g

theorem run_setObj {r : Nat} {ob ob' : Obj} (hw : w.heap[r]? = some ob) (hc : ∀ c t f, ob ≠ .cells c t f) : (setObj r ob').run P w = .ok () { w with heap := w.heap.setIfInBounds r ob' } := by
  simp only [setObj, Sem.run, hw]

theorem key_same {k : AV} {x y : Value} {ki : TK} (hkk : keyKind e ki k = true) (r : VRel m k x) (r' : VRel m k y) : x = y ∧ Instr.sameBits 10000 x y = true := by
  cases k with
  | int j n => rw [r.int_inv, r'.int_inv]; exact ⟨rfl, by simp [Instr.sameBits]⟩
  | str s =>
    obtain ⟨u, rfl, hu⟩ := r.str_inv
    obtain ⟨u', rfl, hu'⟩ := r'.str_inv
    have : u = u' := by
      obtain ⟨⟨a⟩⟩ := u
      obtain ⟨⟨b⟩⟩ := u'
      simp at hu hu'
      rw [hu, hu']
    subst this
    exact ⟨rfl, by simp [Instr.sameBits, bytes_beq]⟩
  | bool b => cases r; cases r'; exact ⟨rfl, by simp [Instr.sameBits]⟩
  | nilptr => cases r; cases r'; exact ⟨rfl, by simp [Instr.sameBits]⟩
  | ptr b off =>
    obtain ⟨i, hi, rfl⟩ := r.ptr_inv
    obtain ⟨i', hi', rfl⟩ := r'.ptr_inv
    rw [hi] at hi'; cases hi'
    exact ⟨rfl, by simp [Instr.sameBits]⟩
  | _ => cases ki <;> cases hkk

/-- A map with other entries. -/
theorem map_put (R : Rel G B C m h w.heap) {r : Nat} {i : BI} {es es2 : List (AV × AV)} {ver : Nat} (hi : m r = some i) (hg : h.get r = some (.map es ver)) {es'' l'' : List MapEntry} {clock : Nat}
    (h1 : l''.Perm es'') (h2 : All2 (ERel m) es2 l'') (h3 : (es''.map (·.born)).Nodup) (h4 : ∀ e ∈ es'', e.born < clock) (h5 : (es2.map (·.1)).Nodup) :
    Rel G B C m (h.put r (.map es2 (ver + 1))) (w.heap.setIfInBounds i.r (.map es''.toArray clock)) ∧
      Turn B m h w m (h.put r (.map es2 (ver + 1))) { w with heap := w.heap.setIfInBounds i.r (.map es''.toArray clock) } := by
  have hB := R.above hi hg (by simp [AO.ro])
  obtain ⟨es', c, l', q0, q1, _⟩ := map_obj R hi hg
  have hlt := R.dom r i hi
  have hne : ∀ k, k ≠ i.r → (w.heap.setIfInBounds i.r (.map es''.toArray clock))[k]? = w.heap[k]? := fun k hk => Array.getElem?_setIfInBounds_ne (Ne.symm hk)
  refine ⟨R.put (o := .map es ver) hi hg rfl hB (by simp) hne ?_ (fun _ _ _ _ q => by cases q) (fun es v q => by cases q; exact ⟨es2, ver + 1, rfl, by omega⟩), Turn.put hi hB (by simp) hne rfl rfl rfl⟩
  rw [Array.getElem?_setIfInBounds_self_of_lt hlt]
  exact ⟨es''.toArray, clock, l'', q0, rfl, by simpa using h1, h2, by simpa using h3, by simpa using h4, h5⟩

theorem All2.map_right {α β γ : Type} {R : α → β → Prop} {S : α → γ → Prop} {g : β → γ} (hg : ∀ a b, R a b → S a (g b)) {l : List α} {k : List β} (x : All2 R l k) : All2 S l (k.map g) := by
  induction x with
  | nil => exact .nil
  | cons a b l k hr _ ih => exact .cons _ _ _ _ (hg a b hr) ih

theorem updIn_keys {k v : AV} : ∀ (es : List (AV × AV)), (∀ q ∈ es, isKey h k q = true → k = q.1) → (updIn h k v es).map (·.1) = if es.any (isKey h k) then es.map (·.1) else es.map (·.1) ++ [k]
  | [], _ => rfl
  | q :: es, hk => by
    unfold updIn
    cases hq : isKey h k q with
    | true =>
      have e1 := hk q (by simp) hq
      simp only [cond_true, List.map_cons, List.any_cons, hq, Bool.true_or, if_true, ← e1]
    | false =>
      simp only [cond_false, List.map_cons, List.any_cons, hq, Bool.false_or]
      rw [updIn_keys es fun q hq' => hk q (List.mem_cons_of_mem _ hq')]
      split <;> simp

/-- The entries behind an update, beside those of before. -/
theorem updIn_rel {k v : AV} {x y : Value} (rk : VRel m k x) (rv : VRel m v y) : ∀ {es : List (AV × AV)} {l : List MapEntry}, All2 (KRel m h k x) es l → uniq (fun q => vEq x q.key) l → (∃ b ∈ l, vEq x b.key = true) →
    All2 (ERel m) (updIn h k v es) (l.map fun b => bif vEq x b.key then { b with key := x, val := y } else b)
  | _, _, .nil, _, hb => by obtain ⟨b, hb, _⟩ := hb; cases hb
  | _, _, .cons a b es l hr hl, hu, hb => by
    unfold updIn
    cases hk : isKey h k a with
    | true =>
      have hb' : vEq x b.key = true := by rw [← hr.2.1]; exact hk
      have hrest := hu.rest (a := b) hb'
      simp only [cond_true, List.map_cons, hb']
      refine .cons _ _ _ _ ⟨rk, rv⟩ ?_
      have : ∀ {es : List (AV × AV)} {l : List MapEntry}, All2 (KRel m h k x) es l → (∀ b ∈ l, vEq x b.key = false) → All2 (ERel m) es (l.map fun b => bif vEq x b.key then { b with key := x, val := y } else b) := by
        intro es l hl
        induction hl with
        | nil => intro _; exact .nil
        | cons a' b' es' l' hr' _ ih' =>
          intro hq
          simp only [List.map_cons, hq b' (by simp), cond_false]
          exact .cons _ _ _ _ hr'.1 (ih' fun b hb => hq b (List.mem_cons_of_mem _ hb))
      exact this hl hrest
    | false =>
      have hb' : vEq x b.key = false := by rw [← hr.2.1]; exact hk
      simp only [cond_false, List.map_cons, hb']
      refine .cons _ _ _ _ hr.1 (updIn_rel rk rv hl hu.tail ?_)
      obtain ⟨b2, hb2, hv2⟩ := hb
      rcases List.mem_cons.1 hb2 with rfl | q
      · rw [hb'] at hv2; cases hv2
      · exact ⟨b2, q, hv2⟩
theorem updIn_new {k v : AV} {x y : Value} (rk : VRel m k x) (rv : VRel m v y) (clock : Nat) : ∀ {es : List (AV × AV)} {l : List MapEntry}, All2 (KRel m h k x) es l → (∀ b ∈ l, vEq x b.key = false) →
    All2 (ERel m) (updIn h k v es) (l ++ [{ key := x, val := y, born := clock }])
  | _, _, .nil, _ => .cons _ _ _ _ ⟨rk, rv⟩ .nil
  | _, _, .cons a b es l hr hl, hb => by
    unfold updIn
    have hk : isKey h k a = false := by rw [hr.2.1]; exact hb b (by simp)
    rw [hk]
    exact .cons _ _ _ _ hr.1 (updIn_new rk rv clock hl fun b' hb' => hb b' (List.mem_cons_of_mem _ hb'))

theorem any_rel {k : AV} {x : Value} : ∀ {es : List (AV × AV)} {l : List MapEntry}, All2 (KRel m h k x) es l → es.any (isKey h k) = l.any fun b => vEq x b.key
  | _, _, .nil => rfl
  | _, _, .cons a b es l hr hl => by simp [hr.2.1, any_rel hl]
theorem key_eq_of {k : AV} {x : Value} : ∀ {es : List (AV × AV)} {l : List MapEntry}, All2 (KRel m h k x) es l → ∀ q ∈ es, isKey h k q = true ↔ k = q.1
  | _, _, .nil, q, hq => by cases hq
  | _, _, .cons a b es l hr hl, q, hq => by
    rcases List.mem_cons.1 hq with rfl | hq
    · exact hr.2.2
    · exact key_eq_of hl q hq

theorem mapUpdate_run (EO : TabOK P e) {ty kt et : TypeId} {ki : TI} (hu : P.underlying ty = some (.map kt et)) (hki : e.tt.get kt = some ki) (R : Rel G B C m h w.heap) {r : Nat} {es es2 : List (AV × AV)} {ver : Nat} {i : BI} (hi : m r = some i) (hg : h.get r = some (.map es ver))
    {k v : AV} {x y : Value} (rk : VRel m k x) (rv : VRel m v y) (hkk : keyKind e ki.kind k = true) (hup : updA h k v es = some es2) :
    ∃ w', (Instr.mapUpdate ty (.map (some i.r)) x y).run P w = .ok () w' ∧ Rel G B C m (h.put r (.map es2 (ver + 1))) w'.heap ∧ Turn B m h w m (h.put r (.map es2 (ver + 1))) w' := by
  unfold updA at hup
  split at hup
  · rename_i hok
    injection hup with hup
    subst hup
    obtain ⟨es', clock, l', q0, q1, q2, q3, q4, q5, q6⟩ := map_obj R hi hg
    have hfk := findKey_run (w := w) EO R hki hkk rk q3 q2 hok
    have hkey := keyed R rk q3 hok
    have huq := keyed_uniq hkey q6
    have huq2 := huq.perm q2
    have hck := checkKey_run (w := w) EO hki rk hkk false 9999
    have hgo := run_getObj (P := P) q1 (by intro _ _ _ q; cases q)
    have hset := fun ob' => run_setObj (P := P) (ob' := ob') q1 (by intro _ _ _ q; cases q)
    have hkeys := updIn_keys (v := v) es fun q hq hk => (key_eq_of hkey q hq).1 hk
    rw [any_rel hkey] at hkeys
    cases hany : l'.any fun b => vEq x b.key with
    | true =>
      obtain ⟨b, hb1, hb2⟩ := List.any_eq_true.1 hany
      obtain ⟨j, hj, _, hget, hmod, _⟩ := ffind_some es'.toList 0 huq2 b (q2.mem_iff.1 hb1) hb2
      have hbx : x = b.key ∧ Instr.sameBits 10000 b.key x = true := by
        have : ∀ {es : List (AV × AV)} {l : List MapEntry}, All2 (KRel m h k x) es l → b ∈ l → VRel m k b.key := by
          intro es l hl
          induction hl with
          | nil => intro hb; cases hb
          | cons a' b' es' l' hr' _ ih' =>
            intro hb
            rcases List.mem_cons.1 hb with rfl | hb
            · have := hr'.2.2.1 (by rw [hr'.2.1]; exact hb2)
              rw [this]
              exact hr'.1.1
            · exact ih' hb
        have rb := this hkey hb1
        exact ⟨(key_same hkk rk rb).1, (key_same hkk rb rk).2⟩
      obtain ⟨R', T'⟩ := map_put R hi hg (es2 := updIn h k v es) (es'' := es'.toList.map fun b => bif vEq x b.key then { b with key := x, val := y } else b) (l'' := l'.map fun b => bif vEq x b.key then { b with key := x, val := y } else b) (clock := clock)
        (q2.map _) (updIn_rel rk rv hkey huq ⟨b, hb1, hb2⟩) (by
          have : (es'.toList.map fun b => bif vEq x b.key then { b with key := x, val := y } else b).map (·.born) = es'.toList.map (·.born) := by
            rw [List.map_map]
            apply List.map_congr_left
            intro b _
            simp only [Function.comp]
            cases vEq x b.key <;> rfl
          rw [this]; exact q4) (by
          intro q hq
          obtain ⟨b', hb', rfl⟩ := List.mem_map.1 hq
          have := q5 b' hb'
          cases vEq x b'.key <;> exact this) (by rw [hkeys, hany, if_pos rfl]; exact q6)
      refine ⟨_, ?_, R', T'⟩
      have hget' : es'[j]? = some b := by simpa using hget
      have harr : es'.modify j (fun e => { e with key := x, val := y }) = (es'.toList.map fun b => bif vEq x b.key then { b with key := x, val := y } else b).toArray := by
        apply Array.ext'
        rw [Array.toList_modify]
        simpa using hmod _
      simp only [Instr.mapUpdate, Sem.run_bind, run_underlying' hu, Result.andThen_ok, hgo, hck, hfk, hj, hget', Option.map_some, Option.getD_some, Instr.keyThatStays, hbx.2, if_true, Sem.run_pure, harr, hset]
    | false =>
      have hnone : ∀ b ∈ l', vEq x b.key = false := fun b hb => by
        have := List.any_eq_false.1 hany b hb
        simpa using this
      have hnone2 : ∀ b ∈ es'.toList, vEq x b.key = false := fun b hb => hnone b (q2.mem_iff.2 hb)
      rw [ffind_none es'.toList 0 hnone2] at hfk
      obtain ⟨R', T'⟩ := map_put R hi hg (es2 := updIn h k v es) (es'' := es'.toList ++ [{ key := x, val := y, born := clock }]) (l'' := l' ++ [{ key := x, val := y, born := clock }]) (clock := clock + 1)
        (q2.append_right _) (updIn_new rk rv clock hkey hnone) (by
          rw [List.map_append, List.nodup_append]
          refine ⟨q4, by simp, ?_⟩
          intro a ha b hb
          simp at hb
          subst hb
          obtain ⟨e0, he0, rfl⟩ := List.mem_map.1 ha
          exact Nat.ne_of_lt (q5 e0 he0)) (by
          intro q hq
          rcases List.mem_append.1 hq with hq | hq
          · exact Nat.lt_succ_of_lt (q5 q hq)
          · simp at hq; subst hq; exact Nat.lt_succ_self _) (by
          rw [hkeys, hany]
          simp only [Bool.false_eq_true, if_false]
          rw [List.nodup_append]
          refine ⟨q6, by simp, ?_⟩
          intro a ha b hb hab
          have hbk : b = k := by simpa using hb
          rw [hbk] at hab
          obtain ⟨q, hq, hqa⟩ := List.mem_map.1 ha
          have hk1 : isKey h k q = true := (key_eq_of hkey q hq).2 (hab ▸ hqa.symm)
          have hk2 : es.any (isKey h k) = true := List.any_eq_true.2 ⟨q, hq, hk1⟩
          rw [any_rel hkey, hany] at hk2
          cases hk2)
      refine ⟨_, ?_, R', T'⟩
      have harr : es'.push { key := x, val := y, born := clock } = (es'.toList ++ [({ key := x, val := y, born := clock } : MapEntry)]).toArray := by
        apply Array.ext'
        simp
      simp only [Instr.mapUpdate, Sem.run_bind, run_underlying' hu, Result.andThen_ok, hgo, hck, hfk, harr, hset]
  · cases hup

theorem sim_mapUpdate (EO : TabOK P e) {ty : TypeId} {x ix y : Operand} (ho : o.op = .mapUpdate ty x ix y ∨ o.op = .insert ty x ix y) (R : Rel G B C m h w.heap) (F : TRel m fr.tmps t) (hx : opdOk G x = true) (hix : opdOk G ix = true) (hy : opdOk G y = true) (hv : opA e fr h nt o = .val v h') : Sim1 P G B C m h w t o v h' := by
  have key : ∀ v, (match e.ti ty, fr.eval x, fr.eval ix, fr.eval y with
    | some ti, some (.map r), some k, some v =>
      match ti.kind with
      | .map kt _ => match e.ti kt with
        | some ki => if keyKind e ki.kind k then match h.get r with
          | some (.map es ver) => match updA h k v es with
            | some es => OR.val (.tup []) (h.put r (.map es (ver + 1)))
            | none => .bad
          | _ => .bad else .bad
        | none => .bad
      | _ => .bad
    | _, _, _, _ => .bad) = OR.val v h' → ∃ w', (Instr.mapUpdate ty (ev t x) (ev t ix) (ev t y)).run P w = .ok () w' ∧ v = .tup [] ∧ Rel G B C m h' w'.heap ∧ Turn B m h w m h' w' := by
    intro v hv
    simp only [Env.ti] at hv
    split at hv
    · rename_i ti r k vv hti hma hka hva
      have rm := eval_rel R F hx hma
      have rk := eval_rel R F hix hka
      have rv := eval_rel R F hy hva
      split at hv
      · rename_i kt et hk
        split at hv
        · rename_i ki hki
          split at hv
          · rename_i hkk
            split at hv
            · rename_i es ver hg
              split at hv
              · rename_i es2 hup
                injection hv with e1 e2; subst e1; subst e2
                obtain ⟨i, hi, hxv⟩ := rm.map_inv
                obtain ⟨w', a1, a2, a3⟩ := mapUpdate_run EO (mkKind_map ((kind_of (EO.tt _ _ hti)).trans hk)) hki R hi hg rk rv hkk hup
                exact ⟨w', by rw [hxv]; exact a1, rfl, a2, a3⟩
              · cases hv
            · cases hv
          · cases hv
        · cases hv
      · cases hv
    · cases hv
  rcases ho with ho | ho <;>
  · simp only [opA, ho] at hv
    obtain ⟨w', a1, rfl, a2, a3⟩ := key v hv
    exact ⟨undef, w', m, .inr ⟨by simp [execOp, ho, a1], rfl⟩, .tup _ _ .nil, a2, a3⟩
end
end Go.Ab
namespace Go.Ab
section
variable {G B : Nat} {C : CodeP} {P : Program} {e : Env} {m : Emb} {h h' : H} {w : World} {fr : Fr} {t : Array Value} {nt : Nat} {o : Oper} {v : AV}

/-- What a builtin comes to. -/
def SimB (P : Program) (G B : Nat) (C : CodeP) (m : Emb) (h : H) (w : World) (s : Sem Value) (v : AV) (h' : H) : Prop :=
  ∃ v' w' m', s.run P w = .ok v' w' ∧ VRel m' v v' ∧ Rel G B C m' h' w'.heap ∧ Turn B m h w m' h' w'

theorem SimB.pure (R : Rel G B C m h w.heap) {s : Sem Value} {v : AV} {x : Value} (hr : s.run P w = .ok x w) (hv : VRel m v x) : SimB P G B C m h w s v h := ⟨x, w, m, hr, hv, R, Turn.refl _ _ _ _⟩

def isIntD : TypeDesc → Bool
  | .int _ => true
  | _ => false
theorem isIntD_eq (u : TypeDesc) : (Go.Builtin.append_.match_1 (fun _ => Bool) u (fun _ => true) fun _ => false) = isIntD u := by cases u <;> rfl

/-- The tail of an append, once it is known what is appended. -/
def appTail (P : Program) (elem : TypeId) (i : TypeInfo) (z : Value) (s : Value) (base : Option Addr) (sLen sCap n : Nat) (zeros : Bool) (appended : Sem (Array Value)) : Sem Value :=
  if sLen + n ≤ sCap then do
    let new ← appended
    if let some a := base then storeCells (a.add (sLen * i.size)) new.toList
    pure (.slice base (sLen + n) sCap)
  else do
    let newCap ← choose (.appendCap (sLen + n) sCap elem)
    let old ← Builtin.firstCells i.size sLen s
    let new ← appended
    pure (.slice (some (← Go.newRow elem (old ++ new ++ Builtin.zeroCells z.cells (newCap - (sLen + n))))) (sLen + n) newCap)

theorem append_tail {argTypes : Array TypeId} {ty : TypeId} {args : Array Value} {sT xT elem : TypeId} {i : TypeInfo} {z : Value} {base : Option Addr} {sLen sCap n : Nat} {x : Value} {zeros : Bool}
    (h0 : argTypes[0]? = some sT) (h1 : argTypes[1]? = some xT) (a0 : args[0]? = some (.slice base sLen sCap)) (a1 : args[1]? = some x) (hu : P.underlying sT = some (.slice elem)) (hi : P.info? elem = some i) (hz : i.zero = some z)
    (hx : ∃ u, P.underlying xT = some u ∧ zeros = isIntD u) (hn : zeros = true → ∃ k, x = .int k (n : Int) ∧ n ≤ 9223372036854775807 ∧ n * i.bytes ≤ 281474976710656) (hn' : zeros = false → (Builtin.lenOf x).run P w = .ok n w)
    (hbig : sCap < sLen + n → sLen + n ≤ 9223372036854775807 ∧ 2 * (sLen + n) * i.bytes ≤ 281474976710656) {R : Result Value}
    (hR : (appTail P elem i z (.slice base sLen sCap) base sLen sCap n zeros (if !zeros then Builtin.firstCells i.size n x else if n * i.size = 0 then pure #[] else do pure (Builtin.zeroCells (← zeroValue elem).cells n))).run P w = R) :
    (Builtin.append_ argTypes ty args).run P w = R := by
  subst hR
  obtain ⟨u, hu2, rfl⟩ := hx
  have hsize : (sizeOf elem).run P w = .ok i.size w := by simp [sizeOf, run_typeInfo' hi]
  unfold Builtin.append_
  simp only [h0, a0, a1, Sem.run_bind, run_underlying' hu, Result.andThen_ok, hsize, h1, run_underlying' hu2, Sem.run_pure]
  simp only [isIntD_eq]
  generalize hzs : isIntD u = zeros at hn hn' ⊢
  have c1 : sCap < sLen + n → ¬ (((sLen + n : Nat) : Int) > IntKind.i64.max ∧ (zeros = true ∨ i.bytes = 0)) := fun hlt => by
    have := (hbig hlt).1
    simp only [IntKind.max, IntKind.signed, IntKind.bits]
    intro q
    have := q.1
    simp at this
    omega
  have c2 : sCap < sLen + n → ¬ (Builtin.nextslicecap (sLen + n) sCap * i.bytes > 2 ^ 48) := fun hlt => by
    have g1 := nextslicecap_le hlt
    have g2 := (hbig hlt).2
    have g3 : Builtin.nextslicecap (sLen + n) sCap * i.bytes ≤ 2 * (sLen + n) * i.bytes := Nat.mul_le_mul_right _ g1
    have : (2 : Nat) ^ 48 = 281474976710656 := by decide
    omega
  cases zeros with
  | false =>
    simp only [Bool.false_eq_true, if_false, Sem.run_bind, hn' rfl, Result.andThen_ok, Bool.not_false, if_true, appTail]
    by_cases hle : sLen + n ≤ sCap
    · simp only [if_pos hle, Sem.run_bind]
      cases base <;> rfl
    · have hlt : sCap < sLen + n := by omega
      have c1' := c1 hlt
      simp only [Bool.false_eq_true] at c1'
      simp only [if_neg hle, Sem.run_bind, run_typeInfo' hi, Result.andThen_ok, if_neg c1', if_neg (c2 hlt), run_choose, Question.forced, Bool.false_eq_true, if_false, run_askRoom, run_zeroValue' hi hz, Sem.run_pure]
  | true =>
    obtain ⟨k, rfl, hn63, hn48⟩ := hn rfl
    have hw : IntKind.i64.wrap (n : Int) = n := wrap64_id (by omega) (by omega)
    have d1 : ¬ ((n : Int) < 0) := by omega
    have d2 : ¬ ((n : Int) * (i.bytes : Int) > 2 ^ 48) := by
      have h2 : ((n * i.bytes : Nat) : Int) ≤ 281474976710656 := by omega
      rw [Int.natCast_mul] at h2
      have : (2 : Int) ^ 48 = 281474976710656 := by decide
      omega
    simp only [if_true, Sem.run_bind, asInt, asIntOf, Sem.run_pure, Result.andThen_ok, hw, if_neg d1, run_typeInfo' hi, if_neg d2, Int.toNat_natCast, Bool.not_true, Bool.false_eq_true, if_false, appTail]
    by_cases hle : sLen + n ≤ sCap
    · simp only [if_pos hle, Sem.run_bind]
      cases base <;> rfl
    · have hlt : sCap < sLen + n := by omega
      have c1' : ¬ (((sLen + n : Nat) : Int) > IntKind.i64.max ∧ (True ∨ i.bytes = 0)) := fun q => c1 hlt ⟨q.1, .inl rfl⟩
      simp only [if_neg hle, Sem.run_bind, run_typeInfo' hi, Result.andThen_ok, if_neg c1', if_neg (c2 hlt), run_choose, Question.forced, Bool.false_eq_true, if_false, run_askRoom, run_zeroValue' hi hz, Sem.run_pure]

theorem firstCells_slice (R : Rel G B C m h w.heap) {es b off n l c : Nat} {i : BI} {vs : List AV} (hb : m b = some i) (hv : h.loadN b off (n * es) = some vs) :
    ∃ xs : List Value, VRels m vs xs ∧ (∀ v ∈ vs, oneCell v = true) ∧ ∀ w1 : World, w1.heap = w.heap → (Builtin.firstCells es n (.slice (some ⟨i.r, i.s + off, none⟩) l c)).run P w1 = .ok xs.toArray w1 := by
  obtain ⟨xs, r1, r2, _, r4, r3⟩ := R.loadN hb hv
  refine ⟨xs, r1, r4, fun w1 hw1 => ?_⟩
  have := run_loadCells_list (P := P) w1 ⟨i.r, i.s + off, none⟩ xs (fun j x hx => by
    rw [add_plain]
    have := r3 j x hx
    unfold World.cell? at *
    rw [hw1]
    exact this)
  rw [r2] at this
  simpa [Builtin.firstCells] using this

theorem lpart_get {α : Type} : ∀ (o n : Nat) (l vs : List α), lpart o n l = some vs → ∀ j, j < n → lget vs j = lget l (o + j)
  | 0, 0, l, vs, h, j, hj => by omega
  | 0, n + 1, [], vs, h, j, hj => by simp [lpart] at h
  | 0, n + 1, a :: l, vs, h, j, hj => by
    simp [lpart] at h
    obtain ⟨r, hr, rfl⟩ := h
    cases j with
    | zero => rfl
    | succ j =>
      have := lpart_get 0 n l r hr j (by omega)
      rw [Nat.zero_add] at this ⊢
      exact this
  | o + 1, n, [], vs, h, j, hj => by simp [lpart] at h
  | o + 1, n, a :: l, vs, h, j, hj => by
    have e' : lpart o n l = some vs := by cases n <;> simpa [lpart] using h
    have := lpart_get o n l vs e' j hj
    rw [this, show o + 1 + j = (o + j) + 1 by omega]
    rfl

/-- A row that grew out of a slice: the new row on both sides. -/
theorem grown (R : Rel G B C m h w.heap) {elem : Nat} {es len n cap : Nat} {cells : List AV} {cs rest : Array Value} (hc : VRels m cells cs.toList) (h1 : ∀ v ∈ cells, oneCell v = true) (hlen : cells.length = (len + n) * es) (hsz : (cs ++ rest).size = cap * es) (hcap : len + n ≤ cap) (sb : Bool) :
    ∃ i : BI, Rel G B C (upd m h.sz i) (newRow h elem cells true es sb) (w.heap.push (.cells (cs ++ rest) elem)) ∧ VRel (upd m h.sz i) (.slice h.sz 0 (len + n) (len + n)) (.slice (some ⟨w.heap.size, 0, none⟩) (len + n) cap) ∧ i.r = w.heap.size := by
  refine ⟨⟨w.heap.size, 0, (cs ++ rest).size, some (cells.length, es)⟩, row_new (opn := true) (es := es) (strish := sb) (rest := rest) (fz := (0, 0)) R hc h1 (fun q => by cases q) (.inl rfl), ?_, rfl⟩
  exact .slice _ 0 _ _ cap _ (upd_self _ _ _) (.inr ⟨_, _, rfl, by rw [hlen]; simp, hcap, by rw [hsz]; simp⟩)

theorem zeroCells_size (z : Array Value) (n : Nat) : (Builtin.zeroCells z n).size = n * z.size := by simp [Builtin.zeroCells]

theorem appendA_sim {elem : TypeId} {ei : TI} {inf : TypeInfo} {z : Value} (hinf : inf.size = ei.size) (hzs : z.cells.size = ei.size) (hes : ¬ ei.size = 0) {s : AV} {n : Nat} {new : List AV} {new' : Array Value} {base : Option Addr} {sLen sCap : Nat} (R : Rel G B C m h w.heap)
    (rs : VRel m s (.slice base sLen sCap)) (rn : VRels m new new'.toList) (hn1 : ∀ v ∈ new, oneCell v = true) (hnl : new.length = n * ei.size) {zeros : Bool} {appended : Sem (Array Value)} (happ : ∀ w1 : World, w1.heap = w.heap → appended.run P w1 = .ok new' w1)
    (hv : appendA h elem ei s n new = some (v, h')) : SimB P G B C m h w (appTail P elem inf z (.slice base sLen sCap) base sLen sCap n zeros appended) v h' := by
  have hnl' : new'.size = n * ei.size := by rw [← hnl, rn.length]; simp
  -- what a growth makes, of the old cells
  have grow : ∀ (sb : Bool) (old : List AV) (old' : Array Value), VRels m old old'.toList → (∀ v ∈ old, oneCell v = true) → old.length = sLen * ei.size → sCap < sLen + n →
      (∀ w1 : World, w1.heap = w.heap → (Builtin.firstCells inf.size sLen (.slice base sLen sCap)).run P w1 = .ok old' w1) →
      ∃ i : BI, ∃ w' v', (appTail P elem inf z (.slice base sLen sCap) base sLen sCap n zeros appended).run P w = .ok v' w' ∧ Rel G B C (upd m h.sz i) (newRow h elem (old ++ new) true ei.size sb) w'.heap ∧ VRel (upd m h.sz i) (.slice h.sz 0 (sLen + n) (sLen + n)) v' ∧
        Turn B m h w (upd m h.sz i) (newRow h elem (old ++ new) true ei.size sb) w' := by
    intro sb old old' ro ho1 hol hlt hfirst
    obtain ⟨cap, hc⟩ : ∃ c, (Question.appendCap (sLen + n) sCap elem).cut (w.tape w.drawn (.appendCap (sLen + n) sCap elem)) = c := ⟨_, rfl⟩
    have hcap : sLen + n ≤ cap := by rw [← hc]; simp only [Question.cut]; omega
    have hol' : old'.size = sLen * ei.size := by rw [← hol, ro.length]; simp
    have R1 : Rel G B C m h ({ w with drawn := w.drawn + 1 } : World).heap := R
    have hcells : VRels m (old ++ new) (old' ++ new').toList := by simpa using ro.append rn
    have hlen : (old ++ new).length = (sLen + n) * ei.size := by simp [hol, hnl, Nat.add_mul]
    have hsz : ((old' ++ new') ++ Builtin.zeroCells z.cells (cap - (sLen + n))).size = cap * ei.size := by
      simp only [Array.size_append, zeroCells_size, hol', hnl', hzs]
      rw [← Nat.add_mul, ← Nat.add_mul]
      congr 1
      omega
    obtain ⟨i, g1, g2, g3⟩ := grown (w := { w with drawn := w.drawn + 1 }) R1 (elem := elem) hcells (fun v hv => by
      rcases List.mem_append.1 hv with q | q
      · exact ho1 v q
      · exact hn1 v q) hlen hsz hcap sb
    refine ⟨i, { w with heap := w.heap.push (.cells ((old' ++ new') ++ Builtin.zeroCells z.cells (cap - (sLen + n))) elem), drawn := w.drawn + 1 }, _, ?_, g1, g2,
      Turn.trans (w₁ := w) (w₂ := { w with drawn := w.drawn + 1 }) (m₂ := m) (h₂ := h) (Turn.of_world rfl rfl rfl rfl) (row_new_turn R1 g3 rfl rfl rfl rfl)⟩
    have hnot : ¬ sLen + n ≤ sCap := by omega
    simp only [appTail, if_neg hnot, Sem.run_bind, run_choose, Question.forced, Bool.false_eq_true, if_false, hc, Result.andThen_ok, hfirst { w with drawn := w.drawn + 1 } rfl, happ { w with drawn := w.drawn + 1 } rfl, Go.newRow, run_newObj, Sem.run_pure]
  cases s with
  | nilslice =>
    cases rs
    simp only [appendA] at hv
    split at hv
    · rename_i hn0
      have hn0' : n = 0 := Nat.eq_of_beq_eq_true hn0
      subst hn0'
      injection hv with hv
      injection hv with e1 e2; subst e1; subst e2
      refine SimB.pure R (x := .slice none 0 0) ?_ .nilslice
      simp [appTail, happ w rfl]
    · rename_i hn0
      have hn0' : ¬ n = 0 := fun q => hn0 (by rw [q]; rfl)
      split at hv
      · injection hv with hv
        injection hv with e1 e2; subst e1; subst e2
        obtain ⟨i, w', v', g1, g2, g3, g4⟩ := grow false [] #[] .nil (by simp) (by simp) (by omega) (fun w1 _ => by simp [Builtin.firstCells])
        simp only [Nat.zero_add, List.nil_append] at g2 g3 g4
        exact ⟨v', w', _, g1, g3, g2, g4⟩
      · cases hv
  | slice b off len cap =>
    simp only [appendA] at hv
    obtain ⟨i, hi, hcase⟩ := rs.slice_inv
    have hlen : sLen = len := by
      rcases hcase with ⟨c', q, _⟩ | ⟨a, es, q1, q2, q, _⟩
      · cases q; rfl
      · cases q; omega
    subst hlen
    have hcc : cap ≤ sCap := by
      rcases hcase with ⟨c', q, hc⟩ | ⟨a, es, q1, q2, q, _⟩
      · injection q with _ _ q
        subst q
        rcases hc with rfl | ⟨_, _, _, _, q, _⟩ <;> omega
      · omega
    split at hv
    · rename_i hle
      have hle' : sLen + n ≤ cap := by simpa using hle
      have hle2 : sLen + n ≤ sCap := by omega
      split at hv
      · injection hv with hv
        injection hv with e1 e2; subst e1; subst e2
        have hnew0 : new' = #[] := Array.eq_empty_of_size_eq_zero (by rw [hnl']; simp)
        refine SimB.pure R (x := .slice base (sLen + 0) sCap) ?_ (by simpa using rs)
        subst hnew0
        cases base with
        | none => rcases hcase with ⟨c', q, _⟩ | ⟨a, es, _, _, q, _⟩ <;> cases q
        | some a => simp [appTail, happ w rfl, storeCells]; omega
      · rename_i n'
        cases hst : h.storeN b (off + sLen * ei.size) new with
        | none => rw [hst] at hv; cases hv
        | some h2 =>
          rw [hst] at hv
          injection hv with hv
          injection hv with e1 e2; subst e1; subst e2
          rcases hcase with ⟨c', q, hc⟩ | ⟨a, es, q1, q2, q, _⟩
          · injection q with q1 _ q3
            subst q1; subst q3
            obtain ⟨w', a1, a2, a3⟩ := storeN_run (P := P) R hi rn hst
            refine ⟨.slice (some ⟨i.r, i.s + off, none⟩) (sLen + (n' + 1)) sCap, w', m, ?_, .slice _ _ _ _ _ i hi hc, a2, a3⟩
            simp only [appTail, if_pos hle2, Sem.run_bind, happ w rfl, Result.andThen_ok, add_plain, hinf, Nat.add_assoc]
            simp only [a1, Result.andThen_ok, Sem.run_pure]
          · omega
    · rename_i hle
      have hlt : cap < sLen + n := by simpa using hle
      split at hv
      · split at hv
        · cases hv
        · rename_i r hrow
          split at hv
          · cases hv
          · rename_i old hold
            have hrow' : h.get b = some (.row r) := by
              unfold H.row? at hrow
              split at hrow
              · rename_i r' hr'
                injection hrow with hrow
                rw [hr', hrow]
              · cases hrow
            have hloadN : h.loadN b off (sLen * ei.size) = some old := by
              unfold H.loadN
              rw [hrow]
              exact hold
            have hol := (lpart_length _ _ _ _ hold).1
            obtain ⟨ob, k1, k2⟩ := R.obj b i hi
            rw [hrow'] at k1
            cases k1
            obtain ⟨c, fz, e1, e2, e3, e4, e5, e5', e6, e7⟩ := k2
            -- the old cells, read on the real side
            have hfirst : ∃ old' : Array Value, VRels m old old'.toList ∧ (∀ v ∈ old, oneCell v = true) ∧ ∀ w1 : World, w1.heap = w.heap → (Builtin.firstCells inf.size sLen (.slice base sLen sCap)).run P w1 = .ok old' w1 := by
              rcases hcase with ⟨c', q, hc⟩ | ⟨a, es, q1, q2, q, _⟩
              · injection q with q1 _ q3
                subst q1; subst q3
                obtain ⟨xs, g1, g2, g3⟩ := firstCells_slice (P := P) (w := w) (n := sLen) (l := sLen) (c := sCap) R hi hloadN
                exact ⟨xs.toArray, by simpa using g1, g2, fun w1 hw1 => by rw [hinf]; exact g3 w1 hw1⟩
              · subst q1
                injection q with q3 _ q4
                subst q3; subst q4
                have : old = [] := List.eq_nil_of_length_eq_zero (by rw [hol]; simp)
                subst this
                exact ⟨#[], .nil, by simp, fun w1 _ => by simp [Builtin.firstCells, loadCells, loadCellsFrom]⟩
            obtain ⟨old', ro, ho1, hfirst⟩ := hfirst
            split at hv
            · rename_i htail
              split at hv
              · rename_i hcond
                injection hv with hv
                injection hv with w1 w2; subst w1; subst w2
                simp only [Bool.and_eq_true, List.all_eq_true] at hcond
                obtain ⟨⟨⟨hwr, hes1⟩, hel⟩, _⟩ := hcond
                have hes' : r.es = ei.size := Nat.eq_of_beq_eq_true hes1
                have hel' : r.elem = elem := Nat.eq_of_beq_eq_true hel
                have htail' := htail
                simp only [tailOpen, Bool.and_eq_true] at htail'
                have hopn : i.opn = some (r.n, r.es) := by rw [e5, if_pos htail'.1]
                have hK : off + cap * r.es = r.n := Nat.eq_of_beq_eq_true htail'.2
                have hB := R.above hi hrow' (by simp [AO.ro, hwr])
                have hbs : b ≠ h.sz := Nat.ne_of_lt (R.bound b i hi)
                by_cases hin : sLen + n ≤ sCap
                · -- where it lay
                  rcases hcase with ⟨c', q, hc⟩ | ⟨a, es, q1, q2, q, _⟩
                  · cases q
                    have hcb : i.s + off + sCap * ei.size ≤ i.rsz := by
                      rcases hc with q | ⟨K, es, q1, q2, q3, q4⟩
                      · omega
                      · rw [hopn] at q1; cases q1; rw [← hes']; exact q4
                    have hmul : (sLen + n) * ei.size ≤ sCap * ei.size := Nat.mul_le_mul_right _ hin
                    rw [Nat.add_mul] at hmul
                    have hone : ∀ x ∈ new'.toList, x.oneCell' = true := by
                      intro x hx
                      obtain ⟨k, hk⟩ := List.getElem?_of_mem hx
                      have hk1 : k < new.length := by rw [rn.length]; exact (List.getElem?_eq_some_iff.1 hk).1
                      obtain ⟨y, hy, hyr⟩ := rn.get k new[k] (by rw [lget_eq]; simp [hk1])
                      rw [hk] at hy; cases hy
                      exact hyr.oneCell' (hn1 _ (List.getElem_mem hk1))
                    obtain ⟨w', a1, a2, a3, a4, a5, a6, a7⟩ := run_storeCells_row (P := P) i.r r.elem fz new'.toList (i.s + off + sLen * ei.size) 0 c w e1 (by simp [hnl']; omega) hone (by
                      intro x hx1 hx2 hx3
                      rcases e7 hwr with q | ⟨_, q⟩ <;> omega)
                    let i' : BI := ⟨i.r, i.s + off, i.rsz, some ((old ++ new).length, ei.size)⟩
                    have hlen2 : (old ++ new).length = (sLen + n) * ei.size := by simp [hol, hnl, Nat.add_mul]
                    have hle := R.upd_le i'
                    have RR := R.take (i' := i') (o' := .row { cells := old ++ new, n := (old ++ new).length, elem := elem, opn := true, es := ei.size, wr := true, strish := r.strish }) (hp' := w'.heap) hi hrow' rfl (fun _ _ q => by cases q) hB rfl a4 a3 (by
                      rw [a2]
                      refine ⟨_, fz, by rw [hel'], by rw [aput_size]; exact e2, ?_, rfl, rfl, (fun q => by cases q), ?_, (fun _ => by rw [aput_size]; exact e7 hwr)⟩
                      · show i.s + off + (old ++ new).length ≤ i.rsz
                        rw [hlen2, Nat.add_mul]; omega
                      · intro j v hj
                        have hjl : j < (old ++ new).length := by rw [lget_eq] at hj; exact (List.getElem?_eq_some_iff.1 hj).1
                        rw [hlen2, Nat.add_mul] at hjl
                        show ∃ x, (aput c (i.s + off + sLen * ei.size + 0) new'.toList)[i.s + off + j]? = some x ∧ VRel (upd m h.sz i') v x ∧ oneCell v = true
                        rw [aput_get _ _ _ _ (by simp [hnl']; omega)]
                        by_cases hjo : j < sLen * ei.size
                        · rw [if_neg (by omega)]
                          have hjold : lget old j = some v := by
                            rw [lget_eq] at hj ⊢
                            rwa [List.getElem?_append_left (by omega)] at hj
                          have := lpart_get off (sLen * ei.size) r.cells old hold j (by omega)
                          rw [this] at hjold
                          obtain ⟨x, x1, x2, x3⟩ := e6 (off + j) v hjold
                          exact ⟨x, by rw [Nat.add_assoc]; exact x1, x2.mono hle, x3⟩
                        · rw [if_pos (by simp [hnl']; omega)]
                          have hjnew : lget new (j - sLen * ei.size) = some v := by
                            rw [lget_eq] at hj ⊢
                            rw [List.getElem?_append_right (by omega), hol] at hj
                            exact hj
                          obtain ⟨x, hx, hxr⟩ := rn.get _ _ hjnew
                          exact ⟨x, by rw [show i.s + off + j - (i.s + off + sLen * ei.size + 0) = j - sLen * ei.size by omega]; exact hx, hxr.mono hle, hn1 v (by rw [lget_eq] at hjnew; exact List.mem_of_getElem? hjnew)⟩) (fun _ _ _ _ q => by cases q)
                    refine ⟨.slice (some ⟨i.r, i.s + off, none⟩) (sLen + n) sCap, w', upd m h.sz i', ?_, ?_, RR, Turn.take R hi hB rfl a4 a3 a5 a6 a7⟩
                    · simp only [appTail, if_pos hin, Sem.run_bind, happ w rfl, Result.andThen_ok, add_plain, hinf, a1, Sem.run_pure]
                    · have := VRel.slice (m := upd m h.sz i') h.sz 0 (sLen + n) (sLen + n) sCap i' (upd_self _ _ _) (.inr ⟨(old ++ new).length, ei.size, rfl, by rw [hlen2]; simp, hin, by show i.s + off + 0 + sCap * ei.size ≤ i.rsz; omega⟩)
                      exact this
                  · cases q; omega
                · obtain ⟨i0, w', v', g1, g2, g3, g4⟩ := grow r.strish old old' ro ho1 hol (by omega) hfirst
                  have hb2 : upd m h.sz i0 b = some i := by rw [upd_ne _ _ _ hbs]; exact hi
                  have hg2 : (newRow h elem (old ++ new) true ei.size r.strish).get b = some (.row r) := by
                    unfold newRow
                    rw [H.get_new, if_neg hbs]
                    exact hrow'
                  refine ⟨v', w', _, g1, g3, g2.put (o' := .dead) (hp' := w'.heap) hb2 hg2 rfl hB rfl (fun _ _ => rfl) trivial (fun _ _ _ _ q => by cases q) (fun _ _ q => by cases q), g4.trans (Turn.put hb2 hB rfl (fun _ _ => rfl) rfl rfl rfl)⟩
              · cases hv
            · rename_i htail
              injection hv with hv
              injection hv with w1 w2; subst w1; subst w2
              have hcc2 : sCap = cap := by
                rcases hcase with ⟨c', q, hc⟩ | ⟨a, es, q1, q2, q, hop, _⟩
                · cases q
                  rcases hc with q | ⟨K, es, q1, q2, q3, q4⟩
                  · exact q
                  · exfalso
                    apply htail
                    rw [e5] at q1
                    split at q1
                    · rename_i hro
                      injection q1 with q1
                      injection q1 with q5 q6
                      simp [tailOpen, hro, q6, q2, q5]
                    · cases q1
                · cases q; omega
              obtain ⟨i0, w', v', g1, g2, g3, g4⟩ := grow false old old' ro ho1 hol (by omega) hfirst
              exact ⟨v', w', _, g1, g3, g2, g4⟩
      · cases hv
  | _ => simp [appendA] at hv
end
end Go.Ab
namespace Go.Ab
section
variable {G B : Nat} {C : CodeP} {P : Program} {e : Env} {m : Emb} {h h' : H} {w : World} {fr : Fr} {t : Array Value} {nt : Nat} {o : Oper} {v : AV}

theorem tiOf_inv {argTypes : Array TypeId} {n : Nat} {ti : TI} (hv : tiOf e argTypes n = some ti) : ∃ ty, argTypes[n]? = some ty ∧ e.tt.get ty = some ti := by
  unfold tiOf at hv
  split at hv
  · rename_i ty hty
    exact ⟨ty, hty, hv⟩
  · cases hv

theorem args1 {a : AV} {args : Array Value} (r : VRels m [a] args.toList) : ∃ x, args = #[x] ∧ args[0]? = some x ∧ VRel m a x := by
  obtain ⟨l⟩ := args
  cases r with
  | cons _ x _ _ h hl => cases hl; exact ⟨x, rfl, rfl, h⟩
theorem args2 {a b : AV} {args : Array Value} (r : VRels m [a, b] args.toList) : ∃ x y, args = #[x, y] ∧ args[0]? = some x ∧ args[1]? = some y ∧ VRel m a x ∧ VRel m b y := by
  obtain ⟨l⟩ := args
  cases r with
  | cons _ x _ _ h hl =>
    cases hl with
    | cons _ y _ _ h2 hl => cases hl; exact ⟨x, y, rfl, rfl, rfl, h, h2⟩

theorem VRel.slice_len {b off l c : Nat} {x : Value} (r : VRel m (.slice b off l c) x) : ∃ base c', x = .slice (some base) l c' := by
  cases r with
  | slice _ _ _ _ c' i hi hc => exact ⟨_, c', rfl⟩
  | slice0 _ _ es i a hi hc ha => exact ⟨a, 0, rfl⟩

theorem lenA_run {x : AV} {x' : Value} {n : Nat} (hv : lenA x = some n) (r : VRel m x x') : (Builtin.lenOf x').run P w = .ok n w := by
  unfold lenA at hv
  split at hv
  · injection hv with hv; subst hv
    obtain ⟨base, c', rfl⟩ := r.slice_len
    simp [Builtin.lenOf]
  · injection hv with hv; subst hv
    cases r
    simp [Builtin.lenOf]
  · injection hv with hv; subst hv
    obtain ⟨b, rfl, hb⟩ := r.str_inv
    have : b.size = b.data.toList.length := by simp
    simp [Builtin.lenOf, this, hb]
  · cases hv

/-- What is appended or copied, read on the real side. -/
theorem firstA_run {es n : Nat} {x : AV} {x' : Value} {vs : List AV} (R : Rel G B C m h w.heap) (hv : firstA h es n x = some vs) (r : VRel m x x') (hlen : ∀ k, lenA x = some k → n ≤ k) :
    ∃ c : Array Value, VRels m vs c.toList ∧ (∀ v ∈ vs, oneCell v = true) ∧ (lenA x ≠ none → vs.length = n * es) ∧ ∀ w1 : World, w1.heap = w.heap → (Builtin.firstCells es n x').run P w1 = .ok c w1 := by
  unfold firstA at hv
  split at hv
  · rename_i b off l c
    have hvl : vs.length = n * es := by
      unfold H.loadN at hv
      split at hv
      · exact (lpart_length _ _ _ _ hv).1
      · cases hv
    obtain ⟨i, hi, ⟨c', rfl, _⟩ | ⟨a, es', hl0, hc0, rfl, hop, hab⟩⟩ := r.slice_inv
    · obtain ⟨xs, g1, g2, g3⟩ := firstCells_slice (P := P) (l := l) (c := c') R hi hv
      exact ⟨xs.toArray, by simpa using g1, g2, fun _ => hvl, g3⟩
    · have hn0 : n = 0 := by
        have := hlen l rfl
        omega
      subst hn0
      have : vs = [] := List.eq_nil_of_length_eq_zero (by rw [hvl]; simp)
      subst this
      exact ⟨#[], .nil, by simp, fun _ => by simp, fun w1 _ => by simp [Builtin.firstCells, loadCells, loadCellsFrom]⟩
  · injection hv with hv; subst hv
    cases r
    refine ⟨#[], .nil, by simp, fun _ => ?_, fun w1 _ => by simp [Builtin.firstCells]⟩
    have := hlen 0 rfl
    have : n = 0 := by omega
    subst this; simp
  · rename_i s
    split at hv
    · rename_i hes
      have hes' : es = 1 := Nat.eq_of_beq_eq_true hes
      subst hes'
      injection hv with hv; subst hv
      obtain ⟨b, rfl, hb⟩ := r.str_inv
      have hle := hlen s.length rfl
      have he : (b.extract 0 n).data.toList = ltake n s := by
        rw [ByteArray.data_extract, Array.toList_extract, List.extract_eq_take_drop, ltake_eq, hb]; simp
      obtain ⟨u1, u2⟩ := u8s_rel m (b.extract 0 n)
      rw [he] at u1 u2
      refine ⟨_, u1, u2, fun _ => by rw [List.length_map, ltake_eq, List.length_take]; omega, fun w1 _ => by simp [Builtin.firstCells]⟩
    · cases hv
  · cases hv

theorem minmax_run {f : Int → Int → Bool} {g : Value → Value → Sem Value} (hg : ∀ (k : IntKind) (a b : Int) (k' : IntKind), (g (.int k a) (.int k' b)).run P w = .ok (.int k (if f b a then b else a)) w)
    (hA : AV → List AV → Option AV) (hA0 : ∀ x, hA x [] = some x) (hA1 : ∀ x y l, (∀ k a k' b, x = .int k a → y = .int k' b → hA x (y :: l) = hA (.int k (if f b a then b else a)) l)) (hA2 : ∀ x y l v, hA x (y :: l) = some v → ∃ k a k' b, x = .int k a ∧ y = .int k' b) :
    ∀ (l : List AV) (x : AV) (x' : Value) (l' : List Value), VRel m x x' → VRels m l l' → ∀ v, hA x l = some v → ∃ z, (l'.foldlM g x').run P w = .ok z w ∧ VRel m v z
  | [], x, x', l', rx, rl, v, hv => by
    cases rl
    rw [hA0] at hv
    injection hv with hv; subst hv
    exact ⟨x', by simp, rx⟩
  | y :: l, x, x', l', rx, rl, v, hv => by
    obtain ⟨k, a, k', b, rfl, rfl⟩ := hA2 x y l v hv
    rw [hA1 _ _ l k a k' b rfl rfl] at hv
    cases rl with
    | cons _ y' _ l'' ry rl =>
      have hx := rx.int_inv
      have hy := ry.int_inv
      subst hx; subst hy
      obtain ⟨z, hz, hr⟩ := minmax_run hg hA hA0 hA1 hA2 l _ _ l'' (.int (m := m) k (if f b a then b else a)) rl v hv
      exact ⟨z, by simp only [List.foldlM_cons, Sem.run_bind, hg, Result.andThen_ok]; exact hz, hr⟩

theorem sim_append (EO : TabOK P e) {argTypes : Array TypeId} {ty : TypeId} {s x : AV} {args : Array Value} (R : Rel G B C m h w.heap) (r : VRels m [s, x] args.toList) (hv : builtinA e h .append argTypes [s, x] = .val v h') :
    SimB P G B C m h w (Builtin.append_ argTypes ty args) v h' := by
  obtain ⟨s', x', rfl, a0, a1, rs, rx⟩ := args2 r
  simp only [builtinA, Env.ti] at hv
  split at hv
  · rename_i ti hti0
    obtain ⟨sT, hsT, hti⟩ := tiOf_inv hti0
    split at hv
    · rename_i el hk
      split at hv
      · rename_i ei hei
        split at hv
        · cases hv
        · rename_i hz0
          have hes : ¬ ei.size = 0 := fun q => hz0 (by rw [q]; rfl)
          split at hv
          · cases hv
          · rename_i xi hxi0
            obtain ⟨xT, hxT, hxi⟩ := tiOf_inv hxi0
            split at hv
            · cases hv
            · rename_i z hz
              have hu := mkKind_slice ((kind_of (EO.tt _ _ hti)).trans hk)
              obtain ⟨inf, zv, hinf, hzv, hsize, hbytes, r1, r2, hzl, _⟩ := mkTI_zero (m := m) (EO.tt _ _ hei) hz
              have hzs : zv.cells.size = ei.size := by rw [← hzl, r1.length]; simp
              obtain ⟨ux, hux⟩ := und_of (EO.tt _ _ hxi)
              have hkx := kind_of (EO.tt _ _ hxi)
              have hint : isIntD ux = (match xi.kind with | .int _ => true | _ => false) := by
                rw [← hkx]
                unfold mkKind
                rw [hux]
                cases ux <;> rfl
              -- the base as the model has it
              have hbase : ∀ {n : Nat} {new : List AV}, appendA h el ei s n new = some (v, h') → ∃ base sLen sCap, s' = .slice base sLen sCap ∧ (sCap < sLen + n → sLen + n ≤ 9223372036854775807 ∧ 2 * (sLen + n) * inf.bytes ≤ 281474976710656) := by
                intro n new hap
                rw [hbytes]
                cases s with
                | nilslice =>
                  cases rs
                  refine ⟨none, 0, 0, rfl, fun hlt => ?_⟩
                  simp only [appendA] at hap
                  split at hap
                  · rename_i hn0
                    have := Nat.eq_of_beq_eq_true hn0
                    omega
                  · split at hap
                    · rename_i hc
                      simp only [Bool.and_eq_true, Nat.ble_eq, twoTo48] at hc
                      simpa using ⟨hc.2, hc.1⟩
                    · cases hap
                | slice b off len cap =>
                  obtain ⟨i, hi, hcase⟩ := rs.slice_inv
                  simp only [appendA] at hap
                  have key : ∀ c', cap ≤ c' → (c' < len + n → len + n ≤ 9223372036854775807 ∧ 2 * (len + n) * ei.bytes ≤ 281474976710656) := by
                    intro c' hc' hlt
                    split at hap
                    · rename_i hle
                      have : len + n ≤ cap := by simpa using hle
                      omega
                    · split at hap
                      · rename_i hc
                        simp only [Bool.and_eq_true, Nat.ble_eq, twoTo48] at hc
                        exact ⟨hc.2, hc.1⟩
                      · cases hap
                  rcases hcase with ⟨c', rfl, hc⟩ | ⟨a, es, q1, q2, rfl, _⟩
                  · exact ⟨_, len, c', rfl, key c' (by rcases hc with rfl | ⟨_, _, _, _, q, _⟩ <;> omega)⟩
                  · subst q1; subst q2
                    exact ⟨_, 0, 0, rfl, key 0 (Nat.le_refl _)⟩
                | _ => simp [appendA] at hap
              split at hv
              · rename_i kk hkk
                rw [hkk] at hint
                split at hv
                · rename_i n
                  split at hv
                  · rename_i hcn
                    simp only [Bool.and_eq_true, Nat.ble_eq, twoTo48] at hcn
                    have hap := OR.of2_val hv
                    obtain ⟨base, sLen, sCap, rfl, hbig⟩ := hbase hap
                    have hrep := lrep_rel r1 n (n * zv.cells.size) rfl
                    have happ : ∀ w1 : World, w1.heap = w.heap → ((if !true then Builtin.firstCells inf.size n x' else if n * inf.size = 0 then pure #[] else do pure (Builtin.zeroCells (← zeroValue el).cells n) : Sem (Array Value))).run P w1 = .ok ((Array.range (n * zv.cells.size)).map (zv.cells[· % zv.cells.size]!)) w1 := by
                      intro w1 _
                      by_cases h0 : n * inf.size = 0
                      · have : n = 0 := by
                          rcases Nat.mul_eq_zero.1 h0 with q | q
                          · exact q
                          · rw [hsize] at q; exact absurd q hes
                        subst this
                        have h00 : Array.range 0 = #[] := Array.eq_empty_of_size_eq_zero (by simp)
                        simp [h00]
                      · simp [h0, run_zeroValue' hinf hzv, Builtin.zeroCells]
                    obtain ⟨v', w', m', g1, g2, g3, g4⟩ := appendA_sim (P := P) (zeros := true) hsize hzs hes R rs hrep (lrep_one r2 n) (by rw [lrep_length, hzl]) happ hap
                    refine ⟨v', w', m', ?_, g2, g3, g4⟩
                    exact append_tail hsT hxT a0 a1 hu hinf hzv ⟨ux, hux, hint.symm⟩ (fun _ => ⟨.i64, rx.int_inv, hcn.2, by rw [hbytes]; exact hcn.1⟩) (fun q => by cases q) hbig g1
                  · cases hv
                · cases hv
              · rename_i hnk
                have hint2 : isIntD ux = false := by
                  rw [hint]
                  split
                  · rename_i kk hkk
                    exact absurd hkk (hnk kk)
                  · rfl
                split at hv
                · rename_i n hln
                  split at hv
                  · rename_i new hnew
                    have hap := OR.of2_val hv
                    obtain ⟨base, sLen, sCap, rfl, hbig⟩ := hbase hap
                    obtain ⟨c, rn, hn1, hnl, happ0⟩ := firstA_run (P := P) R hnew rx (fun k hk => by rw [hln] at hk; injection hk with hk; omega)
                    have happ : ∀ w1 : World, w1.heap = w.heap → ((if !false then Builtin.firstCells inf.size n x' else if n * inf.size = 0 then pure #[] else do pure (Builtin.zeroCells (← zeroValue el).cells n) : Sem (Array Value))).run P w1 = .ok c w1 := by
                      intro w1 hw1
                      have := happ0 w1 hw1
                      rw [← hsize] at this
                      simpa using this
                    obtain ⟨v', w', m', g1, g2, g3, g4⟩ := appendA_sim (P := P) (zeros := false) hsize hzs hes R rs rn hn1 (hnl (by rw [hln]; simp)) happ hap
                    refine ⟨v', w', m', ?_, g2, g3, g4⟩
                    exact append_tail hsT hxT a0 a1 hu hinf hzv ⟨ux, hux, hint2.symm⟩ (fun q => by cases q) (fun _ => lenA_run hln rx) hbig g1
                  · cases hv
                · cases hv
      · cases hv
    · cases hv
  · cases hv
end
end Go.Ab
namespace Go.Ab
section
variable {G B : Nat} {C : CodeP} {P : Program} {e : Env} {m : Emb} {h h' : H} {w : World} {fr : Fr} {t : Array Value} {nt : Nat} {o : Oper} {v : AV}

theorem sim_len (EO : TabOK P e) {argTypes : Array TypeId} {ty : TypeId} {x : AV} {args : Array Value} (R : Rel G B C m h w.heap) (r : VRels m [x] args.toList) (hv : builtinA e h .len argTypes [x] = .val v h') :
    SimB P G B C m h w (Builtin.len_ argTypes ty args) v h' := by
  obtain ⟨x', rfl, a0, rx⟩ := args1 r
  simp only [builtinA, Env.ti] at hv
  split at hv
  · rename_i ti hti0
    obtain ⟨sT, hsT, hti⟩ := tiOf_inv hti0
    have hkd := kind_of (EO.tt _ _ hti)
    split at hv
    · rename_i s hk
      injection hv with e1 e2; subst e1; subst e2
      obtain ⟨b, rfl, hb⟩ := rx.str_inv
      have : b.size = s.length := by rw [← hb]; simp
      exact SimB.pure R (x := .int .i64 b.size) (by simp [Builtin.len_, hsT, run_underlying' (mkKind_str (hkd.trans hk)), goInt]) (by rw [this]; exact .int _ _)
    · rename_i el hk
      injection hv with e1 e2; subst e1; subst e2
      cases rx
      exact SimB.pure R (x := .int .i64 0) (by simp [Builtin.len_, hsT, run_underlying' (mkKind_slice (hkd.trans hk)), goInt]) (.int _ _)
    · rename_i el b off n c hk
      injection hv with e1 e2; subst e1; subst e2
      obtain ⟨base, c', rfl⟩ := rx.slice_len
      exact SimB.pure R (x := .int .i64 n) (by simp [Builtin.len_, hsT, run_underlying' (mkKind_slice (hkd.trans hk)), goInt]) (.int _ _)
    · rename_i n el hk
      injection hv with e1 e2; subst e1; subst e2
      exact SimB.pure R (x := .int .i64 n) (by simp [Builtin.len_, hsT, run_underlying' (mkKind_array (hkd.trans hk)), goInt]) (.int _ _)
    · rename_i k el hk
      injection hv with e1 e2; subst e1; subst e2
      cases rx
      exact SimB.pure R (x := .int .i64 0) (by simp [Builtin.len_, hsT, run_underlying' (mkKind_map (hkd.trans hk)), goInt]) (.int _ _)
    · rename_i k el r0 hk
      split at hv
      · rename_i es ver hg
        injection hv with e1 e2; subst e1; subst e2
        obtain ⟨i, hi, rfl⟩ := rx.map_inv
        obtain ⟨es', clock, l', q0, q1, q2, q3, _⟩ := map_obj R hi hg
        have hlen : es'.size = es.length := by rw [q3.length, q2.length_eq]; simp
        exact SimB.pure R (x := .int .i64 es'.size) (by simp [Builtin.len_, hsT, run_underlying' (mkKind_map (hkd.trans hk)), goInt, run_getObj (P := P) q1 (by intro _ _ _ q; cases q)]) (by rw [hlen]; exact .int _ _)
      · cases hv
    · cases hv
  · cases hv

theorem sim_cap (EO : TabOK P e) {argTypes : Array TypeId} {ty : TypeId} {x : AV} {args : Array Value} (R : Rel G B C m h w.heap) (r : VRels m [x] args.toList) (hv : builtinA e h .cap argTypes [x] = .val v h') :
    SimB P G B C m h w (Builtin.cap_ argTypes ty args) v h' := by
  obtain ⟨x', rfl, a0, rx⟩ := args1 r
  simp only [builtinA, Env.ti] at hv
  split at hv
  · rename_i ti hti0
    obtain ⟨sT, hsT, hti⟩ := tiOf_inv hti0
    have hkd := kind_of (EO.tt _ _ hti)
    split at hv
    · rename_i el hk
      injection hv with e1 e2; subst e1; subst e2
      cases rx
      exact SimB.pure R (x := .int .i64 0) (by simp [Builtin.cap_, hsT, run_underlying' (mkKind_slice (hkd.trans hk)), goInt]) (.int _ _)
    · rename_i el b off n c hk
      split at hv
      · rename_i rw0 hrow
        split at hv
        · cases hv
        · rename_i htail
          injection hv with e1 e2; subst e1; subst e2
          obtain ⟨i, hi, hcase⟩ := rx.slice_inv
          obtain ⟨ob, k1, k2⟩ := R.obj b i hi
          unfold H.row? at hrow
          rw [k1] at hrow
          cases ob with
          | row r' =>
            injection hrow with hrow
            subst hrow
            obtain ⟨c0, fz, e1, e2, e3, e4, e5, e5', e6, e7⟩ := k2
            rcases hcase with ⟨c', rfl, hc⟩ | ⟨a, es, q1, q2, rfl, hop, _⟩
            · have hcc : c' = c := by
                rcases hc with q | ⟨K, es, q1, q2, q3, q4⟩
                · exact q
                · exfalso
                  apply htail
                  rw [e5] at q1
                  split at q1
                  · rename_i hro
                    injection q1 with q1
                    injection q1 with q5 q6
                    simp [tailOpen, hro, q6, q2, q5]
                  · cases q1
              subst hcc
              exact SimB.pure R (x := .int .i64 c') (by simp [Builtin.cap_, hsT, run_underlying' (mkKind_slice (hkd.trans hk)), goInt]) (.int _ _)
            · exfalso
              apply htail
              subst q2
              rw [e5] at hop
              split at hop
              · rename_i hro
                injection hop with hop
                injection hop with q5 q6
                simp [tailOpen, hro, q5]
              · cases hop
          | _ => cases hrow
      · cases hv
    · cases hv
  · cases hv

theorem sim_copy (EO : TabOK P e) {argTypes : Array TypeId} {ty : TypeId} {d x : AV} {args : Array Value} (R : Rel G B C m h w.heap) (r : VRels m [d, x] args.toList) (hv : builtinA e h .copy argTypes [d, x] = .val v h') :
    SimB P G B C m h w (Builtin.copy_ argTypes ty args) v h' := by
  obtain ⟨d', x', rfl, a0, a1, rd, rx⟩ := args2 r
  simp only [builtinA, Env.ti] at hv
  split at hv
  · rename_i ti hti0
    obtain ⟨sT, hsT, hti⟩ := tiOf_inv hti0
    have hkd := kind_of (EO.tt _ _ hti)
    split at hv
    · rename_i el hk
      have hu := mkKind_slice (hkd.trans hk)
      split at hv
      · rename_i ei n k hei hln hlm
        split at hv
        · cases hv
        · rename_i hz0
          have hes : ¬ ei.size = 0 := fun q => hz0 (by rw [q]; rfl)
          split at hv
          · rename_i cs hcs
            obtain ⟨c, rn, hn1, hnl, hfc⟩ := firstA_run (P := P) R hcs rx (fun q hq => by rw [hln] at hq; injection hq with hq; subst hq; exact Nat.min_le_left _ _)
            have hfc := hfc w rfl
            have hcl : cs.length = Nat.min n k * ei.size := hnl (by rw [hln]; simp)
            have hlx := lenA_run (P := P) (w := w) hln rx
            have hsz := run_sizeOf' (w := w) (EO.tt _ _ hei)
            split at hv
            · injection hv with e1 e2; subst e1; subst e2
              cases rd
              injection hlm with hlm
              subst hlm
              refine SimB.pure R (x := .int .i64 (Nat.min n 0 : Nat)) ?_ (.int _ _)
              simp only [Builtin.copy_, hsT, a0, a1, Sem.run_bind, run_underlying' hu, Result.andThen_ok, hlx, hsz, hfc, Sem.run_pure, goInt]
            · rename_i b off l cp heq
              injection hv with e1 e2; subst e1; subst e2
              have hc0 : c = #[] := Array.eq_empty_of_size_eq_zero (by
                have h2 := rn.length
                rw [hcl, heq] at h2
                simp at h2
                omega)
              subst hc0
              injection hlm with hlm
              subst hlm
              obtain ⟨base, c', rfl⟩ := rd.slice_len
              refine SimB.pure R (x := .int .i64 (Nat.min n l : Nat)) ?_ (by rw [heq]; exact .int _ _)
              simp only [Builtin.copy_, hsT, a0, a1, Sem.run_bind, run_underlying' hu, Result.andThen_ok, hlx, hsz, hfc, storeCells, Sem.run_pure, goInt]
            · rename_i b off l cp k' heq
              injection hlm with hlm
              subst hlm
              split at hv
              · rename_i h2 hst
                injection hv with e1 e2; subst e1; subst e2
                obtain ⟨i, hi, ⟨c', rfl, _⟩ | ⟨a, es, q1, q2, _⟩⟩ := rd.slice_inv
                · obtain ⟨w', g1, g2, g3⟩ := storeN_run (P := P) R hi rn hst
                  refine ⟨.int .i64 (Nat.min n l : Nat), w', m, ?_, by rw [heq]; exact .int _ _, g2, g3⟩
                  simp only [Builtin.copy_, hsT, a0, a1, Sem.run_bind, run_underlying' hu, Result.andThen_ok, hlx, hsz, hfc, g1, Sem.run_pure, goInt]
                · subst q1
                  have : Nat.min n 0 = 0 := Nat.min_eq_right (Nat.zero_le _)
                  rw [this] at heq
                  cases heq
              · cases hv
            · cases hv
          · cases hv
      · cases hv
    · cases hv
  · cases hv

theorem delIn_keys {k : AV} : ∀ (es : List (AV × AV)), (es.map (·.1)).Nodup → ((delIn h k es).map (·.1)).Nodup ∧ ∀ q ∈ (delIn h k es).map (·.1), q ∈ es.map (·.1)
  | [], _ => ⟨by simp [delIn], by simp [delIn]⟩
  | q :: es, hn => by
    rw [List.map_cons, List.nodup_cons] at hn
    unfold delIn
    cases isKey h k q with
    | true => exact ⟨hn.2, fun x hx => by rw [List.map_cons]; exact List.mem_cons_of_mem _ hx⟩
    | false =>
      obtain ⟨h1, h2⟩ := delIn_keys (k := k) es hn.2
      simp only [cond_false, List.map_cons, List.nodup_cons]
      exact ⟨⟨fun q' => hn.1 (h2 _ q'), h1⟩, fun x hx => by
        rcases List.mem_cons.1 hx with rfl | hx
        · exact List.mem_cons_self ..
        · exact List.mem_cons_of_mem _ (h2 x hx)⟩

theorem delIn_rel {k : AV} {x : Value} : ∀ {es : List (AV × AV)} {l : List MapEntry}, All2 (KRel m h k x) es l → uniq (fun q => vEq x q.key) l → All2 (ERel m) (delIn h k es) (l.filter fun b => !vEq x b.key)
  | _, _, .nil, _ => .nil
  | _, _, .cons a b es l hr hl, hu => by
    unfold delIn
    cases hk : isKey h k a with
    | true =>
      have hb' : vEq x b.key = true := by rw [← hr.2.1]; exact hk
      have hrest := hu.rest (a := b) hb'
      rw [List.filter_cons, if_neg (by simp [hb'])]
      have : l.filter (fun b => !vEq x b.key) = l := List.filter_eq_self.2 fun q hq => by simp [hrest q hq]
      rw [this]
      exact hl.imp fun _ _ q => q.1
    | false =>
      have hb' : vEq x b.key = false := by rw [← hr.2.1]; exact hk
      rw [List.filter_cons, if_pos (by simp [hb'])]
      exact .cons _ _ _ _ hr.1 (delIn_rel hl hu.tail)

theorem sim_delete (EO : TabOK P e) {argTypes : Array TypeId} {ty : TypeId} {mv k : AV} {args : Array Value} (R : Rel G B C m h w.heap) (r : VRels m [mv, k] args.toList) (hv : builtinA e h .delete argTypes [mv, k] = .val v h') :
    SimB P G B C m h w (Builtin.delete_ argTypes ty args) v h' := by
  obtain ⟨m', k', rfl, a0, a1, rm, rk⟩ := args2 r
  simp only [builtinA, Env.ti] at hv
  split at hv
  · rename_i ti hti0
    obtain ⟨sT, hsT, hti⟩ := tiOf_inv hti0
    have hkd := kind_of (EO.tt _ _ hti)
    split at hv
    · rename_i kt et hk
      have hu := mkKind_map (hkd.trans hk)
      split at hv
      · rename_i ki hki
        split at hv
        · rename_i hkk
          have hck := fun emp => checkKey_run (w := w) EO hki rk hkk emp 9999
          split at hv
          · injection hv with e1 e2; subst e1; subst e2
            cases rm
            refine SimB.pure R (x := .tuple #[]) ?_ (.tup _ _ .nil)
            simp only [Builtin.delete_, hsT, a0, a1, Sem.run_bind, run_underlying' hu, Result.andThen_ok, hck, Sem.run_pure]
          · split at hv
            · rename_i r0 es ver hg
              split at hv
              · rename_i es2 hdel
                injection hv with e1 e2; subst e1; subst e2
                unfold delA at hdel
                split at hdel
                · rename_i hok
                  injection hdel with hdel
                  subst hdel
                  obtain ⟨i, hi, rfl⟩ := rm.map_inv
                  obtain ⟨es', clock, l', q0, q1, q2, q3, q4, q5, q6⟩ := map_obj R hi hg
                  have hfk := findKey_run (w := w) EO R hki hkk rk q3 q2 hok
                  have hkey := keyed R rk q3 hok
                  have huq := keyed_uniq hkey q6
                  have huq2 := huq.perm q2
                  have hgo := run_getObj (P := P) q1 (by intro _ _ _ q; cases q)
                  have hset := fun ob' => run_setObj (P := P) (ob' := ob') q1 (by intro _ _ _ q; cases q)
                  have hsub : (es'.toList.filter fun b => !vEq k' b.key).Sublist es'.toList := List.filter_sublist
                  obtain ⟨R', T'⟩ := map_put R hi hg (es2 := delIn h k es) (es'' := es'.toList.filter fun b => !vEq k' b.key) (l'' := l'.filter fun b => !vEq k' b.key) (clock := clock)
                    (q2.filter _) (delIn_rel hkey huq) ((hsub.map _).nodup q4) (fun q hq => q5 q (hsub.subset hq)) (delIn_keys es q6).1
                  refine ⟨.tuple #[], _, m, ?_, .tup _ _ .nil, R', T'⟩
                  cases hany : l'.any fun b => vEq k' b.key with
                  | true =>
                    obtain ⟨b, hb1, hb2⟩ := List.any_eq_true.1 hany
                    obtain ⟨j, hj, _, hget, _, her⟩ := ffind_some es'.toList 0 huq2 b (q2.mem_iff.1 hb1) hb2
                    have harr : es'.eraseIdxIfInBounds j = (es'.toList.filter fun b => !vEq k' b.key).toArray := by
                      apply Array.ext'
                      rw [Array.toList_eraseIdxIfInBounds]
                      simpa using her
                    simp only [Builtin.delete_, hsT, a0, a1, Sem.run_bind, run_underlying' hu, Result.andThen_ok, hgo, hck, hfk, hj, harr, hset, Sem.run_pure]
                  | false =>
                    have hnone2 : ∀ b ∈ es'.toList, vEq k' b.key = false := fun b hb => by
                      have := List.any_eq_false.1 hany b (q2.mem_iff.2 hb)
                      simpa using this
                    rw [ffind_none es'.toList 0 hnone2] at hfk
                    have harr : es' = (es'.toList.filter fun b => !vEq k' b.key).toArray := by
                      apply Array.ext'
                      rw [List.filter_eq_self.2 fun q hq => by simp [hnone2 q hq]]
                    simp only [Builtin.delete_, hsT, a0, a1, Sem.run_bind, run_underlying' hu, Result.andThen_ok, hgo, hck, hfk, hset, Sem.run_pure]
                    rw [← harr]
                · cases hdel
              · cases hv
            · cases hv
          · cases hv
        · cases hv
      · cases hv
    · cases hv
  · cases hv

theorem sim_max {argTypes : Array TypeId} {ty : TypeId} {x : AV} {l : List AV} {args : Array Value} (R : Rel G B C m h w.heap) (r : VRels m (x :: l) args.toList) (hv : builtinA e h .max argTypes (x :: l) = .val v h') :
    SimB P G B C m h w (Builtin.max_ argTypes ty args) v h' := by
  simp only [builtinA] at hv
  obtain ⟨h1, rfl⟩ := OR.of_val hv
  obtain ⟨la⟩ := args
  cases r with
  | cons _ x' _ l' rx rl =>
    obtain ⟨z, hz, hr⟩ := minmax_run (P := P) (w := w) (m := m) (f := fun b a => decide (b > a)) (g := Builtin.max2) (fun k a b k' => by simp [Builtin.max2]) maxA (fun x => by cases x <;> rfl) (fun x y l k a k' b q1 q2 => by subst q1; subst q2; simp [maxA]) (fun x y l v hv => by
      cases x <;> cases y <;> simp [maxA] at hv ⊢) l x x' l' rx rl v h1
    exact SimB.pure R (by simpa [Builtin.max_] using hz) hr
theorem sim_min {argTypes : Array TypeId} {ty : TypeId} {x : AV} {l : List AV} {args : Array Value} (R : Rel G B C m h w.heap) (r : VRels m (x :: l) args.toList) (hv : builtinA e h .min argTypes (x :: l) = .val v h') :
    SimB P G B C m h w (Builtin.min_ argTypes ty args) v h' := by
  simp only [builtinA] at hv
  obtain ⟨h1, rfl⟩ := OR.of_val hv
  obtain ⟨la⟩ := args
  cases r with
  | cons _ x' _ l' rx rl =>
    obtain ⟨z, hz, hr⟩ := minmax_run (P := P) (w := w) (m := m) (f := fun b a => decide (b < a)) (g := Builtin.min2) (fun k a b k' => by simp [Builtin.min2]) minA (fun x => by cases x <;> rfl) (fun x y l k a k' b q1 q2 => by subst q1; subst q2; simp [minA]) (fun x y l v hv => by
      cases x <;> cases y <;> simp [minA] at hv ⊢) l x x' l' rx rl v h1
    exact SimB.pure R (by simpa [Builtin.min_] using hz) hr

theorem sim_sliceData {argTypes : Array TypeId} {ty : TypeId} {x : AV} {args : Array Value} (R : Rel G B C m h w.heap) (r : VRels m [x] args.toList) (hv : builtinA e h .unsafeSliceData argTypes [x] = .val v h') :
    SimB P G B C m h w (Builtin.unsafeSliceData_ argTypes ty args) v h' := by
  obtain ⟨x', rfl, a0, rx⟩ := args1 r
  cases x with
  | nilslice =>
    simp only [builtinA] at hv
    injection hv with e1 e2; subst e1; subst e2
    cases rx
    exact SimB.pure R (x := .pointer none) rfl .nilptr
  | slice b off l c =>
    simp only [builtinA] at hv
    split at hv
    · cases hv
    · rename_i hc0
      injection hv with e1 e2; subst e1; subst e2
      have hc0' : ¬ c = 0 := fun q => hc0 (by rw [q]; rfl)
      obtain ⟨i, hi, ⟨c', rfl, hc⟩ | ⟨a, es, q1, q2, _⟩⟩ := rx.slice_inv
      · have : ¬ c' = 0 := by rcases hc with rfl | ⟨_, _, _, _, q, _⟩ <;> omega
        refine SimB.pure R (x := .pointer (some ⟨i.r, i.s + off, none⟩)) ?_ (.ptr _ _ i hi)
        show (if c' ≠ 0 then (Pure.pure (Value.pointer (some ⟨i.r, i.s + off, none⟩)) : Sem Value) else _).run P w = _
        rw [if_pos this]
        rfl
      · exact absurd q2 hc0'
  | _ => simp [builtinA] at hv
end
end Go.Ab
namespace Go.Ab
section
variable {G B : Nat} {C : CodeP} {P : Program} {e : Env} {m : Emb} {h h' : H} {w : World} {fr : Fr} {t : Array Value} {nt : Nat} {o : Oper} {v : AV}

theorem run_loadBytes : ∀ (ns : List Int) (a : Addr) (acc : ByteArray), (∀ j n, ns[j]? = some n → w.cell? (a.add j) = some (.int .u8 n)) → a.spot = none →
    (loadBytes a acc ns.length).run P w = .ok (ns.foldl (fun r n => r.push (UInt8.ofNat n.toNat)) acc) w
  | [], a, acc, _, _ => by simp [loadBytes]
  | n :: ns, a, acc, hc, ha => by
    have h0 : w.cell? a = some (.int .u8 n) := by simpa [Addr.add] using hc 0 n rfl
    obtain ⟨r, s, sp⟩ := a
    dsimp only at ha
    subst ha
    have hr := run_loadBytes ns ((⟨r, s, none⟩ : Addr).add 1) (acc.push (UInt8.ofNat n.toNat)) (fun j k hk => by
      have := hc (j + 1) k (by simpa using hk)
      rw [add_plain] at this
      rw [add_plain, add_plain]
      rw [show s + 1 + j = s + (j + 1) by omega]
      exact this) (by rw [add_plain])
    simp only [List.length_cons, loadBytes, Sem.run_bind, run_load' h0, Result.andThen_ok, List.foldl_cons]
    exact hr
theorem run_loadBytes2 : ∀ (ns : List Int) (a : Addr) (acc : ByteArray), (∀ j n, ns[j]? = some n → w.cell? (a.add j) = some (.int .u8 n)) → a.spot = none →
    (Extern.Bytes.loadBytes a ns.length acc).run P w = .ok (ns.foldl (fun r n => r.push (UInt8.ofNat n.toNat)) acc) w
  | [], a, acc, _, _ => by simp [Extern.Bytes.loadBytes]
  | n :: ns, a, acc, hc, ha => by
    have h0 : w.cell? a = some (.int .u8 n) := by simpa [Addr.add] using hc 0 n rfl
    obtain ⟨r, s, sp⟩ := a
    dsimp only at ha
    subst ha
    have hr := run_loadBytes2 ns ((⟨r, s, none⟩ : Addr).add 1) (acc.push (UInt8.ofNat n.toNat)) (fun j k hk => by
      have := hc (j + 1) k (by simpa using hk)
      rw [add_plain] at this
      rw [add_plain, add_plain]
      rw [show s + 1 + j = s + (j + 1) by omega]
      exact this) (by rw [add_plain])
    simp only [List.length_cons, Extern.Bytes.loadBytes, Sem.run_bind, run_load' h0, Result.andThen_ok, List.foldl_cons]
    exact hr

theorem bytes_at (R : Rel G B C m h w.heap) {b off n : Nat} {i : BI} {cs : List AV} {s : List UInt8} (hi : m b = some i) (hcs : h.loadN b off n = some cs) (hs : toU8s cs = some s) :
    ∃ ns : List Int, ns.length = n ∧ s = ns.map (fun n => UInt8.ofNat n.toNat) ∧ ∀ j n, ns[j]? = some n → w.cell? ((⟨i.r, i.s + off, none⟩ : Addr).add j) = some (.int .u8 n) := by
  obtain ⟨xs, r1, r2, _, _, r3⟩ := R.loadN hi hcs
  obtain ⟨ns, h1, h2⟩ := toU8s_rel hs r1
  subst h1
  refine ⟨ns, by simpa using r2, h2, fun j n hn => ?_⟩
  rw [add_plain]
  exact r3 j _ (by simp [hn])

theorem unsafeString_some {argTypes : Array TypeId} {ty pt : TypeId} {a : Addr} {k : IntKind} {n : Int} (hpt : argTypes[0]? = some pt) (h0 : ¬ n < 0) (h1 : ¬ n > IntKind.i64.max) :
    (Builtin.unsafeString_ argTypes ty #[.pointer (some a), .int k n]).run P w =
      (if n = 0 then (pure (.string .empty) : Sem Value) else do
        if ← variablesAt a (← elemOf pt) n.toNat then do
          let s ← loadBytes a .empty n.toNat
          freeze a n.toNat
          pure (.string s)
        else unsupported (.unsafePointer "String: not so many bytes at ptr")).run P w := by
  delta Builtin.unsafeString_ Builtin.unsafeString_.match_3
  simp only [List.size_toArray, List.length_cons, List.length_nil, Nat.reduceAdd, ↓reduceDIte, Array.getLit, List.getElem_toArray, List.getElem_cons_zero, List.getElem_cons_succ, Builtin.unsafeString_._sparseCasesOn_3]
  simp only [Sem.run_bind, asInt, asIntOf, Sem.run_pure, Result.andThen_ok, hpt, if_neg h0, if_neg h1]

theorem sim_unsafeString (EO : TabOK P e) {argTypes : Array TypeId} {ty : TypeId} {l : List AV} {args : Array Value} (R : Rel G B C m h w.heap) (r : VRels m l args.toList) (hv : builtinA e h .unsafeString argTypes l = .val v h') (ht : ∃ pt, argTypes[0]? = some pt) :
    SimB P G B C m h w (Builtin.unsafeString_ argTypes ty args) v h' := by
  obtain ⟨pt0, hpt0⟩ := ht
  simp only [builtinA] at hv
  split at hv <;> first | (cases hv; done) | skip
  all_goals first
    | (rename_i heq _; cases heq; done)
    | (rename_i heq; cases heq; done)
    | skip
  · rename_i k n _
    split at hv
    · rename_i hn0
      subst hn0
      injection hv with e1 e2; subst e1; subst e2
      obtain ⟨x, y, rfl, _, _, rx, ry⟩ := args2 r
      cases rx
      rw [ry.int_inv]
      refine SimB.pure R (x := .string .empty) ?_ (.str _ _ rfl)
      delta Builtin.unsafeString_ Builtin.unsafeString_.match_3
      simp only [List.size_toArray, List.length_cons, List.length_nil, Nat.reduceAdd, ↓reduceDIte, Array.getLit, List.getElem_toArray, List.getElem_cons_zero, List.getElem_cons_succ, Builtin.unsafeString_._sparseCasesOn_3]
      simp [asInt, asIntOf, hpt0, IntKind.max, IntKind.signed, IntKind.bits]
    · cases hv
  · rename_i b off k n _
    obtain ⟨x, y, rfl, _, _, rx, ry⟩ := args2 r
    obtain ⟨i, hi, rfl⟩ := rx.ptr_inv
    have ry' : y = .int k (n : Int) := ry.int_inv
    subst ry'
    split at hv
    · rename_i hn0
      have hn0' : n = 0 := Nat.eq_of_beq_eq_true hn0
      subst hn0'
      injection hv with e1 e2; subst e1; subst e2
      refine SimB.pure R (x := .string .empty) ?_ (.str _ _ rfl)
      rw [unsafeString_some hpt0 (by simp) (by simp [IntKind.max, IntKind.signed, IntKind.bits])]
      simp
    · rename_i hn0
      have hn0' : ¬ n = 0 := fun q => hn0 (by rw [q]; rfl)
      split at hv
      · rename_i pi hpi0
        obtain ⟨pt, hpt, hpi⟩ := tiOf_inv hpi0
        rw [hpt0] at hpt
        cases hpt
        split at hv
        · rename_i el hk
          simp only [Env.ti] at hv
          split at hv
          · rename_i ei hei
            split at hv
            · rename_i r' hku hrow
              split at hv
              · rename_i hcond
                simp only [Bool.and_eq_true, Nat.ble_eq] at hcond
                obtain ⟨⟨⟨q1, q2⟩, q3⟩, q4⟩ := hcond
                have q1' : r'.elem = el := Nat.eq_of_beq_eq_true q1
                have q2' : ei.size = 1 := Nat.eq_of_beq_eq_true q2
                split at hv
                · rename_i cs hcs
                  split at hv
                  · rename_i s hs
                    injection hv with e1 e2; subst e1; subst e2
                    have hrow' : h.get b = some (.row r') := by
                      unfold H.row? at hrow
                      split at hrow
                      · rename_i r2 hr2
                        injection hrow with hrow
                        rw [hr2, hrow]
                      · cases hrow
                    have hloadN : h.loadN b off n = some cs := by
                      unfold H.loadN
                      rw [hrow]
                      exact hcs
                    obtain ⟨ns, hnl, hsn, hcell⟩ := bytes_at R hi hloadN hs
                    obtain ⟨ob, k1, k2⟩ := R.obj b i hi
                    rw [hrow'] at k1
                    cases k1
                    obtain ⟨c, fz, e1, e2, e3, e4, e5, e5', e6, e7⟩ := k2
                    have hB := R.above hi hrow' (by simp [AO.ro, q3])
                    have hon : off + n ≤ r'.n := by rw [e4]; exact (lpart_length _ _ _ _ hcs).2
                    have hm := EO.tt _ _ hei
                    have hcellsOf : P.cellsOf el = 1 := by
                      obtain ⟨inf, u, hinf, _, hsz, _⟩ := mkTI_info hm
                      simp [Program.cellsOf, hinf, hsz, q2']
                    obtain ⟨d, hd⟩ : ∃ d, P.depth = d + 2 := ⟨_, rfl⟩
                    have hlies : liesAt P (d + 2) el (c.size / P.cellsOf el) (i.s + off) el n = true := by
                      rw [hcellsOf, Nat.div_one]
                      unfold liesAt
                      rw [Bool.or_eq_true]
                      refine .inl ?_
                      rw [hd]
                      unfold rowAt
                      simp only [hcellsOf, Nat.succ_ne_zero, if_false, Nat.div_one, Nat.mod_one, Bool.or_eq_true, Bool.and_eq_true, decide_eq_true_eq]
                      refine .inl ⟨⟨rfl, by omega⟩, ?_⟩
                      simp [sameLayout]
                    have hvar : (variablesAt ⟨i.r, i.s + off, none⟩ el n).run P w = .ok true w := by
                      simp only [variablesAt, Sem.run_bind, run_program, Result.andThen_ok, run_shape, World.shape?, e1, q1', Sem.run_pure]
                      rw [hd, hlies]
                    have helem : (elemOf pt0).run P w = .ok el w := by
                      simp [elemOf, run_underlying' (mkKind_ptr ((kind_of (EO.tt _ _ hpi)).trans hk))]
                    have hlb := run_loadBytes (P := P) ns ⟨i.r, i.s + off, none⟩ .empty hcell rfl
                    rw [hnl] at hlb
                    obtain ⟨fz', hfz'⟩ : ∃ f, (if fz.1 == fz.2 then (i.s + off, i.s + off + n) else (min fz.1 (i.s + off), max fz.2 (i.s + off + n))) = f := ⟨_, rfl⟩
                    have hW : (w.freeze ⟨i.r, i.s + off, none⟩ n).heap[i.r]? = some (.cells c r'.elem fz') := by
                      simp only [World.freeze, hn0', if_false, Array.getElem?_modify, e1, Option.map_some]
                      simp [← hfz']
                    have hoth : ∀ k, k ≠ i.r → (w.freeze ⟨i.r, i.s + off, none⟩ n).heap[k]? = w.heap[k]? := fun k hk => by
                      simp [World.freeze, hn0', Array.getElem?_modify, Ne.symm hk]
                    have hsz : (w.freeze ⟨i.r, i.s + off, none⟩ n).heap.size = w.heap.size := by simp [World.freeze, hn0']
                    have hpl : (w.freeze ⟨i.r, i.s + off, none⟩ n).os = w.os ∧ (w.freeze ⟨i.r, i.s + off, none⟩ n).output = w.output ∧ (w.freeze ⟨i.r, i.s + off, none⟩ n).tape = w.tape := by simp [World.freeze, hn0']
                    have R' := R.put (o' := .row { r' with wr := false }) (hp' := (w.freeze ⟨i.r, i.s + off, none⟩ n).heap) hi hrow' rfl hB hsz hoth (by
                      rw [hW]
                      exact ⟨c, fz', rfl, e2, e3, e4, e5, e5', e6, fun q => by cases q⟩) (fun _ _ _ _ q => by cases q) (fun _ _ q => by cases q)
                    refine ⟨.string (ns.foldl (fun r n => r.push (UInt8.ofNat n.toNat)) .empty), _, m, ?_, .str _ _ (by rw [foldl_push, hsn]; rfl), R', Turn.put hi hB hsz hoth hpl.1 hpl.2.1 hpl.2.2⟩
                    rw [unsafeString_some hpt0 (by omega) (by simp only [IntKind.max, IntKind.signed, IntKind.bits]; simp; omega)]
                    have hn0i : ¬ ((n : Int) = 0) := by omega
                    simp only [if_neg hn0i, Sem.run_bind, helem, Result.andThen_ok, Int.toNat_natCast, hvar, if_true, hlb, run_freeze, Sem.run_pure]
                  · cases hv
                · cases hv
              · cases hv
            · cases hv
          · cases hv
        · cases hv
      · cases hv

/-- What the model carries out in place of a function without a body. -/
def extFn : Ext → Array Value → Sem Value
  | .mapsClone => Extern.MapsClone.clone
  | .indexByte => Extern.BytealgIndexByte.indexByte
  | .countByte => Extern.BytealgCount.count
  | .cmpstring => Extern.BytealgCompare.compare
  | .noEscape => Extern.AbiNoEscape.same

theorem idxF_eq (c : UInt8) : ∀ (l : List UInt8) (i : Nat), extA.idxF l c i = if Lib.indexByte l c = -1 then -1 else Lib.indexByte l c + i
  | [], i => rfl
  | b :: l, i => by
    unfold extA.idxF Lib.indexByte
    cases hb : b == c with
    | true => simp
    | false =>
      have h1 := Lib.indexByte_ge l c
      rw [cond_false, idxF_eq c l (i + 1)]
      simp only [Bool.false_eq_true, if_false, beq_iff_eq]
      by_cases h2 : Lib.indexByte l c = -1
      · simp [h2]
      · simp only [h2, if_false]
        rw [if_neg (by omega)]
        omega
theorem cntF_eq (c : UInt8) : ∀ (l : List UInt8) (n : Nat), extA.cntF l c n = n + Lib.countByte l c
  | [], n => by simp [extA.cntF, Lib.countByte]
  | b :: l, n => by
    unfold extA.cntF
    have : Lib.countByte (b :: l) c = Lib.countByte l c + if b == c then 1 else 0 := by simp [Lib.countByte, List.count_cons]
    rw [this]
    cases hb : b == c with
    | true => rw [cond_true, cntF_eq c l]; simp; omega
    | false => rw [cond_false, cntF_eq c l]; simp

theorem indexByte_of (b : ByteArray) (x : Value) (c : Int) (hx : (Extern.Bytes.bytesOf x).run P w = .ok b w) : (Extern.BytealgIndexByte.indexByte #[x, .int .u8 c]).run P w = .ok (.int .i64 (Lib.indexByte b.data.toList c.toNat.toUInt8)) w := by
  rw [← Lib.run_indexByteString (P := P) b c w]
  delta Extern.BytealgIndexByte.indexByte Extern.BytealgIndexByte.indexByte.match_2
  simp only [List.size_toArray, List.length_cons, List.length_nil, Nat.reduceAdd, ↓reduceDIte, Array.getLit, List.getElem_toArray, List.getElem_cons_zero, List.getElem_cons_succ]
  have hs : (Extern.Bytes.bytesOf (.string b)).run P w = .ok b w := rfl
  simp only [Sem.run_bind, hx, hs, Result.andThen_ok]

theorem sim_ext {x : Ext} {l : List AV} {args : Array Value} (R : Rel G B C m h w.heap) (r : VRels m l args.toList) (hv : extA h x l = some (v, h')) : SimB P G B C m h w (extFn x args) v h' := by
  unfold extA at hv
  split at hv
  · rename_i ty r0
    split at hv
    · rename_i es ver hg
      injection hv with hv
      injection hv with e1 e2; subst e1; subst e2
      obtain ⟨x', rfl, _, rx⟩ := args1 r
      cases rx with
      | iface _ _ y ry =>
        obtain ⟨i, hi, rfl⟩ := ry.map_inv
        obtain ⟨es', clock, l', q0, q1, q2, q3, q4, q5, q6⟩ := map_obj R hi hg
        have R' := R.new (i := ⟨w.heap.size, 0, 0, none⟩) (o := .map es 0) (ob := .map es' clock) rfl ⟨es', clock, l', rfl, rfl, q2, q3.imp fun _ _ q => ⟨q.1.mono (R.upd_le _), q.2.mono (R.upd_le _)⟩, q4, q5, q6⟩ (fun _ _ _ _ x => by cases x)
        refine ⟨.iface ty (.map (some w.heap.size)), { w with heap := w.heap.push (.map es' clock) }, _, ?_, .iface _ _ _ (.map (m := upd m h.sz ⟨w.heap.size, 0, 0, none⟩) _ _ (upd_self _ _ _)), R', Turn.alloc R rfl rfl rfl rfl rfl⟩
        show (Extern.MapsClone.clone #[.iface ty (.map (some i.r))]).run P w = _
        delta Extern.MapsClone.clone Extern.MapsClone.clone.match_2
        simp only [List.size_toArray, List.length_cons, List.length_nil, Nat.reduceAdd, ↓reduceDIte, Array.getLit, List.getElem_toArray, List.getElem_cons_zero, List.getElem_cons_succ]
        simp only [Sem.run_bind, run_getObj (P := P) q1 (by intro _ _ _ q; cases q), Result.andThen_ok, run_newObj, Sem.run_pure]
    · cases hv
  · rename_i s c
    injection hv with hv
    injection hv with e1 e2; subst e1; subst e2
    obtain ⟨x', y', rfl, _, _, rx, ry⟩ := args2 r
    obtain ⟨b, rfl, hb⟩ := rx.str_inv
    rw [ry.int_inv]
    refine SimB.pure R (Lib.run_indexByteString (P := P) b c w) ?_
    rw [idxF_eq, hb]
    have := Lib.indexByte_ge s c.toNat.toUInt8
    split
    · rename_i h1; rw [h1]; exact .int _ _
    · rw [show ((0 : Nat) : Int) = 0 from rfl, Int.add_zero]; exact .int _ _
  · rename_i c
    injection hv with hv
    injection hv with e1 e2; subst e1; subst e2
    obtain ⟨x', y', rfl, _, _, rx, ry⟩ := args2 r
    cases rx
    rw [ry.int_inv]
    refine SimB.pure R (x := .int .i64 (-1)) ?_ (.int _ _)
    exact indexByte_of (P := P) (w := w) .empty (.slice none 0 0) c rfl
  · rename_i b off n c0 c
    split at hv
    · rename_i cs hcs
      cases hs : toU8s cs with
      | none => rw [hs] at hv; cases hv
      | some s =>
        rw [hs] at hv
        injection hv with hv
        injection hv with e1 e2; subst e1; subst e2
        obtain ⟨x', y', rfl, _, _, rx, ry⟩ := args2 r
        rw [ry.int_inv]
        have fin : ∀ z : ByteArray, z.data.toList = s → (Extern.Bytes.bytesOf x').run P w = .ok z w → SimB P G B C m h w (extFn .indexByte #[x', .int .u8 c]) (.int .i64 (extA.idxF s c.toNat.toUInt8 0)) h := by
          intro z hz hx'
          refine SimB.pure R (indexByte_of (P := P) z x' c hx') ?_
          rw [idxF_eq, hz]
          have := Lib.indexByte_ge s c.toNat.toUInt8
          split
          · rename_i h1; rw [h1]; exact .int _ _
          · rw [show ((0 : Nat) : Int) = 0 from rfl, Int.add_zero]; exact .int _ _
        obtain ⟨i, hi, ⟨c', rfl, _⟩ | ⟨a, es, hl0, hc0, rfl, hop, hab⟩⟩ := rx.slice_inv
        · obtain ⟨ns, hnl, hsn, hcell⟩ := bytes_at R hi hcs hs
          have hlb := run_loadBytes2 (P := P) ns ⟨i.r, i.s + off, none⟩ .empty hcell rfl
          rw [hnl] at hlb
          exact fin (ns.foldl (fun r n => r.push (UInt8.ofNat n.toNat)) .empty) (by rw [foldl_push, hsn]; rfl) (by simpa [Extern.Bytes.bytesOf] using hlb)
        · subst hl0
          have hcs0 : cs = [] := by
            unfold H.loadN at hcs
            split at hcs
            · exact List.eq_nil_of_length_eq_zero (lpart_length _ _ _ _ hcs).1
            · cases hcs
          subst hcs0
          simp [toU8s] at hs
          subst hs
          exact fin .empty rfl (by simp [Extern.Bytes.bytesOf, Extern.Bytes.loadBytes])
    · cases hv
  · rename_i s c
    injection hv with hv
    injection hv with e1 e2; subst e1; subst e2
    obtain ⟨x', y', rfl, _, _, rx, ry⟩ := args2 r
    obtain ⟨b, rfl, hb⟩ := rx.str_inv
    rw [ry.int_inv]
    refine SimB.pure R (Lib.run_countString (P := P) b c w) ?_
    rw [cntF_eq, hb, Nat.zero_add]
    exact .int _ _
  · rename_i s s'
    injection hv with hv
    injection hv with e1 e2; subst e1; subst e2
    obtain ⟨x', y', rfl, _, _, rx, ry⟩ := args2 r
    obtain ⟨b, rfl, hb⟩ := rx.str_inv
    obtain ⟨b', rfl, hb'⟩ := ry.str_inv
    refine SimB.pure R (Lib.run_compareString (P := P) b b' w) ?_
    rw [hb, hb']
    exact .int _ _
  · rename_i y
    injection hv with hv
    injection hv with e1 e2; subst e1; subst e2
    obtain ⟨x', rfl, _, rx⟩ := args1 r
    exact SimB.pure R (x := x') rfl rx
  · cases hv
end
end Go.Ab
namespace Go.Ab
section
variable {G B : Nat} {C : CodeP} {P : Program} {e : Env} {m : Emb} {h h' : H} {w : World} {fr : Fr} {t : Array Value} {nt : Nat} {o : Oper} {v : AV}

theorem ptr_new {m : Emb} {b : Nat} {i : BI} (hs : i.s = 0) : VRel (upd m b i) (.ptr b 0) (.pointer (some ⟨i.r, 0, none⟩)) := by
  have := VRel.ptr (m := upd m b i) b 0 i (upd_self _ _ _)
  rw [hs] at this
  exact this

theorem sim_range (EO : TabOK P e) {ty : TypeId} {x : Operand} (ho : o.op = .range ty x) (R : Rel G B C m h w.heap) (F : TRel m fr.tmps t) (hx : opdOk G x = true) (hv : opA e fr h nt o = .val v h') : Sim1 P G B C m h w t o v h' := by
  simp only [opA, ho, Env.ti] at hv
  split at hv
  · rename_i ti a hti ha
    have rx := eval_rel R F hx ha
    have hkd := kind_of (EO.tt _ _ hti)
    split at hv
    · rename_i s hk
      injection hv with e1 e2; subst e1; subst e2
      obtain ⟨b, hxv, hb⟩ := rx.str_inv
      have R' := R.new (i := ⟨w.heap.size, 0, 0, none⟩) (o := .siter s 0) (ob := .stringIter b 0) rfl ⟨b, rfl, rfl, hb⟩ (fun _ _ _ _ x => by cases x)
      refine ⟨.pointer (some ⟨w.heap.size, 0, none⟩), { w with heap := w.heap.push (.stringIter b 0) }, _, .inl ?_, ptr_new rfl, R', Turn.alloc R rfl rfl rfl rfl rfl⟩
      simp [execOp, ho, hxv, Instr.range, run_underlying' (mkKind_str (hkd.trans hk))]
    · rename_i kt et hk
      injection hv with e1 e2; subst e1; subst e2
      have hxv : ev t x = .map none := by generalize ev t x = y at rx; cases rx; rfl
      have R' := R.new (i := ⟨w.heap.size, 0, 0, none⟩) (o := .miter none 0 [] none) (ob := .mapIter none 0 #[] 0) rfl ⟨rfl, 0, #[], 0, rfl⟩ (fun _ _ _ _ x => by cases x)
      refine ⟨.pointer (some ⟨w.heap.size, 0, none⟩), { w with heap := w.heap.push (.mapIter none 0 #[] 0) }, _, .inl ?_, ptr_new rfl, R', Turn.alloc R rfl rfl rfl rfl rfl⟩
      simp [execOp, ho, hxv, Instr.range, run_underlying' (mkKind_map (hkd.trans hk))]
    · rename_i kt et r0 hk
      split at hv
      · rename_i es ver hg
        injection hv with e1 e2; subst e1; subst e2
        obtain ⟨im, him, hxv⟩ := rx.map_inv
        obtain ⟨es', clock, l', q0, q1, q2, q3, q4, q5, q6⟩ := map_obj R him hg
        have hlt := (R.bound _ _ him)
        have himr := R.dom _ _ him
        have hle := R.upd_le ⟨w.heap.size, 0, 0, none⟩
        have R' := R.new (i := ⟨w.heap.size, 0, 0, none⟩) (o := .miter (some r0) ver es none) (ob := .mapIter (some im.r) clock #[] clock) rfl ⟨rfl, im, clock, #[], clock, hle _ _ him, rfl⟩ (fun mb ver' left cur hq => by
          cases hq
          refine ⟨es, ver, by rw [H.get_new, if_neg (Nat.ne_of_lt hlt)]; exact hg, Nat.le_refl _, fun _ => ⟨im, #[], clock, es', l', hle _ _ him, ?_, ?_, ?_, q3.imp fun _ _ q => ⟨q.1.mono hle, q.2.mono hle⟩, fun _ _ q => by cases q⟩⟩
          · rw [Array.getElem?_push, if_neg (by omega)]; exact q1
          · simp
          · have : (es'.toList.filter fun e => !(#[] : Array Nat).contains e.born) = es'.toList := by
              rw [List.filter_eq_self]
              intro _ _
              simp
            rw [this]
            exact q2)
        refine ⟨.pointer (some ⟨w.heap.size, 0, none⟩), { w with heap := w.heap.push (.mapIter (some im.r) clock #[] clock) }, _, .inl ?_, ptr_new rfl, R', Turn.alloc R rfl rfl rfl rfl rfl⟩
        simp [execOp, ho, hxv, Instr.range, run_underlying' (mkKind_map (hkd.trans hk)), run_getObj (P := P) q1 (by intro _ _ _ q; cases q)]
      · cases hv
    · cases hv
  · cases hv

theorem choose_mapNext (n : Nat) (hn : 0 < n) : ∃ j w1, (choose (.mapNext n)).run P w = .ok j w1 ∧ j < n ∧ w1.heap = w.heap ∧ w1.os = w.os ∧ w1.output = w.output ∧ w1.tape = w.tape := by
  by_cases h1 : n ≤ 1
  · exact ⟨0, w, by simp [Question.forced, h1], hn, rfl, rfl, rfl, rfl⟩
  · exact ⟨(w.tape w.drawn (.mapNext n)) % n, { w with drawn := w.drawn + 1 }, by simp [Question.forced, h1, Question.cut], Nat.mod_lt _ hn, rfl, rfl, rfl, rfl⟩

theorem leraseIdx_eq {α : Type} : ∀ (l : List α) (n : Nat), leraseIdx l n = l.eraseIdx n
  | [], n => by simp [leraseIdx]
  | _ :: l, 0 => rfl
  | a :: l, n + 1 => by simp [leraseIdx, leraseIdx_eq l n]

theorem All2.get {α β : Type} {R : α → β → Prop} {l : List α} {k : List β} (x : All2 R l k) : ∀ (n : Nat) (b : β), k[n]? = some b → ∃ a, l[n]? = some a ∧ R a b := by
  induction x with
  | nil => intro n b h; simp at h
  | cons a b l k hr _ ih =>
    intro n c h
    cases n with
    | zero => simp at h; subst h; exact ⟨a, rfl, hr⟩
    | succ n => simpa using ih n c (by simpa using h)
theorem All2.erase {α β : Type} {R : α → β → Prop} {l : List α} {k : List β} (x : All2 R l k) : ∀ (n : Nat), All2 R (l.eraseIdx n) (k.eraseIdx n) := by
  induction x with
  | nil => intro n; simpa using .nil
  | cons a b l k hr hl ih =>
    intro n
    cases n with
    | zero => simpa using hl
    | succ n => simpa using .cons a b _ _ hr (ih n)

theorem nodup_erase_filter {l : List MapEntry} : (l.map (·.born)).Nodup → ∀ (n : Nat) (b : MapEntry), l[n]? = some b → l.eraseIdx n = l.filter fun q => !(q.born == b.born) := by
  induction l with
  | nil => intro _ n b h; simp at h
  | cons a l ih =>
    intro hn n b h
    rw [List.map_cons, List.nodup_cons] at hn
    cases n with
    | zero =>
      simp at h
      subst h
      rw [List.eraseIdx_cons_zero, List.filter_cons, if_neg (by simp)]
      symm
      rw [List.filter_eq_self]
      intro q hq
      have : q.born ≠ a.born := fun e => hn.1 (e ▸ List.mem_map.2 ⟨q, hq, rfl⟩)
      simpa using this
    | succ n =>
      have hb : l[n]? = some b := by simpa using h
      have hmem := List.mem_of_getElem? hb
      have hab : a.born ≠ b.born := fun e => hn.1 (e ▸ List.mem_map.2 ⟨b, hmem, rfl⟩)
      rw [List.eraseIdx_cons_succ, ih hn.2 n b hb, List.filter_cons, if_pos (by simpa using hab)]

/-- One step of an iteration over a map, on the real side: some entry that is left, or the end. -/
theorem mapNext_run {ty : TypeId} (R : Rel G B C m h w.heap) {r mb ver : Nat} {left : List (AV × AV)} {cur : Option (AV × AV)} {i : BI} (hi : m r = some i) (hg : h.get r = some (.miter (some mb) ver left cur)) {es : List (AV × AV)} (hgm : h.get mb = some (.map es ver)) :
    (left = [] ∧ (Instr.next (.pointer (some ⟨i.r, i.s + 0, none⟩)) false ty).run P w = .ok (.tuple #[.bool false]) w) ∨
    (left ≠ [] ∧ ∃ n k x w', lget left n = some (k, x) ∧ ∃ v', (Instr.next (.pointer (some ⟨i.r, i.s + 0, none⟩)) false ty).run P w = .ok v' w' ∧ VRel m (.tup [.bool true, k, x]) v' ∧
      Rel G B C m (h.put r (.miter (some mb) ver (leraseIdx left n) (some (k, x)))) w'.heap ∧ Turn B m h w m (h.put r (.miter (some mb) ver (leraseIdx left n) (some (k, x)))) w') := by
  obtain ⟨es0, v0, a1, a2, a3⟩ := R.iter r i mb ver left cur hi hg
  rw [hgm] at a1
  cases a1
  obtain ⟨im, seen, last, es', l', b1, b2, b3, b4, b5, b6⟩ := a3 rfl
  obtain ⟨es2, clock, l2, q0, q1, q2, q3, q4, q5, q6⟩ := map_obj R b1 hgm
  rw [b2] at q1
  cases q1
  obtain ⟨ob, k1, k2⟩ := R.obj r i hi
  rw [hg] at k1
  cases k1
  have hs0 : i.s = 0 := k2.1
  have hgo := run_getObj (P := P) b3 (by intro _ _ _ q; cases q)
  have hgm' := run_getObj (P := P) b2 (by intro _ _ _ q; cases q)
  have hall : ∀ q ∈ es'.toList, q.born < last := q5
  have hcond : (!seen.isEmpty && !es'.isEmpty && es'.all (·.born ≥ last)) = false := by
    by_cases hemp : es'.isEmpty = true
    · simp [hemp]
    · have : es'.all (·.born ≥ last) = false := by
        rw [Bool.eq_false_iff]
        intro hq
        rw [Array.all_eq_true_iff_forall_mem] at hq
        have hne : es'.toList ≠ [] := by
          intro q
          apply hemp
          rw [Array.isEmpty_iff]
          exact Array.toList_inj.1 (by simpa using q)
        obtain ⟨x, hx⟩ := List.exists_mem_of_ne_nil _ hne
        have h1 := hall x hx
        have h2 := hq x (Array.mem_toList_iff.1 hx)
        simp at h2
        omega
      simp [this]
  have hleft : (es'.filter fun e => !seen.contains e.born).toList = es'.toList.filter fun e => !seen.contains e.born := by simp
  have hold : (es'.filter fun e => !seen.contains e.born).filter (·.born < last) = es'.filter fun e => !seen.contains e.born := by
    apply Array.toList_inj.1
    rw [Array.toList_filter, List.filter_eq_self]
    intro q hq
    rw [hleft] at hq
    simpa using hall q (List.mem_filter.1 hq).1
  have hnew : (es'.filter fun e => !seen.contains e.born).filter (·.born ≥ last) = #[] := by
    apply Array.toList_inj.1
    rw [Array.toList_filter]
    rw [List.filter_eq_nil_iff]
    intro q hq
    rw [hleft] at hq
    have := hall q (List.mem_filter.1 hq).1
    simp; omega
  have hllen := b5.length
  have hplen := b4.length_eq
  cases hlc : left with
  | nil =>
    refine .inl ⟨rfl, ?_⟩
    subst hlc
    have h0 : es'.filter (fun e => !seen.contains e.born) = #[] := by
      apply Array.toList_inj.1
      rw [hleft]
      apply List.eq_nil_of_length_eq_zero
      rw [← hplen, ← hllen]
      rfl
    rw [hs0]
    simp only [Instr.next, Sem.run_bind, hgo, Result.andThen_ok, hgm', hcond, Bool.false_eq_true, if_false, h0]
    simp [Question.forced]
  | cons p0 left0 =>
    rw [← hlc]
    refine .inr ⟨by rw [hlc]; simp, ?_⟩
    have hpos : 0 < (es'.filter fun e => !seen.contains e.born).size := by
      rw [← Array.length_toList, hleft, ← hplen, ← hllen, hlc]
      simp
    obtain ⟨j, w1, c1, c2, c3, c4, c5, c6⟩ := choose_mapNext (P := P) (w := w) (es'.filter fun e => !seen.contains e.born).size hpos
    obtain ⟨ent, hent⟩ : ∃ ent, (es'.filter fun e => !seen.contains e.born)[j]? = some ent := ⟨_, Array.getElem?_eq_getElem c2⟩
    have hmem : ent ∈ es'.toList.filter fun e => !seen.contains e.born := by rw [← hleft]; exact List.mem_of_getElem? (i := j) (by rw [Array.getElem?_toList]; exact hent)
    have hmem' : ent ∈ l' := b4.mem_iff.2 hmem
    obtain ⟨n, hn⟩ := List.getElem?_of_mem hmem'
    obtain ⟨a, ha, hra⟩ := b5.get n ent hn
    obtain ⟨k, x⟩ := a
    have hent_es : ent ∈ es'.toList := (List.mem_filter.1 hmem).1
    have hnd : ((es'.toList.filter fun e => !seen.contains e.born).map (·.born)).Nodup := (List.filter_sublist.map _).nodup q4
    have hlt := R.dom r i hi
    have hB := R.above hi hg (by simp [AO.ro])
    let w' : World := { w1 with heap := w1.heap.setIfInBounds i.r (.mapIter (some im.r) last (seen.push ent.born) last) }
    have hne : ∀ k, k ≠ i.r → w'.heap[k]? = w.heap[k]? := fun k hk => by
      show (w1.heap.setIfInBounds i.r _)[k]? = _
      rw [c3]
      exact Array.getElem?_setIfInBounds_ne (Ne.symm hk)
    have hself : w'.heap[i.r]? = some (.mapIter (some im.r) last (seen.push ent.born) last) := by
      show (w1.heap.setIfInBounds i.r _)[i.r]? = _
      rw [c3, Array.getElem?_setIfInBounds_self_of_lt hlt]
    have hsz : w'.heap.size = w.heap.size := by show (w1.heap.setIfInBounds i.r _).size = _; rw [c3]; simp
    have hmbr : mb ≠ r := fun q => by rw [q, hg] at hgm; cases hgm
    refine ⟨n, k, x, w', by rw [lget_eq]; exact ha, .tuple #[.bool true, ent.key, ent.val], ?_, .tup _ _ (.cons _ _ _ _ (.bool _) (.cons _ _ _ _ hra.1 (.cons _ _ _ _ hra.2 .nil))), ?_, ?_⟩
    · have hset : (setObj i.r (.mapIter (some im.r) last (seen.push ent.born) last)).run P w1 = .ok () w' := run_setObj (P := P) (by rw [c3]; exact b3) (by intro _ _ _ q; cases q)
      rw [hs0]
      have hne0 : (es'.filter fun e => !seen.contains e.born).isEmpty = false := by
        rw [Bool.eq_false_iff]
        intro q
        rw [Array.isEmpty_iff] at q
        rw [q] at hpos
        simp at hpos
      have hcand : ((if (es'.filter fun e => !seen.contains e.born).isEmpty = true then #[none] else #[]) ++ Array.map some ((es'.filter fun e => !seen.contains e.born) ++ #[])) = Array.map some (es'.filter fun e => !seen.contains e.born) := by
        rw [hne0]
        simp
      have hget : (Array.map some (es'.filter fun e => !seen.contains e.born))[j]? = some (some ent) := by
        rw [Array.getElem?_map, hent]
        rfl
      simp only [Instr.next, Sem.run_bind, hgo, Result.andThen_ok, hgm', hcond, Bool.false_eq_true, if_false, hold, hnew, hcand, Array.size_map, c1, hget, hset, Sem.run_pure]
    · refine R.put hi hg rfl hB hsz hne ?_ ?_ (fun _ _ q => by cases q)
      · rw [hself]
        exact ⟨hs0, im, last, _, last, b1, rfl⟩
      · intro mb' ver' left' cur' hq
        cases hq
        refine ⟨es, ver, by rw [H.get_put, if_neg hmbr]; exact hgm, Nat.le_refl _, fun _ => ⟨im, seen.push ent.born, last, es', l'.eraseIdx n, b1, ?_, hself, ?_, ?_, ?_⟩⟩
        · rw [hne _ (fun q => ?_)]
          · exact b2
          · have := R.inj mb r im i _ _ b1 hi hgm hg rfl rfl hmbr
            exact this q
        · have hl'nd : (l'.map (·.born)).Nodup := (b4.map _).nodup_iff.2 hnd
          rw [nodup_erase_filter hl'nd n ent hn]
          have : (es'.toList.filter fun e => !(seen.push ent.born).contains e.born) = (es'.toList.filter fun e => !seen.contains e.born).filter fun q => !(q.born == ent.born) := by
            rw [List.filter_filter]
            apply List.filter_congr
            intro q _
            rw [Array.contains_push, Bool.not_or, Bool.and_comm]
          rw [this]
          exact b4.filter _
        · rw [leraseIdx_eq]
          exact b5.erase n
        · intro k' x' hq
          cases hq
          exact ⟨ent, hent_es, by simp, hra.1, hra.2⟩
    · exact Turn.trans (w₁ := w) (w₂ := w1) (m₂ := m) (h₂ := h) (Turn.of_world c3 c4 c5 c6) (Turn.put hi hB (by rw [c3]; exact hsz) (fun k hk => by rw [c3]; exact hne k hk) rfl rfl rfl)
end
end Go.Ab
namespace Go.Ab
section
variable {G B : Nat} {C : CodeP} {P : Program} {e : Env} {m : Emb} {h h' : H} {w : World} {fr : Fr} {t : Array Value} {nt : Nat} {o : Oper} {v : AV}

theorem next_exec {x : Operand} {isStr : Bool} (ho : o.op = .next x isStr) {p : Value} (hp : ev t x = p) {v' : Value} {w' : World} (hr : (Instr.next p isStr o.type).run P w = .ok v' w') : (execOp (ev t) o).run P w = .ok (.value v') w' := by
  subst hp
  have : (execOp (ev t) o).run P w = ((Instr.next (ev t x) isStr o.type).run P w).andThen (fun a w' => .ok (.value a) w') := by simp [execOp, ho]
  rw [this, hr]; rfl

theorem lget_lt {α : Type} {l : List α} {n : Nat} {a : α} (h : lget l n = some a) : n < l.length := by
  rw [lget_eq] at h
  exact (List.getElem?_eq_some_iff.1 h).1

/-- A step of an iteration that is settled. -/
theorem sim_next {x : Operand} {isStr : Bool} (ho : o.op = .next x isStr) (R : Rel G B C m h w.heap) (F : TRel m fr.tmps t) (hx : opdOk G x = true) :
    (∀ v h', opA e fr h nt o = .val v h' → Sim1 P G B C m h w t o v h') ∧
    (∀ n kk, opA e fr h nt o = .pick n kk → ∃ i, i < n ∧ ∀ v h', kk i = some (v, h') → Sim1 P G B C m h w t o v h') := by
  have over : ∀ {r : Nat} {i : BI}, ev t x = .pointer (some ⟨i.r, i.s + 0, none⟩) → (Instr.next (.pointer (some ⟨i.r, i.s + 0, none⟩)) isStr o.type).run P w = .ok (.tuple #[.bool false]) w → Sim1 P G B C m h w t o (.tup [.bool false]) h := by
    intro r i hxv hrun
    exact Sim1.pure R (x := .tuple #[.bool false]) (next_exec ho hxv hrun) (.tup _ _ (.cons _ _ _ _ (.bool _) .nil))
  cases hxa : fr.eval x with
  | none => simp [opA, ho, hxa]
  | some a =>
    have rx := eval_rel R F hx hxa
    cases a with
    | ptr r n =>
      cases n with
      | succ n => simp [opA, ho, hxa]
      | zero =>
        obtain ⟨i, hi, hxv⟩ := rx.ptr_inv
        obtain ⟨ob, hg, hO⟩ := R.obj r i hi
        cases ob with
        | siter s pos =>
          cases isStr with
          | false => simp [opA, ho, hxa, hg]
          | true =>
            obtain ⟨b, hs0, hob, hbs⟩ := hO
            have hgo := run_getObj (P := P) hob (by intro _ _ _ q; cases q)
            have hlen : b.size = s.length := by rw [← hbs]; simp
            refine ⟨fun v h' hv => ?_, fun n kk hv => ?_⟩
            · simp only [opA, ho, hxa, hg] at hv
              split at hv
              · rename_i hlt
                injection hv with e1 e2; subst e1; subst e2
                have hlt' : pos < b.size := by rw [hlen]; simpa using hlt
                have hB := R.above hi hg (by simp [AO.ro])
                have hd := R.dom r i hi
                have hbb : (⟨⟨s⟩⟩ : ByteArray) = b := by subst hbs; rfl
                rw [hbb]
                refine ⟨.tuple #[.bool true, goInt pos, .int .i32 (Utf8.decode b pos).1], { w with heap := w.heap.setIfInBounds i.r (.stringIter b (pos + (Utf8.decode b pos).2)) }, m, .inl ?_, ?_, ?_, ?_⟩
                · have hset := run_setObj (P := P) (ob := .stringIter b pos) (ob' := .stringIter b (pos + (Utf8.decode b pos).2)) hob (by intro _ _ _ q; cases q)
                  refine next_exec ho hxv ?_
                  rw [hs0]
                  simp [Instr.next, hgo, hlt', hset]
                · refine .tup _ _ (.cons _ _ _ _ (.bool _) (.cons _ _ _ _ ?_ (.cons _ _ _ _ (.int _ _) .nil)))
                  exact .int _ _
                · refine R.put hi hg rfl hB (by simp) (fun k hk => Array.getElem?_setIfInBounds_ne (Ne.symm hk)) ?_ (fun _ _ _ _ q => by cases q) (fun _ _ q => by cases q)
                  exact ⟨b, hs0, Array.getElem?_setIfInBounds_self_of_lt hd, hbs⟩
                · exact Turn.put hi hB (by simp) (fun k hk => Array.getElem?_setIfInBounds_ne (Ne.symm hk)) rfl rfl rfl
              · rename_i hlt
                injection hv with e1 e2; subst e1; subst e2
                have hlt' : ¬ pos < b.size := by rw [hlen]; simpa using hlt
                refine over (r := r) hxv ?_
                rw [hs0]
                simp [Instr.next, hgo, hlt']
            · simp only [opA, ho, hxa, hg] at hv
              split at hv <;> cases hv
        | miter mb ver left cur =>
          cases isStr with
          | true => cases mb <;> simp [opA, ho, hxa, hg]
          | false =>
            cases mb with
            | none =>
              obtain ⟨hs0, since, seen, last, hob⟩ := hO
              have hgo := run_getObj (P := P) hob (by intro _ _ _ q; cases q)
              refine ⟨fun v h' hv => ?_, fun n kk hv => ?_⟩
              · simp only [opA, ho, hxa, hg] at hv
                injection hv with e1 e2; subst e1; subst e2
                refine over (r := r) hxv ?_
                rw [hs0]
                simp [Instr.next, hgo]
              · simp only [opA, ho, hxa, hg] at hv
                cases hv
            | some mb =>
              cases hgm : h.get mb with
              | none => simp [opA, ho, hxa, hg, hgm]
              | some om =>
                cases om with
                | map es ver' =>
                  by_cases hver : ver = ver'
                  · subst hver
                    have key := mapNext_run (P := P) (ty := o.type) R hi hg hgm
                    have hrun : ∀ {v' w'}, (Instr.next (.pointer (some ⟨i.r, i.s + 0, none⟩)) false o.type).run P w = .ok v' w' → (execOp (ev t) o).run P w = .ok (.value v') w' := by
                      intro v' w' q
                      exact next_exec ho hxv q
                    refine ⟨fun v h' hv => ?_, fun n kk hv => ?_⟩
                    · simp only [opA, ho, hxa, hg, hgm, Nat.beq_refl, if_true] at hv
                      split at hv
                      · injection hv with e1 e2; subst e1; subst e2
                        rcases key with ⟨_, q⟩ | ⟨q, _⟩
                        · exact over (r := r) hxv q
                        · exact absurd rfl q
                      · rename_i k x'
                        injection hv with e1 e2; subst e1; subst e2
                        rcases key with ⟨q, _⟩ | ⟨_, n, k', x'', w', hn, v', q1, q2, q3, q4⟩
                        · cases q
                        · have : n = 0 := by have := lget_lt hn; simpa using this
                          subst this
                          simp [lget] at hn
                          obtain ⟨rfl, rfl⟩ := hn
                          exact ⟨v', w', m, .inl (hrun q1), q2, q3, q4⟩
                      · cases hv
                    · simp only [opA, ho, hxa, hg, hgm, Nat.beq_refl, if_true] at hv
                      split at hv
                      · cases hv
                      · cases hv
                      · injection hv with e1 e2; subst e1; subst e2
                        rcases key with ⟨q, _⟩ | ⟨_, n, k', x'', w', hn, v', q1, q2, q3, q4⟩
                        · subst q; rename_i q0 _; exact absurd rfl q0
                        · refine ⟨n, lget_lt hn, fun v h' hkk => ?_⟩
                          dsimp only at hkk
                          rw [hn] at hkk
                          injection hkk with hkk
                          injection hkk with e1 e2; subst e1; subst e2
                          exact ⟨v', w', m, .inl (hrun q1), q2, q3, q4⟩
                  · have hver' : Nat.beq ver ver' = false := by
                      rw [← Bool.not_eq_true]; simpa using hver
                    simp [opA, ho, hxa, hg, hgm, hver']
                | _ => simp [opA, ho, hxa, hg, hgm]
        | _ => cases isStr <;> simp [opA, ho, hxa, hg]
    | _ => simp [opA, ho, hxa]

theorem sim_entry {x : Operand} (ho : o.op = .entry x) (R : Rel G B C m h w.heap) (F : TRel m fr.tmps t) (hx : opdOk G x = true) (hv : opA e fr h nt o = .val v h') : Sim1 P G B C m h w t o v h' := by
  simp only [opA, ho] at hv
  split at hv
  · rename_i r hxa
    split at hv
    · rename_i mb ver left k x' hg
      split at hv
      · rename_i es ver' hgm
        split at hv
        · rename_i hver
          injection hv with e1 e2; subst e1; subst e2
          have hver : ver = ver' := by simpa using hver
          subst hver
          obtain ⟨i, hi, hxv⟩ := (eval_rel R F hx hxa).ptr_inv
          obtain ⟨es0, v0, a1, a2, a3⟩ := R.iter r i mb ver left _ hi hg
          rw [hgm] at a1
          cases a1
          obtain ⟨im, seen, last, es', l', b1, b2, b3, b4, b5, b6⟩ := a3 rfl
          obtain ⟨en, hen, hs, r1, r2⟩ := b6 k x' rfl
          obtain ⟨es2, clock, l2, q0, q1, q2, q3, q4, q5, q6⟩ := map_obj R b1 hgm
          rw [b2] at q1
          cases q1
          obtain ⟨ob, k1, k2⟩ := R.obj r i hi
          rw [hg] at k1
          cases k1
          have hs0 : i.s = 0 := k2.1
          have hgo := run_getObj (P := P) b3 (by intro _ _ _ q; cases q)
          have hgm' := run_getObj (P := P) b2 (by intro _ _ _ q; cases q)
          have hfind : es'.find? (fun q => q.born == en.born) = some en := by
            rw [← Array.find?_toList]
            have key : ∀ (l : List MapEntry), (l.map (·.born)).Nodup → en ∈ l → l.find? (fun q => q.born == en.born) = some en := by
              intro l
              induction l with
              | nil => intro _ q; cases q
              | cons a l ih =>
                intro hn hm
                rw [List.map_cons, List.nodup_cons] at hn
                rw [List.find?_cons]
                rcases List.mem_cons.1 hm with rfl | hm
                · simp
                · have : (a.born == en.born) = false := by
                    rw [beq_eq_false_iff_ne]
                    exact fun q => hn.1 (q ▸ List.mem_map.2 ⟨en, hm, rfl⟩)
                  rw [this]
                  exact ih hn.2 hm
            exact key _ q4 hen
          refine Sim1.pure R (x := .tuple #[en.key, en.val]) ?_ (.tup _ _ (.cons _ _ _ _ r1 (.cons _ _ _ _ r2 .nil)))
          have : (execOp (ev t) o).run P w = ((Instr.entry (ev t x)).run P w).andThen (fun a w' => .ok (.value a) w') := by simp [execOp, ho]
          rw [this, hxv, hs0]
          simp [Instr.entry, hgo, hgm', hs, hfind]
        · cases hv
      · cases hv
    · cases hv
  · cases hv

theorem least_some : ∀ {l : List String}, l ≠ [] → ∃ s, Instr.least l = some s
  | [], h => absurd rfl h
  | a :: l, _ => ⟨_, rfl⟩

theorem least_part {l : List String} {p : String} (hm : p ∈ l) (q : String → Bool) (f : String → String) : ∃ s, (Instr.least (l.partition q).2 <|> Instr.least ((l.partition q).1.map f)) = some s := by
  by_cases h2 : (l.partition q).2 = []
  · have h1 : (l.partition q).1 ≠ [] := by
      intro h1
      rw [List.partition_eq_filter_filter] at h1 h2
      simp only [List.filter_eq_nil_iff] at h1 h2
      have a1 := h1 _ hm
      have a2 := h2 _ hm
      simp only [Function.comp_apply, Bool.not_eq_true', Bool.not_eq_false] at a2
      exact a1 a2
    obtain ⟨s, hs⟩ := least_some (l := (l.partition q).1.map f) (by simpa using h1)
    rw [h2, hs]
    exact ⟨s, rfl⟩
  · obtain ⟨s, hs⟩ := least_some h2
    rw [hs]
    exact ⟨s, rfl⟩
/-- A method that is not there by its name is missing. -/
theorem missing_some {want : Array (String × TypeId)} {got : Array Method} (h : (want.toList.map (·.1)).all ((got.toList.map (·.name)).contains ·) = false) : ∃ s, Instr.missingMethod want got = some s := by
  obtain ⟨p, hp, hn⟩ : ∃ p ∈ want.toList, p.1 ∉ got.toList.map (·.name) := by
    rw [← Bool.not_eq_true, List.all_eq_true] at h
    simpa using h
  let missing := (want.toList.filter fun (p : String × TypeId) => !got.any fun m => m.name == p.1 && m.sig == p.2).map (·.1)
  have hm : p.1 ∈ missing := by
    refine List.mem_map.2 ⟨p, List.mem_filter.2 ⟨hp, ?_⟩, rfl⟩
    rw [Bool.not_eq_true', Bool.eq_false_iff]
    intro q
    rw [Array.any_eq_true'] at q
    obtain ⟨x, hx, q⟩ := q
    simp at q
    exact hn (List.mem_map.2 ⟨x, Array.mem_toList_iff.2 hx, q.1⟩)
  unfold Instr.missingMethod
  exact least_part hm _ _

theorem fails_run (EO : TabOK P e) {ty : TypeId} {ai : TI} (hti : e.tt.get ty = some ai) {ok : Bool} (hv : failsA ai ok h = .val v h') {st dy : Option TypeId} {ms : String} :
    h' = h ∧ ∃ v', (if ok = true then (do pure (.tuple #[← zeroValue ty, .bool false]) : Sem Value) else runtimePanic (.typeAssertion st dy ty ms)).run P w = .ok v' w ∧ VRel m v v' := by
  unfold failsA at hv
  split at hv
  · rename_i hok
    split at hv
    · rename_i z hz
      injection hv with e1 e2; subst e1; subst e2
      obtain ⟨zv, hzv, rz⟩ := zeroOf_run (m := m) (w := w) EO hti hz
      refine ⟨rfl, .tuple #[zv, .bool false], ?_, .tup _ _ (.cons _ _ _ _ rz (.cons _ _ _ _ (.bool _) .nil))⟩
      simp [hok, hzv]
    · cases hv
  · cases hv

theorem mkKind_other_iface {ty : TypeId} {u : TypeDesc} (hu : P.underlying ty = some u) (hk : ∀ b, mkKind P ty ≠ .iface b) : ∀ ms, u ≠ .interface ms := by
  intro ms q
  subst q
  exact hk ms.isEmpty (by simp [mkKind, hu])

theorem VRel.iface_inv {ty : Nat} {a : AV} {x : Value} (q : VRel m (.iface ty a) x) : ∃ y, x = .iface ty y ∧ VRel m a y := by
  cases q with
  | iface _ _ y hy => exact ⟨y, rfl, hy⟩

theorem sim_typeAssert (EO : TabOK P e) {x : Operand} {xt asserted : TypeId} {ok : Bool} (ho : o.op = .typeAssert x xt asserted ok) (R : Rel G B C m h w.heap) (F : TRel m fr.tmps t) (hx : opdOk G x = true) (hv : opA e fr h nt o = .val v h') : Sim1 P G B C m h w t o v h' := by
  have hex : ∀ {v' : Value}, (Instr.typeAssert (ev t x) xt asserted ok).run P w = .ok v' w → VRel m v v' → h' = h → Sim1 P G B C m h w t o v h' := by
    intro v' hr rv hh
    subst hh
    refine Sim1.pure R (x := v') ?_ rv
    have : (execOp (ev t) o).run P w = ((Instr.typeAssert (ev t x) xt asserted ok).run P w).andThen (fun a w' => .ok (.value a) w') := by simp [execOp, ho]
    rw [this, hr]; rfl
  simp only [opA, ho, Env.ti] at hv
  split at hv
  · rename_i a ai hxa hai
    have rx := eval_rel R F hx hxa
    have hm := EO.tt _ _ hai
    obtain ⟨inf, u, hinf, hu, _, _, _, _, _, _, _⟩ := mkTI_info hm
    split at hv
    · rename_i b hk
      have hxv : ev t x = .nilIface := by generalize ev t x = y at rx; cases rx; rfl
      obtain ⟨ms, hms, _⟩ := mkKind_iface ((kind_of hm).trans hk)
      obtain ⟨hh, v', hr, rv⟩ := fails_run (m := m) (w := w) (P := P) EO hai hv (st := none) (dy := none) (ms := "")
      refine hex ?_ rv hh
      rw [hxv]
      cases ok <;> simpa [Instr.typeAssert, run_underlying' hms] using hr
    · rename_i b ty a' hk
      obtain ⟨y, hxv, ry⟩ := rx.iface_inv
      obtain ⟨ms, hms, _⟩ := mkKind_iface ((kind_of hm).trans hk)
      split at hv
      · rename_i ti hti
        split at hv
        · cases hv
        · rename_i hnk
          split at hv
          · cases hv
          · rename_i hall
            have hmt := EO.tt _ _ hti
            obtain ⟨it, ut, hit, hut, _, _, _, hkt, _, _, _, hms'⟩ := mkTI_info hmt
            have hne := mkKind_other_iface hut (fun b q => hnk b (hkt.symm.trans q))
            have htm : ti.ms = it.methods.toList.map (·.name) := by
              rw [hms']
              cases ut <;> first | rfl | exact absurd rfl (hne _)
            have ham : ai.ms = ms.toList.map (·.1) := by
              obtain ⟨_, u2, _, hu2, _, _, _, _, _, _, _, h9⟩ := mkTI_info hm
              rw [hms] at hu2
              cases hu2
              exact h9
            obtain ⟨s, hs⟩ := missing_some (want := ms) (got := it.methods) (by rw [← ham, ← htm]; simpa using hall)
            obtain ⟨hh, v', hr, rv⟩ := fails_run (m := m) (w := w) (P := P) EO hai hv (st := none) (dy := some ty) (ms := s)
            refine hex ?_ rv hh
            rw [hxv]
            simp only [Instr.typeAssert, Sem.run_bind, run_underlying' hms, Result.andThen_ok, run_typeInfo' hit, hs]
            exact hr
      · cases hv
    · rename_i hk
      have hxv : ev t x = .nilIface := by generalize ev t x = y at rx; cases rx; rfl
      have hne := mkKind_other_iface hu (fun b q => hk b ((kind_of hm).symm.trans q))
      obtain ⟨hh, v', hr, rv⟩ := fails_run (m := m) (w := w) (P := P) EO hai hv (st := some xt) (dy := none) (ms := "")
      refine hex ?_ rv hh
      rw [hxv]
      simp only [Instr.typeAssert, Sem.run_bind, run_underlying' hu, Result.andThen_ok]
      cases u <;> first | exact hr | exact absurd rfl (hne _)
    · rename_i ty a' hk
      obtain ⟨y, hxv, ry⟩ := rx.iface_inv
      have hne := mkKind_other_iface hu (fun b q => hk b ((kind_of hm).symm.trans q))
      split at hv
      · rename_i hty
        have hty : ty = asserted := by simpa using hty
        subst hty
        injection hv with e1 e2
        refine hex (v' := if ok = true then .tuple #[y, .bool true] else y) ?_ ?_ e2.symm
        · rw [hxv]
          simp only [Instr.typeAssert, Sem.run_bind, run_underlying' hu, Result.andThen_ok]
          cases u <;> first | exact absurd rfl (hne _) | simp
        · subst e1
          cases ok
          · exact ry
          · exact .tup _ _ (.cons _ _ _ _ ry (.cons _ _ _ _ (.bool _) .nil))
      · rename_i hty
        have hty : ¬ ty = asserted := by simpa using hty
        obtain ⟨hh, v', hr, rv⟩ := fails_run (m := m) (w := w) (P := P) EO hai hv (st := some xt) (dy := some ty) (ms := "")
        refine hex ?_ rv hh
        rw [hxv]
        simp only [Instr.typeAssert, Sem.run_bind, run_underlying' hu, Result.andThen_ok, hty, if_false]
        cases u <;> first | exact hr | exact absurd rfl (hne _)
    · cases hv
  · cases hv

theorem sim_panic {x : Operand} (ho : o.op = .panic x) (R : Rel G B C m h w.heap) (F : TRel m fr.tmps t) (hx : opdOk G x = true) (hv : opA e fr h nt o = .pan v h') :
    h' = h ∧ ∃ v', (execOp (ev t) o).run P w = .halt (.panic v') w ∧ VRel m v v' := by
  simp only [opA, ho] at hv
  split at hv
  · rename_i ty a hxa
    injection hv with e1 e2; subst e1; subst e2
    have rx := eval_rel R F hx hxa
    obtain ⟨y, hxv, ry⟩ := rx.iface_inv
    refine ⟨rfl, .iface ty y, ?_, .iface _ _ _ ry⟩
    simp [execOp, ho, hxv, Instr.panic, goPanic]
  · cases hv
end
end Go.Ab
