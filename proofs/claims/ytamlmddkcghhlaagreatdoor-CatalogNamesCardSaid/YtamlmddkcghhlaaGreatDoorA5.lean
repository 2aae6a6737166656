/-
  What is laid at the start, as the machine A has it: tables of integers.
-/
import Derived.Calls
import Derived.OpenShut
import Derived.ChangeSame
import Derived.Test.YtamlmddkcghhlaaGreatDoorA4
import Derived.Test.YtamlmddkcghhlaaGreatDoorA3
set_option linter.unusedSimpArgs false
set_option linter.unusedVariables false
namespace Go.Ab

deriving instance DecidableEq for KP

theorem ptL_setL (f : AV → PT AV → PT AV) (v : AV) (t : PT AV) : ptL (psL f v t) = f v (ptL t) := by cases t <;> rfl
theorem ptL_setR (f : AV → PT AV → PT AV) (v : AV) (t : PT AV) : ptL (psR f v t) = ptL t := by cases t <;> rfl
theorem ptR_setR (f : AV → PT AV → PT AV) (v : AV) (t : PT AV) : ptR (psR f v t) = f v (ptR t) := by cases t <;> rfl
theorem ptR_setL (f : AV → PT AV → PT AV) (v : AV) (t : PT AV) : ptR (psL f v t) = ptR t := by cases t <;> rfl
theorem ptL_setH (v : AV) (t : PT AV) : ptL (psH v t) = ptL t := by cases t <;> rfl
theorem ptR_setH (v : AV) (t : PT AV) : ptR (psH v t) = ptR t := by cases t <;> rfl
theorem ptV_setH (v : AV) (t : PT AV) : ptV (psH v t) = some v := by cases t <;> rfl
theorem ptV_setL (f : AV → PT AV → PT AV) (v : AV) (t : PT AV) : ptV (psL f v t) = ptV t := by cases t <;> rfl
theorem ptV_setR (f : AV → PT AV → PT AV) (v : AV) (t : PT AV) : ptV (psR f v t) = ptV t := by cases t <;> rfl

theorem KP.get_h (t : PT AV) : KP.get .h t = ptV t := rfl
theorem KP.set_h (v : AV) (t : PT AV) : KP.set .h v t = psH v t := rfl
theorem KP.get_self : ∀ (p : KP) (v : AV) (t : PT AV), p.get (p.set v t) = some v
  | .h, v, t => ptV_setH v t
  | .l p, v, t => by rw [KP.set_l, KP.get_l, ptL_setL]; exact KP.get_self p v _
  | .r p, v, t => by rw [KP.set_r, KP.get_r, ptR_setR]; exact KP.get_self p v _
theorem KP.get_ne : ∀ (p q : KP) (v : AV) (t : PT AV), p ≠ q → p.get (q.set v t) = p.get t
  | .h, .h, _, _, hh => absurd rfl hh
  | .h, .l q, v, t, _ => by rw [KP.set_l, KP.get_h, ptV_setL]; rfl
  | .h, .r q, v, t, _ => by rw [KP.set_r, KP.get_h, ptV_setR]; rfl
  | .l p, .h, v, t, _ => by rw [KP.set_h, KP.get_l, ptL_setH]; rfl
  | .r p, .h, v, t, _ => by rw [KP.set_h, KP.get_r, ptR_setH]; rfl
  | .l p, .l q, v, t, hh => by rw [KP.set_l, KP.get_l, ptL_setL, KP.get_ne p q v _ (fun e => hh (by rw [e]))]; rfl
  | .r p, .r q, v, t, hh => by rw [KP.set_r, KP.get_r, ptR_setR, KP.get_ne p q v _ (fun e => hh (by rw [e]))]; rfl
  | .l p, .r q, v, t, _ => by rw [KP.set_r, KP.get_l, ptL_setR]; rfl
  | .r p, .l q, v, t, _ => by rw [KP.set_l, KP.get_r, ptR_setL]; rfl

theorem KP.get_at (i j : Nat) (v : AV) (t : PT AV) : (KP.mk i).get ((KP.mk j).set v t) = if i = j then some v else (KP.mk i).get t := by
  rw [KP.get_mk, KP.set_mk, PT.get_set, KP.get_mk]

/- The rules. What comes behind is a term that is not yet opened (no function written out): so it is looked at when it is asked, not before. -/
theorem s_none {α : Type} (k : α → TO) : optK none k = .bad := rfl
theorem s_some {α : Type} (a : α) (k : α → TO) : optK (some a) k = k a := rfl
theorem s_slot (p : KP) (t : PT AV) (k : AV → TO) : evK (.slot p) t k = optK (p.get t) k := rfl
theorem s_con (v : AV) (t : PT AV) (k : AV → TO) : evK (.con v) t k = k v := rfl
theorem s_evsNil (t : PT AV) (k : List AV → TO) : evsK [] t k = k [] := rfl
theorem s_evsCons (x : KX) (l : List KX) (t : PT AV) (k : List AV → TO) : evsK (x :: l) t k = evK x t (evsHd (evsK l) t k) := rfl
theorem s_evsHd (ih : PT AV → (List AV → TO) → TO) (t : PT AV) (k : List AV → TO) (v : AV) : evsHd ih t k v = ih t (evsTl k v) := rfl
theorem s_evsTl (k : List AV → TO) (v : AV) (vs : List AV) : evsTl k v vs = k (v :: vs) := rfl
theorem s_putNo (t : PT AV) (v : AV) : putD .no t v = t := rfl
theorem s_putAt (p : KP) (t : PT AV) (v : AV) : putD (.at p) t v = p.set v t := rfl
/- regions -/
noncomputable def gOps (w : Bool) (D : KD) (op : KOp) (l : List KI) (S : KS) (t : PT AV) (d : KR) (h : H) (v : AV) : TO := grdV w (kstep op S t d h (kCont (opsK l) D S t d)) (kCont (opsK l) D S t d (.tup []) h) v
section
variable (D : KD) (op : KOp) (l : List KI) (S : KS) (t : PT AV) (d : KR) (h : H)
theorem s_opsNil : opsK [] S t d h = .ret (.nrm (d.fr t) h) := rfl
theorem s_opsMk : opsK (.mk .no D op :: l) S t d h = kstep op S t d h (kCont (opsK l) D S t d) := rfl
theorem s_opsG (p : KP) (w : Bool) : opsK (.mk (.g p w) D op :: l) S t d h = optK (p.get t) (gOps w D op l S t d h) := rfl
theorem s_gTT : gOps true D op l S t d h (.bool true) = kstep op S t d h (kCont (opsK l) D S t d) := rfl
theorem s_gFF : gOps false D op l S t d h (.bool false) = kstep op S t d h (kCont (opsK l) D S t d) := rfl
theorem s_gTF : gOps true D op l S t d h (.bool false) = opsK l S (putD D t (.tup [])) d h := rfl
theorem s_gFT : gOps false D op l S t d h (.bool true) = opsK l S (putD D t (.tup [])) d h := rfl
theorem s_gU (w : Bool) : gOps w D op l S t d h (.tup []) = opsK l S (putD D t (.tup [])) d h := rfl
theorem s_cont (ih : KF) (v : AV) : kCont ih D S t d v h = ih S (putD D t v) d h := rfl
end
/- operations -/
noncomputable def xBinB (slow : BinOp) (ty : Nat) (xo yo : Operand) (S : KS) (h : H) (k : KK) (a b : AV) : TO := optK (binA S.e h slow ty xo yo a b) (kVal h k)
noncomputable def xBinA (slow : BinOp) (ty : Nat) (xo yo : Operand) (y : KX) (S : KS) (t : PT AV) (h : H) (k : KK) (a : AV) : TO := evK y t (xBinB slow ty xo yo S h k a)
noncomputable def xFun (k : KK) (h : H) (f : Bool → AV) (b : Bool) : TO := k (f b) h
section
variable (S : KS) (t : PT AV) (d : KR) (h : H) (k : KK)
theorem s_val (v : AV) : kVal h k v = k v h := rfl
theorem s_mv (x : KX) : kstep (.mv x) S t d h k = evK x t (kVal h k) := rfl
theorem s_pick (c a b : KX) : kstep (.pick c a b) S t d h k = evK c t (kPick1 a b t h k) := rfl
theorem s_pick1 (a b : KX) (v : AV) : kPick1 a b t h k v = asBool v (kPick2 a b t h k) := rfl
theorem s_pickT (a b : KX) : kPick2 a b t h k true = evK a t (kVal h k) := rfl
theorem s_pickF (a b : KX) : kPick2 a b t h k false = evK b t (kVal h k) := rfl
theorem s_load1 (x : KX) : kstep (.load1 x) S t d h k = evK x t (kLoad1a h k) := rfl
theorem s_load1a (v : AV) : kLoad1a h k v = asPtr v (kLoad1b h k) := rfl
theorem s_load1b (b o : Nat) : kLoad1b h k b o = rowK h b (kLoad1c o h k) := rfl
theorem s_load1c (o : Nat) (r : Row) : kLoad1c o h k r = optK (lget r.cells o) (kVal h k) := by
  show optK (lgetK r.cells o) (kVal h k) = _
  rw [lgetK_eq]
theorem s_loadN (n : Nat) (x : KX) : kstep (.loadN n x) S t d h k = evK x t (kLoadNa n h k) := rfl
theorem s_loadNa (n : Nat) (v : AV) : kLoadNa n h k v = asPtr v (kLoadNb n h k) := rfl
theorem s_loadNb (n b o : Nat) : kLoadNb n h k b o = rowK h b (kLoadNc n o h k) := rfl
theorem s_loadNc (n o : Nat) (r : Row) : kLoadNc n o h k r = optK (lpart o n r.cells) (kAgg h k) := by
  show optK (partK o n r.cells) (kAgg h k) = _
  rw [partK_eq]
theorem s_agg (cs : List AV) : kAgg h k cs = k (.agg cs) h := rfl
theorem s_nilc (x : KX) : kstep (.nilc x) S t d h k = evK x t (kNilca h k) := rfl
theorem s_nilca (v : AV) : kNilca h k v = asSome v (kVal h k) := rfl
theorem s_xBinA (slow : BinOp) (ty : Nat) (xo yo : Operand) (y : KX) (a : AV) : xBinA slow ty xo yo y S t h k a = evK y t (xBinB slow ty xo yo S h k a) := rfl
theorem s_xBinB (slow : BinOp) (ty : Nat) (xo yo : Operand) (a b : AV) : xBinB slow ty xo yo S h k a b = optK (binA S.e h slow ty xo yo a b) (kVal h k) := rfl
theorem s_bin {op : KB} {slow : BinOp} (hb : KB.of slow = some op) (ty : Nat) (xo yo : Operand) (x y : KX) :
    kstep (.bin op slow ty xo yo x y) S t d h k = evK x t (xBinA slow ty xo yo y S t h k) := by
  show evK x t (kBina op slow ty xo yo y S t h k) = _
  congr 1; funext a
  show evK y t (kBinb op slow ty xo yo S h k a) = evK y t (xBinB slow ty xo yo S h k a)
  congr 1; funext b
  unfold kBinb xBinB
  cases a with
  | int ka a =>
    show kBin1 op h k _ b ka a = _
    unfold kBin1
    cases b with
    | int kb b =>
      show kBin2 op h k _ ka a kb b = _
      unfold kBin2
      cases hk : kindEq ka kb with
      | false => rfl
      | true =>
        have := kindEq_iff hk
        subst this
        show optK (intBinK op ka (binA S.e h slow ty xo yo (.int ka a) (.int ka b)) a b) (kVal h k) = _
        rw [intBinK_eq hb (kb_int hb)]
    | _ => rfl
  | _ => rfl
theorem s_shl (ty : Nat) (xo yo : Operand) (x y : KX) : kstep (.shf .shl .shl ty xo yo x y) S t d h k = evK x t (xBinA .shl ty xo yo y S t h k) := by
  show evK x t (kShfa .shl .shl ty xo yo y S t h k) = _
  congr 1; funext a
  show evK y t (kShfb .shl .shl ty xo yo S h k a) = evK y t (xBinB .shl ty xo yo S h k a)
  congr 1; funext b
  unfold kShfb xBinB
  cases a with
  | int ka a =>
    show kShf1 .shl h k _ b ka a = _
    unfold kShf1
    cases b with
    | int kb b =>
      show optK (intBinK .shl ka (binA S.e h .shl ty xo yo (.int ka a) (.int kb b)) a b) (kVal h k) = _
      rw [shl_eq (by simp [binA])]
    | _ => rfl
  | _ => rfl
theorem s_shr (ty : Nat) (xo yo : Operand) (x y : KX) : kstep (.shf .shr .shr ty xo yo x y) S t d h k = evK x t (xBinA .shr ty xo yo y S t h k) := by
  show evK x t (kShfa .shr .shr ty xo yo y S t h k) = _
  congr 1; funext a
  show evK y t (kShfb .shr .shr ty xo yo S h k a) = evK y t (xBinB .shr ty xo yo S h k a)
  congr 1; funext b
  unfold kShfb xBinB
  cases a with
  | int ka a =>
    show kShf1 .shr h k _ b ka a = _
    unfold kShf1
    cases b with
    | int kb b =>
      show optK (intBinK .shr ka (binA S.e h .shr ty xo yo (.int ka a) (.int kb b)) a b) (kVal h k) = _
      rw [shr_eq (by simp [binA])]
    | _ => rfl
  | _ => rfl
theorem s_not (x : KX) : kstep (.not x) S t d h k = evK x t (kNota h k) := rfl
theorem s_nota (v : AV) : kNota h k v = asBool v (kNotb h k) := rfl
theorem s_notb (q : Bool) : kNotb h k q = k (.bool !q) h := by
  show k (.bool (notK q)) h = _
  rw [notK_eq]
theorem s_un (op : UnOp) (x : KX) : kstep (.un op x) S t d h k = evK x t (kUna op h k) := rfl
theorem s_una (op : UnOp) (v : AV) : kUna op h k v = optK (unA op v) (kVal h k) := rfl
theorem s_conv (ik : IntKind) (x : KX) : kstep (.conv ik x) S t d h k = evK x t (kConva ik h k) := rfl
theorem s_conva (ik : IntKind) (v : AV) : kConva ik h k v = asInt v (kConvb ik h k) := rfl
theorem s_convb (ik a : IntKind) (n : Int) : kConvb ik h k a n = k (.int ik (ik.wrap n)) h := by
  show k (.int ik (wrapK ik n)) h = _
  rw [wrapK_eq]
theorem s_fldA (off : Nat) (x : KX) : kstep (.fldA off x) S t d h k = evK x t (kFldAa off h k) := rfl
theorem s_fldAa (off : Nat) (v : AV) : kFldAa off h k v = asPtr v (kFldAb off h k) := rfl
theorem s_fldAb (off b o : Nat) : kFldAb off h k b o = k (.ptr b (o + off)) h := rfl
theorem s_fld1 (off : Nat) (x : KX) : kstep (.fld1 off x) S t d h k = evK x t (kFld1a off h k) := rfl
theorem s_fld1a (off : Nat) (v : AV) : kFld1a off h k v = asAgg v (kFld1b off h k) := rfl
theorem s_fld1b (off : Nat) (cs : List AV) : kFld1b off h k cs = optK (lget cs off) (kVal h k) := by
  show optK (lgetK cs off) (kVal h k) = _
  rw [lgetK_eq]
theorem s_fldN (off n : Nat) (x : KX) : kstep (.fldN off n x) S t d h k = evK x t (kFldNa off n h k) := rfl
theorem s_fldNa (off n : Nat) (v : AV) : kFldNa off n h k v = asAgg v (kFldNb off n h k) := rfl
theorem s_fldNb (off n : Nat) (cs : List AV) : kFldNb off n h k cs = optK (lpart off n cs) (kAgg h k) := by
  show optK (partK off n cs) (kAgg h k) = _
  rw [partK_eq]
theorem ltN_eq (a b : Nat) : ltN a b = decide (a < b) := by rw [ltN_blt, Bool.eq_iff_iff]; simp [Nat.blt]; exact Nat.lt_iff_add_one_le.symm
theorem s_idxA (es : Nat) (x i : KX) : kstep (.idxA es x i) S t d h k = evK x t (kIdxAa es i t h k) := rfl
theorem s_idxAa (es : Nat) (i : KX) (v : AV) : kIdxAa es i t h k v = asSlice v (kIdxAb es i t h k) := rfl
theorem s_idxAb (es : Nat) (i : KX) (b o len c : Nat) : kIdxAb es i t h k b o len c = evK i t (kIdxAi es b o len h k) := rfl
theorem s_idxAi (es b o len : Nat) (v : AV) : kIdxAi es b o len h k v = asInt v (kIdxAc es b o len h k) := rfl
theorem s_idxAc (es b o len : Nat) (ik : IntKind) (n : Int) : kIdxAc es b o len h k ik n = asNatK n (kIdxAd es b o len h k) := rfl
theorem s_idxAd (es b o len n : Nat) (hn : n < len) : kIdxAd es b o len h k n = k (.ptr b (o + n * es)) h := by
  unfold kIdxAd
  rw [ltN_eq, decide_eq_true hn]; rfl
theorem s_idxP (es m : Nat) (x i : KX) : kstep (.idxP es m x i) S t d h k = evK x t (kIdxPa es m i t h k) := rfl
theorem s_idxPa (es m : Nat) (i : KX) (v : AV) : kIdxPa es m i t h k v = asPtr v (kIdxPb es m i t h k) := rfl
theorem s_idxPb (es m : Nat) (i : KX) (b o : Nat) : kIdxPb es m i t h k b o = evK i t (kIdxPi es b o m h k) := rfl
theorem s_idxPi (es b o len : Nat) (v : AV) : kIdxPi es b o len h k v = asInt v (kIdxPc es b o len h k) := rfl
theorem s_idxPc (es b o len : Nat) (ik : IntKind) (n : Int) : kIdxPc es b o len h k ik n = asNatK n (kIdxPd es b o len h k) := rfl
theorem s_idxPd (es b o len n : Nat) (hn : n < len) : kIdxPd es b o len h k n = k (.ptr b (o + n * es)) h := by
  unfold kIdxPd
  rw [ltN_eq, decide_eq_true hn]; rfl
theorem s_idxS (x i : KX) : kstep (.idxS x i) S t d h k = evK x t (kIdxSa i t h k) := rfl
theorem s_idxSa (i : KX) (v : AV) : kIdxSa i t h k v = asStr v (kIdxSb i t h k) := rfl
theorem s_idxSb (i : KX) (s : List UInt8) : kIdxSb i t h k s = evK i t (kIdxSi s h k) := rfl
theorem s_idxSi (s : List UInt8) (v : AV) : kIdxSi s h k v = asInt v (kIdxSc s h k) := rfl
theorem s_idxSc (s : List UInt8) (ik : IntKind) (n : Int) : kIdxSc s h k ik n = asNatK n (kIdxSd s h k) := rfl
theorem s_idxSd (s : List UInt8) (n : Nat) : kIdxSd s h k n = optK (lget s n) (kU8 h k) := by
  show optK (lgetK s n) (kU8 h k) = _
  rw [lgetK_eq]
theorem s_u8 (u : UInt8) : kU8 h k u = k (ofU8 u) h := rfl
theorem s_lenS (x : KX) : kstep (.lenS x) S t d h k = evK x t (kLenSa h k) := rfl
theorem s_lenSa (v : AV) : kLenSa h k v = asStr v (kLenSb h k) := rfl
theorem s_lenSb (s : List UInt8) : kLenSb h k s = k (.int .i64 (s.length : Int)) h := rfl
theorem s_len (x : KX) : kstep (.len x) S t d h k = evK x t (kLena h k) := rfl
theorem s_lena (v : AV) : kLena h k v = asLen v (kLenb h k) := rfl
theorem s_lenb (n : Nat) : kLenb h k n = k (.int .i64 (n : Int)) h := rfl
theorem s_ext (i : Nat) (x : KX) : kstep (.ext i x) S t d h k = evK x t (kExta i h k) := rfl
theorem s_exta (i : Nat) (v : AV) : kExta i h k v = asTup v (kExtb i h k) := rfl
theorem s_extb (i : Nat) (vs : List AV) : kExtb i h k vs = optK (lget vs i) (kVal h k) := by
  show optK (lgetK vs i) (kVal h k) = _
  rw [lgetK_eq]
theorem s_mkI (ty : Nat) (x : KX) : kstep (.mkI ty x) S t d h k = evK x t (kMkIa ty h k) := rfl
theorem s_mkIa (ty : Nat) (v : AV) : kMkIa ty h k v = k (.iface ty v) h := rfl
theorem s_mkF (f : Nat) (a c : List KX) : kstep (.mkF f a c) S t d h k = evsK a t (kMkFa f c t h k) := rfl
theorem s_mkFa (f : Nat) (c : List KX) (a : List AV) : kMkFa f c t h k a = evsK c t (kMkFb f h k a) := rfl
theorem s_mkFb (f : Nat) (a c : List AV) : kMkFb f h k a c = k (.func f a c) h := rfl
theorem s_call (f : Nat) (args : List KX) : kstep (.call f args) S t d h k = evsK args t (kCallb f S t d h k) := rfl
theorem s_callb (f : Nat) (vs : List AV) : kCallb f S t d h k vs = T.bindK (S.r.call f vs h none) (kRet S t d k) := rfl
theorem s_callV (f : KX) (args : List KX) : kstep (.callV f args) S t d h k = evK f t (kCallVa args S t d h k) := rfl
theorem s_callF (f : Nat) (a c : List AV) (args : List KX) : kCallVa args S t d h k (.func f a c) = evsK args t (kCallVc f a c S t d h k) := rfl
theorem s_callVc (f : Nat) (a c vs : List AV) : kCallVc f a c S t d h k vs = kCallOr S t d h k (callA S.e h f (a ++ vs ++ c)) := rfl
theorem s_orVal (v : AV) (h' : H) : kCallOr S t d h k (.val v h') = k v h' := rfl
theorem s_orCall (f : Nat) (args : List AV) : kCallOr S t d h k (.call f args) = T.bindK (S.r.call f args h none) (kRet S t d k) := rfl
theorem s_slc (es : Nat) (x : KX) (lo hi : Option KX) : kstep (.slc es x lo hi) S t d h k = evK x t (kSlca es lo hi t h k) := rfl
noncomputable def xSlcB (es b o len cap : Nat) (hi : Option KX) (t : PT AV) (h : H) (k : KK) (l : Nat) : TO := kBndK len hi t (kSlcd es h k b o cap l)
theorem s_slcS (es : Nat) (lo hi : Option KX) (b o len cap : Nat) : kSlca es lo hi t h k (.slice b o len cap) = kBndK 0 lo t (xSlcB es b o len cap hi t h k) := rfl
theorem s_slcB (es b o len cap l : Nat) (hi : Option KX) : xSlcB es b o len cap hi t h k l = kBndK len hi t (kSlcd es h k b o cap l) := rfl
noncomputable def xNat (k : Nat → TO) (v : AV) : TO := kNatV v k
theorem s_bnd0 (n : Nat) (k : Nat → TO) : kBndK n none t k = k n := rfl
theorem s_bnd1 (n : Nat) (x : KX) (k : Nat → TO) : kBndK n (some x) t k = evK x t (xNat k) := rfl
theorem s_xNat (k : Nat → TO) (ik : IntKind) (n : Nat) : xNat k (.int ik (n : Int)) = k n := rfl
theorem s_xNat0 (k : Nat → TO) (ik : IntKind) : xNat k (.int ik 0) = k 0 := rfl
theorem s_xNat1 (k : Nat → TO) (ik : IntKind) : xNat k (.int ik 1) = k 1 := rfl
/-- A slice of a row that is not open at its end there. -/
theorem s_slcd (es b o cap l hh : Nat) {r : Row} (hr : h.get b = some (.row r)) (ht : tailOpen r o cap = false) (h1 : hh ≤ cap) (h2 : l ≤ hh) :
    kSlcd es h k b o cap l hh = k (.slice b (if cap = l then o else o + l * es) (hh - l) (cap - l)) h := by
  unfold kSlcd
  rw [show Nat.ble hh cap = true from by simpa using h1, show Nat.ble l hh = true from by simpa using h2]
  show rowK h b _ = _
  unfold rowK
  rw [getN_eq, show h.blk.get b = some (.row r) from hr]
  show (Bool.rec (motive := fun _ => TO) _ _ (tailOpen r o cap) : TO) = _
  rw [ht]
  show k (.slice b (Bool.rec (motive := fun _ => Nat) (Nat.add o (Nat.mul l es)) o (Nat.beq cap l)) (hh - l) (cap - l)) h = _
  by_cases q : cap = l
  · rw [if_pos q, show Nat.beq cap l = true from by simpa using q]
  · rw [if_neg q]
    cases hb : Nat.beq cap l with
    | false => rfl
    | true => exact absurd (by simpa using hb) q
/-- A slice from l on that is not the whole row's end. -/
theorem s_slcd' (es b o cap l hh : Nat) {r : Row} (hr : h.get b = some (.row r)) (he : r.es = es) (h1 : hh ≤ cap) (h2 : l ≤ hh) (h3 : cap ≠ l) :
    kSlcd es h k b o cap l hh = k (.slice b (o + l * es) (hh - l) (cap - l)) h := by
  cases ht : tailOpen r o cap with
  | false => rw [s_slcd h k es b o cap l hh hr ht h1 h2, if_neg h3]
  | true =>
    unfold kSlcd
    rw [show Nat.ble hh cap = true from by simpa using h1, show Nat.ble l hh = true from by simpa using h2]
    show rowK h b _ = _
    unfold rowK
    rw [getN_eq, show h.blk.get b = some (.row r) from hr]
    show (Bool.rec (motive := fun _ => TO) _ _ (tailOpen r o cap) : TO) = _
    rw [ht, he]
    show guardT (Nat.beq es es) _ = _
    rw [show Nat.beq es es = true from by simp]
    rfl
end
theorem s_add (S : KS) (t : PT AV) (d : KR) (h : H) (k : KK) (ty : Nat) (xo yo : Operand) (x y : KX) :
    kstep (.bin .add .add ty xo yo x y) S t d h k = evK x t (xBinA .add ty xo yo y S t h k) := s_bin S t d h k rfl ty xo yo x y
theorem s_sub (S : KS) (t : PT AV) (d : KR) (h : H) (k : KK) (ty : Nat) (xo yo : Operand) (x y : KX) :
    kstep (.bin .sub .sub ty xo yo x y) S t d h k = evK x t (xBinA .sub ty xo yo y S t h k) := s_bin S t d h k rfl ty xo yo x y
theorem s_mul (S : KS) (t : PT AV) (d : KR) (h : H) (k : KK) (ty : Nat) (xo yo : Operand) (x y : KX) :
    kstep (.bin .mul .mul ty xo yo x y) S t d h k = evK x t (xBinA .mul ty xo yo y S t h k) := s_bin S t d h k rfl ty xo yo x y
theorem s_eql (S : KS) (t : PT AV) (d : KR) (h : H) (k : KK) (ty : Nat) (xo yo : Operand) (x y : KX) :
    kstep (.bin .eql .eql ty xo yo x y) S t d h k = evK x t (xBinA .eql ty xo yo y S t h k) := s_bin S t d h k rfl ty xo yo x y
theorem s_neq (S : KS) (t : PT AV) (d : KR) (h : H) (k : KK) (ty : Nat) (xo yo : Operand) (x y : KX) :
    kstep (.bin .neq .neq ty xo yo x y) S t d h k = evK x t (xBinA .neq ty xo yo y S t h k) := s_bin S t d h k rfl ty xo yo x y
theorem s_lss (S : KS) (t : PT AV) (d : KR) (h : H) (k : KK) (ty : Nat) (xo yo : Operand) (x y : KX) :
    kstep (.bin .lss .lss ty xo yo x y) S t d h k = evK x t (xBinA .lss ty xo yo y S t h k) := s_bin S t d h k rfl ty xo yo x y
theorem s_leq (S : KS) (t : PT AV) (d : KR) (h : H) (k : KK) (ty : Nat) (xo yo : Operand) (x y : KX) :
    kstep (.bin .leq .leq ty xo yo x y) S t d h k = evK x t (xBinA .leq ty xo yo y S t h k) := s_bin S t d h k rfl ty xo yo x y
theorem s_gtr (S : KS) (t : PT AV) (d : KR) (h : H) (k : KK) (ty : Nat) (xo yo : Operand) (x y : KX) :
    kstep (.bin .gtr .gtr ty xo yo x y) S t d h k = evK x t (xBinA .gtr ty xo yo y S t h k) := s_bin S t d h k rfl ty xo yo x y
theorem s_geq (S : KS) (t : PT AV) (d : KR) (h : H) (k : KK) (ty : Nat) (xo yo : Operand) (x y : KX) :
    kstep (.bin .geq .geq ty xo yo x y) S t d h k = evK x t (xBinA .geq ty xo yo y S t h k) := s_bin S t d h k rfl ty xo yo x y
theorem s_and (S : KS) (t : PT AV) (d : KR) (h : H) (k : KK) (ty : Nat) (xo yo : Operand) (x y : KX) :
    kstep (.bin .and .and ty xo yo x y) S t d h k = evK x t (xBinA .and ty xo yo y S t h k) := s_bin S t d h k rfl ty xo yo x y
theorem s_or (S : KS) (t : PT AV) (d : KR) (h : H) (k : KK) (ty : Nat) (xo yo : Operand) (x y : KX) :
    kstep (.bin .or .or ty xo yo x y) S t d h k = evK x t (xBinA .or ty xo yo y S t h k) := s_bin S t d h k rfl ty xo yo x y
theorem s_xor (S : KS) (t : PT AV) (d : KR) (h : H) (k : KK) (ty : Nat) (xo yo : Operand) (x y : KX) :
    kstep (.bin .xor .xor ty xo yo x y) S t d h k = evK x t (xBinA .xor ty xo yo y S t h k) := s_bin S t d h k rfl ty xo yo x y
theorem s_quo (S : KS) (t : PT AV) (d : KR) (h : H) (k : KK) (ty : Nat) (xo yo : Operand) (x y : KX) :
    kstep (.bin .quo .quo ty xo yo x y) S t d h k = evK x t (xBinA .quo ty xo yo y S t h k) := s_bin S t d h k rfl ty xo yo x y
theorem s_rem (S : KS) (t : PT AV) (d : KR) (h : H) (k : KK) (ty : Nat) (xo yo : Operand) (x y : KX) :
    kstep (.bin .rem .rem ty xo yo x y) S t d h k = evK x t (xBinA .rem ty xo yo y S t h k) := s_bin S t d h k rfl ty xo yo x y
section
variable (e : Env) (h : H) (t : Nat) (xo yo : Operand) (k : IntKind) (a b : Int)
theorem b_add : binA e h .add t xo yo (.int k a) (.int k b) = some (.int k (k.wrap (a + b))) := by simp [binA, intBin]
theorem b_sub : binA e h .sub t xo yo (.int k a) (.int k b) = some (.int k (k.wrap (a - b))) := by simp [binA, intBin]
theorem b_mul : binA e h .mul t xo yo (.int k a) (.int k b) = some (.int k (k.wrap (a * b))) := by simp [binA, intBin]
theorem b_eql : binA e h .eql t xo yo (.int k a) (.int k b) = some (.bool (decide (a = b))) := by simp [binA, intBin]; rfl
theorem b_neq : binA e h .neq t xo yo (.int k a) (.int k b) = some (.bool (!decide (a = b))) := by simp [binA, intBin, bne]; rfl
theorem b_lss : binA e h .lss t xo yo (.int k a) (.int k b) = some (.bool (decide (a < b))) := by simp [binA, intBin]
theorem b_leq : binA e h .leq t xo yo (.int k a) (.int k b) = some (.bool (decide (a ≤ b))) := by simp [binA, intBin]
theorem b_gtr : binA e h .gtr t xo yo (.int k a) (.int k b) = some (.bool (decide (a > b))) := by simp [binA, intBin]
theorem b_geq : binA e h .geq t xo yo (.int k a) (.int k b) = some (.bool (decide (a ≥ b))) := by simp [binA, intBin]
theorem b_and : binA e h .and t xo yo (.int k a) (.int k b) = intBin .and k a b := by simp [binA]
theorem b_or : binA e h .or t xo yo (.int k a) (.int k b) = intBin .or k a b := by simp [binA]
theorem b_xor : binA e h .xor t xo yo (.int k a) (.int k b) = intBin .xor k a b := by simp [binA]
theorem b_quo : binA e h .quo t xo yo (.int k a) (.int k b) = intBin .quo k a b := by simp [binA]
theorem b_rem : binA e h .rem t xo yo (.int k a) (.int k b) = intBin .rem k a b := by simp [binA]
theorem b_shl (k' : IntKind) : binA e h .shl t xo yo (.int k a) (.int k' b) = intShift .shl k a b := by simp [binA]
theorem b_shr (k' : IntKind) : binA e h .shr t xo yo (.int k a) (.int k' b) = intShift .shr k a b := by simp [binA]
theorem u_xor : unA .xor (.int k a) = intBin .xor k (if k.signed then -1 else k.max) a := rfl
theorem b_str (op : BinOp) (hop : op ≠ .shl) (hop' : op ≠ .shr) (x y : List UInt8) : binA e h op t xo yo (.str x) (.str y) = strBin op x y := by
  cases op <;> first | rfl | exact absurd rfl hop | exact absurd rfl hop'
end
theorem s_retOk (S : KS) (t : PT AV) (d : KR) (k : KK) (v : AV) (h : H) (q : Bool) : kRet S t d k (.ok v h q) = k v h := rfl
theorem s_asInt (a : IntKind) (n : Int) (k : IntKind → Int → TO) : asInt (.int a n) k = k a n := rfl
theorem s_asBool (q : Bool) (k : Bool → TO) : asBool (.bool q) k = k q := rfl
theorem s_asPtr (b o : Nat) (k : Nat → Nat → TO) : asPtr (.ptr b o) k = k b o := rfl
theorem s_asSlice (b o l c : Nat) (k : Nat → Nat → Nat → Nat → TO) : asSlice (.slice b o l c) k = k b o l c := rfl
theorem s_asStr (s : List UInt8) (k : List UInt8 → TO) : asStr (.str s) k = k s := rfl
theorem s_asAgg (s : List AV) (k : List AV → TO) : asAgg (.agg s) k = k s := rfl
theorem s_asTup (s : List AV) (k : List AV → TO) : asTup (.tup s) k = k s := rfl
theorem s_asLenS (b o l c : Nat) (k : Nat → TO) : asLen (.slice b o l c) k = k l := rfl
theorem s_asLen0 (k : Nat → TO) : asLen .nilslice k = k 0 := rfl
theorem s_asSomeP (b o : Nat) (k : AV → TO) : asSome (.ptr b o) k = k (.ptr b o) := rfl
theorem s_asSomeF (f : Nat) (a c : List AV) (k : AV → TO) : asSome (.func f a c) k = k (.func f a c) := rfl
theorem s_asNat (n : Nat) (k : Nat → TO) : asNatK (n : Int) k = k n := rfl
theorem s_asNat0 (k : Nat → TO) : asNatK 0 k = k 0 := rfl
theorem s_asNat1 (k : Nat → TO) : asNatK 1 k = k 1 := rfl
theorem s_asNat' (n : Nat) (k : Nat → TO) : asNatK (Int.ofNat n) k = k n := rfl
theorem s_xNat_2 (k : Nat → TO) (ik : IntKind) : xNat k (.int ik 2) = k 2 := rfl
theorem s_asNat_2 (k : Nat → TO) : asNatK 2 k = k 2 := rfl
theorem s_xNat_3 (k : Nat → TO) (ik : IntKind) : xNat k (.int ik 3) = k 3 := rfl
theorem s_asNat_3 (k : Nat → TO) : asNatK 3 k = k 3 := rfl
theorem s_xNat_4 (k : Nat → TO) (ik : IntKind) : xNat k (.int ik 4) = k 4 := rfl
theorem s_asNat_4 (k : Nat → TO) : asNatK 4 k = k 4 := rfl
theorem s_xNat_5 (k : Nat → TO) (ik : IntKind) : xNat k (.int ik 5) = k 5 := rfl
theorem s_asNat_5 (k : Nat → TO) : asNatK 5 k = k 5 := rfl
theorem s_xNat_6 (k : Nat → TO) (ik : IntKind) : xNat k (.int ik 6) = k 6 := rfl
theorem s_asNat_6 (k : Nat → TO) : asNatK 6 k = k 6 := rfl
theorem s_xNat_7 (k : Nat → TO) (ik : IntKind) : xNat k (.int ik 7) = k 7 := rfl
theorem s_asNat_7 (k : Nat → TO) : asNatK 7 k = k 7 := rfl
theorem s_xNat_8 (k : Nat → TO) (ik : IntKind) : xNat k (.int ik 8) = k 8 := rfl
theorem s_asNat_8 (k : Nat → TO) : asNatK 8 k = k 8 := rfl
theorem s_xNat_9 (k : Nat → TO) (ik : IntKind) : xNat k (.int ik 9) = k 9 := rfl
theorem s_asNat_9 (k : Nat → TO) : asNatK 9 k = k 9 := rfl
theorem s_xNat_10 (k : Nat → TO) (ik : IntKind) : xNat k (.int ik 10) = k 10 := rfl
theorem s_asNat_10 (k : Nat → TO) : asNatK 10 k = k 10 := rfl
theorem s_xNat_11 (k : Nat → TO) (ik : IntKind) : xNat k (.int ik 11) = k 11 := rfl
theorem s_asNat_11 (k : Nat → TO) : asNatK 11 k = k 11 := rfl
theorem s_xNat_12 (k : Nat → TO) (ik : IntKind) : xNat k (.int ik 12) = k 12 := rfl
theorem s_asNat_12 (k : Nat → TO) : asNatK 12 k = k 12 := rfl
theorem s_xNat_13 (k : Nat → TO) (ik : IntKind) : xNat k (.int ik 13) = k 13 := rfl
theorem s_asNat_13 (k : Nat → TO) : asNatK 13 k = k 13 := rfl
theorem s_xNat_14 (k : Nat → TO) (ik : IntKind) : xNat k (.int ik 14) = k 14 := rfl
theorem s_asNat_14 (k : Nat → TO) : asNatK 14 k = k 14 := rfl
theorem s_xNat_15 (k : Nat → TO) (ik : IntKind) : xNat k (.int ik 15) = k 15 := rfl
theorem s_asNat_15 (k : Nat → TO) : asNatK 15 k = k 15 := rfl
theorem s_xNat_16 (k : Nat → TO) (ik : IntKind) : xNat k (.int ik 16) = k 16 := rfl
theorem s_asNat_16 (k : Nat → TO) : asNatK 16 k = k 16 := rfl
theorem s_guard (k : TO) : guardT true k = k := rfl
theorem s_row {h : H} {b : Nat} {r : Row} (hr : h.get b = some (.row r)) (k : Row → TO) : rowK h b k = k r := by
  unfold rowK
  rw [getN_eq]
  have : h.blk.get b = some (.row r) := hr
  rw [this]; rfl

/- drawn regions -/
noncomputable def gDraw (w : Bool) (fl : Option Nat) (D : KD) (op : KOp) (o : Oper) (l : List KDI) (S : KS) (m : List KFl) (t : PT AV) (d : KR) (h : H) (v : AV) : TO :=
  grdV w (kstep op S t d h (kdCont fl D o op (drawK l) S m t d)) (kdCont fl D o (.mv (.con (.tup []))) (drawK l) S m t d (.tup []) h) v
noncomputable def stillX (m : List KFl) (S : KS) (h : H) (f : H → TO) : TO := stillK m S h (f h)
noncomputable def stillY (m : List KFl) (S : KS) (f : H → TO) (h : H) : TO := stillX m S h f
noncomputable def gX (b : Bool) (f : H → TO) (h : H) : TO := guardT b (f h)
noncomputable def stillXC (v : AV) (m : List KFl) (S : KS) (h : H) (f : H → TO) (u : AV) (_ : H) : TO := gX (AV.beq u v) (stillY m S f) h
noncomputable def effX (pk : Bool) (D : KD) (op : KOp) (l : List KDI) (S : KS) (m : List KFl) (t : PT AV) (d : KR) (h : H) : TO := kstep op (S.withPk pk) t d h (kdOn (drawK l) D S m t d)
noncomputable def effG (p : KP) (w : Bool) (pk : Bool) (D : KD) (op : KOp) (l : List KDI) (S : KS) (m : List KFl) (t : PT AV) (d : KR) (h : H) : TO := grdK (.g p w) t (kstep op (S.withPk pk) t d h (kdOn (drawK l) D S m t d)) (kdOn (drawK l) D S m t d (.tup []) h)
noncomputable def effV (w : Bool) (pk : Bool) (D : KD) (op : KOp) (l : List KDI) (S : KS) (m : List KFl) (t : PT AV) (d : KR) (h : H) (v : AV) : TO := grdV w (kstep op (S.withPk pk) t d h (kdOn (drawK l) D S m t d)) (kdOn (drawK l) D S m t d (.tup []) h) v
noncomputable def endX (t : PT AV) (d : KR) (h : H) : TO := .ret (.nrm (d.fr t) h)
section
variable (fl : Option Nat) (D : KD) (op : KOp) (o : Oper) (l : List KDI) (S : KS) (m : List KFl) (t : PT AV) (d : KR) (h : H)
theorem w_nil : drawK [] S m t d h = stillX m S h (endX t d) := rfl
theorem w_end : endX t d h = .ret (.nrm (d.fr t) h) := rfl
theorem w_pure : drawK (.pure fl .no D op o :: l) S m t d h = kstep op S t d h (kdCont fl D o op (drawK l) S m t d) := rfl
theorem w_pureG (p : KP) (w : Bool) : drawK (.pure fl (.g p w) D op o :: l) S m t d h = optK (p.get t) (gDraw w fl D op o l S m t d h) := rfl
theorem w_gTT : gDraw true fl D op o l S m t d h (.bool true) = kstep op S t d h (kdCont fl D o op (drawK l) S m t d) := rfl
theorem w_gFF : gDraw false fl D op o l S m t d h (.bool false) = kstep op S t d h (kdCont fl D o op (drawK l) S m t d) := rfl
theorem w_gTF : gDraw true fl D op o l S m t d h (.bool false) = kdCont fl D o (.mv (.con (.tup []))) (drawK l) S m t d (.tup []) h := rfl
theorem w_gFT : gDraw false fl D op o l S m t d h (.bool true) = kdCont fl D o (.mv (.con (.tup []))) (drawK l) S m t d (.tup []) h := rfl
theorem w_gU (w : Bool) : gDraw w fl D op o l S m t d h (.tup []) = kdCont fl D o (.mv (.con (.tup []))) (drawK l) S m t d (.tup []) h := rfl
theorem w_cont (ih : KDF) (v : AV) : kdCont fl D o op ih S m t d v h = ih S (pushK fl t d v o op m) (putD D t v) d h := rfl
theorem w_eff (pk : Bool) : drawK (.eff pk .no D op :: l) S m t d h = stillX m S h (effX pk D op l S m t d) := rfl
theorem w_effG (pk : Bool) (p : KP) (w : Bool) : drawK (.eff pk (.g p w) D op :: l) S m t d h = stillX m S h (effG p w pk D op l S m t d) := rfl
theorem w_effX (pk : Bool) : effX pk D op l S m t d h = kstep op (S.withPk pk) t d h (kdOn (drawK l) D S m t d) := rfl
theorem w_effGX (pk : Bool) (p : KP) (w : Bool) : effG p w pk D op l S m t d h = optK (p.get t) (effV w pk D op l S m t d h) := rfl
theorem w_effTT (pk : Bool) : effV true pk D op l S m t d h (.bool true) = effX pk D op l S m t d h := rfl
theorem w_effFF (pk : Bool) : effV false pk D op l S m t d h (.bool false) = effX pk D op l S m t d h := rfl
theorem w_effTF (pk : Bool) : effV true pk D op l S m t d h (.bool false) = kdOn (drawK l) D S m t d (.tup []) h := rfl
theorem w_effFT (pk : Bool) : effV false pk D op l S m t d h (.bool true) = kdOn (drawK l) D S m t d (.tup []) h := rfl
theorem w_effU (w pk : Bool) : effV w pk D op l S m t d h (.tup []) = kdOn (drawK l) D S m t d (.tup []) h := rfl
theorem w_on (ih : KDF) (v : AV) : kdOn ih D S m t d v h = ih S (tickK m) (putD D t v) d h := rfl
end
theorem w_pk (e : Env) (r : Rec) (cx : Cx) (ops : List Oper) (a b : Bool) : KS.withPk ⟨e, r, cx, ops, a⟩ b = ⟨e, r, cx, ops, b⟩ := rfl
theorem w_push0 (t : PT AV) (d : KR) (v : AV) (o : Oper) (op : KOp) (m : List KFl) : pushK none t d v o op m = m := rfl
theorem w_push1 (n : Nat) (t : PT AV) (d : KR) (v : AV) (o : Oper) (op : KOp) (m : List KFl) : pushK (some n) t d v o op m = ⟨t, d, v, o, n, op⟩ :: m := rfl
theorem w_tick0 : tickK [] = [] := rfl
theorem w_tickZ (t : PT AV) (d : KR) (v : AV) (o : Oper) (op : KOp) (m : List KFl) : tickK (⟨t, d, v, o, 0, op⟩ :: m) = tickK m := rfl
theorem w_tick1 (t : PT AV) (d : KR) (v : AV) (o : Oper) (op : KOp) (m : List KFl) : tickK (⟨t, d, v, o, 1, op⟩ :: m) = ⟨t, d, v, o, 0, op⟩ :: tickK m := rfl
theorem w_tickL (n : Nat) (t : PT AV) (d : KR) (v : AV) (o : Oper) (op : KOp) (m : List KFl) : tickK (⟨t, d, v, o, n + 1, op⟩ :: m) = ⟨t, d, v, o, n, op⟩ :: tickK m := rfl
theorem w_tick2 (t : PT AV) (d : KR) (v : AV) (o : Oper) (op : KOp) (m : List KFl) : tickK (⟨t, d, v, o, 2, op⟩ :: m) = ⟨t, d, v, o, 1, op⟩ :: tickK m := rfl
theorem w_tick3 (t : PT AV) (d : KR) (v : AV) (o : Oper) (op : KOp) (m : List KFl) : tickK (⟨t, d, v, o, 3, op⟩ :: m) = ⟨t, d, v, o, 2, op⟩ :: tickK m := rfl
theorem w_tick4 (t : PT AV) (d : KR) (v : AV) (o : Oper) (op : KOp) (m : List KFl) : tickK (⟨t, d, v, o, 4, op⟩ :: m) = ⟨t, d, v, o, 3, op⟩ :: tickK m := rfl
theorem w_still0 (S : KS) (h : H) (f : H → TO) : stillX [] S h f = f h := rfl
theorem w_still1 (t : PT AV) (d : KR) (v : AV) (o : Oper) (n : Nat) (op : KOp) (m : List KFl) (S : KS) (h : H) (f : H → TO) :
    stillX (⟨t, d, v, o, n, op⟩ :: m) S h f = kstep op S t d h (stillXC v m S h f) := rfl
theorem w_stillC (v u : AV) (m : List KFl) (S : KS) (h h' : H) (f : H → TO) : stillXC v m S h f u h' = gX (AV.beq u v) (stillY m S f) h := rfl
theorem w_stillY (m : List KFl) (S : KS) (h : H) (f : H → TO) : stillY m S f h = stillX m S h f := rfl
theorem w_gX (f : H → TO) (h : H) : gX true f h = f h := rfl
theorem AV.beq_refl : ∀ v : AV, AV.beq v v = true := by
  intro v
  induction v using AV.rec (motive_2 := fun l => AV.beq.beqs l l = true) with
  | bool b => cases b <;> rfl
  | int k n => cases k <;> simp [AV.beq]
  | str s => simp [AV.beq]
  | nilptr => rfl
  | ptr b o => simp [AV.beq]
  | nilslice => rfl
  | slice b o l c => simp [AV.beq]
  | nilmap => rfl
  | map r => simp [AV.beq]
  | nilfunc => rfl
  | func f a c h1 h2 => simp [AV.beq, h1, h2]
  | yield l => simp [AV.beq]
  | niliface => rfl
  | iface t v h => simp [AV.beq, h]
  | agg cs h => simpa [AV.beq] using h
  | tup vs h => simpa [AV.beq] using h
  | nil => rfl
  | cons a l h1 h2 => simp [AV.beq.beqs, h1, h2]

/- code -/
section
variable (W : KW) (fr : Fr) (h : H)
theorem c_draw (ops : List Oper) (l : List KDI) : codeK (.draw ops l) W fr h = drawK l ⟨W.e, W.r, W.cx, ops, true⟩ [] fr.tmps ⟨fr.defs, fr.pan, fr.rcd⟩ h := rfl
theorem c_skip : codeK .skip W fr h = .ret (.nrm fr h) := rfl
theorem c_region (ops : List Oper) (l : List KI) : codeK (.region ops l) W fr h = opsK l ⟨W.e, W.r, W.cx, ops, true⟩ fr.tmps ⟨fr.defs, fr.pan, fr.rcd⟩ h := rfl
theorem c_seq (a b : KCode) : codeK (.seq a b) W fr h = T.bindK (codeK a W fr h) (cSeq1 (codeK b) W) := rfl
theorem c_seqN (k : KC) (fr : Fr) (h : H) : T.bindK (.ret (.nrm fr h)) (cSeq1 k W) = k W fr h := rfl
theorem c_seqX (k : KC) (id : Nat) (fr : Fr) (h : H) : T.bindK (.ret (.ext id fr h)) (cSeq1 k W) = .ret (.ext id fr h) := rfl
theorem c_seqR (k : KC) (fr : Fr) (h : H) : T.bindK (.ret (.ret fr h)) (cSeq1 k W) = .ret (.ret fr h) := rfl
theorem c_cond (x : KX) (a b : KCode) : codeK (.cond x a b) W fr h = evK x fr.tmps (cCond1 (codeK a) (codeK b) W fr h) := rfl
theorem c_cond1 (a b : KC) (v : AV) : cCond1 a b W fr h v = asBool v (cCond2 a b W fr h) := rfl
theorem c_condT (a b : KC) : cCond2 a b W fr h true = a W fr h := rfl
theorem c_condF (a b : KC) : cCond2 a b W fr h false = b W fr h := rfl
theorem c_block (id : Nat) (c : KCode) : codeK (.block id c) W fr h = T.bindK (codeK c W fr h) (cBlock1 id) := rfl
theorem c_blockN (id : Nat) (fr : Fr) (h : H) : T.bindK (.ret (.nrm fr h)) (cBlock1 id) = .ret (.nrm fr h) := rfl
theorem c_blockR (id : Nat) (fr : Fr) (h : H) : T.bindK (.ret (.ret fr h)) (cBlock1 id) = .ret (.ret fr h) := rfl
theorem c_blockX (id id' : Nat) (fr : Fr) (h : H) : T.bindK (.ret (.ext id' fr h)) (cBlock1 id) = if id' = id then .ret (.nrm fr h) else .ret (.ext id' fr h) := by
  show Bool.rec (motive := fun _ => TO) (.ret (.ext id' fr h)) (.ret (.nrm fr h)) (Nat.beq id' id) = _
  by_cases q : id' = id
  · subst q
    rw [show Nat.beq id' id' = true by simp, if_pos rfl]
  · cases hq : Nat.beq id' id with
    | false => rw [if_neg q]
    | true => exact absurd (by simpa using hq) q
theorem c_loop (o : Code) (c : KCode) : codeK (.loop o c) W fr h = T.bindK (codeK c W fr h) (cLoop1 o W) := rfl
theorem c_loopN (o : Code) (fr : Fr) (h : H) : T.bindK (.ret (.nrm fr h)) (cLoop1 o W) = W.r.code W.cx (.loop o) fr h := rfl
theorem c_loopX (o : Code) (id : Nat) (fr : Fr) (h : H) : T.bindK (.ret (.ext id fr h)) (cLoop1 o W) = .ret (.ext id fr h) := rfl
theorem c_loopR (o : Code) (fr : Fr) (h : H) : T.bindK (.ret (.ret fr h)) (cLoop1 o W) = .ret (.ret fr h) := rfl
theorem d_seqN (k : KC) (fr : Fr) (h : H) : cSeq1 k W (.nrm fr h) = k W fr h := rfl
theorem d_seqX (k : KC) (id : Nat) (fr : Fr) (h : H) : cSeq1 k W (.ext id fr h) = .ret (.ext id fr h) := rfl
theorem d_seqR (k : KC) (fr : Fr) (h : H) : cSeq1 k W (.ret fr h) = .ret (.ret fr h) := rfl
theorem d_blockN (id : Nat) (fr : Fr) (h : H) : cBlock1 id (.nrm fr h) = .ret (.nrm fr h) := rfl
theorem d_blockR (id : Nat) (fr : Fr) (h : H) : cBlock1 id (.ret fr h) = .ret (.ret fr h) := rfl
theorem d_blockX (id id' : Nat) (fr : Fr) (h : H) : cBlock1 id (.ext id' fr h) = if id' = id then .ret (.nrm fr h) else .ret (.ext id' fr h) := c_blockX id id' fr h
theorem d_loopN (o : Code) (fr : Fr) (h : H) : cLoop1 o W (.nrm fr h) = W.r.code W.cx (.loop o) fr h := rfl
theorem d_loopX (o : Code) (id : Nat) (fr : Fr) (h : H) : cLoop1 o W (.ext id fr h) = .ret (.ext id fr h) := rfl
theorem d_loopR (o : Code) (fr : Fr) (h : H) : cLoop1 o W (.ret fr h) = .ret (.ret fr h) := rfl
theorem c_exit (id : Nat) : codeK (.exit id) W fr h = .ret (.ext id fr h) := rfl
theorem c_ret : codeK .ret W fr h = .ret (.ret fr h) := rfl
end
theorem bindK_all {α β : Type} {x : T α} {f : α → T β} {Q : β → Prop} (h : x.all fun a => (f a).all Q) : (T.bindK x f).all Q := by
  rw [T.bindK_eq]
  exact T.bind_all h
theorem enter_rule {e : Env} {r : Rec} {f nt : Nat} {fn : Func} {c : Code} {kc : KCode} {args : List AV} {h : H} {p : Option AV} {Q : CR → Prop} (hf : getN e.ft f = some (.body fn)) (hb : fn.body = some c) (hn : fn.ntmps = nt) (hk : kcode e ⟨f, nt, false⟩ c = kc) (hl : lenLe args nt = true)
    (hq : (codeK kc ⟨e, r, ⟨f, nt, false⟩⟩ ⟨initK args 0 .lf, [], p, false⟩ h).all fun o => (enter2 e r fn o).all Q) : (enterK e r f args h p).all Q := by
  unfold enterK
  rw [hf]
  show (Option.rec (motive := fun _ => T CR) .bad (enter1 e r f args h p fn) fn.body).all Q
  rw [hb]
  show (enter1 e r f args h p fn c).all Q
  unfold enter1
  rw [hn, hl, hk]
  exact bindK_all hq
theorem leave1_rule {e : Env} {r : Rec} {fn : Func} {p : KP} {t : PT AV} {pan : Option AV} {rcd : Bool} {h : H} {v : AV} {Q : CR → Prop} (hr : kres fn.results.toList = some [p]) (hv : p.get t = some v) (hq : Q (.ok v h rcd)) : (leaveK e r fn ⟨t, [], pan, rcd⟩ h).all Q := by
  unfold leaveK
  rw [hr]
  show (gatherK [p] t (leave1 h rcd)).all Q
  show (Option.rec (motive := fun _ => T CR) .bad (fun v => gatherK [] t (gatherTl (leave1 h rcd) v)) (p.get t)).all Q
  rw [hv]
  exact hq
theorem leave2_rule {e : Env} {r : Rec} {fn : Func} {p q : KP} {t : PT AV} {pan : Option AV} {rcd : Bool} {h : H} {v w : AV} {Q : CR → Prop} (hr : kres fn.results.toList = some [p, q]) (hv : p.get t = some v) (hw : q.get t = some w) (hq : Q (.ok (.tup [v, w]) h rcd)) : (leaveK e r fn ⟨t, [], pan, rcd⟩ h).all Q := by
  unfold leaveK
  rw [hr]
  show (Option.rec (motive := fun _ => T CR) .bad (fun v => gatherK [q] t (gatherTl (leave1 h rcd) v)) (p.get t)).all Q
  rw [hv]
  show (Option.rec (motive := fun _ => T CR) .bad (fun w => gatherK [] t (gatherTl (gatherTl (leave1 h rcd) v) w)) (q.get t)).all Q
  rw [hw]
  exact hq
theorem leave3_rule {e : Env} {r : Rec} {fn : Func} {p q s : KP} {t : PT AV} {pan : Option AV} {rcd : Bool} {h : H} {v w u : AV} {Q : CR → Prop} (hr : kres fn.results.toList = some [p, q, s]) (hv : p.get t = some v) (hw : q.get t = some w) (hu : s.get t = some u) (hq : Q (.ok (.tup [v, w, u]) h rcd)) : (leaveK e r fn ⟨t, [], pan, rcd⟩ h).all Q := by
  unfold leaveK
  rw [hr]
  show (Option.rec (motive := fun _ => T CR) .bad (fun v => gatherK [q, s] t (gatherTl (leave1 h rcd) v)) (p.get t)).all Q
  rw [hv]
  show (Option.rec (motive := fun _ => T CR) .bad (fun w => gatherK [s] t (gatherTl (gatherTl (leave1 h rcd) v) w)) (q.get t)).all Q
  rw [hw]
  show (Option.rec (motive := fun _ => T CR) .bad (fun u => gatherK [] t (gatherTl (gatherTl (gatherTl (leave1 h rcd) v) w) u)) (s.get t)).all Q
  rw [hu]
  exact hq
theorem e_nrm (e : Env) (r : Rec) (fn : Func) (fr : Fr) (h : H) : enter2 e r fn (.nrm fr h) = leaveK e r fn fr h := rfl
theorem e_ret (e : Env) (r : Rec) (fn : Func) (fr : Fr) (h : H) : enter2 e r fn (.ret fr h) = leaveK e r fn fr h := rfl
theorem a_ret {α : Type} (Q : α → Prop) (a : α) : (T.ret a).all Q = Q a := rfl
theorem i_nil (n : Nat) (t : PT AV) : initK [] n t = t := rfl
theorem i_cons (v : AV) (l : List AV) (n : Nat) (t : PT AV) : initK (v :: l) n t = initK l (n + 1) ((KP.mk n).set v t) := rfl
theorem recK_call (e : Env) (n f : Nat) (args : List AV) (h : H) (p : Option AV) : (recK e (n + 1)).call f args h p = enterK e (recK e n) f args h p := rfl
theorem recK_code (e : Env) (n : Nat) (cx : Cx) (c : Code) (fr : Fr) (h : H) : (recK e (n + 1)).code cx c fr h = codeK (kcode e cx c) ⟨e, recK e n, cx⟩ fr h := rfl
theorem c_fr (a : List ADef) (b : Option AV) (c : Bool) (t : PT AV) : KR.fr ⟨a, b, c⟩ t = ⟨t, a, b, c⟩ := rfl
end Go.Ab

namespace Go.Ab
/- Pieces of a function's code, by place. -/
def codeOf (fn : Func) : Code := match fn.body with | some c => c | none => .skip
def ropsL : Code → List (Nat × List Oper)
  | .region id ops _ => [(id, ops.toList)]
  | .seq a b | .cond _ a b | .rangeFunc _ _ a b => ropsL a ++ ropsL b
  | .block _ c | .loop c | .scope c => ropsL c
  | _ => []
def ropsIn (id : Nat) : List (Nat × List Oper) → List Oper
  | [] => []
  | (j, l) :: r => bif Nat.beq j id then l else ropsIn id r
def ropsOf (c : Code) (id : Nat) : List Oper := ropsIn id (ropsL c)
def operOf (c : Code) (id i : Nat) : Oper := match lget (ropsOf c id) i with | some o => o | none => default
def loopsL : Code → List Code
  | .seq a b | .cond _ a b | .rangeFunc _ _ a b => loopsL a ++ loopsL b
  | .loop c => c :: loopsL c
  | .block _ c | .scope c => loopsL c
  | _ => []
def loopOf (c : Code) (i : Nat) : Code := match lget (loopsL c) i with | some o => o | none => .skip
def slowsL : Code → List Code
  | .seq a b | .cond _ a b => slowsL a ++ slowsL b
  | .block _ c | .loop c => slowsL c
  | .skip | .exit _ | .ret | .region .. => []
  | c => [c]
def slowOf (c : Code) (i : Nat) : Code := match lget (slowsL c) i with | some o => o | none => .skip
end Go.Ab
namespace Go.Ab

theorem PT.setA_lf {α : Type} (f i : Nat) (x : α) : PT.setA (f + 1) .lf (i + 1) x = bif Nat.beq (i % 2) 0 then .nd none (PT.setA f .lf (i / 2) x) .lf else .nd none .lf (PT.setA f .lf (i / 2) x) := rfl
theorem PT.setA_nd {α : Type} (f i : Nat) (x : α) (v : Option α) (l r : PT α) : PT.setA (f + 1) (.nd v l r) (i + 1) x = bif Nat.beq (i % 2) 0 then .nd v (PT.setA f l (i / 2) x) r else .nd v l (PT.setA f r (i / 2) x) := rfl
theorem PT.setA_setA {α : Type} (x y : α) : ∀ (f : Nat) (t : PT α) (i : Nat), PT.setA f (PT.setA f t i x) i y = PT.setA f t i y
  | 0, t, i => rfl
  | f + 1, .lf, 0 => rfl
  | f + 1, .nd v l r, 0 => rfl
  | f + 1, .lf, i + 1 => by
    rw [PT.setA_lf, PT.setA_lf]
    cases h : Nat.beq (i % 2) 0 with
    | true => rw [cond_true, cond_true, PT.setA_nd, h, cond_true, PT.setA_setA x y f .lf (i / 2)]
    | false => rw [cond_false, cond_false, PT.setA_nd, h, cond_false, PT.setA_setA x y f .lf (i / 2)]
  | f + 1, .nd v l r, i + 1 => by
    rw [PT.setA_nd, PT.setA_nd]
    cases h : Nat.beq (i % 2) 0 with
    | true => rw [cond_true, cond_true, PT.setA_nd, h, cond_true, PT.setA_setA x y f l (i / 2)]
    | false => rw [cond_false, cond_false, PT.setA_nd, h, cond_false, PT.setA_setA x y f r (i / 2)]
theorem PT.set_set {α : Type} (t : PT α) (i : Nat) (x y : α) : (t.set i x).set i y = t.set i y := PT.setA_setA x y _ t i
theorem H.put_put (h : H) (b : Nat) (o o' : AO) : (h.put b o).put b o' = h.put b o' := by
  simp only [H.put, PT.set_set]
theorem H.new_put (h : H) (o o' : AO) : (h.new o).put h.sz o' = h.new o' := by
  simp only [H.put, H.new, PT.set_set]
theorem H.get_new_self (h : H) (o : AO) : (h.new o).get h.sz = some o := by rw [H.get_new, if_pos rfl]
theorem H.get_new_ne (h : H) {b : Nat} (o : AO) (hb : b ≠ h.sz) : (h.new o).get b = h.get b := by rw [H.get_new, if_neg hb]
theorem H.get_put_self (h : H) (b : Nat) (o : AO) : (h.put b o).get b = some o := by rw [H.get_put, if_pos rfl]
theorem H.get_put_ne (h : H) {b c : Nat} (o : AO) (hb : b ≠ c) : (h.put c o).get b = h.get b := by rw [H.get_put, if_neg hb]

/-- A part of a part. -/
theorem lpart_sub {α : Type} {o n a m : Nat} {l cs : List α} (h : lpart o n l = some cs) (hm : a + m ≤ n) : lpart (o + a) m l = some ((cs.drop a).take m) := by
  rw [lpart_eq] at h ⊢
  split at h
  · injection h with h
    rw [if_pos (by omega)]
    subst h
    congr 1
    rw [List.drop_take, List.take_take, List.drop_drop, Nat.min_eq_left (by omega)]
  · cases h
theorem lput_whole {α : Type} : ∀ (cs vs : List α), cs.length = vs.length → lput 0 cs vs = vs
  | [], [], _ => rfl
  | [], _ :: _, h => by simp at h
  | _ :: _, [], h => by simp at h
  | _ :: cs, v :: vs, h => by
    show v :: lput 0 cs vs = _
    rw [lput_whole cs vs (by simpa using h)]

section
variable (S : KS) (t : PT AV) (d : KR) (h : H) (k : KK)
theorem h_alloc (ty n : Nat) (z : List AV) : kstep (.alloc ty n z) S t d h k = k (.ptr h.sz 0) (h.new (.row ⟨z, z.length, ty, false, n, true, false⟩)) := by
  rw [← newK_eq]; rfl
theorem h_box1 (ty : Nat) (x : KX) : kstep (.box1 ty x) S t d h k = evK x t (kBox1a ty h k) := rfl
theorem h_box1a (ty : Nat) {v : AV} (hv : one1 v = true) : kBox1a ty h k v = k (.ptr h.sz 0) (h.new (.row ⟨[v], 1, ty, false, 1, true, false⟩)) := by
  unfold kBox1a
  rw [hv, newK_eq]; rfl
theorem h_boxN (ty n : Nat) (x : KX) : kstep (.boxN ty n x) S t d h k = evK x t (kBoxNa ty n h k) := rfl
theorem h_boxNa (ty n : Nat) {cs : List AV} (hn : cs.length = n) (h1 : allOne cs = true) : kBoxNa ty n h k (.agg cs) = k (.ptr h.sz 0) (h.new (.row ⟨cs, n, ty, false, n, true, false⟩)) := by
  show guardT (eqLen cs n) (guardT (allOne cs) (k _ (newK h _))) = _
  rw [eqLen_eq, h1, hn, Nat.beq_refl, newK_eq]; rfl
theorem h_store1 (x v : KX) : kstep (.store1 x v) S t d h k = evK x t (kStore1a v t h k) := rfl
theorem h_store1a (v : KX) (b o : Nat) : kStore1a v t h k (.ptr b o) = evK v t (kStore1b b o h k) := rfl
theorem h_store1b {b o : Nat} {r : Row} {v : AV} (hv : one1 v = true) (hr : h.get b = some (.row r)) (hw : r.wr = true) (ho : o < r.n) : kStore1b b o h k v = k (.tup []) (h.put b (.row { r with cells := lput o r.cells [v] })) := by
  unfold kStore1b
  rw [hv, s_guard, s_row hr]
  cases r with
  | mk cells n elem opn es wr strish =>
    show guardT wr (guardT (Nat.ble (Nat.succ o) n) (k (.tup []) (putK h b _))) = _
    have hw : wr = true := hw
    subst hw
    rw [show Nat.ble (Nat.succ o) n = true from ble_true ho, putK_eq, lset1_eq]
    rfl
theorem h_storeN (n : Nat) (x v : KX) : kstep (.storeN n x v) S t d h k = evK x t (kStoreNa n v t h k) := rfl
theorem h_storeNa (n : Nat) (v : KX) (b o : Nat) : kStoreNa n v t h k (.ptr b o) = evK v t (kStoreNb n b o h k) := rfl
theorem h_storeNb {n b o : Nat} {r : Row} {cs : List AV} (hn : cs.length = n) (h1 : allOne cs = true) (hr : h.get b = some (.row r)) (hw : r.wr = true) (ho : o + n ≤ r.n) :
    kStoreNb n b o h k (.agg cs) = k (.tup []) (h.put b (.row { r with cells := lput o r.cells cs })) := by
  show guardT (eqLen cs n) (guardT (allOne cs) (rowK h b _)) = _
  rw [eqLen_eq, h1, hn, Nat.beq_refl, s_guard, s_guard, s_row hr]
  cases r with
  | mk cells rn elem opn es wr strish =>
    show guardT wr (guardT (Nat.ble (Nat.add o n) rn) (k (.tup []) (putK h b _))) = _
    have hw : wr = true := hw
    subst hw
    rw [show Nat.ble (Nat.add o n) rn = true from ble_true ho, putK_eq, lputK_eq]
    rfl
theorem h_mkS (el size bytes : Nat) (z : List AV) (l c : KX) : kstep (.mkSlice el size bytes z l c) S t d h k = evK l t (kMkSa el size bytes z c t h k) := rfl
theorem h_mkSa (el size bytes : Nat) (z : List AV) (c : KX) (n : Nat) : kMkSa el size bytes z c t h k (.int .i64 (n : Int)) = evK c t (kMkSc el size bytes z h k n) := rfl
theorem h_mkSc (el size bytes : Nat) (z : List AV) (n m : Nat) : kMkSc el size bytes z h k n (.int .i64 (m : Int)) = kMkSd el size bytes z h k n m := rfl
theorem h_mkSd {el size bytes n m : Nat} {z : List AV} (h1 : n ≤ m) (h2 : m * bytes ≤ 281474976710656) (h3 : m ≤ 9223372036854775807) (h4 : z.length = size) :
    kMkSd el size bytes z h k n m = k (.slice h.sz 0 n m) (h.new (.row ⟨lrep m z, m * size, el, false, size, true, false⟩)) := by
  unfold kMkSd
  rw [ble_true h1, show Nat.ble (Nat.mul m bytes) 281474976710656 = true from ble_true h2, ble_true h3, eqLen_eq, h4, Nat.beq_refl, repK_eq, newK_eq]
  rfl
theorem h_copy (es : Nat) (x y : KX) : kstep (.copy es x y) S t d h k = evK x t (kCopya es y t h k) := rfl
theorem h_copya (es : Nat) (y : KX) (s : AV) : kCopya es y t h k s = evK y t (kCopyb es h k s) := rfl
/-- A copy into a row that is filled whole by it. -/
theorem h_copyL {es : Nat} {b o len cap bx ox n cx : Nat} {r rx : Row} {new : List AV} (hx : h.get bx = some (.row rx)) (hn : lpart ox (n * es) rx.cells = some new) (hr : h.get b = some (.row r)) (hw : r.wr = true) (hln : len < n) (h0 : 0 < len)
    (ho : o + len * es ≤ r.n) (h1 : allOne (new.take (len * es)) = true) : kCopyb es h k (.slice b o len cap) (.slice bx ox n cx) = k (.int .i64 (len : Nat)) (h.put b (.row { r with cells := lput o r.cells (new.take (len * es)) })) := by
  show rowK h bx (fun r => optK (partK ox (Nat.mul n es) r.cells) (kCopyc es h k (.slice b o len cap) n)) = _
  rw [s_row hx]
  show optK (partK ox (n * es) rx.cells) _ = _
  rw [partK_eq, hn]
  show kCopyS es h k n new b o len cap = _
  unfold kCopyS
  rw [show Nat.ble n len = false from by
    cases hh : Nat.ble n len with
    | false => rfl
    | true => exact absurd (Nat.le_of_ble_eq_true hh) (by omega)]
  cases len with
  | zero => omega
  | succ len =>
    show rowK h b _ = _
    rw [s_row hr]
    cases r with
    | mk cells rn elem opn res wr strish =>
      show kCopyIn b o es (len + 1) (takeK new (Nat.mul (len + 1) es)) h k cells rn elem opn res wr strish = _
      unfold kCopyIn
      have hw : wr = true := hw
      subst hw
      rw [takeK_eq, show Nat.ble (Nat.add o (Nat.mul (len + 1) es)) rn = true from ble_true ho, show allOne (List.take (Nat.mul (len + 1) es) new) = true from h1, putK_eq, lputK_eq]
      rfl
theorem h_copy0 {es : Nat} {b o cap bx ox n cx : Nat} {rx : Row} {new : List AV} (hx : h.get bx = some (.row rx)) (hn : lpart ox (n * es) rx.cells = some new) : kCopyb es h k (.slice b o 0 cap) (.slice bx ox n cx) = k (.int .i64 0) h := by
  show rowK h bx (fun r => optK (partK ox (Nat.mul n es) r.cells) (kCopyc es h k (.slice b o 0 cap) n)) = _
  rw [s_row hx]
  show optK (partK ox (n * es) rx.cells) _ = _
  rw [partK_eq, hn]
  show kCopyS es h k n new b o 0 cap = _
  cases n <;> rfl
end
end Go.Ab
namespace Go.Ab
open Go

section
variable {S : KS} {t : PT AV} {d : KR} {h h' : H} {o : Oper} {l : List KI} {v : AV} {D : Nat}
theorem slow_val (hg : o.guard = none) (hd : o.dst = some D) (hD : D < S.cx.nt) (ho : opA S.e (d.fr t) h S.cx.nt o = .val v h') : opsK (.slow o :: l) S t d h = opsK l S ((KP.mk D).set v t) d h' := by
  have hr : runOp S.e S.r S.cx.nt S.ops o (d.fr t) h = .ret (.val v h') := by
    unfold runOp wantedA
    rw [hg]
    dsimp only
    rw [ho]
  show (runOp S.e S.r S.cx.nt S.ops o (d.fr t) h).bind (putOp S.cx true o.dst (d.fr t) h (kiFr (opsK l) S)) = _
  rw [hr, hd]
  show putOp S.cx true (some D) (d.fr t) h (kiFr (opsK l) S) (.val v h') = _
  have hp : (d.fr t).put S.cx.nt (some D) v = some { (d.fr t) with tmps := (d.fr t).tmps.set D v } := by
    unfold Fr.put
    dsimp only
    rw [show Nat.blt D S.cx.nt = true by simpa using hD, if_pos rfl]
  unfold putOp
  dsimp only
  rw [hp]
  cases d with
  | mk defs pan rcd =>
    show opsK l S (t.set D v) ⟨defs, pan, rcd⟩ h' = _
    rw [KP.set_mk]
theorem range_str {ty a : Nat} {s : List UInt8} {ti : TI} (hg : o.guard = none) (hd : o.dst = some D) (hD : D < S.cx.nt) (ho : o.op = .range ty (.tmp a)) (ht : S.e.tt.get ty = some ti) (hk : ti.kind = .str) (hs : (KP.mk a).get t = some (.str s)) :
    opsK (.slow o :: l) S t d h = opsK l S ((KP.mk D).set (.ptr h.sz 0) t) d (h.new (.siter s 0)) := by
  refine slow_val hg hd hD ?_
  rw [KP.get_mk] at hs
  unfold opA
  rw [ho]
  dsimp only
  rw [show S.e.ti ty = some ti from ht, show (d.fr t).eval (.tmp a) = some (.str s) from hs]
  dsimp only
  rw [hk]
theorem next_more {a r pos : Nat} {s : List UInt8} (hg : o.guard = none) (hd : o.dst = some D) (hD : D < S.cx.nt) (ho : o.op = .next (.tmp a) true) (hs : (KP.mk a).get t = some (.ptr r 0)) (hr : h.get r = some (.siter s pos)) (hp : pos < s.length) :
    opsK (.slow o :: l) S t d h = opsK l S ((KP.mk D).set (.tup [.bool true, .int .i64 (pos : Nat), .int .i32 (Utf8.decode ⟨⟨s⟩⟩ pos).1]) t) d (h.put r (.siter s (pos + (Utf8.decode ⟨⟨s⟩⟩ pos).2))) := by
  refine slow_val hg hd hD ?_
  rw [KP.get_mk] at hs
  unfold opA
  rw [ho]
  dsimp only
  rw [show (d.fr t).eval (.tmp a) = some (.ptr r 0) from hs]
  simp only [hr, show Nat.blt pos s.length = true by simpa using hp, if_true]
theorem next_none {a r pos : Nat} {s : List UInt8} (hg : o.guard = none) (hd : o.dst = some D) (hD : D < S.cx.nt) (ho : o.op = .next (.tmp a) true) (hs : (KP.mk a).get t = some (.ptr r 0)) (hr : h.get r = some (.siter s pos)) (hp : ¬ pos < s.length) :
    opsK (.slow o :: l) S t d h = opsK l S ((KP.mk D).set (.tup [.bool false]) t) d h := by
  refine slow_val hg hd hD ?_
  rw [KP.get_mk] at hs
  unfold opA
  rw [ho]
  dsimp only
  rw [show (d.fr t).eval (.tmp a) = some (.ptr r 0) from hs]
  simp only [hr]
  exact if_neg (fun e => hp (by simpa using e))
end
end Go.Ab
namespace Go.Ab

/-- Less known. -/
inductive T.Le {α : Type} : T α → T α → Prop
  | ret (a : α) : T.Le (.ret a) (.ret a)
  | pick (n : Nat) (f g : Nat → T α) (h : ∀ i, T.Le (f i) (g i)) : T.Le (.pick n f) (.pick n g)
  | bad (x : T α) : T.Le .bad x

theorem T.Le.refl {α : Type} : ∀ (x : T α), T.Le x x
  | .ret a => .ret a
  | .pick n k => .pick n k k fun i => T.Le.refl (k i)
  | .bad => .bad _
theorem T.Le.trans {α : Type} : ∀ {x y z : T α}, T.Le x y → T.Le y z → T.Le x z
  | _, _, _, .ret _, h => h
  | _, _, _, .pick n f g h, .pick _ _ k h' => .pick n f k fun i => (h i).trans (h' i)
  | _, _, _, .bad _, _ => .bad _
theorem T.Le.bind {α β : Type} {f g : α → T β} (hf : ∀ a, T.Le (f a) (g a)) : ∀ {x y : T α}, T.Le x y → T.Le (x.bind f) (y.bind g)
  | _, _, .ret a => hf a
  | _, _, .pick n k l h => .pick n _ _ fun i => T.Le.bind hf (h i)
  | _, _, .bad _ => .bad _
theorem T.Le.all {α : Type} {Q : α → Prop} : ∀ {x y : T α}, T.Le x y → x.all Q → y.all Q
  | _, _, .ret a, h => h
  | _, _, .pick n k l hh, h => fun i hi => (hh i).all (h i hi)
  | _, _, .bad _, h => h.elim
/-- Where nothing is missing, nothing more is known above. -/
theorem T.Le.back {α : Type} {Q : α → Prop} : ∀ {x y : T α}, T.Le x y → x.all (fun _ => True) → y.all Q → x.all Q
  | _, _, .ret a, _, h => h
  | _, _, .pick n k l hh, h0, h => fun i hi => (hh i).back (h0 i hi) (h i hi)
  | _, _, .bad _, h0, _ => h0.elim

structure Rec.Le (r s : Rec) : Prop where
  code : ∀ cx c fr h, T.Le (r.code cx c fr h) (s.code cx c fr h)
  call : ∀ f args h p, T.Le (r.call f args h p) (s.call f args h p)

section
variable {e : Env} {r s : Rec} (L : r.Le s)
include L

theorem roundA_Le (l : Nat) (args : List AV) (h : H) : T.Le (roundA r l args h) (roundA s l args h) := by
  unfold roundA
  split
  · split
    · exact .refl _
    · refine .bind (fun o => ?_) (L.code _ _ _ _)
      cases o with
      | nrm fr h1 =>
        dsimp only
        split
        · exact .bind (fun o => by cases o <;> exact .refl _) (L.code _ _ _ _)
        · exact .refl _
      | _ => exact .refl _
  · exact .refl _

theorem runOp_Le (nt : Nat) (ops : List Oper) (o : Oper) (fr : Fr) (h : H) : T.Le (runOp e r nt ops o fr h) (runOp e s nt ops o fr h) := by
  unfold runOp
  split
  · exact .refl _
  · exact .refl _
  · split
    · exact .refl _
    · exact .refl _
    · exact .bind (fun _ => .refl _) (L.call _ _ _ _)
    · exact .bind (fun _ => .refl _) (roundA_Le L _ _ _)
    all_goals exact .refl _

theorem oneOp_Le {cx : Cx} {pk : Bool} {ops : List Oper} {o : Oper} {fr : Fr} {h : H} {k k' : Fr → H → T Out} (hk : ∀ fr h, T.Le (k fr h) (k' fr h)) : T.Le (oneOp e r cx pk ops o fr h k) (oneOp e s cx pk ops o fr h k') := by
  unfold oneOp
  refine .bind (fun res => ?_) (runOp_Le L _ _ _ _ _)
  cases res with
  | val v h1 =>
    simp only [putOp]
    split
    · exact hk _ _
    · exact .refl _
  | pan v h1 => exact .refl _
  | dfr d =>
    simp only [putOp]
    split
    · exact .refl _
    · split
      · exact hk _ _
      · exact .refl _
  | rcv =>
    simp only [putOp]
    split
    · exact .refl _
    · split
      · split
        · exact hk _ _
        · exact .refl _
      · split
        · exact hk _ _
        · exact .refl _

theorem opsA_Le (cx : Cx) (ops : List Oper) : ∀ (l : List Oper) (fr : Fr) (h : H), T.Le (opsA e r cx ops l fr h) (opsA e s cx ops l fr h)
  | [], _, _ => .refl _
  | _ :: l, _, _ => oneOp_Le L fun fr h => opsA_Le cx ops l fr h

theorem drawA_Le (cx : Cx) (ops : List Oper) (ri : RI) : ∀ (l : List Nat) (m : List Fl) (fr : Fr) (h : H), T.Le (drawA e r cx ops ri l m fr h) (drawA e s cx ops ri l m fr h)
  | [], _, _, _ => .refl _
  | i :: l, m, fr, h => by
    unfold drawA
    split
    · exact .refl _
    · rename_i o ho
      cases lmem i ri.eff with
      | true =>
        cases m.all (stillA e cx.nt ops h) with
        | true => exact oneOp_Le L fun fr h => drawA_Le cx ops ri l _ fr h
        | false => exact .refl _
      | false =>
        dsimp only [cond]
        split
        · exact .refl _
        · split
          · exact .refl _
          · exact drawA_Le cx ops ri l _ _ _

theorem codeA_Le (cx : Cx) : ∀ (c : Code) (fr : Fr) (h : H), T.Le (codeA e r cx c fr h) (codeA e s cx c fr h)
  | .skip, _, _ => .refl _
  | .region id ops draw, fr, h => by
    unfold codeA
    cases draw with
    | true =>
      dsimp only [cond]
      split
      · split
        · exact drawA_Le L _ _ _ _ _ _ _
        · exact .refl _
      · exact .refl _
    | false => exact opsA_Le L _ _ _ _ _
  | .seq a b, fr, h => by
    unfold codeA
    refine .bind (fun o => ?_) (codeA_Le cx a fr h)
    cases o with
    | nrm fr h => exact codeA_Le cx b fr h
    | _ => exact .refl _
  | .cond c a b, fr, h => by
    unfold codeA
    split
    · exact codeA_Le cx a fr h
    · exact codeA_Le cx b fr h
    · exact .refl _
  | .block id c, fr, h => by
    unfold codeA
    refine .bind (fun o => ?_) (codeA_Le cx c fr h)
    cases o <;> exact .refl _
  | .loop c, fr, h => by
    unfold codeA
    refine .bind (fun o => ?_) (codeA_Le cx c fr h)
    cases o with
    | nrm fr h => exact L.code cx (.loop c) fr h
    | _ => exact .refl _
  | .rangeFunc f params assign body, fr, h => by
    unfold codeA
    cases cx.round with
    | true => exact .refl _
    | false =>
      dsimp only [cond]
      split
      · split
        · split
          · exact .bind (fun _ => .refl _) (L.call _ _ _ _)
          · exact .refl _
        · exact .refl _
      · exact .refl _
  | .exit id, _, _ => .refl _
  | .ret, _, _ => .refl _
  | .scope c, fr, h => by unfold codeA; exact .refl _
  | .label _, fr, h => by unfold codeA; exact .refl _
  | .goto _, fr, h => by unfold codeA; exact .refl _
  | .refuse _, fr, h => by unfold codeA; exact .refl _

theorem leaveA_Le (fn : Func) (fr : Fr) : ∀ (ds : List ADef) (p : Option AV) (h : H), T.Le (leaveA e r fn fr ds p h) (leaveA e s fn fr ds p h)
  | [], none, _ => .refl _
  | [], some _, _ => .refl _
  | .mark :: ds, p, h => by unfold leaveA; exact leaveA_Le fn fr ds p h
  | .call f args :: ds, p, h => by
    unfold leaveA
    refine .bind (fun o => ?_) (L.call _ _ _ _)
    cases o with
    | ok v h rcd => exact leaveA_Le fn fr ds _ h
    | pan v h => exact .refl _

theorem enterA_Le (f : Nat) (args : List AV) (h : H) (p : Option AV) : T.Le (enterA e r f args h p) (enterA e s f args h p) := by
  unfold enterA
  split
  · split
    · exact .refl _
    · split
      · refine .bind (fun o => ?_) (codeA_Le L _ _ _ _)
        cases o with
        | ext id fr h => exact .refl _
        | _ => exact leaveA_Le L _ _ _ _ _
      · exact .refl _
  · exact .refl _
end

theorem recN_succ_Le (e : Env) : ∀ n, (recN e n).Le (recN e (n + 1))
  | 0 => ⟨fun _ _ _ _ => .bad _, fun _ _ _ _ => .bad _⟩
  | n + 1 => ⟨fun cx c fr h => codeA_Le (recN_succ_Le e n) cx c fr h, fun f args h p => enterA_Le (recN_succ_Le e n) f args h p⟩
theorem Rec.Le.refl (r : Rec) : r.Le r := ⟨fun _ _ _ _ => .refl _, fun _ _ _ _ => .refl _⟩
theorem Rec.Le.trans {r s t : Rec} (a : r.Le s) (b : s.Le t) : r.Le t := ⟨fun _ _ _ _ => (a.code _ _ _ _).trans (b.code _ _ _ _), fun _ _ _ _ => (a.call _ _ _ _).trans (b.call _ _ _ _)⟩
theorem recN_Le (e : Env) {n m : Nat} (h : n ≤ m) : (recN e n).Le (recN e m) := by
  induction h with
  | refl => exact .refl _
  | step _ ih => exact ih.trans (recN_succ_Le e _)

/- The limit. -/
open Classical in
noncomputable def limT {α : Type} (f : Nat → T α) : T α := if hx : ∃ n, (f n).all fun _ => True then f hx.choose else .bad
theorem limT_all {α : Type} {f : Nat → T α} (hf : ∀ n m, n ≤ m → T.Le (f n) (f m)) {Q : α → Prop} : (limT f).all Q ↔ ∃ n, (f n).all Q := by
  unfold limT
  constructor
  · intro h
    split at h
    · exact ⟨_, h⟩
    · exact h.elim
  · rintro ⟨n, hn⟩
    have hx : ∃ n, (f n).all fun _ => True := ⟨n, T.all_mono (fun _ _ => trivial) hn⟩
    rw [dif_pos hx]
    rcases Nat.le_total n hx.choose with h | h
    · exact (hf _ _ h).all hn
    · exact (hf _ _ h).back hx.choose_spec hn
noncomputable def recL (e : Env) : Rec := ⟨fun cx c fr h => limT fun n => (recN e n).code cx c fr h, fun f args h p => limT fun n => (recN e n).call f args h p⟩
theorem recL_code {e : Env} {cx : Cx} {c : Code} {fr : Fr} {h : H} {Q : Out → Prop} : ((recL e).code cx c fr h).all Q ↔ ∃ n, ((recN e n).code cx c fr h).all Q := limT_all fun _ _ hnm => (recN_Le e hnm).code _ _ _ _
theorem recL_call {e : Env} {f : Nat} {args : List AV} {h : H} {p : Option AV} {Q : CR → Prop} : ((recL e).call f args h p).all Q ↔ ∃ n, ((recN e n).call f args h p).all Q := limT_all fun _ _ hnm => (recN_Le e hnm).call _ _ _ _

/-- One fuel for all branches. -/
theorem T.all_ex {α : Type} {P : Nat → α → Prop} (hP : ∀ n m a, n ≤ m → P n a → P m a) : ∀ {x : T α}, (x.all fun a => ∃ n, P n a) → ∃ n, x.all (P n)
  | .ret _, h => h
  | .bad, h => h.elim
  | .pick k f, h => by
    have hi : ∀ i, i < k → ∃ n, (f i).all (P n) := fun i hi => T.all_ex hP (h i hi)
    have : ∀ j, j ≤ k → ∃ n, ∀ i, i < j → (f i).all (P n) := by
      intro j
      induction j with
      | zero => exact fun _ => ⟨0, fun i hi => absurd hi (by omega)⟩
      | succ j ih =>
        intro hj
        obtain ⟨n, hn⟩ := ih (by omega)
        obtain ⟨m, hm⟩ := hi j (by omega)
        refine ⟨max n m, fun i hij => ?_⟩
        rcases Nat.lt_or_ge i j with hh | hh
        · exact T.all_mono (fun a ha => hP _ _ a (Nat.le_max_left _ _) ha) (hn i hh)
        · have : i = j := by omega
          subst this
          exact T.all_mono (fun a ha => hP _ _ a (Nat.le_max_right _ _) ha) hm
    obtain ⟨n, hn⟩ := this k (Nat.le_refl _)
    exact ⟨n, hn⟩

/-- 'What the limit does, some fuel does.' -/
def Fin {α : Type} (e : Env) (F : Rec → T α) : Prop := ∀ Q, (F (recL e)).all Q → ∃ n, (F (recN e n)).all Q
theorem Fin.bind {α β : Type} {e : Env} {F : Rec → T α} {G : Rec → α → T β} (hF : Fin e F) (hG : ∀ a, Fin e fun r => G r a) (mF : ∀ r s : Rec, r.Le s → T.Le (F r) (F s)) (mG : ∀ (r s : Rec) a, r.Le s → T.Le (G r a) (G s a)) : Fin e fun r => (F r).bind (G r) := fun Q hq => by
  have h1 : (F (recL e)).all fun a => ∃ n, (G (recN e n) a).all Q := T.all_mono (fun a ha => hG a Q ha) (T.all_bind hq)
  obtain ⟨n, hn⟩ := hF _ h1
  obtain ⟨m, hm⟩ := T.all_ex (P := fun m a => (G (recN e m) a).all Q) (fun i j a hij ha => (mG _ _ a (recN_Le e hij)).all ha) hn
  refine ⟨max n m, T.bind_all ?_⟩
  have h2 : (F (recN e (max n m))).all fun a => (G (recN e m) a).all Q := (mF _ _ (recN_Le e (Nat.le_max_left _ _))).all hm
  exact T.all_mono (fun a ha => (mG _ _ a (recN_Le e (Nat.le_max_right _ _))).all ha) h2
theorem Fin.const {α : Type} {e : Env} (x : T α) : Fin e fun _ => x := fun Q hq => ⟨0, hq⟩
theorem Fin.call {e : Env} {f : Nat} {args : List AV} {h : H} {p : Option AV} : Fin e fun r => r.call f args h p := fun _ hq => recL_call.1 hq
theorem Fin.code {e : Env} {cx : Cx} {c : Code} {fr : Fr} {h : H} : Fin e fun r => r.code cx c fr h := fun _ hq => recL_code.1 hq

section
variable {e : Env}
theorem roundA_fin (l : Nat) (args : List AV) (h : H) : Fin e fun r => roundA r l args h := by
  unfold roundA
  cases h.get l with
  | none => exact .const _
  | some o =>
    cases o with
    | loop st pend fn nt tmps params assign body =>
      dsimp only
      cases setParams nt params args tmps with
      | none => exact .const _
      | some t =>
        refine Fin.bind (F := fun r => r.code ⟨fn, nt, true⟩ assign ⟨t, [], none, false⟩ h) .code (fun o => ?_) (fun r s L => L.code _ _ _ _) (fun r s o L => ?_)
        · cases o with
          | nrm fr h1 =>
            dsimp only
            cases h1.get l with
            | none => exact .const _
            | some o =>
              cases o with
              | loop st pend fn nt tmps params assign body' =>
                cases st with
                | ready => exact Fin.bind .code (fun o => .const _) (fun r s L => L.code _ _ _ _) (fun r s o L => .refl _)
                | _ => exact .const _
              | _ => exact .const _
          | _ => exact .const _
        · cases o with
          | nrm fr h1 =>
            dsimp only
            split
            · exact .bind (fun o => by cases o <;> exact .refl _) (L.code _ _ _ _)
            · exact .refl _
          | _ => exact .refl _
    | _ => exact .const _
theorem runOp_fin (nt : Nat) (ops : List Oper) (o : Oper) (fr : Fr) (h : H) : Fin e fun r => runOp e r nt ops o fr h := by
  unfold runOp
  cases wantedA ops fr o with
  | none => exact .const _
  | some b => cases b with
    | false => exact .const _
    | true =>
      dsimp only
      cases opA e fr h nt o with
      | call f args => exact Fin.bind .call (fun _ => .const _) (fun r s L => L.call _ _ _ _) (fun r s o L => .refl _)
      | yld l args => exact Fin.bind (roundA_fin _ _ _) (fun _ => .const _) (fun r s L => roundA_Le L _ _ _) (fun r s o L => .refl _)
      | _ => exact .const _
theorem oneOp_fin {cx : Cx} {pk : Bool} {ops : List Oper} {o : Oper} {fr : Fr} {h : H} {k : Rec → Fr → H → T Out} (hk : ∀ fr h, Fin e fun r => k r fr h) (mk : ∀ (r s : Rec) fr h, r.Le s → T.Le (k r fr h) (k s fr h)) : Fin e fun r => oneOp e r cx pk ops o fr h (k r) := by
  unfold oneOp
  refine Fin.bind (runOp_fin _ _ _ _ _) (fun res => ?_) (fun r s L => runOp_Le L _ _ _ _ _) (fun r s res L => ?_)
  · cases res with
    | val v h1 =>
      simp only [putOp]
      split
      · exact hk _ _
      · exact .const _
    | pan v h1 => exact .const _
    | dfr d =>
      simp only [putOp]
      split
      · exact .const _
      · split
        · exact hk _ _
        · exact .const _
    | rcv =>
      simp only [putOp]
      split
      · exact .const _
      · split
        · split
          · exact hk _ _
          · exact .const _
        · split
          · exact hk _ _
          · exact .const _
  · cases res with
    | val v h1 =>
      simp only [putOp]
      split
      · exact mk _ _ _ _ L
      · exact .refl _
    | pan v h1 => exact .refl _
    | dfr d =>
      simp only [putOp]
      split
      · exact .refl _
      · split
        · exact mk _ _ _ _ L
        · exact .refl _
    | rcv =>
      simp only [putOp]
      split
      · exact .refl _
      · split
        · split
          · exact mk _ _ _ _ L
          · exact .refl _
        · split
          · exact mk _ _ _ _ L
          · exact .refl _
theorem opsA_fin (cx : Cx) (ops : List Oper) : ∀ (l : List Oper) (fr : Fr) (h : H), Fin e fun r => opsA e r cx ops l fr h
  | [], _, _ => .const _
  | _ :: l, _, _ => oneOp_fin (fun fr h => opsA_fin cx ops l fr h) (fun r s fr h L => opsA_Le L cx ops l fr h)
theorem drawA_fin (cx : Cx) (ops : List Oper) (ri : RI) : ∀ (l : List Nat) (m : List Fl) (fr : Fr) (h : H), Fin e fun r => drawA e r cx ops ri l m fr h
  | [], _, _, _ => .const _
  | i :: l, m, fr, h => by
    unfold drawA
    cases lget ops i with
    | none => exact .const _
    | some o =>
      dsimp only
      cases lmem i ri.eff with
      | true =>
        cases m.all (stillA e cx.nt ops h) with
        | true => exact oneOp_fin (fun fr h => drawA_fin cx ops ri l _ fr h) (fun r s fr h L => drawA_Le L cx ops ri l _ fr h)
        | false => exact .const _
      | false =>
        dsimp only [cond]
        cases pureA e cx.nt ops o fr h with
        | none => exact .const _
        | some q =>
          obtain ⟨v, h'⟩ := q
          dsimp only
          cases fr.put cx.nt o.dst v with
          | none => exact .const _
          | some fr' => exact drawA_fin cx ops ri l _ _ _
theorem codeA_fin (cx : Cx) : ∀ (c : Code) (fr : Fr) (h : H), Fin e fun r => codeA e r cx c fr h
  | .skip, _, _ => .const _
  | .region id ops draw, fr, h => by
    unfold codeA
    cases draw with
    | true =>
      dsimp only [cond]
      cases e.ri.get cx.f with
      | none => exact .const _
      | some t =>
        dsimp only
        cases t.get id with
        | none => exact .const _
        | some ri => exact drawA_fin _ _ _ _ _ _ _
    | false => exact opsA_fin _ _ _ _ _
  | .seq a b, fr, h => by
    unfold codeA
    refine Fin.bind (codeA_fin cx a fr h) (fun o => ?_) (fun r s L => codeA_Le L _ _ _ _) (fun r s o L => ?_)
    · cases o with
      | nrm fr h => exact codeA_fin cx b fr h
      | _ => exact .const _
    · cases o with
      | nrm fr h => exact codeA_Le L _ _ _ _
      | _ => exact .refl _
  | .cond c a b, fr, h => by
    unfold codeA
    cases fr.eval c with
    | none => exact .const _
    | some v => cases v with
      | bool q => cases q with
        | true => exact codeA_fin cx a fr h
        | false => exact codeA_fin cx b fr h
      | _ => exact .const _
  | .block id c, fr, h => by
    unfold codeA
    exact Fin.bind (codeA_fin cx c fr h) (fun o => .const _) (fun r s L => codeA_Le L _ _ _ _) (fun r s o L => .refl _)
  | .loop c, fr, h => by
    unfold codeA
    refine Fin.bind (codeA_fin cx c fr h) (fun o => ?_) (fun r s L => codeA_Le L _ _ _ _) (fun r s o L => ?_)
    · cases o with
      | nrm fr h => exact .code
      | _ => exact .const _
    · cases o with
      | nrm fr h => exact L.code _ _ _ _
      | _ => exact .refl _
  | .rangeFunc f params assign body, fr, h => by
    unfold codeA
    cases cx.round with
    | true => exact .const _
    | false =>
      dsimp only [cond]
      cases fr.eval f with
      | none => exact .const _
      | some v => cases v with
        | func f first caps =>
          dsimp only
          split
          · exact Fin.bind .call (fun _ => .const _) (fun r s L => L.call _ _ _ _) (fun r s o L => .refl _)
          · exact .const _
        | _ => exact .const _
  | .exit id, _, _ => .const _
  | .ret, _, _ => .const _
  | .scope c, fr, h => by unfold codeA; exact .const _
  | .label _, fr, h => by unfold codeA; exact .const _
  | .goto _, fr, h => by unfold codeA; exact .const _
  | .refuse _, fr, h => by unfold codeA; exact .const _
theorem leaveA_fin (fn : Func) (fr : Fr) : ∀ (ds : List ADef) (p : Option AV) (h : H), Fin e fun r => leaveA e r fn fr ds p h
  | [], none, _ => .const _
  | [], some _, _ => .const _
  | .mark :: ds, p, h => by unfold leaveA; exact leaveA_fin fn fr ds p h
  | .call f args :: ds, p, h => by
    unfold leaveA
    refine Fin.bind .call (fun o => ?_) (fun r s L => L.call _ _ _ _) (fun r s o L => ?_)
    · cases o with
      | ok v h rcd => exact leaveA_fin fn fr ds _ h
      | pan v h => exact .const _
    · cases o with
      | ok v h rcd => exact leaveA_Le L fn fr ds _ h
      | pan v h => exact .refl _
theorem enterA_fin (f : Nat) (args : List AV) (h : H) (p : Option AV) : Fin e fun r => enterA e r f args h p := by
  unfold enterA
  cases e.ft.get f with
  | none => exact .const _
  | some x => cases x with
    | ext x => exact .const _
    | body fn =>
      dsimp only
      cases fn.body with
      | none => exact .const _
      | some c =>
        dsimp only
        split
        · refine Fin.bind (codeA_fin _ _ _ _) (fun o => ?_) (fun r s L => codeA_Le L _ _ _ _) (fun r s o L => ?_)
          · cases o with
            | ext id fr h => exact .const _
            | _ => exact leaveA_fin _ _ _ _ _
          · cases o with
            | ext id fr h => exact .refl _
            | _ => exact leaveA_Le L _ _ _ _ _
        · exact .const _
end

/-- The rules: what the fast machine walks to over the limit, the limit does. -/
theorem callL {e : Env} {f : Nat} {args : List AV} {h : H} {p : Option AV} {Q : CR → Prop} (hq : (enterK e (recL e) f args h p).all Q) : ((recL e).call f args h p).all Q := by
  obtain ⟨n, hn⟩ := enterA_fin f args h p Q (enterK_ok hq)
  exact recL_call.2 ⟨n + 1, hn⟩
theorem loopL {e : Env} {cx : Cx} {c : Code} {fr : Fr} {h : H} {Q : Out → Prop} (hq : (codeK (kcode e cx c) ⟨e, recL e, cx⟩ fr h).all Q) : ((recL e).code cx c fr h).all Q := by
  obtain ⟨n, hn⟩ := codeA_fin cx c fr h Q (codeK_ok c hq)
  exact recL_code.2 ⟨n + 1, hn⟩
/-- What was run with fuel. -/
theorem callOfK {e : Env} {n f : Nat} {args : List AV} {h : H} {p : Option AV} {Q : CR → Prop} (hq : ((recK e n).call f args h p).all Q) : ((recL e).call f args h p).all Q := recL_call.2 ⟨n, (recK_le e n).call f args h p Q hq⟩
end Go.Ab
namespace Go.Ab
attribute [go_sem] s_none s_some s_slot s_con s_evsNil s_evsCons s_evsHd s_evsTl s_putNo s_putAt s_opsNil s_opsMk s_opsG s_gTT s_gFF s_gTF s_gFT s_gU s_cont s_val
  s_mv s_pick s_pick1 s_pickT s_pickF s_load1 s_load1a s_load1b s_load1c s_loadN s_loadNa s_loadNb s_loadNc s_agg s_nilc s_nilca s_xBinA s_xBinB s_shl s_shr
  s_not s_nota s_notb s_un s_una s_conv s_conva s_convb s_fldA s_fldAa s_fldAb s_fld1 s_fld1a s_fld1b s_fldN s_fldNa s_fldNb s_idxA s_idxAa s_idxAb
  s_idxAi s_idxAc s_idxAd s_idxP s_idxPa s_idxPb s_idxPi s_idxPc s_idxPd s_idxS s_idxSa s_idxSb s_idxSi s_idxSc s_idxSd s_u8 s_lenS s_lenSa s_lenSb s_len
  s_lena s_lenb s_ext s_exta s_extb s_mkI s_mkIa s_mkF s_mkFa s_mkFb s_call s_callb s_callV s_callF s_callVc s_orVal s_orCall s_slc s_slcS s_slcB
  s_bnd0 s_bnd1 s_xNat s_xNat0 s_xNat1 s_add s_sub s_mul s_eql s_neq s_lss s_leq s_gtr s_geq s_and s_or s_xor s_quo s_rem b_add
  b_sub b_mul b_eql b_neq b_lss b_leq b_gtr b_geq b_and b_or b_xor b_quo b_rem b_shl b_shr u_xor s_retOk s_asInt s_asBool s_asPtr
  s_asSlice s_asStr s_asAgg s_asTup s_asLenS s_asLen0 s_asSomeP s_asSomeF s_asNat s_asNat0 s_asNat1 s_xNat_2 s_asNat_2 s_xNat_3 s_asNat_3 s_xNat_4 s_asNat_4 s_xNat_5 s_asNat_5 s_xNat_6
  s_asNat_6 s_xNat_7 s_asNat_7 s_xNat_8 s_asNat_8 s_xNat_9 s_asNat_9 s_xNat_10 s_asNat_10 s_xNat_11 s_asNat_11 s_xNat_12 s_asNat_12 s_xNat_13 s_asNat_13 s_xNat_14 s_asNat_14 s_xNat_15 s_asNat_15 s_xNat_16
  s_asNat_16 s_guard w_nil w_end w_pure w_pureG w_gTT w_gFF w_gTF w_gFT w_gU w_cont w_eff w_effG w_effX w_effGX w_effTT w_effFF w_effTF w_effFT
  w_effU w_on w_pk w_push0 w_push1 w_tick0 w_tickZ w_tick1 w_tickL w_tick2 w_tick3 w_tick4 w_still0 w_still1 w_stillC w_stillY w_gX c_draw c_skip c_region
  c_seq c_seqN c_seqX c_seqR c_cond c_cond1 c_condT c_condF c_block c_blockN c_blockR c_blockX c_loop c_loopN c_loopX c_loopR d_seqN d_seqX d_seqR d_blockN
  d_blockR d_blockX d_loopN d_loopX d_loopR c_exit c_ret e_nrm e_ret a_ret i_nil i_cons c_fr Nat.zero_add Nat.mul_one Bool.not_true Bool.not_false AV.beq_refl KP.get_at Nat.one_ne_zero
  Nat.zero_ne_one ne_eq not_false_eq_true decide_true decide_false if_true if_false not_true_eq_false Bool.false_eq_true List.nil_append List.append_nil List.cons_append h_alloc h_box1 h_boxN h_store1 h_store1a h_storeN h_storeNa h_mkS
  h_mkSa h_mkSc h_copy h_copya
end Go.Ab
namespace Go.Ab
open Go

def layPT {α : Type} : List (Nat × α) → PT α
  | [] => .lf
  | p :: l => (layPT l).set p.1 p.2
theorem layPT_get {α : Type} : ∀ {l : List (Nat × α)} {i : Nat} {x : α}, (layPT l).get i = some x → (i, x) ∈ l
  | [], i, x, h => by cases h
  | p :: l, i, x, h => by
    change ((layPT l).set p.1 p.2).get i = some x at h
    rw [PT.get_set] at h
    split at h
    · rename_i hi
      injection h with h
      subst h hi
      exact List.mem_cons_self
    · exact List.mem_cons_of_mem _ (layPT_get h)

def tiRows (P : Program) (ts : List Nat) : List (Nat × TI) := ts.filterMap fun t => (mkTI P t).map fun x => (t, x)
def feRow (P : Program) (f : Nat) : Option (Nat × FE) := (P.funcs[f]?).map fun fn => (f, .body fn)
def fxRow (p : Nat × Ext) : Nat × FE := (p.1, .ext p.2)
def feRows (P : Program) (bs : List Nat) (xs : List (Nat × Ext)) : List (Nat × FE) := bs.filterMap (feRow P) ++ xs.map fxRow
def bodyOk (P : Program) (tt : PT TI) (ri : PT (PT RI)) (G f : Nat) : Bool :=
  match P.funcs[f]? with
  | some fn => !(decide (fn.name = "runtime.NumGoroutine")) && (match fn.body with | some c => codeOk tt ri G f c | none => false)
  | none => false
def typeOk (e : Env) (t : Nat) : Bool :=
  match e.tt.get t with
  | some ti => (match ti.kind with | .struct fs => fieldsKnown e fs | _ => true)
  | none => true
def ExtOk (P : Program) (p : Nat × Ext) : Prop := ∃ fn, P.funcs[p.1]? = some fn ∧ fn.name ≠ "runtime.NumGoroutine" ∧ fn.body = none ∧ Extern.findNext fn = none ∧ Extern.find fn = some (extFn p.2)

theorem tiRows_mem {P : Program} {ts : List Nat} {t : Nat} {ti : TI} (h : (t, ti) ∈ tiRows P ts) : t ∈ ts ∧ mkTI P t = some ti := by
  unfold tiRows at h
  rw [List.mem_filterMap] at h
  obtain ⟨a, ha, hb⟩ := h
  cases hm : mkTI P a with
  | none => rw [hm] at hb; cases hb
  | some x =>
    rw [hm] at hb
    injection hb with hb
    injection hb with h1 h2
    subst h1 h2
    exact ⟨ha, hm⟩
theorem feRows_body {P : Program} {bs : List Nat} {xs : List (Nat × Ext)} {f : Nat} {fn : Func} (h : (f, FE.body fn) ∈ feRows P bs xs) : f ∈ bs ∧ P.funcs[f]? = some fn := by
  unfold feRows at h
  rcases List.mem_append.1 h with h | h
  · rw [List.mem_filterMap] at h
    obtain ⟨a, ha, hb⟩ := h
    unfold feRow at hb
    cases hm : P.funcs[a]? with
    | none => rw [hm] at hb; cases hb
    | some x =>
      rw [hm] at hb
      injection hb with hb
      injection hb with h1 h2
      injection h2 with h2
      subst h1 h2
      exact ⟨ha, hm⟩
  · rw [List.mem_map] at h
    obtain ⟨a, _, hb⟩ := h
    injection hb with _ hb
    cases hb
theorem feRows_ext {P : Program} {bs : List Nat} {xs : List (Nat × Ext)} {f : Nat} {x : Ext} (h : (f, FE.ext x) ∈ feRows P bs xs) : (f, x) ∈ xs := by
  unfold feRows at h
  rcases List.mem_append.1 h with h | h
  · rw [List.mem_filterMap] at h
    obtain ⟨a, ha, hb⟩ := h
    unfold feRow at hb
    cases hm : P.funcs[a]? with
    | none => rw [hm] at hb; cases hb
    | some x =>
      rw [hm] at hb
      injection hb with hb
      injection hb with h1 h2
      cases h2
  · rw [List.mem_map] at h
    obtain ⟨a, ha, hb⟩ := h
    unfold fxRow at hb
    injection hb with h1 h2
    injection h2 with h2
    subst h1 h2
    exact ha

theorem envOK_of {P : Program} {e : Env} {G : Nat} {ts bs : List Nat} {xs : List (Nat × Ext)} (h1 : layPT (tiRows P ts) = e.tt) (h2 : layPT (feRows P bs xs) = e.ft) (h3 : ts.all (typeOk e) = true) (h4 : ∀ f ∈ bs, bodyOk P e.tt e.ri G f = true)
    (h5 : ∀ p ∈ xs, ExtOk P p) (h6 : ∀ f g, e.sums f = some g → ∃ fn, e.ft.get f = some (.body fn)) (h7 : P.follows .mixedOrders = true) : EnvOK P e G where
  tt := fun t ti h => by
    rw [← h1] at h
    exact (tiRows_mem (layPT_get h)).2
  fields := fun t ti fs h hk => by
    have hm : t ∈ ts := by
      rw [← h1] at h
      exact (tiRows_mem (layPT_get h)).1
    have := (List.all_eq_true.1 h3) t hm
    unfold typeOk at this
    rw [h] at this
    change (match ti.kind with | .struct fs => fieldsKnown e fs | _ => true) = true at this
    rw [hk] at this
    exact this
  body := fun f fn h => by
    rw [← h2] at h
    obtain ⟨hm, hf⟩ := feRows_body (layPT_get h)
    have := h4 f hm
    unfold bodyOk at this
    rw [hf] at this
    change (!(decide (fn.name = "runtime.NumGoroutine")) && _) = true at this
    rw [Bool.and_eq_true] at this
    obtain ⟨a, b⟩ := this
    refine ⟨hf, by simpa using a, ?_⟩
    cases hb : fn.body with
    | none => rw [hb] at b; cases b
    | some c => rw [hb] at b; exact ⟨c, rfl, b⟩
  ext := fun f x h => by
    rw [← h2] at h
    exact h5 _ (feRows_ext (layPT_get h))
  sumBody := h6
  mixed := h7
end Go.Ab
namespace Go.Ab
open Go

theorem calls_of {P : Program} {e : Env} {G B n f : Nat} (CS : CallSim P e G B (recN e n).call) {args : List AV} {h : H} {Q : AV → H → Prop} (hq : ((recK e n).call f args h none).all fun cr => ∃ v h', cr = .ok v h' false ∧ Q v h')
    {m : Emb} {w : World} {args' : Array Value} (hv : VRels m args args'.toList) (R : Rel G B (CodeC e G) m h w.heap) (hf : ∃ fn, e.ft.get f = some (.body fn)) :
    Calls P f args' w fun en w' => ∃ v h' v' m', Q v h' ∧ en = .returned v' ∧ VRel m' v v' ∧ Rel G B (CodeC e G) m' h' w'.heap ∧ Turn B m h w m' h' w' := by
  intro cs
  obtain ⟨cr, ⟨v, h', rfl, hQ⟩, hx⟩ := CS f args h none _ ((recK_le e n).call f args h none _ hq) .normal cs m w args' hv R (.inl rfl) hf
  obtain ⟨m', w', fr', v', s1, s2, s3, s4, s5, ⟨fn, s6, s7⟩, s8, s9, s10⟩ := hx
  refine ⟨.returned v', w', fr', ⟨v, h', v', m', hQ, rfl, s8, s9, s10⟩, s1, s5, s2, s3, s4, fn, ?_, s7⟩
  rw [s5]; exact s6
end Go.Ab
namespace Go.Ab
open Go

section
variable {H : Type} {enc : TypeId × Value → H} {P : Program} {w : World} {base : Nat} {spare : Nat → Bool} {held : Bool}

def dlist {H : Type} : DataW H → List (DataW H)
  | .agg ds => ds
  | _ => []
def flatI {H : Type} : DataW H → List Value
  | .lit (.int k z) => [.int k z]
  | _ => []
def flatA {H : Type} (f : DataW H → List Value) (d : DataW H) : List Value := (dlist d).flatMap f

def FlatAt (H : Type) (enc : TypeId × Value → H) (P : Program) (w : World) (base : Nat) (spare : Nat → Bool) (held : Bool) (t : TypeId) (f : DataW H → List Value) : Prop :=
  ∀ fuel cs d p, DataW.trod enc P w base spare held fuel t cs = some (d, p) → cs = f d

theorem flat_int {t : TypeId} {k : IntKind} (ht : P.underlying t = some (.int k)) : FlatAt H enc P w base spare held t flatI := by
  intro fuel cs d p h
  obtain ⟨n, rfl, hx, _⟩ := DataW.trod_int ht h
  injection hx with h1 h2
  subst h1
  rfl
theorem flat_array {t e : TypeId} {n : Nat} {f : DataW H → List Value} (ht : P.underlying t = some (.array n e)) (hc : P.cellsOf t = n * P.cellsOf e) (he : FlatAt H enc P w base spare held e f) : FlatAt H enc P w base spare held t (flatA f) := by
  intro fuel cs d p h
  obtain ⟨xs, m, rfl, hx, hl, hn, hi⟩ := DataW.trod_array ht h
  injection hx with h1 h2
  subst h1
  show cs = (xs.map (·.1)).flatMap f
  have key : ∀ k, k ≤ n → cs.take (k * P.cellsOf e) = ((xs.map (·.1)).take k).flatMap f := by
    intro k
    induction k with
    | zero => intro _; simp
    | succ k ih =>
      intro hk
      have hk' : k < n := by omega
      have hxk : xs[k]? = some xs[k] := List.getElem?_eq_getElem (by omega)
      have := hi k hk'
      rw [hxk] at this
      have hp := he _ _ _ _ (show DataW.trod enc P w base spare held m e _ = some (xs[k].1, xs[k].2) from this)
      rw [Nat.succ_mul, List.take_add, ih (by omega), hp, List.take_add_one]
      rw [List.getElem?_map, hxk]
      simp
  have := key n (Nat.le_refl _)
  rw [← hc, ← hl, List.take_length, List.take_of_length_le (by simp; omega)] at this
  exact this
theorem flat_pair {t : TypeId} {f0 f1 : Field} {g : DataW H → List Value} (ht : P.underlying t = some (.struct #[f0, f1])) (h0 : f0.offset = 0) (h1 : f1.offset = 1) (hc0 : P.cellsOf f0.type = 1) (hc1 : P.cellsOf f1.type = 1) (hc : P.cellsOf t = 2)
    (hf0 : FlatAt H enc P w base spare held f0.type g) (hf1 : FlatAt H enc P w base spare held f1.type g) : FlatAt H enc P w base spare held t (flatA g) := by
  intro fuel cs d p h
  obtain ⟨y0, y1, n, hx, hl, a0, a1⟩ := ChangeShapes.trod_struct2 ht h
  injection hx with hx1 hx2
  subst hx1
  show cs = [y0.1, y1.1].flatMap g
  rw [hc] at hl
  rw [h0, hc0] at a0
  rw [h1, hc1] at a1
  match cs, hl with
  | [c0, c1], _ =>
    have e0 := hf0 _ _ _ _ (show DataW.trod enc P w base spare held n f0.type [c0] = some (y0.1, y0.2) from a0)
    have e1 := hf1 _ _ _ _ (show DataW.trod enc P w base spare held n f1.type [c1] = some (y1.1, y1.2) from a1)
    simp only [List.flatMap_cons, List.flatMap_nil, List.append_nil]
    rw [← e0, ← e1]
    rfl
end

/-- Integers as values. -/
def intV : AV → Value
  | .int k n => .int k n
  | _ => .nilFunc
def isIntA : AV → Bool
  | .int _ _ => true
  | _ => false
theorem intsV_rel {m : Emb} : ∀ {l : List AV}, l.all isIntA = true → VRels m l (l.map intV)
  | [], _ => .nil
  | a :: l, h => by
    simp only [List.all_cons, Bool.and_eq_true] at h
    refine .cons _ _ _ _ ?_ (intsV_rel h.2)
    cases a with
    | int k n => exact .int k n
    | _ => exact absurd h.1 (by simp [isIntA])
end Go.Ab
