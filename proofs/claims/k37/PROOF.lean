import PyProof.Rows.All
import Wide.All
import OpenK.AllK
import Wide.FinOn
import HandS.ForMost
import HandS.Conv
import HandS.Style
import HandS.IsInst
import HandS.Small
import HandS.SetKeys
import HandS.TupLen
import HandS.Zip
import HandS.Finally
import HandS.Flow
import HandS.Walk
import HandS.Codes
import HandS.Deep
import PyProof.CollectStr
import PyProof.ListRange
import KE.KDictList
import HandS.DictComp
import PyProof.EnumMake
import PyProof.Draws
import KE.GoesMore
import HandS.TupSets
import HandS.Defaults
import HandS.More
import KE.KRevSl
import KE.SortData
import KE.KStateDown
import Lean
import HandS.Base
import HandS.Call
import HandS.Ends
import HandS.Words
import HandS.WordsExc
import HandS.Head0
import HandS.Head1
import HandS.Head2
import HandS.HeadEnd
import HandS.HeadHook1
import HandS.HeadHook2
import PySem.Challenge.RW_wayleft_k37_turned_over
set_option Elab.async false
set_option linter.all false
set_option maxRecDepth 100000
set_option maxHeartbeats 4000000
/-! Our own layer: defs by name, operators that serve several kinds, frames. -/
namespace Y
open PySem PySem.Spec PyProof.Rows L2

/-! ### a def of the text, by its name -/
structure Fn (P : Program) (w : World) (K : PySem.W.Frag) (mg : Str → Option Value) (base : Heap) (k : Nat) (x : Str) (ps : List Str) (sp : Sp) : Prop where
  ex : ∃ f fd, mg x = some (.ref f) ∧ PySem.W.keepIn K (.ref f) = true ∧ Binds K fd ps [] ∧ FnOk P w K mg base CX0 k f fd ps sp

section
variable {X : Cx} {x : Str} {k : Nat} {ps : List Str} {sp : Sp} {p pos : Pos} {e : Expr} {es : List Expr} {t : TA}
theorem pe_fn (F : Fn X.prog X.w X.K X.mg X.base k x ps sp) (hr : Room k X.A) (hg : Gl X x) (ha : PA X (e :: es) t)
    (hdb : (x == ("__debug__" : Str)) = false := by decide) (he : starEach (e :: es) X.env = (false, eval e X.env) :: starEach es X.env := by rfl) (hpl : (backTo pos (starEach es X.env)).any (·.1) = false := by rfl) :
    PE X (.Call (.Name x p) (e :: es) [] pos) (tCall sp [] E0 t) := by
  obtain ⟨f, fd, hm, hk, hb, G⟩ := F.ex
  exact pe_call G hr hg hm hk hb .nil pass0 ha hdb he hpl
theorem pe_fn0 (F : Fn X.prog X.w X.K X.mg X.base k x ps sp) (hr : Room k X.A) (hg : Gl X x)
    (hdb : (x == ("__debug__" : Str)) = false := by decide) : PE X (.Call (.Name x p) [] [] pos) (tCall sp [] E0 tNil) := by
  obtain ⟨f, fd, hm, hk, hb, G⟩ := F.ex
  exact pe_call0 G hr hg hm hk hb .nil pass0 hdb
end

/-! ### operators that serve several kinds -/
section
variable {X : Cx}
def rStr2 : R2 := fun x y H Q => ∃ i j, x = .str i ∧ y = .str j ∧ i.length + j.length ≤ sizeLine ∧ Q (.str (i ++ j)) H
def rAddA (K : PySem.W.Frag) : R2 := fun x y H Q => rI0 (fun i j => .int (i + j)) x y H Q ∨ rStr2 x y H Q ∨ rCat x y H Q ∨ rCatT K x y H Q
theorem op_addA : OpR X (binaryOp .Add) (rAddA X.K) := OpR.or op_add (OpR.or op_add_str (OpR.or op_cat op_catT))
def rEqA (K : PySem.W.Frag) : R2 := fun x y H Q => rEq x y H Q ∨ rEqD K x y H Q
def rNeA (K : PySem.W.Frag) : R2 := fun x y H Q => rNe x y H Q ∨ rNeD K x y H Q
theorem op_eqA {k : Nat} (hr : Room k X.A) : OpR X (compareOp .Eq) (rEqA X.K) := OpR.or op_eq (op_eqD hr.units)
theorem op_neA {k : Nat} (hr : Room k X.A) : OpR X (compareOp .NotEq) (rNeA X.K) := OpR.or op_ne (op_neD hr.units)
def rInDict : R2 := fun x y H Q => ∃ a o, y = .ref a ∧ DGet H a x o ∧ Q (.bl o.isSome) H
def rNotInDict : R2 := fun x y H Q => ∃ a o, y = .ref a ∧ DGet H a x o ∧ Q (.bl (!o.isSome)) H
theorem op_inDict (hu : X.A.units + 1 < cLine) : OpR X (compareOp .In) rInDict := by
  intro pins s σ H x y v u Q I rx ry h
  obtain ⟨a, o, ey, g, q⟩ := h
  subst ey
  obtain rfl : u = Value.ref a := ry
  exact d_in hu I g rx fun s' I' => ⟨.bl o.isSome, H, I', rfl, q⟩
theorem op_notInDict (hu : X.A.units + 1 < cLine) : OpR X (compareOp .NotIn) rNotInDict := by
  intro pins s σ H x y v u Q I rx ry h
  obtain ⟨a, o, ey, g, q⟩ := h
  subst ey
  obtain rfl : u = Value.ref a := ry
  exact d_notIn hu I g rx fun s' I' => ⟨.bl (!o.isSome), H, I', rfl, q⟩
def rSign (neg : Bool) : R2 := fun x y H Q => ∃ (c : Nat) (z : Str), x = .str ⟨#[c]⟩ ∧ y = .str z ∧ Q (.bl (if neg then !decide (c ∈ z.cps.toList) else decide (c ∈ z.cps.toList))) H
def rInA (K : PySem.W.Frag) (P : Program) (w : World) : R2 := fun x y H Q => rIn K false x y H Q ∨ rInDict x y H Q ∨ rSign false x y H Q ∨ L2.rInD K x y H Q ∨ rSInK P w false x y H Q
def rNotInA (K : PySem.W.Frag) (P : Program) (w : World) : R2 := fun x y H Q => rIn K true x y H Q ∨ rNotInDict x y H Q ∨ rSign true x y H Q ∨ L2.rNotInD K x y H Q ∨ rSInK P w true x y H Q
theorem hu65 {A : Around} {k : Nat} (hr : Room k A) : A.units + 65 < cLine := by
  have := hr.un
  omega
theorem op_inA {k : Nat} (hr : Room k X.A) : OpR X (compareOp .In) (rInA X.K X.prog X.w) := OpR.or op_in_seq (OpR.or (op_inDict (hu_of hr)) (OpR.or op_in_sign (OpR.or (L2.op_inD (hu65 hr)) or_sinK)))
theorem op_notInA {k : Nat} (hr : Room k X.A) : OpR X (compareOp .NotIn) (rNotInA X.K X.prog X.w) := OpR.or op_notIn_seq (OpR.or (op_notInDict (hu_of hr)) (OpR.or op_notIn_sign (OpR.or (L2.op_notInD (hu65 hr)) or_snotinK)))
/-- d[k] as a subscript by values -/
def rIxD : R2 := fun x y H Q => ∃ a v, x = .ref a ∧ DGet H a y (some v) ∧ Q v H
theorem ix_dict (hu : X.A.units + 1 < cLine) : IxR X rIxD := by
  intro value slice pins s σ H x y v u Q I rx ry h hs
  obtain ⟨a, z, ex, g, q⟩ := h
  subst ex
  obtain rfl : v = Value.ref a := rx
  have hT : s.TypeIs (.ref a) "dict" := dict_typeIs I g
  unfold subscriptTail
  refine wpAny_bind ?_
  rw [getitemInPython_of_ne hT.not_modules]
  refine wpAny_bind (wpAny_specialOf hT PySem.F.slot_dict_getitem.lookup ?_)
  have last : wpAny (model X.prog X.w) X.A (subscripted slice false (.ref a) u) (fun r s₃ => wpAny (model X.prog X.w) X.A (letTemporaryGo value (.ref a) r >>= fun _ => pure r) (EP X pins σ Q) X.xe s₃) X.xe s := by
    rw [hs]
    exact wpAny_operating (wpAny_mono (d_getItem (Q := EP X pins σ Q) hu I g ry fun w' s3 I3 rw' => ⟨z, H, I3, rw', q⟩) (fun r s₃ h₃ => wpAny_bind (wpAny_letTemporaryGo (wpAny_pure h₃))) fun _ _ x => x)
  first
    | exact wpAny_pure (wpAny_bind last)
    | exact wpAny_bind (wpAny_pure (wpAny_bind last))
    | exact wpAny_bind last
def rIxA (K : PySem.W.Frag) : R2 := fun x y H Q => rIxL K x y H Q ∨ rIxT K x y H Q ∨ rIxS x y H Q ∨ rIxD x y H Q
theorem ix_any (hu : X.A.units + 1 < cLine) : IxR X (rIxA X.K) := IxR.or ix_list (IxR.or ix_tup (IxR.or ix_str (ix_dict hu)))
/-- o[i] = v -/
def rSetA : TSet := fun o i v H Q => rSetL o i v H Q ∨ rSetD o i v H Q
theorem set_any (hu : X.A.units + 1 < cLine) : PSet X rSetA := by
  intro pins s σ H o i v ov iv u Q I ro ri rv h
  rcases h with h | h
  · exact set_list pins s σ H o i v ov iv u Q I ro ri rv h
  · exact set_dict hu pins s σ H o i v ov iv u Q I ro ri rv h
/-- slices -/
def rSlA (K : PySem.W.Frag) : V → Option Int → Option Int → Hp → VK → Prop := fun x lo hi H Q => rSlL K x lo hi H Q ∨ rSlS x lo hi H Q ∨ rSlT K x lo hi H Q
theorem sl_any : SlR X (rSlA X.K) := SlR.or sl_list (SlR.or sl_str sl_tup)
/-- len -/
def rLenA (K : PySem.W.Frag) : List V → Hp → VK → Prop := fun xs H Q => (∃ x n, xs = [x] ∧ LenV K x H n ∧ Q (.int n) H) ∨ (∃ a kvs, xs = [V.ref a] ∧ H a = some (.dK kvs) ∧ Q (.int kvs.length) H) ∨ rLenT xs H Q
theorem call_lenA : CallR X (.builtin "len") (rLenA X.K) := CallR.or call_len (CallR.or call_lenD call_len_dT)
/-- isinstance -/
def rIsiA (K : PySem.W.Frag) : List V → Hp → VK → Prop := fun xs H Q => rIsi K xs H Q ∨ rIsiT K xs H Q
theorem call_isiA : CallR X (.builtin "isinstance") (rIsiA X.K) := CallR.or call_isi call_isiT
/-- what a for walks: a list or a tuple -/
def iAny (K : PySem.W.Frag) (tl : TE) : TI := fun σ H R => iList K tl σ H R ∨ iTup K tl σ H R
theorem pi_any {tg l : Expr} {tl : TE} (hl : PE X l tl) : PI X tg l (iAny X.K tl) := ⟨fun pins s σ H R I h => by
  rcases h with h | h
  · exact (pi_list hl).run pins s σ H R I h
  · exact (pi_tup hl).run pins s σ H R I h⟩
/-- op= as an operator of values -/
theorem pip {op : Operator} {r : R2} (ho : OpR X (inplaceOp op) r) : PIp X op r := fun pins s σ H x y v u Q I rx ry h => ho pins s σ H x y v u Q I rx ry h
def rIAddA : R2 := fun x y H Q => rI0 (fun i j => .int (i + j)) x y H Q ∨ rStr2 x y H Q ∨ rExt2 x y H Q
theorem iop_addA : OpR X (inplaceOp .Add) rIAddA := OpR.or iop_add (OpR.or iop_add_str iop_ext)
end

/-! ### the same with the written part named (within a comprehension's block the context may not be named) -/
section
variable {X : Cx} {K : PySem.W.Frag} {P : Program} {w : World}
theorem kadd (e : X.K = K := by rfl) : OpR X (binaryOp .Add) (rAddA K) := e ▸ op_addA
theorem keq {k : Nat} (hr : Room k X.A) (e : X.K = K := by rfl) : OpR X (compareOp .Eq) (rEqA K) := e ▸ op_eqA hr
theorem kne {k : Nat} (hr : Room k X.A) (e : X.K = K := by rfl) : OpR X (compareOp .NotEq) (rNeA K) := e ▸ op_neA hr
theorem kin {k : Nat} (hr : Room k X.A) (e : X.K = K := by rfl) (e2 : X.prog = P := by rfl) (e3 : X.w = w := by rfl) : OpR X (compareOp .In) (rInA K P w) := by subst e e2 e3; exact op_inA hr
theorem knotin {k : Nat} (hr : Room k X.A) (e : X.K = K := by rfl) (e2 : X.prog = P := by rfl) (e3 : X.w = w := by rfl) : OpR X (compareOp .NotIn) (rNotInA K P w) := by subst e e2 e3; exact op_notInA hr
theorem kix (hu : X.A.units + 1 < cLine) (e : X.K = K := by rfl) : IxR X (rIxA K) := e ▸ ix_any hu
theorem ksl (e : X.K = K := by rfl) : SlR X (rSlA K) := e ▸ sl_any
theorem klen (e : X.K = K := by rfl) : CallR X (.builtin "len") (rLenA K) := e ▸ call_lenA
theorem kisi (e : X.K = K := by rfl) : CallR X (.builtin "isinstance") (rIsiA K) := e ▸ call_isiA
theorem kall (hc : X.calm = true := by rfl) (e : X.K = K := by rfl) : CallR X (.builtin "all") (rAll K) := e ▸ cr_all hc
theorem kany (hc : X.calm = true := by rfl) (e : X.K = K := by rfl) : CallR X (.builtin "any") (rAny K) := e ▸ cr_any hc
theorem ksum (hc : X.calm = true := by rfl) (e : X.K = K := by rfl) : CallR X (.builtin "sum") (rSum K) := e ▸ cr_sum hc
theorem kmax1 (hc : X.calm = true := by rfl) (e : X.K = K := by rfl) : CallR X (.builtin "max") (rMax K) := e ▸ cr_max hc
def rTupleA (K : PySem.W.Frag) : List V → Hp → VK → Prop := fun xs H Q => ∃ p ys, xs = [.ref p] ∧ ((SqL K H p ys ∧ ∀ l, H l = none → Q (.ref l) (upd H l (.tup ys))) ∨ (SqT K H p ys ∧ Q (.ref p) H))
theorem ktuple (e : X.K = K := by rfl) : CallR X (.type "tuple") (rTupleA K) := e ▸ call_tuple_of
theorem kpi_list {tg l : Expr} {tl : TE} (hl : PE X l tl) (e : X.K = K := by rfl) : PI X tg l (iList K tl) := e ▸ pi_list hl
theorem kpi_tup {tg l : Expr} {tl : TE} (hl : PE X l tl) (e : X.K = K := by rfl) : PI X tg l (iTup K tl) := e ▸ pi_tup hl
theorem kpi_any {tg l : Expr} {tl : TE} (hl : PE X l tl) (e : X.K = K := by rfl) : PI X tg l (iAny K tl) := e ▸ pi_any hl
def tTruthK (K : PySem.W.Frag) (ta : TE) : TT := fun σ H Q => ta σ H fun x H' => ∃ k, TruV K x H' k ∧ Q k H'
theorem kpt_truth {a : Expr} {ta : TE} (ha : PE X a ta) (he : ∀ whole, isTrue a X.env whole = (do let v ← whole; standAt a.pos; holding [v] (truthy v))) (e : X.K = K := by rfl) : PT X a (tTruthK K ta) := e ▸ pt_truth ha he
theorem kpg_tup {es : List Expr} {k : Nat} {pos : Pos} {t : TGs} {n : Nat} (h : PG X (.Tuple es k pos) (gTup X.K n t)) (e : X.K = K := by rfl) : PG X (.Tuple es k pos) (gTup K n t) := e ▸ h
theorem kbm {e : Expr} {T : String} {r : V → List V → Hp → VK → Prop} {to : TE} {t : TA} (h : PE X e (tBM X.K T r to t)) (eK : X.K = K := by rfl) : PE X e (tBM K T r to t) := eK ▸ h
theorem kbm0 {e : Expr} {T : String} {r : V → List V → Hp → VK → Prop} {to : TE} (h : PE X e (tBM0 X.K T r to)) (eK : X.K = K := by rfl) : PE X e (tBM0 K T r to) := eK ▸ h
theorem kfld {e : Expr} {ta : TE} {f : Str} (h : PE X e (tFld X.K ta f)) (eK : X.K = K := by rfl) : PE X e (tFld K ta f) := eK ▸ h
end

/-! ### the built-ins that are still themselves -/
structure Blt (mg : Str → Option Value) : Prop where
  len : mg "len" = none
  range : mg "range" = none
  list : mg "list" = none
  tuple : mg "tuple" = none
  dict : mg "dict" = none
  int : mg "int" = none
  str : mg "str" = none
  bool : mg "bool" = none
  isinstance : mg "isinstance" = none
  all : mg "all" = none
  zip : mg "zip" = none
  enumerate : mg "enumerate" = none
  min : mg "min" = none
  max : mg "max" = none
  set : mg "set" = none
  sorted : mg "sorted" = none
  sum : mg "sum" = none
end Y

namespace Y
open PySem PySem.Spec PyProof.Rows L2

/-! ### frames -/
/-- the shape of the law's bag -/
def isBag : HO → Bool
  | .lst [.ref _, .int _, .int _, .int _, .int _] => true
  | _ => false
/-- all that is no bag stays, and what is there stays there -/
structure Kp (H H' : Hp) : Prop where
  keep : ∀ a o, H a = some o → isBag o = false → H' a = some o
  free : ∀ a, H' a = none → H a = none
theorem Kp.refl (H : Hp) : Kp H H := ⟨fun _ _ h _ => h, fun _ h => h⟩
theorem Kp.trans {H H1 H2 : Hp} (a : Kp H H1) (b : Kp H1 H2) : Kp H H2 := ⟨fun x o h n => b.keep x o (a.keep x o h n) n, fun x h => a.free x (b.free x h)⟩
theorem Kp.of {H H1 : Hp} (b : Same H H1) : Kp H H1 := ⟨fun x o h _ => b x o h, fun _ h => b.free h⟩
theorem Kp.same {H H1 H2 : Hp} (a : Kp H H1) (b : Same H1 H2) : Kp H H2 := a.trans (.of b)
theorem upd_none {H : Hp} {p a : Addr} {o : HO} (h : upd H p o a = none) : a ≠ p ∧ H a = none := by
  have ne : a ≠ p := fun e => by
    rw [e, upd_same] at h
    cases h
  rw [upd_ne ne] at h
  exact ⟨ne, h⟩
theorem Kp.mut {H0 H : Hp} {p : Addr} {o : HO} (k : Kp H0 H) (n : H0 p = none) : Kp H0 (upd H p o) := ⟨fun a u h b => by
  rw [upd_ne (ne_of_none h n)]
  exact k.keep a u h b, fun a h => k.free a (upd_none h).2⟩
theorem isBag_ints (ns : List Int) : isBag (.lst (ns.map V.int)) = false := by
  cases ns <;> rfl
theorem isBag_strs (ns : List Str) : isBag (.lst (ns.map V.str)) = false := by
  cases ns <;> rfl
theorem isBag_refs : ∀ (as : List Addr), isBag (.lst (as.map V.ref)) = false
  | [] => rfl
  | [_] => rfl
  | _ :: _ :: _ => rfl
theorem same_upd {H : Hp} {p : Addr} {o : HO} (h : H p = none) : Same H (upd H p o) := fun b x e => by
  rw [upd_ne (ne_of_none e h)]
  exact e
theorem same_mut {H0 H : Hp} {p : Addr} {o : HO} (k : Same H0 H) (n : H0 p = none) : Same H0 (upd H p o) := fun a u h => by
  rw [upd_ne (ne_of_none h n)]
  exact k a u h

theorem nat63 : sizeLine = 16777216 := by decide
def nb (xs : List V) : Prop := (∀ a, V.ref a ∉ xs) ∨ (∀ i, V.int i ∉ xs)
theorem nb.bag {xs : List V} (h : nb xs) : isBag (.lst xs) = false := by
  unfold isBag
  split
  · rename_i heq
    cases heq
    rcases h with h | h
    · exact absurd (List.mem_cons_self ..) (h _)
    · exact absurd (List.mem_cons_of_mem _ (List.mem_cons_self ..)) (h _)
  · rfl
theorem nb.sub {xs ys : List V} (h : nb xs) (s : ∀ y ∈ ys, y ∈ xs) : nb ys := h.imp (fun h a ha => h a (s _ ha)) (fun h a ha => h a (s _ ha))
theorem nb_ints (ns : List Int) : nb (ns.map V.int) := Or.inl fun a h => by
  obtain ⟨_, _, e⟩ := List.mem_map.mp h
  cases e
theorem nb_strs (ns : List Str) : nb (ns.map V.str) := Or.inl fun a h => by
  obtain ⟨_, _, e⟩ := List.mem_map.mp h
  cases e
theorem nb_refs (ns : List Addr) : nb (ns.map V.ref) := Or.inr fun a h => by
  obtain ⟨_, _, e⟩ := List.mem_map.mp h
  cases e
theorem nb_nil : nb [] := Or.inl fun a h => by cases h
theorem seqIx_nat {j n : Nat} (h : j < n) : seqIndex? (j : Int) n = some j := by
  rw [seqIndex_of (by omega) (by omega)]
  simp
structure BagId where
  b : Addr
  l : Addr
  ns : List Int
/-- the bag stands: the script's copy, a place, a rest, a mixed number, a count -/
def Bag (G : BagId) (H : Hp) : Prop := ∃ i r m c : Int, H G.b = some (.lst [.ref G.l, .int i, .int r, .int m, .int c]) ∧ H G.l = some (.lst (G.ns.map V.int)) ∧ 0 ≤ i ∧ 0 ≤ r ∧ 0 ≤ m ∧ m < 2147483647 ∧ G.ns.length ≤ 63
theorem Bag.mut {G : BagId} {H0 H : Hp} {p : Addr} {o : HO} (h0 : Bag G H0) (h : Bag G H) (n : H0 p = none) : Bag G (upd H p o) := by
  obtain ⟨_, _, _, _, e1, e2, _⟩ := h0
  obtain ⟨i, r, m, c, f1, f2, f3⟩ := h
  exact ⟨i, r, m, c, by rw [upd_ne (ne_of_none e1 n)]; exact f1, by rw [upd_ne (ne_of_none e2 n)]; exact f2, f3⟩
theorem Bag.same {G : BagId} {H H' : Hp} (h : Bag G H) (s : Same H H') : Bag G H' := by
  obtain ⟨i, r, m, c, f1, f2, f3⟩ := h
  exact ⟨i, r, m, c, s _ _ f1, s _ _ f2, f3⟩
/-- from H0 to H: the bag stands, all else is kept -/
structure Wb (G : BagId) (H0 H : Hp) : Prop where
  kp : Kp H0 H
  bag : Bag G H
  bag0 : Bag G H0
section
variable {G : BagId} {H0 H H' : Hp} {p : Addr} {o : HO}
theorem Wb.refl (h : Bag G H) : Wb G H H := ⟨Kp.refl H, h, h⟩
theorem Wb.mut (w : Wb G H0 H) (n : H0 p = none) : Wb G H0 (upd H p o) := ⟨w.kp.mut n, w.bag0.mut w.bag n, w.bag0⟩
theorem Wb.free (w : Wb G H0 H) (n : H p = none) : H0 p = none := w.kp.free p n
theorem Wb.new (w : Wb G H0 H) (n : H p = none) : Wb G H0 (upd H p o) := w.mut (w.free n)
theorem Wb.put {i r m c : Int} (w : Wb G H0 H) (h : 0 ≤ i ∧ 0 ≤ r ∧ 0 ≤ m ∧ m < 2147483647) : Wb G H0 (upd H G.b (.lst [.ref G.l, .int i, .int r, .int m, .int c])) := by
  obtain ⟨i1, r1, m1, c1, e1, e2, e3⟩ := w.bag
  obtain ⟨_, _, _, _, f1, _, _⟩ := w.bag0
  have nlb : G.l ≠ G.b := fun e => by
    rw [e, e1] at e2
    have := HO.lst.inj (Option.some.inj e2)
    cases hns : G.ns with
    | nil => rw [hns] at this; cases this
    | cons a t => rw [hns] at this; cases this
  refine ⟨⟨fun a o ha hn => ?_, fun a ha => w.kp.free a (upd_none ha).2⟩, ⟨i, r, m, c, upd_same, by rw [upd_ne nlb]; exact e2, h.1, h.2.1, h.2.2.1, h.2.2.2, e3.2.2.2.2⟩, w.bag0⟩
  have ne : a ≠ G.b := fun e => by
    have ha' := w.kp.keep a o ha hn
    rw [e, e1] at ha'
    cases ha'
    cases hn
  rw [upd_ne ne]
  exact w.kp.keep a o ha hn
theorem Wb.trans (w : Wb G H0 H) (v : Wb G H H') : Wb G H0 H' := ⟨w.kp.trans v.kp, v.bag, w.bag0⟩
theorem Wb.same (w : Wb G H0 H) (v : Same H H') : Wb G H0 H' := ⟨w.kp.same v, w.bag.same v, w.bag0⟩
end
end Y

namespace Y
open PySem PySem.Spec PyProof.Rows L2
theorem ite_if {c : Bool} {A B : Prop} (h1 : c = true → A) (h2 : c = false → B) : if c = true then A else B := by
  cases c with
  | true => exact iteT (h1 rfl)
  | false => exact iteF (h2 rfl)
theorem ite_d {p : Prop} [Decidable p] {A B : Prop} (h1 : p → A) (h2 : ¬ p → B) : if decide p = true then A else B := by
  by_cases h : p
  · rw [decide_eq_true h]
    exact iteT (h1 h)
  · rw [decide_eq_false h]
    exact iteF (h2 h)
theorem ite_nd {p : Prop} [Decidable p] {A B : Prop} (h1 : ¬ p → A) (h2 : p → B) : if (!decide p) = true then A else B := by
  by_cases h : p
  · rw [decide_eq_true h]
    exact iteF (h2 h)
  · rw [decide_eq_false h]
    exact iteT (h1 h)
theorem ite_z {i : Int} {A B : Prop} (h1 : i ≠ 0 → A) (h2 : i = 0 → B) : if (i != 0) = true then A else B := by
  by_cases h : i = 0
  · subst h
    exact iteF (h2 rfl)
  · rw [bne_iff_ne.mpr h]
    exact iteT (h1 h)
theorem ite_di {i j : Int} {A B : Prop} (h1 : i = j → A) (h2 : i ≠ j → B) : if decide (V.int i = V.int j) = true then A else B :=
  ite_d (fun e => h1 (V.int.inj e)) (fun e => h2 fun z => e (by rw [z]))
theorem ite_ndi {i j : Int} {A B : Prop} (h1 : i ≠ j → A) (h2 : i = j → B) : if (!decide (V.int i = V.int j)) = true then A else B :=
  ite_nd (fun e => h1 fun z => e (by rw [z])) (fun e => h2 (V.int.inj e))
theorem ite_ds {i j : Str} {A B : Prop} (h1 : i = j → A) (h2 : i ≠ j → B) : if decide (V.str i = V.str j) = true then A else B :=
  ite_d (fun e => h1 (V.str.inj e)) (fun e => h2 fun z => e (by rw [z]))
theorem ite_nds {i j : Str} {A B : Prop} (h1 : i ≠ j → A) (h2 : i = j → B) : if (!decide (V.str i = V.str j)) = true then A else B :=
  ite_nd (fun e => h1 fun z => e (by rw [z])) (fun e => h2 (V.str.inj e))
theorem perm_erase {α : Type} : ∀ {zs : List α} {j : Nat} (h : j < zs.length), (zs[j] :: zs.eraseIdx j).Perm zs
  | _ :: _, 0, _ => List.Perm.refl _
  | a :: r, j + 1, h => by
    have ih := perm_erase (zs := r) (j := j) (Nat.lt_of_succ_lt_succ h)
    exact (List.Perm.swap a _ _).trans (ih.cons a)
end Y

/-! list(text) -/
namespace Y
open PySem PySem.Spec PyProof.Rows L2
section
variable {prog : Program} {w : World} {A : Around} {E : Value → Shared → Prop} {s : Shared}
theorem extend_text {R : Result → Shared → Prop} (hh : A.handled = none) (x : Str) (t : Tok) (hz : x.cps.size ≤ sizeLine) (S : Addr) (c₀ : Nat) (hS : s.heap.get? S = some { cls := .type "list", data := .seq #[] c₀ })
    (hR : ∀ h' tk acc c, (∀ b o, b ≠ S → s.heap.get? b = some o → h'.get? b = some o) → h'.get? S = some { cls := .type "list", dict := none, data := .seq acc c, slots := #[] } → ItemsOf (SignAt x) acc x.cps.size → R (.ok (.ret .none)) { s with heap := h', toks := tk }) :
    wpAny (model prog w) A.in1 (Builtin.List.listExtendWith (.ref S) (.str x t) .none)
      (fun fin s' => match fin with | .done f => R (.ok f) s' | .again c' => c'.quiet = true ∧ codeAny (model prog w) A c' R s') (fun e s' => R (.error e) s') s := by
  have hlt := Heap.lt_size hS
  unfold Builtin.List.listExtendWith
  refine wpAny_bind (wpAny_typeOf (T := "str") (v := .str x t) rfl ?_)
  have q1 : Builtin.List.listSameRef (.ref S) (.str x t) = false := rfl
  have q2 : (Value.type "str" == Value.type "list") = false := by decide
  have q3 : (Value.type "str" == Value.type "tuple") = false := by decide
  simp only [q1, q2, q3, Bool.or_false, Bool.false_eq_true, if_false]
  refine wpAny_bind (wpAny_pyIter_str fun oI St W hst => ?_)
  refine wpAny_bind (wpAny_holding ?_)
  unfold Builtin.List.listLengthHint
  refine wpAny_bind (wpAny_specialOf (T := "str") (v := .str x t) rfl PySem.F.str_len ?_)
  wp_delta
  refine wpAny_bind (wpAny_isInstance (T := "str") (v := .str x t) (b := true) rfl (by rw [isSubtype_type]; kernel_rfl) ?_)
  show wpAny _ A.in1 (typeOf (Value.str x t) >>= _) _ _ _
  refine wpAny_bind (wpAny_typeOf (T := "str") (v := .str x t) rfl ?_)
  refine wpAny_pure ?_
  rw [if_neg (by decide)]
  have hSf : S ∉ [s.heap.objs.size] := fun hm => by
    rw [List.mem_singleton.mp hm] at hlt
    exact Nat.lt_irrefl _ hlt
  refine wpAny_pure ⟨plainId_quiet PySem.F.plain_extend_loop _, codeAny_extend_loopS (W A.in1 hh).toS hz S hSf .none x.cps.size 0 _ #[] c₀ rfl (Nat.zero_le _) hst (Heap.get?_push_of_some _ hS) (ItemsOf.nil _) fun s' acc c hm hS' hi => ?_⟩
  rw [Moved.eq_with hm]
  refine hR s'.heap s'.toks acc c (fun b o hb e => hm.heap b o (fun hmem => ?_) (Heap.get?_push_of_some _ e)) hS' hi
  rcases List.mem_cons.mp hmem with e' | hmem
  · exact hb e'
  · have := Heap.lt_size e
    rw [List.mem_singleton.mp hmem] at this
    exact Nat.lt_irrefl _ this
theorem init_text {R : Result → Shared → Prop} (hh : A.handled = none) (x : Str) (t : Tok) (hz : x.cps.size ≤ sizeLine) (S : Addr) (hS : s.heap.get? S = some { cls := .type "list", data := .seq #[] })
    (hR : ∀ h' tk acc c, (∀ b o, b ≠ S → s.heap.get? b = some o → h'.get? b = some o) → h'.get? S = some { cls := .type "list", dict := none, data := .seq acc c, slots := #[] } → ItemsOf (SignAt x) acc x.cps.size → R (.ok (.ret .none)) { s with heap := h', toks := tk }) :
    wpAny (model prog w) A.in1 (Builtin.«list.__init__» ⟨[.ref S, .str x t], []⟩)
      (fun fin s' => match fin with | .done f => R (.ok f) s' | .again c' => c'.quiet = true ∧ codeAny (model prog w) A c' R s') (fun e s' => R (.error e) s') s := by
  show wpAny _ _ (do let was ← Builtin.List.listItems (.ref S); Builtin.List.listUpdate (.ref S) (fun _ => #[]); letGo was.toList.reverse; Builtin.List.listExtendWith (.ref S) (.str x t) .none) _ _ s
  refine wpAny_bind ?_
  unfold Builtin.List.listItems
  refine wpAny_bind (wpAny_seqItems hS rfl (wpAny_pure ?_))
  show wpAny _ _ (updateSeq S (fun _ => #[]) >>= fun _ => letGo (#[] : Array Value).toList.reverse >>= fun _ => Builtin.List.listExtendWith (.ref S) (.str x t) .none) _ _ s
  refine wpAny_bind (wpAny_updateSeq hS rfl ?_)
  have hS2 := Heap.get?_update_self (Obj.mapSeq (fun _ => (#[] : Array Value))) hS rfl
  refine wpAny_bind (wpAny_letGo ?_)
  exact extend_text hh x t hz S _ hS2 fun h' tk acc c hk => hR h' tk acc c fun b o hb e => hk b o hb ((Heap.get?_update_other _ _ (Ne.symm hb)).trans e)
theorem call_list_text {Q : Value → Shared → Prop} (hh : A.handled = none) (x : Str) (t : Tok) (hz : x.cps.size ≤ sizeLine)
    (hQ : ∀ h' tk acc c, (∀ b o, s.heap.get? b = some o → h'.get? b = some o) → h'.get? s.heap.objs.size = some { cls := .type "list", dict := none, data := .seq acc c, slots := #[] } → ItemsOf (SignAt x) acc x.cps.size → Q (.ref s.heap.objs.size) { s with heap := h', toks := tk }) :
    wpAny (model prog w) A (call (.type "list") [.str x t]) Q E s := by
  refine callType_codes (Q₁ := fun obj s₁ => obj = .ref s.heap.objs.size ∧ s₁ = { s with heap := s.heap.push { cls := .type "list", data := .seq #[] } }) PySem.F.called_list (PySem.F.typeCall_list_1 _) PySem.F.entry_list_init
    (code_list_new _ ⟨rfl, rfl⟩) fun obj s₁ h₁ => ?_
  obtain ⟨rfl, rfl⟩ := h₁
  have hS : (s.heap.push { cls := .type "list", data := .seq #[] }).get? s.heap.objs.size = some { cls := .type "list", data := .seq #[] } := Heap.get?_push_size _ rfl
  refine ⟨⟨_, hS, rfl⟩, PySem.F.args_list_init_2 _ _, init_text (A := A.in1) hh x t hz _ hS fun h' tk acc c hk hS' hi => ?_⟩
  exact ⟨rfl, hQ h' tk acc c (fun b o e => hk b o (Nat.ne_of_lt (Heap.lt_size e)) (Heap.get?_push_of_some _ e)) hS' hi⟩
end
/-- the signs of a text, one by one -/
def signs (x : Str) : List Str := x.cps.toList.map fun c => ⟨#[c]⟩
def rListS : List V → Hp → VK → Prop := fun xs H Q => ∃ x : Str, xs = [.str x] ∧ x.cps.size ≤ sizeLine ∧ ∀ q, H q = none → Q (.ref q) (upd H q (.lst ((signs x).map V.str)))
theorem cr_listS {X : Cx} (hc : X.calm = true) : CallR X (.type "list") rListS := by
  intro pins s σ H xs us Q I r h
  obtain ⟨x, e, hz, q⟩ := h
  subst e
  obtain ⟨u, eu, t, rfl⟩ := vals1 r
  subst eu
  refine call_list_text (I.ok.hd hc) x t hz fun h' tk acc c hk hS hi => ?_
  have el : ((signs x).map V.str).length = x.cps.size := by
    rw [List.length_map]
    unfold signs
    rw [List.length_map, Array.length_toList]
  refine ⟨.ref s.heap.objs.size, upd H s.heap.objs.size (.lst ((signs x).map V.str)), I.laid hk (Nat.le_refl _) (show ObjOk X.prog X.w _ _ _ (.lst ((signs x).map V.str)) from ⟨by rw [el]; exact hz, acc.toList, c, ?_, by rw [Array.toArray_toList]; exact hS⟩), rfl, q _ (I.hok.fresh (Nat.le_refl _))⟩
  refine vals_of_at (by rw [el, Array.length_toList, hi.1]) fun j y w h1 h2 => ?_
  obtain ⟨c, u, h3, rfl⟩ := hi.2 j w (by rw [← Array.getElem?_toList]; exact h2)
  have e3 : ((signs x).map V.str)[j]? = some (V.str ⟨#[c]⟩) := by
    unfold signs
    rw [List.getElem?_map, List.getElem?_map, Array.getElem?_toList, h3]
    rfl
  rw [e3] at h1
  cases h1
  exact ⟨_, rfl⟩
def rListA (K : PySem.W.Frag) : List V → Hp → VK → Prop := fun xs H Q => (∃ p ys, xs = [.ref p] ∧ (SqL K H p ys ∨ SqT K H p ys) ∧ ∀ l, H l = none → Q (.ref l) (upd H l (.lst ys))) ∨ rListD xs H Q ∨ rListS xs H Q ∨
  (∃ d kvs, xs = [V.ref d] ∧ Rd H d (.dT kvs) ∧ ∀ p bs, H p = none → IsKeys H kvs bs → Q (.ref p) (upd H p (.lst (bs.map V.ref))))
theorem call_listA {X : Cx} (hc : X.calm = true) : CallR X (.type "list") (rListA X.K) := CallR.or call_list_of (CallR.or (call_list_dK hc) (CallR.or (cr_listS hc) (call_list_dT hc)))
theorem klist {X : Cx} {K : PySem.W.Frag} (hc : X.calm = true := by rfl) (e : X.K = K := by rfl) : CallR X (.type "list") (rListA K) := e ▸ call_listA hc
end Y

/-! keys as data, tuples of keys, comprehensions over lists -/
namespace Y
open PySem PySem.Spec PyProof.Rows L2
def keyD : Key → PyData
  | .inl i => .int i
  | .inr x => .str x
def tupD (k : List Key) : PyData := .tuple (k.map keyD)
theorem keyD_eqv : ∀ a b : Key, PyData.eqv (keyD a) (keyD b) = decide (a = b)
  | .inl a, .inl b => by
    simp only [keyD, PyData.eqv]
    by_cases h : a = b
    · subst h; simp
    · simp [h]
  | .inl a, .inr b => by simp [keyD, PyData.eqv]
  | .inr a, .inl b => by simp [keyD, PyData.eqv]
  | .inr a, .inr b => by
    simp only [keyD, PyData.eqv]
    by_cases h : a = b
    · subst h; simp
    · simp [h]
theorem keysD_eqv : ∀ a b : List Key, PyData.eqvAll (a.map keyD) (b.map keyD) = decide (a = b)
  | [], [] => by simp [PyData.eqvAll]
  | [], _ :: _ => by simp [PyData.eqvAll]
  | _ :: _, [] => by simp [PyData.eqvAll]
  | x :: a, y :: b => by
    simp only [List.map_cons, PyData.eqvAll, keyD_eqv, keysD_eqv a b]
    by_cases h : x = y <;> by_cases h2 : a = b <;> simp [h, h2]
theorem tupD_eqv (a b : List Key) : PyData.eqv (tupD a) (tupD b) = decide (a = b) := by
  unfold tupD
  simp only [PyData.eqv]
  exact keysD_eqv a b
def okK : Key → Bool
  | .inl _ => true
  | .inr x => PyData.strOk x
theorem keyD_lay : ∀ k : Key, okK k = true → (keyD k).canLay0 = true
  | .inl _, _ => by simp [keyD, PyData.canLay0]
  | .inr _, h => by simp only [keyD, PyData.canLay0]; exact h
theorem keyD_depth : ∀ k : Key, (keyD k).depth = 0
  | .inl _ => by simp [keyD, PyData.depth]
  | .inr _ => by simp [keyD, PyData.depth]
theorem keysD_lay : ∀ k : List Key, k.all okK = true → PyData.canLayAll0 (k.map keyD) = true
  | [], _ => by simp [PyData.canLayAll0]
  | x :: k, h => by
    rw [List.all_cons, Bool.and_eq_true] at h
    simp [PyData.canLayAll0, keyD_lay x h.1, keysD_lay k h.2]
theorem keysD_depth : ∀ k : List Key, PyData.depthAll (k.map keyD) = 0
  | [] => by simp [PyData.depthAll]
  | x :: k => by simp [PyData.depthAll, keyD_depth x, keysD_depth k]
theorem tupD_lay (k : List Key) (h : k.all okK = true) : (tupD k).canLay0 = true := by simp [tupD, PyData.canLay0, keysD_lay k h]
theorem tupD_depth (k : List Key) : (tupD k).depth ≤ 1 := by simp [tupD, PyData.depth, keysD_depth k]
theorem shaped_of {d : PyData} (h1 : d.canLay0 = true) (h2 : d.depth ≤ 64) : SeqAt.shaped d = true := by
  unfold SeqAt.shaped
  rw [h1, decide_eq_true h2]
  rfl
theorem tupD_shaped (k : List Key) (h : k.all okK = true) : SeqAt.shaped (tupD k) = true := shaped_of (tupD_lay k h) (Nat.le_trans (tupD_depth k) (by decide))
abbrev okKs (ks : List (List Key)) : Prop := ∀ k ∈ ks, k.all okK = true
theorem tupsD_lay : ∀ ks : List (List Key), okKs ks → PyData.canLayAll0 (ks.map tupD) = true
  | [], _ => by simp [PyData.canLayAll0]
  | k :: ks, h => by simp [PyData.canLayAll0, tupD_lay k (h k List.mem_cons_self), tupsD_lay ks fun l hl => h l (List.mem_cons_of_mem _ hl)]
theorem tupsD_depth : ∀ ks : List (List Key), PyData.depthAll (ks.map tupD) ≤ 1
  | [] => by simp [PyData.depthAll]
  | k :: ks => by
    have h1 := tupD_depth k
    have h2 := tupsD_depth ks
    simp only [List.map_cons, PyData.depthAll]
    omega
theorem tupsD_shaped (ks : List (List Key)) (ok : okKs ks) : SeqAt.shaped (.list (ks.map tupD)) = true := by
  have h := tupsD_depth ks
  exact shaped_of (by simp only [PyData.canLay0]; exact tupsD_lay ks ok) (by simp only [PyData.depth]; omega)
def memT (k : List Key) (ks : List (List Key)) : Bool := ks.any fun l => decide (l = k)
theorem memT_iff {k : List Key} {ks : List (List Key)} : memT k ks = true ↔ k ∈ ks := by
  unfold memT
  rw [List.any_eq_true]
  exact ⟨fun ⟨l, h, e⟩ => of_decide_eq_true e ▸ h, fun h => ⟨k, h, decide_eq_true rfl⟩⟩
theorem memT_not {k : List Key} {ks : List (List Key)} : memT k ks = false ↔ k ∉ ks := by
  rw [← memT_iff, Bool.not_eq_true]
theorem any_tupD (k : List Key) : ∀ ks : List (List Key), (ks.map tupD).any (fun z => PyData.eqv z (tupD k)) = memT k ks
  | [] => by simp [memT]
  | l :: ks => by
    rw [List.map_cons, List.any_cons, any_tupD k ks, tupD_eqv]
    rfl
theorem keysD_list (k : List Key) (h : k.all okK = true) : SeqAt.shaped (.list (k.map keyD)) = true := shaped_of (by simp only [PyData.canLay0]; exact keysD_lay k h) (by simp only [PyData.depth, keysD_depth k]; decide)
theorem listD_eqv (a b : List Key) : PyData.eqv (.list (a.map keyD)) (.list (b.map keyD)) = decide (a = b) := by
  simp only [PyData.eqv]
  exact keysD_eqv a b

/-! ### tuples of keys, lists of them, in the heap -/
abbrev Tups (H : Hp) : List Addr → List (List Key) → Prop := Paired fun a k => H a = some (.tup (k.map kV))
theorem Tups.mono {H H' : Hp} (h : ∀ a xs, H a = some (.tup xs) → H' a = some (.tup xs)) {as : List Addr} {ks : List (List Key)} (t : Tups H as ks) : Tups H' as ks := Paired.mapP t fun a k e => h _ _ e
theorem Tups.snoc {H : Hp} {a : Addr} {k : List Key} (e : H a = some (.tup (k.map kV))) : ∀ {as : List Addr} {ks : List (List Key)}, Tups H as ks → Tups H (as ++ [a]) (ks ++ [k])
  | _, _, .nil => .cons e .nil
  | _, _, .cons r t => .cons r (Tups.snoc e t)
theorem Tups.length {H : Hp} {as : List Addr} {ks : List (List Key)} (t : Tups H as ks) : as.length = ks.length := Paired.length t
theorem Tups.get {H : Hp} : ∀ {as : List Addr} {ks : List (List Key)} {i : Nat} {a : Addr}, Tups H as ks → as[i]? = some a → ∃ k, ks[i]? = some k ∧ H a = some (.tup (k.map kV))
  | _, _, _, _, .nil, e => by simp at e
  | _, _, 0, _, .cons r _, e => by simp at e; subst e; exact ⟨_, rfl, r⟩
  | _, _, i + 1, _, .cons _ t, e => Tups.get (i := i) t (by simpa using e)
theorem Dp.key {K : PySem.W.Frag} {H : Hp} : ∀ k : Key, Dp K H (kV k) (keyD k)
  | .inl i => .int i
  | .inr x => .str x
theorem Dp.keys {K : PySem.W.Frag} {H : Hp} : ∀ k : List Key, DpAll K H (k.map kV) (k.map keyD)
  | [] => .nil
  | x :: k => .cons (Dp.key x) (Dp.keys k)
theorem Dp.tupK {K : PySem.W.Frag} {H : Hp} {a : Addr} {k : List Key} (e : H a = some (.tup (k.map kV))) : Dp K H (.ref a) (tupD k) := .tup (SqT.of e) (Dp.keys k)
theorem Dp.tups {K : PySem.W.Frag} {H : Hp} : ∀ {as : List Addr} {ks : List (List Key)}, Tups H as ks → DpAll K H (as.map V.ref) (ks.map tupD)
  | _, _, .nil => .nil
  | _, _, .cons r t => .cons (Dp.tupK r) (Dp.tups t)
theorem Dp.tupL {K : PySem.W.Frag} {H : Hp} {p : Addr} {as : List Addr} {ks : List (List Key)} (h : SqL K H p (as.map V.ref)) (t : Tups H as ks) : Dp K H (.ref p) (.list (ks.map tupD)) := .lst h (Dp.tups t)
theorem Dp.keyL {K : PySem.W.Frag} {H : Hp} {p : Addr} {k : List Key} (h : SqL K H p (k.map kV)) : Dp K H (.ref p) (.list (k.map keyD)) := .lst h (Dp.keys k)
/-- x in, not in a list of tuples -/
theorem in_tups {K : PySem.W.Frag} {H : Hp} {p a : Addr} {as : List Addr} {ks : List (List Key)} {k : List Key} {Q : VK} (h : SqL K H p (as.map V.ref)) (t : Tups H as ks) (e : H a = some (.tup (k.map kV))) (o1 : k.all okK = true) (o2 : okKs ks) (q : Q (.bl (memT k ks)) H) :
    L2.rInD K (.ref a) (.ref p) H Q := ⟨tupD k, ks.map tupD, Dp.tupK e, Dp.tupL h t, tupD_shaped k o1, tupsD_shaped ks o2, by rw [any_tupD]; exact q⟩
theorem notin_tups {K : PySem.W.Frag} {H : Hp} {p a : Addr} {as : List Addr} {ks : List (List Key)} {k : List Key} {Q : VK} (h : SqL K H p (as.map V.ref)) (t : Tups H as ks) (e : H a = some (.tup (k.map kV))) (o1 : k.all okK = true) (o2 : okKs ks) (q : Q (.bl (!memT k ks)) H) :
    L2.rNotInD K (.ref a) (.ref p) H Q := ⟨tupD k, ks.map tupD, Dp.tupK e, Dp.tupL h t, tupD_shaped k o1, tupsD_shaped ks o2, by rw [any_tupD]; exact q⟩

/-! ### comprehensions over a list, the heap but the new list as it was or grown -/
/-- what is known behind: all that stood stands -/
theorem lc_pure {K : PySem.W.Frag} {a : Addr} {xs : List V} {g : TG} {tt : TT} {te : TE} {vs : List Nat} {σ : L2.St} {H1 : Hp} {D : Addr} {Qd : Hp → Prop} (f : V → Bool) (e : V → V) (hL : SqL K H1 a xs) (hD : H1 D = none) (hz : xs.length ≤ 1000000)
    (hs : ∀ (i : Nat) (x : V) (H : Hp), xs[i]? = some x → Same H1 H → ∀ (N : Hp → Prop) (Yd : VK), (f x = false → ∀ H', Same H H' → N H') → (f x = true → ∀ H', Same H H' → Yd (e x) H') →
      g x (wipe σ vs) H fun σ2 H2 => wipe σ2 vs = wipe σ vs ∧ tt σ2 H2 fun b H3 => if b = true then te σ2 H3 Yd else N H3)
    (hd : ∀ H, Same H1 H → H D = some (.lst ((xs.filter f).map e)) → Qd H) :
    ∃ W : Nat → Nat → Hp → Prop, (∃ m, W 0 m (upd H1 D (.lst []))) ∧ ∀ i m H, W i m H →
      ((Itl K a).stop i H ∧ Qd H) ∨ ((Itl K a).go i H ∧ ∃ Nx : Hp → Prop, (∀ H', Nx H' → ∃ m', m' < m ∧ W (i + 1) m' H') ∧ ∀ x H', (Itl K a).yld i H x H' → g x (wipe σ vs) H' fun σ2 H2 => wipe σ2 vs = wipe σ vs ∧ tt σ2 H2 fun b H3 =>
        if b = true then te σ2 H3 fun y H4 => ∃ acc, H4 D = some (.lst acc) ∧ acc.length < sizeLine ∧ Nx (upd H4 D (.lst (acc ++ [y]))) else Nx H3) := by
  refine lc_list (K := K) (a := a) (xs := xs) (fun i H => Same H1 H ∧ H D = some (.lst (((xs.take i).filter f).map e))) ⟨same_upd hD, by rw [upd_same]; rfl⟩ (fun i H _ h => h.1.seq hL) (fun i x H hx h => ?_) (fun H h => hd H h.1 (by rw [h.2, List.take_length]))
  have ht : xs.take (i + 1) = xs.take i ++ [x] := by rw [List.take_add_one, hx]; rfl
  refine hs i x H hx h.1 _ _ (fun hf H' s => ⟨h.1.trans s, ?_⟩) (fun hf H' s => ⟨_, s _ _ h.2, ?_, ?_, ?_⟩)
  · rw [s _ _ h.2, ht, List.filter_append]
    simp [hf]
  · rw [List.length_map, nat63]
    have := List.length_filter_le f (xs.take i)
    rw [List.length_take] at this
    omega
  · exact same_mut (h.1.trans s) hD
  · rw [upd_same, ht, List.filter_append, List.map_append]
    simp [hf]

/-- a comprehension over anything that is walked: I, a word of the turn, of the list so far and of the heap -/
theorem lc_gen {J : It} {n : Nat} {G : Hp → Prop} {Yw : Nat → Hp → V → Hp → Prop} (w : Walk J n G Yw) {g : TG} {tt : TT} {te : TE} {vs : List Nat} {σ : L2.St} {H1 : Hp} {D : Addr} {Qd : Hp → Prop} (I : Nat → List V → Hp → Prop) (h0 : I 0 [] (upd H1 D (.lst [])))
    (hG : ∀ i acc H, i ≤ n → I i acc H → G H) (hl : ∀ i acc H, i < n → I i acc H → acc.length ≤ 1000000)
    (hs : ∀ i x acc H H', i < n → H D = some (.lst acc) → I i acc H → Yw i H x H' → ∀ (N : Hp → Prop) (Yd : VK), (∀ H2, H2 D = some (.lst acc) → I (i + 1) acc H2 → N H2) → (∀ v H2, H2 D = some (.lst acc) → I (i + 1) (acc ++ [v]) (upd H2 D (.lst (acc ++ [v]))) → Yd v H2) →
      g x (wipe σ vs) H' fun σ2 H2 => wipe σ2 vs = wipe σ vs ∧ tt σ2 H2 fun b H3 => if b = true then te σ2 H3 Yd else N H3)
    (hd : ∀ acc H, H D = some (.lst acc) → I n acc H → Qd H) :
    ∃ W : Nat → Nat → Hp → Prop, (∃ m, W 0 m (upd H1 D (.lst []))) ∧ ∀ i m H, W i m H →
      (J.stop i H ∧ Qd H) ∨ (J.go i H ∧ ∃ Nx : Hp → Prop, (∀ H', Nx H' → ∃ m', m' < m ∧ W (i + 1) m' H') ∧ ∀ x H', J.yld i H x H' → g x (wipe σ vs) H' fun σ2 H2 => wipe σ2 vs = wipe σ vs ∧ tt σ2 H2 fun b H3 =>
        if b = true then te σ2 H3 fun y H4 => ∃ acc, H4 D = some (.lst acc) ∧ acc.length < sizeLine ∧ Nx (upd H4 D (.lst (acc ++ [y]))) else Nx H3) := by
  refine lc_it w (fun i H => ∃ acc, H D = some (.lst acc) ∧ I i acc H) ⟨[], upd_same, h0⟩ (fun i H hi ⟨acc, _, h⟩ => hG i acc H hi h) ?_ (fun H ⟨acc, h1, h2⟩ => hd acc H h1 h2)
  rintro i x H H' hi ⟨acc, hD, h⟩ hy
  exact hs i x acc H H' hi hD h hy _ _ (fun H2 e2 h2 => ⟨acc, e2, h2⟩) (fun v H2 e2 h2 => ⟨acc, e2, Nat.lt_of_le_of_lt (hl i acc H hi h) (by rw [nat63]; decide), _, upd_same, h2⟩)
/-- .. whose items are new tuples of keys, nothing else changed -/
theorem lc_tups {J : It} {n : Nat} {G : Hp → Prop} {Yw : Nat → Hp → V → Hp → Prop} (w : Walk J n G Yw) {g : TG} {tt : TT} {te : TE} {vs : List Nat} {σ : L2.St} {H1 : Hp} {D : Addr} {Qd : Hp → Prop} (ks : Nat → List (List Key)) (hk : ks 0 = []) (nD : H1 D = none)
    (hG : ∀ H, Same H1 H → G H) (hn : ∀ i, i < n → (ks i).length ≤ 1000000)
    (hs : ∀ i x H H', i < n → Same H1 H → Yw i H x H' → ∀ (N : Hp → Prop) (Yd : VK), (ks (i + 1) = ks i → ∀ H2, Same H H2 → N H2) → (∀ k t H2, ks (i + 1) = ks i ++ [k] → Same H H2 → H2 t = some (.tup (k.map kV)) → Yd (.ref t) H2) →
      g x (wipe σ vs) H' fun σ2 H2 => wipe σ2 vs = wipe σ vs ∧ tt σ2 H2 fun b H3 => if b = true then te σ2 H3 Yd else N H3)
    (hd : ∀ as H, Same H1 H → H D = some (.lst (as.map V.ref)) → Tups H as (ks n) → Qd H) :
    ∃ W : Nat → Nat → Hp → Prop, (∃ m, W 0 m (upd H1 D (.lst []))) ∧ ∀ i m H, W i m H →
      (J.stop i H ∧ Qd H) ∨ (J.go i H ∧ ∃ Nx : Hp → Prop, (∀ H', Nx H' → ∃ m', m' < m ∧ W (i + 1) m' H') ∧ ∀ x H', J.yld i H x H' → g x (wipe σ vs) H' fun σ2 H2 => wipe σ2 vs = wipe σ vs ∧ tt σ2 H2 fun b H3 =>
        if b = true then te σ2 H3 fun y H4 => ∃ acc, H4 D = some (.lst acc) ∧ acc.length < sizeLine ∧ Nx (upd H4 D (.lst (acc ++ [y]))) else Nx H3) := by
  refine lc_gen w (fun i acc H => Same H1 H ∧ ∃ as, acc = as.map V.ref ∧ Tups H as (ks i)) ⟨same_upd nD, [], rfl, by rw [hk]; exact .nil⟩ (fun i acc H _ h => hG H h.1) ?_ ?_ ?_
  · rintro i acc H hi ⟨_, as, rfl, t⟩
    rw [List.length_map, t.length]
    exact hn i hi
  · rintro i x acc H H' hi hD ⟨s1, as, rfl, t⟩ hy N Yd hN hY
    refine hs i x H H' hi s1 hy N Yd (fun e H2 s => hN H2 (s _ _ hD) ⟨s1.trans s, as, rfl, by rw [e]; exact t.mono fun a xs h => s _ _ h⟩) (fun k tp H2 e s ht => hY _ H2 (s _ _ hD) ⟨same_mut (s1.trans s) nD, as ++ [tp], by rw [List.map_append]; rfl, ?_⟩)
    have up : ∀ a xs, H2 a = some (.tup xs) → upd H2 D (.lst (as.map V.ref ++ [.ref tp])) a = some (.tup xs) := fun a xs h => by
      rw [upd_ne (ne_of h (s _ _ hD) (by intro q; cases q))]
      exact h
    rw [e]
    exact Tups.snoc (up _ _ ht) (t.mono fun a xs h => up _ _ (s _ _ h))
  · rintro acc H hD ⟨s1, as, rfl, t⟩
    exact hd as H s1 hD t
end Y

/-! patterns: a number of houses and pairs of places -/
namespace Y
open PySem PySem.Spec PyProof.Rows L2
abbrev ik (p : Int × Int) : List Key := [Sum.inl p.1, Sum.inl p.2]
theorem ik_inj {a b : Int × Int} (h : ik a = ik b) : a = b := by
  obtain ⟨a1, a2⟩ := a
  obtain ⟨b1, b2⟩ := b
  cases h
  rfl
theorem okKs_ik (ps : List (Int × Int)) : okKs (ps.map ik) := fun k h => by
  obtain ⟨p, _, rfl⟩ := List.mem_map.mp h
  rfl
/-- a list of pairs of places at p -/
def PairsAt (H : Hp) (p : Addr) (ps : List (Int × Int)) : Prop := ∃ as, H p = some (.lst (as.map V.ref)) ∧ Tups H as (ps.map ik)
theorem PairsAt.kp {H H' : Hp} {p : Addr} {ps : List (Int × Int)} (h : PairsAt H p ps) (k : Kp H H') : PairsAt H' p ps := by
  obtain ⟨as, h1, h2⟩ := h
  exact ⟨as, k.keep _ _ h1 (nb_refs as).bag, h2.mono fun a xs e => k.keep _ _ e rfl⟩
theorem PairsAt.same {H H' : Hp} {p : Addr} {ps : List (Int × Int)} (h : PairsAt H p ps) (k : Same H H') : PairsAt H' p ps := h.kp (.of k)
theorem PairsAt.len {H : Hp} {p : Addr} {ps : List (Int × Int)} (h : PairsAt H p ps) : ∃ as : List Addr, H p = some (.lst (as.map V.ref)) ∧ as.length = ps.length := by
  obtain ⟨as, h1, h2⟩ := h
  have := h2.length
  rw [List.length_map] at this
  exact ⟨as, h1, this⟩
def degI (ps : List (Int × Int)) (i : Int) : Nat := (ps.filter fun p => decide (p.1 = i) || decide (p.2 = i)).length
/-- what _law_tie does -/
def tieI (ps : List (Int × Int)) (i j : Int) : List (Int × Int) :=
  if i ≠ j ∧ (min i j, max i j) ∉ ps ∧ ps.length < 30 ∧ degI ps i < 8 ∧ degI ps j < 8 then ps ++ [(min i j, max i j)] else ps
def sp_tie : Sp := fun vs H Q _ => ∃ (p : Addr) (ps : List (Int × Int)) (i j : Int), vs = [.ref p, .int i, .int j] ∧ PairsAt H p ps ∧ ps.length ≤ 100000 ∧
  ∀ H', PairsAt H' p (tieI ps i j) → (∀ a o, H a = some o → a ≠ p → H' a = some o) → Q .non H'
structure Pat (n : Int) (ps : List (Int × Int)) : Prop where
  rng : ∀ p ∈ ps, 0 ≤ p.1 ∧ p.1 < p.2 ∧ p.2 < n
  nd : ps.Nodup
  len : ps.length ≤ 30
  deg : ∀ i, degI ps i ≤ 8
theorem degI_snoc (ps : List (Int × Int)) (p : Int × Int) (i : Int) : degI (ps ++ [p]) i = degI ps i + (if p.1 = i ∨ p.2 = i then 1 else 0) := by
  unfold degI
  rw [List.filter_append, List.length_append, List.filter_cons]
  by_cases h : p.1 = i ∨ p.2 = i
  · have hb : (decide (p.1 = i) || decide (p.2 = i)) = true := by simpa using h
    rw [if_pos hb, if_pos h]
    rfl
  · have hb : ¬ (decide (p.1 = i) || decide (p.2 = i)) = true := by simpa using h
    rw [if_neg hb, if_neg h]
    rfl
theorem Pat.nil {n : Int} : Pat n [] := ⟨fun p h => (by cases h), List.nodup_nil, (by decide), fun i => Nat.zero_le _⟩
theorem Pat.mono {n m : Int} {ps : List (Int × Int)} (h : Pat n ps) (le : n ≤ m) : Pat m ps := ⟨fun p hp => ⟨(h.rng p hp).1, (h.rng p hp).2.1, Int.lt_of_lt_of_le (h.rng p hp).2.2 le⟩, h.nd, h.len, h.deg⟩
theorem Pat.tie {n i j : Int} {ps : List (Int × Int)} (h : Pat n ps) (hi : 0 ≤ i ∧ i < n) (hj : 0 ≤ j ∧ j < n) : Pat n (tieI ps i j) := by
  unfold tieI
  split
  · rename_i c
    obtain ⟨c1, c2, c3, c4, c5⟩ := c
    refine ⟨fun p hp => ?_, ?_, by rw [List.length_append, List.length_singleton]; omega, fun z => ?_⟩
    · rcases List.mem_append.mp hp with hp | hp
      · exact h.rng p hp
      · rw [List.mem_singleton.mp hp]
        exact ⟨by show 0 ≤ min i j; omega, by show min i j < max i j; omega, by show max i j < n; omega⟩
    · rw [List.nodup_append]
      exact ⟨h.nd, List.nodup_cons.mpr ⟨by simp, List.nodup_nil⟩, fun a ha b hb e => c2 (by rw [List.mem_singleton.mp hb] at e; rw [← e]; exact ha)⟩
    · rw [degI_snoc]
      have h8 := h.deg z
      split
      · rename_i hz
        have hz' : z = i ∨ z = j := by
          rcases hz with e | e
          · have e' : min i j = z := e
            omega
          · have e' : max i j = z := e
            omega
        rcases hz' with rfl | rfl <;> omega
      · omega
  · exact h
theorem tieI_len (ps : List (Int × Int)) (i j : Int) : (tieI ps i j).length ≤ ps.length + 1 := by
  unfold tieI
  split
  · rw [List.length_append, List.length_singleton]
    exact Nat.le_refl _
  · omega
theorem Wb.but {G : BagId} {H0 H H' : Hp} {p : Addr} (w : Wb G H0 H) (n : H0 p = none) (k : ∀ a o, H a = some o → a ≠ p → H' a = some o) : Wb G H0 H' := by
  refine ⟨⟨fun a o h b => k _ _ (w.kp.keep a o h b) (ne_of_none h n), fun a h => ?_⟩, ?_, w.bag0⟩
  · cases q : H a with
    | none => exact w.kp.free a q
    | some u =>
      by_cases e : a = p
      · rw [e]; exact n
      · rw [k a u q e] at h
        cases h
  · obtain ⟨_, _, _, _, f1, f2, _⟩ := w.bag0
    obtain ⟨i, r, m, c, e1, e2, e3⟩ := w.bag
    exact ⟨i, r, m, c, k _ _ e1 (ne_of_none f1 n), k _ _ e2 (ne_of_none f2 n), e3⟩

/-- a written list of pairs of ints -/
def tPairsI : List (Int × Int) → TA
  | [] => tNil
  | p :: ps => tCons (tTup (tCons (tC (.int p.1)) (tCons (tC (.int p.2)) tNil))) (tPairsI ps)
theorem ta_pairs : ∀ (ps : List (Int × Int)) {σ : L2.St} {H : Hp} {Q : List V → Hp → Prop}, (∀ as H', Same H H' → Tups H' as (ps.map ik) → Q (as.map V.ref) H') → tPairsI ps σ H Q
  | [], σ, H, Q, h => h [] H (Same.refl _) .nil
  | p :: ps, σ, H, Q, h => by
    refine ⟨by rw [nat63]; exact Nat.le_of_ble_eq_true rfl, fun a na => ?_⟩
    refine ta_pairs ps fun as H' s t => ?_
    exact h (a :: as) H' (fun b o e => s b o (same_upd na b o e)) (.cons (s _ _ upd_same) t)
theorem te_pairs (ps : List (Int × Int)) (hz : ps.length ≤ 1000) {σ : L2.St} {H : Hp} {Q : VK} (h : ∀ p H', Same H H' → H p = none → PairsAt H' p ps → Q (.ref p) H') : tLst (tPairsI ps) σ H Q := by
  refine ta_pairs ps fun as H' s t => ?_
  have hl := t.length
  rw [List.length_map] at hl
  refine ⟨by rw [nat63, List.length_map]; omega, fun p np => ?_⟩
  exact h p _ (same_mut s (s.free np)) (s.free np) ⟨as, upd_same, t.mono fun a xs e => by
    rw [upd_ne (ne_of_none e np)]
    exact e⟩
theorem rCat_pairs {H : Hp} {l b : Addr} {ps qs : List (Int × Int)} {Q : VK} (h1 : PairsAt H l ps) (h2 : PairsAt H b qs) (hz : ps.length + qs.length ≤ 100000) (h : ∀ p H', Same H H' → H p = none → PairsAt H' p (ps ++ qs) → Q (.ref p) H') : rCat (.ref l) (.ref b) H Q := by
  obtain ⟨as, e1, t1⟩ := h1
  obtain ⟨bs, e2, t2⟩ := h2
  have l1 := t1.length
  have l2 := t2.length
  rw [List.length_map] at l1 l2
  refine ⟨l, b, _, _, rfl, rfl, e1, e2, by rw [List.length_map, List.length_map, nat63]; omega, fun p np => ?_⟩
  refine h p _ (same_upd np) np ⟨as ++ bs, by rw [upd_same, List.map_append], ?_⟩
  rw [List.map_append]
  have go : ∀ {as : List Addr} {ks : List (List Key)} {bs : List Addr} {ls : List (List Key)}, Tups H as ks → Tups H bs ls → Tups H (as ++ bs) (ks ++ ls) := by
    intro as ks bs ls h1 h2
    induction h1 with
    | nil => exact h2
    | cons r _ ih => exact .cons r ih
  exact (go t1 t2).mono fun a xs e => by
    rw [upd_ne (ne_of_none e np)]
    exact e
theorem pat_of {n : Int} {ps : List (Int × Int)} (h1 : (ps.all fun p => decide (0 ≤ p.1 ∧ p.1 < p.2 ∧ p.2 < n)) = true) (h2 : ps.Nodup) (h3 : ps.length ≤ 8) : Pat n ps :=
  ⟨fun p hp => of_decide_eq_true (List.all_eq_true.mp h1 p hp), h2, by omega, fun i => Nat.le_trans (List.length_filter_le _ _) h3⟩

section
variable {n : Int} {D : Ends} {σ : L2.St} {H : Hp} {r : R2} {tb : TE}
abbrev RetP (n : Int) (D : Ends) : VK := fun z H3 => [V.int n, z].length ≤ sizeLine ∧ ∀ t, H3 t = none → D.rt (.ref t) (upd H3 t (.tup [.int n, z]))
theorem ret_pairs (n : Int) (ps : List (Int × Int)) (hz : ps.length ≤ 1000) (h : ∀ p H', Same H H' → H p = none → PairsAt H' p ps → RetP n D (.ref p) H') : tRet (tTup (tCons (tC (.int n)) (tCons (tLst (tPairsI ps)) tNil))) D σ H :=
  te_pairs ps hz h
theorem ret_pairs_op (n : Int) (ps : List (Int × Int)) (hz : ps.length ≤ 1000) (h : ∀ p H', Same H H' → H p = none → PairsAt H' p ps → tb σ H' fun y H2 => r (.ref p) y H2 (RetP n D)) : tRet (tTup (tCons (tC (.int n)) (tCons (tOp r (tLst (tPairsI ps)) tb) tNil))) D σ H := by
  show tLst (tPairsI ps) σ H fun x H1 => tb σ H1 fun y H2 => r x y H2 (RetP n D)
  exact te_pairs ps hz h
theorem ret_op_pairs (n : Int) (ps : List (Int × Int)) (hz : ps.length ≤ 1000) {i : Nat} {v : V} (hv : σ[i]? = some (some v)) (h : ∀ p H', Same H H' → H p = none → PairsAt H' p ps → r v (.ref p) H' (RetP n D)) : tRet (tTup (tCons (tC (.int n)) (tCons (tOp r (tVar i) (tLst (tPairsI ps))) tNil))) D σ H := by
  refine ⟨v, hv, ?_⟩
  show tLst (tPairsI ps) σ H fun y H2 => r v y H2 (RetP n D)
  exact te_pairs ps hz h
end

def rgP (n : Nat) (f : Nat → Int × Int) : List (Int × Int) := (List.range n).map f
theorem rgP_succ (n : Nat) (f : Nat → Int × Int) : (rgP (n + 1) f).map ik = (rgP n f).map ik ++ [ik (f n)] := by
  unfold rgP
  rw [List.range_succ, List.map_append, List.map_append]
  rfl
theorem rgP_len (n : Nat) (f : Nat → Int × Int) : (rgP n f).length = n := by
  unfold rgP
  rw [List.length_map, List.length_range]

/-- a comprehension without tests whose items are a function of the turn, nothing else changed -/
theorem lc_vals {J : It} {n : Nat} {G : Hp → Prop} {Yw : Nat → Hp → V → Hp → Prop} (w : Walk J n G Yw) {g : TG} {tt : TT} {te : TE} {vs : List Nat} {σ : L2.St} {H1 : Hp} {D : Addr} {Qd : Hp → Prop} (f : Nat → V) (nD : H1 D = none)
    (hG : ∀ H, Same H1 H → G H) (hn : n ≤ 1000000)
    (hs : ∀ i x H H', i < n → Same H1 H → Yw i H x H' → ∀ (N : Hp → Prop) (Yd : VK), (∀ H2, Same H H2 → Yd (f i) H2) →
      g x (wipe σ vs) H' fun σ2 H2 => wipe σ2 vs = wipe σ vs ∧ tt σ2 H2 fun b H3 => if b = true then te σ2 H3 Yd else N H3)
    (hd : ∀ H, Same H1 H → H D = some (.lst ((List.range n).map f)) → Qd H) :
    ∃ W : Nat → Nat → Hp → Prop, (∃ m, W 0 m (upd H1 D (.lst []))) ∧ ∀ i m H, W i m H →
      (J.stop i H ∧ Qd H) ∨ (J.go i H ∧ ∃ Nx : Hp → Prop, (∀ H', Nx H' → ∃ m', m' < m ∧ W (i + 1) m' H') ∧ ∀ x H', J.yld i H x H' → g x (wipe σ vs) H' fun σ2 H2 => wipe σ2 vs = wipe σ vs ∧ tt σ2 H2 fun b H3 =>
        if b = true then te σ2 H3 fun y H4 => ∃ acc, H4 D = some (.lst acc) ∧ acc.length < sizeLine ∧ Nx (upd H4 D (.lst (acc ++ [y]))) else Nx H3) := by
  refine lc_gen w (fun i acc H => Same H1 H ∧ acc = (List.range i).map f) ⟨same_upd nD, rfl⟩ (fun i acc H _ h => hG H h.1) ?_ ?_ ?_
  · rintro i acc H hi ⟨_, rfl⟩
    rw [List.length_map, List.length_range]
    omega
  · rintro i x acc H H' hi hD ⟨s1, rfl⟩ hy N Yd hN hY
    refine hs i x H H' hi s1 hy N Yd fun H2 s => hY _ H2 (s _ _ hD) ⟨same_mut (s1.trans s) nD, ?_⟩
    rw [List.range_succ, List.map_append]
    rfl
  · rintro acc H hD ⟨s1, rfl⟩
    exact hd H s1 hD
theorem nodup_sub {α : Type} [DecidableEq α] : ∀ {l D : List α}, l.Nodup → (∀ x ∈ l, x ∈ D) → l.length ≤ D.length
  | [], _, _, _ => Nat.zero_le _
  | x :: l, D, hn, hs => by
    have h1 := List.nodup_cons.mp hn
    have ih := nodup_sub (l := l) (D := D.erase x) h1.2 fun y hy => (List.mem_erase_of_ne (fun e => h1.1 (by rw [← e]; exact hy))).mpr (hs y (List.mem_cons_of_mem _ hy))
    rw [List.length_erase_of_mem (hs x List.mem_cons_self)] at ih
    have : 0 < D.length := List.length_pos_of_mem (hs x List.mem_cons_self)
    rw [List.length_cons]
    omega
theorem Pat.few {n : Int} {ps : List (Int × Int)} (h : Pat n ps) (h4 : n ≤ 4) : ps.length ≤ 6 := by
  refine nodup_sub (D := [(0, 1), (0, 2), (0, 3), (1, 2), (1, 3), (2, 3)]) h.nd fun p hp => ?_
  obtain ⟨a, b, c⟩ := h.rng p hp
  obtain ⟨x, y⟩ := p
  have a' : 0 ≤ x := a
  have b' : x < y := b
  have c' : y < n := c
  rcases (show (x = 0 ∧ y = 1) ∨ (x = 0 ∧ y = 2) ∨ (x = 0 ∧ y = 3) ∨ (x = 1 ∧ y = 2) ∨ (x = 1 ∧ y = 3) ∨ (x = 2 ∧ y = 3) by omega) with ⟨rfl, rfl⟩ | ⟨rfl, rfl⟩ | ⟨rfl, rfl⟩ | ⟨rfl, rfl⟩ | ⟨rfl, rfl⟩ | ⟨rfl, rfl⟩ <;> simp
def shiftP (c : Int) (p : Int × Int) : Int × Int := (p.1 + c, p.2 + c)
theorem degI_append (ps qs : List (Int × Int)) (i : Int) : degI (ps ++ qs) i = degI ps i + degI qs i := by
  unfold degI
  rw [List.filter_append, List.length_append]
theorem degI_shift (c : Int) (qs : List (Int × Int)) (i : Int) : degI (qs.map (shiftP c)) i = degI qs (i - c) := by
  induction qs with
  | nil => rfl
  | cons q qs ih =>
    unfold degI at ih ⊢
    rw [List.map_cons, List.filter_cons, List.filter_cons]
    have e : (decide ((shiftP c q).1 = i) || decide ((shiftP c q).2 = i)) = (decide (q.1 = i - c) || decide (q.2 = i - c)) := by
      have e1 : ((shiftP c q).1 = i) ↔ (q.1 = i - c) := by show q.1 + c = i ↔ _; omega
      have e2 : ((shiftP c q).2 = i) ↔ (q.2 = i - c) := by show q.2 + c = i ↔ _; omega
      simp only [e1, e2]
    rw [e]
    split
    · rw [List.length_cons, List.length_cons, ih]
    · exact ih
theorem degI_zero {qs : List (Int × Int)} {i : Int} (h : ∀ p ∈ qs, p.1 ≠ i ∧ p.2 ≠ i) : degI qs i = 0 := by
  unfold degI
  rw [List.length_eq_zero_iff, List.filter_eq_nil_iff]
  intro p hp
  obtain ⟨h1, h2⟩ := h p hp
  simp [h1, h2]
theorem Pat.join {c n : Int} {ps qs : List (Int × Int)} (h : Pat c ps) (g : Pat n qs) (h0 : 0 ≤ c) (hl : ps.length + qs.length ≤ 30) (hn : 0 ≤ n) : Pat (c + n) (ps ++ qs.map (shiftP c)) := by
  have gs : ∀ p ∈ qs.map (shiftP c), c ≤ p.1 ∧ p.1 < p.2 ∧ p.2 < c + n := fun p hp => by
    obtain ⟨q, hq, rfl⟩ := List.mem_map.mp hp
    obtain ⟨a, b, d⟩ := g.rng q hq
    exact ⟨by show c ≤ q.1 + c; omega, by show q.1 + c < q.2 + c; omega, by show q.2 + c < c + n; omega⟩
  refine ⟨fun p hp => ?_, ?_, by rw [List.length_append, List.length_map]; exact hl, fun i => ?_⟩
  · rcases List.mem_append.mp hp with hp | hp
    · obtain ⟨a, b, d⟩ := h.rng p hp
      exact ⟨a, b, by omega⟩
    · obtain ⟨a, b, d⟩ := gs p hp
      exact ⟨by omega, b, d⟩
  · rw [List.nodup_append]
    refine ⟨h.nd, ?_, fun a ha b hb e => ?_⟩
    · rw [List.nodup_iff_pairwise_ne, List.pairwise_map]
      refine (List.nodup_iff_pairwise_ne.mp g.nd).imp fun {a b} hne e => hne ?_
      have e1 : a.1 + c = b.1 + c := congrArg Prod.fst e
      have e2 : a.2 + c = b.2 + c := congrArg Prod.snd e
      exact Prod.ext (by omega) (by omega)
    · have h1 := h.rng a ha
      have h2 := gs b hb
      rw [e] at h1
      omega
  · rw [degI_append, degI_shift]
    by_cases hi : i < c
    · rw [degI_zero (qs := qs) (i := i - c) fun p hp => by
        have := g.rng p hp
        exact ⟨by omega, by omega⟩]
      exact h.deg i
    · rw [degI_zero (qs := ps) (i := i) fun p hp => by
        have := h.rng p hp
        exact ⟨by omega, by omega⟩]
      have := g.deg (i - c)
      omega
end Y

/-! comprehensions whose list so far is a function of the turn -/
namespace Y
open PySem PySem.Spec PyProof.Rows L2
theorem lc_acc {J : It} {n : Nat} {G : Hp → Prop} {Yw : Nat → Hp → V → Hp → Prop} (w : Walk J n G Yw) {g : TG} {tt : TT} {te : TE} {vs : List Nat} {σ : L2.St} {H1 : Hp} {D : Addr} {Qd : Hp → Prop} (acc : Nat → List V) (h0 : acc 0 = []) (nD : H1 D = none)
    (hG : ∀ H, Same H1 H → G H) (hn : ∀ i, i < n → (acc i).length ≤ 1000000)
    (hs : ∀ i x H H', i < n → Same H1 H → Yw i H x H' → ∀ (N : Hp → Prop) (Yd : VK), (acc (i + 1) = acc i → ∀ H2, Same H H2 → N H2) → (∀ v H2, acc (i + 1) = acc i ++ [v] → Same H H2 → Yd v H2) →
      g x (wipe σ vs) H' fun σ2 H2 => wipe σ2 vs = wipe σ vs ∧ tt σ2 H2 fun b H3 => if b = true then te σ2 H3 Yd else N H3)
    (hd : ∀ H, Same H1 H → H D = some (.lst (acc n)) → Qd H) :
    ∃ W : Nat → Nat → Hp → Prop, (∃ m, W 0 m (upd H1 D (.lst []))) ∧ ∀ i m H, W i m H →
      (J.stop i H ∧ Qd H) ∨ (J.go i H ∧ ∃ Nx : Hp → Prop, (∀ H', Nx H' → ∃ m', m' < m ∧ W (i + 1) m' H') ∧ ∀ x H', J.yld i H x H' → g x (wipe σ vs) H' fun σ2 H2 => wipe σ2 vs = wipe σ vs ∧ tt σ2 H2 fun b H3 =>
        if b = true then te σ2 H3 fun y H4 => ∃ ac, H4 D = some (.lst ac) ∧ ac.length < sizeLine ∧ Nx (upd H4 D (.lst (ac ++ [y]))) else Nx H3) := by
  refine lc_gen w (fun i ac H => Same H1 H ∧ ac = acc i) ⟨same_upd nD, h0.symm⟩ (fun i ac H _ h => hG H h.1) ?_ ?_ ?_
  · rintro i ac H hi ⟨_, rfl⟩
    exact hn i hi
  · rintro i x ac H H' hi hD ⟨s1, rfl⟩ hy N Yd hN hY
    exact hs i x H H' hi s1 hy N Yd (fun e H2 s => hN H2 (s _ _ hD) ⟨s1.trans s, e.symm⟩) fun v H2 e s => hY v H2 (s _ _ hD) ⟨same_mut (s1.trans s) nD, e.symm⟩
  · rintro ac H hD ⟨s1, rfl⟩
    exact hd H s1 hD
theorem take_snoc {α : Type} {xs : List α} {i : Nat} {x : α} (h : xs[i]? = some x) : xs.take (i + 1) = xs.take i ++ [x] := by rw [List.take_add_one, h]; rfl
theorem filter_snoc {α : Type} {f : α → Bool} {xs : List α} {x : α} : (xs ++ [x]).filter f = xs.filter f ++ (if f x = true then [x] else []) := by
  rw [List.filter_append, List.filter_cons]
  split <;> rfl
/-- the filter of the first i, mapped -/
def fm {α β : Type} (f : α → Bool) (g : α → β) (xs : List α) (i : Nat) : List β := ((xs.take i).filter f).map g
theorem fm_no {α β : Type} {f : α → Bool} {g : α → β} {xs : List α} {i : Nat} {x : α} (h : xs[i]? = some x) (e : f x = false) : fm f g xs (i + 1) = fm f g xs i := by
  unfold fm
  rw [take_snoc h, filter_snoc, e]
  simp
theorem fm_yes {α β : Type} {f : α → Bool} {g : α → β} {xs : List α} {i : Nat} {x : α} (h : xs[i]? = some x) (e : f x = true) : fm f g xs (i + 1) = fm f g xs i ++ [g x] := by
  unfold fm
  rw [take_snoc h, filter_snoc, e, if_pos rfl, List.map_append]
  rfl
theorem fm_all {α β : Type} {f : α → Bool} {g : α → β} {xs : List α} {n : Nat} (h : n = xs.length) : fm f g xs n = (xs.filter f).map g := by
  unfold fm
  rw [h, List.take_length]
theorem fm_len {α β : Type} {f : α → Bool} {g : α → β} {xs : List α} {i : Nat} : (fm f g xs i).length ≤ xs.length := by
  unfold fm
  rw [List.length_map]
  refine Nat.le_trans (List.length_filter_le _ _) ?_
  rw [List.length_take]
  omega
theorem inV_strs (x : Str) : ∀ ts : List Str, inV (.str x) (ts.map V.str) = decide (x ∈ ts)
  | [] => rfl
  | t :: ts => by
    have ih := inV_strs x ts
    unfold inV at ih ⊢
    rw [List.map_cons, List.any_cons, ih]
    show ((t == x) || decide (x ∈ ts)) = _
    by_cases h : t = x
    · subst h; simp
    · have h' : ¬ x = t := fun e => h e.symm
      simp [h, h']
theorem flat_strs (ts : List Str) : (ts.map V.str).all flatV = true := by
  rw [List.all_eq_true]
  intro v hv
  obtain ⟨t, _, rfl⟩ := List.mem_map.mp hv
  rfl
end Y

/-! names: texts of small letters and digits, all different, none reserved -/
namespace Y
open PySem PySem.Spec PyProof.Rows L2 SX
def isL (c : Nat) : Prop := 97 ≤ c ∧ c ≤ 122
def isS (c : Nat) : Prop := (97 ≤ c ∧ c ≤ 122) ∨ (48 ≤ c ∧ c ≤ 57)
theorem isL.s {c : Nat} (h : isL c) : isS c := Or.inl h
abbrev vs1 (cs : List Nat) : List V := cs.map fun c => V.str (S [c])
theorem Wb.keep {G : BagId} {H0 H : Hp} {a : Addr} {o : HO} (w : Wb G H0 H) (h : H0 a = some o) (n : isBag o = false) : H a = some o := w.kp.keep a o h n
theorem upd_keep {H : Hp} {p a : Addr} {o v : HO} (n : H p = none) (h : H a = some v) : upd H p o a = some v := same_upd n a v h
theorem Wb.trans2 {G : BagId} {H0 H H' : Hp} (v : Wb G H H') (w : Wb G H0 H) : Wb G H0 H' := w.trans v
theorem Wb.same2 {G : BagId} {H0 H H' : Hp} (v : Same H H') (w : Wb G H0 H) : Wb G H0 H' := w.same v
theorem Wb.of_new {G : BagId} {H H1 : Hp} {p : Addr} {o : HO} (e : upd H p o = H1) (n : H p = none) (b : Bag G H) : Wb G H H1 := e ▸ (Wb.refl b).new n
theorem at_new {H H1 : Hp} {p : Addr} {o : HO} (e : upd H p o = H1) : H1 p = some o := e ▸ upd_same
theorem same_new {H H1 : Hp} {p : Addr} {o : HO} (e : upd H p o = H1) (n : H p = none) : Same H H1 := e ▸ same_upd n
theorem Same.keep {H0 H : Hp} {a : Addr} {o : HO} (w : Same H0 H) (h : H0 a = some o) : H a = some o := w a o h
theorem nb_vs1 (cs : List Nat) : nb (vs1 cs) := Or.inl fun a h => by
  obtain ⟨_, _, e⟩ := List.mem_map.mp h
  cases e
def azL : List Nat := (List.range 26).map fun k => 97 + k
def az36 : List Nat := azL ++ (List.range 10).map fun k => 48 + k
def fewL : List Nat := [97, 98, 99, 100, 120, 121, 122, 113, 103]
theorem at_vs1 {cs : List Nat} {j c : Nat} (h : cs[j]? = some c) : atI (vs1 cs) (j : Int) = some (V.str (S [c])) := atI_nat (by rw [List.getElem?_map, h]; rfl)
theorem at_S {cs : List Nat} {j c : Nat} (h : cs[j]? = some c) : cs[j]? = some c := h
theorem az_text : ("abcdefghijklmnopqrstuvwxyz" : Str) = S azL := by decide
theorem az36_text : ("abcdefghijklmnopqrstuvwxyz0123456789" : Str) = S az36 := by decide
theorem few_text : ("abcdxyzqg" : Str) = S fewL := by decide
theorem az_len : azL.length = 26 := by decide
theorem az36_len : az36.length = 36 := by decide
theorem az_nd : azL.Nodup := by decide
theorem few_nd : fewL.Nodup := by decide
theorem az_L : ∀ c ∈ azL, isL c := by unfold isL; decide
theorem few_L : ∀ c ∈ fewL, isL c := by unfold isL; decide
theorem az36_S : ∀ c ∈ az36, isS c := by unfold isS; decide
theorem signs_S (l : List Nat) : (signs (S l)).map V.str = vs1 l := by
  unfold signs vs1
  rw [List.map_map]
  show (l.toArray.toList).map _ = _
  rfl
def resWords : List Str := ["start", "net", "houses", "tie", "done", "lists", "table", "at", "sheets", "sheet", "ring", "begin", "bypass", "rim", "all", "model", "part", "chosen", "ask", "leaf", "dead", "live", "of", "as", "none", "yes", "home"]
theorem res_words : ∀ x ∈ resWords, 2 ≤ x.cps.toList.length ∧ x.cps.toList.length ≤ 7 ∧ x.cps.toList.getLast? ≠ some 55 := by decide
def barS (x : Str) : Str := if x ∈ resWords then x ++ ("7" : Str) else x
theorem seven : ("7" : Str) = S [55] := by decide
structure NameL (l : List Nat) : Prop where
  hd : ∃ c t, l = c :: t ∧ isL c
  all : ∀ d ∈ l, isS d
  len : l.length ≤ 8
/-- a name a net may have -/
def NameOk (x : Str) : Prop := ∃ l, x = S l ∧ NameL l ∧ x ∉ resWords
theorem bar_ok {l : List Nat} (h : NameL l) : NameOk (barS (S l)) := by
  unfold barS
  split
  · rename_i m
    obtain ⟨m1, m2, m3⟩ := res_words _ m
    rw [seven, S_cat]
    refine ⟨l ++ [55], rfl, ⟨?_, ?_, ?_⟩, ?_⟩
    · obtain ⟨c, t, rfl, hc⟩ := h.hd
      exact ⟨c, t ++ [55], rfl, hc⟩
    · intro d hd
      rcases List.mem_append.mp hd with hd | hd
      · exact h.all d hd
      · rw [List.mem_singleton.mp hd]
        exact Or.inr (by decide)
    · have m2' : l.length ≤ 7 := m2
      rw [List.length_append, List.length_singleton]
      omega
    · intro m'
      refine (res_words _ m').2.2 ?_
      show (l ++ [55]).getLast? = some 55
      rw [List.getLast?_append]
      rfl
  · rename_i m
    exact ⟨l, rfl, h, m⟩
def tagL (pos : Nat) (l : List Nat) : Option Nat × Bool := (l[pos]?, decide (2 ≤ l.length))
theorem tag_bar {l : List Nat} {pos : Nat} (h : pos < l.length) : tagL pos (barS (S l)).cps.toList = tagL pos l := by
  unfold barS
  split
  · rename_i m
    obtain ⟨m1, m2, m3⟩ := res_words _ m
    have m1' : 2 ≤ l.length := m1
    rw [seven, S_cat]
    show tagL pos (l ++ [55]) = _
    unfold tagL
    rw [List.getElem?_append_left h, List.length_append, List.length_singleton, decide_eq_true m1', decide_eq_true (by omega)]
  · rfl
structure NmI (s0 : Bool) (pos : Nat) (L : List Nat) (xs : List (List Nat)) : Prop where
  nd : L.Nodup
  lt : ∀ c ∈ L, isL c
  ok : ∀ x ∈ xs, NameL x ∧ pos < x.length ∧ ((∀ c ∈ L, x[pos]? ≠ some c) ∨ (s0 = true ∧ x.length < 2))
  tag : (xs.map (tagL pos)).Nodup
theorem NmI.nil (s0 : Bool) (pos : Nat) : NmI s0 pos azL [] := ⟨az_nd, az_L, fun x h => absurd h (List.not_mem_nil), List.nodup_nil⟩
theorem map_nodup {α β : Type} {f : α → β} {l : List α} (hf : ∀ a b, a ∈ l → b ∈ l → f a = f b → a = b) (h : l.Nodup) : (l.map f).Nodup := by
  induction l with
  | nil => exact List.nodup_nil
  | cons a l ih =>
    obtain ⟨h1, h2⟩ := List.nodup_cons.mp h
    rw [List.map_cons, List.nodup_cons]
    refine ⟨fun m => ?_, ih (fun x y hx hy => hf x y (List.mem_cons_of_mem _ hx) (List.mem_cons_of_mem _ hy)) h2⟩
    obtain ⟨b, hb, e⟩ := List.mem_map.mp m
    have := hf b a (List.mem_cons_of_mem _ hb) List.mem_cons_self e
    rw [this] at hb
    exact h1 hb
theorem nodup_of_map {α β : Type} {f : α → β} {l : List α} (h : (l.map f).Nodup) : l.Nodup := by
  induction l with
  | nil => exact List.nodup_nil
  | cons a l ih =>
    rw [List.map_cons, List.nodup_cons] at h
    exact List.nodup_cons.mpr ⟨fun m => h.1 (List.mem_map_of_mem m), ih h.2⟩
theorem NmI.few {cs : List Nat} (hn : cs.Nodup) (hs : ∀ c ∈ cs, c ∈ fewL) : NmI true 0 azL (cs.map fun c => [c]) := by
  refine ⟨az_nd, az_L, fun x h => ?_, ?_⟩
  · obtain ⟨c, hc, rfl⟩ := List.mem_map.mp h
    have hl := few_L c (hs c hc)
    exact ⟨⟨⟨c, [], rfl, hl⟩, fun d hd => by rw [List.mem_singleton.mp hd]; exact hl.s, by show 1 ≤ 8; omega⟩, by show 0 < 1; omega, Or.inr ⟨rfl, by show 1 < 2; omega⟩⟩
  · rw [List.map_map]
    refine map_nodup (fun a b _ _ e => ?_) hn
    have e' : (some a, decide (2 ≤ 1)) = (some b, decide (2 ≤ 1)) := e
    exact Option.some.inj (Prod.mk.inj e').1
theorem NmI.step {s0 : Bool} {pos j c : Nat} {L : List Nat} {xs : List (List Nat)} {x : List Nat} (h : NmI s0 pos L xs) (hj : L[j]? = some c) (n : NameL x) (hp : x[pos]? = some c) (h2 : s0 = true → 2 ≤ x.length) : NmI s0 pos (L.eraseIdx j) (xs ++ [x]) := by
  have sub : ∀ d ∈ L.eraseIdx j, d ∈ L := fun d hd => List.mem_of_mem_eraseIdx hd
  have hjl : j < L.length := (List.getElem?_eq_some_iff.mp hj).1
  have hcj : L[j] = c := (List.getElem?_eq_some_iff.mp hj).2
  have pm := perm_erase hjl
  have nd2 : (L[j] :: L.eraseIdx j).Nodup := pm.nodup_iff.mpr h.nd
  have hc : c ∈ L := hcj ▸ List.getElem_mem hjl
  rw [hcj, List.nodup_cons] at nd2
  refine ⟨nd2.2, fun d hd => h.lt d (sub d hd), fun y hy => ?_, ?_⟩
  · rcases List.mem_append.mp hy with hy | hy
    · obtain ⟨a, b, d⟩ := h.ok y hy
      exact ⟨a, b, d.imp (fun q d hd => q d (sub d hd)) id⟩
    · rw [List.mem_singleton.mp hy]
      exact ⟨n, (List.getElem?_eq_some_iff.mp hp).1, Or.inl fun d hd e => by
        rw [hp] at e
        cases e
        exact nd2.1 hd⟩
  · rw [List.map_append, List.nodup_append]
    refine ⟨h.tag, List.nodup_cons.mpr ⟨(fun m => by cases m), List.nodup_nil⟩, fun a ha b hb e => ?_⟩
    obtain ⟨y, hy, rfl⟩ := List.mem_map.mp ha
    rw [List.map_cons, List.map_nil] at hb
    rw [List.mem_singleton.mp hb] at e
    obtain ⟨e1, e2⟩ := Prod.mk.inj e
    obtain ⟨_, _, d | ⟨d1, d2⟩⟩ := h.ok y hy
    · exact d c hc (by rw [e1, hp])
    · have := h2 d1
      have e2' := decide_eq_decide.mp e2
      omega
def Names (n : Nat) (xs : List Str) : Prop := xs.length = n ∧ xs.Nodup ∧ ∀ x ∈ xs, NameOk x
theorem NmI.fin {s0 : Bool} {pos : Nat} {L : List Nat} {xs : List (List Nat)} (h : NmI s0 pos L xs) : Names xs.length (xs.map fun l => barS (S l)) := by
  refine ⟨List.length_map _, ?_, fun x hx => ?_⟩
  · refine nodup_of_map (f := fun x : Str => tagL pos x.cps.toList) ?_
    rw [List.map_map]
    have e : xs.map ((fun x : Str => tagL pos x.cps.toList) ∘ fun l => barS (S l)) = xs.map (tagL pos) := List.map_congr_left fun l hl => tag_bar (h.ok l hl).2.1
    rw [e]
    exact h.tag
  · obtain ⟨l, hl, rfl⟩ := List.mem_map.mp hx
    exact bar_ok (h.ok l hl).1
theorem vs1_erase : ∀ (L : List Nat) (j : Nat), (vs1 L).eraseIdx j = vs1 (L.eraseIdx j)
  | [], _ => rfl
  | _ :: _, 0 => rfl
  | a :: L, j + 1 => congrArg (V.str (S [a]) :: ·) (vs1_erase L j)
abbrev vsS (xs : List (List Nat)) : List V := xs.map fun l => V.str (S l)
theorem nb_vsS (cs : List (List Nat)) : nb (vsS cs) := Or.inl fun a h => by
  obtain ⟨_, _, e⟩ := List.mem_map.mp h
  cases e
theorem vs1_S (cs : List Nat) : vs1 cs = vsS (cs.map fun c => [c]) := by
  unfold vs1 vsS
  rw [List.map_map]
  rfl
theorem cutV_take (xs : List V) (n : Nat) : cutV xs none (some (n : Int)) = xs.take n := by
  unfold cutV
  rw [HT.sIx_none, HT.sIx_nat, List.drop_zero, Nat.sub_zero, List.take_eq_take_iff]
  omega
theorem cutV_drop (xs : List V) (n : Nat) : cutV xs (some (n : Int)) none = xs.drop n := by
  unfold cutV
  rw [HT.sIx_none, HT.sIx_nat]
  refine (List.take_of_length_le (by rw [List.length_drop]; omega)).trans ?_
  by_cases h : n ≤ xs.length
  · rw [Nat.min_eq_left h]
  · rw [Nat.min_eq_right (by omega), List.drop_of_length_le (Nat.le_refl _), List.drop_of_length_le (by omega)]
theorem perm_map_inv {α β : Type} {f : α → β} {ys zs : List β} (h : ys.Perm zs) : ∀ {l : List α}, zs = l.map f → ∃ l' : List α, ys = l'.map f ∧ l'.Perm l := by
  induction h with
  | nil => exact fun {l} e => ⟨l, e, .refl _⟩
  | cons x _ ih =>
    intro l e
    cases l with
    | nil => cases e
    | cons a l =>
      rw [List.map_cons, List.cons.injEq] at e
      obtain ⟨l', e1, p⟩ := ih e.2
      exact ⟨a :: l', by rw [e1, e.1]; rfl, p.cons a⟩
  | swap x y r =>
    intro l e
    cases l with
    | nil => cases e
    | cons a l =>
      cases l with
      | nil => cases e
      | cons b l =>
        rw [List.map_cons, List.map_cons, List.cons.injEq, List.cons.injEq] at e
        exact ⟨b :: a :: l, by rw [e.1, e.2.1, e.2.2]; rfl, .swap a b l⟩
  | trans _ _ ih1 ih2 =>
    intro l e
    obtain ⟨l1, e1, p1⟩ := ih2 e
    obtain ⟨l2, e2, p2⟩ := ih1 e1
    exact ⟨l2, e2, p2.trans p1⟩
theorem joinL_ones : ∀ cs : List Nat, TL.joinL [] (cs.map fun c => [c]) = cs
  | [] => rfl
  | [c] => rfl
  | c :: d :: cs => by
    have ih := joinL_ones (d :: cs)
    rw [List.map_cons] at ih
    rw [List.map_cons, List.map_cons]
    show [c] ++ [] ++ TL.joinL [] ([d] :: cs.map fun c => [c]) = _
    rw [ih]
    rfl
theorem join_ones (cs : List Nat) : Txt.join ("" : Str) (cs.map fun c => S [c]) = S cs := by
  have := join_S [] (cs.map fun c => [c])
  rw [List.map_map, joinL_ones] at this
  exact this
theorem sum_ones (cs : List Nat) : ((cs.map fun c => S [c]).map (·.length)).sum = cs.length := by
  induction cs with
  | nil => rfl
  | cons c cs ih =>
    rw [List.map_cons, List.map_cons, List.sum_cons, ih, List.length_cons]
    show 1 + _ = _
    omega
theorem strs_vs1 {H : Hp} {D : Addr} {cs : List Nat} (h : H D = some (.lst (vs1 cs))) : H D = some (.lst ((cs.map fun c => S [c]).map V.str)) := by
  rw [h, List.map_map]
  rfl
theorem sum_le {cs : List Nat} (h : cs.length ≤ 100) : ((cs.map fun c => S [c]).map (·.length)).sum + (cs.map fun c => S [c]).length * ("" : Str).length ≤ 16777216 := by
  rw [sum_ones, List.length_map]
  show cs.length + cs.length * 0 ≤ _
  omega
theorem NameL.mk1 {c : Nat} {cs : List Nat} (h : isL c) (hs : ∀ d ∈ cs, isS d) (hl : cs.length ≤ 7) : NameL (c :: cs) := ⟨⟨c, cs, rfl, h⟩, fun d hd => by
  rcases List.mem_cons.mp hd with rfl | hd
  · exact h.s
  · exact hs d hd, by rw [List.length_cons]; omega⟩
theorem NameL.mid {st : List Nat} {c : Nat} {p : Nat} (h : isL c) (n : NameL st) (hl : st.length ≤ 7) : NameL (st.take p ++ [c] ++ st.drop p) := by
  refine ⟨?_, fun d hd => ?_, ?_⟩
  · obtain ⟨a, t, rfl, ha⟩ := n.hd
    cases p with
    | zero => exact ⟨c, a :: t, rfl, h⟩
    | succ p => exact ⟨a, t.take p ++ [c] ++ t.drop p, rfl, ha⟩
  · rcases List.mem_append.mp hd with hd | hd
    · rcases List.mem_append.mp hd with hd | hd
      · exact n.all d (List.mem_of_mem_take hd)
      · rw [List.mem_singleton.mp hd]
        exact h.s
    · exact n.all d (List.mem_of_mem_drop hd)
  · rw [List.length_append, List.length_append, List.length_take, List.length_drop, List.length_singleton]
    omega
theorem mid_at {st : List Nat} {c p : Nat} (h : p ≤ st.length) : (st.take p ++ [c] ++ st.drop p)[p]? = some c := by
  have e : (st.take p).length = p := by rw [List.length_take]; omega
  rw [List.append_assoc, List.getElem?_append_right (by omega), e, Nat.sub_self]
  rfl
end Y

/-! cycles of a map that is one to one on a list; the rows a walk of them yields -/
namespace Y
section
variable {α : Type} {f : α → α} {S : List α} {s t : α}
structure OneOne (f : α → α) (S : List α) : Prop where
  cl : ∀ s ∈ S, f s ∈ S
  inj : ∀ s ∈ S, ∀ t ∈ S, f s = f t → s = t
def it (f : α → α) (s : α) : Nat → α
  | 0 => s
  | i + 1 => f (it f s i)
theorem OneOne.mem (h : OneOne f S) (hs : s ∈ S) : ∀ i, it f s i ∈ S
  | 0 => hs
  | i + 1 => h.cl _ (h.mem hs i)
theorem OneOne.back (h : OneOne f S) (hs : s ∈ S) : ∀ {j i : Nat}, j ≤ i → it f s i = it f s j → it f s (i - j) = s
  | 0, _, _, e => e
  | j + 1, 0, l, _ => absurd l (Nat.not_succ_le_zero _)
  | j + 1, i + 1, l, e => by
    have := h.back hs (Nat.le_of_succ_le_succ l) (h.inj _ (h.mem hs i) _ (h.mem hs j) e)
    rw [Nat.succ_sub_succ]
    exact this
def rowN (f : α → α) (s : α) (n : Nat) : List α := (List.range n).map (it f s)
theorem rowN_succ (n : Nat) : rowN f s (n + 1) = rowN f s n ++ [it f s n] := by
  unfold rowN
  rw [List.range_succ, List.map_append]
  rfl
theorem rowN_len (n : Nat) : (rowN f s n).length = n := by
  unfold rowN
  rw [List.length_map, List.length_range]
theorem mem_rowN {n : Nat} {x : α} : x ∈ rowN f s n ↔ ∃ i, i < n ∧ it f s i = x := by
  unfold rowN
  rw [List.mem_map]
  exact ⟨fun ⟨i, h, e⟩ => ⟨i, List.mem_range.mp h, e⟩, fun ⟨i, h, e⟩ => ⟨i, List.mem_range.mpr h, e⟩⟩
/-- s is not met again before n -/
def Fresh (f : α → α) (s : α) (n : Nat) : Prop := ∀ i, 0 < i → i < n → it f s i ≠ s
theorem Fresh.nodup [DecidableEq α] (h : OneOne f S) (hs : s ∈ S) {n : Nat} (fr : Fresh f s n) : (rowN f s n).Nodup := by
  unfold rowN
  refine map_nodup (fun a b ha hb e => ?_) List.nodup_range
  have ha' := List.mem_range.mp ha
  have hb' := List.mem_range.mp hb
  rcases Nat.lt_trichotomy a b with l | l | l
  · exact absurd (h.back hs (Nat.le_of_lt l) e.symm) (fr _ (by omega) (by omega))
  · exact l
  · exact absurd (h.back hs (Nat.le_of_lt l) e) (fr _ (by omega) (by omega))
theorem Fresh.le [DecidableEq α] (h : OneOne f S) (hs : s ∈ S) {n : Nat} (fr : Fresh f s n) : n ≤ S.length := by
  have := nodup_sub (fr.nodup h hs) (D := S) fun x hx => by
    obtain ⟨i, _, rfl⟩ := mem_rowN.mp hx
    exact h.mem hs i
  rw [rowN_len] at this
  exact this
def IsCyc (f : α → α) (s : α) (row : List α) : Prop := ∃ n, 0 < n ∧ row = rowN f s n ∧ it f s n = s ∧ Fresh f s n
theorem IsCyc.uniq {r1 r2 : List α} (h1 : IsCyc f s r1) (h2 : IsCyc f s r2) : r1 = r2 := by
  obtain ⟨n, n0, rfl, e1, f1⟩ := h1
  obtain ⟨m, m0, rfl, e2, f2⟩ := h2
  rcases Nat.lt_trichotomy n m with l | l | l
  · exact absurd e1 (f2 n n0 l)
  · rw [l]
  · exact absurd e2 (f1 m m0 l)
/-- the rows of the steps done (the last first) -/
def Rows (f : α → α) : List α → List (List α) → Prop
  | [], rows => rows = []
  | s :: done, rows => ∃ r0, Rows f done r0 ∧ ((s ∈ r0.flatten ∧ rows = r0) ∨ (s ∉ r0.flatten ∧ ∃ row, IsCyc f s row ∧ rows = r0 ++ [row]))
theorem Rows.uniq : ∀ {done : List α} {r1 r2 : List (List α)}, Rows f done r1 → Rows f done r2 → r1 = r2
  | [], _, _, h1, h2 => h1.trans h2.symm
  | s :: done, r1, r2, ⟨a, ha, h1⟩, ⟨b, hb, h2⟩ => by
    obtain rfl := Rows.uniq ha hb
    rcases h1 with ⟨m1, e1⟩ | ⟨m1, w1, c1, e1⟩
    · rcases h2 with ⟨_, e2⟩ | ⟨m2, _⟩
      · rw [e1, e2]
      · exact absurd m1 m2
    · rcases h2 with ⟨m2, _⟩ | ⟨_, w2, c2, e2⟩
      · exact absurd m2 m1
      · rw [e1, e2, c1.uniq c2]
theorem Rows.skip {done : List α} {rows : List (List α)} (h : Rows f done rows) (m : s ∈ rows.flatten) : Rows f (s :: done) rows := ⟨rows, h, Or.inl ⟨m, rfl⟩⟩
theorem Rows.take {done : List α} {rows : List (List α)} {row : List α} (h : Rows f done rows) (m : s ∉ rows.flatten) (c : IsCyc f s row) : Rows f (s :: done) (rows ++ [row]) := ⟨rows, h, Or.inr ⟨m, row, c, rfl⟩⟩
/-- every row is a cycle of a step done -/
theorem Rows.cyc : ∀ {done : List α} {rows : List (List α)}, Rows f done rows → ∀ row ∈ rows, ∃ s ∈ done, IsCyc f s row
  | [], _, h, row, hr => by rw [show _ = [] from h] at hr; cases hr
  | s :: done, rows, ⟨a, ha, h⟩, row, hr => by
    rcases h with ⟨_, rfl⟩ | ⟨_, w, c, rfl⟩
    · obtain ⟨t, ht, ct⟩ := Rows.cyc ha row hr
      exact ⟨t, List.mem_cons_of_mem _ ht, ct⟩
    · rcases List.mem_append.mp hr with hr | hr
      · obtain ⟨t, ht, ct⟩ := Rows.cyc ha row hr
        exact ⟨t, List.mem_cons_of_mem _ ht, ct⟩
      · rw [List.mem_singleton.mp hr]
        exact ⟨s, List.mem_cons_self, c⟩
theorem Rows.len : ∀ {done : List α} {rows : List (List α)}, Rows f done rows → rows.length ≤ done.length
  | [], _, h => by rw [show _ = [] from h]; exact Nat.le_refl _
  | s :: done, rows, ⟨a, ha, h⟩ => by
    have ih := Rows.len ha
    rcases h with ⟨_, rfl⟩ | ⟨_, w, c, rfl⟩
    · rw [List.length_cons]; omega
    · rw [List.length_append, List.length_singleton, List.length_cons]; omega
theorem Rows.sub (o : OneOne f S) {done : List α} {rows : List (List α)} (h : Rows f done rows) (hd : ∀ s ∈ done, s ∈ S) : ∀ x ∈ rows.flatten, x ∈ S := by
  intro x hx
  obtain ⟨row, hr, hx⟩ := List.mem_flatten.mp hx
  obtain ⟨s, hs, n, _, rfl, _⟩ := h.cyc row hr
  obtain ⟨i, _, rfl⟩ := mem_rowN.mp hx
  exact o.mem (hd s hs) i
/-- what leads into a row is of it -/
theorem Rows.pred (o : OneOne f S) {done : List α} {rows : List (List α)} (h : Rows f done rows) (hd : ∀ s ∈ done, s ∈ S) (ht : t ∈ S) (m : f t ∈ rows.flatten) : t ∈ rows.flatten := by
  obtain ⟨row, hr, hx⟩ := List.mem_flatten.mp m
  obtain ⟨s, hs, n, n0, rfl, en, _⟩ := h.cyc row hr
  obtain ⟨i, hi, e⟩ := mem_rowN.mp hx
  refine List.mem_flatten.mpr ⟨_, hr, ?_⟩
  cases i with
  | succ i =>
    have := o.inj _ (o.mem (hd s hs) i) _ ht e
    exact mem_rowN.mpr ⟨i, by omega, this⟩
  | zero =>
    obtain ⟨k, rfl⟩ : ∃ k, n = k + 1 := ⟨n - 1, by omega⟩
    have e' : f (it f s k) = f t := en.trans e
    have := o.inj _ (o.mem (hd s hs) k) _ ht e'
    exact mem_rowN.mpr ⟨k, by omega, this⟩
theorem Rows.first (o : OneOne f S) {done : List α} {rows : List (List α)} (h : Rows f done rows) (hd : ∀ s ∈ done, s ∈ S) (hs : s ∈ S) : ∀ {i : Nat}, it f s i ∈ rows.flatten → s ∈ rows.flatten
  | 0, m => m
  | i + 1, m => h.first o hd hs (h.pred o hd (o.mem hs i) m)
/-- the walk from s stops where it meets: it is back at s -/
theorem Rows.stop (o : OneOne f S) {done : List α} {rows : List (List α)} (h : Rows f done rows) (hd : ∀ s ∈ done, s ∈ S) (hs : s ∈ S) (hn : s ∉ rows.flatten) {i : Nat} (fr : Fresh f s i) (m : it f s i ∈ rows.flatten ++ rowN f s i) : IsCyc f s (rowN f s i) := by
  rcases List.mem_append.mp m with m | m
  · exact absurd (h.first o hd hs m) hn
  · obtain ⟨j, hj, e⟩ := mem_rowN.mp m
    have b := o.back hs (Nat.le_of_lt hj) e.symm
    cases j with
    | zero => exact ⟨i, hj, rfl, b, fr⟩
    | succ j => exact absurd b (fr _ (by omega) (by omega))
theorem Fresh.succ {n : Nat} (fr : Fresh f s n) (h : it f s n ≠ s) : Fresh f s (n + 1) := fun i i0 hi => by
  by_cases e : i = n
  · rw [e]; exact h
  · exact fr i i0 (by omega)
theorem Fresh.zero : Fresh f s 0 := fun i _ hi => absurd hi (Nat.not_lt_zero _)
theorem Fresh.one : Fresh f s 1 := fun i i0 hi => by omega
theorem flatten_snoc (rows : List (List α)) (row : List α) : (rows ++ [row]).flatten = rows.flatten ++ row := by
  rw [List.flatten_append]
  simp
theorem Rows.nodup [DecidableEq α] (o : OneOne f S) : ∀ {done : List α} {rows : List (List α)}, Rows f done rows → (∀ s ∈ done, s ∈ S) → rows.flatten.Nodup
  | [], _, h, _ => by rw [show _ = [] from h]; exact List.nodup_nil
  | s :: done, rows, ⟨a, ha, h⟩, hd => by
    have hd' : ∀ s ∈ done, s ∈ S := fun t ht => hd t (List.mem_cons_of_mem _ ht)
    have ih := Rows.nodup o ha hd'
    rcases h with ⟨_, rfl⟩ | ⟨m, w, c, rfl⟩
    · exact ih
    · have hs := hd s List.mem_cons_self
      obtain ⟨n, n0, rfl, en, fr⟩ := c
      rw [flatten_snoc, List.nodup_append]
      refine ⟨ih, fr.nodup o hs, fun x hx y hy e => ?_⟩
      obtain ⟨i, _, rfl⟩ := mem_rowN.mp hy
      rw [e] at hx
      exact m (ha.first o hd' hs hx)
end
end Y

/-! wheels: rings of keys by keys, their steps, the step behind a step -/
namespace Y
open PySem PySem.Spec PyProof.Rows L2
abbrev Stp := Key × Key
abbrev skp (s : Stp) : List Key := [s.1, s.2]
abbrev Whl := List (Key × List Key)
def stepsU (u : Key) (r : List Key) : List Stp := r.map fun v => (u, v)
def stepsW (W : Whl) : List Stp := W.flatMap fun ur => stepsU ur.1 ur.2
def rgW (W : Whl) (v : Key) : List Key := ((W.find? fun ur => decide (ur.1 = v)).map (·.2)).getD []
def ixK : List Key → Key → Nat
  | [], _ => 0
  | y :: r, x => if y = x then 0 else ixK r x + 1
def sucK (r : List Key) (x : Key) : Key := r.getD ((ixK r x + 1) % r.length) x
def nextW (W : Whl) (s : Stp) : Stp := (s.2, sucK (rgW W s.2) s.1)
structure Good (W : Whl) : Prop where
  nd : (W.map (·.1)).Nodup
  rn : ∀ ur ∈ W, ur.2.Nodup
  sym : ∀ u v, (u, v) ∈ stepsW W → (v, u) ∈ stepsW W
  ne : ∀ u v, (u, v) ∈ stepsW W → u ≠ v
theorem skp_inj {s t : Stp} (h : skp s = skp t) : s = t := by
  obtain ⟨a, b⟩ := s
  obtain ⟨c, d⟩ := t
  have h' : [a, b] = [c, d] := h
  injection h' with h1 h2
  injection h2 with h2 _
  rw [h1, h2]
theorem mem_stepsU {u v x : Key} {r : List Key} : (x, v) ∈ stepsU u r ↔ x = u ∧ v ∈ r := by
  unfold stepsU
  rw [List.mem_map]
  constructor
  · rintro ⟨w, hw, e⟩
    cases e
    exact ⟨rfl, hw⟩
  · rintro ⟨rfl, h⟩
    exact ⟨v, h, rfl⟩
theorem mem_steps {W : Whl} {u v : Key} : (u, v) ∈ stepsW W ↔ ∃ r, (u, r) ∈ W ∧ v ∈ r := by
  unfold stepsW
  rw [List.mem_flatMap]
  constructor
  · rintro ⟨⟨a, r⟩, h, m⟩
    obtain ⟨rfl, hv⟩ := mem_stepsU.mp m
    exact ⟨r, h, hv⟩
  · rintro ⟨r, h, hv⟩
    exact ⟨(u, r), h, mem_stepsU.mpr ⟨rfl, hv⟩⟩
theorem find_nd {β : Type} : ∀ {W : List (Key × β)} {v : Key} {r : β}, (W.map (·.1)).Nodup → (v, r) ∈ W → W.find? (fun ur => decide (ur.1 = v)) = some (v, r)
  | (a, s) :: W, v, r, nd, h => by
    rw [List.map_cons, List.nodup_cons] at nd
    rw [List.find?_cons]
    rcases List.mem_cons.mp h with e | h
    · cases e
      simp
    · have ne : ¬ a = v := fun e => nd.1 (by
        show a ∈ _
        rw [e]
        exact List.mem_map.mpr ⟨(v, r), h, rfl⟩)
      rw [show decide ((a, s).1 = v) = false from decide_eq_false ne]
      exact find_nd nd.2 h
theorem rgW_of {W : Whl} {v : Key} {r : List Key} (nd : (W.map (·.1)).Nodup) (h : (v, r) ∈ W) : rgW W v = r := by
  unfold rgW
  rw [find_nd nd h]
  rfl
theorem valV_of {kvs : List (Key × V)} {v : Key} {r : V} (nd : (kvs.map (·.1)).Nodup) (h : (v, r) ∈ kvs) : valV kvs v = some r := by
  unfold valV
  rw [find_nd nd h]
  rfl
theorem valV_no {κ : Type} [DecidableEq κ] {kvs : List (κ × V)} {v : κ} (h : v ∉ kvs.map (·.1)) : valV kvs v = none := by
  unfold valV
  rw [List.find?_eq_none.mpr]
  · rfl
  · intro x hx e
    exact h (by rw [← of_decide_eq_true e]; exact List.mem_map_of_mem hx)
theorem nd_take {α : Type} {xs : List α} {i : Nat} {x : α} (nd : xs.Nodup) (h : xs[i]? = some x) : x ∉ xs.take i := by
  have nd1 : (xs.take (i + 1)).Nodup := nd.sublist (List.take_sublist _ _)
  rw [take_snoc h, List.nodup_append] at nd1
  exact fun m => nd1.2.2 x m x List.mem_cons_self rfl
theorem idx_nd : ∀ {r : List Key} {k : Nat} {x : Key}, r.Nodup → r[k]? = some x → ixK r x = k
  | [], k, x, _, h => by simp at h
  | y :: r, 0, x, _, h => by
    simp at h
    rw [ixK, if_pos h]
  | y :: r, k + 1, x, nd, h => by
    have h' : r[k]? = some x := by simpa using h
    obtain ⟨n1, n2⟩ := List.nodup_cons.mp nd
    have ne : ¬ y = x := fun e => n1 (by rw [e]; exact List.mem_of_getElem? h')
    rw [ixK, if_neg ne, idx_nd n2 h']
theorem sucK_at {r : List Key} {k : Nat} {x y : Key} (nd : r.Nodup) (h : r[k]? = some x) (hy : r[(k + 1) % r.length]? = some y) : sucK r x = y := by
  unfold sucK
  rw [idx_nd nd h, List.getD_eq_getElem?_getD, hy]
  rfl
theorem next_at {W : Whl} (g : Good W) {v x y : Key} {r : List Key} {k : Nat} (h : (v, r) ∈ W) (hx : r[k]? = some x) (hy : r[(k + 1) % r.length]? = some y) : nextW W (x, v) = (v, y) := by
  unfold nextW
  rw [show ((x, v) : Stp).2 = v from rfl, rgW_of g.nd h, show ((x, v) : Stp).1 = x from rfl, sucK_at (g.rn _ h) hx hy]
theorem ring_of {W : Whl} (g : Good W) {u v : Key} (h : (u, v) ∈ stepsW W) : ∃ (r : List Key) (k : Nat), (v, r) ∈ W ∧ r[k]? = some u := by
  obtain ⟨r, hr, hu⟩ := mem_steps.mp (g.sym _ _ h)
  obtain ⟨k, hk⟩ := List.getElem?_of_mem hu
  exact ⟨r, k, hr, hk⟩
theorem suc_ex {r : List Key} {k : Nat} {x : Key} (h : r[k]? = some x) : ∃ y, r[(k + 1) % r.length]? = some y := by
  obtain ⟨hk, _⟩ := List.getElem?_eq_some_iff.mp h
  have : (k + 1) % r.length < r.length := Nat.mod_lt _ (by omega)
  exact ⟨_, List.getElem?_eq_getElem this⟩
theorem succ_mod {a b n : Nat} (ha : a < n) (hb : b < n) (h : (a + 1) % n = (b + 1) % n) : a = b := by
  by_cases ea : a + 1 = n
  · by_cases eb : b + 1 = n
    · omega
    · rw [ea, Nat.mod_self, Nat.mod_eq_of_lt (by omega)] at h
      omega
  · by_cases eb : b + 1 = n
    · rw [eb, Nat.mod_self, Nat.mod_eq_of_lt (by omega)] at h
      omega
    · rw [Nat.mod_eq_of_lt (by omega), Nat.mod_eq_of_lt (by omega)] at h
      omega
theorem Good.one {W : Whl} (g : Good W) : OneOne (nextW W) (stepsW W) := by
  refine ⟨fun s hs => ?_, fun s hs t ht e => ?_⟩
  · obtain ⟨x, v⟩ := s
    obtain ⟨r, k, hr, hk⟩ := ring_of g hs
    obtain ⟨y, hy⟩ := suc_ex hk
    rw [next_at g hr hk hy]
    exact mem_steps.mpr ⟨r, hr, List.mem_of_getElem? hy⟩
  · obtain ⟨x, v⟩ := s
    obtain ⟨x', v'⟩ := t
    obtain rfl : v = v' := congrArg Prod.fst e
    obtain ⟨r, k, hr, hk⟩ := ring_of g hs
    obtain ⟨r', k', hr', hk'⟩ := ring_of g ht
    obtain rfl : r = r' := (rgW_of g.nd hr).symm.trans (rgW_of g.nd hr')
    obtain ⟨y, hy⟩ := suc_ex hk
    obtain ⟨y', hy'⟩ := suc_ex hk'
    rw [next_at g hr hk hy, next_at g hr hk' hy'] at e
    obtain rfl : y = y' := congrArg Prod.snd e
    obtain ⟨l1, e1⟩ := List.getElem?_eq_some_iff.mp hk
    obtain ⟨l2, e2⟩ := List.getElem?_eq_some_iff.mp hk'
    obtain ⟨l3, e3⟩ := List.getElem?_eq_some_iff.mp hy
    obtain ⟨l4, e4⟩ := List.getElem?_eq_some_iff.mp hy'
    have := succ_mod l1 l2 ((idx_nd (g.rn _ hr) hy).symm.trans (idx_nd (g.rn _ hr) hy'))
    subst this
    rw [hk] at hk'
    cases hk'
    rfl
/-! ### in the heap -/
abbrev RgP (H : Hp) : Key × V → Key × List Key → Prop := fun kv ur => kv.1 = ur.1 ∧ ∃ a, kv.2 = .ref a ∧ H a = some (.lst (ur.2.map kV))
abbrev RgQ (H : Hp) : Key × V → Key × List Key → Prop := fun kv ur => kv.1 = ur.1 ∧ ∃ a, kv.2 = .ref a ∧ (H a = some (.lst (ur.2.map kV)) ∨ H a = some (.tup (ur.2.map kV)))
/-- a wheel whose rings are lists; lists or tuples -/
def WhAt (H : Hp) (d : Addr) (W : Whl) : Prop := ∃ kvs, H d = some (.dK kvs) ∧ Paired (RgP H) kvs W
def WqAt (H : Hp) (d : Addr) (W : Whl) : Prop := ∃ kvs, H d = some (.dK kvs) ∧ Paired (RgQ H) kvs W
theorem WhAt.q {H : Hp} {d : Addr} {W : Whl} (h : WhAt H d W) : WqAt H d W := by
  obtain ⟨kvs, h1, h2⟩ := h
  exact ⟨kvs, h1, Paired.mapP h2 fun a b ⟨e, q, e1, e2⟩ => ⟨e, q, e1, .inl e2⟩⟩
theorem paired_at {α β : Type} {R : α → β → Prop} : ∀ {as : List α} {bs : List β} {i : Nat} {a : α}, Paired R as bs → as[i]? = some a → ∃ b, bs[i]? = some b ∧ R a b
  | _, _, _, _, .nil, e => by simp at e
  | _, _, 0, _, .cons r _, e => by simp at e; subst e; exact ⟨_, rfl, r⟩
  | _, _, i + 1, _, .cons _ t, e => paired_at (i := i) t (by simpa using e)
theorem paired_of {α β : Type} {R : α → β → Prop} : ∀ {as : List α} {bs : List β} {i : Nat} {b : β}, Paired R as bs → bs[i]? = some b → ∃ a, as[i]? = some a ∧ R a b
  | _, _, _, _, .nil, e => by simp at e
  | _, _, 0, _, .cons r _, e => by simp at e; subst e; exact ⟨_, rfl, r⟩
  | _, _, i + 1, _, .cons _ t, e => paired_of (i := i) t (by simpa using e)
theorem paired_mem {α β : Type} {R : α → β → Prop} {as : List α} {bs : List β} {b : β} (h : Paired R as bs) (m : b ∈ bs) : ∃ a, a ∈ as ∧ R a b := by
  obtain ⟨i, hi⟩ := List.getElem?_of_mem m
  obtain ⟨a, ha, r⟩ := paired_of h hi
  exact ⟨a, List.mem_of_getElem? ha, r⟩
theorem paired_snoc {α β : Type} {R : α → β → Prop} {a : α} {b : β} (e : R a b) : ∀ {as : List α} {bs : List β}, Paired R as bs → Paired R (as ++ [a]) (bs ++ [b])
  | _, _, .nil => .cons e .nil
  | _, _, .cons r t => .cons r (paired_snoc e t)
theorem paired_map {α β : Type} {R R' : α → β → Prop} : ∀ {as : List α} {bs : List β}, Paired R as bs → (∀ a b, a ∈ as → R a b → R' a b) → Paired R' as bs
  | _, _, .nil, _ => .nil
  | _, _, .cons r t, h => .cons (h _ _ List.mem_cons_self r) (paired_map t fun a b m => h a b (List.mem_cons_of_mem _ m))
theorem rgq_keys {H : Hp} : ∀ {kvs : List (Key × V)} {W : Whl}, Paired (RgQ H) kvs W → kvs.map (·.1) = W.map (·.1)
  | _, _, .nil => rfl
  | _, _, .cons r t => by rw [List.map_cons, List.map_cons, r.1, rgq_keys t]
theorem rgp_keys {H : Hp} : ∀ {kvs : List (Key × V)} {W : Whl}, Paired (RgP H) kvs W → kvs.map (·.1) = W.map (·.1)
  | _, _, .nil => rfl
  | _, _, .cons r t => by rw [List.map_cons, List.map_cons, r.1, rgp_keys t]
theorem nb_keys (l : List Key) : nb (l.map kV) := Or.inl fun a h => by
  obtain ⟨k, _, e⟩ := List.mem_map.mp h
  cases k <;> cases e
theorem RgP.kp {H H' : Hp} (k : Kp H H') {a : Key × V} {b : Key × List Key} (h : RgP H a b) : RgP H' a b := by
  obtain ⟨e, z, e1, e2⟩ := h
  exact ⟨e, z, e1, k.keep _ _ e2 (nb_keys _).bag⟩
theorem WhAt.kp {H H' : Hp} (k : Kp H H') {d : Addr} {W : Whl} (h : WhAt H d W) : WhAt H' d W := by
  obtain ⟨kvs, h1, h2⟩ := h
  exact ⟨kvs, k.keep _ _ h1 rfl, Paired.mapP h2 fun a b r => r.kp k⟩
theorem RgP.add {H : Hp} {t : Addr} {ks : List (Key × V)} {W : Whl} {k : Key} {l : Addr} {r : List Key} {o : HO} (ht : H t = some (.dK ks)) (hp : Paired (RgP H) ks W) (hl : H l = some (.lst (r.map kV))) : Paired (RgP (upd H t o)) (ks ++ [(k, V.ref l)]) (W ++ [(k, r)]) := by
  have F : ∀ a xs, H a = some (.lst xs) → upd H t o a = some (.lst xs) := fun a xs h => by
    rw [upd_ne (ne_of h ht (by intro q; cases q))]
    exact h
  exact paired_snoc ⟨rfl, l, rfl, F _ _ hl⟩ (Paired.mapP hp fun a b ⟨e, z, e1, e2⟩ => ⟨e, z, e1, F _ _ e2⟩)
/-- rows: a list of lists of pairs of keys -/
abbrev RowP (H : Hp) : Addr → List Stp → Prop := fun a row => ∃ ts, H a = some (.lst (ts.map V.ref)) ∧ Tups H ts (row.map skp)
def RowsAt (H : Hp) (p : Addr) (rows : List (List Stp)) : Prop := ∃ as, H p = some (.lst (as.map V.ref)) ∧ Paired (RowP H) as rows
theorem RowP.same {H H' : Hp} (s : Same H H') {a : Addr} {row : List Stp} (h : RowP H a row) : RowP H' a row := by
  obtain ⟨ts, h1, h2⟩ := h
  exact ⟨ts, s _ _ h1, h2.mono fun a xs e => s _ _ e⟩
theorem RowP.kp {H H' : Hp} (k : Kp H H') {a : Addr} {row : List Stp} (h : RowP H a row) : RowP H' a row := by
  obtain ⟨ts, h1, h2⟩ := h
  exact ⟨ts, k.keep _ _ h1 (nb_refs _).bag, h2.mono fun a xs e => k.keep _ _ e rfl⟩
theorem RowsAt.same {H H' : Hp} (s : Same H H') {p : Addr} {rows : List (List Stp)} (h : RowsAt H p rows) : RowsAt H' p rows := by
  obtain ⟨as, h1, h2⟩ := h
  exact ⟨as, s _ _ h1, Paired.mapP h2 fun a b r => r.same s⟩
def pidx (r : List Key) (k : Nat) : Nat := if k = 0 then r.length - 1 else k - 1
theorem pidx_lt {r : List Key} {k : Nat} (h : k < r.length) : pidx r k < r.length := by
  unfold pidx
  split <;> omega
theorem pidx_suc {r : List Key} {k : Nat} (h : k < r.length) : (pidx r k + 1) % r.length = k := by
  unfold pidx
  split
  · rw [show r.length - 1 + 1 = r.length by omega, Nat.mod_self]
    omega
  · rw [show k - 1 + 1 = k by omega, Nat.mod_eq_of_lt h]
theorem pidx_ex {r : List Key} {j : Nat} (h : j < r.length) : ∃ k, k < r.length ∧ pidx r k = j := by
  by_cases e : j + 1 = r.length
  · exact ⟨0, by omega, by unfold pidx; rw [if_pos rfl]; omega⟩
  · exact ⟨j + 1, by omega, by unfold pidx; rw [if_neg (by omega)]; omega⟩
theorem at_pred {r : List Key} {k : Nat} {x : Key} (h : k < r.length) (hx : r[pidx r k]? = some x) : atI (r.map kV) ((k : Int) - 1) = some (kV x) := by
  by_cases e : k = 0
  · subst e
    have hx' : r[r.length - 1]? = some x := hx
    obtain ⟨l, rfl⟩ : ∃ l, r = l ++ [x] := by
      rcases List.eq_nil_or_concat r with rfl | ⟨l, y, rfl⟩
      · simp at h
      · refine ⟨l, ?_⟩
        rw [List.concat_eq_append] at hx' ⊢
        simp at hx'
        rw [hx']
    rw [List.map_append]
    exact atI_last _ _
  · have hx' : r[k - 1]? = some x := by unfold pidx at hx; rw [if_neg e] at hx; exact hx
    rw [show ((k : Int) - 1) = ((k - 1 : Nat) : Int) by omega]
    exact atI_nat (by rw [List.getElem?_map, hx']; rfl)
/-- the dict of the steps behind: right at the steps of D -/
def Beh (H : Hp) (W : Whl) (bk : List (List Key × V)) (D : Stp → Prop) : Prop := ∀ s, D s → ∃ q, valV bk (skp s) = some (.ref q) ∧ H q = some (.tup ((skp (nextW W s)).map kV))
theorem Beh.mono {H H' : Hp} {W : Whl} {bk : List (List Key × V)} {D D' : Stp → Prop} (h : Beh H W bk D) (s : ∀ a xs, H a = some (.tup xs) → H' a = some (.tup xs)) (hd : ∀ s, D' s → D s) : Beh H' W bk D' := fun x hx => by
  obtain ⟨q, h1, h2⟩ := h x (hd x hx)
  exact ⟨q, h1, s _ _ h2⟩
theorem Beh.put {H : Hp} {W : Whl} {bk : List (List Key × V)} {D D' : Stp → Prop} {s : Stp} {q : Addr} (h : Beh H W bk D) (hq : H q = some (.tup ((skp (nextW W s)).map kV))) (hd : ∀ x, D' x → x = s ∨ D x) : Beh H W (putK bk (skp s) (.ref q)) D' := fun x hx => by
  rw [valV_put]
  by_cases c : skp x = skp s
  · rw [if_pos c, skp_inj c]
    exact ⟨q, rfl, hq⟩
  · rw [if_neg c]
    rcases hd x hx with e | e
    · exact absurd (by rw [e]) c
    · exact h x e
/-- the dict of the steps met -/
def metK (l : List Stp) : List (List Key × V) := l.map fun s => (skp s, V.bl true)
theorem metK_len (l : List Stp) : (metK l).length = l.length := List.length_map _
theorem metK_val (s : Stp) : ∀ l : List Stp, (valV (metK l) (skp s)).isSome = true ↔ s ∈ l
  | [] => by
    show (valV ([] : List (List Key × V)) (skp s)).isSome = true ↔ _
    rw [valV_nil]
    simp
  | x :: l => by
    show (valV ((skp x, V.bl true) :: metK l) (skp s)).isSome = true ↔ _
    by_cases h : x = s
    · rw [valV_pos (by rw [h]), h]
      simp
    · rw [valV_neg (fun e => h (skp_inj e)), metK_val s l, List.mem_cons]
      exact ⟨Or.inr, fun m => m.resolve_left fun e => h e.symm⟩
theorem metK_put {l : List Stp} {s : Stp} (h : s ∉ l) : putK (metK l) (skp s) (V.bl true) = metK (l ++ [s]) := by
  rw [putK_new]
  · unfold metK
    rw [List.map_append]
    rfl
  · cases e : valV (metK l) (skp s) with
    | none => rfl
    | some v => exact absurd ((metK_val s l).mp (by rw [e]; rfl)) h
theorem stepsW_take {W : Whl} {i : Nat} {u : Key} {r : List Key} (h : W[i]? = some (u, r)) : stepsW (W.take (i + 1)) = stepsW (W.take i) ++ stepsU u r := by
  rw [take_snoc h]
  unfold stepsW
  rw [List.flatMap_append]
  simp
theorem stepsU_len (u : Key) (r : List Key) : (stepsU u r).length = r.length := List.length_map _
theorem stepsU_take {u v : Key} {r : List Key} {k : Nat} (h : r[k]? = some v) : stepsU u (r.take (k + 1)) = stepsU u (r.take k) ++ [(u, v)] := by
  rw [take_snoc h]
  unfold stepsU
  rw [List.map_append]
  rfl
theorem steps_le (W : Whl) (i : Nat) : (stepsW (W.take i)).length ≤ (stepsW W).length := by
  have e : stepsW W = stepsW (W.take i) ++ stepsW (W.drop i) := by
    unfold stepsW
    rw [← List.flatMap_append, List.take_append_drop]
  rw [e, List.length_append]
  omega
theorem ring_le {W : Whl} {i : Nat} {u : Key} {r : List Key} (h : W[i]? = some (u, r)) : (stepsW (W.take i)).length + r.length ≤ (stepsW W).length := by
  have := steps_le W (i + 1)
  rw [stepsW_take h, List.length_append, stepsU_len] at this
  exact this
theorem steps_sub {W : Whl} {i : Nat} {s : Stp} (h : s ∈ stepsW (W.take i)) : s ∈ stepsW W := by
  obtain ⟨a, b⟩ := s
  obtain ⟨r, h1, h2⟩ := mem_steps.mp h
  exact mem_steps.mpr ⟨r, List.mem_of_mem_take h1, h2⟩
theorem Rows.nodup2 {f : Stp → Stp} {S : List Stp} {s : Stp} (o : OneOne f S) {done : List Stp} {rows : List (List Stp)} (h : Rows f done rows) (hd : ∀ s ∈ done, s ∈ S) (hs : s ∈ S) {n : Nat} (fr : Fresh f s n) (m : 0 < n → s ∉ rows.flatten) : (rows.flatten ++ rowN f s n).length ≤ S.length := by
  refine nodup_sub ?_ fun x hx => ?_
  · rw [List.nodup_append]
    refine ⟨h.nodup o hd, fr.nodup o hs, fun x hx y hy e => ?_⟩
    obtain ⟨i, hi, rfl⟩ := mem_rowN.mp hy
    rw [e] at hx
    exact m (by omega) (h.first o hd hs hx)
  · rcases List.mem_append.mp hx with hx | hx
    · exact h.sub o hd x hx
    · obtain ⟨i, _, rfl⟩ := mem_rowN.mp hx
      exact o.mem hs i
/-! ### keys met first -/
def memK (x : Key) (l : List Key) : Bool := l.any fun y => decide (y = x)
theorem memK_iff {x : Key} {l : List Key} : memK x l = true ↔ x ∈ l := by
  unfold memK
  rw [List.any_eq_true]
  exact ⟨fun ⟨y, h, e⟩ => of_decide_eq_true e ▸ h, fun h => ⟨x, h, decide_eq_true rfl⟩⟩
def ddS (l : List Key) (x : Key) : List Key := if memK x l = true then l else l ++ [x]
def ddK (xs : List Key) : List Key := xs.foldl ddS []
theorem ddK_snoc (xs : List Key) (x : Key) : ddK (xs ++ [x]) = ddS (ddK xs) x := by
  unfold ddK
  rw [List.foldl_append]
  rfl
theorem ddS_nd {l : List Key} {x : Key} (h : l.Nodup) : (ddS l x).Nodup := by
  unfold ddS
  split
  · exact h
  · rename_i c
    rw [List.nodup_append]
    refine ⟨h, List.nodup_cons.mpr ⟨List.not_mem_nil, List.nodup_nil⟩, fun a ha b hb e => ?_⟩
    rw [List.mem_singleton.mp hb] at e
    exact c (memK_iff.mpr (e ▸ ha))
theorem ddS_len (l : List Key) (x : Key) : (ddS l x).length ≤ l.length + 1 := by
  unfold ddS
  split
  · omega
  · rw [List.length_append, List.length_singleton]
    exact Nat.le_refl _
theorem ddK_take {xs : List Key} {i : Nat} {x : Key} (h : xs[i]? = some x) : ddK (xs.take (i + 1)) = ddS (ddK (xs.take i)) x := by rw [take_snoc h, ddK_snoc]
theorem ddK_len (xs : List Key) : ∀ i, (ddK (xs.take i)).length ≤ i
  | 0 => Nat.le_refl _
  | i + 1 => by
    cases e : xs[i]? with
    | none =>
      have := List.getElem?_eq_none_iff.mp e
      rw [List.take_of_length_le (by omega), ← List.take_of_length_le (i := i) this]
      have := ddK_len xs i
      omega
    | some x =>
      rw [ddK_take e]
      have h1 := ddK_len xs i
      have h2 := ddS_len (ddK (xs.take i)) x
      omega
theorem eqV_key : ∀ a b : Key, eqV (kV a) (kV b) = decide (a = b)
  | .inl a, .inl b => by
    show decide (a = b) = _
    by_cases h : a = b
    · subst h; simp
    · simp [h]
  | .inl a, .inr b => by
    show false = _
    simp
  | .inr a, .inl b => by
    show false = _
    simp
  | .inr a, .inr b => by
    show (a == b) = _
    by_cases h : a = b
    · subst h; simp
    · simp [h]
theorem inV_keys (x : Key) : ∀ l : List Key, inV (kV x) (l.map kV) = memK x l
  | [] => rfl
  | y :: l => by
    have ih := inV_keys x l
    unfold inV memK at ih ⊢
    rw [List.map_cons, List.any_cons, List.any_cons, ih, eqV_key]
theorem flat_key : ∀ k : Key, flatV (kV k) = true
  | .inl _ => rfl
  | .inr _ => rfl
theorem flat_keys (l : List Key) : (l.map kV).all flatV = true := by
  rw [List.all_eq_true]
  intro v hv
  obtain ⟨t, _, rfl⟩ := List.mem_map.mp hv
  exact flat_key t
def touchK (row : List Stp) : List Key := ddK (row.map (·.1))
/-- a lock taken and given back -/
theorem same_lock {H H' : Hp} {d : Addr} {o : HO} (s : Same H H') : Same (upd H d o) (upd H' d o) := fun a x e => by
  by_cases c : a = d
  · subst c
    rw [upd_same] at e ⊢
    exact e
  · rw [upd_ne c] at e ⊢
    exact s _ _ e

theorem same_unlock {H H' : Hp} {d : Addr} {o : Obj} {u : HO} (h : H d = some u) (s : Same (upd H d (.frz o u)) H') : Same H (upd H' d u) := fun a x e => by
  by_cases c : a = d
  · subst c
    rw [upd_same, ← h, e]
  · rw [upd_ne c]
    exact s _ _ (by rw [upd_ne c]; exact e)
end Y

/-! titles: names, or names and one sign behind -/
namespace Y
open PySem PySem.Spec PyProof.Rows L2 SX
def isSb (c : Nat) : Bool := (decide (97 ≤ c) && decide (c ≤ 122)) || (decide (48 ≤ c) && decide (c ≤ 57))
theorem isSb_of {c : Nat} (h : isS c) : isSb c = true := by
  unfold isSb
  rcases h with ⟨h1, h2⟩ | ⟨h1, h2⟩ <;> simp [h1, h2]
def baseS (x : Str) : Str := S (x.cps.toList.filter isSb)
def sufV : List Str := [" ", "-", "A", "\n"]
theorem suf_no : ∀ y ∈ sufV, y.cps.toList.filter isSb = [] ∧ PyData.strOk y = true ∧ y.length = 1 := by decide +kernel
theorem NameOk.len {x : Str} (h : NameOk x) : x.length ≤ 8 := by
  obtain ⟨l, rfl, n, _⟩ := h
  rw [S_len]
  exact n.len
theorem NameOk.base {x : Str} (h : NameOk x) : baseS x = x := by
  obtain ⟨l, rfl, n, _⟩ := h
  unfold baseS
  show S (l.filter isSb) = _
  rw [List.filter_eq_self.mpr fun c hc => isSb_of (n.all c hc)]
theorem base_cat {x y : Str} (h : NameOk x) (hy : y ∈ sufV) : baseS (x ++ y) = x := by
  have hb := h.base
  have hn := (suf_no y hy).1
  obtain ⟨l, rfl, n, _⟩ := h
  rw [← S_tl y, S_cat]
  unfold baseS at hb ⊢
  show S ((l ++ y.cps.toList).filter isSb) = _
  rw [List.filter_append, hn, List.append_nil]
  exact hb
theorem strOk_S (l : List Nat) : PyData.strOk (S l) = l.all fun c => decide (c < 1114112) := by
  show (l.toArray).all _ = _
  rw [List.all_toArray]
theorem NameOk.sok {x : Str} (h : NameOk x) : PyData.strOk x = true := by
  obtain ⟨l, rfl, n, _⟩ := h
  rw [strOk_S, List.all_eq_true]
  intro c hc
  rcases n.all c hc with h | h
  · exact decide_eq_true (by omega)
  · exact decide_eq_true (by omega)
theorem sok_cat {x y : Str} (h : NameOk x) (hy : y ∈ sufV) : PyData.strOk (x ++ y) = true := by
  have h1 := h.sok
  have h2 := (suf_no y hy).2.1
  rw [← S_tl x, ← S_tl y] at *
  rw [S_cat]
  rw [strOk_S] at *
  rw [List.all_append, h1, h2]
  rfl
/-- titles: all different, small, fit to be laid -/
def Titles (n : Nat) (xs : List Str) : Prop := xs.length = n ∧ xs.Nodup ∧ ∀ x ∈ xs, PyData.strOk x = true
theorem Names.titles {n : Nat} {xs : List Str} (h : Names n xs) : Titles n xs := ⟨h.1, h.2.1, fun x hx => (h.2.2 x hx).sok⟩
/-- the title of a place -/
def tk (xs : List Str) : Key → Key
  | .inl i => .inr (xs.getD i.toNat "")
  | .inr x => .inr x
def InR (n : Nat) (k : Key) : Prop := ∃ i : Nat, k = Sum.inl (i : Int) ∧ i < n
theorem nodup_idx {α : Type} : ∀ {xs : List α} {i j : Nat} {x : α}, xs.Nodup → xs[i]? = some x → xs[j]? = some x → i = j
  | [], _, _, _, _, h, _ => by simp at h
  | a :: xs, 0, 0, _, _, _, _ => rfl
  | a :: xs, 0, j + 1, x, nd, h1, h2 => by
    simp at h1 h2
    subst h1
    exact absurd (List.mem_of_getElem? h2) (List.nodup_cons.mp nd).1
  | a :: xs, i + 1, 0, x, nd, h1, h2 => by
    simp at h1 h2
    subst h2
    exact absurd (List.mem_of_getElem? h1) (List.nodup_cons.mp nd).1
  | a :: xs, i + 1, j + 1, x, nd, h1, h2 => by
    simp at h1 h2
    rw [nodup_idx (List.nodup_cons.mp nd).2 h1 h2]
theorem tk_inj {n : Nat} {xs : List Str} (nd : xs.Nodup) (hl : xs.length = n) {a b : Key} (ha : InR n a) (hb : InR n b) (h : tk xs a = tk xs b) : a = b := by
  obtain ⟨i, rfl, hi⟩ := ha
  obtain ⟨j, rfl, hj⟩ := hb
  have h' : xs.getD i "" = xs.getD j "" := Sum.inr.inj h
  rw [List.getD_eq_getElem?_getD, List.getD_eq_getElem?_getD, List.getElem?_eq_getElem (show i < xs.length by omega), List.getElem?_eq_getElem (show j < xs.length by omega)] at h'
  have h2 : xs[i] = xs[j] := h'
  have : i = j := nodup_idx nd (List.getElem?_eq_getElem (show i < xs.length by omega)) (by rw [h2]; exact List.getElem?_eq_getElem (show j < xs.length by omega))
  rw [this]
theorem at_tk {n : Nat} {xs : List Str} (hl : xs.length = n) {k : Key} (hk : InR n k) : ∃ i : Nat, k = Sum.inl (i : Int) ∧ atI (xs.map V.str) (i : Int) = some (kV (tk xs k)) := by
  obtain ⟨i, rfl, hi⟩ := hk
  refine ⟨i, rfl, atI_nat ?_⟩
  rw [List.getElem?_map, List.getElem?_eq_getElem (show i < xs.length by omega)]
  show some (V.str xs[i]) = some (V.str (xs.getD i ""))
  rw [List.getD_eq_getElem?_getD, List.getElem?_eq_getElem (show i < xs.length by omega)]
  rfl
/-- .. of a wheel: in another order, its rings turned -/
abbrev TitledP (W : Whl) (xs : List Str) : Key → Key × List Key → Prop := fun k ur => ur.1 = tk xs k ∧ ur.2.Perm ((rgW W k).map (tk xs))
theorem rot_perm {α : Type} (l : List α) (n : Nat) : (l.drop n ++ l.take n).Perm l := by
  refine List.perm_append_comm.trans ?_
  rw [List.take_append_drop]
end Y

/-! wheels that grow -/
namespace Y
open PySem PySem.Spec PyProof.Rows L2
def setR (W : Whl) (x : Key) (r : List Key) : Whl := W.map fun ur => if ur.1 = x then (ur.1, r) else ur
theorem setR_keys (W : Whl) (x : Key) (r : List Key) : (setR W x r).map (·.1) = W.map (·.1) := by
  unfold setR
  rw [List.map_map]
  refine List.map_congr_left fun ur _ => ?_
  show (if ur.1 = x then (ur.1, r) else ur).1 = ur.1
  split <;> rfl
theorem mem_setR {W : Whl} {x u : Key} {r r' : List Key} : (u, r') ∈ setR W x r ↔ (u ≠ x ∧ (u, r') ∈ W) ∨ (u = x ∧ r' = r ∧ ∃ r0, (x, r0) ∈ W) := by
  unfold setR
  rw [List.mem_map]
  constructor
  · rintro ⟨⟨a, b⟩, h, e⟩
    by_cases c : a = x
    · rw [if_pos c] at e
      cases e
      exact .inr ⟨c, rfl, b, c ▸ h⟩
    · rw [if_neg c] at e
      cases e
      exact .inl ⟨c, h⟩
  · rintro (⟨c, h⟩ | ⟨rfl, rfl, r0, h⟩)
    · exact ⟨(u, r'), h, if_neg c⟩
    · exact ⟨(u, r0), h, if_pos rfl⟩
theorem ring_uni {W : Whl} (nd : (W.map (·.1)).Nodup) {x : Key} {r r' : List Key} (h : (x, r) ∈ W) (h' : (x, r') ∈ W) : r = r' := (rgW_of nd h).symm.trans (rgW_of nd h')
theorem steps_setR {W : Whl} (nd : (W.map (·.1)).Nodup) {x y : Key} {r r' : List Key} (h : (x, r) ∈ W) (hr : ∀ v, v ∈ r' ↔ v = y ∨ v ∈ r) {u v : Key} : (u, v) ∈ stepsW (setR W x r') ↔ (u, v) ∈ stepsW W ∨ (u = x ∧ v = y) := by
  rw [mem_steps, mem_steps]
  constructor
  · rintro ⟨q, hq, hv⟩
    rcases mem_setR.mp hq with ⟨c, h1⟩ | ⟨rfl, rfl, _⟩
    · exact .inl ⟨q, h1, hv⟩
    · rcases (hr v).mp hv with e | e
      · exact .inr ⟨rfl, e⟩
      · exact .inl ⟨r, h, e⟩
  · rintro (⟨q, hq, hv⟩ | ⟨rfl, rfl⟩)
    · by_cases c : u = x
      · subst c
        obtain rfl := ring_uni nd h hq
        exact ⟨r', mem_setR.mpr (.inr ⟨rfl, rfl, r, h⟩), (hr v).mpr (.inr hv)⟩
      · exact ⟨q, mem_setR.mpr (.inl ⟨c, hq⟩), hv⟩
    · exact ⟨r', mem_setR.mpr (.inr ⟨rfl, rfl, r, h⟩), (hr _).mpr (.inl rfl)⟩
def insL (r : List Key) (j : Nat) (y : Key) : List Key := r.take j ++ [y] ++ r.drop j
theorem mem_insL {r : List Key} {j : Nat} {y v : Key} : v ∈ insL r j y ↔ v = y ∨ v ∈ r := by
  unfold insL
  rw [List.mem_append, List.mem_append, List.mem_singleton]
  constructor
  · rintro ((h | h) | h)
    · exact .inr (List.mem_of_mem_take h)
    · exact .inl h
    · exact .inr (List.mem_of_mem_drop h)
  · rintro (h | h)
    · exact .inl (.inr h)
    · rw [← List.take_append_drop j r] at h
      rcases List.mem_append.mp h with h | h
      · exact .inl (.inl h)
      · exact .inr h
theorem insL_nd {r : List Key} {j : Nat} {y : Key} (nd : r.Nodup) (h : y ∉ r) : (insL r j y).Nodup := by
  have p : (insL r j y).Perm (y :: r) := by
    unfold insL
    rw [List.append_assoc]
    refine List.perm_middle.trans ?_
    show (y :: (r.take j ++ r.drop j)).Perm _
    rw [List.take_append_drop]
  exact p.nodup_iff.mpr (List.nodup_cons.mpr ⟨h, nd⟩)
theorem insL_map (r : List Key) (j : Nat) (y : Key) : (r.map kV).take j ++ [kV y] ++ (r.map kV).drop j = (insL r j y).map kV := by
  unfold insL
  rw [List.map_append, List.map_append, List.map_take, List.map_drop]
  rfl
/-- an edge between a and b more -/
theorem Good.edge {W W' : Whl} {a b : Key} (g : Good W) (nd : (W'.map (·.1)).Nodup) (rn : ∀ ur ∈ W', ur.2.Nodup) (ab : a ≠ b) (st : ∀ u v, (u, v) ∈ stepsW W' ↔ (u, v) ∈ stepsW W ∨ (u = a ∧ v = b) ∨ (u = b ∧ v = a)) : Good W' := by
  refine ⟨nd, rn, fun u v h => ?_, fun u v h => ?_⟩
  · rcases (st u v).mp h with h | ⟨rfl, rfl⟩ | ⟨rfl, rfl⟩
    · exact (st v u).mpr (.inl (g.sym _ _ h))
    · exact (st _ _).mpr (.inr (.inr ⟨rfl, rfl⟩))
    · exact (st _ _).mpr (.inr (.inl ⟨rfl, rfl⟩))
  · rcases (st u v).mp h with h | ⟨rfl, rfl⟩ | ⟨rfl, rfl⟩
    · exact g.ne _ _ h
    · exact ab
    · exact ab.symm
theorem steps_nd : ∀ {W : Whl}, (W.map (·.1)).Nodup → (∀ ur ∈ W, ur.2.Nodup) → (stepsW W).Nodup
  | [], _, _ => List.nodup_nil
  | (u, r) :: W, nd, rn => by
    rw [List.map_cons, List.nodup_cons] at nd
    show (stepsU u r ++ stepsW W).Nodup
    rw [List.nodup_append]
    refine ⟨map_nodup (fun a b _ _ e => congrArg Prod.snd e) (rn (u, r) List.mem_cons_self), steps_nd nd.2 fun ur h => rn ur (List.mem_cons_of_mem _ h), fun a ha b hb e => ?_⟩
    obtain ⟨a1, a2⟩ := a
    obtain ⟨e1, _⟩ := mem_stepsU.mp ha
    rw [← e] at hb
    obtain ⟨r', hr', _⟩ := mem_steps.mp hb
    exact nd.1 (List.mem_map.mpr ⟨(a1, r'), hr', e1⟩)
theorem Good.steps_nd {W : Whl} (g : Good W) : (stepsW W).Nodup := Y.steps_nd g.nd g.rn
theorem steps_two {W W' : Whl} {a b : Key} (g : Good W') (st : ∀ u v, (u, v) ∈ stepsW W' ↔ (u, v) ∈ stepsW W ∨ (u = a ∧ v = b) ∨ (u = b ∧ v = a)) : (stepsW W').length ≤ (stepsW W).length + 2 := by
  have := nodup_sub g.steps_nd (D := stepsW W ++ [(a, b), (b, a)]) fun s hs => by
    obtain ⟨u, v⟩ := s
    rcases (st u v).mp hs with h | ⟨rfl, rfl⟩ | ⟨rfl, rfl⟩
    · exact List.mem_append_left _ h
    · exact List.mem_append_right _ List.mem_cons_self
    · exact List.mem_append_right _ (List.mem_cons_of_mem _ List.mem_cons_self)
  rw [List.length_append] at this
  exact this
theorem key_of {W : Whl} {u v : Key} (h : (u, v) ∈ stepsW W) : u ∈ W.map (·.1) := by
  obtain ⟨r, hr, _⟩ := mem_steps.mp h
  exact List.mem_map.mpr ⟨_, hr, rfl⟩
theorem ring_keys {W : Whl} (g : Good W) {u v : Key} {r : List Key} (h : (u, r) ∈ W) (hv : v ∈ r) : v ∈ W.map (·.1) := key_of (g.sym _ _ (mem_steps.mpr ⟨r, h, hv⟩))
theorem ring_small {W : Whl} (g : Good W) {u : Key} {r : List Key} (h : (u, r) ∈ W) : r.length ≤ W.length := by
  have := nodup_sub (g.rn _ h) (D := W.map (·.1)) fun v hv => ring_keys g h hv
  rw [List.length_map] at this
  exact this
theorem steps_few {n : Nat} : ∀ {W : Whl}, (∀ ur ∈ W, ur.2.length ≤ n) → (stepsW W).length ≤ W.length * n
  | [], _ => Nat.zero_le _
  | (u, r) :: W, h => by
    have ih := steps_few (W := W) fun ur hm => h ur (List.mem_cons_of_mem _ hm)
    have h1 := h (u, r) List.mem_cons_self
    show (stepsU u r ++ stepsW W).length ≤ _
    rw [List.length_append, stepsU_len, List.length_cons, Nat.add_mul, Nat.one_mul]
    have h1' : r.length ≤ n := h1
    omega
/-- the tree's step: k behind a, a in k's ring -/
theorem Good.leaf {W : Whl} {a k : Key} {r : List Key} {j : Nat} (g : Good W) (h : (a, r) ∈ W) (hk : k ∉ W.map (·.1)) : Good (setR W a (insL r j k) ++ [(k, [a])]) ∧ (stepsW (setR W a (insL r j k) ++ [(k, [a])])).length ≤ (stepsW W).length + 2 := by
  have ak : a ≠ k := fun e => hk (e ▸ List.mem_map.mpr ⟨_, h, rfl⟩)
  have kr : k ∉ r := fun m => hk (ring_keys g h m)
  suffices st : ∀ u v, (u, v) ∈ stepsW (setR W a (insL r j k) ++ [(k, [a])]) ↔ (u, v) ∈ stepsW W ∨ (u = a ∧ v = k) ∨ (u = k ∧ v = a) by
    have gg : Good (setR W a (insL r j k) ++ [(k, [a])]) := by
      refine g.edge (a := a) (b := k) ?_ ?_ ak st
      · rw [List.map_append, setR_keys, List.nodup_append]
        exact ⟨g.nd, List.nodup_cons.mpr ⟨List.not_mem_nil, List.nodup_nil⟩, fun x hx y hy e => hk (by have h2 : y = k := List.mem_singleton.mp hy; rw [← h2, ← e]; exact hx)⟩
      · intro ur hm
        obtain ⟨u, q⟩ := ur
        rcases List.mem_append.mp hm with hm | hm
        · rcases mem_setR.mp hm with ⟨_, h1⟩ | ⟨_, rfl, _⟩
          · exact g.rn _ h1
          · exact insL_nd (g.rn _ h) kr
        · cases List.mem_singleton.mp hm
          exact List.nodup_cons.mpr ⟨List.not_mem_nil, List.nodup_nil⟩
    exact ⟨gg, steps_two gg st⟩
  · intro u v
    have e : stepsW (setR W a (insL r j k) ++ [(k, [a])]) = stepsW (setR W a (insL r j k)) ++ [(k, a)] := by
      unfold stepsW
      rw [List.flatMap_append]
      rfl
    rw [e, List.mem_append, steps_setR g.nd h (fun v => mem_insL), List.mem_singleton]
    constructor
    · rintro ((h | h) | h)
      · exact .inl h
      · exact .inr (.inl h)
      · cases h
        exact .inr (.inr ⟨rfl, rfl⟩)
    · rintro (h | h | ⟨rfl, rfl⟩)
      · exact .inl (.inl h)
      · exact .inl (.inr h)
      · exact .inr rfl
/-- an edge drawn through a room -/
theorem Good.chord {W : Whl} {a b : Key} {r q : List Key} {j k : Nat} (g : Good W) (ha : (a, r) ∈ W) (hb : (b, q) ∈ W) (ab : a ≠ b) (n : b ∉ r) : Good (setR (setR W a (insL r j b)) b (insL q k a)) ∧ (stepsW (setR (setR W a (insL r j b)) b (insL q k a))).length ≤ (stepsW W).length + 2 := by
  have nd1 : ((setR W a (insL r j b)).map (·.1)).Nodup := by rw [setR_keys]; exact g.nd
  have hb1 : (b, q) ∈ setR W a (insL r j b) := mem_setR.mpr (.inl ⟨ab.symm, hb⟩)
  have nq : a ∉ q := fun m => by
    have := g.sym _ _ (mem_steps.mpr ⟨q, hb, m⟩)
    obtain ⟨r', hr', m'⟩ := mem_steps.mp this
    obtain rfl := ring_uni g.nd ha hr'
    exact n m'
  suffices st : ∀ u v, (u, v) ∈ stepsW (setR (setR W a (insL r j b)) b (insL q k a)) ↔ (u, v) ∈ stepsW W ∨ (u = a ∧ v = b) ∨ (u = b ∧ v = a) by
    have gg : Good (setR (setR W a (insL r j b)) b (insL q k a)) := by
      refine g.edge (a := a) (b := b) (by rw [setR_keys]; exact nd1) ?_ ab st
      · intro ur hm
        obtain ⟨u, s⟩ := ur
        rcases mem_setR.mp hm with ⟨_, h1⟩ | ⟨_, rfl, _⟩
        · rcases mem_setR.mp h1 with ⟨_, h2⟩ | ⟨_, rfl, _⟩
          · exact g.rn _ h2
          · exact insL_nd (g.rn _ ha) n
        · exact insL_nd (g.rn _ hb) nq
    exact ⟨gg, steps_two gg st⟩
  · intro u v
    rw [steps_setR nd1 hb1 (fun v => mem_insL), steps_setR g.nd ha (fun v => mem_insL)]
    constructor
    · rintro ((h | h) | h)
      · exact .inl h
      · exact .inr (.inl h)
      · exact .inr (.inr h)
    · rintro (h | h | h)
      · exact .inl (.inl h)
      · exact .inl (.inr h)
      · exact .inr h
/-! ### in the heap, each ring a thing of its own -/
def WdAt (H0 H : Hp) (d : Addr) (W : Whl) : Prop := ∃ kvs, H d = some (.dK kvs) ∧ Paired (RgP H) kvs W ∧ (kvs.map (·.2)).Nodup ∧ ∀ p ∈ kvs, ∀ a, p.2 = .ref a → H0 a = none
theorem WdAt.wh {H0 H : Hp} {d : Addr} {W : Whl} (h : WdAt H0 H d W) : WhAt H d W := by
  obtain ⟨kvs, h1, h2, _⟩ := h
  exact ⟨kvs, h1, h2⟩
theorem WdAt.kp {H0 H H' : Hp} (k : Kp H H') {d : Addr} {W : Whl} (h : WdAt H0 H d W) : WdAt H0 H' d W := by
  obtain ⟨kvs, h1, h2, h3, h4⟩ := h
  exact ⟨kvs, k.keep _ _ h1 rfl, Paired.mapP h2 fun a b r => r.kp k, h3, h4⟩
theorem paired_mapR {α β γ : Type} {R : α → β → Prop} {R' : α → γ → Prop} (f : β → γ) : ∀ {as : List α} {bs : List β}, Paired R as bs → (∀ a b, a ∈ as → R a b → R' a (f b)) → Paired R' as (bs.map f)
  | _, _, .nil, _ => .nil
  | _, _, .cons r t, h => .cons (h _ _ List.mem_cons_self r) (paired_mapR f t fun a b m => h a b (List.mem_cons_of_mem _ m))
theorem inj_of_nodup {α β : Type} {f : α → β} : ∀ {l : List α} {a b : α}, (l.map f).Nodup → a ∈ l → b ∈ l → f a = f b → a = b
  | x :: l, a, b, nd, ha, hb, e => by
    rw [List.map_cons, List.nodup_cons] at nd
    rcases List.mem_cons.mp ha with ea | ha'
    · rcases List.mem_cons.mp hb with eb | hb'
      · rw [ea, eb]
      · exact absurd (by rw [← ea, e]; exact List.mem_map_of_mem hb') nd.1
    · rcases List.mem_cons.mp hb with eb | hb'
      · exact absurd (by rw [← eb, ← e]; exact List.mem_map_of_mem ha') nd.1
      · exact inj_of_nodup nd.2 ha' hb' e
theorem rgp_set {H : Hp} {kvs : List (Key × V)} {W : Whl} {x : Key} {a : Addr} {r' : List Key} (hp : Paired (RgP H) kvs W) (nk : (kvs.map (·.1)).Nodup) (nv : (kvs.map (·.2)).Nodup) (hm : (x, V.ref a) ∈ kvs) : Paired (RgP (upd H a (.lst (r'.map kV)))) kvs (setR W x r') := by
  refine paired_mapR _ hp fun p q hpm ⟨e, z, e1, e2⟩ => ?_
  by_cases c : q.1 = x
  · rw [if_pos c]
    have : p = (x, V.ref a) := inj_of_nodup nk hpm hm (e.trans c)
    exact ⟨e, a, by rw [this], upd_same⟩
  · rw [if_neg c]
    have za : z ≠ a := fun h => by
      have : p = (x, V.ref a) := inj_of_nodup nv hpm hm (by rw [e1, h])
      exact c (e.symm.trans (by rw [this]))
    exact ⟨e, z, e1, by rw [upd_ne za]; exact e2⟩
theorem Rows.some {α : Type} {f : α → α} : ∀ {done : List α} {rows : List (List α)}, Rows f done rows → done ≠ [] → rows ≠ []
  | [], _, _, h => absurd rfl h
  | s :: done, rows, ⟨a, ha, h⟩, _ => by
    rcases h with ⟨m, rfl⟩ | ⟨_, w, _, rfl⟩
    · intro e
      rw [e] at m
      cases m
    · simp
/-- what a dict's item is -/
theorem ring_get {H : Hp} {d : Addr} {kvs : List (Key × V)} {W : Whl} (hd : H d = some (.dK kvs)) (hp : Paired (RgP H) kvs W) (nd : (W.map (·.1)).Nodup) {u : Key} (hu : u ∈ W.map (·.1)) : ∃ r a, (u, r) ∈ W ∧ (u, V.ref a) ∈ kvs ∧ H a = some (.lst (r.map kV)) ∧ DGet H d (kV u) (some (.ref a)) := by
  obtain ⟨⟨u', r⟩, hm, e⟩ := List.mem_map.mp hu
  obtain rfl : u' = u := e
  obtain ⟨⟨k, v⟩, hk, e1, a, e2, ha⟩ := paired_mem hp hm
  obtain rfl : k = u' := e1
  obtain rfl : v = V.ref a := e2
  exact ⟨r, a, hm, hk, ha, .inl ⟨kvs, k, .inl hd, rfl, (valV_of (by rw [rgp_keys hp]; exact nd) hk).symm⟩⟩
theorem paired_mem' {α β : Type} {R : α → β → Prop} {as : List α} {bs : List β} {a : α} (h : Paired R as bs) (m : a ∈ as) : ∃ b, b ∈ bs ∧ R a b := by
  obtain ⟨i, hi⟩ := List.getElem?_of_mem m
  obtain ⟨b, hb, r⟩ := paired_at h hi
  exact ⟨b, List.mem_of_getElem? hb, r⟩
theorem Rows.row {α : Type} {f : α → α} {S : List α} (o : OneOne f S) {done : List α} {rows : List (List α)} (h : Rows f done rows) (hd : ∀ s ∈ done, s ∈ S) {row : List α} (hr : row ∈ rows) : row ≠ [] ∧ ∀ s ∈ row, s ∈ S := by
  obtain ⟨s, hs, n, n0, rfl, _⟩ := h.cyc row hr
  refine ⟨fun e => ?_, fun x hx => ?_⟩
  · have := congrArg List.length e
    rw [rowN_len] at this
    have : n = 0 := this
    omega
  · obtain ⟨i, _, rfl⟩ := mem_rowN.mp hx
    exact o.mem (hd s hs) i
/-- r.index(x) for keys -/
theorem index_key {r : List Key} {x : Key} (nd : r.Nodup) (hx : x ∈ r) : ∃ j : Nat, j < r.length ∧ (r.map kV)[j]? = some (kV x) ∧ eqV (kV x) (kV x) = true ∧ ∀ (m : Nat) (z' : V), m < j → (r.map kV)[m]? = some z' → eqV z' (kV x) = false := by
  obtain ⟨j, hj⟩ := List.getElem?_of_mem hx
  refine ⟨j, (List.getElem?_eq_some_iff.mp hj).1, by rw [List.getElem?_map, hj]; rfl, by rw [eqV_key]; simp, fun m z' hm hz => ?_⟩
  rw [List.getElem?_map] at hz
  obtain ⟨z, hz1, rfl⟩ := Option.map_eq_some_iff.mp hz
  rw [eqV_key]
  refine decide_eq_false fun e => ?_
  rw [e] at hz1
  have := (idx_nd nd hz1).symm.trans (idx_nd nd hj)
  omega
theorem snd_new {H : Hp} {kvs : List (Key × V)} {W : Whl} {z : Addr} {k : Key} (hp : Paired (RgP H) kvs W) (nz : H z = none) (nv : (kvs.map (·.2)).Nodup) : ((kvs ++ [(k, V.ref z)]).map (·.2)).Nodup := by
  rw [List.map_append, List.nodup_append]
  refine ⟨nv, List.nodup_cons.mpr ⟨List.not_mem_nil, List.nodup_nil⟩, fun x hx y hy e => ?_⟩
  have hy' : y = V.ref z := List.mem_singleton.mp hy
  obtain ⟨p, hpm, e2⟩ := List.mem_map.mp hx
  obtain ⟨i, hi⟩ := List.getElem?_of_mem hpm
  obtain ⟨q, _, _, a, e3, ha⟩ := paired_at hp hi
  have : a = z := by
    have h : V.ref a = V.ref z := by rw [← e3, e2, e, hy']
    injection h
  rw [this, nz] at ha
  cases ha
end Y

/-! the drawn wheels are good -/
namespace Y
open PySem PySem.Spec PyProof.Rows L2
def keysN (n : Nat) : List Key := (List.range n).map fun i : Nat => Sum.inl (i : Int)
theorem keysN_mem {n : Nat} {k : Key} : k ∈ keysN n ↔ InR n k := by
  unfold keysN
  rw [List.mem_map]
  exact ⟨fun ⟨i, h, e⟩ => ⟨i, e.symm, List.mem_range.mp h⟩, fun ⟨i, e, h⟩ => ⟨i, List.mem_range.mpr h, e.symm⟩⟩
theorem keysN_succ (n : Nat) : keysN (n + 1) = keysN n ++ [Sum.inl (n : Int)] := by
  unfold keysN
  rw [List.range_succ, List.map_append]
  rfl
theorem keysN_len (n : Nat) : (keysN n).length = n := by
  unfold keysN
  rw [List.length_map, List.length_range]
/-- keys that are texts -/
def StrW (W : Whl) : Prop := ∀ k ∈ W.map (·.1), ∃ x, k = Sum.inr x
/-- keys that may be laid -/
def OkW (W : Whl) : Prop := ∀ k ∈ W.map (·.1), okK k = true
theorem paired_keys {α : Type} {R : α → Key × List Key → Prop} {g : α → Key} (hg : ∀ a ur, R a ur → ur.1 = g a) : ∀ {as : List α} {W : Whl}, Paired R as W → W.map (·.1) = as.map g
  | _, _, .nil => rfl
  | _, _, .cons r t => by rw [List.map_cons, List.map_cons, hg _ _ r, paired_keys hg t]
section
variable {n : Nat} {W W' : Whl} {xs : List Str} {ks : List Key}
theorem titled_steps (g : Good W) (hk : W.map (·.1) = keysN n) (pm : ks.Perm (W.map (·.1))) (hp : Paired (TitledP W xs) ks W') {u v : Key} : (u, v) ∈ stepsW W' ↔ ∃ a b, (a, b) ∈ stepsW W ∧ u = tk xs a ∧ v = tk xs b := by
  rw [mem_steps]
  constructor
  · rintro ⟨r, hr, hv⟩
    obtain ⟨k, hk', e1, e2⟩ := paired_mem hp hr
    obtain ⟨⟨k0, r0⟩, hm, e⟩ := List.mem_map.mp (pm.subset hk')
    obtain rfl : k0 = k := e
    rw [rgW_of g.nd hm] at e2
    obtain ⟨b, hb, rfl⟩ := List.mem_map.mp (e2.subset hv)
    exact ⟨k0, b, mem_steps.mpr ⟨r0, hm, hb⟩, e1, rfl⟩
  · rintro ⟨a, b, h, rfl, rfl⟩
    obtain ⟨r0, hm, hb⟩ := mem_steps.mp h
    have ha : a ∈ ks := pm.symm.subset (List.mem_map.mpr ⟨_, hm, rfl⟩)
    obtain ⟨⟨u, r⟩, hur, e1, e2⟩ := paired_mem' hp ha
    rw [rgW_of g.nd hm] at e2
    obtain rfl : u = tk xs a := e1
    exact ⟨r, hur, e2.symm.subset (List.mem_map_of_mem hb)⟩
theorem titled_good (g : Good W) (hk : W.map (·.1) = keysN n) (hl : xs.length = n) (hn : xs.Nodup) (pm : ks.Perm (W.map (·.1))) (hp : Paired (TitledP W xs) ks W') : Good W' := by
  have inr : ∀ k ∈ W.map (·.1), InR n k := fun k h => keysN_mem.mp (by rw [← hk]; exact h)
  have inj : ∀ a b, a ∈ W.map (·.1) → b ∈ W.map (·.1) → tk xs a = tk xs b → a = b := fun a b ha hb e => tk_inj hn hl (inr a ha) (inr b hb) e
  have keys : W'.map (·.1) = ks.map (tk xs) := paired_keys (fun a ur r => r.1) hp
  refine ⟨?_, fun ur hm => ?_, fun u v h => ?_, fun u v h => ?_⟩
  · rw [keys]
    exact map_nodup (fun a b ha hb e => inj a b (pm.subset ha) (pm.subset hb) e) (pm.nodup_iff.mpr g.nd)
  · obtain ⟨k, hk', e1, e2⟩ := paired_mem hp hm
    obtain ⟨⟨k0, r0⟩, hm0, e⟩ := List.mem_map.mp (pm.subset hk')
    obtain rfl : k0 = k := e
    rw [rgW_of g.nd hm0] at e2
    exact e2.nodup_iff.mpr (map_nodup (fun a b ha hb e => inj a b (ring_keys g hm0 ha) (ring_keys g hm0 hb) e) (g.rn _ hm0))
  · obtain ⟨a, b, hs, rfl, rfl⟩ := (titled_steps g hk pm hp).mp h
    exact (titled_steps g hk pm hp).mpr ⟨b, a, g.sym _ _ hs, rfl, rfl⟩
  · obtain ⟨a, b, hs, rfl, rfl⟩ := (titled_steps g hk pm hp).mp h
    exact fun e => g.ne _ _ hs (inj a b (key_of hs) (key_of (g.sym _ _ hs)) e)
theorem titled_ok (hk : W.map (·.1) = keysN n) (hl : xs.length = n) (ho : ∀ x ∈ xs, PyData.strOk x = true) (pm : ks.Perm (W.map (·.1))) (hp : Paired (TitledP W xs) ks W') : OkW W' := by
  intro k h
  rw [paired_keys (fun a ur r => r.1) hp] at h
  obtain ⟨a, ha, rfl⟩ := List.mem_map.mp h
  have := pm.subset ha
  rw [hk] at this
  obtain ⟨i, rfl, hi⟩ := keysN_mem.mp this
  show PyData.strOk (xs.getD i "") = true
  rw [List.getD_eq_getElem?_getD, List.getElem?_eq_getElem (show i < xs.length by omega)]
  exact ho _ (List.getElem_mem _)
theorem titled_str (hk : W.map (·.1) = keysN n) (pm : ks.Perm (W.map (·.1))) (hp : Paired (TitledP W xs) ks W') : StrW W' := by
  intro k h
  rw [paired_keys (fun a ur r => r.1) hp] at h
  obtain ⟨a, ha, rfl⟩ := List.mem_map.mp h
  have := pm.subset ha
  rw [hk] at this
  obtain ⟨i, rfl, hi⟩ := keysN_mem.mp this
  exact ⟨_, rfl⟩
theorem titled_len (g : Good W) (g' : Good W') (hk : W.map (·.1) = keysN n) (pm : ks.Perm (W.map (·.1))) (hp : Paired (TitledP W xs) ks W') : (stepsW W').length ≤ (stepsW W).length := by
  have := nodup_sub g'.steps_nd (D := (stepsW W).map fun s => (tk xs s.1, tk xs s.2)) fun s hs => by
    obtain ⟨u, v⟩ := s
    obtain ⟨a, b, h, rfl, rfl⟩ := (titled_steps g hk pm hp).mp hs
    exact List.mem_map.mpr ⟨(a, b), h, rfl⟩
  rw [List.length_map] at this
  exact this
end
section
variable {ts : List Str} {es : List (Str × Str)} {W : Whl}
def nearT (es : List (Str × Str)) (u : Str) : List Str := (es.filter fun p => decide (u = p.1) || decide (u = p.2)).map fun p => if p.2 = u then p.1 else p.2
def nearL (ts : List Str) (es : List (Str × Str)) (u : Str) : List Str := ts.filter fun w => decide (w ∈ nearT es u)
abbrev RingOf (ts : List Str) (es : List (Str × Str)) : Str → Key × List Key → Prop := fun u ur => ur.1 = Sum.inr u ∧ ∃ l : List Str, ur.2 = l.map Sum.inr ∧ l.Perm (nearL ts es u)
theorem mem_nearT (ne : ∀ p ∈ es, p.1 ≠ p.2) {u v : Str} : v ∈ nearT es u ↔ (u, v) ∈ es ∨ (v, u) ∈ es := by
  unfold nearT
  rw [List.mem_map]
  constructor
  · rintro ⟨⟨a, b⟩, h, e⟩
    obtain ⟨hm, hc⟩ := List.mem_filter.mp h
    by_cases c : b = u
    · rw [if_pos (show ((a, b) : Str × Str).2 = u from c)] at e
      have e' : a = v := e
      rw [← c, ← e']
      exact .inr hm
    · rw [if_neg (show ¬ ((a, b) : Str × Str).2 = u from c)] at e
      have e' : b = v := e
      have hc' : u = a ∨ u = b := by simpa using hc
      rcases hc' with h1 | h1
      · rw [h1, ← e']
        exact .inl hm
      · exact absurd h1.symm c
  · rintro (h | h)
    · refine ⟨(u, v), List.mem_filter.mpr ⟨h, by simp⟩, ?_⟩
      exact if_neg fun e => ne _ h (Eq.symm e)
    · exact ⟨(v, u), List.mem_filter.mpr ⟨h, by simp⟩, if_pos rfl⟩
theorem near_steps (ne : ∀ p ∈ es, p.1 ≠ p.2) (hp : Paired (RingOf ts es) ts W) {x y : Key} : (x, y) ∈ stepsW W ↔ ∃ u v, x = Sum.inr u ∧ y = Sum.inr v ∧ u ∈ ts ∧ v ∈ ts ∧ ((u, v) ∈ es ∨ (v, u) ∈ es) := by
  rw [mem_steps]
  constructor
  · rintro ⟨r, hr, hv⟩
    obtain ⟨u, hu, e1, l, e2, pl⟩ := paired_mem hp hr
    have e2' : r = l.map Sum.inr := e2
    rw [e2'] at hv
    obtain ⟨v, hv2, rfl⟩ := List.mem_map.mp hv
    have hv' := pl.subset hv2
    obtain ⟨h1, h2⟩ := List.mem_filter.mp hv'
    exact ⟨u, v, e1, rfl, hu, h1, (mem_nearT ne).mp (of_decide_eq_true h2)⟩
  · rintro ⟨u, v, rfl, rfl, hu, hv, h⟩
    obtain ⟨⟨x, r⟩, hr, e1, l, e2, pl⟩ := paired_mem' hp hu
    obtain rfl : x = Sum.inr u := e1
    obtain rfl : r = l.map Sum.inr := e2
    exact ⟨_, hr, List.mem_map_of_mem (pl.symm.subset (List.mem_filter.mpr ⟨hv, decide_eq_true ((mem_nearT ne).mpr h)⟩))⟩
theorem near_good (nd : ts.Nodup) (ne : ∀ p ∈ es, p.1 ≠ p.2) (hp : Paired (RingOf ts es) ts W) : Good W := by
  refine ⟨?_, fun ur hm => ?_, fun x y h => ?_, fun x y h => ?_⟩
  · rw [paired_keys (g := Sum.inr) (fun a ur r => r.1) hp]
    exact map_nodup (fun a b _ _ e => Sum.inr.inj e) nd
  · obtain ⟨u, hu, e1, l, e2, pl⟩ := paired_mem hp hm
    rw [e2]
    exact map_nodup (fun a b _ _ e => Sum.inr.inj e) (pl.nodup_iff.mpr (nd.filter _))
  · obtain ⟨u, v, rfl, rfl, hu, hv, h⟩ := (near_steps ne hp).mp h
    exact (near_steps ne hp).mpr ⟨v, u, rfl, rfl, hv, hu, h.symm⟩
  · obtain ⟨u, v, rfl, rfl, hu, hv, h⟩ := (near_steps ne hp).mp h
    intro e
    have e' : u = v := Sum.inr.inj e
    subst e'
    rcases h with h | h <;> exact ne _ h rfl
theorem near_ok (ho : ∀ x ∈ ts, PyData.strOk x = true) (hp : Paired (RingOf ts es) ts W) : OkW W := by
  intro k h
  rw [paired_keys (g := Sum.inr) (fun a ur r => r.1) hp] at h
  obtain ⟨x, hx, rfl⟩ := List.mem_map.mp h
  exact ho x hx
theorem near_str (hp : Paired (RingOf ts es) ts W) : StrW W := by
  intro k h
  rw [paired_keys (g := Sum.inr) (fun a ur r => r.1) hp] at h
  obtain ⟨x, hx, rfl⟩ := List.mem_map.mp h
  exact ⟨x, rfl⟩
theorem near_len (ne : ∀ p ∈ es, p.1 ≠ p.2) (g : Good W) (hp : Paired (RingOf ts es) ts W) : (stepsW W).length ≤ 2 * es.length := by
  have := nodup_sub g.steps_nd (D := (es.map fun e => ((Sum.inr e.1 : Key), (Sum.inr e.2 : Key))) ++ (es.map fun e => ((Sum.inr e.2 : Key), (Sum.inr e.1 : Key)))) fun s hs => by
    obtain ⟨x, y⟩ := s
    obtain ⟨u, v, rfl, rfl, _, _, h⟩ := (near_steps ne hp).mp hs
    rcases h with h | h
    · exact List.mem_append_left _ (List.mem_map.mpr ⟨(u, v), h, rfl⟩)
    · exact List.mem_append_right _ (List.mem_map.mpr ⟨(v, u), h, rfl⟩)
  rw [List.length_append, List.length_map, List.length_map] at this
  omega
end
end Y

/-! a for over a list or a tuple, whichever it is -/
namespace Y
open PySem PySem.Spec PyProof.Rows L2
theorem for_any {K : PySem.W.Frag} {tl : TE} {σ0 : L2.St} {H0 : Hp} {a : Addr} {xs : List V} {g : TG} {tb : TS} {D : Ends} (h : H0 a = some (.lst xs) ∨ H0 a = some (.tup xs)) (ht : ∀ R : VK, R (.ref a) H0 → tl σ0 H0 R) (Pv : Nat → L2.St → Hp → Prop) (h0 : Pv 0 σ0 H0)
    (hG : ∀ i σ H, i ≤ xs.length → Pv i σ H → ∀ o, H0 a = some o → H a = some o)
    (hs : ∀ i x σ H, xs[i]? = some x → Pv i σ H → g x σ H fun σ2 H2 => tb { D with nx := Pv (i + 1), ct := Pv (i + 1), bk := D.nx } σ2 H2) (hd : ∀ σ H, Pv xs.length σ H → D.nx σ H) :
    tFor (iAny K tl) g tb D σ0 H0 := by
  rcases h with h | h
  · exact Or.inl (ht _ ⟨a, rfl, ⟨xs, SqL.of h⟩, for_list (K := K) (a := a) (xs := xs) Pv h0 (fun i σ H hi p => SqL.of (hG i σ H hi p _ h)) hs hd⟩)
  · exact Or.inr (ht _ ⟨a, rfl, ⟨xs, SqT.of h⟩, for_tup (K := K) (a := a) (xs := xs) Pv h0 (fun i σ H hi p => SqT.of (hG i σ H hi p _ h)) hs hd⟩)
theorem done_no {W : Whl} (g : Good W) {i j : Nat} {u y : Key} {r : List Key} (h : W[i]? = some (u, r)) (hy : r[j]? = some y) : (u, y) ∉ stepsW (W.take i) ++ stepsU u (r.take j) := by
  intro m
  rcases List.mem_append.mp m with m | m
  · obtain ⟨r', hr', _⟩ := mem_steps.mp m
    have h1 : (W.map (·.1))[i]? = some u := by rw [List.getElem?_map, h]; rfl
    refine nd_take g.nd h1 ?_
    rw [← List.map_take]
    exact List.mem_map.mpr ⟨_, hr', rfl⟩
  · exact nd_take (g.rn _ (List.mem_of_getElem? h)) hy (mem_stepsU.mp m).2
theorem metK_some {s : Stp} {l : List Stp} (h : s ∈ l) : ∃ v, valV (metK l) (skp s) = some v := by
  have := (metK_val s l).mpr h
  cases e : valV (metK l) (skp s) with
  | none => rw [e] at this; cases this
  | some v => exact ⟨v, rfl⟩
theorem metK_none {s : Stp} {l : List Stp} (h : s ∉ l) : valV (metK l) (skp s) = none := by
  cases e : valV (metK l) (skp s) with
  | none => rfl
  | some v => exact absurd ((metK_val s l).mp (by rw [e]; rfl)) h
theorem metK_at {l : List Stp} {i : Nat} {k : List Key} {v : V} (h : (metK l)[i]? = some (k, v)) : ∃ s, l[i]? = some s ∧ k = skp s := by
  unfold metK at h
  rw [List.getElem?_map] at h
  obtain ⟨s, hs, e⟩ := Option.map_eq_some_iff.mp h
  cases e
  exact ⟨s, hs, rfl⟩
theorem all_bl (n : Nat) : ((List.range n).map fun _ => true).all id = true := by
  rw [List.all_eq_true]
  intro x hx
  obtain ⟨_, _, rfl⟩ := List.mem_map.mp hx
  rfl
/-- a dict of keys met -/
def dkT (l : List Key) : List (Key × V) := l.map fun k => (k, V.bl true)
theorem dkT_put (l : List Key) (x : Key) : putK (dkT l) x (V.bl true) = dkT (ddS l x) := by
  unfold ddS
  by_cases h : memK x l = true
  · rw [if_pos h]
    unfold putK
    have ha : ((dkT l).any fun kv => decide (kv.1 = x)) = true := by
      unfold dkT
      rw [List.any_map]
      exact h
    rw [ha]
    rw [if_pos rfl]
    unfold dkT
    rw [List.map_map]
    refine List.map_congr_left fun k _ => ?_
    show (if k = x then (k, V.bl true) else (k, V.bl true)) = (k, V.bl true)
    split <;> rfl
  · rw [if_neg h, putK_new]
    · unfold dkT
      rw [List.map_append]
      rfl
    · refine valV_no fun m => ?_
      obtain ⟨kv, hm, e⟩ := List.mem_map.mp m
      obtain ⟨k, hk, rfl⟩ := List.mem_map.mp hm
      exact h (memK_iff.mpr (by rw [← e]; exact hk))
theorem dkT_len (l : List Key) : (dkT l).length = l.length := List.length_map _
def OkS (W : Whl) : Prop := ∀ s ∈ stepsW W, (skp s).all okK = true
theorem OkW.steps {W : Whl} (g : Good W) (h : OkW W) : OkS W := fun s hs => by
  obtain ⟨u, v⟩ := s
  have h1 := h _ (key_of hs)
  have h2 := h _ (key_of (g.sym _ _ hs))
  show (okK u && (okK v && true)) = true
  rw [h1, h2]
  rfl
/-- what is asked of rings that are looked at -/
structure Ringed (W : Whl) : Prop where
  g : Good W
  st : StrW W
  ok : OkS W
  few : W.length ≤ 1000
  len : (stepsW W).length ≤ 60
def sp_rooms_of : Sp := fun vs H Q _ => ∃ (d : Addr) (W : Whl), vs = [.ref d] ∧ WqAt H d W ∧ Ringed W ∧
  ∀ (p : Addr) (as : List Addr) (rows : List (List Stp)) (H' : Hp), H p = none → (∀ a ∈ as, H a = none) → Same H H' → H' p = some (.lst (as.map V.ref)) → as.Nodup → Paired (RowP H') as rows → Rows (nextW W) (stepsW W).reverse rows → Q (.ref p) H'
def sp_check_rings : Sp := fun vs H Q _ => ∃ (d : Addr) (W : Whl), vs = [.ref d] ∧ WqAt H d W ∧ Ringed W ∧ ∀ H', Same H H' → Q .non H'
theorem WqAt.same {H H' : Hp} {d : Addr} {W : Whl} (s : Same H H') (h : WqAt H d W) : WqAt H' d W := by
  obtain ⟨kvs, h1, h2⟩ := h
  exact ⟨kvs, s _ _ h1, Paired.mapP h2 fun a b ⟨e, z, e1, e2⟩ => ⟨e, z, e1, e2.imp (fun h => s _ _ h) (fun h => s _ _ h)⟩⟩
end Y

/-! equal data at two places -/
namespace Y
open PySem PySem.Spec PyProof.Rows L2
/-- a scalar that _law_like compares -/
def flatL : V → Bool
  | .non => true
  | .bl _ => true
  | .int _ => true
  | .str _ => true
  | _ => false
def Al (H : Hp) : Nat → V → V → Prop
  | 0, x, y => x = y ∧ flatL x = true
  | n + 1, x, y => (x = y ∧ flatL x = true) ∨ ∃ (a b : Addr) (xs ys : List V), x = .ref a ∧ y = .ref b ∧ ((H a = some (.lst xs) ∧ H b = some (.lst ys)) ∨ (H a = some (.tup xs) ∧ H b = some (.tup ys))) ∧ xs.length = ys.length ∧ xs.length ≤ 100000 ∧ ∀ (i : Nat) (p q : V), xs[i]? = some p → ys[i]? = some q → Al H n p q
theorem Al.same {H H' : Hp} (s : Same H H') : ∀ {n : Nat} {x y : V}, Al H n x y → Al H' n x y
  | 0, _, _, h => h
  | n + 1, x, y, h => by
    rcases h with h | ⟨a, b, xs, ys, e1, e2, h, l1, l2, k⟩
    · exact .inl h
    · exact .inr ⟨a, b, xs, ys, e1, e2, h.imp (fun h => ⟨s _ _ h.1, s _ _ h.2⟩) (fun h => ⟨s _ _ h.1, s _ _ h.2⟩), l1, l2, fun i p q hp hq => (k i p q hp hq).same s⟩
def sp_like : Nat → Sp := fun n vs H Q _ => ∃ x y : V, vs = [x, y] ∧ Al H n x y ∧ ∀ H', Same H H' → Q (.bl true) H'
theorem walk_zipT {K : PySem.W.Frag} {a b : Addr} {xs ys : List V} {n : Nat} (h1 : n = xs.length) (h2 : n = ys.length) : Walk (RZ.ItzT K a b) n (fun H => SqT K H a xs ∧ SqT K H b ys) (YPair (fun i => xs[i]?) (fun i => ys[i]?)) where
  goes := fun i _ hi g => by
    obtain ⟨x, hx⟩ : ∃ x, xs[i]? = some x := ⟨_, List.getElem?_eq_getElem (h1 ▸ hi)⟩
    obtain ⟨y, hy⟩ : ∃ y, ys[i]? = some y := ⟨_, List.getElem?_eq_getElem (h2 ▸ hi)⟩
    exact ⟨xs, ys, x, y, g.1, g.2, hx, hy⟩
  stops := fun _ g => ⟨xs, ys, g.1, g.2, Or.inl (Nat.le_of_eq h1.symm)⟩
  yields := fun _ _ _ _ _ g hy => by
    obtain ⟨T, x, y, ev, nT, eH, gx, gy⟩ := hy
    exact ⟨T, x, y, ev, nT, eH, gx xs g.1, gy ys g.2⟩
/-- the types of such data -/
def tyL (H : Hp) (x : V) : Option String :=
  match x with
  | .non => some "NoneType"
  | .bl _ => some "bool"
  | .int _ => some "int"
  | .str _ => some "str"
  | _ => none
theorem tyL_of {K : PySem.W.Frag} {H : Hp} {x : V} (h : flatL x = true) : ∃ t, tyL H x = some t ∧ TyX K H x (.type t) ∧ (t = "NoneType" ∨ t = "bool" ∨ t = "int" ∨ t = "str") := by
  cases x with
  | non => exact ⟨_, rfl, .base .non, .inl rfl⟩
  | bl b => exact ⟨_, rfl, .base (.bl b), .inr (.inl rfl)⟩
  | int i => exact ⟨_, rfl, .base (.int i), .inr (.inr (.inl rfl))⟩
  | str y => exact ⟨_, rfl, .base (.str y), .inr (.inr (.inr rfl))⟩
  | _ => cases h
end Y

/-! {k: v for a in b for c in d}: a dict comprehension of two clauses, without tests, whose keys are tuples -/
namespace Y
open PySem PySem.Spec PyProof.Rows L2
section
variable (kx vx ta ia tb ib : Expr) (sc : Scope) (ps : Pos)
/-- the tree of such a comprehension -/
abbrev dc2 : Expr := .DictComp kx vx [⟨ta, ia, [], 0⟩, ⟨tb, ib, [], 0⟩] sc ps
theorem dc2_turnA (i : Value) (D : Addr) (en : Env) : compTurn (dc2 kx vx ta ia tb ib sc ps) 0 i (.ref D) en = (do
      standAt ia.pos
      match ← pyNext i with
      | none => pure (.done .next)
      | some v => do
        letOwnedTupleGo ta i v
        assign ta en v
        let y ← eval ib en
        standAt ib.pos
        let y ← foldedSetIterable ib en y
        let _ ← runOwn (.compStart (dc2 kx vx ta ia tb ib sc ps) 1 (← holding [y] (pyIter y)) (.ref D) en) en
        again (.compLoop (dc2 kx vx ta ia tb ib sc ps) 0 i (.ref D) en)) := by rfl
theorem dc2_turnB (i : Value) (D : Addr) (en : Env) : compTurn (dc2 kx vx ta ia tb ib sc ps) 1 i (.ref D) en = (do
      standAt ib.pos
      match ← pyNext i with
      | none => pure (.done .next)
      | some v => do
        letOwnedTupleGo tb i v
        assign tb en v
        (do let kk ← eval kx en
            let vv ← holding [kk] (eval vx en)
            standAt { kx.pos with endLine := vx.pos.endLine, endCol := vx.pos.endCol }
            holding [kk, vv] (dictSet D kk vv))
        again (.compLoop (dc2 kx vx ta ia tb ib sc ps) 1 i (.ref D) en)) := by rfl
end
section
variable {pr : Program} {wl : World} {Ar : Around} {Rz : Result → Shared → Prop} {st : Shared} {kx vx ta ia tb ib : Expr} {sc : Scope} {ps : Pos} {i : Value} {D : Addr} {en : Env}
/-- what an error within leads to -/
abbrev onE (pr : Program) (wl : World) (Ar : Around) (en : Env) (Rz : Result → Shared → Prop) : Value → Shared → Prop := notedBy (model pr wl) Ar en fun x z => Rz (.error x) z
theorem dc2_loopB (Wd : Nat → Shared → Prop) (turn : ∀ n z, Wd n z → wpAny (model pr wl) Ar (pyNext i) (fun r z1 => match r with
      | none => Rz (.ok .next) z1
      | some v => wpAny (model pr wl) Ar (letOwnedTupleGo tb i v) (fun _ z2 => wpAny (model pr wl) Ar (assign tb en v) (fun _ z3 => wpAny (model pr wl) Ar (eval kx en) (fun kk z4 => wpAny (model pr wl) Ar (eval vx en) (fun vv z5 =>
          wpAny (model pr wl) Ar (dictSet D kk vv) (fun _ z6 => ∃ m, m < n ∧ Wd m z6) (onE pr wl Ar en Rz) z5) (onE pr wl Ar en Rz) z4) (onE pr wl Ar en Rz) z3) (onE pr wl Ar en Rz) z2) (onE pr wl Ar en Rz) z1) (onE pr wl Ar en Rz) z)
    (n : Nat) (h : Wd n st) : codeAny (model pr wl) Ar (.compLoop (dc2 kx vx ta ia tb ib sc ps) 1 i (.ref D) en) Rz st := by
  refine codeAny_loop rfl Wd (fun n z hz => ?_) n h
  show wpAny _ Ar ((compTurn (dc2 kx vx ta ia tb ib sc ps) 1 i (.ref D) en).onRaise (fun x => do noteFrame x en; theTreesLotGoes x)) _ _ z
  refine wpAny_noted ?_
  rw [dc2_turnB]
  refine wpAny_bind (wpAny_standAt (wpAny_bind (wpAny_mono (turn n z hz) (fun r z1 a1 => ?_) fun _ _ q => q)))
  rcases r with _ | v
  · exact wpAny_pure a1
  · refine wpAny_bind (wpAny_mono a1 (fun _ z2 a2 => wpAny_bind (wpAny_mono a2 (fun _ z3 a3 => ?_) fun _ _ q => q)) fun _ _ q => q)
    refine wpAny_bind (wpAny_bind (wpAny_mono a3 (fun kk z4 a4 => ?_) fun _ _ q => q))
    refine wpAny_bind (wpAny_holding (wpAny_mono a4 (fun vv z5 a5 => ?_) fun _ _ q => q))
    exact wpAny_bind (wpAny_standAt (wpAny_holding (wpAny_mono a5 (fun _ z6 a6 => wpAny_pure ⟨rfl, a6⟩) fun _ _ q => q)))
theorem dc2_loopA (hf : ∀ x, foldedSetIterable ib en x = pure x) (Wd : Nat → Shared → Prop) (turn : ∀ n z, Wd n z → wpAny (model pr wl) Ar (pyNext i) (fun r z1 => match r with
      | none => Rz (.ok .next) z1
      | some v => wpAny (model pr wl) Ar (letOwnedTupleGo ta i v) (fun _ z2 => wpAny (model pr wl) Ar (assign ta en v) (fun _ z3 => wpAny (model pr wl) Ar (eval ib en) (fun y z4 => wpAny (model pr wl) Ar (pyIter y) (fun i2 z5 =>
          codeAny (model pr wl) Ar (.compStart (dc2 kx vx ta ia tb ib sc ps) 1 i2 (.ref D) en) (fun o z6 => match o with
            | .ok _ => ∃ m, m < n ∧ Wd m z6
            | .error _ => False) z5) (onE pr wl Ar en Rz) z4) (onE pr wl Ar en Rz) z3) (onE pr wl Ar en Rz) z2) (onE pr wl Ar en Rz) z1) (onE pr wl Ar en Rz) z)
    (n : Nat) (h : Wd n st) : codeAny (model pr wl) Ar (.compLoop (dc2 kx vx ta ia tb ib sc ps) 0 i (.ref D) en) Rz st := by
  refine codeAny_loop rfl Wd (fun n z hz => ?_) n h
  show wpAny _ Ar ((compTurn (dc2 kx vx ta ia tb ib sc ps) 0 i (.ref D) en).onRaise (fun x => do noteFrame x en; theTreesLotGoes x)) _ _ z
  refine wpAny_noted ?_
  rw [dc2_turnA]
  refine wpAny_bind (wpAny_standAt (wpAny_bind (wpAny_mono (turn n z hz) (fun r z1 a1 => ?_) fun _ _ q => q)))
  rcases r with _ | v
  · exact wpAny_pure a1
  · refine wpAny_bind (wpAny_mono a1 (fun _ z2 a2 => wpAny_bind (wpAny_mono a2 (fun _ z3 a3 => ?_) fun _ _ q => q)) fun _ _ q => q)
    refine wpAny_bind (wpAny_mono a3 (fun y z4 a4 => ?_) fun _ _ q => q)
    refine wpAny_bind (wpAny_standAt (wpAny_bind (wpAny_of_eq (hf y) (wpAny_bind (wpAny_holding (wpAny_mono a4 (fun i2 z5 a5 => ?_) fun _ _ q => q))))))
    refine wpAny_bind (wpAny_runOwn ?_)
    rw [Around.mark_none]
    refine codeAny_mono a5 fun o z6 a6 => ?_
    rcases o with e | _
    · exact a6.elim
    · first
        | exact wpAny_pure ⟨rfl, a6⟩
        | exact wpAny_bind (wpAny_pure (wpAny_pure ⟨rfl, a6⟩))
theorem dc2_startB (h0 : codeAny (model pr wl) Ar (.compLoop (dc2 kx vx ta ia tb ib sc ps) 1 i (.ref D) en) Rz st)
    (h : wpAny (model pr wl) Ar (pyIter i) (fun i2 z => codeAny (model pr wl) Ar (.compLoop (dc2 kx vx ta ia tb ib sc ps) 1 i2 (.ref D) en) Rz z) (onE pr wl Ar en Rz) st) :
    codeAny (model pr wl) Ar (.compStart (dc2 kx vx ta ia tb ib sc ps) 1 i (.ref D) en) Rz st := by
  refine codeAny_of_tree ?_
  show wpAny _ _ ((compStart (dc2 kx vx ta ia tb ib sc ps) 1 i (.ref D) en).onRaise (fun x => do noteFrame x en; standAt theWindowsPlace)) _ _ st
  refine wpAny_notedAt ?_
  unfold compStart
  show wpAny _ _ (ask >>= _) _ _ st
  refine wpAny_bind (wpAny_askSetting (wpAny_ite ?_))
  have go2 := fun (i2 : Value) (z : Shared) (q : codeAny (model pr wl) Ar (.compLoop (dc2 kx vx ta ia tb ib sc ps) 1 i2 (.ref D) en) Rz z) => q
  split
  · first
      | exact wpAny_bind (wpAny_pure (wpAny_pure ⟨rfl, h0⟩))
      | exact wpAny_pure ⟨rfl, h0⟩
  · refine wpAny_bind (wpAny_rule ?_)
    show wpAny _ _ (standAt ib.pos >>= _) _ _ st
    exact wpAny_bind (wpAny_standAt (wpAny_bind (wpAny_mono h (fun i2 z q => wpAny_pure ⟨rfl, q⟩) fun _ _ q => q)))
end
/-- d[k] = v by a comprehension, k a tuple -/
theorem put_tuple {X : Cx} {pins : List (Addr × Obj)} {σ : L2.St} {H : Hp} {z : Shared} {E : Value → Shared → Prop} {D q : Addr} {kvs : List (List Key × V)} {k : List Key} {v : V} {kv vv : Value} {Q : Unit → Shared → Prop} (hu : X.A.units < cLine) (I : Inv X pins σ H z)
    (hD : H D = some (.dT kvs)) (hq : H q = some (.tup (k.map kV))) (room : kvs.length < sizeLine) (rk : RelV (.ref q) kv) (rv : RelV v vv) (h : ∀ z', Inv X pins σ (upd H D (.dT (putK kvs k v))) z' → Q () z') :
    wpAny (model X.prog X.w) X.A (dictSet D kv vv) Q E z := by
  obtain rfl : kv = Value.ref q := rk
  obtain ⟨_, sys, xs, rel, at_⟩ := dt_of I.hok hD
  have len := Paired.length rel
  refine wpAny_dictSet_heap (knd := tupleKind (mixKind X.prog X.w)) (hsz := by omega) hu (L2.key_of I.hok hq) at_ fun h' at' same => h _ ?_
  obtain ⟨o, es, ep, g1, g2, g3, g4, _, g5⟩ := at'
  have more := length_putK kvs k v
  refine d_write I (by rw [hD]; trivial) same ⟨o, g1⟩ ⟨by omega, sys, _, (rel.put k hq rv).keeps fun c ys ec => ?_, o, es, ep, g1, g2, g3, g4, g5⟩
  rw [upd_ne (ne_of ec hD (by intro q; cases q))]
  exact ec
/-- the words of it: behind the first clause's store the second source's own walk, from which Nx is reached -/
def tDc2 (wa : TI) (ga : TG) (wb : TI) (gb : TG) (tk tv : TE) (vs vb : List Nat) : TE := fun σ H Q => wa σ H fun J H1 => ∀ D, H1 D = none → ∃ W : Nat → Nat → Hp → Prop, (∃ m, W 0 m (upd H1 D (.dT []))) ∧ ∀ i m H, W i m H →
  (J.stop i H ∧ Q (.ref D) H) ∨ (J.go i H ∧ ∃ Nx : Hp → Prop, (∀ H', Nx H' → ∃ m', m' < m ∧ W (i + 1) m' H') ∧ ∀ x H', J.yld i H x H' → ga x (wipe σ vs) H' fun σ2 H2 => wipe σ2 vs = wipe σ vs ∧
    wb σ2 H2 fun J1 H4 => ∃ W1 : Nat → Nat → Hp → Prop, (∃ m, W1 0 m H4) ∧ ∀ j k H, W1 j k H →
      (J1.stop j H ∧ Nx H) ∨ (J1.go j H ∧ ∃ Ny : Hp → Prop, (∀ H', Ny H' → ∃ k', k' < k ∧ W1 (j + 1) k' H') ∧ ∀ x H', J1.yld j H x H' → gb x (wipe σ2 vb) H' fun σ3 H5 => wipe σ3 vb = wipe σ2 vb ∧
        tk σ3 H5 fun y H6 => tv σ3 H6 fun z H7 => ∃ (kvs : List (List Key × V)) (k : List Key) (q : Addr), y = .ref q ∧ H7 q = some (.tup (k.map kV)) ∧ H7 D = some (.dT kvs) ∧ kvs.length < sizeLine ∧ Ny (upd H7 D (.dT (putK kvs k z)))))
section
variable {X : Cx} {kx vx ta ia tb ib : Expr} {sc : Scope} {own : List (Str × Nat)} {vb : List Nat} {ps ps' : Pos} {wa wb : TI} {ga gb : TG} {tk tv : TE}
/-- the same in every block of the comprehension -/
abbrev InBlk (X : Cx) (sc : Scope) (C : Cx → Prop) : Prop := ∀ (z : Shared) (H : Hp) (A : Addr) (cl : List (Str × Addr)) (fp : List Addr), C (X.blk z H sc (compEnvC sc cl A X.env) fp)
theorem dc2_core {pins : List (Addr × Obj)} {st : Shared} {σ : L2.St} {H : Hp} {Q : VK} {use : Option (Value → Sem Unit)} {Qf : Value → Shared → Prop} (hc : X.calm = true) (hN : X.N.Nodup) (hu : X.A.units < cLine) (I : Inv X pins σ H st) (pa : PI X ta ia wa) (ok : BlkOk X.N X.env.scope sc own) (hv : ∀ i ∈ vb, i ∈ own.map (·.2))
    (pga : InBlk X sc fun B => PG B ta ga) (pib : InBlk X sc fun B => PI B tb ib wb) (pgb : InBlk X sc fun B => PG B tb gb) (pk : InBlk X sc fun B => PE B kx tk) (pv : InBlk X sc fun B => PE B vx tv)
    (fa : ∀ x, foldedSetIterable ia X.env x = pure x) (fb : ∀ env x, foldedSetIterable ib env x = pure x) (h : tDc2 wa ga wb gb tk tv (own.map (·.2)) vb σ H Q)
    (last : ∀ D C z m H', Inv X pins σ H' z → Q (.ref D) H' → z.heap.Ns C m → FpOk X pins H' C → compPost (model X.prog X.w) X.A X.xe use Qf (.ref D) C (.ok .next) z) :
    wpAny (model X.prog X.w) X.A (comprehension (dc2 kx vx ta ia tb ib sc ps) sc X.env ps' newDict false (eval ia X.env) use) Qf X.xe st := by
  have cells : ∀ y ∈ sc.names, y.2 = .free → ∃ c, X.env.cells.lookup y.1 = some c := fun y hy e => (ok.free y hy e).elim (fun k => I.ok.has _ (.inl k)) fun k => I.ok.has _ (.inr k)
  refine wpAny_comprehension_free (use := use) rfl fa (closure_ok cells) ok.kind (fun y hy e => by rw [ok.uniq y hy, e]) (thn (pa.run pins st σ H _ I h) fun src z1 q1 => thn q1 fun itr z2 q2 => ?_)
  obtain ⟨a, fp, tn, J, H2, rfl, I2, T, t2, f2, q⟩ := q2
  refine wpAny_newObj_type (newEnv_comp ?_)
  generalize eD : z2.heap.objs.size = D
  have freeD : H2 D = none := I2.hok.fresh (Nat.le_of_eq eD)
  obtain ⟨W, ⟨m0, w0⟩, turn⟩ := q D freeD
  -- the new dict
  generalize e3 : ({ z2 with heap := z2.heap.push { cls := .type "dict", data := .dict #[] } } : Shared) = z3
  have hp3 : z3.heap = z2.heap.push { cls := .type "dict", data := .dict #[] } := by rw [← e3]
  have I3 : Inv X pins σ (upd H2 D (.dT [])) z3 := by
    rw [← e3, ← eD]
    exact I2.laid (t' := z2.toks) (fun _ _ g => Heap.get?_push_of_some _ g) (Nat.le_refl _) (dt_empty z2.heap I2.big)
  have below : ∀ b ∈ fp, b < D := fun b hb => by
    obtain ⟨o, g, _⟩ := T.obj _ _ t2 b hb
    rw [← eD]
    exact Heap.lt_size g
  have f3 : ∀ b ∈ fp, FpOk X pins (upd H2 D (.dT [])) b ∧ b < z3.heap.objs.size := fun b hb => by
    have lt := below b hb
    refine ⟨⟨?_, (f2 b hb).2⟩, ?_⟩
    · rw [upd_ne (Nat.ne_of_lt lt)]
      exact (f2 b hb).1
    · rw [hp3, Heap.size_push, eD]
      exact Nat.lt_succ_of_lt lt
  have t3 : tn 0 z3.heap := T.keep _ _ _ t2 fun b _ o g => by
    rw [hp3]
    exact Heap.get?_push_of_some _ g
  have I4 := block_start I3 ok hN f3
  have atB : ∀ {C : Cx → Prop}, InBlk X sc C → C (X.blk z3 (upd H2 D (.dT [])) sc (compEnvC sc (cellsFrom (z3.heap.objs.size + 1) sc.names (cloFrom X.env.cells sc.names [])) z3.heap.objs.size X.env) fp) := fun g => g _ _ _ _ _
  have rga := atB pga
  have rib := atB pib
  have rgb := atB pgb
  have rk := atB pk
  have rv := atB pv
  clear atB
  show codeAny _ _ (.compStart (dc2 kx vx ta ia tb ib sc ps) 0 (.ref a) (.ref D) (compEnvC sc (cellsFrom (z3.heap.objs.size + 1) sc.names (cloFrom X.env.cells sc.names [])) z3.heap.objs.size X.env)) (compPost (model X.prog X.w) X.A X.xe use Qf (.ref D) z3.heap.objs.size) { z3 with heap := pushCells (z3.heap.push { cls := .type "dict", data := .dict #[] }) sc.names }
  have off : ∀ b ∈ fp, (upd H2 D (.dT [])) b = none := fun b hb => (f3 b hb).1.1
  generalize eE : compEnvC sc (cellsFrom (z3.heap.objs.size + 1) sc.names (cloFrom X.env.cells sc.names [])) z3.heap.objs.size X.env = en at I4 rga rib rgb rk rv ⊢
  have loc : en.locals = z3.heap.objs.size := by rw [← eE]; rfl
  generalize eH : upd H2 D (.dT []) = H3 at I3 I4 rga rib rgb rk rv w0 off f3
  generalize e4 : ({ z3 with heap := pushCells (z3.heap.push { cls := .type "dict", data := .dict #[] }) sc.names } : Shared) = z4 at I4 ⊢
  have t4 : tn 0 z4.heap := T.keep _ _ _ t3 fun b _ o g => by
    rw [← e4]
    exact pushCells_keeps _ _ _ _ (Heap.get?_push_of_some _ g)
  -- what stands still in the block
  have stands : ∀ {σ' : L2.St} {H' : Hp} {z' : Shared}, Inv (X.blk z3 H3 sc en fp) [] σ' H' z' → (∀ b ∈ fp, H' b = none) → ∀ b ∈ fp, FpOk (X.blk z3 H3 sc en fp) [] H' b := fun {σ' H' z'} J' g b hb => by
    have x := J'.ok.exf b hb
    refine ⟨g b hb, x.1, J'.ok.exfs b hb, .inl hb, fun y c e => x.2 y c e, fun p hp => ?_⟩
    cases hp
  have whole : codeAny (model X.prog X.w) X.A (.compLoop (dc2 kx vx ta ia tb ib sc ps) 0 (.ref a) (.ref D) en) (compPost (model X.prog X.w) X.A X.xe use Qf (.ref D) z3.heap.objs.size) z4 := by
    refine dc2_loopA (fb en) (fun n z => ∃ i H', Inv (X.blk z3 H3 sc en fp) [] (wipe σ (own.map (·.2))) H' z ∧ tn i z.heap ∧ (∀ b ∈ fp, H' b = none) ∧ W i n H') ?_ m0 ⟨0, H3, I4, t4, off, w0⟩
    rintro n z5 ⟨i, H5, I5, t5, n5, w5⟩
    rcases turn i n H5 w5 with ⟨halt, hq⟩ | ⟨go, Nx, hNx, next⟩
    · refine thnF (T.done (X.blk z3 H3 sc en fp) rfl rfl rfl hc i [] z5 _ H5 (fun _ _ => False) I5 (stands I5 n5) t5 halt) fun r z6 ⟨er, I6⟩ => ?_
      subst er
      have I7 : Inv X pins σ H5 z6 := I3.call' (ch := fp) I6.os I6.base I6.hok I6.bare fun b hb => by
        obtain ⟨⟨_, u1, u2, u3, u4⟩, _⟩ := f3 b hb
        exact ⟨u3, u1, u4.1, u4.2⟩
      have fr : H5 z3.heap.objs.size = none := by
        rw [← loc]
        exact I6.free
      obtain ⟨m, ns, _⟩ := I6.loc
      have ns : z6.heap.Ns en.locals m := ns
      rw [loc] at ns
      exact last D z3.heap.objs.size z6 m H5 I7 hq ns (I3.fpOk (Nat.le_refl _) fr)
    · refine thnF (T.item (X.blk z3 H3 sc en fp) rfl rfl rfl hc i [] z5 _ H5 (fun _ _ => False) I5 (stands I5 n5) t5 go) fun r z6 ⟨u, er, q6⟩ => ?_
      subst er
      refine thnF q6 fun _ z7 ⟨x, H7, I7, r7, y7, t7, n7⟩ => ?_
      refine thnF (rga.run _ z7 _ H7 x u _ (I7.pinned (stands I7 n7) (T.obj _ _ t7)) r7 (next x H7 y7)) fun _ z8 ⟨σ8, H8, I8, ew, q8⟩ => ?_
      have el : (wipe σ (own.map (·.2))).length = σ8.length := by rw [← ew, wipe_length]
      have ek : ∀ (j : Nat) v, (wipe σ (own.map (·.2)))[j]? = some (some v) → (wipe σ8 vb)[j]? = some (some v) := fun j v e => by
        rw [← ew] at e
        obtain ⟨g1, g2⟩ := wipe_some e
        rw [wipe_out fun m => g2 (hv j m), g1]
      -- back to the outer turn
      have back : ∀ {z' : Shared} {H' : Hp}, Inv (X.blk z3 H3 sc en fp) ([] ++ pinsAt fp z7.heap) (wipe σ8 vb) H' z' → Nx H' → ∃ m, m < n ∧ ∃ i H', Inv (X.blk z3 H3 sc en fp) [] (wipe σ (own.map (·.2))) H' z' ∧ tn i z'.heap ∧ (∀ b ∈ fp, H' b = none) ∧ W i m H' := fun {z' H'} J' nx => by
        obtain ⟨m', lt, w'⟩ := hNx H' nx
        have pin : ∀ b ∈ fp, ∀ o, z7.heap.get? b = some o → z'.heap.get? b = some o ∧ H' b = none := fun b hb o e => by
          have g := J'.pin (b, o) (List.mem_append_right _ (List.mem_append_right _ (mem_pinsAt hb e)))
          exact ⟨g.1, g.2.1⟩
        refine ⟨m', lt, i + 1, H', (J'.unpinned (pins := [])).weak (el.trans (wipe_length σ8 vb).symm) ek, T.keep _ _ _ t7 (fun b hb o e => (pin b hb o e).1), fun b hb => ?_, w'⟩
        obtain ⟨o, e, _⟩ := T.obj _ _ t7 b hb
        exact (pin b hb o e).2
      refine thnF (rib.run _ z8 σ8 H8 _ I8 q8) fun src2 z9 q9 => thnF q9 fun itr2 z10 q10 => ?_
      obtain ⟨a2, fp2, tn2, J2, H10, rfl, I10, T2, t10, f10, W2, ⟨m2, w2⟩, turn2⟩ := q10
      have stands2 : ∀ {H' : Hp}, (∀ b ∈ fp2, H' b = none) → ∀ b ∈ fp2, FpOk (X.blk z3 H3 sc en fp) ([] ++ pinsAt fp z7.heap) H' b := fun g b hb => ⟨g b hb, (f10 b hb).2⟩
      have inner : codeAny (model X.prog X.w) X.A (.compLoop (dc2 kx vx ta ia tb ib sc ps) 1 (.ref a2) (.ref D) en) (fun o z' => match o with
          | .ok _ => ∃ m, m < n ∧ ∃ i H', Inv (X.blk z3 H3 sc en fp) [] (wipe σ (own.map (·.2))) H' z' ∧ tn i z'.heap ∧ (∀ b ∈ fp, H' b = none) ∧ W i m H'
          | .error _ => False) z10 := by
        refine dc2_loopB (fun k z => ∃ j H', Inv (X.blk z3 H3 sc en fp) ([] ++ pinsAt fp z7.heap) (wipe σ8 vb) H' z ∧ tn2 j z.heap ∧ (∀ b ∈ fp2, H' b = none) ∧ W2 j k H') ?_ m2 ⟨0, H10, I10.weak (wipe_length _ _) (fun j v e => (wipe_some e).1), t10, fun b hb => (f10 b hb).1, w2⟩
        rintro k z11 ⟨j, H11, I11, t11, n11, w11⟩
        rcases turn2 j k H11 w11 with ⟨halt2, nx2⟩ | ⟨go2, Ny, hNy, next2⟩
        · refine thnF (T2.done (X.blk z3 H3 sc en fp) rfl rfl rfl hc j _ z11 (wipe σ8 vb) H11 (fun _ _ => False) I11 (stands2 n11) t11 halt2) fun r z12 ⟨er, I12⟩ => ?_
          subst er
          exact back I12 nx2
        · refine thnF (T2.item (X.blk z3 H3 sc en fp) rfl rfl rfl hc j _ z11 (wipe σ8 vb) H11 (fun _ _ => False) I11 (stands2 n11) t11 go2) fun r z12 ⟨u2, er, q12⟩ => ?_
          subst er
          refine thnF q12 fun _ z13 ⟨x2, H13, I13, r13, y13, t13, n13⟩ => ?_
          refine thnF (rgb.run _ z13 (wipe σ8 vb) H13 x2 u2 _ (I13.pinned (stands2 n13) (T2.obj _ _ t13)) r13 (next2 x2 H13 y13)) fun _ z14 ⟨σ14, H14, I14, ew2, q14⟩ => ?_
          refine thnF (rk.run _ z14 σ14 H14 _ I14 q14) fun kv z15 ⟨yk, H15, I15, r15, q15⟩ => ?_
          refine thnF (rv.run _ z15 σ14 H15 _ I15 q15) fun vv z16 ⟨yv, H16, I16, r16, kvs, key, qq, ey, hqq, hDD, room, ny⟩ => ?_
          subst ey
          refine put_tuple (X := X.blk z3 H3 sc en fp) hu I16 hDD hqq room r15 r16 fun z17 I17 => ?_
          obtain ⟨m', lt, w'⟩ := hNy _ ny
          have pin : ∀ b ∈ fp2, ∀ o, z13.heap.get? b = some o → z17.heap.get? b = some o ∧ _ := fun b hb o e => by
            have g := I17.pin (b, o) (List.mem_append_right _ (List.mem_append_right _ (mem_pinsAt hb e)))
            exact ⟨g.1, g.2.1⟩
          refine ⟨m', lt, j + 1, _, I17.unpinned.weak (by rw [← ew2, wipe_length]) (fun j v e => by rw [← ew2] at e; exact (wipe_some e).1), T2.keep _ _ _ t13 (fun b hb o e => (pin b hb o e).1), fun b hb => ?_, w'⟩
          obtain ⟨o, e, _⟩ := T2.obj _ _ t13 b hb
          exact (pin b hb o e).2
      exact dc2_startB inner (T2.self X.A 0 _ _ _ t10 inner)
  exact codeAny_compStart_dict whole (T.self X.A 0 _ _ _ t4 whole)
/-- as a value -/
theorem pe_dc2 (hc : X.calm = true) (hN : X.N.Nodup) (hu : X.A.units < cLine) (pa : PI X ta ia wa) (ok : BlkOk X.N X.env.scope sc own) (hv : ∀ i ∈ vb, i ∈ own.map (·.2)) (pga : InBlk X sc fun B => PG B ta ga) (pib : InBlk X sc fun B => PI B tb ib wb) (pgb : InBlk X sc fun B => PG B tb gb) (pk : InBlk X sc fun B => PE B kx tk) (pv : InBlk X sc fun B => PE B vx tv)
    (fa : ∀ x, foldedSetIterable ia X.env x = pure x := by intro _; rfl) (fb : ∀ env x, foldedSetIterable ib env x = pure x := by intro _ _; rfl) : PE X (dc2 kx vx ta ia tb ib sc ps) (tDc2 wa ga wb gb tk tv (own.map (·.2)) vb) := by
  refine ⟨fun pins st σ H Q I h => ?_⟩
  rw [arm_eval_DictComp]
  refine dc2_core hc hN hu I pa ok hv pga pib pgb pk pv fa fb h fun D C z m H' I' q hn f => ⟨m, hn, fun h2 sb => ?_⟩
  obtain ⟨g0, g1, _, g3, g4, g5⟩ := f
  exact ⟨.ref D, H', I'.turned (t' := z.toks) (fun b o hb e => (sb.2 b hb).trans e) g0 g1 g3 g4 g5, rfl, q⟩
theorem dc2_swaps {kx vx : Expr} {gs : List Comprehension} {sc : Scope} {ps py : Pos} {y : Str} {l : Nat} {en : Env} (hk : en.scope.kind = .function) (hy : en.scope.names.lookup y = some .local) (hl : (py.line == ps.line) = true) (ha : (sc.names.any fun (n, k) => n == y && (k == .local || k == .cell)) = false) : swapsWith (.DictComp kx vx gs sc ps) (some (.Name y py)) l en = pure true := by
  have e1 : en.kindOf y = some .local := hy
  have e2 : en.blockKind = .function := by
    unfold Env.blockKind
    rw [hk]
    rfl
  unfold swapsWith
  simp only [e1, e2, ha, hl, Expr.pos]
  rfl
/-- y = the comprehension -/
theorem ps_setDc2 {n : Nat} {y : Str} {py pz : Pos} (hc : X.calm = true) (hN : X.N.Nodup) (hy : X.N[n]? = some y) (hl : X.env.scope.names.lookup y = some .local) (sw : swapsWith (dc2 kx vx ta ia tb ib sc ps) (some (.Name y py)) pz.line X.env = pure true) (hu : X.A.units < cLine) (pa : PI X ta ia wa) (ok : BlkOk X.N X.env.scope sc own) (hv : ∀ i ∈ vb, i ∈ own.map (·.2))
    (pga : InBlk X sc fun B => PG B ta ga) (pib : InBlk X sc fun B => PI B tb ib wb) (pgb : InBlk X sc fun B => PG B tb gb) (pk : InBlk X sc fun B => PE B kx tk) (pv : InBlk X sc fun B => PE B vx tv) (fa : ∀ x, foldedSetIterable ia X.env x = pure x := by intro _; rfl) (fb : ∀ env x, foldedSetIterable ib env x = pure x := by intro _ _; rfl) :
    PS X (.Assign [.Name y py] (dc2 kx vx ta ia tb ib sc ps) pz) (tAsg (tDc2 wa ga wb gb tk tv (own.map (·.2)) vb) (gName n)) := by
  refine ⟨fun pins st σ H De I h => ?_⟩
  rw [exec_Assign_Name_used _ _ _ _ sw]
  refine wpAny_bind (wpAny_standAt (wpAny_bind ?_))
  show wpAny _ X.A (do let _ ← comprehension (dc2 kx vx ta ia tb ib sc ps) sc X.env (firstIterPos [⟨ta, ia, [], 0⟩, ⟨tb, ib, [], 0⟩] ps) newDict false (eval ia X.env) (some (assign (.Name y py) X.env))) _ _ st
  have h : tDc2 wa ga wb gb tk tv (own.map (·.2)) vb σ H (fun x H1 => gName n x σ H1 De.nx) := h
  refine wpAny_bind (thn (dc2_core (Qf := fun _ z => SP X pins De .next z) hc hN hu I pa ok hv pga pib pgb pk pv fa fb h fun L C z m H' J q ns f => ?_) fun _ z hq => wpAny_pure (wpAny_pure hq))
  show wpAny _ _ (assign (.Name y py) X.env (.ref L)) _ _ _
  refine wpAny_assign_Name (store_ok2 (v := V.ref L) J hN hy (.inl hl) rfl (fun z2 J2 ⟨c, sb, hc2⟩ => ?_) (.inr hl))
  obtain ⟨g0, g1, _, g3, g4, g5⟩ := f
  have apart : C ≠ c := by
    rcases hc2 with e | e
    · rw [e]
      exact g1
    · exact fun e2 => g4 y c e e2.symm
  exact ⟨m, ns.sameBut sb apart, fun h3 sb3 => ⟨_, H', J2.turned (t' := z2.toks) (fun b o hb e => (sb3.2 b hb).trans e) g0 g1 g3 g4 g5, q⟩⟩
end
end Y

/-! enumerate of a tuple -/
namespace PySem
open Sem (wp)
open AutoSeq1 (wpAny_loadPart')
theorem enumT_new (l : Addr) (its : Array Value) (n : Nat) (dd : Option Addr) (sl : Array (Option Value)) :
    Meets (Builtin.«enumerate.__new__» ⟨[.type "enumerate", .ref l], []⟩) (fun _ R z => z.heap.get? l = some ⟨.type "tuple", dd, .seq its n, sl⟩ ∧
      R (.ok (.ret (.ref (z.heap.push { cls := .type "tuple_iterator", data := .fields #[.ref l, .int 0 0] }).objs.size)))
        { z with heap := (z.heap.push { cls := .type "tuple_iterator", data := .fields #[.ref l, .int 0 0] }).push { cls := .type "enumerate", data := .fields #[.none, .bool false, .ref z.heap.objs.size, rawInt 0, .none, .none] } }) :=
  .of_wp fun prog w A R z h => by
    obtain ⟨hp, g, d, tk, os⟩ := z
    obtain ⟨hl, h⟩ := h
    have hsub := sub_enumerate
    have isT : Heap.IsTuple (Shared.heap ⟨hp, g, d, tk, os⟩) l its := ⟨_, hl, rfl, n, rfl⟩
    wp_walk using wpAny_loadPart' hl
    refine wpAny_stack_any fun st => wpAny_pure ?_
    split
    · rename_i c _ _ _ _ _
      cases (c == Value.type "enumerate") <;> (wp_walk using wpAny_loadPart' hl, wpAny_pyIter_tuple isT; exact ⟨_, rfl, h⟩)
    · wp_walk using wpAny_loadPart' hl, wpAny_pyIter_tuple isT
      exact ⟨_, rfl, h⟩
section
variable {pr : Program} {wl : World} {Ar : Around} {E : Value → Shared → Prop} {z : Shared}
theorem call_enumT {l : Addr} {its : Array Value} {Q : Value → Shared → Prop} (hT : z.heap.IsTuple l its)
    (h : ∀ h', IsEnum h' (z.heap.objs.size + 1) z.heap.objs.size 0 .none → h'.IsTupleIter z.heap.objs.size l 0 → (∀ b o, z.heap.get? b = some o → h'.get? b = some o) → Q (.ref (z.heap.objs.size + 1)) { z with heap := h' }) :
    wpAny (model pr wl) Ar (call (.type "enumerate") [.ref l]) Q E z := by
  obtain ⟨⟨c, dd, da, sl⟩, hl, e1, n, e2⟩ := hT
  obtain rfl : c = .type "tuple" := e1
  obtain rfl : da = .seq its n := e2
  refine callType_new F.called_enumerate (by decide) (F.typeCall_enumerate_1 _) (F.newCall_enumerate_1 _) (fun obj => F.args_object_init_2 obj _) F.entry_enumerate_new (enumT_new l its n dd sl) ⟨hl, ?_⟩
  generalize hi : z.heap.push { cls := .type "tuple_iterator", data := .fields #[.ref l, .int 0 0] } = h1
  have sz : h1.objs.size = z.heap.objs.size + 1 := by rw [← hi]; exact Heap.size_push ..
  have old : ∀ b o, z.heap.get? b = some o → h1.get? b = some o := fun b o e => by rw [← hi]; exact Heap.get?_push_of_some _ e
  have itr : h1.get? z.heap.objs.size = some { cls := .type "tuple_iterator", data := .fields #[.ref l, .int 0 0] } := by rw [← hi]; exact Heap.get?_push_size _ rfl
  generalize hj : h1.push { cls := .type "enumerate", data := .fields #[.none, .bool false, .ref z.heap.objs.size, rawInt 0, .none, .none] } = h2
  have old2 : ∀ b o, h1.get? b = some o → h2.get? b = some o := fun b o e => by rw [← hj]; exact Heap.get?_push_of_some _ e
  have en : IsEnum h2 (z.heap.objs.size + 1) z.heap.objs.size 0 .none := by
    have g := Heap.get?_push_size h1 (o := { cls := .type "enumerate", data := .fields #[.none, .bool false, .ref z.heap.objs.size, rawInt 0, .none, .none] }) rfl
    rw [hj, sz] at g
    exact g
  show _ ∧ _
  rw [sz]
  exact ⟨⟨_, en, rfl⟩, h h2 en ⟨_, old2 _ _ itr, rfl, rfl⟩ fun b o e => old2 _ _ (old _ _ e)⟩
theorem draws_tup (hh : Ar.handled = none) {it t : Addr} (ne : t ≠ it) (its : Array Value) : Draws pr wl Ar it [it, t] its.size (fun i v => its[i]? = some v) (fun i h => h.IsTupleIter it t i ∧ h.IsTuple t its) where
  live := fun _ _ st => let ⟨o, e, _⟩ := st.1; ⟨o, e⟩
  frame := fun i h h' st k => by
    obtain ⟨⟨o, e, r⟩, ⟨o2, e2, r2⟩⟩ := st
    exact ⟨⟨o, k it (by simp) _ e, r⟩, ⟨o2, k t (by simp) _ e2, r2⟩⟩
  item := fun i z Q E hi st hQ => by
    have hx : its[i]? = some its[i] := Array.getElem?_eq_getElem hi
    refine wpAny_nextOf_tuple_item st.1 st.2 hx fun h' a b => ?_
    obtain ⟨o2, e2, r2⟩ := st.2
    exact hQ _ h' z.toks hx ⟨a, ⟨o2, (b.2 t ne).trans e2, r2⟩⟩ b
  done := fun z Q E st hE => wpAny_nextOf_tuple_end hh st.1 st.2 (Array.getElem?_eq_none (Nat.le_refl _)) fun h' e a b => hE h' e a b
end
end PySem
namespace Y
open PySem PySem.Spec PyProof.Rows L2
/-- enumerate(t), t a tuple: each item in a new pair -/
def IteT (K : PySem.W.Frag) (a : Addr) : It where
  go i H := ∃ (xs : List V) (x : V), SqT K H a xs ∧ xs[i]? = some x
  yld i H v H' := ∃ T x, v = .ref T ∧ H T = none ∧ H' = upd H T (.tup [.int (i : Nat), x]) ∧ ∀ xs, SqT K H a xs → xs[i]? = some x
  stop i H := ∃ xs : List V, SqT K H a xs ∧ xs.length = i
theorem turn_enumT {P : Program} {w : World} {K : PySem.W.Frag} {els : List Expr} {n : Nat} {tp : Pos} (a e it : Addr) :
    Turn P w K (.Tuple els n tp) (IteT K a) [e, it] e (fun i h => (∃ old, IsEnum h e it ((i : Nat) : Int) old) ∧ h.IsTupleIter it a i ∧ e ≠ it ∧ a ≠ it ∧ a ≠ e) where
  mem := List.mem_cons_self
  obj := by
    rintro i h ⟨⟨old, he⟩, ⟨o, ho, _, hd⟩, _⟩ b hb
    rcases List.mem_cons.mp hb with rfl | hb
    · exact ⟨_, he, fun v q => nomatch q⟩
    · rw [List.mem_singleton.mp hb]
      exact ⟨o, ho, fun v q => by rw [hd] at q; cases q⟩
  keep := by
    rintro i h h' ⟨⟨old, he⟩, hi, r⟩ k
    exact ⟨⟨old, k e (by simp) _ he⟩, hi.at fun o q => k it (by simp) o q, r⟩
  item := by
    rintro X rfl rfl rfl hc i pins s σ H E I hf ⟨⟨old, he⟩, hi, n1, n2, n3⟩ ⟨xs, x, hq, hx⟩
    obtain ⟨its, rv, p, hz⟩ := I.tuple hq
    obtain ⟨u, hu, ru⟩ := rv.get hx
    have hT : s.heap.IsTuple a its.toArray := p
    have le := Heap.lt_size he
    have li : it < s.heap.objs.size := by
      obtain ⟨_, g, _⟩ := hi
      exact Heap.lt_size g
    have hlt : i < its.toArray.size := by
      rw [List.size_toArray]
      exact (List.getElem?_eq_some_iff.mp hu).1
    refine wpAny_pyNext_enum_itemD (draws_tup (show (X.A.in1).handled = none from I.ok.hd hc) n2 its.toArray) he ⟨hi, hT⟩ hlt n1 (by simp [n1, Ne.symm n3]) fun y h' tk hy ho st' hTu hsz hk => ?_
    have ey : y = u := by
      have h1 : its[i]? = some y := by simpa using hy
      rw [hu] at h1
      exact (Option.some.inj h1).symm
    subst ey
    refine ⟨_, rfl, wpAny_letOwnedTupleGo_enum (s := { s with heap := h', toks := tk + 1 }) ho fun h2 he2 sb => ?_⟩
    have hT2 : h2.get? s.heap.objs.size = some { cls := .type "tuple", data := .seq #[.int i tk, y] } := (sb.2 _ (Nat.ne_of_gt le)).trans hTu
    have new : ObjOk X.prog X.w (upd H s.heap.objs.size (.tup [.int (i : Nat), x])) h2 s.heap.objs.size (.tup [.int (i : Nat), x]) := ⟨by show 2 ≤ sizeLine; decide, [.int i tk, y], .cons ⟨_, rfl⟩ (.cons ru .nil), ⟨_, hT2, rfl, _, rfl⟩⟩
    have I1 : Inv X pins σ (upd H s.heap.objs.size (.tup [.int (i : Nat), x])) { s with heap := h2, toks := tk + 1 } := by
      refine I.turnedNew (ch := [e, it]) (fun b ob hb q => ?_) hf (Nat.le_refl _) new
      have be : b ≠ e := fun z => hb (by simp [z])
      have bi : b ≠ it := fun z => hb (by simp [z])
      exact (sb.2 b be).trans (hk b ob be bi q)
    refine ⟨.ref s.heap.objs.size, _, I1, rfl, ⟨_, x, rfl, I.hok.fresh (Nat.le_refl _), rfl, fun ys hy => by rw [I.tuple_inj hy hq]; exact hx⟩, ⟨⟨y, ?_⟩, st'.1.at fun o q => (sb.2 it (Ne.symm n1)).trans q, n1, n2, n3⟩, fun b hb => ?_⟩
    · rw [show ((i + 1 : Nat) : Int) = (i : Int) + 1 by omega]
      exact he2
    · have hb' : b < s.heap.objs.size := by
        rcases List.mem_cons.mp hb with rfl | hb
        · exact le
        · rw [List.mem_singleton.mp hb]
          exact li
      rw [upd_ne (Nat.ne_of_lt hb')]
      exact (hf b hb).1
  done := by
    rintro X rfl rfl rfl hc i pins s σ H E I hf ⟨⟨old, he⟩, hi, n1, n2, n3⟩ ⟨xs, hq, hx⟩
    obtain ⟨its, rv, p, hz⟩ := I.tuple hq
    have hT : s.heap.IsTuple a its.toArray := p
    obtain ⟨f0, f1, f2, f3, f4, f5⟩ := hf it (by simp)
    have hl : i = its.toArray.size := by rw [List.size_toArray, ← rv.length, hx]
    refine wpAny_pyNext_enum_endD (draws_tup (show (X.A.in1).handled = none from I.ok.hd hc) n2 its.toArray) he (by rw [← hl]; exact ⟨hi, hT⟩) fun h' eb => ?_
    exact ⟨rfl, I.turned (t' := s.toks) (fun b o hb q => eb b o hb q) f0 f1 f3 f4 f5⟩
  self := fun A i s Q E st h => by
    obtain ⟨⟨_, he⟩, _⟩ := st
    exact wpAny_pyIter_enum he h
theorem walk_enumT {K : PySem.W.Frag} {a : Addr} {xs : List V} : Walk (IteT K a) xs.length (fun H => SqT K H a xs) (YPair (fun i => some (.int (i : Nat))) (fun i => xs[i]?)) where
  goes := fun i _ hi g => ⟨xs, xs[i], g, List.getElem?_eq_getElem hi⟩
  stops := fun _ g => ⟨xs, g, rfl⟩
  yields := fun _ _ _ _ _ g hy => by
    obtain ⟨T, x, ev, nT, eH, hx⟩ := hy
    exact ⟨T, _, x, ev, nT, eH, rfl, hx xs g⟩
def iEnumT (K : PySem.W.Frag) (ta : TA) : TI := fun σ H R => ta σ H fun vs H1 => ∃ a xs, vs = [.ref a] ∧ SqT K H1 a xs ∧ R (IteT K a) H1
/-- enumerate(a list or a tuple) -/
def iEnumA (K : PySem.W.Frag) (ta : TA) : TI := fun σ H R => iEnum K ta σ H R ∨ iEnumT K ta σ H R
theorem pi_enumT {X : Cx} {e : Expr} {ta : TA} {p pos tp : Pos} {els : List Expr} {n : Nat} (hg : Gl X "enumerate") (hm : X.mg "enumerate" = none) (ha : PA X [e] ta) (hs : starEach [e] X.env = [(false, eval e X.env)] := by rfl) : PI X (.Tuple els n tp) (.Call (.Name "enumerate" p) [e] [] pos) (iEnumT X.K ta) := by
  refine ⟨fun pins s σ H R I h => Call_ (ld_blt I hg hm boot_enumerate (PyProof.Rows.callWith_type1 (thn (ha.run pos pins s σ H _ I h) fun us s1 ⟨vs, H1, I1, r1, q1⟩ => ?_) hs rfl))⟩
  obtain ⟨a, xs, rfl, hq, q⟩ := q1
  rcases r1 with _ | ⟨r, rr⟩
  cases rr
  cases r
  obtain ⟨its, rv, p', hz⟩ := I1.tuple hq
  have hT : s1.heap.IsTuple a its.toArray := p'
  have la : a < s1.heap.objs.size := by
    obtain ⟨_, g, _⟩ := hT
    exact Heap.lt_size g
  refine call_enumT hT fun h' he hit hk => wpAny_pyIter_enum he ?_
  refine ⟨s1.heap.objs.size + 1, [s1.heap.objs.size + 1, s1.heap.objs.size], _, _, H1, rfl, I1.kept (t' := s1.toks) hk, turn_enumT a (s1.heap.objs.size + 1) s1.heap.objs.size, ⟨⟨.none, he⟩, hit, Nat.succ_ne_self _, Nat.ne_of_lt la, Nat.ne_of_lt (Nat.lt_succ_of_lt la)⟩, fun b hb => ?_, q⟩
  have up : s1.heap.objs.size ≤ b := by
    rcases List.mem_cons.mp hb with rfl | hb
    · exact Nat.le_succ _
    · rw [List.mem_singleton.mp hb]
      exact Nat.le_refl _
  exact I1.fpOk up (I1.hok.fresh up)
theorem pi_enumA {X : Cx} {K : PySem.W.Frag} {e : Expr} {ta : TA} {p pos tp : Pos} {els : List Expr} {n : Nat} (hg : Gl X "enumerate") (hm : X.mg "enumerate" = none) (ha : PA X [e] ta) (eK : X.K = K := by rfl) (hs : starEach [e] X.env = [(false, eval e X.env)] := by rfl) : PI X (.Tuple els n tp) (.Call (.Name "enumerate" p) [e] [] pos) (iEnumA K ta) := by
  subst eK
  exact ⟨fun pins s σ H R I h => h.elim (fun h => (pi_enum hg hm ha hs).run pins s σ H R I h) fun h => (pi_enumT hg hm ha hs).run pins s σ H R I h⟩
end Y

/-! the two walks of a dict comprehension of two clauses -/
namespace Y
open PySem PySem.Spec PyProof.Rows L2
section
variable {J : It} {n : Nat} {G : Hp → Prop} {Yw : Nat → Hp → V → Hp → Prop} {ga gb : TG} {wb : TI} {tk tv : TE} {vs vb : List Nat} {σ σ2 : L2.St} {H1 : Hp} {D : Addr} {Qd Nx : Hp → Prop}
/-- what follows an item of the second source -/
abbrev dcTail (gb : TG) (tk tv : TE) (vb : List Nat) (σ2 : L2.St) (D : Addr) (x : V) (H' : Hp) (Ny : Hp → Prop) : Prop := gb x (wipe σ2 vb) H' fun σ3 H5 => wipe σ3 vb = wipe σ2 vb ∧
  tk σ3 H5 fun y H6 => tv σ3 H6 fun z H7 => ∃ (kvs : List (List Key × V)) (k : List Key) (q : Addr), y = .ref q ∧ H7 q = some (.tup (k.map kV)) ∧ H7 D = some (.dT kvs) ∧ kvs.length < sizeLine ∧ Ny (upd H7 D (.dT (putK kvs k z)))
/-- the second source's walk -/
abbrev dcIn (J1 : It) (gb : TG) (tk tv : TE) (vb : List Nat) (σ2 : L2.St) (D : Addr) (Nx : Hp → Prop) (H4 : Hp) : Prop := ∃ W1 : Nat → Nat → Hp → Prop, (∃ m, W1 0 m H4) ∧ ∀ j k H, W1 j k H →
  (J1.stop j H ∧ Nx H) ∨ (J1.go j H ∧ ∃ Ny : Hp → Prop, (∀ H', Ny H' → ∃ k', k' < k ∧ W1 (j + 1) k' H') ∧ ∀ x H', J1.yld j H x H' → dcTail gb tk tv vb σ2 D x H' Ny)
theorem dc_in (w : Walk J n G Yw) (Pw : Nat → Hp → Prop) {H4 : Hp} (h0 : Pw 0 H4) (hG : ∀ i H, i ≤ n → Pw i H → G H) (hs : ∀ i x H H', i < n → Pw i H → Yw i H x H' → dcTail gb tk tv vb σ2 D x H' (Pw (i + 1))) (hd : ∀ H, Pw n H → Nx H) : dcIn J gb tk tv vb σ2 D Nx H4 := by
  refine ⟨fun j k H => j + k = n ∧ Pw j H, ⟨n, by omega, h0⟩, ?_⟩
  rintro j k H ⟨e, p⟩
  by_cases c : j < n
  · exact .inr ⟨w.goes j H c (hG j H (by omega) p), Pw (j + 1), fun H' p' => ⟨k - 1, by omega, by omega, p'⟩, fun x H' y => hs j x H H' c p (w.yields j H x H' c (hG j H (by omega) p) y)⟩
  · obtain rfl : j = n := by omega
    exact .inl ⟨w.stops H (hG j H (Nat.le_refl _) p), hd H p⟩
theorem dc_out (w : Walk J n G Yw) (Pv : Nat → Hp → Prop) (h0 : Pv 0 (upd H1 D (.dT []))) (hG : ∀ i H, i ≤ n → Pv i H → G H)
    (hs : ∀ i x H H', i < n → Pv i H → Yw i H x H' → ga x (wipe σ vs) H' fun σ2 H2 => wipe σ2 vs = wipe σ vs ∧ wb σ2 H2 fun J1 H4 => dcIn J1 gb tk tv vb σ2 D (Pv (i + 1)) H4) (hd : ∀ H, Pv n H → Qd H) :
    ∃ W : Nat → Nat → Hp → Prop, (∃ m, W 0 m (upd H1 D (.dT []))) ∧ ∀ i m H, W i m H →
      (J.stop i H ∧ Qd H) ∨ (J.go i H ∧ ∃ Nx : Hp → Prop, (∀ H', Nx H' → ∃ m', m' < m ∧ W (i + 1) m' H') ∧ ∀ x H', J.yld i H x H' → ga x (wipe σ vs) H' fun σ2 H2 => wipe σ2 vs = wipe σ vs ∧ wb σ2 H2 fun J1 H4 => dcIn J1 gb tk tv vb σ2 D Nx H4) := by
  refine ⟨fun j k H => j + k = n ∧ Pv j H, ⟨n, by omega, h0⟩, ?_⟩
  rintro j k H ⟨e, p⟩
  by_cases c : j < n
  · exact .inr ⟨w.goes j H c (hG j H (by omega) p), Pv (j + 1), fun H' p' => ⟨k - 1, by omega, by omega, p'⟩, fun x H' y => hs j x H H' c p (w.yields j H x H' c (hG j H (by omega) p) y)⟩
  · obtain rfl : j = n := by omega
    exact .inl ⟨w.stops H (hG j H (Nat.le_refl _) p), hd H p⟩
end
theorem for_enumA {K : PySem.W.Frag} {ta : TA} {σ0 : L2.St} {H0 : Hp} {a : Addr} {xs : List V} {g : TG} {tb : TS} {D : Ends} (h : H0 a = some (.lst xs) ∨ H0 a = some (.tup xs)) (ht : ∀ R : List V → Hp → Prop, R [.ref a] H0 → ta σ0 H0 R) (Pv : Nat → L2.St → Hp → Prop) (h0 : Pv 0 σ0 H0)
    (hG : ∀ i σ H, i ≤ xs.length → Pv i σ H → ∀ o, H0 a = some o → H a = some o)
    (hs : ∀ i x T σ H, xs[i]? = some x → Pv i σ H → H T = none → g (.ref T) σ (upd H T (.tup [.int (i : Nat), x])) fun σ2 H2 => tb { D with nx := Pv (i + 1), ct := Pv (i + 1), bk := D.nx } σ2 H2) (hd : ∀ σ H, Pv xs.length σ H → D.nx σ H) :
    tFor (iEnumA K ta) g tb D σ0 H0 := by
  have turn : ∀ i x σ H H', i < xs.length → Pv i σ H → YPair (fun i => some (.int (i : Nat))) (fun i => xs[i]?) i H x H' → g x σ H' fun σ2 H2 => tb { D with nx := Pv (i + 1), ct := Pv (i + 1), bk := D.nx } σ2 H2 := by
    rintro i x σ H H' hi p ⟨T, u, v, rfl, nT, rfl, eu, ev⟩
    obtain rfl : V.int (i : Nat) = u := Option.some.inj eu
    exact hs i v T σ H ev p nT
  rcases h with h | h
  · exact Or.inl (ht _ ⟨a, xs, rfl, SqL.of h, for_it (walk_enum (K := K) (a := a) (xs := xs)) Pv h0 (fun i σ H hi p => SqL.of (hG i σ H hi p _ h)) turn hd⟩)
  · exact Or.inr (ht _ ⟨a, xs, rfl, SqT.of h, for_it (walk_enumT (K := K) (a := a) (xs := xs)) Pv h0 (fun i σ H hi p => SqT.of (hG i σ H hi p _ h)) turn hd⟩)
/-- the dict of the steps, nothing known yet -/
def bkN (l : List Stp) : List (List Key × V) := l.map fun s => (skp s, V.non)
theorem bkN_len (l : List Stp) : (bkN l).length = l.length := List.length_map _
theorem bkN_put {l : List Stp} {s : Stp} (h : s ∉ l) : putK (bkN l) (skp s) V.non = bkN (l ++ [s]) := by
  rw [putK_new]
  · unfold bkN
    rw [List.map_append]
    rfl
  · refine valV_no fun m => ?_
    obtain ⟨kv, hm, e⟩ := List.mem_map.mp m
    obtain ⟨t, ht, rfl⟩ := List.mem_map.mp hm
    exact h (by rw [← skp_inj e]; exact ht)
theorem bkN_keys (l : List Stp) : (bkN l).map (·.1) = l.map skp := by
  unfold bkN
  rw [List.map_map]
  rfl
theorem putK_keys {κ : Type} [DecidableEq κ] {kvs : List (κ × V)} {k : κ} {v : V} (h : k ∈ kvs.map (·.1)) : (putK kvs k v).map (·.1) = kvs.map (·.1) := by
  unfold putK
  have ha : (kvs.any fun kv => decide (kv.1 = k)) = true := by
    rw [List.any_eq_true]
    obtain ⟨kv, hm, e⟩ := List.mem_map.mp h
    exact ⟨kv, hm, decide_eq_true e⟩
  rw [ha, if_pos rfl, List.map_map]
  refine List.map_congr_left fun kv _ => ?_
  show (if kv.1 = k then (kv.1, v) else kv).1 = kv.1
  split <;> rfl
end Y

/-! a set of rows of texts: made, asked, added to. The tables' own facts (TabOk, go_spec, relaid_ok) are the library's; what a row of texts answers and the set's own state are ours. -/
namespace Y
open PySem PySem.Spec PyProof.Rows L2
/-- a row's hash -/
abbrev rowH (P : Program) (w : World) (k : List Key) : Int := tupleKeyHash (mixKind P w) k
/-- at m.2 stands the row m.1 -/
abbrev RowAt (P : Program) (w : World) (h : Heap) (m : List Key × Addr) : Prop := IsTupleKey (mixKind P w) h m.1 m.2
section rows
variable {P : Program} {w : World} {A : Around} {E : Value → Shared → Prop} {s : Shared}
def AllTx (vs : List Value) : Prop := ∀ v ∈ vs, (∃ x u, v = Value.str x u) ∨ ∃ i u, v = Value.int i u
theorem key_val {k : Key} {v : Value} (h : (mixKind P w).is k v = true) : (∃ x u, v = Value.str x u) ∨ ∃ i u, v = Value.int i u := by
  rcases keyIs_shape h with ⟨i, u, _, e⟩ | ⟨x, u, _, e⟩
  · exact .inr ⟨i, u, e⟩
  · exact .inl ⟨x, u, e⟩
theorem AllTx.of : ∀ {k : List Key} {vs : List Value}, PySem.ItemsAre (mixKind P w) k vs → AllTx vs
  | _, _, .nil => fun v m => absurd m List.not_mem_nil
  | _, _, .cons a r => fun v m => (List.mem_cons.mp m).elim (fun e => by rw [e]; exact key_val a) fun m => AllTx.of r v m
theorem row_class {m : List Key × Addr} {Q : Bool → Shared → Prop} (r : RowAt P w s.heap m) (q : Q false s) : wpAny (model P w) A (ofAClassStatement 8 (.ref m.2)) Q E s := by
  have ty := r.typeIs
  obtain ⟨ob, its, nn, g1, _, g2, g3⟩ := r
  have tx := AllTx.of g3
  unfold ofAClassStatement
  refine wpAny_bind (wpAny_typeOf ty ?_)
  dsimp only
  simp only [show (("tuple" : String) == "tuple") = true by decide, if_true, Bool.not_true, Bool.false_eq_true, if_false]
  try refine wpAny_bind (wpAny_pure ?_)
  try simp only [Bool.not_true, Bool.false_eq_true, if_false]
  change wpAny _ _ (seqItems? (.ref m.2) >>= _) _ _ s
  refine wpAny_bind (wpAny_seqItems g1 g2 ?_)
  dsimp only
  refine wpAny_bind ?_
  change wpAny _ _ (forIn its _ _) _ _ s
  rw [← Array.forIn_toList]
  refine wpAny_forIn_list _ (fun l r t => t = s ∧ r.1 = none ∧ AllTx l) _ ?_ ?_ _ _ ⟨rfl, rfl, tx⟩
  · rintro v l r t ⟨rfl, hn, al⟩
    have nc : ofAClassStatement 7 v = pure false := by rcases al v List.mem_cons_self with ⟨x, u, rfl⟩ | ⟨x, u, rfl⟩ <;> rfl
    rw [nc]
    refine wpAny_bind (wpAny_pure ?_)
    simp only [Bool.false_eq_true, if_false]
    exact wpAny_pure ⟨rfl, rfl, fun v m => al v (List.mem_cons_of_mem _ m)⟩
  · rintro ⟨r1, r2⟩ t ⟨rfl, hn, _⟩
    dsimp only at hn
    subst hn
    exact wpAny_pure q
theorem row_hashed {m : List Key × Addr} {Q : Bool → Shared → Prop} (r : RowAt P w s.heap m) (q : ∀ b, Q b s) : wpAny (model P w) A (hashByValue 8 (.ref m.2)) Q E s := by
  have ty := r.typeIs
  obtain ⟨ob, its, nn, g1, _, g2, g3⟩ := r
  have tx := AllTx.of g3
  unfold hashByValue
  refine wpAny_bind (wpAny_specialOf ty F.slot_tuple_hash.lookup ?_)
  change wpAny _ _ (seqItems? (.ref m.2) >>= _) _ _ s
  refine wpAny_bind (wpAny_seqItems g1 g2 ?_)
  refine wpAny_bind ?_
  change wpAny _ _ (forIn its _ _) _ _ s
  rw [← Array.forIn_toList]
  refine wpAny_forIn_list _ (fun l r t => t = s ∧ AllTx l ∧ r.1 = none) _ ?_ ?_ _ _ ⟨rfl, tx, rfl⟩
  · rintro v l r t ⟨rfl, al, hn⟩
    rcases al v List.mem_cons_self with ⟨x, u, rfl⟩ | ⟨x, u, rfl⟩
    · rw [show hashByValue 7 (.str x u) = pure false from rfl]
      refine wpAny_bind (wpAny_pure ?_)
      simp only [Bool.not_false, if_true]
      exact wpAny_pure (wpAny_pure (q false))
    · rw [show hashByValue 7 (.int x u) = pure true from rfl]
      refine wpAny_bind (wpAny_pure ?_)
      simp only [Bool.not_true, Bool.false_eq_true, if_false]
      exact wpAny_pure ⟨rfl, fun v m => al v (List.mem_cons_of_mem _ m), rfl⟩
  · rintro ⟨r1, r2⟩ t ⟨rfl, _, hn⟩
    dsimp only at hn
    subst hn
    exact wpAny_pure (q true)
/-- a search among rows of texts is not seen -/
theorem row_quiet {m : List Key × Addr} {Q : Bool → Shared → Prop} (r : RowAt P w s.heap m) {ys : List Value} (al : ∀ y ∈ ys, ∃ m', y = Value.ref m'.2 ∧ RowAt P w s.heap m') (q : Q false s) :
    wpAny (model P w) A (searchCouldBeSeen (.ref m.2) ys) Q E s := by
  unfold searchCouldBeSeen
  refine wpAny_bind ?_
  refine wpAny_forIn_list _ (fun l r t => t = s ∧ r.1 = none ∧ ∀ y ∈ l, ∃ m', y = Value.ref m'.2 ∧ RowAt P w s.heap m') _ ?_ ?_ _ _ ⟨rfl, rfl, al⟩
  · rintro v l r0 t ⟨rfl, hn, al⟩
    obtain ⟨m', rfl, r'⟩ := al v List.mem_cons_self
    have nx : ∀ y ∈ l, ∃ m', y = Value.ref m'.2 ∧ RowAt P w t.heap m' := fun y z => al y (List.mem_cons_of_mem _ z)
    dsimp only
    cases (m.2 == m'.2 || (carriedByValue (.ref m.2) && carriedByValue (.ref m'.2)))
    · refine wp_if_neg Bool.false_ne_true ?_
      refine wpAny_bind (wpAny_eqIsQuiet_tuple r ?_)
      simp only [Bool.not_true, Bool.false_eq_true, if_false]
      refine wpAny_bind (wpAny_eqIsQuiet_tuple r' ?_)
      simp only [Bool.not_true, Bool.false_eq_true, if_false]
      refine wpAny_bind (row_class r ?_)
      simp only [Bool.false_eq_true, if_false]
      refine wpAny_bind (row_class r' ?_)
      simp only [Bool.false_eq_true, if_false]
      exact wpAny_pure ⟨rfl, rfl, nx⟩
    · exact wp_if_pos rfl (wpAny_pure ⟨rfl, rfl, nx⟩)
  · rintro ⟨r1, r2⟩ t ⟨rfl, hn, _⟩
    dsimp only at hn
    subst hn
    exact wpAny_pure q
/-- a row stays where the set is written -/
theorem RowAt.stays {h h' : Heap} {m : List Key × Addr} {a : Addr} {o : Obj} {es : Array (Int × Value)} {ep : Nat} {t : SetTable} (r : RowAt P w h m) (g1 : h.get? a = some o) (g2 : o.data = .set es ep t) (sb : Heap.SameBut a h h') : RowAt P w h' m := by
  obtain ⟨o', its, nn, k1, k2, k3, k4⟩ := r
  refine ⟨o', its, nn, (sb.2 m.2 fun e => ?_).trans k1, k2, k3, k4⟩
  rw [e, g1] at k1
  rw [← Option.some.inj k1, g2] at k3
  cases k3
end rows

/-! ### the pile: a set's state -/
abbrev ent (P : Program) (w : World) (m : List Key × Addr) : Int × Value := (rowH P w m.1, Value.ref m.2)
structure Pile (P : Program) (w : World) (h : Heap) (a : Addr) (L : List (List Key × Addr)) (es : Array (Int × Value)) (ep : Nat) (t : SetTable) : Prop where
  here : ∃ o, h.get? a = some o ∧ o.ExactSet ∧ o.data = .set es ep t
  rows : es.toList = L.map (ent P w)
  tab : TabOk t (L.map fun m => rowH P w m.1)
  uniq : (L.map (·.1)).Nodup
  room : L.length * 5 < t.mask * 3
  few : L.length < 64
/-- the c-th place of a search -/
abbrev spot (t : SetTable) (z : Int) (c : Nat) : SetTable.Probe := nth t.mask (runAt t.mask (SetTable.bits z % (t.mask + 1)) (SetTable.bits z)) c
theorem spot_add (t : SetTable) (z : Int) (c q : Nat) : nth t.mask (spot t z c) q = spot t z (c + q) := (nth_add t.mask c _ q).symm
theorem adv_dummy (m : Nat) (p : SetTable.Probe) : (adv m p).dummy = p.dummy := by
  unfold adv
  split <;> rfl
theorem nth_dummy (m : Nat) : ∀ (n : Nat) (p : SetTable.Probe), (nth m p n).dummy = p.dummy
  | 0, _ => rfl
  | n + 1, p => (nth_dummy m n (adv m p)).trans (adv_dummy m p)
section pile
variable {P : Program} {w : World} {A : Around} {E : Value → Shared → Prop} {s : Shared} {a : Addr} {L : List (List Key × Addr)} {es : Array (Int × Value)} {ep : Nat} {t : SetTable}
theorem Pile.size (R : Pile P w s.heap a L es ep t) : es.size = L.length := by
  rw [← Array.length_toList, R.rows, List.length_map]
theorem fits_plain {t : SetTable} {n : Nat} (d : t.dummies = #[]) (e : t.place.size = n) (l : n ≤ t.mask) : t.fits n = true := by
  unfold SetTable.fits SetTable.fill
  rw [d, e]
  simpa using l
theorem Pile.placed (R : Pile P w s.heap a L es ep t) : t.place.size = L.length := by
  rw [R.tab.sz, List.length_map]
theorem Pile.fits (R : Pile P w s.heap a L es ep t) : t.fits es.size = true :=
  fits_plain R.tab.dm (R.placed.trans R.size.symm) (by have := R.room; have := R.size; omega)
theorem Pile.get (R : Pile P w s.heap a L es ep t) {i : Nat} {m : List Key × Addr} (e : L[i]? = some m) : es[i]? = some (ent P w m) := by
  rw [← Array.getElem?_toList, R.rows, List.getElem?_map, e, Option.map_some]
theorem Pile.sound (R : Pile P w s.heap a L es ep t) : ¬ t.gaveWay = true := by
  unfold SetTable.gaveWay
  rw [mask_odd R.tab.mok]
  decide
theorem Pile.inj (R : Pile P w s.heap a L es ep t) {i j : Nat} {m m' : List Key × Addr} (e : L[i]? = some m) (e' : L[j]? = some m') (q : m.1 = m'.1) : i = j := by
  have h1 : (L.map (·.1))[i]? = some m'.1 := by rw [List.getElem?_map, e, ← q, Option.map_some]
  have h2 : (L.map (·.1))[j]? = some m'.1 := by rw [List.getElem?_map, e', Option.map_some]
  have b := (List.getElem?_eq_some_iff.mp h1).1
  exact (List.getElem?_inj b R.uniq).mp (h1.trans h2.symm)
set_option linter.unusedVariables false in
/-- the search, from its c-th place on -/
theorem Pile.seek (R : Pile P w s.heap a L es ep t) (al : ∀ m ∈ L, RowAt P w s.heap m) {m : List Key × Addr} (r : RowAt P w s.heap m) (hu : A.units < cLine) (add : Bool) {C : Nat} (cf : C < 10 * SetTable.turns t.mask)
    (free : (spot t (rowH P w m.1) C).j ∉ t.place.toList) (full : ∀ c, c < C → (spot t (rowH P w m.1) c).j ∈ t.place.toList) {Q : SetFound → Shared → Prop}
    (yes : m.1 ∈ L.map (·.1) → ∀ i, Q (.there (if add = true then none else some i)) s) (no : m.1 ∉ L.map (·.1) → Q (.free (spot t (rowH P w m.1) C).j false) s) (f : Nat) :
    ∀ (c : Nat) (st : Option SetTable.Probe), st.getD (t.probeStart (rowH P w m.1)) = spot t (rowH P w m.1) c → c ≤ C → C < c + f → (∀ (i : Nat) m', L[i]? = some m' → m'.1 = m.1 → ∃ c', c ≤ c' ∧ c' < C ∧ t.place.toList[i]? = some (spot t (rowH P w m.1) c').j) →
      wpAny (model P w) A (setSearchFrom a (.ref m.2) (rowH P w m.1) add f st) Q E s := by
  generalize hz : rowH P w m.1 = z at free full no ⊢
  obtain ⟨o, g1, g2, g3⟩ := R.here
  induction f with
  | zero => intro c st _ h1 h2 _; omega
  | succ f ih =>
    intro c st start le lt wait
    rw [setSearchFrom_succ]
    refine wpAny_bind (wpAny_setState_of g1 g3 R.fits ?_)
    dsimp only
    refine wp_if_neg R.sound ?_
    try refine wpAny_bind (wpAny_pure ?_)
    have jj : ∀ q, (nth t.mask (spot t z c) q).j = (spot t z (c + q)).j := fun q => by rw [spot_add]
    have last : c + (C - c) = C := by omega
    have sp := go_spec t R.tab.ris R.tab.dm (fun i => (es[i]?.map (·.1)).getD 0) z (10 * SetTable.turns t.mask) (C - c) (spot t z c) (nth_dummy _ _ _) (by omega)
      (fun q l => by rw [jj]; exact full _ (by omega)) (by rw [jj, last]; exact free)
    have hs : ∀ (i : Nat) m', L[i]? = some m' → (fun i => (es[i]?.map (·.1)).getD 0) i = rowH P w m'.1 := fun i m' e => by
      dsimp only
      rw [R.get e, Option.map_some, Option.getD_some]
    have passed : ∀ (i : Nat) (m' : List Key × Addr) (q : Nat), L[i]? = some m' → m'.1 = m.1 → (∀ k' i', k' < q → t.place.toList[i']? = some (nth t.mask (spot t z c) k').j → (fun (i : Nat) => (es[i]?.map (·.1)).getD 0) i' ≠ z) → ∀ c', c ≤ c' → t.place.toList[i]? = some (spot t z c').j → c + q ≤ c' := by
      intro i m' q e1 e2 none c' l1 e3
      rcases Nat.lt_or_ge c' (c + q) with y | y
      · refine absurd (none (c' - c) i (by omega) (by rw [jj, show c + (c' - c) = c' by omega]; exact e3)) ?_
        rw [hs i m' e1, e2, hz]
        exact fun n => n rfl
      · exact y
    rcases sp with ⟨q, i, lq, pl, hh, non, ans⟩ | ⟨non, ans⟩
    · have ans2 : t.probe (fun i => (es[i]?.map (·.1)).getD 0) z (st.getD (t.probeStart z)) = some (.candidate (spot t z (c + q)).j i (spot t z (c + (q + 1)))) := by
        rw [start, ← spot_add, ← spot_add]
        exact ans
      rw [ans2]
      dsimp only
      rw [jj] at pl
      have il : i < L.length := by
        have h1 := (List.getElem?_eq_some_iff.mp pl).1
        rw [Array.length_toList, R.placed] at h1
        exact h1
      obtain ⟨m', e1⟩ : ∃ m', L[i]? = some m' := ⟨_, List.getElem?_eq_getElem il⟩
      have mm := List.mem_of_getElem? e1
      have after : wpAny (model P w) A (searchRest a (.ref m.2) z add f es t (spot t z (c + q)).j i (spot t z (c + (q + 1)))) Q E s := by
        unfold searchRest
        rw [R.get e1]
        dsimp only
        refine wpAny_bind (wpAny_holding (wpAny_eqBool_tuple hu (al m' mm) r ?_))
        refine wpAny_bind (wpAny_setState_of g1 g3 R.fits ?_)
        dsimp only
        have lv : t.slot (spot t z (c + q)).j = .live i := slot_live R.tab.ris pl
        by_cases same : m'.1 = m.1
        · have Y := yes (List.mem_map.mpr ⟨m', mm, same⟩)
          cases add with
          | true =>
            refine wp_if_pos (by simp [same]) (wpAny_pure ?_)
            exact Y i
          | false =>
            refine wp_if_neg (by simp) ?_
            try refine wpAny_bind (wpAny_pure ?_)
            rw [sameMem]
            dsimp only
            simp only [if_true, lv, R.get e1]
            refine wpAny_bind (wpAny_isSame_ref_self (wpAny_bind (wpAny_pure ?_)))
            simp only [if_true]
            refine wp_if_pos (by simp [same]) (wpAny_pure ?_)
            exact Y i
        · refine wp_if_neg (by simp [same]) ?_
          try refine wpAny_bind (wpAny_pure ?_)
          rw [sameMem]
          dsimp only
          simp only [if_true, lv, R.get e1]
          refine wpAny_bind (wpAny_isSame_ref_self (wpAny_bind (wpAny_pure ?_)))
          simp only [if_true]
          refine wp_if_neg (by simp [same]) ?_
          refine ih (c + (q + 1)) _ rfl (by omega) (by omega) fun i0 m0 k1 k2 => ?_
          obtain ⟨c', y1, y2, y3⟩ := wait i0 m0 k1 k2
          have y4 := passed i0 m0 q k1 k2 non c' y1 y3
          refine ⟨c', ?_, y2, y3⟩
          rcases Nat.eq_or_lt_of_le y4 with e | l
          · refine absurd ?_ same
            rw [← e] at y3
            have k3 := (slot_live R.tab.ris y3).symm.trans lv
            injection k3 with k3
            rw [k3, e1] at k1
            rw [Option.some.inj k1]
            exact k2
          · omega
      by_cases led : t.led = true
      · refine wp_if_neg (by simp [led]) ?_
        try refine wpAny_bind (wpAny_pure ?_)
        exact after
      · refine wp_if_pos (by simp [led]) ?_
        refine wpAny_bind (row_quiet r (fun y hy => ?_) ?_)
        · obtain ⟨en, m1, m2⟩ := List.mem_map.mp hy
          have m3 : en ∈ es.toList := by
            have m4 : en ∈ es ∧ en.1 = z := by simpa using m1
            simpa using m4.1
          rw [R.rows] at m3
          obtain ⟨m4, m5, m6⟩ := List.mem_map.mp m3
          exact ⟨m4, by rw [← m2, ← m6], al m4 m5⟩
        · refine wp_if_neg Bool.false_ne_true ?_
          try refine wpAny_bind (wpAny_pure ?_)
          exact after
    · have ans2 : t.probe (fun i => (es[i]?.map (·.1)).getD 0) z (st.getD (t.probeStart z)) = some (.empty (spot t z C).j none) := by
        rw [start, ← last, ← jj]
        exact ans
      rw [ans2]
      dsimp only
      refine wpAny_pure (no fun mem => ?_)
      obtain ⟨m0, k1, k2⟩ := List.mem_map.mp mem
      obtain ⟨i0, k3⟩ := List.mem_iff_getElem?.mp k1
      obtain ⟨c', y1, y2, y3⟩ := wait i0 m0 k3 k2
      have y4 := passed i0 m0 (C - c) k3 k2 non c' y1 y3
      omega
/-- the whole search -/
theorem Pile.look (R : Pile P w s.heap a L es ep t) (al : ∀ m ∈ L, RowAt P w s.heap m) {m : List Key × Addr} (r : RowAt P w s.heap m) (hu : A.units < cLine) (add : Bool) {Q : SetFound → Shared → Prop}
    (yes : m.1 ∈ L.map (·.1) → ∀ i, Q (.there (if add = true then none else some i)) s)
    (no : ∀ C, m.1 ∉ L.map (·.1) → (spot t (rowH P w m.1) C).j ∉ t.place.toList → (∀ c, c < C → (spot t (rowH P w m.1) c).j ∈ t.place.toList) → Q (.free (spot t (rowH P w m.1) C).j false) s) :
    wpAny (model P w) A (setSearch a (.ref m.2) (rowH P w m.1) add) Q E s := by
  obtain ⟨C, c1, c2, c3⟩ := R.tab.first (by rw [List.length_map]; have := R.room; omega) (rowH P w m.1)
  have big : 10 * SetTable.turns t.mask < 100000 := by
    unfold SetTable.turns
    rcases R.tab.mok with e | e | e <;> omega
  refine R.seek al r hu add c1 c2 c3 yes (fun n => no C n c2 c3) 100000 0 none rfl (Nat.zero_le _) (by omega) fun i m' e1 e2 => ?_
  have h1 : (L.map fun m => rowH P w m.1)[i]? = some (rowH P w m.1) := by rw [List.getElem?_map, e1, Option.map_some, e2]
  have il : i < t.place.toList.length := by
    rw [Array.length_toList, R.placed]
    exact (List.getElem?_eq_some_iff.mp e1).1
  obtain ⟨c, d1, d2⟩ := R.tab.before c2 h1 (List.getElem?_eq_getElem il)
  exact ⟨c, Nat.zero_le _, d1, by rw [List.getElem?_eq_getElem il, ← d2]⟩
end pile
end Y

/-! a set of rows of texts: one more is put in; the words of the program. -/
namespace Y
open PySem PySem.Spec PyProof.Rows L2
theorem range_all {α : Type} : ∀ L : List α, (List.range L.length).filterMap (fun i => L[i]?) = L
  | [] => rfl
  | x :: L => by
    have z : (fun i => (x :: L)[i]?) 0 = some x := rfl
    rw [List.length_cons, List.range_succ_eq_map, List.filterMap_cons_some z, List.filterMap_map]
    exact congrArg (x :: ·) (range_all L)
theorem fm_map {α β : Type} {f : α → Option β} {g : α → β} : ∀ l : List α, (∀ i ∈ l, f i = some (g i)) → l.filterMap f = l.map g
  | [], _ => rfl
  | i :: l, h => by
    rw [List.filterMap_cons_some (h i List.mem_cons_self), List.map_cons, fm_map l fun j m => h j (List.mem_cons_of_mem _ m)]
theorem order_any {α : Type} (f : α → Int × Value) (L : List α) (es : Array (Int × Value)) (order : Array Nat) (hr : es.toList = L.map f) (hp : order.toList.Perm (List.range L.length)) :
    ∃ L2 : List α, (order.filterMap (es[·]?)).toList = L2.map f ∧ L2.Perm L ∧ (L2.map fun x => (f x).1) = order.toList.map fun i => (es.map (·.1)).getD i 0 := by
  have g : ∀ i, es[i]? = (L[i]?).map f := fun i => by rw [← Array.getElem?_toList, hr, List.getElem?_map]
  refine ⟨order.toList.filterMap (fun i => L[i]?), ?_, ?_, ?_⟩
  · rw [Array.toList_filterMap, List.map_filterMap]
    exact congrArg (fun q => List.filterMap q order.toList) (funext g)
  · have z := hp.filterMap (fun i => L[i]?)
    rw [range_all] at z
    exact z
  · rw [List.map_filterMap]
    refine fm_map _ fun i hi => ?_
    have il : i < L.length := List.mem_range.mp (hp.mem_iff.mp hi)
    simp [Array.getD_eq_getD_getElem?, g, il]
section put
variable {P : Program} {w : World} {A : Around} {E : Value → Shared → Prop} {s : Shared} {a : Addr} {L : List (List Key × Addr)} {es : Array (Int × Value)} {ep : Nat} {t : SetTable}
/-- the table is laid anew -/
theorem pile_anew {o : Obj} (g1 : s.heap.get? a = some o) (g2 : o.ExactSet) (g3 : o.data = .set es ep t) (rows : es.toList = L.map (ent P w)) (place : t.place.size = es.size) (dm : t.dummies = #[]) (fl : es.size ≤ t.mask)
    (uniq : (L.map (·.1)).Nodup) (few : L.length < 64) {wanted M : Nat} (hw : SetTable.sizeAbove wanted - 1 = M) (hM : MaskOk M) (small : SetTable.sizeAbove wanted ≤ 128) (room : L.length * 5 < M * 3) {Q : Unit → Shared → Prop}
    (hQ : ∀ h' L' es' ep' t', Heap.SameBut a s.heap h' → Pile P w h' a L' es' ep' t' → L'.Perm L → Q () { s with heap := h' }) : wpAny (model P w) A (setRelay a wanted) Q E s := by
  have n1 : es.size = L.length := by rw [← Array.length_toList, rows, List.length_map]
  obtain ⟨t', order, e1, e2, e3, e4, _, _, _⟩ := relaid_ok t (hs := es.map (·.1)) hw hM (by rw [Array.size_map]; omega)
  rw [Array.size_map, n1] at e2
  obtain ⟨L2, r1, r2, r3⟩ := order_any (ent P w) L es order rows e2
  rw [← r3] at e3
  have n2 : (order.filterMap (es[·]?)).size = es.size := by
    rw [← Array.length_toList, r1, List.length_map, r2.length_eq, n1]
  rw [setRelay_eq]
  refine wpAny_bind (wpAny_setState_of g1 g3 (fits_plain dm place fl) ?_)
  dsimp only
  refine wp_if_neg (by rw [sizeLine_eq]; omega) ?_
  try refine wpAny_bind (wpAny_pure ?_)
  rw [e1]
  dsimp only
  refine wpAny_bind ?_
  refine wp_if_neg (by simp [n2]) ?_
  try refine wpAny_bind (wpAny_pure ?_)
  refine wpAny_pure ?_
  dsimp only
  refine wpAny_storeSet_of g1 g3 ?_ (by rw [n2, n1, sizeLine_eq]; omega)
  refine hQ _ L2 _ (ep + 1) t' (Heap.SameBut.update ..) ⟨⟨_, store_at g1 g3, ⟨g2.1, g2.2.1, g2.2.2⟩, rfl⟩, r1, e3, (r2.map (·.1)).nodup_iff.mpr uniq, ?_, ?_⟩ r2
  · rw [r2.length_eq, e4]
    exact room
  · rw [r2.length_eq]
    exact few
/-- what is done once the place is known -/
def addRest (a : Addr) (es1 : Array (Int × Value)) (t2 : SetTable) (n : Nat) : Sem Bool := do
  storeSet a es1 t2
  if !false && t2.tooFull then setRelay a (SetTable.grown n)
  return true
theorem Pile.put (R : Pile P w s.heap a L es ep t) {m : List Key × Addr} {L1 : List (List Key × Addr)} {es1 : Array (Int × Value)} {t2 : SetTable} (rows : es1.toList = L1.map (ent P w)) (pm : L1.Perm (m :: L)) (nw : m.1 ∉ L.map (·.1))
    (tab : TabOk t2 (L1.map fun m => rowH P w m.1)) (mk : t2.mask = t.mask) (fill : t2.fill = L.length + 1) (few : L.length + 1 < 64) {Q : Bool → Shared → Prop}
    (hQ : ∀ h' L' es' ep' t', Heap.SameBut a s.heap h' → Pile P w h' a L' es' ep' t' → L'.Perm (m :: L) → Q true { s with heap := h' }) : wpAny (model P w) A (addRest a es1 t2 (es.size + 1)) Q E s := by
  obtain ⟨o, g1, g2, g3⟩ := R.here
  have n0 := R.size
  have n1 : L1.length = L.length + 1 := pm.length_eq
  have n2 : es1.size = L.length + 1 := by rw [← Array.length_toList, rows, List.length_map, n1]
  have room := R.room
  have uq : (L1.map (·.1)).Nodup := (pm.map (·.1)).nodup_iff.mpr (by
    rw [List.map_cons]
    exact List.nodup_cons.mpr ⟨nw, R.uniq⟩)
  unfold addRest
  refine wpAny_bind (wpAny_storeSet_of g1 g3 ?_ (by rw [n2, sizeLine_eq]; omega))
  have sb : Heap.SameBut a s.heap (s.heap.update a (Obj.putSet es1 t2)) := Heap.SameBut.update ..
  have g4 := store_at (es' := es1) (t' := t2) g1 g3
  generalize s.heap.update a (Obj.putSet es1 t2) = h1 at sb g4 ⊢
  by_cases full : t2.tooFull = true
  · first
      | (refine wpAny_bind ?_; refine wp_if_pos (by simp [full]) ?_)
      | (refine wp_if_pos (by simp [full]) ?_; refine wpAny_bind ?_)
    have big : (L.length + 1) * 5 ≥ t.mask * 3 := by
      have q := full
      unfold SetTable.tooFull at q
      rw [decide_eq_true_eq, fill, mk] at q
      exact q
    have pl : t2.place.size = es1.size := by rw [tab.sz, List.length_map, n1, n2]
    have fl : es1.size ≤ t2.mask := by omega
    have go : ∀ M, SetTable.sizeAbove (SetTable.grown (L.length + 1)) - 1 = M → MaskOk M → SetTable.sizeAbove (SetTable.grown (L.length + 1)) ≤ 128 → (L.length + 1) * 5 < M * 3 →
        wpAny (model P w) A (setRelay a (SetTable.grown (L.length + 1))) (fun _ s' => wpAny (model P w) A (pure true) Q E s') E { s with heap := h1 } := fun M k1 k2 k3 k4 =>
      pile_anew (s := { s with heap := h1 }) g4 ⟨g2.1, g2.2.1, g2.2.2⟩ rfl rows pl tab.dm fl uq (by omega) k1 k2 k3 (by omega) fun h2 L2 es2 ep2 t3 sb2 R2 p2 => wpAny_pure (hQ h2 L2 es2 ep2 t3 (sb.trans sb2) R2 (p2.trans pm))
    rw [n0]
    have two : (t.mask = 7 ∧ L.length = 4) ∨ (t.mask = 31 ∧ L.length = 18) := by
      rcases R.tab.mok with e | e | e <;> omega
    rcases two with ⟨_, e⟩ | ⟨_, e⟩
    · exact go 31 (by rw [e, size_20]) (.inr (.inl rfl)) (by rw [e, size_20]; decide) (by omega)
    · exact go 127 (by rw [e, size_76]) (.inr (.inr rfl)) (by rw [e, size_76]; decide) (by omega)
  · first
      | refine wp_if_neg (by simp [full]) ?_
      | (refine wpAny_bind ?_; refine wp_if_neg (by simp [full]) ?_; refine wpAny_pure ?_)
    refine wpAny_pure (hQ h1 L1 es1 (ep + 1) t2 sb ⟨⟨_, g4, ⟨g2.1, g2.2.1, g2.2.2⟩, rfl⟩, rows, tab, uq, ?_, by omega⟩ pm)
    have q := full
    unfold SetTable.tooFull at q
    rw [decide_eq_true_eq, fill] at q
    omega
theorem mid_perm {α : Type} (L : List α) (p : Nat) (x : α) : (L.take p ++ x :: L.drop p).Perm (x :: L) := by
  have q : (L.take p ++ x :: L.drop p).Perm (x :: (L.take p ++ L.drop p)) := List.perm_middle
  rwa [List.take_append_drop] at q
/-- one is added -/
theorem Pile.add (R : Pile P w s.heap a L es ep t) (al : ∀ m ∈ L, RowAt P w s.heap m) {m : List Key × Addr} (r : RowAt P w s.heap m) (hu : A.units < cLine) (few : L.length + 1 < 64) {Q : Bool → Shared → Prop}
    (hQ : ∀ b h' L' es' ep' t', Heap.SameBut a s.heap h' → Pile P w h' a L' es' ep' t' → (m.1 ∈ L.map (·.1) → L' = L) → (m.1 ∉ L.map (·.1) → L'.Perm (m :: L)) → Q b { s with heap := h' }) :
    wpAny (model P w) A (setAddHashed a (.ref m.2) (rowH P w m.1)) Q E s := by
  obtain ⟨o, g1, g2, g3⟩ := R.here
  unfold setAddHashed
  refine wpAny_holding ?_
  rw [show (100000 : Nat) = 99999 + 1 from rfl, setAddHashedIn_succ]
  refine wpAny_bind (wpAny_setState_of g1 g3 R.fits ?_)
  dsimp only
  refine wp_if_neg (by simp [byScan, Value.scannable]) ?_
  try refine wpAny_bind (wpAny_pure ?_)
  refine wpAny_bind (R.look al r hu true (fun mem i => ?_) fun C nw free full => ?_)
  · dsimp only [if_true]
    exact wpAny_pure (hQ false s.heap L es ep t (Heap.SameBut.refl a s.heap) R (fun _ => rfl) fun z => absurd mem z)
  · dsimp only
    refine wpAny_bind (wpAny_setState_of g1 g3 R.fits ?_)
    dsimp only
    obtain ⟨q1, _, q3, q4, _, _, _, _, q9⟩ := R.tab.put free full
    rw [List.length_map] at q9
    have hj : way t.mask (rowH P w m.1) C = (spot t (rowH P w m.1) C).j := rfl
    rw [hj] at q1 q3 q4 q9
    generalize hsl : (spot t (rowH P w m.1) C).j = j at q1 q3 q4 q9 ⊢
    generalize hpt : t.put j = pt at q1 q3 q4 q9 ⊢
    obtain ⟨t1, p⟩ := pt
    dsimp only at q1 q3 q4 q9 ⊢
    subst q1
    generalize SetTable.below t.place j = p at q3 ⊢
    have rows : (SetTable.insertAt es p (rowH P w m.1, Value.ref m.2)).toList = (L.take p ++ m :: L.drop p).map (ent P w) := by
      rw [SetTable.toList_insertAt, R.rows, List.map_append, List.map_cons, List.map_take, List.map_drop]
    have hs : (L.take p ++ m :: L.drop p).map (fun m => rowH P w m.1) = (L.map fun m => rowH P w m.1).take p ++ rowH P w m.1 :: (L.map fun m => rowH P w m.1).drop p := by
      rw [List.map_append, List.map_cons, List.map_take, List.map_drop]
    rw [← hs] at q3
    have fin : ∀ t2 : SetTable, TabOk t2 ((L.take p ++ m :: L.drop p).map fun m => rowH P w m.1) → t2.mask = t.mask → t2.fill = L.length + 1 →
        wpAny (model P w) A (addRest a (SetTable.insertAt es p (rowH P w m.1, Value.ref m.2)) t2 (es.size + 1)) Q E s := fun t2 k1 k2 k3 =>
      R.put rows (mid_perm L p m) nw k1 k2 k3 few fun h' L' es' ep' t' sb R' pm => hQ true h' L' es' ep' t' sb R' (fun z => absurd z nw) fun _ => pm
    by_cases pl : t1.plain = true
    · first
        | (refine wpAny_bind ?_; refine wp_if_pos pl ?_; refine row_hashed r fun b => ?_)
        | refine wp_if_pos pl (wpAny_bind (row_hashed r fun b => ?_))
      cases b with
      | true =>
        simp only [if_true]
        exact fin t1 q3 q4 q9
      | false =>
        simp only [Bool.false_eq_true, if_false]
        exact fin { t1 with plain := false } ⟨q3.ris, q3.dm, q3.sz, q3.mok, q3.bd, q3.reach⟩ q4 q9
    · first
        | (refine wpAny_bind ?_; refine wp_if_neg pl ?_; refine wpAny_pure ?_)
        | refine wp_if_neg pl (wpAny_bind (wpAny_pure ?_))
      simp only [if_true]
      exact fin t1 q3 q4 q9
end put

/-! ### the program's words -/
/-- the set of rows at a, the rows themselves apart -/
def PileO (P : Program) (w : World) (a : Addr) (L : List (List Key × Addr)) : HO := .ext fun h => ∃ es ep t, Pile P w h a L es ep t
theorem Pile.moved {P : Program} {w : World} {h h' : Heap} {a : Addr} {L : List (List Key × Addr)} {es : Array (Int × Value)} {ep : Nat} {t : SetTable} (R : Pile P w h a L es ep t) (k : ∀ o, h.get? a = some o → h'.get? a = some o) : Pile P w h' a L es ep t := by
  have ⟨o, g1, g2⟩ := R.here
  exact ⟨⟨o, k o g1, g2⟩, R.rows, R.tab, R.uniq, R.room, R.few⟩
theorem pileO_new {P : Program} {w : World} {H : Hp} {h : Heap} {a : Addr} {L : List (List Key × Addr)} {es : Array (Int × Value)} {ep : Nat} {t : SetTable} (R : Pile P w h a L es ep t) : ObjOk P w H h a (PileO P w a L) := by
  have ⟨o, g1, _⟩ := R.here
  exact ⟨⟨es, ep, t, R⟩, ⟨o, g1⟩, fun h1 h2 ⟨es', ep', t', R'⟩ k => ⟨es', ep', t', R'.moved k⟩⟩
/-- in the picture: m.2 is the tuple of the texts m.1 -/
abbrev RowV (K : PySem.W.Frag) (H : Hp) (m : List Key × Addr) : Prop := SqT K H m.2 (m.1.map kV)
theorem items_str {P : Program} {w : World} : ∀ {k : List Key} {us : List Value}, Vals (k.map kV) us → PySem.ItemsAre (mixKind P w) k us
  | [], _, .nil => .nil
  | x :: k, _, .cons a r => .cons (kV_is a) (items_str r)
section words
variable {X : Cx} {pins : List (Addr × Obj)} {σ : L2.St} {H : Hp} {s : Shared}
theorem RowV.raw (I : Inv X pins σ H s) {m : List Key × Addr} (r : RowV X.K H m) : RowAt X.prog X.w s.heap m := by
  obtain ⟨its, rv, ⟨o, g1, g2, n, g3⟩, _⟩ := I.tuple r
  exact ⟨o, its.toArray, n, g1, g2, g3, by simpa using items_str rv⟩
end words
end Y

/-! set(), found.add(row), row in found, row not in found: rows of texts. -/
namespace Y
open PySem PySem.Spec PyProof.Rows L2
def hasR (L : List (List Key × Addr)) (k : List Key) : Bool := L.any fun m => decide (m.1 = k)
theorem hasR_iff {L : List (List Key × Addr)} {k : List Key} : hasR L k = true ↔ k ∈ L.map (·.1) := by
  unfold hasR
  rw [List.any_eq_true, List.mem_map]
  exact ⟨fun ⟨m, h, e⟩ => ⟨m, h, of_decide_eq_true e⟩, fun ⟨m, h, e⟩ => ⟨m, h, decide_eq_true e⟩⟩
theorem hasR_no {L : List (List Key × Addr)} {k : List Key} (h : k ∉ L.map (·.1)) : hasR L k = false := by
  cases e : hasR L k with
  | false => rfl
  | true => exact absurd (hasR_iff.mp e) h
section ask
variable {P : Program} {w : World} {A : Around} {E : Value → Shared → Prop} {s : Shared} {a : Addr} {L : List (List Key × Addr)} {es : Array (Int × Value)} {ep : Nat} {t : SetTable}
theorem Pile.typed (R : Pile P w s.heap a L es ep t) : s.TypeIs (.ref a) "set" := by
  have ⟨o, g1, g2, _⟩ := R.here
  exact ⟨o, g1, g2.1⟩
theorem Pile.bare (R : Pile P w s.heap a L es ep t) : ∀ a1, Value.ref a = Value.ref a1 → ∃ o, s.heap.get? a1 = some o ∧ o.dict = none := by
  rintro _ ⟨⟩
  have ⟨o, g1, g2, _⟩ := R.here
  exact ⟨o, g1, g2.2.1⟩
theorem Pile.find (R : Pile P w s.heap a L es ep t) (al : ∀ m ∈ L, RowAt P w s.heap m) {m : List Key × Addr} (r : RowAt P w s.heap m) (hu : A.units < cLine) {Q : Option Nat → Shared → Prop}
    (q : ∀ x : Option Nat, x.isSome = hasR L m.1 → Q x s) : wpAny (model P w) A (setFind a (.ref m.2) (rowH P w m.1)) Q E s := by
  obtain ⟨o, g1, g2, g3⟩ := R.here
  unfold setFind setFindIn
  refine wpAny_bind (wpAny_setState_of g1 g3 R.fits ?_)
  dsimp only
  refine wp_if_neg (by simp [byScan, Value.scannable]) ?_
  try refine wpAny_bind (wpAny_pure ?_)
  refine wpAny_bind (R.look al r hu false (fun mem i => ?_) fun C nw _ _ => ?_)
  · exact wpAny_pure (q _ (hasR_iff.mpr mem).symm)
  · exact wpAny_pure (q _ (hasR_no nw).symm)
theorem Pile.has (R : Pile P w s.heap a L es ep t) (al : ∀ m ∈ L, RowAt P w s.heap m) {m : List Key × Addr} (r : RowAt P w s.heap m) (hu : A.units + 1 < cLine) {Q : Bool → Shared → Prop}
    (q : ∀ k, Q (hasR L m.1) { s with toks := k }) : wpAny (model P w) A (contains (.ref a) (.ref m.2)) Q E s := by
  have ty := R.typed
  unfold contains
  try with_reducible refine wpAny_holding ?_
  refine wpAny_bind (wpAny_specialOf ty F.slot_set_contains.lookup ?_)
  change wpAny _ _ (if (some (Value.builtin "set.__contains__") == some Value.none) = true then _ else _) _ E s
  rw [if_neg (by rw [beq_builtin_none]; exact Bool.false_ne_true)]
  refine wpAny_bind (wpAny_callSpecialUnlessNone?_slot (name := Str.ofString "__contains__") ty F.slot_set_contains (wpAny_call_entry F.slot_set_contains ty entry_set_contains ?_ (F.args_set_contains_2 _ _)))
  unfold Builtin.«frozenset.__contains__» Builtin.Frozenset.oneOther
  simp only [List.isEmpty_nil, bind_assoc]
  unfold Builtin.Frozenset.addrOf Builtin.Frozenset.withSetAsKey setContains
  refine wpAny_bind (wpAny_pure ?_)
  try dsimp only
  refine wpAny_bind (wpAny_pure ?_)
  try dsimp only
  refine wpAny_bind (wpAny_tryCatch ?_)
  refine wpAny_holding ?_
  have hu1 : A.in1.units < cLine := hu
  refine wpAny_bind (wpAny_pyHash_tuple hu1 r ?_)
  refine wpAny_bind (Pile.find (s := { s with toks := s.toks + (m.1.length + 1) }) R al r hu1 fun x e => ?_)
  refine wpAny_pure ?_
  change wpAny _ _ (ret (Value.bool x.isSome)) _ _ _
  rw [e]
  exact wpAny_pure ⟨_, rfl, wpAny_truthy_bool (q _)⟩
end ask
section words
variable {X : Cx} {K : PySem.W.Frag} {P : Program} {w : World}
/-- set() -/
def rPile0 (P : Program) (w : World) : List V → Hp → VK → Prop := fun xs H Q => xs = [] ∧ ∀ p, H p = none → Q (.ref p) (upd H p (PileO P w p []))
theorem cr_pile0 (eP : X.prog = P := by rfl) (eW : X.w = w := by rfl) : CallR X (.type "set") (rPile0 P w) := by
  subst eP eW
  rintro pins s σ H xs us Q I r ⟨rfl, q⟩
  cases r
  refine setR_new fun _ => ?_
  have new : Pile X.prog X.w (s.heap.push { cls := .type "set", dict := none, data := .set #[] 0 (.fresh 0 0 (!X.w.params.followText "set-order")) }) s.heap.objs.size [] #[] 0 (.fresh 0 0 (!X.w.params.followText "set-order")) :=
    ⟨⟨_, Heap.get?_push_size _ rfl, ⟨rfl, rfl, rfl⟩, rfl⟩, rfl, ⟨List.Pairwise.nil, rfl, rfl, .inl rfl, fun x m => absurd m List.not_mem_nil, fun i z j e => by simp at e⟩, List.nodup_nil, by show 0 * 5 < 7 * 3; decide, by show 0 < 64; decide⟩
  exact ⟨.ref _, upd H s.heap.objs.size (PileO X.prog X.w s.heap.objs.size []), I.laid (t' := s.toks) (fun b u e => Heap.get?_push_of_some _ e) (Nat.le_refl _) (pileO_new new), rfl, q _ (I.hok.fresh (Nat.le_refl _))⟩
/-- found.add(x) -/
def rPAdd (K : PySem.W.Frag) (P : Program) (w : World) : V → List V → Hp → VK → Prop := fun x xs H Q => ∃ (a : Addr) (m : List Key × Addr) (L : List (List Key × Addr)), x = V.ref a ∧ xs = [V.ref m.2] ∧ H a = some (PileO P w a L) ∧ RowV K H m ∧ (∀ m' ∈ L, RowV K H m') ∧ L.length + 1 < 64 ∧
  ∀ L', (m.1 ∈ L.map (·.1) → L' = L) → (m.1 ∉ L.map (·.1) → L'.Perm (m :: L)) → Q .non (upd H a (PileO P w a L'))
theorem pile_get {pins : List (Addr × Obj)} {σ : L2.St} {H : Hp} {s : Shared} {a : Addr} {L : List (List Key × Addr)} (I : Inv X pins σ H s) (e : H a = some (PileO X.prog X.w a L)) : ∃ es ep t, Pile X.prog X.w s.heap a L es ep t := (I.hok a _ e).1
theorem mt_padd (hu : X.A.units + 1 < cLine) : MtR X "set.add" (rPAdd X.K X.prog X.w) := by
  rintro pins s σ H x xs v us Q I rx rxs ⟨a, m, L, rfl, rfl, ha, r, al, few, q⟩
  obtain ⟨es, ep, t, R⟩ := pile_get I ha
  cases rx
  cases rxs with
  | cons ry rt =>
  cases rt
  cases ry
  refine wpAny_call_entry F.slot_set_add R.typed F.entry_set_add ?_ (F.args_set_add_2 _ _)
  unfold Builtin.«set.add» Builtin.Frozenset.oneOther
  simp only [List.isEmpty_nil, bind_assoc]
  unfold Builtin.Frozenset.addrOf setAdd
  refine wpAny_bind (wpAny_pure ?_)
  try dsimp only
  refine wpAny_bind (wpAny_pure ?_)
  try dsimp only
  refine wpAny_bind ?_
  refine wpAny_holding ?_
  have hu1 : X.A.in1.units < cLine := hu
  refine wpAny_bind (wpAny_pyHash_tuple hu1 (r.raw I) ?_)
  refine Pile.add (s := { s with toks := s.toks + (m.1.length + 1) }) R (fun m' k => (al m' k).raw I) (r.raw I) hu1 few fun b h' L' es' ep' t' sb R' c1 c2 => ?_
  change wpAny _ _ (ret Value.none) _ _ _
  have he : ∃ u, h'.get? a = some u := let ⟨o, g1, _⟩ := R'.here; ⟨o, g1⟩
  exact wpAny_pure ⟨_, rfl, .non, _, I.write (e := a) (t' := s.toks + (m.1.length + 1)) (by rw [ha]; trivial) (.inl rfl) (fun b u hb hu => (sb.2 b hb).trans hu) he (pileO_new R'), rfl, q L' c1 c2⟩
def tPAdd (K : PySem.W.Frag) (P : Program) (w : World) (to te : TE) : TE := fun σ H Q => to σ H fun x H1 => (∃ a L, x = V.ref a ∧ H1 a = some (PileO P w a L)) ∧ te σ H1 fun y H2 => rPAdd K P w x [y] H2 Q
variable {o e : Expr} {to te : TE} {apos cpos : Pos}
theorem pe_padd (hu : X.A.units + 1 < cLine) (ho : PE X o to) (he : PE X e te) (eK : X.K = K := by rfl) (eP : X.prog = P := by rfl) (eW : X.w = w := by rfl)
    (h1 : attributeBase o "add" X.env (eval o X.env) = eval o X.env := by rfl)
    (h2 : ((backTo cpos (starEach [e] X.env)).all (fun x => !x.1) && (backToKw cpos (keywordEach [] X.env)).all (fun x => x.1.isSome) && decide ([e].length + ([] : List Keyword).length + (if ([] : List Keyword).isEmpty then 0 else 1) < 30)) = true := by rfl)
    (h3 : (apos.endLine == cpos.line) = true := by rfl) (h4 : backTo cpos (starEach [e] X.env) = [(false, eval e X.env)] := by rfl) : PE X (.Call (.Attribute o "add" apos) [e] [] cpos) (tPAdd K P w to te) := by
  subst eK eP eW
  refine ⟨fun pins s σ H Q I h => ?_⟩
  refine wpAny_Call_method_late h1 h2 h3 h4 (thn (ho.run pins s σ H _ I h) fun v s1 ⟨x, H1, I1, r1, ⟨a, L, e1, e2⟩, q1⟩ => ?_)
  subst e1
  obtain ⟨es, ep, t, R⟩ := pile_get I1 e2
  cases r1
  refine ⟨"set", "set.add", F.plainAttrs_set, F.slot_set_add, F.type_set_add, R.typed, R.bare, ?_⟩
  exact Calls.callWith_builtin rfl (Calls.evalArgs_plain (Calls.spliced_cons (thn (he.run pins s1 σ H1 _ I1 q1) fun u s2 ⟨y, H2, I2, r2, q2⟩ => Calls.spliced_nil (mt_padd hu pins s2 σ H2 (.ref a) [y] (.ref a) [u] Q I2 rfl (.cons r2 .nil) q2))))
/-- x in found, x not in found -/
def rPIn (K : PySem.W.Frag) (P : Program) (w : World) (neg : Bool) : V → V → Hp → VK → Prop := fun x y H Q => ∃ (m : List Key × Addr) (a : Addr) (L : List (List Key × Addr)), x = V.ref m.2 ∧ y = V.ref a ∧ H a = some (PileO P w a L) ∧ RowV K H m ∧ (∀ m' ∈ L, RowV K H m') ∧
  Q (.bl (if neg then !hasR L m.1 else hasR L m.1)) H
theorem or_pin (hu : X.A.units + 1 < cLine) (eK : X.K = K := by rfl) (eP : X.prog = P := by rfl) (eW : X.w = w := by rfl) : OpR X (compareOp .In) (rPIn K P w false) := by
  subst eK eP eW
  rintro pins s σ H x y v u Q I rx ry ⟨m, a, L, rfl, rfl, ha, r, al, q⟩
  obtain ⟨es, ep, t, R⟩ := pile_get I ha
  cases rx
  cases ry
  exact wpAny_bind (R.has (fun m' k => (al m' k).raw I) (r.raw I) hu fun k => wpAny_pure ⟨.bl (hasR L m.1), _, I.tok k, rfl, q⟩)
theorem or_pnotin (hu : X.A.units + 1 < cLine) (eK : X.K = K := by rfl) (eP : X.prog = P := by rfl) (eW : X.w = w := by rfl) : OpR X (compareOp .NotIn) (rPIn K P w true) := by
  subst eK eP eW
  rintro pins s σ H x y v u Q I rx ry ⟨m, a, L, rfl, rfl, ha, r, al, q⟩
  obtain ⟨es, ep, t, R⟩ := pile_get I ha
  cases rx
  cases ry
  exact wpAny_bind (R.has (fun m' k => (al m' k).raw I) (r.raw I) hu fun k => wpAny_pure ⟨.bl (!hasR L m.1), _, I.tok k, rfl, q⟩)
end words
end Y

/-! a call whose arguments are all named, in the order of the parameters -/
namespace Y
open PySem PySem.Spec PyProof.Rows L2
structure FnK (P : Program) (w : World) (K : PySem.W.Frag) (mg : Str → Option Value) (base : Heap) (k : Nat) (x : Str) (ps : List Str) (sp : Sp) : Prop where
  ex : ∃ f fd, mg x = some (.ref f) ∧ PySem.W.keepIn K (.ref f) = true ∧ (∀ (s : Shared) (ws : List Value), K.In s.heap → ws.length = ps.length → BindsTo s fd ⟨[], ps.zip ws⟩ (ps.zip ws)) ∧ FnOk P w K mg base CX0 k f fd ps sp
abbrev tCallN (sp : Sp) (tk : TA) : TE := fun σ H Q => tk σ H fun zs H2 => sp zs H2 Q E0
section
variable {X : Cx} {x : Str} {k : Nat} {ps : List Str} {sp : Sp} {p pos : Pos} {kws : List Keyword} {tk : TA}
theorem pe_fnK (F : FnK X.prog X.w X.K X.mg X.base k x ps sp) (hr : Room k X.A) (hg : Gl X x) (hkw : PK X kws tk) (hall : (backToKw pos (keywordEach kws X.env)).all (·.1.isSome) = true := by rfl) (hks : (backToKw pos (keywordEach kws X.env)).filterMap (·.1) = ps := by rfl)
    (hdb : (x == ("__debug__" : Str)) = false := by decide) (hpl : ((backTo pos (starEach [] X.env)).any (·.1) || (backToKw pos (keywordEach kws X.env)).any (·.1.isNone)) = false := by rfl) : PE X (.Call (.Name x p) [] kws pos) (tCallN sp tk) := by
  obtain ⟨f, fd, hm, hk, hb, G⟩ := F.ex
  refine ⟨fun pins s σ H Q I h => ?_⟩
  refine wpAny_Call_Name_kw (ld_glob I hg hm ?_ hdb)
  refine PySem.W.callWith_KW0 (h₀ := X.base) I.ok.mod.kin hk hall ?_ hpl
  refine thn (hkw.run pos pins s σ H _ I h) fun ws s2 ⟨zs, H2, I2, rz, q⟩ => ⟨I2.kIn, ?_⟩
  rw [hks]
  have hl : ws.length = ps.length := by rw [← rz.length]; exact G.len _ _ _ _ q
  refine wpAny_call (codeAny_mono (G.run X.A X.stack s2 H2 ⟨[], ps.zip ws⟩ ws zs Q E0 hr I2.env0 (hb s2 ws I2.kIn hl) rz q) fun r s' hq => ?_)
  cases r with
  | error e => exact pass0 pins _ _ _ e s' I2 hq
  | ok fl =>
    cases fl with
    | ret u => exact I2.after hq
    | next => exact False.elim hq
    | brk => exact False.elim hq
    | cont => exact False.elim hq
end
end Y

/-! what a law of rooms compares: keys, rows, rows of rows; a ring written anew -/
namespace Y
open PySem PySem.Spec PyProof.Rows L2
theorem flatL_key : ∀ k : Key, flatL (kV k) = true
  | .inl _ => rfl
  | .inr _ => rfl
theorem al_key {H : Hp} (n : Nat) (k : Key) : Al H n (kV k) (kV k) := by
  cases n with
  | zero => exact ⟨rfl, flatL_key k⟩
  | succ n => exact .inl ⟨rfl, flatL_key k⟩
theorem al_mono {H H' : Hp} (hl : ∀ a xs, H a = some (.lst xs) → H' a = some (.lst xs)) (ht : ∀ a xs, H a = some (.tup xs) → H' a = some (.tup xs)) : ∀ {n : Nat} {x y : V}, Al H n x y → Al H' n x y
  | 0, _, _, h => h
  | n + 1, x, y, h => by
    rcases h with h | ⟨a, b, xs, ys, e1, e2, h, l1, l2, k⟩
    · exact .inl h
    · exact .inr ⟨a, b, xs, ys, e1, e2, h.imp (fun h => ⟨hl _ _ h.1, hl _ _ h.2⟩) (fun h => ⟨ht _ _ h.1, ht _ _ h.2⟩), l1, l2, fun i p q hp hq => al_mono hl ht (k i p q hp hq)⟩
theorem al_keys {H : Hp} {n : Nat} {l : List Key} {i : Nat} {p q : V} (hp : (l.map kV)[i]? = some p) (hq : (l.map kV)[i]? = some q) : Al H n p q := by
  rw [hp] at hq
  cases hq
  rw [List.getElem?_map] at hp
  obtain ⟨k, _, rfl⟩ := Option.map_eq_some_iff.mp hp
  exact al_key n k
theorem al_keysL {H : Hp} {n : Nat} {a b : Addr} {l : List Key} (ha : H a = some (.lst (l.map kV))) (hb : H b = some (.lst (l.map kV))) (z : l.length ≤ 100000) : Al H (n + 1) (.ref a) (.ref b) :=
  .inr ⟨a, b, _, _, rfl, rfl, .inl ⟨ha, hb⟩, rfl, by rw [List.length_map]; exact z, fun _ _ _ => al_keys⟩
theorem al_tup {H : Hp} {n : Nat} {a b : Addr} {l : List Key} (ha : H a = some (.tup (l.map kV))) (hb : H b = some (.tup (l.map kV))) (z : l.length ≤ 100000) : Al H (n + 1) (.ref a) (.ref b) :=
  .inr ⟨a, b, _, _, rfl, rfl, .inr ⟨ha, hb⟩, rfl, by rw [List.length_map]; exact z, fun _ _ _ => al_keys⟩
theorem refs_at {as : List Addr} {i : Nat} {p : V} (h : (as.map V.ref)[i]? = some p) : ∃ a, as[i]? = some a ∧ p = .ref a := by
  rw [List.getElem?_map] at h
  obtain ⟨a, e, rfl⟩ := Option.map_eq_some_iff.mp h
  exact ⟨a, e, rfl⟩
theorem al_row {H : Hp} {n : Nat} {a b : Addr} {row : List Stp} (ha : RowP H a row) (hb : RowP H b row) (z : row.length ≤ 100000) : Al H (n + 2) (.ref a) (.ref b) := by
  obtain ⟨ts, h1, h2⟩ := ha
  obtain ⟨us, k1, k2⟩ := hb
  have l1 : ts.length = row.length := (Paired.length h2).trans (List.length_map _)
  have l2 : us.length = row.length := (Paired.length k2).trans (List.length_map _)
  refine .inr ⟨a, b, _, _, rfl, rfl, .inl ⟨h1, k1⟩, by rw [List.length_map, List.length_map, l1, l2], by rw [List.length_map, l1]; exact z, fun i p q hp hq => ?_⟩
  obtain ⟨t, et, rfl⟩ := refs_at hp
  obtain ⟨u, eu, rfl⟩ := refs_at hq
  obtain ⟨k, ek, rk⟩ := paired_at h2 et
  obtain ⟨k', ek', rk'⟩ := paired_at k2 eu
  rw [ek] at ek'
  cases ek'
  rw [List.getElem?_map] at ek
  obtain ⟨s, _, rfl⟩ := Option.map_eq_some_iff.mp ek
  exact al_tup rk rk' (by show 2 ≤ 100000; decide)
theorem al_rows {H : Hp} {n : Nat} {p q : Addr} {as bs : List Addr} {rows : List (List Stp)} (hp : H p = some (.lst (as.map V.ref))) (hq : H q = some (.lst (bs.map V.ref))) (ha : Paired (RowP H) as rows) (hb : Paired (RowP H) bs rows) (z : rows.length ≤ 100000) (z2 : ∀ r ∈ rows, r.length ≤ 100000) : Al H (n + 3) (.ref p) (.ref q) := by
  have l1 := Paired.length ha
  have l2 := Paired.length hb
  refine .inr ⟨p, q, _, _, rfl, rfl, .inl ⟨hp, hq⟩, by rw [List.length_map, List.length_map, l1, l2], by rw [List.length_map, l1]; exact z, fun i x y hx hy => ?_⟩
  obtain ⟨a, ea, rfl⟩ := refs_at hx
  obtain ⟨b, eb, rfl⟩ := refs_at hy
  obtain ⟨r, er, ra⟩ := paired_at ha ea
  obtain ⟨r', er', rb⟩ := paired_at hb eb
  rw [er] at er'
  cases er'
  exact al_row ra rb (z2 _ (List.mem_of_getElem? er))
theorem rows_small {W : Whl} (g : Good W) {rows : List (List Stp)} (R : Rows (nextW W) (stepsW W).reverse rows) : rows.length ≤ (stepsW W).length ∧ ∀ r ∈ rows, r.length ≤ (stepsW W).length := by
  refine ⟨by have := R.len; rwa [List.length_reverse] at this, fun r hr => ?_⟩
  obtain ⟨s, hs, n, _, rfl, _, fr⟩ := R.cyc r hr
  rw [rowN_len]
  exact fr.le g.one (List.mem_reverse.mp hs)
/-- a ring is written anew, as a tuple -/
theorem put_ring {H : Hp} {u : Key} {r : List Key} {t : Addr} (ht : H t = some (.tup (r.map kV))) : ∀ {kvs : List (Key × V)} {W : Whl}, Paired (RgQ H) kvs W → (W.map (·.1)).Nodup → (u, r) ∈ W → Paired (RgQ H) (kvs.map (fun kv => if kv.1 = u then (kv.1, V.ref t) else kv)) W
  | _, _, .nil, _, h => by cases h
  | kv :: kvs, (u', r') :: W, .cons e p, nd, h => by
    rw [List.map_cons, List.nodup_cons] at nd
    have ek : kv.1 = u' := e.1
    have skip : ∀ {ks : List (Key × V)} {W : Whl}, Paired (RgQ H) ks W → u ∉ W.map (·.1) → ks.map (fun kv => if kv.1 = u then (kv.1, V.ref t) else kv) = ks := by
      intro ks W p
      induction p with
      | nil => intro _; rfl
      | cons e p ih =>
        intro n
        rw [List.map_cons, List.mem_cons] at n
        rw [List.map_cons, ih fun h => n (.inr h), if_neg fun h => n (.inl (h.symm.trans e.1))]
    rw [List.map_cons]
    rcases List.mem_cons.mp h with q | q
    · cases q
      rw [if_pos ek, skip p nd.1]
      exact .cons ⟨ek, t, rfl, .inr ht⟩ p
    · have ne : ¬ kv.1 = u := fun z => nd.1 (by
        show u' ∈ _
        rw [← ek, z]
        exact List.mem_map.mpr ⟨(u, r), q, rfl⟩)
      rw [if_neg ne]
      exact .cons e (put_ring ht p nd.2 q)
theorem put_ringK {H : Hp} {u : Key} {r : List Key} {t : Addr} {kvs : List (Key × V)} {W : Whl} (ht : H t = some (.tup (r.map kV))) (p : Paired (RgQ H) kvs W) (nd : (W.map (·.1)).Nodup) (h : (u, r) ∈ W) : Paired (RgQ H) (putK kvs u (.ref t)) W := by
  unfold putK
  rw [if_pos]
  · exact put_ring ht p nd h
  · have hk : u ∈ kvs.map (·.1) := by
      rw [rgq_keys p]
      exact List.mem_map.mpr ⟨(u, r), h, rfl⟩
    obtain ⟨kv, hkv, e⟩ := List.mem_map.mp hk
    exact List.any_eq_true.mpr ⟨kv, hkv, decide_eq_true e⟩
theorem RgQ.keep {H H' : Hp} (hl : ∀ a xs, H a = some (.lst xs) → nb xs → H' a = some (.lst xs)) (ht : ∀ a xs, H a = some (.tup xs) → H' a = some (.tup xs)) {x : Key × V} {y : Key × List Key} (h : RgQ H x y) : RgQ H' x y := by
  obtain ⟨e, a, e1, e2⟩ := h
  exact ⟨e, a, e1, e2.imp (fun h => hl _ _ h (nb_keys _)) (fun h => ht _ _ h)⟩
theorem RgQ.kp {H H' : Hp} (k : Kp H H') {x : Key × V} {y : Key × List Key} (h : RgQ H x y) : RgQ H' x y := by
  obtain ⟨e, a, e1, e2⟩ := h
  exact ⟨e, a, e1, e2.imp (fun h => k.keep _ _ h (nb_keys _).bag) (fun h => k.keep _ _ h rfl)⟩
theorem WqAt.kp {H H' : Hp} (k : Kp H H') {d : Addr} {W : Whl} (h : WqAt H d W) : WqAt H' d W := by
  obtain ⟨kvs, h1, h2⟩ := h
  exact ⟨kvs, k.keep _ _ h1 rfl, Paired.mapP h2 fun a b r => r.kp k⟩
theorem RowP.mut {H : Hp} {m a : Addr} {o u : HO} {row : List Stp} (h : RowP H a row) (e : H m = some u) (n1 : ∀ xs, u ≠ .lst xs) (n2 : ∀ xs, u ≠ .tup xs) : RowP (upd H m o) a row := by
  obtain ⟨ts, h1, h2⟩ := h
  exact ⟨ts, by rw [upd_ne (ne_of h1 e fun q => n1 _ q.symm)]; exact h1, h2.mono fun z xs k => by rw [upd_ne (ne_of k e fun q => n2 _ q.symm)]; exact k⟩
/-- a wheel as the law draws it -/
structure WF (H : Hp) (d : Addr) (W : Whl) : Prop where
  at_ : WhAt H d W
  g : Good W
  ok : OkW W
  st : StrW W
  few : W.length ≤ 16
  len : (stepsW W).length ≤ 60
theorem WF.kp {H H' : Hp} (k : Kp H H') {d : Addr} {W : Whl} (h : WF H d W) : WF H' d W := ⟨h.at_.kp k, h.g, h.ok, h.st, h.few, h.len⟩
theorem WF.ringed {H : Hp} {d : Addr} {W : Whl} (h : WF H d W) : Ringed W := ⟨h.g, h.st, h.ok.steps h.g, by have := h.few; omega, h.len⟩
end Y

/-! xs[:0:-1]: all but the first, backward -/
namespace Y
open PySem PySem.Spec PyProof.Rows L2
theorem down_range (n : Nat) : (List.range n).map (fun k => n - k) = ((List.range n).map (1 + ·)).reverse := by
  apply List.ext_getElem
  · simp
  · intro i h1 h2
    rw [List.length_map, List.length_range] at h1
    rw [List.getElem_map, List.getElem_reverse, List.getElem_map, List.getElem_range, List.getElem_range, List.length_map, List.length_range]
    omega
theorem down_slice (n : Nat) : sliceRange (n : Int) 0 (-1) = (List.range n).map fun k => n - k := by
  unfold sliceRange
  have h1 : ¬ ((-1 : Int) > 0) := by decide
  by_cases h : (n : Int) > 0
  · have e : ((n : Int) - 0 - -1 - 1) / (- -1) = (n : Int) := by
      rw [show (- -1 : Int) = 1 by decide, Int.ediv_one]
      omega
    simp only [h1, if_false, h, if_true, e, Int.toNat_natCast]
    refine List.map_congr_left fun k hk => ?_
    have := List.mem_range.mp hk
    omega
  · have e : n = 0 := by omega
    subst e
    simp
theorem tail_pick (items : Array Value) : slicePick items none (some 0) (some (-1)) = (items.toList.drop 1).reverse.toArray := by
  unfold slicePick
  rcases Nat.eq_zero_or_pos items.size with e | e
  · have e2 : items = #[] := Array.size_eq_zero_iff.mp e
    subst e2
    rfl
  · obtain ⟨n, hn⟩ : ∃ n, items.size = n + 1 := ⟨items.size - 1, by omega⟩
    have b : sliceBounds none (some 0) (some (-1)) items.size = ((n : Int), 0, -1) := by
      rw [hn]
      simp [sliceBounds]
      omega
    rw [b]
    show ((sliceRange (n : Int) 0 (-1)).filterMap (items[·]?)).toArray = _
    rw [down_slice, down_range, List.filterMap_reverse]
    have h := pick_run items 1 n
    rw [h, List.take_of_length_le (by rw [List.length_drop, Array.length_toList]; omega)]
def tTailRev (K : PySem.W.Frag) (te : TE) : TE := fun σ H Q => te σ H fun x H1 => ∃ a xs, x = .ref a ∧ SqL K H1 a xs ∧ ∀ p, H1 p = none → Q (.ref p) (upd H1 p (.lst (xs.drop 1).reverse))
theorem drop_vals : ∀ {xs : List V} {us : List Value} (n : Nat), Vals xs us → Vals (xs.drop n) (us.drop n)
  | _, _, 0, r => r
  | _, _, _ + 1, .nil => .nil
  | _, _, n + 1, .cons _ r => drop_vals n r
theorem pe_tailRev {X : Cx} {K : PySem.W.Frag} {e : Expr} {te : TE} {k k2 : Nat} {p0 p1 p2 p3 pos : Pos} (he : PE X e te) (eK : X.K = K := by rfl) : PE X (.Subscript e (.Slice none (some (.Constant (.int 0) k2 p0)) (some (.UnaryOp .USub (.Constant (.int 1) k p1) p2)) p3) pos) (tTailRev K te) := by
  subst eK
  refine ⟨fun pins s σ H Q I h => Subscript_ (thn (he.run pins s σ H _ I h) fun v s1 ⟨x, H1, I1, r1, a, xs, ex, hx, q⟩ => ?_)⟩
  subst ex
  cases r1
  have up : PO X (some (.Constant (.int 0) k2 p0)) (tPart (tC (.int 0))) := po_some pe_int
  have st : PO X (some (.UnaryOp .USub (.Constant (.int 1) k p1) p2)) (tPart (tUn (rU fun i => .int (-i)) (tC (.int 1)))) := po_some (pe_un un_neg pe_int)
  refine wpAny_Slice (thn (po_none.run pins s1 σ H1 (fun o G => o = none ∧ G = H1) I1 ⟨rfl, rfl⟩) fun v1 s2 ⟨o1, G1, J1, k1, c1, d1⟩ => ?_)
  subst c1 d1
  refine thn (up.run pins s2 σ G1 (fun o G => o = some 0 ∧ G = G1) J1 ⟨0, rfl, rfl, rfl⟩) fun v2 s3 ⟨o2, G2, J2, k2', c2, d2⟩ => ?_
  subst c2 d2
  refine thn (st.run pins s3 σ G2 (fun o G => o = some (-1) ∧ G = G2) J2 ⟨1, rfl, -1, rfl, rfl, rfl⟩) fun v3 s4 ⟨o3, G3, J3, k3, c3, d3⟩ => ?_
  subst c3 d3
  have J4 : Inv X pins σ G3 { s4 with heap := s4.heap.push { cls := .type "slice", data := .fields #[v1, v2, v3] } } := J3.kept (t' := s4.toks) fun b ob q => Heap.get?_push_of_some _ q
  obtain ⟨its, r, ht, hz⟩ := J4.list hx
  have hlen := r.length
  change wpAny (model X.prog X.w) X.A (subscriptTail e (.Slice none (some (.Constant (.int 0) k2 p0)) (some (.UnaryOp .USub (.Constant (.int 1) k p1) p2)) p3) (.ref a) (.ref s4.heap.objs.size)) (EP X pins σ Q) X.xe { s4 with heap := s4.heap.push { cls := .type "slice", data := .fields #[v1, v2, v3] } }
  refine tail_any (ops := [.ref a, .ref s4.heap.objs.size]) ht.isList.typeIs (PySem.slot_list_getitem.lookup) (wpAny_getItem_list_slice ht.isList (Heap.IsSliceOf.new _ v1 v2 v3) k1 k2' k3 (by decide) ?_ (by rw [List.size_toArray]; omega)) (by with_unfolding_all rfl)
  rw [tail_pick]
  have rd : Vals (xs.drop 1).reverse (its.drop 1).reverse := (drop_vals 1 r).reverse
  refine ⟨.ref _, _, J4.laid (t' := s4.toks) (o := .lst (xs.drop 1).reverse) (fun b ob q => Heap.get?_push_of_some _ q) (Nat.le_refl _) ⟨by rw [List.length_reverse, List.length_drop]; omega, _, 0, rd, Heap.get?_push_size _ rfl⟩, rfl, q _ (J4.hok.fresh (Nat.le_refl _))⟩
/-- y = a dict comprehension of one clause -/
theorem ps_setDc1 {X : Cx} {kx vx ta ia : Expr} {ifs : List Expr} {sc : Scope} {own : List (Str × Nat)} {ps py pz : Pos} {wa : TI} {ga : TG} {tt : TT} {tk tv : TE} {n : Nat} {y : Str} (hc : X.calm = true) (hN : X.N.Nodup) (hy : X.N[n]? = some y) (hl : X.env.scope.names.lookup y = some .local) (sw : swapsWith (.DictComp kx vx [⟨ta, ia, ifs, 0⟩] sc ps) (some (.Name y py)) pz.line X.env = pure true)
    (pa : PI X ta ia wa) (ok : BlkOk X.N X.env.scope sc own) (pga : InBlk X sc fun B => PG B ta ga) (pt : InBlk X sc fun B => PTs B ifs tt) (pk : InBlk X sc fun B => PE B kx tk) (pv : InBlk X sc fun B => PE B vx tv) (fa : ∀ x, foldedSetIterable ia X.env x = pure x := by intro _; rfl) :
    PS X (.Assign [.Name y py] (.DictComp kx vx [⟨ta, ia, ifs, 0⟩] sc ps) pz) (tAsg (tDc wa ga tt tk tv (own.map (·.2))) (gName n)) := by
  refine ⟨fun pins st σ H De I h => ?_⟩
  rw [exec_Assign_Name_used _ _ _ _ sw]
  refine wpAny_bind (wpAny_standAt (wpAny_bind ?_))
  show wpAny _ X.A (do let _ ← comprehension (.DictComp kx vx [⟨ta, ia, ifs, 0⟩] sc ps) sc X.env (firstIterPos [⟨ta, ia, ifs, 0⟩] ps) newDict false (eval ia X.env) (some (assign (.Name y py) X.env))) _ _ st
  have h : tDc wa ga tt tk tv (own.map (·.2)) σ H (fun x H1 => gName n x σ H1 De.nx) := h
  refine wpAny_bind (thn (dc_core (Qf := fun _ z => SP X pins De .next z) hc hN I pa ok pga pt pk pv fa h fun L C z m H' J q ns f => ?_) fun _ z hq => wpAny_pure (wpAny_pure hq))
  show wpAny _ _ (assign (.Name y py) X.env (.ref L)) _ _ _
  refine wpAny_assign_Name (store_ok2 (v := V.ref L) J hN hy (.inl hl) rfl (fun z2 J2 ⟨c, sb, hc2⟩ => ?_) (.inr hl))
  obtain ⟨g0, g1, _, g3, g4, g5⟩ := f
  have apart : C ≠ c := by
    rcases hc2 with e | e
    · rw [e]
      exact g1
    · exact fun e2 => g4 y c e e2.symm
  exact ⟨m, ns.sameBut sb apart, fun h3 sb3 => ⟨_, H', J2.turned (t' := z2.toks) (fun b o hb e => (sb3.2 b hb).trans e) g0 g1 g3 g4 g5, q⟩⟩
/-- the loop of such a comprehension: each item puts one new key -/
theorem dc_new {J : It} {n : Nat} {G : Hp → Prop} {Yw : Nat → Hp → V → Hp → Prop} (w : Walk J n G Yw) {g : TG} {tk tv : TE} {vs : List Nat} {σ : L2.St} {H1 : Hp} {D : Addr} {Qd : Hp → Prop} (Pv : Nat → Hp → Prop) (h0 : Pv 0 (upd H1 D (.dK []))) (hG : ∀ i H, i ≤ n → Pv i H → G H)
    (hs : ∀ i x H H', i < n → Pv i H → Yw i H x H' → g x (wipe σ vs) H' fun σ2 H2 => wipe σ2 vs = wipe σ vs ∧ tk σ2 H2 fun y H4 => tv σ2 H4 fun z H5 => ∃ kvs k, y = kV k ∧ H5 D = some (.dK kvs) ∧ kvs.length < sizeLine ∧ Pv (i + 1) (upd H5 D (.dK (putK kvs k z)))) (hd : ∀ H, Pv n H → Qd H) :
    ∃ W : Nat → Nat → Hp → Prop, (∃ m, W 0 m (upd H1 D (.dK []))) ∧ ∀ i m H, W i m H →
      (J.stop i H ∧ Qd H) ∨ (J.go i H ∧ ∃ Nx : Hp → Prop, (∀ H', Nx H' → ∃ m', m' < m ∧ W (i + 1) m' H') ∧ ∀ x H', J.yld i H x H' → g x (wipe σ vs) H' fun σ2 H2 => wipe σ2 vs = wipe σ vs ∧ tYes σ2 H2 fun b H3 =>
        if b = true then tk σ2 H3 fun y H4 => tv σ2 H4 fun z H5 => ∃ kvs k, y = kV k ∧ H5 D = some (.dK kvs) ∧ kvs.length < sizeLine ∧ Nx (upd H5 D (.dK (putK kvs k z))) else Nx H3) := by
  refine ⟨fun j k H => j + k = n ∧ Pv j H, ⟨n, by omega, h0⟩, ?_⟩
  rintro j k H ⟨e, p⟩
  by_cases c : j < n
  · exact .inr ⟨w.goes j H c (hG j H (by omega) p), Pv (j + 1), fun H' p' => ⟨k - 1, by omega, by omega, p'⟩, fun x H' y => hs j x H H' c p (w.yields j H x H' c (hG j H (by omega) p) y)⟩
  · obtain rfl : j = n := by omega
    exact .inl ⟨w.stops H (hG j H (Nat.le_refl _) p), hd H p⟩
end Y
namespace Y
open PySem PySem.Spec PyProof.Rows L2
/-! ### turned wheels -/
def turnR (r : List Key) : List Key := r.take 1 ++ (r.drop 1).reverse
def turnW (W : Whl) : Whl := W.map fun ur => (ur.1, turnR ur.2)
theorem turnR_len (r : List Key) : (turnR r).length = r.length := by
  unfold turnR
  rw [List.length_append, List.length_reverse, List.length_take, List.length_drop]
  omega
theorem turnW_keys (W : Whl) : (turnW W).map (·.1) = W.map (·.1) := by
  unfold turnW
  rw [List.map_map]
  rfl
theorem turnR_perm (r : List Key) : (turnR r).Perm r := by
  unfold turnR
  have h : (r.take 1 ++ (r.drop 1).reverse).Perm (r.take 1 ++ r.drop 1) := (List.reverse_perm _).append_left _
  rwa [List.take_append_drop] at h
theorem turnR_map (r : List Key) : (turnR r).map kV = (r.map kV).take 1 ++ ((r.map kV).drop 1).reverse := by
  unfold turnR
  rw [List.map_append, List.map_take, List.map_reverse, List.map_drop]
def sp_turned : Sp := fun vs H Q _ => ∃ (d : Addr) (W : Whl), vs = [.ref d] ∧ WhAt H d W ∧ Ringed W ∧ ∀ (p : Addr) (H' : Hp), H p = none → Same H H' → WhAt H' p (turnW W) → (∀ kvs, H' p = some (.dK kvs) → ∀ k a, (k, V.ref a) ∈ kvs → H a = none) → Q (.ref p) H'
theorem mem_putK {κ : Type} [DecidableEq κ] {kvs : List (κ × V)} {k : κ} {z : V} {x : κ × V} (h : x ∈ putK kvs k z) : x ∈ kvs ∨ x = (k, z) := by
  unfold putK at h
  split at h
  · obtain ⟨y, hy, e⟩ := List.mem_map.mp h
    split at e
    · rename_i c
      rw [c] at e
      exact .inr e.symm
    · exact .inl (e ▸ hy)
  · rcases List.mem_append.mp h with h | h
    · exact .inl h
    · exact .inr (List.mem_singleton.mp h)
theorem turn_snoc {H : Hp} {W : Whl} {i : Nat} {u : Key} {r : List Key} {kvs : List (Key × V)} {a : Addr} (nd : (W.map (·.1)).Nodup) (hW : W[i]? = some (u, r)) (p : Paired (RgP H) kvs ((turnW W).take i)) (ha : H a = some (.lst ((turnR r).map kV))) :
    Paired (RgP H) (putK kvs u (.ref a)) ((turnW W).take (i + 1)) := by
  have hT : (turnW W)[i]? = some (u, turnR r) := by
    unfold turnW
    rw [List.getElem?_map, hW]
    rfl
  have nk : u ∉ kvs.map (·.1) := by
    rw [rgp_keys p, List.map_take, turnW_keys]
    exact nd_take nd (by rw [List.getElem?_map, hW]; rfl)
  rw [putK_new _ (valV_no nk), take_snoc hT]
  exact paired_snoc ⟨rfl, a, rfl, ha⟩ p
theorem RgP.same {H H' : Hp} (s : Same H H') {x : Key × V} {y : Key × List Key} (h : RgP H x y) : RgP H' x y := by
  obtain ⟨e, a, e1, e2⟩ := h
  exact ⟨e, a, e1, s _ _ e2⟩
theorem RgP.mut {H : Hp} {m : Addr} {o u : HO} {x : Key × V} {y : Key × List Key} (h : RgP H x y) (e : H m = some u) (n1 : ∀ xs, u ≠ .lst xs) : RgP (upd H m o) x y := by
  obtain ⟨e0, a, e1, e2⟩ := h
  exact ⟨e0, a, e1, by rw [upd_ne (ne_of e2 e fun q => n1 _ q.symm)]; exact e2⟩
end Y

/-! wheels that hang together -/
namespace Y
open PySem PySem.Spec PyProof.Rows L2
inductive Reach (W : Whl) (a : Key) : Key → Prop where
  | here : Reach W a a
  | step {b c : Key} : Reach W a b → (b, c) ∈ stepsW W → Reach W a c
def ConnW (W : Whl) : Prop := ∀ a, (W.map (·.1)).head? = some a → ∀ k ∈ W.map (·.1), Reach W a k
def ClosedW (W : Whl) (M : List Key) : Prop := ∀ b ∈ M, ∀ c, (b, c) ∈ stepsW W → c ∈ M
theorem Reach.mem {W : Whl} {a k : Key} {M : List Key} (h : Reach W a k) (ha : a ∈ M) (c : ClosedW W M) : k ∈ M := by
  induction h with
  | here => exact ha
  | step _ s ih => exact c _ ih _ s
structure Met (W : Whl) (a : Key) (M : List Key) : Prop where
  nd : M.Nodup
  sub : ∀ k ∈ M, k ∈ W.map (·.1)
  at_ : a ∈ M
  re : ∀ k ∈ M, Reach W a k
theorem Met.len {W : Whl} {a : Key} {M : List Key} (m : Met W a M) : M.length ≤ W.length := by
  have := nodup_sub m.nd (D := W.map (·.1)) m.sub
  rwa [List.length_map] at this
theorem Met.conn {W : Whl} {a : Key} {M : List Key} (m : Met W a M) (hn : (W.map (·.1)).Nodup) (ha : (W.map (·.1)).head? = some a) (c : ClosedW W M) : M.length = W.length ↔ ConnW W := by
  constructor
  · intro e a' ha' k hk
    rw [ha] at ha'
    cases ha'
    rcases Classical.em (k ∈ M) with h | h
    · exact m.re k h
    · exfalso
      have h1 : (k :: M).Nodup := List.nodup_cons.mpr ⟨h, m.nd⟩
      have h2 := nodup_sub h1 (D := W.map (·.1)) fun x hx => (List.mem_cons.mp hx).elim (fun e => e ▸ hk) (m.sub x)
      rw [List.length_map, List.length_cons] at h2
      omega
  · intro h
    have h1 := nodup_sub hn (D := M) fun k hk => (h a ha k hk).mem m.at_ c
    rw [List.length_map] at h1
    have := m.len
    omega
theorem Met.one {W : Whl} {a : Key} (ha : (W.map (·.1)).head? = some a) : Met W a ((W.map (·.1)).take 1) := by
  cases h : W.map (·.1) with
  | nil => rw [h] at ha; cases ha
  | cons x r =>
    rw [h] at ha
    cases ha
    refine ⟨?_, fun k hk => ?_, ?_, fun k hk => ?_⟩
    · simp
    · have : k = a := by simpa using hk
      rw [this, h]
      exact List.mem_cons_self
    · simp
    · have : k = a := by simpa using hk
      rw [this]
      exact .here
theorem Met.add {W : Whl} {a b c : Key} {M : List Key} (m : Met W a M) (g : Good W) (hb : b ∈ M) (s : (b, c) ∈ stepsW W) (n : c ∉ M) : Met W a (M ++ [c]) := by
  refine ⟨?_, fun k hk => ?_, List.mem_append_left _ m.at_, fun k hk => ?_⟩
  · rw [List.nodup_append]
    exact ⟨m.nd, by simp, fun x hx y hy e => n (by rw [← List.mem_singleton.mp hy, ← e]; exact hx)⟩
  · rcases List.mem_append.mp hk with h | h
    · exact m.sub k h
    · rw [List.mem_singleton.mp h]
      exact key_of (g.sym _ _ s)
  · rcases List.mem_append.mp hk with h | h
    · exact m.re k h
    · rw [List.mem_singleton.mp h]
      exact (m.re b hb).step s
theorem dkT_in {M : List Key} {y : Key} (h : y ∈ M) : valV (dkT M) y = some (.bl true) := by
  induction M with
  | nil => cases h
  | cons x M ih =>
    by_cases e : x = y
    · exact valV_pos (p := (x, V.bl true)) e
    · refine (valV_neg (p := (x, V.bl true)) e).trans (ih ?_)
      rcases List.mem_cons.mp h with h | h
      · exact absurd h.symm e
      · exact h
theorem dkT_no {M : List Key} {y : Key} (h : y ∉ M) : valV (dkT M) y = none := by
  refine valV_no ?_
  unfold dkT
  rw [List.map_map]
  show y ∉ M.map fun k => k
  rwa [List.map_id']
theorem last_split {α : Type} {l : List α} (h : l ≠ []) : ∃ r x, l = r ++ [x] := ⟨l.dropLast, l.getLast h, (List.dropLast_concat_getLast h).symm⟩
end Y
namespace Y
open PySem PySem.Spec PyProof.Rows L2
/-! ### plane wheels, by the count -/
def PlaneW (W : Whl) : Prop := W ≠ [] ∧ ConnW W ∧ (W.length = 1 ∨ ∃ rows, Rows (nextW W) (stepsW W).reverse rows ∧ (rows.length : Int) = ((stepsW W).length : Int) / 2 - W.length + 2)
def lensW (W : Whl) : List Int := W.map fun ur => (ur.2.length : Int)
theorem lensW_sum : ∀ W : Whl, (lensW W).sum = ((stepsW W).length : Int)
  | [] => rfl
  | (u, r) :: W => by
    have ih := lensW_sum W
    unfold lensW at ih ⊢
    rw [List.map_cons, List.sum_cons, ih]
    show (r.length : Int) + _ = (((stepsU u r) ++ stepsW W).length : Int)
    rw [List.length_append, stepsU_len, Int.natCast_add]
theorem lensW_len (W : Whl) : (lensW W).length = W.length := List.length_map _
theorem range_getD (l : List Int) : (List.range l.length).map (fun i => V.int (l.getD i 0)) = l.map V.int := by
  apply List.ext_getElem
  · simp
  · intro i h1 h2
    rw [List.length_map, List.length_range] at h1
    rw [List.getElem_map, List.getElem_map, List.getElem_range, List.getD_eq_getElem?_getD, List.getElem?_eq_getElem h1]
    rfl
theorem conn_one {W : Whl} (h : W.length = 1) : ConnW W := by
  intro a ha k hk
  match W, h with
  | [(u, r)], _ =>
    have e1 : u = a := Option.some.inj ha
    have e2 : k = u := by simpa using hk
    rw [e2, e1]
    exact .here
theorem PlaneW.small {W : Whl} (h : W.length < 2) : PlaneW W ↔ W.length = 1 := by
  constructor
  · rintro ⟨h1, _⟩
    cases W with
    | nil => exact absurd rfl h1
    | cons x r =>
      rw [List.length_cons] at h ⊢
      omega
  · intro e
    exact ⟨fun z => (by rw [z] at e; cases e), conn_one e, .inl e⟩
theorem PlaneW.big {W : Whl} {rows : List (List Stp)} (h : 2 ≤ W.length) (R : Rows (nextW W) (stepsW W).reverse rows) : PlaneW W ↔ (ConnW W ∧ (rows.length : Int) = ((stepsW W).length : Int) / 2 - W.length + 2) := by
  constructor
  · rintro ⟨_, c, e | ⟨rows', R', e⟩⟩
    · omega
    · rw [R'.uniq R] at e
      exact ⟨c, e⟩
  · rintro ⟨c, e⟩
    exact ⟨fun z => (by rw [z] at h; exact absurd h (by decide)), c, .inr ⟨rows, R, e⟩⟩
end Y
namespace Y
open PySem PySem.Spec PyProof.Rows L2
/-! ### the laps of the law's count -/
def newOf (W : Whl) (M : List Key) : List Key := (W.filter fun vr => !memK vr.1 M && M.any fun u => memK u vr.2).map (·.1)
def laps (W : Whl) (M : List Key) : Nat → List Key
  | 0 => M
  | i + 1 => laps W M i ++ newOf W (laps W M i)
theorem mem_new {W : Whl} {M : List Key} {v : Key} : v ∈ newOf W M ↔ ∃ r, (v, r) ∈ W ∧ v ∉ M ∧ ∃ u ∈ M, u ∈ r := by
  unfold newOf
  rw [List.mem_map]
  constructor
  · rintro ⟨⟨v', r⟩, h, rfl⟩
    obtain ⟨h1, h2⟩ := List.mem_filter.mp h
    rw [Bool.and_eq_true, List.any_eq_true] at h2
    obtain ⟨h3, u, h4, h5⟩ := h2
    refine ⟨r, h1, fun z => ?_, u, h4, memK_iff.mp h5⟩
    rw [memK_iff.mpr z] at h3
    cases h3
  · rintro ⟨r, h1, h2, u, h3, h4⟩
    refine ⟨(v, r), List.mem_filter.mpr ⟨h1, ?_⟩, rfl⟩
    rw [Bool.and_eq_true, List.any_eq_true]
    refine ⟨?_, u, h3, memK_iff.mpr h4⟩
    cases e : memK v M with
    | false => rfl
    | true => exact absurd (memK_iff.mp e) h2
theorem newOf_nd {W : Whl} {M : List Key} (nd : (W.map (·.1)).Nodup) : (newOf W M).Nodup := by
  unfold newOf
  exact nd.sublist (List.filter_sublist.map _)
theorem Met.grow {W : Whl} {a : Key} {M : List Key} (m : Met W a M) (g : Good W) : Met W a (M ++ newOf W M) := by
  refine ⟨?_, fun k hk => ?_, List.mem_append_left _ m.at_, fun k hk => ?_⟩
  · rw [List.nodup_append]
    refine ⟨m.nd, newOf_nd g.nd, fun x hx y hy e => ?_⟩
    obtain ⟨_, _, n, _⟩ := mem_new.mp hy
    exact n (e ▸ hx)
  · rcases List.mem_append.mp hk with h | h
    · exact m.sub k h
    · obtain ⟨r, hr, _⟩ := mem_new.mp h
      exact List.mem_map.mpr ⟨(k, r), hr, rfl⟩
  · rcases List.mem_append.mp hk with h | h
    · exact m.re k h
    · obtain ⟨r, hr, _, u, hu, hur⟩ := mem_new.mp h
      exact (m.re u hu).step (g.sym _ _ (mem_steps.mpr ⟨r, hr, hur⟩))
theorem closed_new {W : Whl} {M : List Key} (g : Good W) (h : newOf W M = []) : ClosedW W M := by
  intro b hb c hs
  rcases Classical.em (c ∈ M) with k | k
  · exact k
  · exfalso
    obtain ⟨r, hr, hbr⟩ := mem_steps.mp (g.sym _ _ hs)
    have := mem_new.mpr ⟨r, hr, k, b, hb, hbr⟩
    rw [h] at this
    cases this
theorem new_closed {W : Whl} {M : List Key} (g : Good W) (h : ClosedW W M) : newOf W M = [] := by
  cases e : newOf W M with
  | nil => rfl
  | cons v t =>
    obtain ⟨r, hr, n, u, hu, hur⟩ := mem_new.mp (by rw [e]; exact List.mem_cons_self : v ∈ newOf W M)
    exact absurd (h u hu v (g.sym _ _ (mem_steps.mpr ⟨r, hr, hur⟩))) n
theorem laps_met {W : Whl} {a : Key} {M : List Key} (m : Met W a M) (g : Good W) : ∀ i, Met W a (laps W M i)
  | 0 => m
  | i + 1 => (laps_met m g i).grow g
theorem laps_far {W : Whl} {a : Key} {M : List Key} (m : Met W a M) (g : Good W) : ∀ i, ClosedW W (laps W M i) ∨ i < (laps W M i).length
  | 0 => .inr (List.length_pos_of_mem m.at_)
  | i + 1 => by
    show ClosedW W (laps W M i ++ newOf W (laps W M i)) ∨ i + 1 < (laps W M i ++ newOf W (laps W M i)).length
    rcases laps_far m g i with h | h
    · rw [new_closed g h, List.append_nil]
      exact .inl h
    · cases e : newOf W (laps W M i) with
      | nil =>
        rw [List.append_nil]
        exact .inl (closed_new g e)
      | cons v t =>
        rw [List.length_append, List.length_cons]
        exact .inr (by omega)
theorem laps_end {W : Whl} {a : Key} {M : List Key} (m : Met W a M) (g : Good W) : ClosedW W (laps W M W.length) := by
  rcases laps_far m g W.length with h | h
  · exact h
  · have := (laps_met m g W.length).len
    omega
theorem new_take {W : Whl} {M : List Key} {i : Nat} {k : Key} {r : List Key} (h : W[i]? = some (k, r)) : newOf (W.take (i + 1)) M = newOf (W.take i) M ++ (if (!memK k M && M.any fun u => memK u r) = true then [k] else []) := by
  unfold newOf
  rw [take_snoc h, filter_snoc, List.map_append]
  split <;> rfl
theorem any_len {M r : List Key} : (!((M.filter fun u => memK u r).map fun _ => V.int 1).isEmpty) = M.any fun u => memK u r := by
  induction M with
  | nil => rfl
  | cons x M ih =>
    rw [List.filter_cons, List.any_cons, ← ih]
    cases memK x r <;> rfl
end Y

/-! sorted(xs): data of one shape -/
namespace Y
open PySem PySem.Spec PyProof.Rows L2
open PySem.W (EachIs AllAlike Sortable dataLe dataLt keyToks alike alikeAll)
/-- the items sorted by what they encode -/
abbrev srtE {β : Type} (enc : β → PyData) (bs : List β) : List β := bs.mergeSort (dataLe false enc)
@[irreducible] def rSortE (K : PySem.W.Frag) : List V → Hp → VK → Prop := fun vs H Q => ∃ (β : Type) (enc : β → PyData) (Pr : V → β → Prop) (a : Addr) (xs : List V) (bs : List β), vs = [V.ref a] ∧ SqL K H a xs ∧ Paired Pr xs bs ∧ (∀ x b, Pr x b → Dp K H x (enc b)) ∧ AllAlike (bs.map enc) ∧ Sortable (bs.map enc) ∧ (∀ b ∈ bs, (enc b).depth ≤ 60) ∧ bs.length ≤ 10000 ∧
  ∀ (ys : List V) (p : Addr), Paired Pr ys (srtE enc bs) → H p = none → Q (.ref p) (upd H p (.lst ys))
section
variable {β : Type} {Pr : V → β → Prop}
theorem each_in : ∀ {xs : List V} {us : List Value} {bs : List β}, Vals xs us → Paired Pr xs bs → EachIs (fun v b => ∃ x, RelV x v ∧ Pr x b) us bs
  | _, _, _, .nil, .nil => .nil
  | _, _, _, .cons r t, .cons h1 h2 => .cons ⟨_, r, h1⟩ (each_in t h2)
theorem each_out : ∀ {us : List Value} {bs : List β}, EachIs (fun v b => ∃ x, RelV x v ∧ Pr x b) us bs → ∃ ys : List V, Vals ys us ∧ Paired Pr ys bs
  | _, _, .nil => ⟨[], .nil, .nil⟩
  | _, _, .cons ⟨x, r, d⟩ t => by
    obtain ⟨ys, h1, h2⟩ := each_out t
    exact ⟨x :: ys, .cons r h1, .cons d h2⟩
end
theorem cr_sortE {X : Cx} {K : PySem.W.Frag} (hu : X.A.units + 64 < cLine) (eK : X.K = K := by rfl) : CallR X (.builtin "sorted") (rSortE K) := by
  subst eK
  intro pins s σ H vs us Q I r h
  unfold rSortE at h
  obtain ⟨β, enc, Pr, a, xs, bs, rfl, hs, hd, hp, al, so, dp, few, q⟩ := h
  obtain ⟨its, rv, hl, hz⟩ := I.list hs
  rw [Vals.ref1 r]
  have e := each_in rv hd
  refine PySem.W.sorted_data (vs := its) hl.isList e (e.mono fun v b ⟨x, rx, dx⟩ => Dp.reads I _ _ _ (hp x b dx) rx) al so (by rw [sizeLine_eq]; omega) (fun b hb => by have := dp b hb; omega) fun out hlen hout => ?_
  obtain ⟨ys, hv, hD⟩ := each_out hout
  obtain ⟨ep, he'⟩ := PyProof.Rows.sortedAll_at s.heap its out.toArray
  have hyl : ys.length ≤ sizeLine := by
    rw [hv.length, hlen, sizeLine_eq]
    omega
  exact ⟨.ref _, upd H (s.heap.objs.size + 1) (.lst ys), I.laid (t' := s.toks) (fun _ _ => PyProof.Rows.sortedAll_old) (Nat.le_succ _) ⟨hyl, out, ep, hv, by simpa using he'⟩, rfl, q ys _ hD (I.hok.fresh (Nat.le_succ _))⟩
/-! ### the order -/
theorem toks_only {x y : PyData} (h : alike x y = true) (e : keyToks x = keyToks y) : PyData.eqv x y = true := by
  cases c : PyData.eqv x y with
  | true => rfl
  | false =>
    have q := (PySem.W.toks_eqv x y h).2 c [] [.inl 0]
    rw [e, PySem.W.lex_pre] at q
    have z : PyProof.Rows.lexLt itemOrd (keyToks y) (keyToks y) = false := PyProof.Rows.lex_irrefl _
    exact absurd (q.trans z) (by decide)
theorem le_anti {β : Type} {enc : β → PyData} {a b : β} (al : alike (enc a) (enc b) = true) (inj : PyData.eqv (enc a) (enc b) = true → a = b) (h1 : dataLe false enc a b = true) (h2 : dataLe false enc b a = true) : a = b := by
  refine inj (toks_only al ?_)
  have e1 : dataLt (enc b) (enc a) = false := by
    have : (!dataLt (enc b) (enc a)) = true := h1
    simpa using this
  have e2 : dataLt (enc a) (enc b) = false := by
    have : (!dataLt (enc a) (enc b)) = true := h2
    simpa using this
  exact PyProof.Rows.lex_total _ _ e2 e1
theorem srtE_perm {β : Type} (enc : β → PyData) (bs : List β) : (srtE enc bs).Perm bs := List.mergeSort_perm bs _
theorem srtE_eq {β : Type} {enc : β → PyData} {as bs : List β} (al : ∀ a ∈ as, ∀ b ∈ as, alike (enc a) (enc b) = true) (inj : ∀ a b, PyData.eqv (enc a) (enc b) = true → a = b) (h : as.Perm bs) : srtE enc as = srtE enc bs := by
  have T := PySem.W.sortLe_total (listOrd itemOrd) false fun b => keyToks (enc b)
  have p : (srtE enc as).Perm (srtE enc bs) := (srtE_perm enc as).trans (h.trans (srtE_perm enc bs).symm)
  refine List.Perm.eq_of_pairwise (le := fun a b => dataLe false enc a b = true) (fun a b ha hb h1 h2 => ?_) (PySem.W.sort_pairwise T as) (PySem.W.sort_pairwise T bs) p
  exact le_anti (al a ((srtE_perm enc as).mem_iff.mp ha) b (h.mem_iff.mpr ((srtE_perm enc bs).mem_iff.mp hb))) (inj a b) h1 h2
end Y

/-! the rows of a turned wheel -/
namespace Y
open PySem PySem.Spec PyProof.Rows L2
open PySem.W (EachIs AllAlike Sortable dataLe dataLt keyToks alike alikeAll)
section
variable {α : Type} {f f' : α → α} {S S' : List α}
theorem IsCyc.closed {s x : α} {row : List α} (c : IsCyc f s row) (h : x ∈ row) : f x ∈ row := by
  obtain ⟨n, n0, rfl, e, _⟩ := c
  obtain ⟨i, hi, rfl⟩ := mem_rowN.mp h
  by_cases q : i + 1 < n
  · exact mem_rowN.mpr ⟨i + 1, q, rfl⟩
  · have : i + 1 = n := by omega
    exact mem_rowN.mpr ⟨0, n0, by rw [← this] at e; exact e.symm⟩
theorem IsCyc.start {s : α} {row : List α} (c : IsCyc f s row) : s ∈ row := by
  obtain ⟨n, n0, rfl, _, _⟩ := c
  exact mem_rowN.mpr ⟨0, n0, rfl⟩
theorem it_closed {row : List α} (h : ∀ x ∈ row, f x ∈ row) {x : α} (hx : x ∈ row) : ∀ i, it f x i ∈ row
  | 0 => hx
  | i + 1 => h _ (it_closed h hx i)
theorem Rows.all : ∀ {done : List α} {rows : List (List α)}, Rows f done rows → ∀ s ∈ done, s ∈ rows.flatten
  | [], _, _, s, h => by cases h
  | t :: done, rows, ⟨a, ha, h⟩, s, hs => by
    rcases List.mem_cons.mp hs with e | hs
    · subst e
      rcases h with ⟨m, rfl⟩ | ⟨_, w, c, rfl⟩
      · exact m
      · rw [flatten_snoc]
        exact List.mem_append_right _ c.start
    · have := Rows.all ha s hs
      rcases h with ⟨_, rfl⟩ | ⟨_, w, c, rfl⟩
      · exact this
      · rw [flatten_snoc]
        exact List.mem_append_left _ this
theorem flat_one : ∀ {rows : List (List α)}, rows.flatten.Nodup → ∀ {r1 r2 : List α} {x : α}, r1 ∈ rows → r2 ∈ rows → x ∈ r1 → x ∈ r2 → r1 = r2
  | [], _, _, _, _, h, _, _, _ => by cases h
  | r :: rows, nd, r1, r2, x, h1, h2, x1, x2 => by
    rw [List.flatten_cons, List.nodup_append] at nd
    obtain ⟨_, n2, n3⟩ := nd
    rcases List.mem_cons.mp h1 with e1 | h1
    · rcases List.mem_cons.mp h2 with e2 | h2
      · rw [e1, e2]
      · exact absurd rfl (n3 x (e1 ▸ x1) x (List.mem_flatten.mpr ⟨r2, h2, x2⟩))
    · rcases List.mem_cons.mp h2 with e2 | h2
      · exact absurd rfl (n3 x (e2 ▸ x2) x (List.mem_flatten.mpr ⟨r1, h1, x1⟩))
      · exact flat_one n2 h1 h2 x1 x2
/-- all rows of all steps -/
structure Full (f : α → α) (S : List α) (rows : List (List α)) : Prop where
  one : OneOne f S
  R : Rows f S.reverse rows
theorem Full.mem {rows : List (List α)} (F : Full f S rows) {s : α} (h : s ∈ S) : ∃ row ∈ rows, s ∈ row := List.mem_flatten.mp (F.R.all s (List.mem_reverse.mpr h))
theorem Full.cyc {rows : List (List α)} (F : Full f S rows) {row : List α} (h : row ∈ rows) : ∃ s ∈ S, IsCyc f s row := let ⟨s, hs, c⟩ := F.R.cyc row h; ⟨s, List.mem_reverse.mp hs, c⟩
theorem Full.nd [DecidableEq α] {rows : List (List α)} (F : Full f S rows) : rows.flatten.Nodup := F.R.nodup F.one fun _ h => List.mem_reverse.mp h
theorem Full.sub {rows : List (List α)} (F : Full f S rows) {row : List α} (h : row ∈ rows) {x : α} (hx : x ∈ row) : x ∈ S := F.R.sub F.one (fun _ h => List.mem_reverse.mp h) x (List.mem_flatten.mpr ⟨row, h, hx⟩)
/-- f is onto -/
theorem Full.onto {rows : List (List α)} (F : Full f S rows) {s : α} (h : s ∈ S) : ∃ t ∈ S, f t = s := by
  obtain ⟨row, hr, hs⟩ := F.mem h
  obtain ⟨s0, h0, n, n0, rfl, e, _⟩ := F.cyc hr
  obtain ⟨i, hi, rfl⟩ := mem_rowN.mp hs
  cases i with
  | zero =>
    obtain ⟨k, rfl⟩ : ∃ k, n = k + 1 := ⟨n - 1, by omega⟩
    exact ⟨it f s0 k, F.one.mem h0 k, e⟩
  | succ i => exact ⟨it f s0 i, F.one.mem h0 i, rfl⟩
variable {rev : α → α}
theorem Full.carry [DecidableEq α] {rows rows' : List (List α)} (F : Full f S rows) (F' : Full f' S' rows') (hm : ∀ s ∈ S, rev s ∈ S') (hr : ∀ s ∈ S, f' (rev (f s)) = rev s) {row row' : List α} {x y : α} (h : row ∈ rows) (h' : row' ∈ rows') (hx : x ∈ row) (hy : y ∈ row) (hx' : rev x ∈ row') : rev y ∈ row' := by
  obtain ⟨s, hs, n, n0, rfl, _, _⟩ := F.cyc h
  have back : ∀ i, it f' (rev (it f s i)) i = rev s := by
    intro i
    induction i with
    | zero => rfl
    | succ i ih =>
      have e1 : ∀ (t : α) (k : Nat), it f' t (k + 1) = it f' (f' t) k := by
        intro t k
        induction k with
        | zero => rfl
        | succ k ihk => exact congrArg f' ihk
      rw [e1]
      show it f' (f' (rev (f (it f s i)))) i = rev s
      rw [hr _ (F.one.mem hs i)]
      exact ih
  have clo : ∀ r ∈ rows', ∀ z ∈ r, f' z ∈ r := fun r hr z hz => by
    obtain ⟨_, _, c⟩ := F'.cyc hr
    exact c.closed hz
  obtain ⟨i, _, rfl⟩ := mem_rowN.mp hx
  obtain ⟨j, _, rfl⟩ := mem_rowN.mp hy
  have h1 : rev s ∈ row' := by
    rw [← back i]
    exact it_closed (clo row' h') hx' i
  obtain ⟨r2, hr2, hy2⟩ := F'.mem (hm _ (F.one.mem hs j))
  have h2 : rev s ∈ r2 := by
    rw [← back j]
    exact it_closed (clo r2 hr2) hy2 j
  rw [flat_one F'.nd h' hr2 h1 h2]
  exact hy2
theorem Full.twin [DecidableEq α] {rows rows' : List (List α)} (F : Full f S rows) (F' : Full f' S' rows') (hv : ∀ x, rev (rev x) = x) (hm : ∀ s ∈ S, rev s ∈ S') (hm' : ∀ s ∈ S', rev s ∈ S) (hr : ∀ s ∈ S, f' (rev (f s)) = rev s) {row : List α} (h : row ∈ rows) : ∃ row' ∈ rows', (row'.map rev).Perm row := by
  have hr' : ∀ s ∈ S', f (rev (f' s)) = rev s := fun s hs => by
    obtain ⟨t, ht, e⟩ := F.onto (hm' s hs)
    have e2 : s = rev (f t) := by rw [e, hv]
    rw [e2, hr t ht, hv, hv]
  obtain ⟨s, hs, c⟩ := F.cyc h
  obtain ⟨row', h', hs'⟩ := F'.mem (hm s hs)
  refine ⟨row', h', ?_⟩
  have nd1 : row.Nodup := by
    obtain ⟨n, _, rfl, _, fr⟩ := c
    exact fr.nodup F.one hs
  have nd2 : (row'.map rev).Nodup := by
    obtain ⟨t, ht, n, _, e, _, fr⟩ := F'.cyc h'
    rw [e]
    exact map_nodup (fun a b _ _ q => by rw [← hv a, ← hv b, q]) (fr.nodup F'.one ht)
  refine (List.perm_ext_iff_of_nodup nd2 nd1).mpr fun x => ?_
  constructor
  · intro hx
    obtain ⟨z, hz, rfl⟩ := List.mem_map.mp hx
    exact F'.carry F hm' hr' h' h hs' hz (by rw [hv]; exact c.start)
  · intro hx
    have := F.carry F' hm hr h h' c.start hx hs'
    exact List.mem_map.mpr ⟨rev x, this, hv x⟩
end
end Y
namespace Y
open PySem PySem.Spec PyProof.Rows L2
open PySem.W (EachIs AllAlike Sortable dataLe dataLt keyToks alike alikeAll)
def revS (s : Stp) : Stp := (s.2, s.1)
theorem revS_revS (s : Stp) : revS (revS s) = s := rfl
theorem turn_ring {W : Whl} {u : Key} {r : List Key} (h : (u, r) ∈ W) : (u, turnR r) ∈ turnW W := List.mem_map.mpr ⟨(u, r), h, rfl⟩
theorem turn_steps {W : Whl} {u v : Key} : (u, v) ∈ stepsW (turnW W) ↔ (u, v) ∈ stepsW W := by
  rw [mem_steps, mem_steps]
  constructor
  · rintro ⟨r, h, hv⟩
    obtain ⟨⟨u', r'⟩, h', e⟩ := List.mem_map.mp h
    cases e
    exact ⟨r', h', (turnR_perm r').mem_iff.mp hv⟩
  · rintro ⟨r, h, hv⟩
    exact ⟨turnR r, turn_ring h, (turnR_perm r).mem_iff.mpr hv⟩
theorem Good.turn {W : Whl} (g : Good W) : Good (turnW W) := by
  refine ⟨by rw [turnW_keys]; exact g.nd, fun ur h => ?_, fun u v h => turn_steps.mpr (g.sym u v (turn_steps.mp h)), fun u v h => g.ne u v (turn_steps.mp h)⟩
  obtain ⟨⟨u', r'⟩, h', e⟩ := List.mem_map.mp h
  cases e
  exact (turnR_perm r').nodup_iff.mpr (g.rn _ h')
theorem turnR_at {r : List Key} {j : Nat} (h : j < r.length) : (turnR r)[j]? = r[(r.length - j) % r.length]? := by
  unfold turnR
  cases r with
  | nil => simp at h
  | cons x t =>
    cases j with
    | zero =>
      rw [Nat.sub_zero, Nat.mod_self]
      rfl
    | succ j =>
      rw [List.length_cons] at h ⊢
      have e : (t.length + 1 - (j + 1)) % (t.length + 1) = t.length - j := by
        rw [Nat.mod_eq_of_lt (by omega)]
        omega
      rw [e, List.getElem?_append_right (by simp)]
      obtain ⟨m, hm⟩ : ∃ m, t.length - j = m + 1 := ⟨t.length - j - 1, by omega⟩
      rw [hm, List.getElem?_cons_succ]
      show (t.reverse)[j + 1 - 1]? = t[m]?
      rw [Nat.add_sub_cancel, List.getElem?_reverse (by omega)]
      congr 1
      omega
theorem turn_next {W : Whl} (g : Good W) {s : Stp} (hs : s ∈ stepsW W) : nextW (turnW W) (revS (nextW W s)) = revS s := by
  obtain ⟨x, v⟩ := s
  obtain ⟨r, k, hr, hk⟩ := ring_of g hs
  obtain ⟨y, hy⟩ := suc_ex hk
  rw [next_at g hr hk hy]
  have hkl : k < r.length := (List.getElem?_eq_some_iff.mp hk).1
  have hml : (k + 1) % r.length < r.length := Nat.mod_lt _ (by omega)
  -- y stands in the turned ring at j, x behind it
  have key : ∀ m j, m < r.length → j < r.length → (r.length - j) % r.length = m → (turnR r)[j]? = r[m]? := fun m j _ hj e => by rw [turnR_at hj, e]
  show nextW (turnW W) (y, v) = (v, x)
  have gt := g.turn
  have hrt := turn_ring hr
  by_cases c : k + 1 = r.length
  · -- y is the first
    have e1 : (k + 1) % r.length = 0 := by rw [c, Nat.mod_self]
    rw [e1] at hy
    have h0 : (turnR r)[0]? = some y := by rw [key 0 0 (by omega) (by omega) (by rw [Nat.sub_zero, Nat.mod_self])]; exact hy
    refine next_at gt hrt h0 ?_
    rw [turnR_len]
    by_cases c1 : r.length = 1
    · rw [c1, Nat.zero_add, Nat.mod_self, h0]
      have : k = 0 := by omega
      rw [this] at hk
      rw [← hy, hk]
    · rw [Nat.zero_add, Nat.mod_eq_of_lt (by omega), key k 1 hkl (by omega) (by rw [Nat.mod_eq_of_lt (by omega)]; omega)]
      exact hk
  · have e1 : (k + 1) % r.length = k + 1 := Nat.mod_eq_of_lt (by omega)
    rw [e1] at hy
    have hj : (turnR r)[r.length - (k + 1)]? = some y := by
      rw [key (k + 1) (r.length - (k + 1)) (by omega) (by omega) (by rw [Nat.mod_eq_of_lt (by omega)]; omega)]
      exact hy
    refine next_at gt hrt hj ?_
    rw [turnR_len]
    by_cases c0 : k = 0
    · have : (r.length - (k + 1) + 1) % r.length = 0 := by
        rw [show r.length - (k + 1) + 1 = r.length by omega, Nat.mod_self]
      rw [this, key 0 0 (by omega) (by omega) (by rw [Nat.sub_zero, Nat.mod_self]), ← hk, c0]
    · rw [Nat.mod_eq_of_lt (by omega), key k (r.length - (k + 1) + 1) hkl (by omega) (by rw [Nat.mod_eq_of_lt (by omega)]; omega)]
      exact hk
theorem Full.of {W : Whl} (g : Good W) {rows : List (List Stp)} (R : Rows (nextW W) (stepsW W).reverse rows) : Full (nextW W) (stepsW W) rows := ⟨g.one, R⟩
/-! ### as sorted lists -/
def encS (s : Stp) : PyData := tupD (skp s)
def encR (r : List Stp) : PyData := .list (r.map encS)
def encK (l : List Key) : PyData := .list (l.map keyD)
theorem tups_eqv : ∀ a b : List (List Key), PyData.eqvAll (a.map tupD) (b.map tupD) = decide (a = b)
  | [], [] => by simp [PyData.eqvAll]
  | [], _ :: _ => by simp [PyData.eqvAll]
  | _ :: _, [] => by simp [PyData.eqvAll]
  | x :: a, y :: b => by
    simp only [List.map_cons, PyData.eqvAll, tupD_eqv, tups_eqv a b]
    by_cases h : x = y <;> by_cases h2 : a = b <;> simp [h, h2]
theorem encS_inj (a b : Stp) (h : PyData.eqv (encS a) (encS b) = true) : a = b := by
  unfold encS at h
  rw [tupD_eqv, decide_eq_true_eq] at h
  exact skp_inj h
theorem map_skp_inj : ∀ {a b : List Stp}, a.map skp = b.map skp → a = b
  | [], [], _ => rfl
  | [], _ :: _, h => by cases h
  | _ :: _, [], h => by cases h
  | x :: a, y :: b, h => by
    rw [List.map_cons, List.map_cons] at h
    injection h with h1 h2
    rw [skp_inj h1, map_skp_inj h2]
theorem encR_eqv (a b : List Stp) : PyData.eqv (encR a) (encR b) = decide (a.map skp = b.map skp) := by
  unfold encR
  simp only [PyData.eqv]
  have e : ∀ l : List Stp, l.map encS = (l.map skp).map tupD := fun l => by rw [List.map_map]; rfl
  rw [e, e]
  exact tups_eqv _ _
theorem encR_inj (a b : List Stp) (h : PyData.eqv (encR a) (encR b) = true) : a = b := by
  rw [encR_eqv, decide_eq_true_eq] at h
  exact map_skp_inj h
theorem encK_inj (a b : List Key) (h : PyData.eqv (encK a) (encK b) = true) : a = b := by
  unfold encK at h
  rw [listD_eqv, decide_eq_true_eq] at h
  exact h
def TxS (s : Stp) : Prop := (∃ x, s.1 = Sum.inr x) ∧ ∃ y, s.2 = Sum.inr y
theorem TxS.alike {a b : Stp} (ha : TxS a) (hb : TxS b) : alike (encS a) (encS b) = true := by
  obtain ⟨a1, a2⟩ := a
  obtain ⟨b1, b2⟩ := b
  obtain ⟨⟨x, rfl⟩, y, rfl⟩ := ha
  obtain ⟨⟨z, rfl⟩, t, rfl⟩ := hb
  rfl
theorem alikeAll_of {β : Type} {enc : β → PyData} : ∀ {as bs : List β}, (∀ a ∈ as, ∀ b ∈ bs, alike (enc a) (enc b) = true) → alikeAll (as.map enc) (bs.map enc) = true
  | [], _, _ => by simp [PySem.W.alikeAll]
  | _ :: _, [], _ => by simp [PySem.W.alikeAll]
  | a :: as, b :: bs, h => by
    simp only [List.map_cons, PySem.W.alikeAll, Bool.and_eq_true]
    exact ⟨h a List.mem_cons_self b List.mem_cons_self, alikeAll_of fun x hx y hy => h x (List.mem_cons_of_mem _ hx) y (List.mem_cons_of_mem _ hy)⟩
theorem alike_R {a b : List Stp} (ha : ∀ s ∈ a, TxS s) (hb : ∀ s ∈ b, TxS s) : alike (encR a) (encR b) = true := by
  show alike (.list _) (.list _) = true
  simp only [PySem.W.alike]
  exact alikeAll_of fun x hx y hy => (ha x hx).alike (hb y hy)
theorem alike_K {a b : List Key} (ha : ∀ k ∈ a, ∃ x, k = Sum.inr x) (hb : ∀ k ∈ b, ∃ x, k = Sum.inr x) : alike (encK a) (encK b) = true := by
  show alike (.list _) (.list _) = true
  simp only [PySem.W.alike]
  refine alikeAll_of (enc := keyD) fun x hx y hy => ?_
  obtain ⟨u, rfl⟩ := ha x hx
  obtain ⟨v, rfl⟩ := hb y hy
  rfl
end Y
namespace Y
open PySem PySem.Spec PyProof.Rows L2
open PySem.W (EachIs AllAlike Sortable dataLe dataLt keyToks alike alikeAll)
theorem IsCyc.pre {α : Type} {f : α → α} {s x : α} {row : List α} (c : IsCyc f s row) (h : x ∈ row) : ∃ y ∈ row, f y = x := by
  obtain ⟨n, n0, rfl, e, _⟩ := c
  obtain ⟨i, hi, rfl⟩ := mem_rowN.mp h
  cases i with
  | zero => exact ⟨it f s (n - 1), mem_rowN.mpr ⟨n - 1, by omega, rfl⟩, by rw [← show n - 1 + 1 = n by omega] at e; exact e⟩
  | succ i => exact ⟨it f s i, mem_rowN.mpr ⟨i, by omega, rfl⟩, rfl⟩
theorem rows_nd {α : Type} [DecidableEq α] {f : α → α} {S : List α} {rows : List (List α)} (F : Full f S rows) : rows.Nodup := by
  have nd := F.nd
  have ne : ∀ r ∈ rows, r ≠ [] := fun r hr e => by
    obtain ⟨s, _, c⟩ := F.cyc hr
    have := c.start
    rw [e] at this
    cases this
  clear F
  induction rows with
  | nil => exact List.nodup_nil
  | cons r rows ih =>
    rw [List.flatten_cons, List.nodup_append] at nd
    refine List.nodup_cons.mpr ⟨fun h => ?_, ih nd.2.1 fun r hr => ne r (List.mem_cons_of_mem _ hr)⟩
    obtain ⟨x, t, e⟩ := List.exists_cons_of_ne_nil (ne r List.mem_cons_self)
    have hx : x ∈ r := by rw [e]; exact List.mem_cons_self
    exact nd.2.2 x hx x (List.mem_flatten.mpr ⟨r, h, hx⟩) rfl
theorem turn_tx {W : Whl} (tx : ∀ s ∈ stepsW W, TxS s) : ∀ s ∈ stepsW (turnW W), TxS s := fun s h => tx s (turn_steps (u := s.1) (v := s.2) |>.mp h)
theorem rev_in {W : Whl} (g : Good W) {s : Stp} (h : s ∈ stepsW W) : revS s ∈ stepsW (turnW W) := turn_steps.mpr (g.sym s.1 s.2 h)
theorem rev_out {W : Whl} (g : Good W) {s : Stp} (h : s ∈ stepsW (turnW W)) : revS s ∈ stepsW W := g.sym s.1 s.2 (turn_steps (u := s.1) (v := s.2) |>.mp h)
section
variable {W : Whl} {rows rows' : List (List Stp)} (g : Good W) (tx : ∀ s ∈ stepsW W, TxS s) (R : Rows (nextW W) (stepsW W).reverse rows) (R' : Rows (nextW (turnW W)) (stepsW (turnW W)).reverse rows')
include g tx R R'
theorem twin_to {row : List Stp} (h : row ∈ rows) : ∃ row' ∈ rows', (row'.map revS).Perm row := (Full.of g R).twin (Full.of g.turn R') revS_revS (fun _ => rev_in g) (fun _ => rev_out g) (fun _ => turn_next g) h
theorem twin_back {row' : List Stp} (h : row' ∈ rows') : ∃ row ∈ rows, (row'.map revS).Perm row := by
  obtain ⟨s, hs, c⟩ := (Full.of g.turn R').cyc h
  obtain ⟨row, hr, hx⟩ := (Full.of g R).mem (rev_out g hs)
  obtain ⟨row2, h2, p⟩ := twin_to g tx R R' hr
  have : row2 = row' := by
    obtain ⟨z, hz, e⟩ := List.mem_map.mp (p.mem_iff.mpr hx)
    have : z = s := by rw [← revS_revS z, e, revS_revS]
    rw [this] at hz
    exact flat_one (Full.of g.turn R').nd h2 h hz c.start
  exact ⟨row, hr, this ▸ p⟩
theorem srt_row {row row' : List Stp} (h : row ∈ rows) (p : (row'.map revS).Perm row) : srtE encS (row'.map revS) = srtE encS row := by
  have ht : ∀ s ∈ row, TxS s := fun s hs => tx s ((Full.of g R).sub h hs)
  exact srtE_eq (fun a ha b hb => (ht a (p.mem_iff.mp ha)).alike (ht b (p.mem_iff.mp hb))) encS_inj p
theorem rows_perm : (rows.map (srtE encS)).Perm (rows'.map fun r => srtE encS (r.map revS)) := by
  have F := Full.of g R
  have F' := Full.of g.turn R'
  have n1 : (rows.map (srtE encS)).Nodup := map_nodup (fun a b ha hb e => by
    obtain ⟨s, _, c⟩ := F.cyc ha
    have h1 : s ∈ b := (srtE_perm encS b).mem_iff.mp (by rw [← e]; exact (srtE_perm encS a).mem_iff.mpr c.start)
    exact flat_one F.nd ha hb c.start h1) (rows_nd F)
  have n2 : (rows'.map fun r => srtE encS (r.map revS)).Nodup := map_nodup (fun a b ha hb e => by
    obtain ⟨s, _, c⟩ := F'.cyc ha
    have h1 : revS s ∈ b.map revS := (srtE_perm encS _).mem_iff.mp (by rw [← e]; exact (srtE_perm encS _).mem_iff.mpr (List.mem_map_of_mem c.start))
    obtain ⟨z, hz, e2⟩ := List.mem_map.mp h1
    have : z = s := by rw [← revS_revS z, e2, revS_revS]
    rw [this] at hz
    exact flat_one F'.nd ha hb c.start hz) (rows_nd F')
  refine (List.perm_ext_iff_of_nodup n1 n2).mpr fun x => ?_
  constructor
  · intro hx
    obtain ⟨row, hr, rfl⟩ := List.mem_map.mp hx
    obtain ⟨row', hr', p⟩ := twin_to g tx R R' hr
    exact List.mem_map.mpr ⟨row', hr', srt_row g tx R R' hr p⟩
  · intro hx
    obtain ⟨row', hr', rfl⟩ := List.mem_map.mp hx
    obtain ⟨row, hr, p⟩ := twin_back g tx R R' hr'
    exact List.mem_map.mpr ⟨row, hr, (srt_row g tx R R' hr p).symm⟩
theorem rows_many : rows'.length = rows.length := by
  have := (rows_perm g tx R R').length_eq
  rw [List.length_map, List.length_map] at this
  exact this.symm
end
end Y
namespace Y
open PySem PySem.Spec PyProof.Rows L2
open PySem.W (EachIs AllAlike Sortable dataLe dataLt keyToks alike alikeAll)
theorem mem_ddS {l : List Key} {x y : Key} : y ∈ ddS l x ↔ y ∈ l ∨ y = x := by
  unfold ddS
  split
  · rename_i c
    exact ⟨.inl, fun h => h.elim id fun e => e ▸ memK_iff.mp c⟩
  · rw [List.mem_append, List.mem_singleton]
theorem foldl_ddS : ∀ (xs l : List Key), (l.Nodup → (xs.foldl ddS l).Nodup) ∧ ∀ y, y ∈ xs.foldl ddS l ↔ y ∈ l ∨ y ∈ xs
  | [], l => ⟨id, fun y => by simp⟩
  | x :: xs, l => by
    obtain ⟨h1, h2⟩ := foldl_ddS xs (ddS l x)
    refine ⟨fun n => h1 (ddS_nd n), fun y => ?_⟩
    rw [List.foldl_cons, h2, mem_ddS, List.mem_cons]
    exact or_assoc
theorem ddK_nd (xs : List Key) : (ddK xs).Nodup := (foldl_ddS xs []).1 List.nodup_nil
theorem mem_ddK {xs : List Key} {y : Key} : y ∈ ddK xs ↔ y ∈ xs := by
  unfold ddK
  rw [(foldl_ddS xs []).2]
  simp
theorem keyD_inj (a b : Key) (h : PyData.eqv (keyD a) (keyD b) = true) : a = b := by
  rw [keyD_eqv, decide_eq_true_eq] at h
  exact h
theorem srtK_same {a b : List Key} (ta : ∀ k ∈ a, ∃ x, k = Sum.inr x) (na : a.Nodup) (nb : b.Nodup) (h : ∀ k, k ∈ a ↔ k ∈ b) : srtE keyD a = srtE keyD b := by
  refine srtE_eq (fun x hx y hy => ?_) keyD_inj ((List.perm_ext_iff_of_nodup na nb).mpr h)
  obtain ⟨u, rfl⟩ := ta x hx
  obtain ⟨v, rfl⟩ := ta y hy
  rfl
section
variable {W : Whl} {rows rows' : List (List Stp)} (g : Good W) (tx : ∀ s ∈ stepsW W, TxS s) (R : Rows (nextW W) (stepsW W).reverse rows) (R' : Rows (nextW (turnW W)) (stepsW (turnW W)).reverse rows')
include g tx R R'
theorem touch_perm : (rows'.map fun r => srtE keyD (touchK r)).Perm (rows.map fun r => srtE keyD (touchK r)) := by
  have F := Full.of g R
  have F' := Full.of g.turn R'
  have p := (rows_perm g tx R R').map fun S : List Stp => srtE keyD (ddK (S.map (·.2)))
  rw [List.map_map, List.map_map] at p
  have e1 : rows.map ((fun S : List Stp => srtE keyD (ddK (S.map (·.2)))) ∘ srtE encS) = rows.map fun r => srtE keyD (touchK r) := by
    refine List.map_congr_left fun row hr => ?_
    obtain ⟨s, hs, c⟩ := F.cyc hr
    have tr : ∀ s ∈ row, TxS s := fun s h => tx s (F.sub hr h)
    refine srtK_same (fun k hk => ?_) (ddK_nd _) (ddK_nd _) fun k => ?_
    · obtain ⟨x, hx, rfl⟩ := List.mem_map.mp (mem_ddK.mp hk)
      exact (tr x ((srtE_perm encS row).mem_iff.mp hx)).2
    · rw [mem_ddK]
      unfold touchK
      rw [mem_ddK, List.mem_map, List.mem_map]
      constructor
      · rintro ⟨x, hx, rfl⟩
        exact ⟨_, c.closed ((srtE_perm encS row).mem_iff.mp hx), rfl⟩
      · rintro ⟨x, hx, rfl⟩
        obtain ⟨y, hy, e⟩ := c.pre hx
        exact ⟨y, (srtE_perm encS row).mem_iff.mpr hy, by rw [← e]; rfl⟩
  have e2 : rows'.map ((fun S : List Stp => srtE keyD (ddK (S.map (·.2)))) ∘ fun r => srtE encS (r.map revS)) = rows'.map fun r => srtE keyD (touchK r) := by
    refine List.map_congr_left fun row hr => ?_
    have tr : ∀ s ∈ row, TxS s := fun s h => turn_tx tx s (F'.sub hr h)
    have hm : ∀ x, x ∈ srtE encS (row.map revS) ↔ ∃ z ∈ row, revS z = x := fun x => by rw [(srtE_perm encS _).mem_iff, List.mem_map]
    refine srtK_same (fun k hk => ?_) (ddK_nd _) (ddK_nd _) fun k => ?_
    · obtain ⟨x, hx, rfl⟩ := List.mem_map.mp (mem_ddK.mp hk)
      obtain ⟨z, hz, rfl⟩ := (hm x).mp hx
      exact (tr z hz).1
    · rw [mem_ddK]
      unfold touchK
      rw [mem_ddK, List.mem_map, List.mem_map]
      constructor
      · rintro ⟨x, hx, rfl⟩
        obtain ⟨z, hz, rfl⟩ := (hm x).mp hx
        exact ⟨z, hz, rfl⟩
      · rintro ⟨z, hz, rfl⟩
        exact ⟨revS z, (hm _).mpr ⟨z, hz, rfl⟩, rfl⟩
  rw [e1, e2] at p
  exact p.symm
theorem turn_len : (turnW W).length = W.length := List.length_map _
omit tx R R' in
theorem turn_steps_len : (stepsW (turnW W)).length = (stepsW W).length := by
  have h : lensW (turnW W) = lensW W := by
    unfold lensW turnW
    rw [List.map_map]
    refine List.map_congr_left fun ur _ => ?_
    show ((turnR ur.2).length : Int) = _
    rw [turnR_len]
  have h1 := lensW_sum (turnW W)
  rw [h, lensW_sum] at h1
  omega
theorem reach_turn {a k : Key} : Reach (turnW W) a k ↔ Reach W a k := by
  constructor
  · intro h
    induction h with
    | here => exact .here
    | step _ s ih => exact ih.step (turn_steps.mp s)
  · intro h
    induction h with
    | here => exact .here
    | step _ s ih => exact ih.step (turn_steps.mpr s)
theorem plane_turn : PlaneW (turnW W) ↔ PlaneW W := by
  have hc : ConnW (turnW W) ↔ ConnW W := by
    unfold ConnW
    rw [turnW_keys]
    exact ⟨fun h a ha k hk => (reach_turn g tx R R').mp (h a ha k hk), fun h a ha k hk => (reach_turn g tx R R').mpr (h a ha k hk)⟩
  have hl := turn_len g tx R R'
  have hs := turn_steps_len g
  have hm := rows_many g tx R R'
  by_cases c : W.length < 2
  · rw [PlaneW.small c, PlaneW.small (by rw [hl]; exact c), hl]
  · rw [PlaneW.big (by omega) R, PlaneW.big (by rw [hl]; omega) R', hc, hl, hs, hm]
end
end Y

/-! comprehensions that make lists of lists; what sorts and compares them -/
namespace Y
open PySem PySem.Spec PyProof.Rows L2
open PySem.W (EachIs AllAlike Sortable dataLe dataLt keyToks alike alikeAll)
/-- a thing at an address that stays where another list is written -/
structure ObK {γ : Type} (Ob : Hp → Addr → γ → Prop) : Prop where
  same : ∀ {H H' : Hp} {a : Addr} {c : γ}, Same H H' → Ob H a c → Ob H' a c
  but : ∀ {H : Hp} {a D : Addr} {c : γ} {xs ys : List V}, Ob H a c → H D = some (.lst xs) → a ≠ D → Ob (upd H D (.lst ys)) a c
abbrev KeyL (H : Hp) (a : Addr) (l : List Key) : Prop := H a = some (.lst (l.map kV))
theorem ob_row : ObK RowP := ⟨fun s h => h.same s, fun h e n => by
  obtain ⟨ts, h1, h2⟩ := h
  exact ⟨ts, by rw [upd_ne n]; exact h1, h2.mono fun z xs k => by rw [upd_ne (ne_of k e (by intro q; cases q))]; exact k⟩⟩
theorem ob_key : ObK KeyL := ⟨fun s h => s _ _ h, fun h _ n => by
  show upd _ _ _ _ = _
  rw [upd_ne n]
  exact h⟩
/-- [f(row) for row in rows] -/
theorem lc_obs {K : PySem.W.Frag} {β γ : Type} {Oa : Hp → Addr → β → Prop} {Ob : Hp → Addr → γ → Prop} (ka : ObK Oa) (kb : ObK Ob) {f : β → γ} {rows : List β} {as : List Addr} {a : Addr} {g : TG} {te : TE} {vs : List Nat} {σ : L2.St} {H1 : Hp} {D : Addr} {Qd : Hp → Prop}
    (hL : H1 a = some (.lst (as.map V.ref))) (pr : Paired (Oa H1) as rows) (nD : H1 D = none) (few : rows.length ≤ 1000000)
    (hs : ∀ (i : Nat) b row H, as[i]? = some b → rows[i]? = some row → Same H1 H → Oa H b row → ∀ Yd : VK, (∀ p H2, Same H H2 → H p = none → Ob H2 p (f row) → Yd (.ref p) H2) → g (.ref b) (wipe σ vs) H fun σ2 H2 => wipe σ2 vs = wipe σ vs ∧ te σ2 H2 Yd)
    (hd : ∀ as' H, Same H1 H → H D = some (.lst (as'.map V.ref)) → Paired (Ob H) as' (rows.map f) → Qd H) :
    ∃ W : Nat → Nat → Hp → Prop, (∃ m, W 0 m (upd H1 D (.lst []))) ∧ ∀ i m H, W i m H →
      ((Itl K a).stop i H ∧ Qd H) ∨ ((Itl K a).go i H ∧ ∃ Nx : Hp → Prop, (∀ H', Nx H' → ∃ m', m' < m ∧ W (i + 1) m' H') ∧ ∀ x H', (Itl K a).yld i H x H' → g x (wipe σ vs) H' fun σ2 H2 => wipe σ2 vs = wipe σ vs ∧ tYes σ2 H2 fun b H3 =>
        if b = true then te σ2 H3 fun y H4 => ∃ ac, H4 D = some (.lst ac) ∧ ac.length < sizeLine ∧ Nx (upd H4 D (.lst (ac ++ [y]))) else Nx H3) := by
  have la := Paired.length pr
  refine lc_gen (walk_list (K := K) (a := a) (xs := as.map V.ref)) (fun i ac H => Same H1 H ∧ ∃ as', ac = as'.map V.ref ∧ Paired (Ob H) as' ((rows.take i).map f) ∧ D ∉ as') ⟨same_upd nD, [], rfl, .nil, List.not_mem_nil⟩ (fun i ac H _ h => SqL.of (h.1 _ _ hL)) ?_ ?_ ?_
  · rintro i ac H hi ⟨_, as', rfl, p, _⟩
    have := Paired.length p
    rw [List.length_map, List.length_take] at this
    rw [List.length_map]
    omega
  · rintro i x ac H H' hi hD ⟨s1, as', rfl, p, nm⟩ ⟨rfl, hx⟩ N Yd hN hY
    obtain ⟨b, hb, rfl⟩ := refs_at hx
    obtain ⟨row, hrow, rb⟩ := paired_at pr hb
    refine hs i b row _ hb hrow s1 (ka.same s1 rb) Yd fun p2 H2 s2 np2 o2 => ?_
    have pD : p2 ≠ D := fun e => by rw [e, hD] at np2; cases np2
    have hD2 := s2 _ _ hD
    refine hY _ _ hD2 ⟨same_mut (s1.trans s2) nD, as' ++ [p2], by rw [List.map_append]; rfl, ?_, fun h => ?_⟩
    · rw [take_snoc hrow, List.map_append]
      refine paired_snoc (kb.but o2 hD2 pD) (paired_map p fun z c hz h => kb.but (kb.same s2 h) hD2 fun e => nm (e ▸ hz))
    · rcases List.mem_append.mp h with h | h
      · exact nm h
      · exact pD (List.mem_singleton.mp h).symm
  · rintro ac H hD ⟨s1, as', rfl, p, _⟩
    rw [List.length_map, la, List.take_length] at p
    exact hd as' H s1 hD p
end Y
namespace Y
open PySem PySem.Spec PyProof.Rows L2
open PySem.W (EachIs AllAlike Sortable dataLe dataLt keyToks alike alikeAll)
theorem alike_all {β : Type} {enc : β → PyData} {bs : List β} (h : ∀ a ∈ bs, ∀ b ∈ bs, alike (enc a) (enc b) = true) : AllAlike (bs.map enc) := by
  intro d hd d' hd'
  obtain ⟨a, ha, rfl⟩ := List.mem_map.mp hd
  obtain ⟨b, hb, rfl⟩ := List.mem_map.mp hd'
  exact h a ha b hb
theorem refs_of {γ : Type} {Ob : Addr → γ → Prop} : ∀ {ys : List V} {cs : List γ}, Paired (fun x c => ∃ t, x = V.ref t ∧ Ob t c) ys cs → ∃ ts : List Addr, ys = ts.map V.ref ∧ Paired Ob ts cs
  | _, _, .nil => ⟨[], rfl, .nil⟩
  | _, _, .cons ⟨t, e, o⟩ r => by
    obtain ⟨ts, e2, p⟩ := refs_of r
    exact ⟨t :: ts, by rw [e, e2]; rfl, .cons o p⟩
theorem refs_to {γ : Type} {Ob : Addr → γ → Prop} : ∀ {ts : List Addr} {cs : List γ}, Paired Ob ts cs → Paired (fun x c => ∃ t, x = V.ref t ∧ Ob t c) (ts.map V.ref) cs
  | _, _, .nil => .nil
  | _, _, .cons o r => .cons ⟨_, rfl, o⟩ (refs_to r)
theorem tups_steps {H : Hp} : ∀ {ts : List Addr} {row : List Stp}, Tups H ts (row.map skp) ↔ Paired (fun t s => H t = some (.tup ((skp s).map kV))) ts row
  | [], [] => ⟨fun _ => .nil, fun _ => .nil⟩
  | [], _ :: _ => ⟨fun h => (nomatch h), fun h => (nomatch h)⟩
  | _ :: _, [] => ⟨fun h => (nomatch h), fun h => (nomatch h)⟩
  | t :: ts, s :: row => ⟨fun h => by
      cases h with
      | cons a b => exact .cons a (tups_steps.mp b), fun h => by
      cases h with
      | cons a b => exact .cons a (tups_steps.mpr b)⟩
theorem keys_pair : ∀ l : List Key, Paired (fun x k => x = kV k) (l.map kV) l
  | [] => .nil
  | _ :: l => .cons rfl (keys_pair l)
theorem keys_back : ∀ {ys : List V} {l : List Key}, Paired (fun x k => x = kV k) ys l → ys = l.map kV
  | _, _, .nil => rfl
  | _, _, .cons e r => by rw [e, keys_back r]; rfl
theorem encS_depth (s : Stp) : (encS s).depth ≤ 1 := tupD_depth _
theorem depth_all {β : Type} {enc : β → PyData} {n : Nat} : ∀ {bs : List β}, (∀ b ∈ bs, (enc b).depth ≤ n) → PyData.depthAll (bs.map enc) ≤ n
  | [], _ => by simp [PyData.depthAll]
  | b :: bs, h => by
    have h1 := h b List.mem_cons_self
    have h2 := depth_all fun x hx => h x (List.mem_cons_of_mem _ hx)
    simp only [List.map_cons, PyData.depthAll]
    omega
theorem lay_all {β : Type} {enc : β → PyData} : ∀ {bs : List β}, (∀ b ∈ bs, (enc b).canLay0 = true) → PyData.canLayAll0 (bs.map enc) = true
  | [], _ => by simp [PyData.canLayAll0]
  | b :: bs, h => by
    simp [PyData.canLayAll0, h b List.mem_cons_self, lay_all fun x hx => h x (List.mem_cons_of_mem _ hx)]
theorem encR_depth (r : List Stp) : (encR r).depth ≤ 2 := by
  have := depth_all (enc := encS) (n := 1) (bs := r) fun b _ => encS_depth b
  unfold encR
  simp only [PyData.depth]
  omega
theorem encK_depth (l : List Key) : (encK l).depth ≤ 1 := by
  unfold encK
  simp only [PyData.depth, keysD_depth]
  omega
section
variable {K : PySem.W.Frag} {H : Hp} {a b : Addr} {Q : VK}
theorem sort_row {row : List Stp} (h : RowP H a row) (tx : ∀ s ∈ row, TxS s) (few : row.length ≤ 10000) (q : ∀ p H2, H p = none → Same H H2 → RowP H2 p (srtE encS row) → Q (.ref p) H2) : rSortE K [.ref a] H Q := by
  obtain ⟨ts, h1, h2⟩ := h
  unfold rSortE
  refine ⟨Stp, encS, fun x s => ∃ t, x = V.ref t ∧ H t = some (.tup ((skp s).map kV)), a, _, row, rfl, SqL.of h1, refs_to (tups_steps.mp h2), fun x s ⟨t, e, ht⟩ => e ▸ Dp.tupK ht, alike_all fun x hx y hy => (tx x hx).alike (tx y hy), .inl fun d hd => ?_, fun s _ => Nat.le_trans (encS_depth s) (by decide), few, fun ys p hp np => ?_⟩
  · obtain ⟨s, _, rfl⟩ := List.mem_map.mp hd
    exact ⟨_, _, rfl⟩
  · obtain ⟨us, rfl, hu⟩ := refs_of hp
    exact q p _ np (same_upd np) ⟨us, upd_same, (tups_steps.mpr hu).mono fun z xs e => same_upd np _ _ e⟩
theorem sort_keys {l : List Key} (h : KeyL H a l) (tx : ∀ k ∈ l, ∃ x, k = Sum.inr x) (few : l.length ≤ 10000) (q : ∀ p H2, H p = none → Same H H2 → KeyL H2 p (srtE keyD l) → Q (.ref p) H2) : rSortE K [.ref a] H Q := by
  unfold rSortE
  refine ⟨Key, keyD, fun x k => x = kV k, a, _, l, rfl, SqL.of h, keys_pair l, fun x k e => e ▸ Dp.key k, alike_all fun x hx y hy => ?_, .inr fun d hd => ?_, fun k _ => by rw [keyD_depth]; exact Nat.zero_le _, few, fun ys p hp np => ?_⟩
  · obtain ⟨u, rfl⟩ := tx x hx
    obtain ⟨v, rfl⟩ := tx y hy
    rfl
  · obtain ⟨k, _, rfl⟩ := List.mem_map.mp hd
    cases k
    · exact ⟨fun e => (nomatch e), fun xs e => (nomatch e)⟩
    · exact ⟨fun e => (nomatch e), fun xs e => (nomatch e)⟩
  · refine q p _ np (same_upd np) ?_
    show upd _ _ _ _ = _
    rw [upd_same, keys_back hp]
theorem Dp.row {row : List Stp} (h : RowP H a row) : Dp K H (.ref a) (encR row) := by
  obtain ⟨ts, h1, h2⟩ := h
  have e : encR row = .list ((row.map skp).map tupD) := by
    unfold encR
    rw [List.map_map]
    rfl
  rw [e]
  exact Dp.tupL (SqL.of h1) h2
theorem Dp.all {γ : Type} {enc : γ → PyData} {Ob : Addr → γ → Prop} (h : ∀ a c, Ob a c → Dp K H (.ref a) (enc c)) : ∀ {as : List Addr} {cs : List γ}, Paired Ob as cs → DpAll K H (as.map V.ref) (cs.map enc)
  | _, _, .nil => .nil
  | _, _, .cons o r => .cons (h _ _ o) (Dp.all h r)
theorem sort_obs {γ : Type} {enc : γ → PyData} {Ob : Hp → Addr → γ → Prop} (ko : ObK Ob) (dp : ∀ a c, Ob H a c → Dp K H (.ref a) (enc c)) (nt : ∀ c, enc c ≠ .none ∧ ∀ xs, enc c ≠ .tuple xs) (dep : ∀ c, (enc c).depth ≤ 60) {as : List Addr} {cs : List γ} (h : H a = some (.lst (as.map V.ref))) (pr : Paired (Ob H) as cs) (al : ∀ x ∈ cs, ∀ y ∈ cs, alike (enc x) (enc y) = true) (few : cs.length ≤ 10000)
    (q : ∀ p as' H2, H p = none → Same H H2 → H2 p = some (.lst (as'.map V.ref)) → Paired (Ob H2) as' (srtE enc cs) → Q (.ref p) H2) : rSortE K [.ref a] H Q := by
  unfold rSortE
  refine ⟨γ, enc, fun x c => ∃ t, x = V.ref t ∧ Ob H t c, a, _, cs, rfl, SqL.of h, refs_to pr, fun x c ⟨t, e, ht⟩ => e ▸ dp t c ht, alike_all al, .inr fun d hd => ?_, fun c _ => dep c, few, fun ys p hp np => ?_⟩
  · obtain ⟨c, _, rfl⟩ := List.mem_map.mp hd
    exact nt c
  · obtain ⟨us, rfl, hu⟩ := refs_of hp
    exact q p us _ np (same_upd np) upd_same (Paired.mapP hu fun _ _ o => ko.same (same_upd np) o)
theorem ne_obs {γ : Type} {enc : γ → PyData} {Ob : Addr → γ → Prop} (dp : ∀ a c, Ob a c → Dp K H (.ref a) (enc c)) (dep : ∀ c, (enc c).depth ≤ 60) {as bs : List Addr} {cs : List γ} (ha : H a = some (.lst (as.map V.ref))) (hb : H b = some (.lst (bs.map V.ref))) (pa : Paired Ob as cs) (pb : Paired Ob bs cs) (lay : ∀ c ∈ cs, (enc c).canLay0 = true) (q : Q (.bl false) H) : rNeA K (.ref a) (.ref b) H Q := by
  have l1 : (PyData.list (cs.map enc)).canLay0 = true := by
    simp only [PyData.canLay0]
    exact lay_all lay
  have l2 : SeqAt.shaped (.list (cs.map enc)) = true := shaped_of l1 (by
    have := depth_all (enc := enc) (n := 60) (bs := cs) fun c _ => dep c
    simp only [PyData.depth]
    omega)
  refine .inr ⟨_, _, .lst (SqL.of ha) (Dp.all dp pa), .lst (SqL.of hb) (Dp.all dp pb), l2, l2, ?_⟩
  rw [show PyData.eqv (.list (cs.map enc)) (.list (cs.map enc)) = true from SeqAt.eqv_refl _ l1]
  exact q
theorem encR_lay {r : List Stp} (h : ∀ s ∈ r, (skp s).all okK = true) : (encR r).canLay0 = true := by
  unfold encR
  simp only [PyData.canLay0]
  exact lay_all fun s hs => tupD_lay _ (h s hs)
theorem encK_lay {l : List Key} (h : ∀ k ∈ l, okK k = true) : (encK l).canLay0 = true := by
  unfold encK
  simp only [PyData.canLay0]
  exact lay_all fun k hk => keyD_lay k (h k hk)
end
end Y
namespace Y
open PySem PySem.Spec PyProof.Rows L2
theorem turnR_turnR (r : List Key) : turnR (turnR r) = r := by
  unfold turnR
  cases r with
  | nil => rfl
  | cons x t => simp
theorem turnW_turnW (W : Whl) : turnW (turnW W) = W := by
  unfold turnW
  rw [List.map_map]
  have : ∀ ur : Key × List Key, ((fun ur : Key × List Key => (ur.1, turnR ur.2)) ∘ fun ur => (ur.1, turnR ur.2)) ur = ur := fun ur => by
    show (ur.1, turnR (turnR ur.2)) = ur
    rw [turnR_turnR]
  rw [funext this]
  exact List.map_id' _
theorem Ringed.turn {W : Whl} (r : Ringed W) : Ringed (turnW W) := by
  refine ⟨r.g.turn, fun k h => r.st k (by rw [turnW_keys] at h; exact h), fun s h => r.ok s (turn_steps (u := s.1) (v := s.2) |>.mp h), ?_, ?_⟩
  · unfold turnW
    rw [List.length_map]
    exact r.few
  · rw [turn_steps_len r.g]
    exact r.len
theorem WF.tx {H : Hp} {d : Addr} {W : Whl} (h : WF H d W) : ∀ s ∈ stepsW W, TxS s := fun s hs => ⟨h.st _ (key_of (u := s.1) (v := s.2) hs), h.st _ (key_of (h.g.sym s.1 s.2 hs))⟩
/-- two wheels alike, as _law_like asks of dicts -/
theorem like_wheels {H : Hp} {a b : Addr} {W : Whl} (ha : WhAt H a W) (hb : WhAt H b W) (n : a ≠ b) (g : Good W) (few : W.length ≤ 1000) : ∃ kvs lvs, H a = some (.dK kvs) ∧ H b = some (.dK lvs) ∧ a ≠ b ∧ kvs.map (·.1) = lvs.map (·.1) ∧ (kvs.map (·.1)).Nodup ∧ kvs.length ≤ 1000 ∧ ∀ (k : Key) (p q : V), (k, p) ∈ kvs → (k, q) ∈ lvs → Al H 2 p q := by
  obtain ⟨kvs, h1, p1⟩ := ha
  obtain ⟨lvs, h2, p2⟩ := hb
  refine ⟨kvs, lvs, h1, h2, n, by rw [rgp_keys p1, rgp_keys p2], by rw [rgp_keys p1]; exact g.nd, by rw [Paired.length p1]; exact few, fun k p q hp hq => ?_⟩
  obtain ⟨i, hi⟩ := List.getElem?_of_mem hp
  obtain ⟨⟨u, r⟩, hW, e, x, e2, hx⟩ := paired_at p1 hi
  obtain ⟨j, hj⟩ := List.getElem?_of_mem hq
  obtain ⟨⟨u', r'⟩, hW', e', x', e2', hx'⟩ := paired_at p2 hj
  obtain rfl : k = u := e
  obtain rfl : k = u' := e'
  obtain rfl : p = V.ref x := e2
  obtain rfl : q = V.ref x' := e2'
  have er : r = r' := (rgW_of g.nd (List.mem_of_getElem? hW)).symm.trans (rgW_of g.nd (List.mem_of_getElem? hW'))
  subst er
  exact al_keysL (n := 1) hx hx' (by have := ring_small g (u := k) (r := r) (List.mem_of_getElem? hW); show r.length ≤ 100000; omega)
end Y
namespace Y
open PySem PySem.Spec PyProof.Rows L2
open PySem.W (EachIs AllAlike Sortable dataLe dataLt keyToks alike alikeAll)
theorem encR_nt (c : List Stp) : encR c ≠ .none ∧ ∀ xs, encR c ≠ .tuple xs := ⟨fun e => (nomatch e), fun xs e => (nomatch e)⟩
theorem encK_nt (c : List Key) : encK c ≠ .none ∧ ∀ xs, encK c ≠ .tuple xs := ⟨fun e => (nomatch e), fun xs e => (nomatch e)⟩
theorem encR_60 (c : List Stp) : (encR c).depth ≤ 60 := Nat.le_trans (encR_depth c) (by decide)
theorem encK_60 (c : List Key) : (encK c).depth ≤ 60 := Nat.le_trans (encK_depth c) (by decide)
theorem Dp.keyO {K : PySem.W.Frag} {H : Hp} {a : Addr} {c : List Key} (o : KeyL H a c) : Dp K H (.ref a) (encK c) := Dp.keyL (SqL.of o)
/-- rows, sorted each: what is asked of them -/
theorem rows_alike {β : Type} {f : β → List Stp} {rows : List β} (h : ∀ r ∈ rows, ∀ s ∈ f r, TxS s) : ∀ x ∈ rows.map (fun r => srtE encS (f r)), ∀ y ∈ rows.map (fun r => srtE encS (f r)), alike (encR x) (encR y) = true := by
  intro x hx y hy
  obtain ⟨r, hr, rfl⟩ := List.mem_map.mp hx
  obtain ⟨t, ht, rfl⟩ := List.mem_map.mp hy
  exact alike_R (fun s hs => h r hr s ((srtE_perm encS _).mem_iff.mp hs)) (fun s hs => h t ht s ((srtE_perm encS _).mem_iff.mp hs))
theorem keys_alike {β : Type} {f : β → List Key} {rows : List β} (h : ∀ r ∈ rows, ∀ k ∈ f r, ∃ x, k = Sum.inr x) : ∀ x ∈ rows.map (fun r => srtE keyD (f r)), ∀ y ∈ rows.map (fun r => srtE keyD (f r)), alike (encK x) (encK y) = true := by
  intro x hx y hy
  obtain ⟨r, hr, rfl⟩ := List.mem_map.mp hx
  obtain ⟨t, ht, rfl⟩ := List.mem_map.mp hy
  exact alike_K (fun s hs => h r hr s ((srtE_perm keyD _).mem_iff.mp hs)) (fun s hs => h t ht s ((srtE_perm keyD _).mem_iff.mp hs))
theorem touch_mem {row : List Stp} {k : Key} (h : k ∈ touchK row) : ∃ s ∈ row, s.1 = k := by
  unfold touchK at h
  exact List.mem_map.mp (mem_ddK.mp h)
theorem touch_len (row : List Stp) : (touchK row).length ≤ row.length := by
  have h1 := ddK_len (row.map (·.1)) (row.map (·.1)).length
  rw [List.take_length, List.length_map] at h1
  exact h1
theorem al_bools {H : Hp} {n : Nat} {a b : Addr} {xs : List Bool} (ha : H a = some (.lst (xs.map V.bl))) (hb : H b = some (.lst (xs.map V.bl))) (z : xs.length ≤ 100000) : Al H (n + 1) (.ref a) (.ref b) := by
  refine .inr ⟨a, b, _, _, rfl, rfl, .inl ⟨ha, hb⟩, rfl, by rw [List.length_map]; exact z, fun i p q hp hq => ?_⟩
  rw [hp] at hq
  cases hq
  rw [List.getElem?_map] at hp
  obtain ⟨c, _, rfl⟩ := Option.map_eq_some_iff.mp hp
  cases n with
  | zero => exact ⟨rfl, rfl⟩
  | succ n => exact .inl ⟨rfl, rfl⟩
end Y

namespace Y
open PySem PySem.Spec PyProof.Rows L2
def top (i : Nat) : Stmt := PySem.Challenge.pw_wayleft_k37_turned_over.main.body.getD i (.Pass ⟨0, 0, 0, 0⟩)
abbrev s_Unlike___init__ : Stmt := inClass (top 1) 0
abbrev s_are_rings : Stmt := top 3
abbrev s_steps_behind : Stmt := top 4
abbrev s_room_from : Stmt := top 5
abbrev s_rooms_of : Stmt := top 6
abbrev s_hang_together : Stmt := top 7
abbrev s_check_rings : Stmt := top 9
abbrev s_rooms : Stmt := top 10
abbrev s_plane : Stmt := top 11
abbrev s_turned : Stmt := top 12
abbrev s_touched : Stmt := top 13
abbrev s__law_bag : Stmt := top 15
abbrev s__law_draw : Stmt := top 16
abbrev s__law_of : Stmt := top 17
abbrev s__law_mixed : Stmt := top 18
abbrev s__law_like : Stmt := top 19
abbrev s__law_reserved : Stmt := top 20
abbrev s__law_names : Stmt := top 21
abbrev s__law_beside : Stmt := top 22
abbrev s__law_tie : Stmt := top 23
abbrev s__law_loose : Stmt := top 24
abbrev s__law_block : Stmt := top 25
abbrev s__law_glued : Stmt := top 26
abbrev s__law_several : Stmt := top 27
abbrev s__law_pattern : Stmt := top 28
abbrev s__law_rooms : Stmt := top 29
abbrev s__law_counted : Stmt := top 30
abbrev s__law_drawing : Stmt := top 31
abbrev s__law_titled : Stmt := top 32
abbrev s__law_wheel_of : Stmt := top 33
abbrev s__law_strings : Stmt := top 34
abbrev s__law_replica : Stmt := top 35
abbrev s__law_turn : Stmt := top 36
abbrev s__law_drawn : Stmt := top 37
abbrev s_law : Stmt := top 38
end Y

namespace Y
open PySem PySem.Spec PyProof.Rows L2
theorem sc__law_like : FnScope ["told", "due", "one", "other"] ["told", "due"] (defScope s__law_like) := ⟨rfl, rfl, rfl, by decide +kernel, rfl, by decide +kernel, by decide +kernel⟩
local macro_rules | `(tactic| walk_at "hp") => `(tactic| first
  | assumption
  | exact upd_same
  | (refine (upd_ne (by first | assumption | exact Ne.symm (by assumption))).trans ?_; walk_at "hp"))
local macro_rules | `(tactic| walk_at "sz") => `(tactic| first
  | (rw [nat63]; omega)
  | (rw [nat63]; exact Nat.le_of_ble_eq_true rfl)
  | (simp only [nat63, List.length_append, List.length_cons, List.length_nil, List.length_map, List.length_set]; omega))
local macro_rules | `(tactic| walk_at "sd") => `(tactic| (try dsimp only [CDiv, CMul, CPow]); first
  | (with_reducible assumption)
  | omega
  | decide
  | walk_at "sz"
  | exact ⟨by omega, by omega⟩
  | exact ⟨by omega, by omega, by omega⟩
  | exact Or.inr ⟨by omega, by omega⟩
  | exact Or.inl ⟨by omega, by omega⟩)
local macro_rules | `(tactic| walk_at "go") => `(tactic| repeat (first
  | refine ⟨_, rfl, ?_⟩
  | refine ⟨_, _, rfl, rfl, ?_⟩
  | refine Or.inl ⟨_, rfl, ?_⟩
  | refine Or.inl ⟨_, _, rfl, rfl, ?_⟩
  | refine Or.inl ⟨_, _, _, _, rfl, rfl, SqL.of (by walk_at "hp"), rfl, ?_⟩
  | refine Or.inl ⟨rfl, ?_⟩
  | refine Or.inl ⟨_, _, _, _, rfl, rfl, (by walk_at "hp"), rfl, ?_⟩
  | refine Or.inr (Or.inl ⟨_, _, _, _, rfl, rfl, SqT.of (by walk_at "hp"), rfl, ?_⟩)
  | refine Or.inl ⟨_, _, rfl, Or.inl ⟨_, SqL.of (by walk_at "hp"), rfl⟩, ?_⟩
  | (with_reducible refine iteF ?_)
  | (with_reducible refine iteT ?_)
  | refine And.intro (by walk_at "sd") ?_
  | refine ⟨Or.inl ⟨rfl, _, SqL.of (by walk_at "hp")⟩, ?_⟩
  | refine ⟨_, _, _, rfl, rfl, (by walk_at "hp"), (by walk_at "sz"), ?_⟩
  | refine ⟨_, _, rfl, SqT.of (by walk_at "hp"), rfl, ?_⟩
  | refine ⟨_, _, rfl, ?_⟩
  | refine ⟨_, _, _, rfl, ?_⟩
  | refine ⟨⟨_, rfl⟩, ?_⟩
  | refine ⟨rfl, ?_⟩))
local macro_rules | `(tactic| walk_at "nb") => `(tactic| first
  | exact (nb_vs1 _).bag
  | exact (nb_strs _).bag
  | exact (nb_vsS _).bag
  | exact (nb_refs _).bag
  | assumption
  | rfl)
local macro_rules | `(tactic| walk_at "hp") => `(tactic| first
  | assumption
  | with_reducible exact upd_same
  | ((with_reducible apply upd_keep); assumption; walk_at "hp")
  | ((with_reducible apply Wb.keep); assumption; walk_at "hp"; walk_at "nb")
  | ((with_reducible apply Same.keep); assumption; walk_at "hp"))
local macro_rules | `(tactic| walk_at "wb") => `(tactic| first
  | assumption
  | exact Wb.refl (by assumption)
  | (apply Wb.trans2; assumption; walk_at "wb1")
  | (apply Wb.same2; assumption; walk_at "wb1"))
local macro_rules | `(tactic| walk_at "wb1") => `(tactic| walk_at "wb")
local macro_rules | `(tactic| walk_at "sd") => `(tactic| with_reducible exact Wb.bag (by assumption))

section
variable {P : Program} {w : World} {K : PySem.W.Frag} {mg : Str → Option Value} {base : Heap}
theorem ok__law_like_step {n k : Nat} {f : Addr} {fd : FuncData} (F : Fun K "_law_like" "_law_like" s__law_like f fd) (B : Blt mg) (sp : Sp) (hsp : ∀ m, n = m + 1 → sp = sp_like m) (G__law_like : Fn P w K mg base k "_law_like" ["told", "due"] sp) : FnOk P w K mg base CX0 (k + 1) f fd ["told", "due"] (sp_like n) := by
  refine F.ok sc__law_like (fun vs H Q E h => ?_) (fun cdv A outer s H vs Q E hr h => ?_)
  · obtain ⟨x, y, rfl, _⟩ := h
    rfl
  · obtain ⟨x, y, rfl, h, q⟩ := h
    have hu := hu_of hr
    refine ⟨_, (pss_cons (ps_if (kpt_truth (K := K) (pe_callB (kisi (K := K)) (by rfl) B.isinstance (by decide +kernel) (pa_cons (pv 1) (pa_cons (pe_bltn (v := .ty "dict") (by rfl) B.dict (by decide +kernel) rfl) pa_nil))) (by intro _; rfl))
      (pss_cons (ps_if (PW.pt (pw_or (pt_not (kpt_truth (K := K) (pe_callB (kisi (K := K)) (by rfl) B.isinstance (by decide +kernel) (pa_cons (pv 0) (pa_cons (pe_bltn (v := .ty "dict") (by rfl) B.dict (by decide +kernel) rfl) pa_nil))) (by intro _; rfl))) (pw_or1 (pt_not (kpt_truth (K := K) (pe_fn G__law_like (hr.mono (Nat.le_refl _)) (by rfl) (pa_cons (pe_callTy (klist (K := K)) (by rfl) B.list (by decide +kernel) (pa_cons (pv 0) pa_nil)) (pa_cons (pe_callTy (klist (K := K)) (by rfl) B.list (by decide +kernel) (pa_cons (pv 1) pa_nil)) pa_nil))) (by intro _; rfl))))))
      (pss_one (ps_ret pe_bl))
      pss_nil)
      (pss_one (ps_ret (pe_callB (kall (K := K)) (by rfl) B.all (by decide +kernel) (pa_cons (pe_lc (own := [("one", 2)]) (by rfl) sc__law_like.nd (kpi_list (K := K) (pv 1)) (blkOk_by (own := [("one", 2)]) (N := ["told", "due", "one", "other"]) (sc := defScope s__law_like) (by decide +kernel)) (fun _ _ _ _ _ => (pg_name (i := 2) sc__law_like.nd rfl (Or.inl rfl))) (fun _ _ _ _ _ => pts_nil) (fun _ _ _ _ _ => (pe_fn G__law_like (hr.mono (Nat.le_refl _)) (by rfl) (pa_cons (pe_ix (kix (K := K) hu) (pv 0) (pv 2) (fun _ _ => rfl)) (pa_cons (pe_ix (kix (K := K) hu) (pv 1) (pv 2) (fun _ _ => rfl)) pa_nil))))) pa_nil)))))
      pss_nil)
      (pss_cons (ps_if (kpt_truth (K := K) (pe_callB (kisi (K := K)) (by rfl) B.isinstance (by decide +kernel) (pa_cons (pv 1) (pa_cons (pe_tup (pa_cons (pe_bltn (v := .ty "list") (by rfl) B.list (by decide +kernel) rfl) (pa_cons (pe_bltn (v := .ty "tuple") (by rfl) B.tuple (by decide +kernel) rfl) pa_nil))) pa_nil))) (by intro _; rfl))
      (pss_cons (ps_if (PW.pt (pw_or (pt_cmpR (kne (K := K) hr) (pe_callB (kisi (K := K)) (by rfl) B.isinstance (by decide +kernel) (pa_cons (pv 0) (pa_cons (pe_bltn (v := .ty "list") (by rfl) B.list (by decide +kernel) rfl) pa_nil))) (pe_callB (kisi (K := K)) (by rfl) B.isinstance (by decide +kernel) (pa_cons (pv 1) (pa_cons (pe_bltn (v := .ty "list") (by rfl) B.list (by decide +kernel) rfl) pa_nil))) (nomark _)) (pw_or1 (pt_cmpR (kne (K := K) hr) (pe_callB (kisi (K := K)) (by rfl) B.isinstance (by decide +kernel) (pa_cons (pv 0) (pa_cons (pe_bltn (v := .ty "tuple") (by rfl) B.tuple (by decide +kernel) rfl) pa_nil))) (pe_callB (kisi (K := K)) (by rfl) B.isinstance (by decide +kernel) (pa_cons (pv 1) (pa_cons (pe_bltn (v := .ty "tuple") (by rfl) B.tuple (by decide +kernel) rfl) pa_nil))) (nomark _)))))
      (pss_one (ps_ret pe_bl))
      pss_nil)
      (pss_one (ps_ret (pe_and (pe_cmpR (keq (K := K) hr) (pe_callB (klen (K := K)) (by rfl) B.len (by decide +kernel) (pa_cons (pv 0) pa_nil)) (pe_callB (klen (K := K)) (by rfl) B.len (by decide +kernel) (pa_cons (pv 1) pa_nil)) (nomark _)) (pe_one (pe_callB (kall (K := K)) (by rfl) B.all (by decide +kernel) (pa_cons (pe_lc (own := [("one", 2), ("other", 3)]) (by rfl) sc__law_like.nd (RZ.pi_zipA (by rfl) B.zip (pa_cons (pv 0) (pa_cons (pv 1) pa_nil))) (blkOk_by (own := [("one", 2), ("other", 3)]) (N := ["told", "due", "one", "other"]) (sc := defScope s__law_like) (by decide +kernel)) (fun _ _ _ _ _ => (kpg_tup (K := K) (n := 2) (pg_tup rfl (pgs_cons (pg_name (i := 2) sc__law_like.nd rfl (Or.inl rfl)) (pgs_cons (pg_name (i := 3) sc__law_like.nd rfl (Or.inl rfl)) pgs_nil))))) (fun _ _ _ _ _ => pts_nil) (fun _ _ _ _ _ => (pe_fn G__law_like (hr.mono (Nat.le_refl _)) (by rfl) (pa_cons (pv 2) (pa_cons (pv 3) pa_nil))))) pa_nil)))))))
      pss_nil)
      (pss_cons (ps_if (PW.pt (pw_or (pt_cmpR op_isN (pv 0) pe_non (nomark _)) (pw_or1 (pt_cmpR op_isN (pv 1) pe_non (nomark _)))))
      (pss_one (ps_ret (pe_and (pe_cmpR op_isN (pv 0) pe_non (nomark _)) (pe_one (pe_cmpR op_isN (pv 1) pe_non (nomark _))))))
      pss_nil)
      (pss_cons (ps_if (PW.pt (pw_or (kpt_truth (K := K) (pe_callB (kisi (K := K)) (by rfl) B.isinstance (by decide +kernel) (pa_cons (pv 0) (pa_cons (pe_tup (pa_cons (pe_bltn (v := .ty "list") (by rfl) B.list (by decide +kernel) rfl) (pa_cons (pe_bltn (v := .ty "tuple") (by rfl) B.tuple (by decide +kernel) rfl) (pa_cons (pe_bltn (v := .ty "dict") (by rfl) B.dict (by decide +kernel) rfl) pa_nil)))) pa_nil))) (by intro _; rfl)) (pw_or1 (pt_cmpR (kne (K := K) hr) (pe_callB (kisi (K := K)) (by rfl) B.isinstance (by decide +kernel) (pa_cons (pv 0) (pa_cons (pe_bltn (v := .ty "bool") (by rfl) B.bool (by decide +kernel) rfl) pa_nil))) (pe_callB (kisi (K := K)) (by rfl) B.isinstance (by decide +kernel) (pa_cons (pv 1) (pa_cons (pe_bltn (v := .ty "bool") (by rfl) B.bool (by decide +kernel) rfl) pa_nil))) (nomark _)))))
      (pss_one (ps_ret pe_bl))
      pss_nil)
      (pss_one (ps_ret (pe_and (pe_cmpR (keq (K := K) hr) (pe_callB (kisi (K := K)) (by rfl) B.isinstance (by decide +kernel) (pa_cons (pv 0) (pa_cons (pe_bltn (v := .ty "str") (by rfl) B.str (by decide +kernel) rfl) pa_nil))) (pe_callB (kisi (K := K)) (by rfl) B.isinstance (by decide +kernel) (pa_cons (pv 1) (pa_cons (pe_bltn (v := .ty "str") (by rfl) B.str (by decide +kernel) rfl) pa_nil))) (nomark _)) (pe_and (pe_cmpR (keq (K := K) hr) (pe_callB (kisi (K := K)) (by rfl) B.isinstance (by decide +kernel) (pa_cons (pv 0) (pa_cons (pe_bltn (v := .ty "int") (by rfl) B.int (by decide +kernel) rfl) pa_nil))) (pe_callB (kisi (K := K)) (by rfl) B.isinstance (by decide +kernel) (pa_cons (pv 1) (pa_cons (pe_bltn (v := .ty "int") (by rfl) B.int (by decide +kernel) rfl) pa_nil))) (nomark _)) (pe_one (pe_callTy (call_bool1) (by rfl) B.bool (by decide +kernel) (pa_cons (pe_cmpR (keq (K := K) hr) (pv 0) (pv 1) (nomark _)) pa_nil))))))))))), ?_⟩
    have cases_ : (x = y ∧ flatL x = true) ∨ ∃ m, n = m + 1 ∧ ∃ (a b : Addr) (xs ys : List V), x = .ref a ∧ y = .ref b ∧ ((H a = some (.lst xs) ∧ H b = some (.lst ys)) ∨ (H a = some (.tup xs) ∧ H b = some (.tup ys))) ∧ xs.length = ys.length ∧ xs.length ≤ 100000 ∧ ∀ (i : Nat) (p q : V), xs[i]? = some p → ys[i]? = some q → Al H m p q := by
      cases n with
      | zero => exact .inl h
      | succ m => exact h.imp id fun z => ⟨m, rfl, z⟩
    clear h
    rcases cases_ with ⟨rfl, hf⟩ | ⟨m, rfl, a, b, xs, ys, rfl, rfl, hab, l1, l2, hk⟩
    · have ty : ∃ t, TyX K H x (.type t) ∧ (∀ H', TyX K H' x (.type t)) ∧ (t = "NoneType" ∨ t = "bool" ∨ t = "int" ∨ t = "str") := by
        cases x with
        | non => exact ⟨_, .base .non, fun _ => .base .non, .inl rfl⟩
        | bl b => exact ⟨_, .base (.bl b), fun _ => .base (.bl b), .inr (.inl rfl)⟩
        | int i => exact ⟨_, .base (.int i), fun _ => .base (.int i), .inr (.inr (.inl rfl))⟩
        | str y => exact ⟨_, .base (.str y), fun _ => .base (.str y), .inr (.inr (.inr rfl))⟩
        | _ => cases hf
      obtain ⟨t, _, ty, ht⟩ := ty
      have k1 : PySem.W.kitOne K (.type t) (.type "dict") = some false := by rcases ht with rfl | rfl | rfl | rfl <;> rfl
      have k2 : PySem.W.kitAny K (.type t) [.type "list", .type "tuple"] = some false := by rcases ht with rfl | rfl | rfl | rfl <;> rfl
      have k3 : PySem.W.kitAny K (.type t) [.type "list", .type "tuple", .type "dict"] = some false := by rcases ht with rfl | rfl | rfl | rfl <;> rfl
      have k4 : ∀ z ∈ ["bool", "str", "int"], ∃ b, PySem.W.kitOne K (.type t) (.type z) = some b := by
        intro z hz
        simp only [List.mem_cons, List.not_mem_nil, or_false] at hz
        rcases hz with rfl | rfl | rfl <;> rcases ht with rfl | rfl | rfl | rfl <;> exact ⟨_, rfl⟩
      obtain ⟨b1, k5⟩ := k4 "bool" (by decide)
      obtain ⟨b2, k6⟩ := k4 "str" (by decide)
      obtain ⟨b3, k7⟩ := k4 "int" (by decide)
      walk_at "go"
      refine .inl ⟨_, _, _, _, false, rfl, .ty _, ty _, k1, ?_⟩
      refine ⟨_, rfl, iteF ?_⟩
      walk_at "go"
      intro p np
      generalize ep : upd H p _ = H1 at *
      have hp := at_new ep
      have s1 := same_new ep np
      clear ep
      refine .inr ⟨_, p, _, _, [_, _], false, rfl, hp, .cons (.ty _) (.cons (.ty _) .nil), ty _, k2, ?_⟩
      refine ⟨_, rfl, iteF ?_⟩
      by_cases hn : x = .non
      · subst hn
        walk_at "go"
        exact q _ s1
      · walk_at "go"
        refine ite_d (fun e => absurd e hn) (fun _ => ?_)
        walk_at "go"
        refine ite_d (fun e => absurd e hn) (fun _ => ?_)
        walk_at "go"
        intro p2 np2
        generalize ep : upd H1 p2 _ = H2 at *
        have hp2 := at_new ep
        have s2 := same_new ep np2
        clear ep
        refine .inr ⟨_, p2, _, _, [_, _, _], false, rfl, hp2, .cons (.ty _) (.cons (.ty _) (.cons (.ty _) .nil)), ty _, k3, ?_⟩
        refine ⟨_, rfl, iteF ?_⟩
        walk_at "go"
        refine .inl ⟨_, _, _, _, b1, rfl, .ty _, ty _, k5, ?_⟩
        walk_at "go"
        refine .inl ⟨_, _, _, _, b1, rfl, .ty _, ty _, k5, ?_⟩
        refine .inl ⟨by cases b1 <;> rfl, ?_⟩
        refine ⟨_, rfl, ite_nd (fun e => absurd rfl e) (fun _ => ?_)⟩
        have sc : scal x x = true := by cases x <;> first | rfl | cases hf | exact absurd rfl hn
        walk_at "go"
        refine .inl ⟨_, _, _, _, b2, rfl, .ty _, ty _, k6, ?_⟩
        walk_at "go"
        refine .inl ⟨_, _, _, _, b2, rfl, .ty _, ty _, k6, ?_⟩
        refine .inl ⟨by cases b2 <;> rfl, ?_⟩
        refine ⟨_, rfl, ite_d (fun _ => ?_) (fun e => absurd rfl e)⟩
        walk_at "go"
        refine .inl ⟨_, _, _, _, b3, rfl, .ty _, ty _, k7, ?_⟩
        walk_at "go"
        refine .inl ⟨_, _, _, _, b3, rfl, .ty _, ty _, k7, ?_⟩
        refine .inl ⟨by cases b3 <;> rfl, ?_⟩
        refine ⟨_, rfl, ite_d (fun _ => ?_) (fun e => absurd rfl e)⟩
        walk_at "go"
        refine .inl ⟨sc, ?_⟩
        refine .inr ⟨_, rfl, ?_⟩
        rw [show decide (x = x) = true from decide_eq_true rfl]
        exact q _ (s1.trans s2)
    · obtain rfl := hsp m rfl
      rcases hab with ⟨ha, hb⟩ | ⟨ha, hb⟩
      · skip
        walk_at "go"
        refine .inl ⟨_, _, _, _, false, rfl, .ty _, .base (.lst hb), rfl, ?_⟩
        refine ⟨_, rfl, iteF ?_⟩
        walk_at "go"
        intro p np
        generalize ep : upd H p _ = H1 at *
        have hp := at_new ep
        have s1 := same_new ep np
        clear ep
        have ha1 := s1 _ _ ha
        have hb1 := s1 _ _ hb
        refine .inr ⟨_, p, _, _, [_, _], true, rfl, hp, .cons (.ty _) (.cons (.ty _) .nil), .base (.lst hb1), rfl, ?_⟩
        refine ⟨_, rfl, iteT ?_⟩
        walk_at "go"
        refine .inl ⟨_, _, _, _, true, rfl, .ty _, .base (.lst ha1), rfl, ?_⟩
        walk_at "go"
        refine .inl ⟨_, _, _, _, true, rfl, .ty _, .base (.lst hb1), rfl, ?_⟩
        refine .inl ⟨rfl, ?_⟩
        refine ⟨_, rfl, ite_nd (fun e => absurd rfl e) (fun _ => ?_)⟩
        walk_at "go"
        refine .inl ⟨_, _, _, _, false, rfl, .ty _, .base (.lst ha1), rfl, ?_⟩
        walk_at "go"
        refine .inl ⟨_, _, _, _, false, rfl, .ty _, .base (.lst hb1), rfl, ?_⟩
        refine .inl ⟨rfl, ?_⟩
        refine ⟨_, rfl, ite_nd (fun e => absurd rfl e) (fun _ => ?_)⟩
        walk_at "go"
        skip
        walk_at "go"
        skip
        walk_at "go"
        refine ite_di (fun _ => ?_) (fun e => absurd (by rw [l1]) e)
        walk_at "go"
        refine ⟨a, b, xs, ys, rfl, .inl ⟨SqL.of ha1, SqL.of hb1, fun D nD => ?_⟩⟩
        refine lc_vals (n := xs.length) (walk_zip (K := K) (by omega)) (fun _ => V.bl true) nD (fun H' s' => ⟨SqL.of (s' _ _ ha1), SqL.of (s' _ _ hb1)⟩) (by omega) ?_ ?_
        · rintro i z H7 H8 hi s7 ⟨T, u, v, rfl, nT, rfl, hu1, hv1⟩ N Yd hY
          have hal := (hk i u v hu1 hv1).same (s1.trans s7)
          generalize eT : upd H7 T _ = H8 at *
          have hT := at_new eT
          have s8 := same_new eT nT
          clear eT
          refine ⟨_, _, rfl, SqT.of hT, rfl, ?_⟩
          walk_at "go"
          exact ⟨hal.same s8, fun H9 s9 => hY _ (s8.trans s9)⟩
        · intro H7 s7 hD7
          refine ⟨D, (List.range xs.length).map fun _ => true, rfl, SqL.of (by rw [hD7, List.map_map]; rfl), ?_⟩
          rw [all_bl]
          exact q _ (s1.trans s7)
      · skip
        walk_at "go"
        refine .inl ⟨_, _, _, _, false, rfl, .ty _, .base (.tup hb), rfl, ?_⟩
        refine ⟨_, rfl, iteF ?_⟩
        walk_at "go"
        intro p np
        generalize ep : upd H p _ = H1 at *
        have hp := at_new ep
        have s1 := same_new ep np
        clear ep
        have ha1 := s1 _ _ ha
        have hb1 := s1 _ _ hb
        refine .inr ⟨_, p, _, _, [_, _], true, rfl, hp, .cons (.ty _) (.cons (.ty _) .nil), .base (.tup hb1), rfl, ?_⟩
        refine ⟨_, rfl, iteT ?_⟩
        walk_at "go"
        refine .inl ⟨_, _, _, _, false, rfl, .ty _, .base (.tup ha1), rfl, ?_⟩
        walk_at "go"
        refine .inl ⟨_, _, _, _, false, rfl, .ty _, .base (.tup hb1), rfl, ?_⟩
        refine .inl ⟨rfl, ?_⟩
        refine ⟨_, rfl, ite_nd (fun e => absurd rfl e) (fun _ => ?_)⟩
        walk_at "go"
        refine .inl ⟨_, _, _, _, true, rfl, .ty _, .base (.tup ha1), rfl, ?_⟩
        walk_at "go"
        refine .inl ⟨_, _, _, _, true, rfl, .ty _, .base (.tup hb1), rfl, ?_⟩
        refine .inl ⟨rfl, ?_⟩
        refine ⟨_, rfl, ite_nd (fun e => absurd rfl e) (fun _ => ?_)⟩
        walk_at "go"
        refine .inl ⟨_, _, rfl, .inr ⟨_, SqT.of (ha1), rfl⟩, ?_⟩
        walk_at "go"
        refine .inl ⟨_, _, rfl, .inr ⟨_, SqT.of (hb1), rfl⟩, ?_⟩
        walk_at "go"
        refine ite_di (fun _ => ?_) (fun e => absurd (by rw [l1]) e)
        walk_at "go"
        refine ⟨a, b, xs, ys, rfl, .inr ⟨SqT.of ha1, SqT.of hb1, fun D nD => ?_⟩⟩
        refine lc_vals (n := xs.length) (walk_zipT (K := K) rfl l1) (fun _ => V.bl true) nD (fun H' s' => ⟨SqT.of (s' _ _ ha1), SqT.of (s' _ _ hb1)⟩) (by omega) ?_ ?_
        · rintro i z H7 H8 hi s7 ⟨T, u, v, rfl, nT, rfl, hu1, hv1⟩ N Yd hY
          have hal := (hk i u v hu1 hv1).same (s1.trans s7)
          generalize eT : upd H7 T _ = H8 at *
          have hT := at_new eT
          have s8 := same_new eT nT
          clear eT
          refine ⟨_, _, rfl, SqT.of hT, rfl, ?_⟩
          walk_at "go"
          exact ⟨hal.same s8, fun H9 s9 => hY _ (s8.trans s9)⟩
        · intro H7 s7 hD7
          refine ⟨D, (List.range xs.length).map fun _ => true, rfl, SqL.of (by rw [hD7, List.map_map]; rfl), ?_⟩
          rw [all_bl]
          exact q _ (s1.trans s7)
end

end Y

namespace Y
open PySem PySem.Spec PyProof.Rows L2
local macro_rules | `(tactic| walk_at "hp") => `(tactic| first
  | assumption
  | exact upd_same
  | (refine (upd_ne (by first | assumption | exact Ne.symm (by assumption))).trans ?_; walk_at "hp"))
local macro_rules | `(tactic| walk_at "sz") => `(tactic| first
  | (rw [nat63]; omega)
  | (rw [nat63]; exact Nat.le_of_ble_eq_true rfl)
  | (simp only [nat63, List.length_append, List.length_cons, List.length_nil, List.length_map, List.length_set]; omega))
local macro_rules | `(tactic| walk_at "sd") => `(tactic| (try dsimp only [CDiv, CMul, CPow]); first
  | (with_reducible assumption)
  | omega
  | decide
  | walk_at "sz"
  | exact ⟨by omega, by omega⟩
  | exact ⟨by omega, by omega, by omega⟩
  | exact Or.inr ⟨by omega, by omega⟩
  | exact Or.inl ⟨by omega, by omega⟩)
local macro_rules | `(tactic| walk_at "go") => `(tactic| repeat (first
  | refine ⟨_, rfl, ?_⟩
  | refine ⟨_, _, rfl, rfl, ?_⟩
  | refine Or.inl ⟨_, rfl, ?_⟩
  | refine Or.inl ⟨_, _, rfl, rfl, ?_⟩
  | refine Or.inl ⟨_, _, _, _, rfl, rfl, SqL.of (by walk_at "hp"), rfl, ?_⟩
  | refine Or.inl ⟨rfl, ?_⟩
  | refine Or.inl ⟨_, _, _, _, rfl, rfl, (by walk_at "hp"), rfl, ?_⟩
  | refine Or.inr (Or.inl ⟨_, _, _, _, rfl, rfl, SqT.of (by walk_at "hp"), rfl, ?_⟩)
  | refine Or.inl ⟨_, _, rfl, Or.inl ⟨_, SqL.of (by walk_at "hp"), rfl⟩, ?_⟩
  | (with_reducible refine iteF ?_)
  | (with_reducible refine iteT ?_)
  | refine And.intro (by walk_at "sd") ?_
  | refine ⟨Or.inl ⟨rfl, _, SqL.of (by walk_at "hp")⟩, ?_⟩
  | refine ⟨_, _, _, rfl, rfl, (by walk_at "hp"), (by walk_at "sz"), ?_⟩
  | refine ⟨_, _, rfl, SqT.of (by walk_at "hp"), rfl, ?_⟩
  | refine ⟨_, _, rfl, ?_⟩
  | refine ⟨_, _, _, rfl, ?_⟩
  | refine ⟨⟨_, rfl⟩, ?_⟩
  | refine ⟨rfl, ?_⟩))
local macro_rules | `(tactic| walk_at "nb") => `(tactic| first
  | exact (nb_vs1 _).bag
  | exact (nb_strs _).bag
  | exact (nb_vsS _).bag
  | exact (nb_refs _).bag
  | assumption
  | rfl)
local macro_rules | `(tactic| walk_at "hp") => `(tactic| first
  | assumption
  | with_reducible exact upd_same
  | ((with_reducible apply upd_keep); assumption; walk_at "hp")
  | ((with_reducible apply Wb.keep); assumption; walk_at "hp"; walk_at "nb")
  | ((with_reducible apply Same.keep); assumption; walk_at "hp"))
local macro_rules | `(tactic| walk_at "wb") => `(tactic| first
  | assumption
  | exact Wb.refl (by assumption)
  | (apply Wb.trans2; assumption; walk_at "wb1")
  | (apply Wb.same2; assumption; walk_at "wb1"))
local macro_rules | `(tactic| walk_at "wb1") => `(tactic| walk_at "wb")
local macro_rules | `(tactic| walk_at "sd") => `(tactic| with_reducible exact Wb.bag (by assumption))

def sp_likeD : Nat → Sp := fun n vs H Q _ => ∃ (a b : Addr) (kvs lvs : List (Key × V)), vs = [.ref a, .ref b] ∧ H a = some (.dK kvs) ∧ H b = some (.dK lvs) ∧ a ≠ b ∧ kvs.map (·.1) = lvs.map (·.1) ∧ (kvs.map (·.1)).Nodup ∧ kvs.length ≤ 1000 ∧
  (∀ (k : Key) (p q : V), (k, p) ∈ kvs → (k, q) ∈ lvs → Al H n p q) ∧ ∀ H', Same H H' → Q (.bl true) H'
section
variable {P : Program} {w : World} {K : PySem.W.Frag} {mg : Str → Option Value} {base : Heap}
theorem ok__law_like_dict {n k : Nat} {f : Addr} {fd : FuncData} (F : Fun K "_law_like" "_law_like" s__law_like f fd) (B : Blt mg) (G__law_like : Fn P w K mg base k "_law_like" ["told", "due"] (sp_like (n + 1))) : FnOk P w K mg base CX0 (k + 1) f fd ["told", "due"] (sp_likeD (n + 1)) := by
  refine F.ok sc__law_like (fun vs H Q E h => ?_) (fun cdv A outer s H vs Q E hr h => ?_)
  · obtain ⟨a, b, kvs, lvs, rfl, _⟩ := h
    rfl
  · obtain ⟨a, b, kvs, lvs, rfl, ha, hb, nab, ek, nd, z1, hk, q⟩ := h
    have hu := hu_of hr
    refine ⟨_, (pss_cons (ps_if (kpt_truth (K := K) (pe_callB (kisi (K := K)) (by rfl) B.isinstance (by decide +kernel) (pa_cons (pv 1) (pa_cons (pe_bltn (v := .ty "dict") (by rfl) B.dict (by decide +kernel) rfl) pa_nil))) (by intro _; rfl))
      (pss_cons (ps_if (PW.pt (pw_or (pt_not (kpt_truth (K := K) (pe_callB (kisi (K := K)) (by rfl) B.isinstance (by decide +kernel) (pa_cons (pv 0) (pa_cons (pe_bltn (v := .ty "dict") (by rfl) B.dict (by decide +kernel) rfl) pa_nil))) (by intro _; rfl))) (pw_or1 (pt_not (kpt_truth (K := K) (pe_fn G__law_like (hr.mono (Nat.le_refl _)) (by rfl) (pa_cons (pe_callTy (klist (K := K)) (by rfl) B.list (by decide +kernel) (pa_cons (pv 0) pa_nil)) (pa_cons (pe_callTy (klist (K := K)) (by rfl) B.list (by decide +kernel) (pa_cons (pv 1) pa_nil)) pa_nil))) (by intro _; rfl))))))
      (pss_one (ps_ret pe_bl))
      pss_nil)
      (pss_one (ps_ret (pe_callB (kall (K := K)) (by rfl) B.all (by decide +kernel) (pa_cons (pe_lock (pe_lc (own := [("one", 2)]) (by rfl) sc__law_like.nd (pi_keys (pv 1)) (blkOk_by (own := [("one", 2)]) (N := ["told", "due", "one", "other"]) (sc := defScope s__law_like) (by decide +kernel)) (fun _ _ _ _ _ => (pg_name (i := 2) sc__law_like.nd rfl (Or.inl rfl))) (fun _ _ _ _ _ => pts_nil) (fun _ _ _ _ _ => (pe_fn G__law_like (hr.mono (Nat.le_refl _)) (by rfl) (pa_cons (pe_ix (kix (K := K) hu) (pv 0) (pv 2) (fun _ _ => rfl)) (pa_cons (pe_ix (kix (K := K) hu) (pv 1) (pv 2) (fun _ _ => rfl)) pa_nil)))))) pa_nil)))))
      pss_nil)
      (pss_cons (ps_if (kpt_truth (K := K) (pe_callB (kisi (K := K)) (by rfl) B.isinstance (by decide +kernel) (pa_cons (pv 1) (pa_cons (pe_tup (pa_cons (pe_bltn (v := .ty "list") (by rfl) B.list (by decide +kernel) rfl) (pa_cons (pe_bltn (v := .ty "tuple") (by rfl) B.tuple (by decide +kernel) rfl) pa_nil))) pa_nil))) (by intro _; rfl))
      (pss_cons (ps_if (PW.pt (pw_or (pt_cmpR (kne (K := K) hr) (pe_callB (kisi (K := K)) (by rfl) B.isinstance (by decide +kernel) (pa_cons (pv 0) (pa_cons (pe_bltn (v := .ty "list") (by rfl) B.list (by decide +kernel) rfl) pa_nil))) (pe_callB (kisi (K := K)) (by rfl) B.isinstance (by decide +kernel) (pa_cons (pv 1) (pa_cons (pe_bltn (v := .ty "list") (by rfl) B.list (by decide +kernel) rfl) pa_nil))) (nomark _)) (pw_or1 (pt_cmpR (kne (K := K) hr) (pe_callB (kisi (K := K)) (by rfl) B.isinstance (by decide +kernel) (pa_cons (pv 0) (pa_cons (pe_bltn (v := .ty "tuple") (by rfl) B.tuple (by decide +kernel) rfl) pa_nil))) (pe_callB (kisi (K := K)) (by rfl) B.isinstance (by decide +kernel) (pa_cons (pv 1) (pa_cons (pe_bltn (v := .ty "tuple") (by rfl) B.tuple (by decide +kernel) rfl) pa_nil))) (nomark _)))))
      (pss_one (ps_ret pe_bl))
      pss_nil)
      (pss_one (ps_ret (pe_and (pe_cmpR (keq (K := K) hr) (pe_callB (klen (K := K)) (by rfl) B.len (by decide +kernel) (pa_cons (pv 0) pa_nil)) (pe_callB (klen (K := K)) (by rfl) B.len (by decide +kernel) (pa_cons (pv 1) pa_nil)) (nomark _)) (pe_one (pe_callB (kall (K := K)) (by rfl) B.all (by decide +kernel) (pa_cons (pe_lc (own := [("one", 2), ("other", 3)]) (by rfl) sc__law_like.nd (RZ.pi_zipA (by rfl) B.zip (pa_cons (pv 0) (pa_cons (pv 1) pa_nil))) (blkOk_by (own := [("one", 2), ("other", 3)]) (N := ["told", "due", "one", "other"]) (sc := defScope s__law_like) (by decide +kernel)) (fun _ _ _ _ _ => (kpg_tup (K := K) (n := 2) (pg_tup rfl (pgs_cons (pg_name (i := 2) sc__law_like.nd rfl (Or.inl rfl)) (pgs_cons (pg_name (i := 3) sc__law_like.nd rfl (Or.inl rfl)) pgs_nil))))) (fun _ _ _ _ _ => pts_nil) (fun _ _ _ _ _ => (pe_fn G__law_like (hr.mono (Nat.le_refl _)) (by rfl) (pa_cons (pv 2) (pa_cons (pv 3) pa_nil))))) pa_nil)))))))
      pss_nil)
      (pss_cons (ps_if (PW.pt (pw_or (pt_cmpR op_isN (pv 0) pe_non (nomark _)) (pw_or1 (pt_cmpR op_isN (pv 1) pe_non (nomark _)))))
      (pss_one (ps_ret (pe_and (pe_cmpR op_isN (pv 0) pe_non (nomark _)) (pe_one (pe_cmpR op_isN (pv 1) pe_non (nomark _))))))
      pss_nil)
      (pss_cons (ps_if (PW.pt (pw_or (kpt_truth (K := K) (pe_callB (kisi (K := K)) (by rfl) B.isinstance (by decide +kernel) (pa_cons (pv 0) (pa_cons (pe_tup (pa_cons (pe_bltn (v := .ty "list") (by rfl) B.list (by decide +kernel) rfl) (pa_cons (pe_bltn (v := .ty "tuple") (by rfl) B.tuple (by decide +kernel) rfl) (pa_cons (pe_bltn (v := .ty "dict") (by rfl) B.dict (by decide +kernel) rfl) pa_nil)))) pa_nil))) (by intro _; rfl)) (pw_or1 (pt_cmpR (kne (K := K) hr) (pe_callB (kisi (K := K)) (by rfl) B.isinstance (by decide +kernel) (pa_cons (pv 0) (pa_cons (pe_bltn (v := .ty "bool") (by rfl) B.bool (by decide +kernel) rfl) pa_nil))) (pe_callB (kisi (K := K)) (by rfl) B.isinstance (by decide +kernel) (pa_cons (pv 1) (pa_cons (pe_bltn (v := .ty "bool") (by rfl) B.bool (by decide +kernel) rfl) pa_nil))) (nomark _)))))
      (pss_one (ps_ret pe_bl))
      pss_nil)
      (pss_one (ps_ret (pe_and (pe_cmpR (keq (K := K) hr) (pe_callB (kisi (K := K)) (by rfl) B.isinstance (by decide +kernel) (pa_cons (pv 0) (pa_cons (pe_bltn (v := .ty "str") (by rfl) B.str (by decide +kernel) rfl) pa_nil))) (pe_callB (kisi (K := K)) (by rfl) B.isinstance (by decide +kernel) (pa_cons (pv 1) (pa_cons (pe_bltn (v := .ty "str") (by rfl) B.str (by decide +kernel) rfl) pa_nil))) (nomark _)) (pe_and (pe_cmpR (keq (K := K) hr) (pe_callB (kisi (K := K)) (by rfl) B.isinstance (by decide +kernel) (pa_cons (pv 0) (pa_cons (pe_bltn (v := .ty "int") (by rfl) B.int (by decide +kernel) rfl) pa_nil))) (pe_callB (kisi (K := K)) (by rfl) B.isinstance (by decide +kernel) (pa_cons (pv 1) (pa_cons (pe_bltn (v := .ty "int") (by rfl) B.int (by decide +kernel) rfl) pa_nil))) (nomark _)) (pe_one (pe_callTy (call_bool1) (by rfl) B.bool (by decide +kernel) (pa_cons (pe_cmpR (keq (K := K) hr) (pv 0) (pv 1) (nomark _)) pa_nil))))))))))), ?_⟩
    walk_at "go"
    refine .inl ⟨_, _, _, _, true, rfl, .ty _, .base (.dK hb), rfl, ?_⟩
    refine ⟨_, rfl, iteT ?_⟩
    walk_at "go"
    refine .inl ⟨_, _, _, _, true, rfl, .ty _, .base (.dK ha), rfl, ?_⟩
    refine ⟨true, rfl, ?_⟩
    walk_at "go"
    refine .inr (.inl ⟨a, kvs, rfl, ha, fun l1 nl1 => ?_⟩)
    generalize e1 : upd H l1 _ = H1 at *
    have hl1 := at_new e1
    have s1 := same_new e1 nl1
    clear e1
    walk_at "go"
    refine .inr (.inl ⟨b, lvs, rfl, s1 _ _ hb, fun l2 nl2 => ?_⟩)
    generalize e2 : upd H1 l2 _ = H2 at *
    have hl2 := at_new e2
    have s2 := same_new e2 nl2
    clear e2
    have ek1 : (kvs.map fun kv => kV kv.1) = (kvs.map (·.1)).map kV := by
      rw [List.map_map]
      rfl
    have ek2 : (lvs.map fun kv => kV kv.1) = (kvs.map (·.1)).map kV := by
      rw [ek, List.map_map]
      rfl
    rw [ek1] at hl1
    rw [ek2] at hl2
    walk_at "go"
    refine ⟨al_keysL (s2 _ _ hl1) hl2 (by rw [List.length_map]; omega), fun H3 s3 => ?_⟩
    have s03 := (s1.trans s2).trans s3
    refine ⟨true, rfl, ?_⟩
    refine (ite_if (c := !true) (fun e => by cases e) (fun _ => ?_) : ite _ _ _)
    have ndl : (lvs.map (·.1)).Nodup := by rw [← ek]; exact nd
    have zl : lvs.length = kvs.length := by
      have := congrArg List.length ek
      rw [List.length_map, List.length_map] at this
      exact this.symm
    refine ⟨b, .dK lvs, s03 _ _ hb, trivial, fun od => ?_⟩
    refine ⟨_, rfl, b, od, rfl, .inl ⟨lvs, upd_same, ?_⟩⟩
    intro D nD
    have bD : b ≠ D := fun e => by rw [← e, upd_same] at nD; cases nD
    have nDH : H3 D = none := by rw [upd_ne bD.symm] at nD; exact nD
    have ha3 : upd H3 b (.frz od (.dK lvs)) a = some (.dK kvs) := by rw [upd_ne nab]; exact s03 _ _ ha
    refine lc_vals walk_keys (fun _ => V.bl true) nD (fun H' s => s _ _ upd_same) (by omega) ?_ ?_
    · rintro i z H7 H8 hi s7 ⟨rfl, k', v, hkv, rfl⟩ N Yd hY
      have haL := s7 _ _ ha3
      have hbL := s7 _ _ upd_same
      have ml := List.mem_of_getElem? hkv
      obtain ⟨⟨k2, u⟩, mk, e2⟩ : ∃ x ∈ kvs, x.1 = k' := by
        have : k' ∈ kvs.map (·.1) := by rw [ek]; exact List.mem_map.mpr ⟨_, ml, rfl⟩
        exact List.mem_map.mp this
      obtain rfl : k2 = k' := e2
      walk_at "go"
      refine .inr (.inr (.inr ⟨a, u, rfl, .inl ⟨kvs, k2, .inl haL, rfl, (valV_of nd mk).symm⟩, ?_⟩))
      walk_at "go"
      refine .inr (.inr (.inr ⟨b, v, rfl, .inl ⟨lvs, k2, .inr ⟨od, hbL⟩, rfl, (valV_of ndl ml).symm⟩, ?_⟩))
      have mono : ∀ z o, H z = some o → z ≠ b → H8 z = some o := fun z o h n => s7 _ _ (by rw [upd_ne n]; exact s03 _ _ h)
      walk_at "go"
      refine ⟨al_mono (fun z xs h => mono _ _ h (ne_of h hb (by intro q; cases q))) (fun z xs h => mono _ _ h (ne_of h hb (by intro q; cases q))) (hk _ _ _ mk ml), fun H9 s9 => hY _ s9⟩
    · intro H7 s7 hD7
      have hbL := s7 _ _ upd_same
      refine ⟨hbL, ?_⟩
      walk_at "go"
      refine ⟨D, (List.range lvs.length).map fun _ => true, rfl, SqL.of (by rw [upd_ne bD.symm, hD7, List.map_map]; rfl), ?_⟩
      rw [all_bl]
      exact q _ (s03.trans (same_unlock (s03 _ _ hb) s7))
end

end Y

namespace Y
open PySem PySem.Spec PyProof.Rows L2
theorem sc_room_from : FnScope ["behind", "first", "room", "step"] ["behind", "first"] (defScope s_room_from) := ⟨rfl, rfl, rfl, by decide +kernel, rfl, by decide +kernel, by decide +kernel⟩
local macro_rules | `(tactic| walk_at "hp") => `(tactic| first
  | assumption
  | exact upd_same
  | (refine (upd_ne (by first | assumption | exact Ne.symm (by assumption))).trans ?_; walk_at "hp"))
local macro_rules | `(tactic| walk_at "sz") => `(tactic| first
  | (rw [nat63]; omega)
  | (rw [nat63]; exact Nat.le_of_ble_eq_true rfl)
  | (simp only [nat63, List.length_append, List.length_cons, List.length_nil, List.length_map, List.length_set]; omega))
local macro_rules | `(tactic| walk_at "sd") => `(tactic| (try dsimp only [CDiv, CMul, CPow]); first
  | (with_reducible assumption)
  | omega
  | decide
  | walk_at "sz"
  | exact ⟨by omega, by omega⟩
  | exact ⟨by omega, by omega, by omega⟩
  | exact Or.inr ⟨by omega, by omega⟩
  | exact Or.inl ⟨by omega, by omega⟩)
local macro_rules | `(tactic| walk_at "go") => `(tactic| repeat (first
  | refine ⟨_, rfl, ?_⟩
  | refine ⟨_, _, rfl, rfl, ?_⟩
  | refine Or.inl ⟨_, rfl, ?_⟩
  | refine Or.inl ⟨_, _, rfl, rfl, ?_⟩
  | refine Or.inl ⟨_, _, _, _, rfl, rfl, SqL.of (by walk_at "hp"), rfl, ?_⟩
  | refine Or.inl ⟨rfl, ?_⟩
  | refine Or.inl ⟨_, _, _, _, rfl, rfl, (by walk_at "hp"), rfl, ?_⟩
  | refine Or.inr (Or.inl ⟨_, _, _, _, rfl, rfl, SqT.of (by walk_at "hp"), rfl, ?_⟩)
  | refine Or.inl ⟨_, _, rfl, Or.inl ⟨_, SqL.of (by walk_at "hp"), rfl⟩, ?_⟩
  | (with_reducible refine iteF ?_)
  | (with_reducible refine iteT ?_)
  | refine And.intro (by walk_at "sd") ?_
  | refine ⟨Or.inl ⟨rfl, _, SqL.of (by walk_at "hp")⟩, ?_⟩
  | refine ⟨_, _, _, rfl, rfl, (by walk_at "hp"), (by walk_at "sz"), ?_⟩
  | refine ⟨_, _, rfl, SqT.of (by walk_at "hp"), rfl, ?_⟩
  | refine ⟨_, _, rfl, ?_⟩
  | refine ⟨_, _, _, rfl, ?_⟩
  | refine ⟨⟨_, rfl⟩, ?_⟩
  | refine ⟨rfl, ?_⟩))
local macro_rules | `(tactic| walk_at "nb") => `(tactic| first
  | exact (nb_vs1 _).bag
  | exact (nb_strs _).bag
  | exact (nb_vsS _).bag
  | exact (nb_refs _).bag
  | assumption
  | rfl)
local macro_rules | `(tactic| walk_at "hp") => `(tactic| first
  | assumption
  | with_reducible exact upd_same
  | ((with_reducible apply upd_keep); assumption; walk_at "hp")
  | ((with_reducible apply Wb.keep); assumption; walk_at "hp"; walk_at "nb")
  | ((with_reducible apply Same.keep); assumption; walk_at "hp"))
local macro_rules | `(tactic| walk_at "wb") => `(tactic| first
  | assumption
  | exact Wb.refl (by assumption)
  | (apply Wb.trans2; assumption; walk_at "wb1")
  | (apply Wb.same2; assumption; walk_at "wb1"))
local macro_rules | `(tactic| walk_at "wb1") => `(tactic| walk_at "wb")
local macro_rules | `(tactic| walk_at "sd") => `(tactic| with_reducible exact Wb.bag (by assumption))

def sp_room_from : Sp := fun vs H Q _ => ∃ (b q0 : Addr) (W : Whl) (bk : List (List Key × V)) (s : Stp), vs = [.ref b, .ref q0] ∧ Rd H b (.dT bk) ∧ Beh H W bk (· ∈ stepsW W) ∧ H q0 = some (.tup ((skp s).map kV)) ∧ s ∈ stepsW W ∧ Good W ∧ OkS W ∧ (stepsW W).length ≤ 10000 ∧
  ∀ (p : Addr) (row : List Stp) (H' : Hp), H p = none → Same H H' → RowP H' p row → IsCyc (nextW W) s row → Q (.ref p) H'
theorem rd_same {H H' : Hp} {b : Addr} {o : HO} (s : Same H H') (h : Rd H b o) : Rd H' b o := h.imp (s _ _) fun ⟨x, e⟩ => ⟨x, s _ _ e⟩
theorem DGet.rt {H : Hp} {a b : Addr} {kvs : List (List Key × V)} {k : List Key} (e : Rd H a (.dT kvs)) (eb : H b = some (.tup (k.map kV))) : DGet H a (.ref b) (valV kvs k) := .inr ⟨kvs, k, b, e, rfl, eb, rfl⟩
section
variable {P : Program} {w : World} {K : PySem.W.Frag} {mg : Str → Option Value} {base : Heap}
theorem ok_room_from {f : Addr} {fd : FuncData} (F : Fun K "room_from" "room_from" s_room_from f fd) (B : Blt mg) : FnOk P w K mg base CX0 1 f fd ["behind", "first"] sp_room_from := by
  refine F.ok sc_room_from (fun vs H Q E h => ?_) (fun cdv A outer s H vs Q E hr h => ?_)
  · obtain ⟨b, q0, W, bk, s, rfl, _⟩ := h
    rfl
  · obtain ⟨b, q0, W, bk, st, rfl, hb, hB, hq0, hs, g, ok, z, q⟩ := h
    have hu := hu_of hr
    refine ⟨_, (pss_cons (ps_set (i := 2) sc_room_from.nd rfl (Or.inl rfl) (pe_lst (pa_cons (pv 1) pa_nil)))
      (pss_cons (ps_set (i := 3) sc_room_from.nd rfl (Or.inl rfl) (pe_ix (kix (K := K) hu) (pv 0) (pv 1) (fun _ _ => rfl)))
      (pss_cons (ps_while PassesOwn.never (pt_cmpR (kne (K := K) hr) (pv 3) (pv 1) (nomark _))
      (pss_cons (ps_expr (kbm (K := K) (pe_bm PySem.F.plainAttrs_list PySem.F.slot_list_append PySem.F.type_list_append mt_append (pv 2) (pa_cons (pv 3) pa_nil))))
      (pss_one (ps_set (i := 3) sc_room_from.nd rfl (Or.inl rfl) (pe_ix (kix (K := K) hu) (pv 0) (pv 3) (fun _ _ => rfl))))))
      (pss_one (ps_ret (pv 2)))))), ?_⟩
    walk_at "go"
    intro l nl
    generalize el : upd H l _ = H2 at *
    have hl2 := at_new el
    have s2 := same_new el nl
    clear el
    have lb : ∀ z o, H z = some o → z ≠ l := fun z o h => ne_of_none h nl
    obtain ⟨q1, hv1, hq1⟩ := hB st hs
    walk_at "go"
    refine .inr (.inr (.inr ⟨b, .ref q1, rfl, by rw [← hv1]; exact DGet.rt (rd_same s2 hb) (s2 _ _ hq0), ?_⟩))
    walk_at "go"
    refine ⟨fun mm σ H' => ∃ (n : Nat) (q : Addr) (qs : List Addr), mm + n = (stepsW W).length + 1 ∧ 0 < n ∧ σ = [some (.ref b), some (.ref q0), some (.ref l), some (.ref q)] ∧ Same H H' ∧ H' l = some (.lst (qs.map V.ref)) ∧ Tups H' qs ((rowN (nextW W) st n).map skp) ∧ H' q = some (.tup ((skp (it (nextW W) st n)).map kV)) ∧ Fresh (nextW W) st n, ?_, ?_⟩
    · have : 0 < (stepsW W).length := List.length_pos_of_mem hs
      exact ⟨(stepsW W).length, 1, q1, [q0], by omega, by omega, rfl, s2, hl2, .cons (s2 _ _ hq0) .nil, s2 _ _ hq1, Fresh.one⟩
    · rintro mm σ H3 ⟨n, qq, qs, hmm, n0, rfl, s3, hl3, hts, hqq, fr⟩
      have hS := g.one.mem hs n
      have le := fr.le g.one hs
      refine ⟨_, rfl, _, rfl, .inr ⟨tupD (skp (it (nextW W) st n)), tupD (skp st), Dp.tupK hqq, Dp.tupK (s3 _ _ hq0), tupD_shaped _ (ok _ hS), tupD_shaped _ (ok _ hs), ?_⟩⟩
      rw [tupD_eqv]
      refine ⟨_, rfl, ite_nd (fun c => ?_) (fun c => ?_)⟩
      · have cs : it (nextW W) st n ≠ st := fun e => c (by rw [e])
        obtain ⟨q2, hv2, hq2⟩ := hB _ hS
        have hqs : qs.length = n := by
          have := hts.length
          rw [List.length_map, rowN_len] at this
          exact this
        refine ⟨_, fun σ' H' h => ⟨mm - 1, by omega, h⟩, ?_⟩
        walk_at "go"
        generalize e4 : upd H3 l _ = H4
        have hl4 := at_new e4
        have F4 : ∀ a o, H3 a = some o → a ≠ l → H4 a = some o := fun a o h n => by rw [← e4, upd_ne n]; exact h
        have s4 : Same H H4 := fun a o h => F4 _ _ (s3 _ _ h) (lb _ _ h)
        clear e4
        have tupF : ∀ a xs, H3 a = some (.tup xs) → H4 a = some (.tup xs) := fun a xs h => F4 _ _ h (ne_of h hl3 (by intro q; cases q))
        have hqq4 := tupF _ _ hqq
        walk_at "go"
        refine .inr (.inr (.inr ⟨b, .ref q2, rfl, by rw [← hv2]; exact DGet.rt (rd_same s4 hb) hqq4, ?_⟩))
        refine ⟨n + 1, q2, qs ++ [qq], by omega, by omega, rfl, s4, ?_, ?_, s4 _ _ hq2, fr.succ cs⟩
        · rw [hl4, List.map_append]
          rfl
        · rw [rowN_succ, List.map_append]
          exact Tups.snoc hqq4 (hts.mono tupF)
      · have ce : it (nextW W) st n = st := skp_inj c
        walk_at "go"
        exact q l _ _ nl s3 ⟨qs, hl3, hts⟩ ⟨n, n0, rfl, ce, fr⟩
end

end Y

namespace Y
open PySem PySem.Spec PyProof.Rows L2
theorem sc_steps_behind : FnScope ["rings", "behind", "house", "ring", "at", "other"] ["rings"] (defScope s_steps_behind) := ⟨rfl, rfl, rfl, by decide +kernel, rfl, by decide +kernel, by decide +kernel⟩
local macro_rules | `(tactic| walk_at "hp") => `(tactic| first
  | assumption
  | exact upd_same
  | (refine (upd_ne (by first | assumption | exact Ne.symm (by assumption))).trans ?_; walk_at "hp"))
local macro_rules | `(tactic| walk_at "sz") => `(tactic| first
  | (rw [nat63]; omega)
  | (rw [nat63]; exact Nat.le_of_ble_eq_true rfl)
  | (simp only [nat63, List.length_append, List.length_cons, List.length_nil, List.length_map, List.length_set]; omega))
local macro_rules | `(tactic| walk_at "sd") => `(tactic| (try dsimp only [CDiv, CMul, CPow]); first
  | (with_reducible assumption)
  | omega
  | decide
  | walk_at "sz"
  | exact ⟨by omega, by omega⟩
  | exact ⟨by omega, by omega, by omega⟩
  | exact Or.inr ⟨by omega, by omega⟩
  | exact Or.inl ⟨by omega, by omega⟩)
local macro_rules | `(tactic| walk_at "go") => `(tactic| repeat (first
  | refine ⟨_, rfl, ?_⟩
  | refine ⟨_, _, rfl, rfl, ?_⟩
  | refine Or.inl ⟨_, rfl, ?_⟩
  | refine Or.inl ⟨_, _, rfl, rfl, ?_⟩
  | refine Or.inl ⟨_, _, _, _, rfl, rfl, SqL.of (by walk_at "hp"), rfl, ?_⟩
  | refine Or.inl ⟨rfl, ?_⟩
  | refine Or.inl ⟨_, _, _, _, rfl, rfl, (by walk_at "hp"), rfl, ?_⟩
  | refine Or.inr (Or.inl ⟨_, _, _, _, rfl, rfl, SqT.of (by walk_at "hp"), rfl, ?_⟩)
  | refine Or.inl ⟨_, _, rfl, Or.inl ⟨_, SqL.of (by walk_at "hp"), rfl⟩, ?_⟩
  | (with_reducible refine iteF ?_)
  | (with_reducible refine iteT ?_)
  | refine And.intro (by walk_at "sd") ?_
  | refine ⟨Or.inl ⟨rfl, _, SqL.of (by walk_at "hp")⟩, ?_⟩
  | refine ⟨_, _, _, rfl, rfl, (by walk_at "hp"), (by walk_at "sz"), ?_⟩
  | refine ⟨_, _, rfl, SqT.of (by walk_at "hp"), rfl, ?_⟩
  | refine ⟨_, _, rfl, ?_⟩
  | refine ⟨_, _, _, rfl, ?_⟩
  | refine ⟨⟨_, rfl⟩, ?_⟩
  | refine ⟨rfl, ?_⟩))
local macro_rules | `(tactic| walk_at "nb") => `(tactic| first
  | exact (nb_vs1 _).bag
  | exact (nb_strs _).bag
  | exact (nb_vsS _).bag
  | exact (nb_refs _).bag
  | assumption
  | rfl)
local macro_rules | `(tactic| walk_at "hp") => `(tactic| first
  | assumption
  | with_reducible exact upd_same
  | ((with_reducible apply upd_keep); assumption; walk_at "hp")
  | ((with_reducible apply Wb.keep); assumption; walk_at "hp"; walk_at "nb")
  | ((with_reducible apply Same.keep); assumption; walk_at "hp"))
local macro_rules | `(tactic| walk_at "wb") => `(tactic| first
  | assumption
  | exact Wb.refl (by assumption)
  | (apply Wb.trans2; assumption; walk_at "wb1")
  | (apply Wb.same2; assumption; walk_at "wb1"))
local macro_rules | `(tactic| walk_at "wb1") => `(tactic| walk_at "wb")
local macro_rules | `(tactic| walk_at "sd") => `(tactic| with_reducible exact Wb.bag (by assumption))

def sp_steps_behind : Sp := fun vs H Q _ => ∃ (d : Addr) (W : Whl), vs = [.ref d] ∧ WqAt H d W ∧ Ringed W ∧
  ∀ (p : Addr) (bk : List (List Key × V)) (H' : Hp), H p = none → Same H H' → H' p = some (.dT bk) → bk.map (·.1) = (stepsW W).map skp → Beh H' W bk (· ∈ stepsW W) → Q (.ref p) H'
section
variable {P : Program} {w : World} {K : PySem.W.Frag} {mg : Str → Option Value} {base : Heap}
theorem ok_steps_behind {f : Addr} {fd : FuncData} (F : Fun K "steps_behind" "steps_behind" s_steps_behind f fd) (B : Blt mg) : FnOk P w K mg base CX0 1 f fd ["rings"] sp_steps_behind := by
  refine F.ok sc_steps_behind (fun vs H Q E h => ?_) (fun cdv A outer s H vs Q E hr h => ?_)
  · obtain ⟨d, W, rfl, _⟩ := h
    rfl
  · obtain ⟨d, W, rfl, ⟨kvs, hd, hk⟩, r, q⟩ := h
    have hu := hu_of hr
    refine ⟨_, (pss_cons (ps_lock (ps_setDc2 (n := 1) (own := [("house", 2), ("ring", 3), ("other", 5)]) (vb := [5]) rfl sc_steps_behind.nd rfl rfl (dc2_swaps rfl rfl rfl (by decide +kernel)) (Nat.lt_of_succ_lt hu) (pi_items (pv 0)) (blkOk_by (own := [("house", 2), ("ring", 3), ("other", 5)]) (N := ["rings", "behind", "house", "ring", "at", "other"]) (sc := defScope s_steps_behind) (by decide +kernel)) (by decide) (fun _ _ _ _ _ => (kpg_tup (K := K) (n := 2) (pg_tup rfl (pgs_cons (pg_name (i := 2) sc_steps_behind.nd rfl (Or.inl rfl)) (pgs_cons (pg_name (i := 3) sc_steps_behind.nd rfl (Or.inl rfl)) pgs_nil))))) (fun _ _ _ _ _ => (kpi_any (K := K) (pv 3))) (fun _ _ _ _ _ => (pg_name (i := 5) sc_steps_behind.nd rfl (Or.inl rfl))) (fun _ _ _ _ _ => (pe_tup (pa_cons (pv 2) (pa_cons (pv 5) pa_nil)))) (fun _ _ _ _ _ => pe_non)))
      (pss_cons (ps_lock (ps_for PassesOwn.never rfl (pi_items (pv 0)) (kpg_tup (K := K) (n := 2) (pg_tup rfl (pgs_cons (pg_name (i := 2) sc_steps_behind.nd rfl (Or.inl rfl)) (pgs_cons (pg_name (i := 3) sc_steps_behind.nd rfl (Or.inl rfl)) pgs_nil))))
      (pss_one (ps_for PassesOwn.never rfl (pi_enumA (K := K) (by rfl) B.enumerate (pa_cons (pv 3) pa_nil)) (kpg_tup (K := K) (n := 2) (pg_tup rfl (pgs_cons (pg_name (i := 4) sc_steps_behind.nd rfl (Or.inl rfl)) (pgs_cons (pg_name (i := 5) sc_steps_behind.nd rfl (Or.inl rfl)) pgs_nil))))
      (pss_one (ps_asg (pe_tup (pa_cons (pv 2) (pa_cons (pe_ix (kix (K := K) hu) (pv 3) (pe_op op_mod (pe_op (kadd (K := K)) (pv 4) pe_int) (pe_callB (klen (K := K)) (by rfl) B.len (by decide +kernel) (pa_cons (pv 3) pa_nil))) (fun _ _ => rfl)) pa_nil))) (pg_sub (pv 1) (pe_tup (pa_cons (pv 5) (pa_cons (pv 2) pa_nil))) (set_any hu))))))))
      (pss_one (ps_ret (pv 1))))), ?_⟩
    have g := r.g
    have nk : (kvs.map (·.1)).Nodup := by rw [rgq_keys hk]; exact g.nd
    have hl : kvs.length = W.length := Paired.length hk
    have zl := r.len
    refine ⟨d, .dK kvs, hd, trivial, fun od => ?_⟩
    refine ⟨_, rfl, d, od, kvs, rfl, upd_same, fun D nD => ?_⟩
    have dD : D ≠ d := fun e => by rw [e, upd_same] at nD; cases nD
    have nDH : H D = none := by rw [upd_ne dD] at nD; exact nD
    have ringAt : ∀ (i : Nat) (u : Key) (v : V), kvs[i]? = some (u, v) → ∃ (ri : List Key) (a : Addr), W[i]? = some (u, ri) ∧ v = .ref a ∧ a ≠ d ∧ ∃ ob, (ob = .lst (ri.map kV) ∨ ob = .tup (ri.map kV)) ∧ ∀ o H', Same (upd H d o) H' → H' a = some ob := by
      intro i u v hkv
      obtain ⟨⟨u', ri⟩, hWi, e1, a, e2, ha⟩ := paired_at hk hkv
      obtain rfl : u = u' := e1
      have ad : a ≠ d := by
        rcases ha with h | h
        · exact ne_of h hd (by intro q; cases q)
        · exact ne_of h hd (by intro q; cases q)
      rcases ha with ha | ha
      · exact ⟨ri, a, hWi, e2, ad, _, .inl rfl, fun o H' s => s _ _ (by rw [upd_ne ad]; exact ha)⟩
      · exact ⟨ri, a, hWi, e2, ad, _, .inr rfl, fun o H' s => s _ _ (by rw [upd_ne ad]; exact ha)⟩
    refine dc_out walk_items (fun i H' => Same (upd H d (.frz od (.dK kvs))) H' ∧ H' D = some (.dT (bkN (stepsW (W.take i))))) ⟨same_upd nD, upd_same⟩ (fun i H' _ h => h.1 _ _ upd_same) ?_ ?_
    · rintro i x H4 H5 hi ⟨sL, hD4⟩ ⟨T, kx, vx, rfl, nT, rfl, hkx, hvx⟩
      obtain ⟨⟨k, v⟩, hkv, rfl⟩ := Option.map_eq_some_iff.mp hkx
      obtain ⟨⟨k', v'⟩, hkv', rfl⟩ := Option.map_eq_some_iff.mp hvx
      rw [hkv] at hkv'
      cases hkv'
      obtain ⟨ri, a, hWi, rfl, ad, ob, hob, seqA⟩ := ringAt i k v hkv
      generalize eT : upd H4 T _ = H5 at *
      have hT5 := at_new eT
      have s5 := same_new eT nT
      clear eT
      have sL5 := sL.trans s5
      have hD5 := s5 _ _ hD4
      have rl := ring_le hWi
      have rm : (ri.map kV).length = ri.length := List.length_map _
      have inner : ∀ (J1 : It) (G1 : Hp → Prop), Walk J1 (ri.map kV).length G1 (YAt (ri.map kV)) → (∀ H', Same (upd H d (.frz od (.dK kvs))) H' → G1 H') → dcIn J1 (gName 5) (tTup (tCons (tVar 2) (tCons (tVar 5) tNil))) (tC V.non) [5] [some (.ref d), none, some (kV k), some (.ref a), none, none] D (fun H' => Same (upd H d (.frz od (.dK kvs))) H' ∧ H' D = some (.dT (bkN (stepsW (W.take (i + 1)))))) H5 := by
        intro J1 G1 w1 hG1
        refine dc_in w1 (fun j H' => Same (upd H d (.frz od (.dK kvs))) H' ∧ H' D = some (.dT (bkN (stepsW (W.take i) ++ stepsU k (ri.take j))))) ⟨sL5, by rw [show stepsU k (ri.take 0) = [] from rfl, List.append_nil]; exact hD5⟩ (fun j H' _ h => hG1 H' h.1) ?_ ?_
        · rintro j x H6 H7 hj ⟨sL6, hD6⟩ ⟨rfl, hx⟩
          rw [List.getElem?_map] at hx
          obtain ⟨y, hy, rfl⟩ := Option.map_eq_some_iff.mp hx
          have hno := done_no g hWi hy
          have hjr : j < ri.length := (List.getElem?_eq_some_iff.mp hy).1
          refine ⟨rfl, ?_⟩
          walk_at "go"
          intro q nq
          generalize e8 : upd H7 q _ = H8 at *
          have hq8 := at_new e8
          have s8 := same_new e8 nq
          clear e8
          have hD8 := s8 _ _ hD6
          refine ⟨_, skp (k, y), q, rfl, hq8, hD8, by rw [bkN_len, List.length_append, stepsU_len, List.length_take, nat63]; omega, ?_⟩
          rw [bkN_put hno, List.append_assoc, ← stepsU_take hy]
          exact ⟨same_mut (sL6.trans s8) nD, upd_same⟩
        · rintro H6 ⟨sL6, hD6⟩
          rw [rm, List.take_length, ← stepsW_take hWi] at hD6
          exact ⟨sL6, hD6⟩
      refine ⟨_, _, rfl, SqT.of hT5, rfl, ?_⟩
      refine ⟨_, _, rfl, ?_⟩
      refine ⟨_, _, rfl, ?_⟩
      refine ⟨rfl, ?_⟩
      refine ⟨rfl, ?_⟩
      have hseq := seqA _ _ sL5
      rcases hob with rfl | rfl
      · exact .inl ⟨_, rfl, a, rfl, ⟨_, SqL.of hseq⟩, inner _ _ (walk_list (K := K)) fun H' s' => SqL.of (seqA _ _ s')⟩
      · exact .inr ⟨_, rfl, a, rfl, ⟨_, SqT.of hseq⟩, inner _ _ (walk_tup (K := K)) fun H' s' => SqT.of (seqA _ _ s')⟩
    · rintro H4 ⟨sL, hD4⟩
      rw [hl, List.take_length] at hD4
      refine ⟨sL _ _ upd_same, ?_⟩
      have sU := same_unlock hd sL
      have hDU : upd H4 d (.dK kvs) D = some (.dT (bkN (stepsW W))) := by rw [upd_ne dD]; exact hD4
      generalize upd H4 d (.dK kvs) = H5 at *
      have hd5 := sU _ _ hd
      refine ⟨d, .dK kvs, hd5, trivial, fun od2 => ?_⟩
      refine ⟨_, rfl, d, od2, kvs, rfl, upd_same, ?_⟩
      refine for_it walk_items (fun i σ H' => ∃ (v2 v3 v4 v5 : Option V) (bk : List (List Key × V)), σ = [some (.ref d), some (.ref D), v2, v3, v4, v5] ∧ Same (upd H d (.frz od2 (.dK kvs))) H' ∧ H' D = some (.dT bk) ∧ bk.map (·.1) = (stepsW W).map skp ∧ Beh H' W bk (fun s => ∃ ri, (s.2, ri) ∈ W.take i ∧ s.1 ∈ ri)) ?_ ?_ ?_ ?_
      · exact ⟨_, _, _, _, _, rfl, same_lock sU, by rw [upd_ne dD]; exact hDU, bkN_keys _, fun s ⟨ri, h, _⟩ => by cases h⟩
      · rintro i σ H' _ ⟨_, _, _, _, _, rfl, sL, _⟩
        exact sL _ _ upd_same
      · rintro i x σ H6 H7 hi ⟨v2, v3, v4, v5, bk, rfl, sL6, hD6, hkeys, hB⟩ ⟨T, kx, vx, rfl, nT, rfl, hkx, hvx⟩
        obtain ⟨⟨k, v⟩, hkv, rfl⟩ := Option.map_eq_some_iff.mp hkx
        obtain ⟨⟨k', v'⟩, hkv', rfl⟩ := Option.map_eq_some_iff.mp hvx
        rw [hkv] at hkv'
        cases hkv'
        obtain ⟨ri, a, hWi, rfl, ad, ob, hob, seqA⟩ := ringAt i k v hkv
        generalize eT : upd H6 T _ = H7 at *
        have hT7 := at_new eT
        have s7 := same_new eT nT
        clear eT
        have sL7 := sL6.trans s7
        have hD7 := s7 _ _ hD6
        have rm : (ri.map kV).length = ri.length := List.length_map _
        have aD : a ≠ D := fun e => by
          have h1 := seqA _ _ sL7
          rw [e, hD7] at h1
          rcases hob with rfl | rfl <;> cases h1
        have hseq := seqA _ _ sL7
        have hseq' : H7 a = some (.lst (ri.map kV)) ∨ H7 a = some (.tup (ri.map kV)) := hob.imp (fun e => by rw [← e]; exact hseq) (fun e => by rw [← e]; exact hseq)
        refine ⟨_, _, rfl, SqT.of hT7, rfl, ?_⟩
        refine ⟨_, _, rfl, ?_⟩
        refine ⟨_, _, rfl, ?_⟩
        refine ⟨rfl, ?_⟩
        show tFor (iEnumA K (tCons (tVar 3) tNil)) _ _ _ [some (V.ref d), some (V.ref D), some (kV k), some (V.ref a), v4, v5] H7
        refine for_enumA (K := K) (a := a) (xs := ri.map kV) hseq' (fun R hR => ⟨_, rfl, hR⟩) (fun j σ H' => ∃ (v4 v5 : Option V) (bk : List (List Key × V)), σ = [some (.ref d), some (.ref D), some (kV k), some (.ref a), v4, v5] ∧ Same (upd H d (.frz od2 (.dK kvs))) H' ∧ H' D = some (.dT bk) ∧ bk.map (·.1) = (stepsW W).map skp ∧ Beh H' W bk (fun s => (∃ ri, (s.2, ri) ∈ W.take i ∧ s.1 ∈ ri) ∨ (s.2 = k ∧ s.1 ∈ ri.take j))) ?_ ?_ ?_ ?_
        · exact ⟨_, _, bk, rfl, sL7, hD7, hkeys, hB.mono (fun z xs e => s7 _ _ e) fun s h => h.resolve_right fun ⟨_, m⟩ => by cases m⟩
        · rintro j σ H' _ ⟨_, _, _, rfl, sL8, _⟩ o ho
          rw [hseq] at ho
          cases ho
          exact seqA _ _ sL8
        · rintro j x T8 σ H8 hx ⟨w4, w5, bk, rfl, sL8, hD8, hkeys, hB⟩ nT8
          rw [List.getElem?_map] at hx
          obtain ⟨y, hy, rfl⟩ := Option.map_eq_some_iff.mp hx
          generalize e9 : upd H8 T8 _ = H9 at *
          have hT9 := at_new e9
          have s9 := same_new e9 nT8
          clear e9
          have sL9 := sL8.trans s9
          have hD9 := s9 _ _ hD8
          have hjr : j < ri.length := (List.getElem?_eq_some_iff.mp hy).1
          obtain ⟨y2, hy2⟩ := suc_ex hy
          have nx := next_at g (List.mem_of_getElem? hWi) hy hy2
          have ha9 := seqA _ _ sL9
          have len9 : LenV K (.ref a) H9 (ri.map kV).length := by
            rcases hob with rfl | rfl
            · exact .inl ⟨_, SqL.of ha9, rfl⟩
            · exact .inr ⟨_, SqT.of ha9, rfl⟩
          have em : (((j : Nat) : Int) + 1) % ((ri.map kV).length : Int) = (((j + 1) % ri.length : Nat) : Int) := by
            rw [rm, Int.natCast_emod, Int.natCast_add]
            rfl
          have at9 : atI (ri.map kV) (((j + 1) % ri.length : Nat) : Int) = some (kV y2) := atI_nat (by rw [List.getElem?_map, hy2]; rfl)
          have ix9 : ∀ (Q : VK), Q (kV y2) H9 → rIxA K (.ref a) (.int (((j + 1) % ri.length : Nat) : Int)) H9 Q := fun Q hQ => by
            rcases hob with rfl | rfl
            · exact .inl ⟨a, _, _, _, rfl, rfl, SqL.of ha9, at9, hQ⟩
            · exact .inr (.inl ⟨a, _, _, _, rfl, rfl, SqT.of ha9, at9, hQ⟩)
          walk_at "go"
          refine .inl ⟨_, _, rfl, len9, ?_⟩
          refine ⟨_, _, rfl, rfl, by rw [rm]; omega, ?_⟩
          show rIxA K (V.ref a) (V.int ((((j : Nat) : Int) + 1) % ((ri.map kV).length : Int))) H9 _
          rw [em]
          refine ix9 _ ?_
          walk_at "go"
          intro q2 nq2
          generalize e10 : upd H9 q2 _ = H10 at *
          have hq2 := at_new e10
          have s10 := same_new e10 nq2
          clear e10
          walk_at "go"
          intro q1 nq1
          generalize e11 : upd H10 q1 _ = H11 at *
          have hq1 := at_new e11
          have s11 := same_new e11 nq1
          clear e11
          have hD11 := s11 _ _ (s10 _ _ hD9)
          have hq211 := s11 _ _ hq2
          have sL11 := (sL9.trans s10).trans s11
          have lbk : bk.length = (stepsW W).length := by
            have := congrArg List.length hkeys
            rw [List.length_map, List.length_map] at this
            exact this
          have hst : (y, k) ∈ stepsW W := g.sym _ _ (mem_steps.mpr ⟨ri, List.mem_of_getElem? hWi, List.mem_of_getElem? hy⟩)
          have hmem : skp (y, k) ∈ bk.map (·.1) := by
            rw [hkeys]
            exact List.mem_map_of_mem hst
          walk_at "go"
          refine .inr ⟨D, _, rfl, DPut.t (k := skp (y, k)) hD11 hq1 (by rw [nat63]; omega), ?_⟩
          have nDL : upd H d (.frz od2 (.dK kvs)) D = none := by rw [upd_ne dD]; exact nDH
          refine ⟨_, _, _, rfl, same_mut sL11 nDL, upd_same, by rw [putK_keys hmem]; exact hkeys, ?_⟩
          have b11 : Beh H11 W bk _ := hB.mono (fun z xs e => s11 _ _ (s10 _ _ (s9 _ _ e))) fun s h => h
          refine (b11.put (s := (y, k)) (q := q2) (by rw [nx]; exact hq211) (D' := _) fun s hs => ?_).mono (fun z xs e => ?_) (fun s h => h)
          · rcases hs with hs | ⟨e, hm⟩
            · exact .inr (.inl hs)
            · rw [take_snoc hy] at hm
              rcases List.mem_append.mp hm with hm | hm
              · exact .inr (.inr ⟨e, hm⟩)
              · exact .inl (Prod.ext (List.mem_singleton.mp hm) e)
          · rw [upd_ne (ne_of e hD11 (by intro q; cases q))]
            exact e
        · rintro σ H8 ⟨w4, w5, bk, rfl, sL8, hD8, hkeys, hB⟩
          refine ⟨_, _, _, _, bk, rfl, sL8, hD8, hkeys, hB.mono (fun _ _ e => e) fun s ⟨r', h, hm⟩ => ?_⟩
          rw [take_snoc hWi] at h
          rcases List.mem_append.mp h with h | h
          · exact .inl ⟨r', h, hm⟩
          · have e := List.mem_singleton.mp h
            injection e with e1 e2
            refine .inr ⟨e1, ?_⟩
            rw [List.length_map, List.take_length, ← e2]
            exact hm
      · rintro σ H6 ⟨v2, v3, v4, v5, bk, rfl, sL6, hD6, hkeys, hB⟩
        rw [hl, List.take_length] at hB
        have hdL := sL6 _ _ upd_same
        refine ⟨hdL, ?_⟩
        walk_at "go"
        refine q D bk _ nDH (same_unlock hd sL6) (by rw [upd_ne dD]; exact hD6) hkeys (hB.mono (fun z xs e => ?_) fun s hs => ?_)
        · rw [upd_ne (ne_of e hdL (by intro q; cases q))]
          exact e
        · obtain ⟨ri, j, hr, hj⟩ := ring_of g (u := s.1) (v := s.2) hs
          exact ⟨ri, hr, List.mem_of_getElem? hj⟩
end

end Y

namespace Y
open PySem PySem.Spec PyProof.Rows L2
theorem sc_touched : FnScope ["room", "found", "house", "_"] ["room"] (defScope s_touched) := ⟨rfl, rfl, rfl, by decide +kernel, rfl, by decide +kernel, by decide +kernel⟩
local macro_rules | `(tactic| walk_at "hp") => `(tactic| first
  | assumption
  | exact upd_same
  | (refine (upd_ne (by first | assumption | exact Ne.symm (by assumption))).trans ?_; walk_at "hp"))
local macro_rules | `(tactic| walk_at "sz") => `(tactic| first
  | (rw [nat63]; omega)
  | (rw [nat63]; exact Nat.le_of_ble_eq_true rfl)
  | (simp only [nat63, List.length_append, List.length_cons, List.length_nil, List.length_map, List.length_set]; omega))
local macro_rules | `(tactic| walk_at "sd") => `(tactic| (try dsimp only [CDiv, CMul, CPow]); first
  | (with_reducible assumption)
  | omega
  | decide
  | walk_at "sz"
  | exact ⟨by omega, by omega⟩
  | exact ⟨by omega, by omega, by omega⟩
  | exact Or.inr ⟨by omega, by omega⟩
  | exact Or.inl ⟨by omega, by omega⟩)
local macro_rules | `(tactic| walk_at "go") => `(tactic| repeat (first
  | refine ⟨_, rfl, ?_⟩
  | refine ⟨_, _, rfl, rfl, ?_⟩
  | refine Or.inl ⟨_, rfl, ?_⟩
  | refine Or.inl ⟨_, _, rfl, rfl, ?_⟩
  | refine Or.inl ⟨_, _, _, _, rfl, rfl, SqL.of (by walk_at "hp"), rfl, ?_⟩
  | refine Or.inl ⟨rfl, ?_⟩
  | refine Or.inl ⟨_, _, _, _, rfl, rfl, (by walk_at "hp"), rfl, ?_⟩
  | refine Or.inr (Or.inl ⟨_, _, _, _, rfl, rfl, SqT.of (by walk_at "hp"), rfl, ?_⟩)
  | refine Or.inl ⟨_, _, rfl, Or.inl ⟨_, SqL.of (by walk_at "hp"), rfl⟩, ?_⟩
  | (with_reducible refine iteF ?_)
  | (with_reducible refine iteT ?_)
  | refine And.intro (by walk_at "sd") ?_
  | refine ⟨Or.inl ⟨rfl, _, SqL.of (by walk_at "hp")⟩, ?_⟩
  | refine ⟨_, _, _, rfl, rfl, (by walk_at "hp"), (by walk_at "sz"), ?_⟩
  | refine ⟨_, _, rfl, SqT.of (by walk_at "hp"), rfl, ?_⟩
  | refine ⟨_, _, rfl, ?_⟩
  | refine ⟨_, _, _, rfl, ?_⟩
  | refine ⟨⟨_, rfl⟩, ?_⟩
  | refine ⟨rfl, ?_⟩))
local macro_rules | `(tactic| walk_at "nb") => `(tactic| first
  | exact (nb_vs1 _).bag
  | exact (nb_strs _).bag
  | exact (nb_vsS _).bag
  | exact (nb_refs _).bag
  | assumption
  | rfl)
local macro_rules | `(tactic| walk_at "hp") => `(tactic| first
  | assumption
  | with_reducible exact upd_same
  | ((with_reducible apply upd_keep); assumption; walk_at "hp")
  | ((with_reducible apply Wb.keep); assumption; walk_at "hp"; walk_at "nb")
  | ((with_reducible apply Same.keep); assumption; walk_at "hp"))
local macro_rules | `(tactic| walk_at "wb") => `(tactic| first
  | assumption
  | exact Wb.refl (by assumption)
  | (apply Wb.trans2; assumption; walk_at "wb1")
  | (apply Wb.same2; assumption; walk_at "wb1"))
local macro_rules | `(tactic| walk_at "wb1") => `(tactic| walk_at "wb")
local macro_rules | `(tactic| walk_at "sd") => `(tactic| with_reducible exact Wb.bag (by assumption))

def sp_touched : Sp := fun vs H Q _ => ∃ (a : Addr) (ts : List Addr) (row : List Stp), vs = [.ref a] ∧ (H a = some (.lst (ts.map V.ref)) ∨ H a = some (.tup (ts.map V.ref))) ∧ Tups H ts (row.map skp) ∧ row.length ≤ 10000 ∧
  ∀ (p : Addr) (H' : Hp), H p = none → Same H H' → H' p = some (.lst ((touchK row).map kV)) → Q (.ref p) H'
section
variable {P : Program} {w : World} {K : PySem.W.Frag} {mg : Str → Option Value} {base : Heap}
theorem ok_touched {f : Addr} {fd : FuncData} (F : Fun K "touched" "touched" s_touched f fd) (B : Blt mg) : FnOk P w K mg base CX0 1 f fd ["room"] sp_touched := by
  refine F.ok sc_touched (fun vs H Q E h => ?_) (fun cdv A outer s H vs Q E hr h => ?_)
  · obtain ⟨d, W, row, rfl, _⟩ := h
    rfl
  · obtain ⟨a, ts, row, rfl, ha, hts, z1, q⟩ := h
    have hu := hu_of hr
    have hl := hts.length
    rw [List.length_map] at hl
    refine ⟨_, (pss_cons (ps_set (i := 1) sc_touched.nd rfl (Or.inl rfl) pe_dnewK)
      (pss_cons (ps_for PassesOwn.never rfl (kpi_any (K := K) (pv 0)) (kpg_tup (K := K) (n := 2) (pg_tup rfl (pgs_cons (pg_name (i := 2) sc_touched.nd rfl (Or.inl rfl)) (pgs_cons (pg_name (i := 3) sc_touched.nd rfl (Or.inl rfl)) pgs_nil))))
      (pss_one (ps_asg pe_bl (pg_sub (pv 1) (pv 2) (set_any hu)))))
      (pss_one (ps_ret (pe_callTy (klist (K := K)) (by rfl) B.list (by decide +kernel) (pa_cons (pv 1) pa_nil)))))), ?_⟩
    walk_at "go"
    intro t nt
    generalize et : upd H t _ = H2 at *
    have ht2 := at_new et
    have s2 := same_new et nt
    clear et
    have ta : a ≠ t := fun e => by rw [e, nt] at ha; rcases ha with h | h <;> cases h
    have ha2 : H2 a = some (.lst (ts.map V.ref)) ∨ H2 a = some (.tup (ts.map V.ref)) := ha.imp (fun h => s2 _ _ h) (fun h => s2 _ _ h)
    show tFor (iAny K (tVar 0)) _ _ _ [some (V.ref a), some (V.ref t), none, none] H2
    refine for_any (K := K) (a := a) (xs := ts.map V.ref) ha2 (fun R hR => ⟨_, rfl, hR⟩) (fun i σ H' => ∃ (v2 v3 : Option V), σ = [some (.ref a), some (.ref t), v2, v3] ∧ Same H H' ∧ (∀ o, H2 a = some o → H' a = some o) ∧ H' t = some (.dK (dkT (ddK ((row.map (·.1)).take i))))) ?_ ?_ ?_ ?_
    · exact ⟨_, _, rfl, s2, fun o h => h, ht2⟩
    · rintro i σ H' _ ⟨_, _, rfl, sL, h, _⟩
      exact h
    · rintro i x σ H4 hx ⟨v2, v3, rfl, sL, keep, ht4⟩
      rw [List.getElem?_map] at hx
      obtain ⟨b, hb, rfl⟩ := Option.map_eq_some_iff.mp hx
      obtain ⟨kk, hkk, eb⟩ := hts.get hb
      rw [List.getElem?_map] at hkk
      obtain ⟨s, hs, rfl⟩ := Option.map_eq_some_iff.mp hkk
      have eb4 : H4 b = some (.tup [kV s.1, kV s.2]) := sL _ _ eb
      have hrow : (row.map (·.1))[i]? = some s.1 := by rw [List.getElem?_map, hs]; rfl
      have hlen := ddK_len (row.map (·.1)) i
      have hi : i < row.length := (List.getElem?_eq_some_iff.mp hs).1
      have hst := ddK_take hrow
      generalize ddK ((row.map (·.1)).take i) = l at *
      walk_at "go"
      refine .inr ⟨t, _, rfl, DPut.k (k := s.1) ht4 (by rw [dkT_len, nat63]; omega), ?_⟩
      rw [dkT_put]
      refine ⟨_, _, rfl, same_mut sL nt, fun o h => ?_, by rw [upd_same, hst]⟩
      rw [upd_ne ta]
      exact keep o h
    · rintro σ H4 ⟨v2, v3, rfl, sL, keep, ht4⟩
      walk_at "go"
      refine .inr (.inl ⟨t, _, rfl, ht4, fun p np => ?_⟩)
      refine q p _ (sL.free np) (same_mut sL (sL.free np)) ?_
      rw [upd_same, List.length_map, hl, List.take_of_length_le (by rw [List.length_map]; exact Nat.le_refl _)]
      unfold dkT touchK
      rw [List.map_map]
      rfl
end

end Y

namespace Y
open PySem PySem.Spec PyProof.Rows L2
theorem sc__law_replica : FnScope ["wheel", "told", "u"] ["wheel"] (defScope s__law_replica) := ⟨rfl, rfl, rfl, by decide +kernel, rfl, by decide +kernel, by decide +kernel⟩
local macro_rules | `(tactic| walk_at "hp") => `(tactic| first
  | assumption
  | exact upd_same
  | (refine (upd_ne (by first | assumption | exact Ne.symm (by assumption))).trans ?_; walk_at "hp"))
local macro_rules | `(tactic| walk_at "sz") => `(tactic| first
  | (rw [nat63]; omega)
  | (rw [nat63]; exact Nat.le_of_ble_eq_true rfl)
  | (simp only [nat63, List.length_append, List.length_cons, List.length_nil, List.length_map, List.length_set]; omega))
local macro_rules | `(tactic| walk_at "sd") => `(tactic| (try dsimp only [CDiv, CMul, CPow]); first
  | (with_reducible assumption)
  | omega
  | decide
  | walk_at "sz"
  | exact ⟨by omega, by omega⟩
  | exact ⟨by omega, by omega, by omega⟩
  | exact Or.inr ⟨by omega, by omega⟩
  | exact Or.inl ⟨by omega, by omega⟩)
local macro_rules | `(tactic| walk_at "go") => `(tactic| repeat (first
  | refine ⟨_, rfl, ?_⟩
  | refine ⟨_, _, rfl, rfl, ?_⟩
  | refine Or.inl ⟨_, rfl, ?_⟩
  | refine Or.inl ⟨_, _, rfl, rfl, ?_⟩
  | refine Or.inl ⟨_, _, _, _, rfl, rfl, SqL.of (by walk_at "hp"), rfl, ?_⟩
  | refine Or.inl ⟨rfl, ?_⟩
  | refine Or.inl ⟨_, _, _, _, rfl, rfl, (by walk_at "hp"), rfl, ?_⟩
  | refine Or.inr (Or.inl ⟨_, _, _, _, rfl, rfl, SqT.of (by walk_at "hp"), rfl, ?_⟩)
  | refine Or.inl ⟨_, _, rfl, Or.inl ⟨_, SqL.of (by walk_at "hp"), rfl⟩, ?_⟩
  | (with_reducible refine iteF ?_)
  | (with_reducible refine iteT ?_)
  | refine And.intro (by walk_at "sd") ?_
  | refine ⟨Or.inl ⟨rfl, _, SqL.of (by walk_at "hp")⟩, ?_⟩
  | refine ⟨_, _, _, rfl, rfl, (by walk_at "hp"), (by walk_at "sz"), ?_⟩
  | refine ⟨_, _, rfl, SqT.of (by walk_at "hp"), rfl, ?_⟩
  | refine ⟨_, _, rfl, ?_⟩
  | refine ⟨_, _, _, rfl, ?_⟩
  | refine ⟨⟨_, rfl⟩, ?_⟩
  | refine ⟨rfl, ?_⟩))
local macro_rules | `(tactic| walk_at "nb") => `(tactic| first
  | exact (nb_vs1 _).bag
  | exact (nb_strs _).bag
  | exact (nb_vsS _).bag
  | exact (nb_refs _).bag
  | assumption
  | rfl)
local macro_rules | `(tactic| walk_at "hp") => `(tactic| first
  | assumption
  | with_reducible exact upd_same
  | ((with_reducible apply upd_keep); assumption; walk_at "hp")
  | ((with_reducible apply Wb.keep); assumption; walk_at "hp"; walk_at "nb")
  | ((with_reducible apply Same.keep); assumption; walk_at "hp"))
local macro_rules | `(tactic| walk_at "wb") => `(tactic| first
  | assumption
  | exact Wb.refl (by assumption)
  | (apply Wb.trans2; assumption; walk_at "wb1")
  | (apply Wb.same2; assumption; walk_at "wb1"))
local macro_rules | `(tactic| walk_at "wb1") => `(tactic| walk_at "wb")
local macro_rules | `(tactic| walk_at "sd") => `(tactic| with_reducible exact Wb.bag (by assumption))

def sp_replica : Sp := fun vs H Q _ => ∃ (d : Addr) (W : Whl), vs = [.ref d] ∧ WhAt H d W ∧ (W.map (·.1)).Nodup ∧ W.length ≤ 1000 ∧
  ∀ (p : Addr) (H' : Hp), H p = none → Same H H' → WhAt H' p W → Q (.ref p) H'
section
variable {P : Program} {w : World} {K : PySem.W.Frag} {mg : Str → Option Value} {base : Heap}
theorem ok__law_replica {f : Addr} {fd : FuncData} (F : Fun K "_law_replica" "_law_replica" s__law_replica f fd) (B : Blt mg) : FnOk P w K mg base CX0 1 f fd ["wheel"] sp_replica := by
  refine F.ok sc__law_replica (fun vs H Q E h => ?_) (fun cdv A outer s H vs Q E hr h => ?_)
  · obtain ⟨d, W, rfl, _⟩ := h
    rfl
  · obtain ⟨d, W, rfl, ⟨kvs, hd, hk⟩, gn, z1, q⟩ := h
    have hu := hu_of hr
    refine ⟨_, (pss_cons (ps_set (i := 1) sc__law_replica.nd rfl (Or.inl rfl) pe_dnewK)
      (pss_cons (ps_lock (ps_for PassesOwn.never rfl (pi_keys (pv 0)) (pg_name (i := 2) sc__law_replica.nd rfl (Or.inl rfl))
      (pss_one (ps_asg (pe_callTy (klist (K := K)) (by rfl) B.list (by decide +kernel) (pa_cons (pe_ix (kix (K := K) hu) (pv 0) (pv 2) (fun _ _ => rfl)) pa_nil)) (pg_sub (pv 1) (pv 2) (set_any hu))))))
      (pss_one (ps_ret (pv 1))))), ?_⟩
    walk_at "go"
    have nk : (kvs.map (·.1)).Nodup := by rw [rgp_keys hk]; exact gn
    have hl : kvs.length = W.length := Paired.length hk
    intro t nt
    generalize et : upd H t _ = H2 at *
    have ht2 := at_new et
    have s2 := same_new et nt
    clear et
    have dt : d ≠ t := fun e => by rw [e, nt] at hd; cases hd
    walk_at "go"
    refine ⟨d, .dK kvs, s2 _ _ hd, trivial, fun od => ?_⟩
    refine ⟨_, rfl, d, od, rfl, .inl ⟨kvs, upd_same, ?_⟩⟩
    refine for_it walk_keys (fun i σ H' => ∃ (v2 : Option V) (ks : List (Key × V)), σ = [some (.ref d), some (.ref t), v2] ∧ Same (upd H d (.frz od (.dK kvs))) H' ∧ H' t = some (.dK ks) ∧ Paired (RgP H') ks (W.take i)) ?_ ?_ ?_ ?_
    · exact ⟨_, [], rfl, same_lock s2, by rw [upd_ne dt.symm]; exact ht2, .nil⟩
    · rintro i σ H' _ ⟨_, ks, rfl, sL, _⟩
      exact sL _ _ upd_same
    · rintro i x σ H4 H5 hi ⟨v2, ks, rfl, sL, ht5, hp⟩ ⟨rfl, k, v, hkv, rfl⟩
      obtain ⟨⟨u, r⟩, hWi, e1, a, rfl, ha⟩ := paired_at hk hkv
      obtain rfl : k = u := e1
      have ad : a ≠ d := ne_of ha hd (by intro q; cases q)
      have haL : upd H d (.frz od (.dK kvs)) a = some (.lst (r.map kV)) := by rw [upd_ne ad]; exact ha
      have gv : DGet H5 d (kV k) (some (.ref a)) := .inl ⟨kvs, k, .inr ⟨od, sL _ _ upd_same⟩, rfl, (valV_of nk (List.mem_of_getElem? hkv)).symm⟩
      have ha5 := sL _ _ haL
      have hkl := Paired.length hp
      rw [List.length_take] at hkl
      walk_at "go"
      refine .inr (.inr (.inr ⟨d, .ref a, rfl, gv, ?_⟩))
      walk_at "go"
      refine .inl ⟨a, _, rfl, .inl (SqL.of ha5), fun l nl => ?_⟩
      generalize el : upd H5 l _ = H6 at *
      have hl6 := at_new el
      have s6 := same_new el nl
      clear el
      have ht6 := s6 _ _ ht5
      walk_at "go"
      refine .inr ⟨t, _, rfl, DPut.k ht6 (by rw [nat63]; omega), ?_⟩
      have kn : k ∉ ks.map (·.1) := by
        rw [rgp_keys hp, List.map_take]
        exact nd_take gn (by rw [List.getElem?_map, hWi]; rfl)
      rw [putK_new _ (valV_no kn)]
      have ntL : upd H d (.frz od (.dK kvs)) t = none := by rw [upd_ne dt.symm]; exact nt
      have F : ∀ a xs, H6 a = some (.lst xs) → upd H6 t (.dK (ks ++ [(k, .ref l)])) a = some (.lst xs) := fun a xs h => by
        rw [upd_ne (ne_of h ht6 (by intro q; cases q))]
        exact h
      refine ⟨_, ks ++ [(k, .ref l)], rfl, same_mut (sL.trans s6) ntL, upd_same, ?_⟩
      rw [take_snoc hWi]
      exact paired_snoc ⟨rfl, l, rfl, F _ _ hl6⟩ (Paired.mapP hp fun a b ⟨e, z, e1, e2⟩ => ⟨e, z, e1, F _ _ (s6 _ _ e2)⟩)
    · rintro σ H4 ⟨v2, ks, rfl, sL, ht5, hp⟩
      rw [hl, List.take_length] at hp
      refine ⟨sL _ _ upd_same, ?_⟩
      walk_at "go"
      refine q t _ nt (same_unlock hd sL) ⟨ks, by rw [upd_ne dt.symm]; exact ht5, Paired.mapP hp fun a b ⟨e, z, e1, e2⟩ => ⟨e, z, e1, ?_⟩⟩
      rw [upd_ne (ne_of e2 (sL _ _ upd_same) (by intro q; cases q))]
      exact e2
end

end Y

namespace Y
open PySem PySem.Spec PyProof.Rows L2
theorem sc__law_rooms : FnScope ["wheel", "behind", "told", "met", "v", "k", "u", "step", "row"] ["wheel"] (defScope s__law_rooms) := ⟨rfl, rfl, rfl, by decide +kernel, rfl, by decide +kernel, by decide +kernel⟩
local macro_rules | `(tactic| walk_at "hp") => `(tactic| first
  | assumption
  | exact upd_same
  | (refine (upd_ne (by first | assumption | exact Ne.symm (by assumption))).trans ?_; walk_at "hp"))
local macro_rules | `(tactic| walk_at "sz") => `(tactic| first
  | (rw [nat63]; omega)
  | (rw [nat63]; exact Nat.le_of_ble_eq_true rfl)
  | (simp only [nat63, List.length_append, List.length_cons, List.length_nil, List.length_map, List.length_set]; omega))
local macro_rules | `(tactic| walk_at "sd") => `(tactic| (try dsimp only [CDiv, CMul, CPow]); first
  | (with_reducible assumption)
  | omega
  | decide
  | walk_at "sz"
  | exact ⟨by omega, by omega⟩
  | exact ⟨by omega, by omega, by omega⟩
  | exact Or.inr ⟨by omega, by omega⟩
  | exact Or.inl ⟨by omega, by omega⟩)
local macro_rules | `(tactic| walk_at "go") => `(tactic| repeat (first
  | refine ⟨_, rfl, ?_⟩
  | refine ⟨_, _, rfl, rfl, ?_⟩
  | refine Or.inl ⟨_, rfl, ?_⟩
  | refine Or.inl ⟨_, _, rfl, rfl, ?_⟩
  | refine Or.inl ⟨_, _, _, _, rfl, rfl, SqL.of (by walk_at "hp"), rfl, ?_⟩
  | refine Or.inl ⟨rfl, ?_⟩
  | refine Or.inl ⟨_, _, _, _, rfl, rfl, (by walk_at "hp"), rfl, ?_⟩
  | refine Or.inr (Or.inl ⟨_, _, _, _, rfl, rfl, SqT.of (by walk_at "hp"), rfl, ?_⟩)
  | refine Or.inl ⟨_, _, rfl, Or.inl ⟨_, SqL.of (by walk_at "hp"), rfl⟩, ?_⟩
  | (with_reducible refine iteF ?_)
  | (with_reducible refine iteT ?_)
  | refine And.intro (by walk_at "sd") ?_
  | refine ⟨Or.inl ⟨rfl, _, SqL.of (by walk_at "hp")⟩, ?_⟩
  | refine ⟨_, _, _, rfl, rfl, (by walk_at "hp"), (by walk_at "sz"), ?_⟩
  | refine ⟨_, _, rfl, SqT.of (by walk_at "hp"), rfl, ?_⟩
  | refine ⟨_, _, rfl, ?_⟩
  | refine ⟨_, _, _, rfl, ?_⟩
  | refine ⟨⟨_, rfl⟩, ?_⟩
  | refine ⟨rfl, ?_⟩))
local macro_rules | `(tactic| walk_at "nb") => `(tactic| first
  | exact (nb_vs1 _).bag
  | exact (nb_strs _).bag
  | exact (nb_vsS _).bag
  | exact (nb_refs _).bag
  | assumption
  | rfl)
local macro_rules | `(tactic| walk_at "hp") => `(tactic| first
  | assumption
  | with_reducible exact upd_same
  | ((with_reducible apply upd_keep); assumption; walk_at "hp")
  | ((with_reducible apply Wb.keep); assumption; walk_at "hp"; walk_at "nb")
  | ((with_reducible apply Same.keep); assumption; walk_at "hp"))
local macro_rules | `(tactic| walk_at "wb") => `(tactic| first
  | assumption
  | exact Wb.refl (by assumption)
  | (apply Wb.trans2; assumption; walk_at "wb1")
  | (apply Wb.same2; assumption; walk_at "wb1"))
local macro_rules | `(tactic| walk_at "wb1") => `(tactic| walk_at "wb")
local macro_rules | `(tactic| walk_at "sd") => `(tactic| with_reducible exact Wb.bag (by assumption))

def sp_rooms : Sp := fun vs H Q _ => ∃ (d : Addr) (W : Whl), vs = [.ref d] ∧ WhAt H d W ∧ Good W ∧ W.length ≤ 1000 ∧ (stepsW W).length ≤ 10000 ∧
  ∀ (p : Addr) (as : List Addr) (rows : List (List Stp)) (H' : Hp), H p = none → (∀ a ∈ as, H a = none) → Same H H' → H' p = some (.lst (as.map V.ref)) → Paired (RowP H') as rows → Rows (nextW W) (stepsW W).reverse rows → Q (.ref p) H'
structure RmI (W : Whl) (HL H : Hp) (t m b : Addr) (bk : List (List Key × V)) (done : List Stp) (H' : Hp) (as : List Addr) (rows : List (List Stp)) : Prop where
  sL : Same HL H'
  fr : ∀ a ∈ as, H a = none
  nt : t ∉ as
  ht : H' t = some (.lst (as.map V.ref))
  hp : Paired (RowP H') as rows
  hr : Rows (nextW W) done rows
  hm : H' m = some (.dT (metK rows.flatten))
  hb : H' b = some (.dT bk)
  hB : Beh H' W bk (· ∈ stepsW W)
structure RmW (W : Whl) (m : Addr) (s : Stp) (rows : List (List Stp)) (H5 H' : Hp) (w q : Addr) (n : Nat) (qs : List Addr) : Prop where
  F : ∀ a o, H5 a = some o → a ≠ m → H' a = some o
  hm : H' m = some (.dT (metK (rows.flatten ++ rowN (nextW W) s n)))
  hw : H' w = some (.lst (qs.map V.ref))
  ts : Tups H' qs ((rowN (nextW W) s n).map skp)
  hq : H' q = some (.tup ((skp (it (nextW W) s n)).map kV))
  fr : Fresh (nextW W) s n
  hn : 0 < n → s ∉ rows.flatten
section
variable {P : Program} {w : World} {K : PySem.W.Frag} {mg : Str → Option Value} {base : Heap}
theorem ok__law_rooms {f : Addr} {fd : FuncData} (F : Fun K "_law_rooms" "_law_rooms" s__law_rooms f fd) (B : Blt mg) : FnOk P w K mg base CX0 1 f fd ["wheel"] sp_rooms := by
  refine F.ok sc__law_rooms (fun vs H Q E h => ?_) (fun cdv A outer s H vs Q E hr h => ?_)
  · obtain ⟨d, W, rfl, _⟩ := h
    rfl
  · obtain ⟨d, W, rfl, ⟨kvs, hd, hk⟩, g, z1, z2, q⟩ := h
    have hu := hu_of hr
    refine ⟨_, (pss_cons (ps_par3 rfl sc__law_rooms.nd (i := 1) (j := 2) (l := 3) rfl rfl rfl (by decide) (by decide) (by decide) rfl rfl rfl (pa_cons pe_dnewT (pa_cons (pe_lst pa_nil) (pa_cons pe_dnewT pa_nil))) (by rfl))
      (C8.pss_cut (ps_lock (ps_for PassesOwn.never rfl (pi_keys (pv 0)) (pg_name (i := 4) sc__law_rooms.nd rfl (Or.inl rfl))
      (pss_one (ps_for PassesOwn.never rfl (pi_range1 (by rfl) B.range (pa_cons (pe_callB (klen (K := K)) (by rfl) B.len (by decide +kernel) (pa_cons (pe_ix (kix (K := K) hu) (pv 0) (pv 4) (fun _ _ => rfl)) pa_nil)) pa_nil)) (pg_name (i := 5) sc__law_rooms.nd rfl (Or.inl rfl))
      (pss_one (ps_asg (pe_tup (pa_cons (pv 4) (pa_cons (pe_ix (kix (K := K) hu) (pe_ix (kix (K := K) hu) (pv 0) (pv 4) (fun _ _ => rfl)) (pv 5) (fun _ _ => rfl)) pa_nil))) (pg_sub (pv 1) (pe_tup (pa_cons (pe_ix (kix (K := K) hu) (pe_ix (kix (K := K) hu) (pv 0) (pv 4) (fun _ _ => rfl)) (pe_op op_sub (pv 5) pe_int) (fun _ _ => rfl)) (pa_cons (pv 4) pa_nil))) (set_any hu))))))))
      (pss_cons (ps_lock (ps_for PassesOwn.never rfl (pi_keys (pv 0)) (pg_name (i := 6) sc__law_rooms.nd rfl (Or.inl rfl))
      (pss_one (ps_for PassesOwn.never rfl (kpi_list (K := K) (pe_ix (kix (K := K) hu) (pv 0) (pv 6) (fun _ _ => rfl))) (pg_name (i := 4) sc__law_rooms.nd rfl (Or.inl rfl))
      (pss_cons (ps_par rfl sc__law_rooms.nd (i := 7) (j := 8) rfl rfl (by decide) rfl rfl (pa_cons (pe_tup (pa_cons (pv 6) (pa_cons (pv 4) pa_nil))) (pa_cons (pe_lst pa_nil) pa_nil)) (by rfl))
      (pss_cons (ps_while PassesOwn.never (pt_cmpR (knotin (K := K) (P := P) (w := w) hr) (pv 7) (pv 3) (by rfl))
      (pss_cons (ps_asg pe_bl (pg_sub (pv 3) (pv 7) (set_any hu)))
      (pss_cons (ps_expr (kbm (K := K) (pe_bm PySem.F.plainAttrs_list PySem.F.slot_list_append PySem.F.type_list_append mt_append (pv 8) (pa_cons (pv 7) pa_nil))))
      (pss_one (ps_set (i := 7) sc__law_rooms.nd rfl (Or.inl rfl) (pe_ix (kix (K := K) hu) (pv 1) (pv 7) (fun _ _ => rfl)))))))
      (pss_one (ps_if (kpt_truth (K := K) (pv 8) (by intro _; rfl))
      (pss_one (ps_expr (kbm (K := K) (pe_bm PySem.F.plainAttrs_list PySem.F.slot_list_append PySem.F.type_list_append mt_append (pv 2) (pa_cons (pv 8) pa_nil)))))
      pss_nil))))))))
      (pss_one (ps_ret (pv 2)))))), ?_⟩
    walk_at "go"
    have nk : (kvs.map (·.1)).Nodup := by rw [rgp_keys hk]; exact g.nd
    intro b nb
    generalize eb : upd H b _ = H1 at *
    have hb1 := at_new eb
    have s1 := same_new eb nb
    walk_at "go"
    intro t nt
    generalize et : upd H1 t _ = H2 at *
    have ht2 := at_new et
    have s2 := same_new et nt
    walk_at "go"
    intro m nm
    generalize em : upd H2 m _ = H3 at *
    have hm3 := at_new em
    have s3 := same_new em nm
    have ht3 := s3 _ _ ht2
    have hb3 := s3 _ _ (s2 _ _ hb1)
    have tb : t ≠ b := fun e => by rw [e, hb1] at nt; cases nt
    have mb : m ≠ b := fun e => by rw [e, s2 _ _ hb1] at nm; cases nm
    have mt : m ≠ t := fun e => by rw [e, ht2] at nm; cases nm
    have nt : H t = none := s1.free nt
    have nm : H m = none := s1.free (s2.free nm)
    have S3 : Same H H3 := (s1.trans s2).trans s3
    clear eb et em s1 s2 s3 hb1 ht2
    have hd3 := S3 _ _ hd
    have db : d ≠ b := fun e => by rw [e, nb] at hd; cases hd
    have dt : d ≠ t := fun e => by rw [e, nt] at hd; cases hd
    have dm : d ≠ m := fun e => by rw [e, nm] at hd; cases hd
    walk_at "go"
    refine ⟨fun σ H' => ∃ (v4 v5 : Option V) (bk : List (List Key × V)), σ = [some (.ref d), some (.ref b), some (.ref t), some (.ref m), v4, v5, none, none, none] ∧ Same H H' ∧ H' t = some (.lst []) ∧ H' m = some (.dT []) ∧ H' b = some (.dT bk) ∧ Beh H' W bk (· ∈ stepsW W), ?_, ?_⟩
    · refine ⟨d, .dK kvs, hd3, trivial, fun od => ?_⟩
      refine ⟨_, rfl, d, od, rfl, .inl ⟨kvs, upd_same, ?_⟩⟩
      refine for_it walk_keys (fun i σ H' => ∃ (v4 v5 : Option V) (bk : List (List Key × V)), σ = [some (.ref d), some (.ref b), some (.ref t), some (.ref m), v4, v5, none, none, none] ∧ Same (upd H d (.frz od (.dK kvs))) H' ∧ H' t = some (.lst []) ∧ H' m = some (.dT []) ∧ H' b = some (.dT bk) ∧ bk.length ≤ (stepsW (W.take i)).length ∧ Beh H' W bk (fun s => ∃ r, (s.2, r) ∈ W.take i ∧ s.1 ∈ r)) ?_ ?_ ?_ ?_
      · exact ⟨none, none, [], rfl, same_lock S3, by rw [upd_ne dt.symm]; exact ht3, by rw [upd_ne dm.symm]; exact hm3, by rw [upd_ne db.symm]; exact hb3, Nat.zero_le _, fun s ⟨r, h, _⟩ => by cases h⟩
      · rintro i σ H' _ ⟨v4, v5, bk, rfl, sL, _⟩
        exact sL _ _ upd_same
      · rintro i x σ H4 H5 hi ⟨v4, v5, bk, rfl, sL, ht4, hm4, hb4, hbl, hB⟩ ⟨rfl, k, v, hkv, rfl⟩
        obtain ⟨⟨u, r⟩, hWi, e1, a, rfl, ha⟩ := paired_at hk hkv
        obtain rfl : k = u := e1
        have hdL := sL _ _ upd_same
        have ad : a ≠ d := ne_of ha hd (by intro q; cases q)
        have haL : upd H d (.frz od (.dK kvs)) a = some (.lst (r.map kV)) := by rw [upd_ne ad]; exact ha
        have gv : ∀ H', Same (upd H d (.frz od (.dK kvs))) H' → DGet H' d (kV k) (some (.ref a)) := fun H' s => .inl ⟨kvs, k, .inr ⟨od, s _ _ upd_same⟩, rfl, (valV_of nk (List.mem_of_getElem? hkv)).symm⟩
        have ha5 := sL _ _ haL
        walk_at "go"
        refine .inr (.inr (.inr ⟨d, .ref a, rfl, gv _ sL, ?_⟩))
        have rl := ring_le hWi
        have rm : (r.map kV).length = r.length := List.length_map _
        walk_at "go"
        refine for_range (lo := 0) (fun j σ H' => ∃ (v5 : Option V) (bk : List (List Key × V)), σ = [some (.ref d), some (.ref b), some (.ref t), some (.ref m), some (kV k), v5, none, none, none] ∧ Same (upd H d (.frz od (.dK kvs))) H' ∧ H' t = some (.lst []) ∧ H' m = some (.dT []) ∧ H' b = some (.dT bk) ∧ bk.length ≤ (stepsW (W.take i)).length + j ∧ Beh H' W bk (fun s => (∃ r, (s.2, r) ∈ W.take i ∧ s.1 ∈ r) ∨ (s.2 = k ∧ ∃ j', j' < j ∧ r[pidx r j']? = some s.1)))
          ⟨v5, bk, rfl, sL, ht4, hm4, hb4, hbl, hB.mono (fun _ _ e => e) fun s h => h.resolve_right fun ⟨_, j', h, _⟩ => absurd h (Nat.not_lt_zero _)⟩ ?_ ?_
        · rintro j σ H6 hj ⟨w5, bk, rfl, sL6, ht6, hm6, hb6, hbl6, hB6⟩
          have hj' : j < r.length := by omega
          obtain ⟨y, hy⟩ : ∃ y, r[j]? = some y := ⟨_, List.getElem?_eq_getElem hj'⟩
          obtain ⟨x, hx⟩ : ∃ x, r[pidx r j]? = some x := ⟨_, List.getElem?_eq_getElem (pidx_lt hj')⟩
          have nx : nextW W (x, k) = (k, y) := next_at g (List.mem_of_getElem? hWi) hx (by rw [pidx_suc hj']; exact hy)
          walk_at "go"
          refine .inr (.inr (.inr ⟨d, .ref a, rfl, gv _ sL6, ?_⟩))
          walk_at "go"
          refine .inl ⟨a, _, _, _, rfl, rfl, SqL.of (sL6 _ _ haL), (show atI (r.map kV) (0 + (j : Int)) = some (kV y) by rw [Int.zero_add]; exact atI_nat (by rw [List.getElem?_map, hy]; rfl)), ?_⟩
          walk_at "go"
          intro q2 nq2
          generalize e7 : upd H6 q2 _ = H7 at *
          have s7 := same_new e7 nq2
          have hq2 := at_new e7
          clear e7
          walk_at "go"
          refine .inr (.inr (.inr ⟨d, .ref a, rfl, gv _ (sL6.trans s7), ?_⟩))
          walk_at "go"
          refine .inl ⟨a, _, _, _, rfl, rfl, SqL.of (s7 _ _ (sL6 _ _ haL)), (show atI (r.map kV) ((0 + (j : Int)) - 1) = some (kV x) by rw [Int.zero_add]; exact at_pred hj' hx), ?_⟩
          walk_at "go"
          intro q1 nq1
          generalize e8 : upd H7 q1 _ = H8 at *
          have s8 := same_new e8 nq1
          have hq1 := at_new e8
          clear e8
          have hb8 := s8 _ _ (s7 _ _ hb6)
          have sL8 := (sL6.trans s7).trans s8
          have hq28 := s8 _ _ hq2
          have fL : ∀ z, H z = none → z ≠ d → upd H d (.frz od (.dK kvs)) z = none := fun z h n => by rw [upd_ne n]; exact h
          walk_at "go"
          refine .inr ⟨b, _, rfl, DPut.t (k := skp (x, k)) hb8 hq1 (by rw [nat63]; omega), ?_⟩
          refine ⟨_, _, rfl, same_mut sL8 (fL b nb db.symm), by rw [upd_ne tb]; exact s8 _ _ (s7 _ _ ht6), by rw [upd_ne mb]; exact s8 _ _ (s7 _ _ hm6), upd_same, by have := length_putK bk (skp (x, k)) (V.ref q2); omega, ?_⟩
          have b8 : Beh H8 W bk _ := hB6.mono (fun z xs e => s8 _ _ (s7 _ _ e)) fun s h => h
          refine (b8.put (s := (x, k)) (q := q2) (by rw [nx]; exact hq28) (D' := _) fun s hs => ?_).mono (fun z xs e => ?_) (fun s h => h)
          · rcases hs with hs | ⟨e, j', l, hs⟩
            · exact .inr (.inl hs)
            · by_cases c : j' = j
              · subst c
                rw [hx] at hs
                cases hs
                exact .inl (Prod.ext rfl e)
              · exact .inr (.inr ⟨e, j', by omega, hs⟩)
          · rw [upd_ne (ne_of e hb8 (by intro q; cases q))]
            exact e
        · rintro σ H6 ⟨w5, bk, rfl, sL6, ht6, hm6, hb6, hbl6, hB6⟩
          refine ⟨_, _, bk, rfl, sL6, ht6, hm6, hb6, ?_, hB6.mono (fun _ _ e => e) fun s ⟨r', h, hm⟩ => ?_⟩
          · rw [stepsW_take hWi, List.length_append, stepsU_len]
            omega
          · rw [take_snoc hWi] at h
            rcases List.mem_append.mp h with h | h
            · exact .inl ⟨r', h, hm⟩
            · have e := List.mem_singleton.mp h
              injection e with e1 e2
              obtain ⟨j, hj⟩ := List.getElem?_of_mem hm
              rw [e2] at hj
              obtain ⟨j', hj1, hj2⟩ := pidx_ex (List.getElem?_eq_some_iff.mp hj).1
              exact .inr ⟨e1, j', by omega, by rw [hj2]; exact hj⟩
      · rintro σ H4 ⟨v4, v5, bk, rfl, sL, ht4, hm4, hb4, hbl, hB⟩
        refine ⟨sL _ _ upd_same, v4, v5, bk, rfl, same_unlock hd sL, by rw [upd_ne dt.symm]; exact ht4, by rw [upd_ne dm.symm]; exact hm4, by rw [upd_ne db.symm]; exact hb4, hB.mono (fun z xs e => ?_) fun s hs => ?_⟩
        · rw [upd_ne (ne_of e (sL _ _ upd_same) (by intro q; cases q))]
          exact e
        · obtain ⟨r, j, hr, hj⟩ := ring_of g (u := s.1) (v := s.2) hs
          have hl : kvs.length = W.length := Paired.length hk
          rw [hl, List.take_length]
          exact ⟨r, hr, List.mem_of_getElem? hj⟩
    · rintro σ H3' ⟨v4, v5, bk, rfl, S3', ht3', hm3', hb3', hB⟩
      refine ⟨d, .dK kvs, S3' _ _ hd, trivial, fun od => ?_⟩
      refine ⟨_, rfl, d, od, rfl, .inl ⟨kvs, upd_same, ?_⟩⟩
      have fL : ∀ z, H z = none → z ≠ d → upd H d (.frz od (.dK kvs)) z = none := fun z h n => by rw [upd_ne n]; exact h
      refine for_it walk_keys (fun i σ H' => ∃ (v4 v5 v6 v7 v8 : Option V) (as : List Addr) (rows : List (List Stp)), σ = [some (.ref d), some (.ref b), some (.ref t), some (.ref m), v4, v5, v6, v7, v8] ∧ RmI W (upd H d (.frz od (.dK kvs))) H t m b bk (stepsW (W.take i)).reverse H' as rows) ?_ ?_ ?_ ?_
      · exact ⟨_, _, _, _, _, [], [], rfl, same_lock S3', (fun a h => absurd h List.not_mem_nil), List.not_mem_nil, by rw [upd_ne dt.symm]; exact ht3', .nil, rfl, by rw [upd_ne dm.symm]; exact hm3', by rw [upd_ne db.symm]; exact hb3', hB.mono (fun z xs e => by rw [upd_ne (ne_of e (S3' _ _ hd) (by intro q; cases q))]; exact e) fun _ h => h⟩
      · rintro i σ H' _ ⟨_, _, _, _, _, as, rows, rfl, I⟩
        exact I.sL _ _ upd_same
      · rintro i x σ H4 H5 hi ⟨v4, v5, v6, v7, v8, as, rows, rfl, I⟩ ⟨rfl, k, v, hkv, rfl⟩
        obtain ⟨⟨u, r⟩, hWi, e1, a, rfl, ha⟩ := paired_at hk hkv
        obtain rfl : k = u := e1
        have ad : a ≠ d := ne_of ha hd (by intro q; cases q)
        have haL : upd H d (.frz od (.dK kvs)) a = some (.lst (r.map kV)) := by rw [upd_ne ad]; exact ha
        have gv : DGet H5 d (kV k) (some (.ref a)) := .inl ⟨kvs, k, .inr ⟨od, I.sL _ _ upd_same⟩, rfl, (valV_of nk (List.mem_of_getElem? hkv)).symm⟩
        walk_at "go"
        refine .inr (.inr (.inr ⟨d, .ref a, rfl, gv, ?_⟩))
        walk_at "go"
        refine ⟨⟨_, SqL.of (I.sL _ _ haL)⟩, for_list (K := K) (a := a) (xs := r.map kV) (fun j σ H' => ∃ (v4 v5 v7 v8 : Option V) (as : List Addr) (rows : List (List Stp)), σ = [some (.ref d), some (.ref b), some (.ref t), some (.ref m), v4, v5, some (kV k), v7, v8] ∧ RmI W (upd H d (.frz od (.dK kvs))) H t m b bk (stepsW (W.take i) ++ stepsU k (r.take j)).reverse H' as rows) ?_ ?_ ?_ ?_⟩
        · exact ⟨_, _, _, _, as, rows, rfl, by rw [show stepsU k (r.take 0) = [] from rfl, List.append_nil]; exact I⟩
        · rintro j σ H' _ ⟨_, _, _, _, as, rows, rfl, I⟩
          exact SqL.of (I.sL _ _ haL)
        · rintro j x σ H6 hx ⟨v4, v5, v7, v8, as, rows, rfl, I⟩
          rw [List.getElem?_map] at hx
          obtain ⟨y, hy, rfl⟩ := Option.map_eq_some_iff.mp hx
          have hs : (k, y) ∈ stepsW W := mem_steps.mpr ⟨r, List.mem_of_getElem? hWi, List.mem_of_getElem? hy⟩
          have hdone : ∀ s ∈ (stepsW (W.take i) ++ stepsU k (r.take j)).reverse, s ∈ stepsW W := fun s h => by
            rcases List.mem_append.mp (List.mem_reverse.mp h) with h | h
            · exact steps_sub h
            · obtain ⟨a', b'⟩ := s
              obtain ⟨e, h⟩ := mem_stepsU.mp h
              rw [e]
              exact mem_steps.mpr ⟨r, List.mem_of_getElem? hWi, List.mem_of_mem_take h⟩
          have hnext : (stepsW (W.take i) ++ stepsU k (r.take (j + 1))).reverse = (k, y) :: (stepsW (W.take i) ++ stepsU k (r.take j)).reverse := by
            rw [stepsU_take hy, ← List.append_assoc, List.reverse_append]
            rfl
          walk_at "go"
          intro q0 nq0
          generalize e7 : upd H6 q0 _ = H7 at *
          have s7 := same_new e7 nq0
          have hq0 := at_new e7
          clear e7
          walk_at "go"
          intro w nw
          generalize e8 : upd H7 w _ = H8 at *
          have s8 := same_new e8 nw
          have hw8 := at_new e8
          clear e8
          have s68 := s7.trans s8
          have nw6 := s7.free nw
          have nwH : ∀ z o, H6 z = some o → z ≠ w := fun z o h => ne_of_none h nw6
          walk_at "go"
          refine ⟨fun mm σ H' => ∃ (n : Nat) (q : Addr) (qs : List Addr), mm + (rows.flatten.length + n) = (stepsW W).length + 1 ∧ σ = [some (.ref d), some (.ref b), some (.ref t), some (.ref m), some (kV y), v5, some (kV k), some (.ref q), some (.ref w)] ∧ RmW W m (k, y) rows H6 H' w q n qs, ?_, ?_⟩
          · have l0 := I.hr.nodup2 g.one hdone hs (n := 0) Fresh.zero (fun h => absurd h (Nat.lt_irrefl _))
            rw [List.length_append, rowN_len] at l0
            exact ⟨(stepsW W).length + 1 - rows.flatten.length, 0, q0, [], by omega, rfl, fun a o h _ => s68 _ _ h, by rw [show rowN (nextW W) (k, y) 0 = [] from rfl, List.append_nil]; exact s68 _ _ I.hm, hw8, .nil, s8 _ _ hq0, Fresh.zero, fun h => absurd h (Nat.lt_irrefl _)⟩
          · rintro mm σ H9 ⟨n, q, qs, hmm, rfl, J⟩
            have le := I.hr.nodup2 g.one hdone hs J.fr J.hn
            rw [List.length_append, rowN_len] at le
            refine ⟨_, rfl, _, rfl, .inr (.inl ⟨m, _, rfl, DGet.t J.hm J.hq, ?_⟩)⟩
            refine ⟨_, rfl, ?_⟩
            have lm : (metK (rows.flatten ++ rowN (nextW W) (k, y) n)).length ≤ 10000 := by
              rw [metK_len, List.length_append, rowN_len]
              omega
            have mH6 : H6 m = some _ := I.hm
            have wm : w ≠ m := (nwH _ _ I.hm).symm
            have wb : w ≠ b := (nwH _ _ I.hb).symm
            have wt : w ≠ t := (nwH _ _ I.ht).symm
            refine ite_if (fun c => ?_) (fun c => ?_)
            · have hni : it (nextW W) (k, y) n ∉ rows.flatten ++ rowN (nextW W) (k, y) n := fun h => by
                have c' : (!(valV (metK (rows.flatten ++ rowN (nextW W) (k, y) n)) (skp (it (nextW W) (k, y) n))).isSome) = true := c
                rw [(metK_val _ _).mpr h] at c'
                cases c'
              refine ⟨_, fun σ' H' h => ⟨mm - 1, by omega, h⟩, ?_⟩
              walk_at "go"
              refine .inr ⟨m, _, rfl, DPut.t J.hm J.hq (by rw [nat63]; omega), ?_⟩
              rw [metK_put hni, List.append_assoc, ← rowN_succ]
              generalize e10 : upd H9 m _ = H10
              have F10 : ∀ a o, H9 a = some o → a ≠ m → H10 a = some o := fun a o h n => by rw [← e10, upd_ne n]; exact h
              have hm10 := at_new e10
              clear e10
              have hw10 := F10 _ _ J.hw wm
              have hqs : qs.length = n := by
                have := J.ts.length
                rw [List.length_map, rowN_len] at this
                exact this
              walk_at "go"
              generalize e11 : upd H10 w _ = H11
              have F11 : ∀ a o, H10 a = some o → a ≠ w → H11 a = some o := fun a o h n => by rw [← e11, upd_ne n]; exact h
              have hw11 := at_new e11
              clear e11
              have hm11 := F11 _ _ hm10 wm.symm
              have bm' : b ≠ m := mb.symm
              have hb11 := F11 _ _ (F10 _ _ (J.F _ _ I.hb bm') bm') wb.symm
              have tupF : ∀ a xs, H9 a = some (.tup xs) → H11 a = some (.tup xs) := fun a xs h => F11 _ _ (F10 _ _ h (ne_of h J.hm (by intro q; cases q))) (ne_of h J.hw (by intro q; cases q))
              have tup6 : ∀ a xs, H6 a = some (.tup xs) → H9 a = some (.tup xs) := fun a xs h => J.F _ _ h (ne_of h I.hm (by intro q; cases q))
              have hq11 := tupF _ _ J.hq
              obtain ⟨q', hv, hq'⟩ := I.hB _ (g.one.mem hs n)
              refine .inr (.inr (.inr ⟨b, .ref q', rfl, by rw [← hv]; exact DGet.t hb11 hq11, ?_⟩))
              refine ⟨n + 1, q', qs ++ [q], by omega, rfl, fun a o h nm => ?_, hm11, ?_, ?_, tupF _ _ (tup6 _ _ hq'), ?_, fun _ hin => ?_⟩
              · exact F11 _ _ (F10 _ _ (J.F _ _ h nm) nm) (nwH _ _ h)
              · rw [hw11, List.map_append]
                rfl
              · rw [rowN_succ, List.map_append]
                exact Tups.snoc hq11 (J.ts.mono tupF)
              · by_cases n0 : n = 0
                · rw [n0]
                  exact Fresh.one
                · exact J.fr.succ fun e => hni (List.mem_append_right _ (mem_rowN.mpr ⟨0, by omega, e.symm⟩))
              · by_cases n0 : n = 0
                · subst n0
                  exact hni (List.mem_append_left _ hin)
                · exact J.hn (by omega) hin
            · have hin : it (nextW W) (k, y) n ∈ rows.flatten ++ rowN (nextW W) (k, y) n := by
                refine (metK_val _ _).mp ?_
                have c' : (!(valV (metK (rows.flatten ++ rowN (nextW W) (k, y) n)) (skp (it (nextW W) (k, y) n))).isSome) = false := c
                cases e : (valV (metK (rows.flatten ++ rowN (nextW W) (k, y) n)) (skp (it (nextW W) (k, y) n))).isSome with
                | true => rfl
                | false => rw [e] at c'; cases c'
              have hqs : qs.length = n := by
                have := J.ts.length
                rw [List.length_map, rowN_len] at this
                exact this
              have mt' : t ≠ m := mt.symm
              have mb' : b ≠ m := mb.symm
              have dm' : d ≠ m := dm
              have ht9 := J.F _ _ I.ht mt'
              have las := Paired.length I.hp
              have sL9 : Same (upd H d (.frz od (.dK kvs))) H9 := fun a o e => J.F _ _ (I.sL _ _ e) (ne_of_none e (fL m nm dm.symm))
              have tup6 : ∀ a xs, H6 a = some (.tup xs) → H9 a = some (.tup xs) := fun a xs h => J.F _ _ h (ne_of h I.hm (by intro q; cases q))
              have hp9 : Paired (RowP H9) as rows := Paired.mapP I.hp fun a row ⟨ts, h1, h2⟩ => ⟨ts, J.F _ _ h1 (ne_of h1 I.hm (by intro q; cases q)), h2.mono tup6⟩
              refine ⟨_, rfl, _, .inl ⟨_, SqL.of J.hw, rfl⟩, ?_⟩
              by_cases n0 : n = 0
              · subst n0
                obtain rfl := List.eq_nil_of_length_eq_zero hqs
                refine iteF ?_
                have hm9 := J.hm
                rw [show rowN (nextW W) (k, y) 0 = [] from rfl, List.append_nil] at hm9 hin
                refine ⟨_, _, _, _, as, rows, rfl, sL9, I.fr, I.nt, ht9, hp9, ?_, hm9, J.F _ _ I.hb mb', I.hB.mono tup6 fun _ h => h⟩
                rw [hnext]
                exact I.hr.skip hin
              · have hne : (!(qs.map V.ref).isEmpty) = true := by
                  cases qs with
                  | nil => exact absurd hqs.symm n0
                  | cons _ _ => rfl
                rw [hne]
                refine iteT ?_
                have hlas : (as.map V.ref).length ≤ 10000 := by
                  rw [List.length_map, las]
                  have h1 := I.hr.len
                  rw [List.length_reverse, List.length_append, stepsU_len, List.length_take] at h1
                  have h2 := ring_le hWi
                  omega
                walk_at "go"
                generalize e10 : upd H9 t _ = H10
                have F10 : ∀ a o, H9 a = some o → a ≠ t → H10 a = some o := fun a o h n => by rw [← e10, upd_ne n]; exact h
                have ht10 := at_new e10
                clear e10
                have tup9 : ∀ a xs, H9 a = some (.tup xs) → H10 a = some (.tup xs) := fun a xs h => F10 _ _ h (ne_of h ht9 (by intro q; cases q))
                refine ⟨_, _, _, _, as ++ [w], rows ++ [rowN (nextW W) (k, y) n], rfl, fun a o e => F10 _ _ (sL9 _ _ e) (ne_of_none e (fL t nt dt.symm)), fun a ha => ?_, fun h => (List.mem_append.mp h).elim I.nt fun h => wt (List.mem_singleton.mp h).symm, ?_, paired_snoc ⟨qs, F10 _ _ J.hw wt, J.ts.mono tup9⟩ (paired_map hp9 fun a row hm ⟨ts, h1, h2⟩ => ⟨ts, F10 _ _ h1 fun e => I.nt (by rw [← e]; exact hm), h2.mono tup9⟩), ?_, ?_, F10 _ _ (J.F _ _ I.hb mb') tb.symm, (I.hB.mono tup6 fun _ h => h).mono tup9 fun _ h => h⟩
                · rcases List.mem_append.mp ha with ha | ha
                  · exact I.fr a ha
                  · rw [List.mem_singleton.mp ha]
                    have := I.sL.free nw6
                    by_cases e : w = d
                    · rw [e, upd_same] at this
                      cases this
                    · rw [upd_ne e] at this
                      exact this
                · rw [ht10, List.map_append]
                  rfl
                · rw [hnext]
                  exact I.hr.take (J.hn (by omega)) (I.hr.stop g.one hdone hs (J.hn (by omega)) J.fr hin)
                · rw [flatten_snoc]
                  exact F10 _ _ J.hm mt
        · rintro σ H6 ⟨v4, v5, v7, v8, as, rows, rfl, I⟩
          rw [List.length_map, List.take_length, ← stepsW_take hWi] at I
          exact ⟨_, _, _, _, _, as, rows, rfl, I⟩
      · rintro σ H4 ⟨v4, v5, v6, v7, v8, as, rows, rfl, I⟩
        have hl : kvs.length = W.length := Paired.length hk
        rw [hl, List.take_length] at I
        refine ⟨I.sL _ _ upd_same, ?_⟩
        walk_at "go"
        refine q t as rows _ nt I.fr (same_unlock hd I.sL) (by rw [upd_ne dt.symm]; exact I.ht) ?_ I.hr
        refine Paired.mapP I.hp fun a row ⟨ts, h1, h2⟩ => ?_
        have hdd := I.sL _ _ upd_same
        exact ⟨ts, by rw [upd_ne (ne_of h1 hdd (by intro q; cases q))]; exact h1, h2.mono fun z xs e => by rw [upd_ne (ne_of e hdd (by intro q; cases q))]; exact e⟩
end

end Y

namespace Y
open PySem PySem.Spec PyProof.Rows L2
def sp_draw : Sp := fun vs H Q _ => ∃ (G : BagId) (n : Int), vs = [.ref G.b, .int n] ∧ Bag G H ∧ 0 < n ∧ n < 1073741824 ∧ ∀ (d : Int) (H' : Hp), 0 ≤ d → d < n → Wb G H H' → Q (.int d) H'
theorem sc__law_draw : FnScope ["bag", "limit", "cell", "digit", "stir"] ["bag", "limit"] (defScope s__law_draw) := ⟨rfl, rfl, rfl, by decide +kernel, rfl, by decide +kernel, by decide +kernel⟩
local macro_rules | `(tactic| walk_at "hp") => `(tactic| first
  | assumption
  | exact upd_same
  | (refine (upd_ne (by first | assumption | exact Ne.symm (by assumption))).trans ?_; walk_at "hp"))
local macro_rules | `(tactic| walk_at "sz") => `(tactic| first
  | (rw [nat63]; omega)
  | (rw [nat63]; exact Nat.le_of_ble_eq_true rfl)
  | (simp only [nat63, List.length_append, List.length_cons, List.length_nil, List.length_map, List.length_set]; omega))
local macro_rules | `(tactic| walk_at "sd") => `(tactic| (try dsimp only [CDiv, CMul, CPow]); first
  | (with_reducible assumption)
  | omega
  | decide
  | walk_at "sz"
  | exact ⟨by omega, by omega⟩
  | exact ⟨by omega, by omega, by omega⟩
  | exact Or.inr ⟨by omega, by omega⟩
  | exact Or.inl ⟨by omega, by omega⟩)
local macro_rules | `(tactic| walk_at "go") => `(tactic| repeat (first
  | refine ⟨_, rfl, ?_⟩
  | refine ⟨_, _, rfl, rfl, ?_⟩
  | refine Or.inl ⟨_, rfl, ?_⟩
  | refine Or.inl ⟨_, _, rfl, rfl, ?_⟩
  | refine Or.inl ⟨_, _, _, _, rfl, rfl, SqL.of (by walk_at "hp"), rfl, ?_⟩
  | refine Or.inl ⟨rfl, ?_⟩
  | refine Or.inl ⟨_, _, _, _, rfl, rfl, (by walk_at "hp"), rfl, ?_⟩
  | refine Or.inr (Or.inl ⟨_, _, _, _, rfl, rfl, SqT.of (by walk_at "hp"), rfl, ?_⟩)
  | refine Or.inl ⟨_, _, rfl, Or.inl ⟨_, SqL.of (by walk_at "hp"), rfl⟩, ?_⟩
  | (with_reducible refine iteF ?_)
  | (with_reducible refine iteT ?_)
  | refine And.intro (by walk_at "sd") ?_
  | refine ⟨Or.inl ⟨rfl, _, SqL.of (by walk_at "hp")⟩, ?_⟩
  | refine ⟨_, _, _, rfl, rfl, (by walk_at "hp"), (by walk_at "sz"), ?_⟩
  | refine ⟨_, _, rfl, SqT.of (by walk_at "hp"), rfl, ?_⟩
  | refine ⟨_, _, rfl, ?_⟩
  | refine ⟨_, _, _, rfl, ?_⟩
  | refine ⟨rfl, ?_⟩))

section
variable {P : Program} {w : World} {K : PySem.W.Frag} {mg : Str → Option Value} {base : Heap}
theorem ok__law_draw {f : Addr} {fd : FuncData} (F : Fun K "_law_draw" "_law_draw" s__law_draw f fd) (B : Blt mg) : FnOk P w K mg base CX0 1 f fd ["bag", "limit"] sp_draw := by
  refine F.ok sc__law_draw (fun vs H Q E h => ?_) (fun cdv A outer s H vs Q E hr h => ?_)
  · obtain ⟨G, n, rfl, _⟩ := h
    rfl
  · obtain ⟨G, n, rfl, hb, hn0, hn1, q⟩ := h
    have hu := hu_of hr
    refine ⟨_, (pss_cons (ps_asg (pe_op (kadd (K := K)) (pe_ix (kix (K := K) hu) (pv 0) pe_int (fun _ _ => rfl)) pe_int) (pg_sub (pv 0) pe_int (set_any hu)))
      (C8.pss_cut (ps_if (PW.pt (pw_and (pt_cmpR (keq (K := K) hr) (pe_ix (kix (K := K) hu) (pv 0) pe_int (fun _ _ => rfl)) pe_int (nomark _)) (pw_and1 (pt_cmpR op_lt (pe_ix (kix (K := K) hu) (pv 0) pe_int (fun _ _ => rfl)) (pe_callB (klen (K := K)) (by rfl) B.len (by decide +kernel) (pa_cons (pe_ix (kix (K := K) hu) (pv 0) pe_int (fun _ _ => rfl)) pa_nil)) (nomark _)))))
      (pss_cons (ps_set (i := 2) sc__law_draw.nd rfl (Or.inl rfl) (pe_callTy (call_int1) (by rfl) B.int (by decide +kernel) (pa_cons (pe_ix (kix (K := K) hu) (pe_ix (kix (K := K) hu) (pv 0) pe_int (fun _ _ => rfl)) (pe_ix (kix (K := K) hu) (pv 0) pe_int (fun _ _ => rfl)) (fun _ _ => rfl)) pa_nil)))
      (pss_cons (ps_asg (pe_op (kadd (K := K)) (pe_ix (kix (K := K) hu) (pv 0) pe_int (fun _ _ => rfl)) pe_int) (pg_sub (pv 0) pe_int (set_any hu)))
      (pss_one (ps_if (pt_cmpR op_ge (pv 2) (pe_op op_pow pe_int pe_int) (nomark _))
      (pss_one (ps_asg (pv 2) (pg_sub (pv 0) pe_int (set_any hu))))
      (pss_one (ps_asg (pe_op op_mod (pe_callTy (call_int1) (by rfl) B.int (by decide +kernel) (pa_cons (pe_op (kadd (K := K)) (pe_op (kadd (K := K)) (pe_op op_mul (pe_ix (kix (K := K) hu) (pv 0) pe_int (fun _ _ => rfl)) pe_int) (pe_op op_mul (pe_op op_mod (pe_callTy (call_int1) (by rfl) B.int (by decide +kernel) (pa_cons (pv 2) pa_nil)) pe_int) pe_int)) pe_int) pa_nil)) pe_int) (pg_sub (pv 0) pe_int (set_any hu))))))))
      pss_nil)
      (pss_cons (ps_if (pt_cmpR op_gt (pe_ix (kix (K := K) hu) (pv 0) pe_int (fun _ _ => rfl)) pe_int (nomark _))
      (pss_cons (ps_set (i := 3) sc__law_draw.nd rfl (Or.inl rfl) (pe_op op_mod (pe_callTy (call_int1) (by rfl) B.int (by decide +kernel) (pa_cons (pe_ix (kix (K := K) hu) (pv 0) pe_int (fun _ _ => rfl)) pa_nil)) (pv 1)))
      (pss_cons (ps_asg (pe_op op_fdiv (pe_ix (kix (K := K) hu) (pv 0) pe_int (fun _ _ => rfl)) (pv 1)) (pg_sub (pv 0) pe_int (set_any hu)))
      (pss_one (ps_ret (pv 3)))))
      pss_nil)
      (pss_cons (ps_set (i := 4) sc__law_draw.nd rfl (Or.inl rfl) (pe_callTy (call_int1) (by rfl) B.int (by decide +kernel) (pa_cons (pe_ix (kix (K := K) hu) (pv 0) pe_int (fun _ _ => rfl)) pa_nil)))
      (pss_cons (ps_asg (pe_op op_mod (pe_callTy (call_int1) (by rfl) B.int (by decide +kernel) (pa_cons (pe_op (kadd (K := K)) (pe_op (kadd (K := K)) (pe_op (kadd (K := K)) (pe_op op_pow (pv 4) pe_int) (pe_op op_mul (pv 4) pe_int)) (pe_op op_mul (pe_ix (kix (K := K) hu) (pv 0) pe_int (fun _ _ => rfl)) pe_int)) pe_int) pa_nil)) pe_int) (pg_sub (pv 0) pe_int (set_any hu)))
      (pss_one (ps_ret (pe_op op_mod (pe_callTy (call_int1) (by rfl) B.int (by decide +kernel) (pa_cons (pe_op (kadd (K := K)) (pe_op op_fdiv (pe_ix (kix (K := K) hu) (pv 0) pe_int (fun _ _ => rfl)) pe_int) (pe_op op_mul (pe_op op_mod (pe_callTy (call_int1) (by rfl) B.int (by decide +kernel) (pa_cons (pe_ix (kix (K := K) hu) (pv 0) pe_int (fun _ _ => rfl)) pa_nil)) pe_int) pe_int)) pa_nil)) (pv 1))))))))), ?_⟩
    obtain ⟨i, r, m, c, e1, e2, i0, r0, m0, m1, nl⟩ := id hb
    have nlb : G.l ≠ G.b := fun e => by
      rw [e, e1] at e2
      have := HO.lst.inj (Option.some.inj e2)
      cases hns : G.ns with
      | nil => rw [hns] at this; cases this
      | cons a t => rw [hns] at this; cases this
    walk_at "go"
    have w0 := Wb.refl hb
    refine ⟨fun σ H' => (∃ v, σ = [some (.ref G.b), some (.int n), v, none, none]) ∧ Wb G H H', ?_, ?_⟩
    · walk_at "go"
      refine ite_di (fun h1 => ?_) (fun h1 => ?_)
      · walk_at "go"
        refine ite_d (fun h2 => ?_) (fun h2 => ?_)
        · walk_at "go"
          rw [List.length_map] at h2
          obtain ⟨j, rfl⟩ : ∃ j : Nat, i = (j : Int) := ⟨i.toNat, by omega⟩
          have hj : j < G.ns.length := by omega
          refine Or.inl ⟨_, _, _, _, rfl, rfl, SqL.of (by walk_at "hp"), atI_nat (show (G.ns.map V.int)[j]? = some (V.int G.ns[j]) by rw [List.getElem?_map, List.getElem?_eq_getElem hj]; rfl), ?_⟩
          walk_at "go"
          have h9 : (10 : Int) ^ (18 : Int).toNat = 1000000000000000000 := by decide
          refine ite_d (p := (10 : Int) ^ (18 : Int).toNat ≤ G.ns[j]) (fun h3 => ?_) (fun h3 => ?_)
          · walk_at "go"
            have h3' : (1000000000000000000 : Int) ≤ G.ns[j] := by rw [← h9]; exact h3
            exact ⟨⟨_, rfl⟩, ((w0.put ⟨i0, r0, m0, m1⟩).put ⟨by omega, r0, m0, m1⟩).put ⟨by omega, by omega, m0, m1⟩⟩
          · walk_at "go"
            exact ⟨⟨_, rfl⟩, ((w0.put ⟨i0, r0, m0, m1⟩).put ⟨by omega, r0, m0, m1⟩).put ⟨by omega, by omega, Int.emod_nonneg _ (by decide), Int.emod_lt_of_pos _ (by decide)⟩⟩
        · walk_at "go"
          exact ⟨⟨_, rfl⟩, w0.put ⟨i0, r0, m0, m1⟩⟩
      · walk_at "go"
        exact ⟨⟨_, rfl⟩, w0.put ⟨i0, r0, m0, m1⟩⟩
    · rintro σ H1 ⟨⟨v, rfl⟩, w1⟩
      obtain ⟨i, r, m, c, e1, e2, i0, r0, m0, m1, nl⟩ := id w1.bag
      walk_at "go"
      refine ite_d (fun h4 => ?_) (fun h4 => ?_)
      · walk_at "go"
        refine q _ _ (Int.emod_nonneg _ (by omega)) (Int.emod_lt_of_pos _ hn0) (w1.put ⟨i0, Int.ediv_nonneg r0 (by omega), m0, m1⟩)
      · walk_at "go"
        refine q _ _ (Int.emod_nonneg _ (by omega)) (Int.emod_lt_of_pos _ hn0) (w1.put ⟨i0, r0, Int.emod_nonneg _ (by decide), Int.emod_lt_of_pos _ (by decide)⟩)
end

end Y

namespace Y
open PySem PySem.Spec PyProof.Rows L2
def sp_of : Sp := fun vs H Q _ => ∃ (G : BagId) (t : Addr) (xs : List V), vs = [.ref G.b, .ref t] ∧ Bag G H ∧ H t = some (.lst xs) ∧ isBag (.lst xs) = false ∧ 0 < xs.length ∧ xs.length < 1073741824 ∧ ∀ (v : V) (H' : Hp), v ∈ xs → Wb G H H' → Q v H'
theorem sc__law_of : FnScope ["bag", "things"] ["bag", "things"] (defScope s__law_of) := ⟨rfl, rfl, rfl, by decide +kernel, rfl, by decide +kernel, by decide +kernel⟩
local macro_rules | `(tactic| walk_at "hp") => `(tactic| first
  | assumption
  | exact upd_same
  | (refine (upd_ne (by first | assumption | exact Ne.symm (by assumption))).trans ?_; walk_at "hp"))
local macro_rules | `(tactic| walk_at "sz") => `(tactic| first
  | (rw [nat63]; omega)
  | (rw [nat63]; exact Nat.le_of_ble_eq_true rfl)
  | (simp only [nat63, List.length_append, List.length_cons, List.length_nil, List.length_map, List.length_set]; omega))
local macro_rules | `(tactic| walk_at "sd") => `(tactic| (try dsimp only [CDiv, CMul, CPow]); first
  | (with_reducible assumption)
  | omega
  | decide
  | walk_at "sz"
  | exact ⟨by omega, by omega⟩
  | exact ⟨by omega, by omega, by omega⟩
  | exact Or.inr ⟨by omega, by omega⟩
  | exact Or.inl ⟨by omega, by omega⟩)
local macro_rules | `(tactic| walk_at "go") => `(tactic| repeat (first
  | refine ⟨_, rfl, ?_⟩
  | refine ⟨_, _, rfl, rfl, ?_⟩
  | refine Or.inl ⟨_, rfl, ?_⟩
  | refine Or.inl ⟨_, _, rfl, rfl, ?_⟩
  | refine Or.inl ⟨_, _, _, _, rfl, rfl, SqL.of (by walk_at "hp"), rfl, ?_⟩
  | refine Or.inl ⟨rfl, ?_⟩
  | refine Or.inl ⟨_, _, _, _, rfl, rfl, (by walk_at "hp"), rfl, ?_⟩
  | refine Or.inr (Or.inl ⟨_, _, _, _, rfl, rfl, SqT.of (by walk_at "hp"), rfl, ?_⟩)
  | refine Or.inl ⟨_, _, rfl, Or.inl ⟨_, SqL.of (by walk_at "hp"), rfl⟩, ?_⟩
  | (with_reducible refine iteF ?_)
  | (with_reducible refine iteT ?_)
  | refine And.intro (by walk_at "sd") ?_
  | refine ⟨Or.inl ⟨rfl, _, SqL.of (by walk_at "hp")⟩, ?_⟩
  | refine ⟨_, _, _, rfl, rfl, (by walk_at "hp"), (by walk_at "sz"), ?_⟩
  | refine ⟨_, _, rfl, SqT.of (by walk_at "hp"), rfl, ?_⟩
  | refine ⟨_, _, rfl, ?_⟩
  | refine ⟨_, _, _, rfl, ?_⟩
  | refine ⟨rfl, ?_⟩))

section
variable {P : Program} {w : World} {K : PySem.W.Frag} {mg : Str → Option Value} {base : Heap}
theorem ok__law_of {f : Addr} {fd : FuncData} (F : Fun K "_law_of" "_law_of" s__law_of f fd) (B : Blt mg) (G__law_draw : Fn P w K mg base 1 "_law_draw" ["bag", "limit"] sp_draw) : FnOk P w K mg base CX0 2 f fd ["bag", "things"] sp_of := by
  refine F.ok sc__law_of (fun vs H Q E h => ?_) (fun cdv A outer s H vs Q E hr h => ?_)
  · obtain ⟨G, t, xs, rfl, _⟩ := h
    rfl
  · obtain ⟨G, t, xs, rfl, hb, ht, hn, h0, h1, q⟩ := h
    have hu := hu_of hr
    refine ⟨_, (pss_one (ps_ret (pe_ix (kix (K := K) hu) (pv 1) (pe_fn G__law_draw (hr.mono (by decide)) (by rfl) (pa_cons (pv 0) (pa_cons (pe_callB (klen (K := K)) (by rfl) B.len (by decide +kernel) (pa_cons (pv 1) pa_nil)) pa_nil))) (fun _ _ => rfl)))), ?_⟩
    walk_at "go"
    intro d H1 d0 d1 w1
    have ht1 := w1.kp.keep _ _ ht hn
    obtain ⟨j, rfl⟩ : ∃ j : Nat, d = (j : Int) := ⟨d.toNat, by omega⟩
    have hj : j < xs.length := by omega
    refine Or.inl ⟨_, _, _, _, rfl, rfl, SqL.of ht1, atI_nat (List.getElem?_eq_getElem hj), ?_⟩
    exact q _ _ (List.getElem_mem hj) w1
end

end Y

namespace Y
open PySem PySem.Spec PyProof.Rows L2
theorem sc__law_drawing : FnScope ["bag", "many", "more", "wheel", "k", "at", "ring", "row", "one", "other", "first", "last"] ["bag", "many", "more"] (defScope s__law_drawing) := ⟨rfl, rfl, rfl, by decide +kernel, rfl, by decide +kernel, by decide +kernel⟩
local macro_rules | `(tactic| walk_at "hp") => `(tactic| first
  | assumption
  | exact upd_same
  | (refine (upd_ne (by first | assumption | exact Ne.symm (by assumption))).trans ?_; walk_at "hp"))
local macro_rules | `(tactic| walk_at "sz") => `(tactic| first
  | (rw [nat63]; omega)
  | (rw [nat63]; exact Nat.le_of_ble_eq_true rfl)
  | (simp only [nat63, List.length_append, List.length_cons, List.length_nil, List.length_map, List.length_set]; omega))
local macro_rules | `(tactic| walk_at "sd") => `(tactic| (try dsimp only [CDiv, CMul, CPow]); first
  | (with_reducible assumption)
  | omega
  | decide
  | walk_at "sz"
  | exact ⟨by omega, by omega⟩
  | exact ⟨by omega, by omega, by omega⟩
  | exact Or.inr ⟨by omega, by omega⟩
  | exact Or.inl ⟨by omega, by omega⟩)
local macro_rules | `(tactic| walk_at "go") => `(tactic| repeat (first
  | refine ⟨_, rfl, ?_⟩
  | refine ⟨_, _, rfl, rfl, ?_⟩
  | refine Or.inl ⟨_, rfl, ?_⟩
  | refine Or.inl ⟨_, _, rfl, rfl, ?_⟩
  | refine Or.inl ⟨_, _, _, _, rfl, rfl, SqL.of (by walk_at "hp"), rfl, ?_⟩
  | refine Or.inl ⟨rfl, ?_⟩
  | refine Or.inl ⟨_, _, _, _, rfl, rfl, (by walk_at "hp"), rfl, ?_⟩
  | refine Or.inr (Or.inl ⟨_, _, _, _, rfl, rfl, SqT.of (by walk_at "hp"), rfl, ?_⟩)
  | refine Or.inl ⟨_, _, rfl, Or.inl ⟨_, SqL.of (by walk_at "hp"), rfl⟩, ?_⟩
  | (with_reducible refine iteF ?_)
  | (with_reducible refine iteT ?_)
  | refine And.intro (by walk_at "sd") ?_
  | refine ⟨Or.inl ⟨rfl, _, SqL.of (by walk_at "hp")⟩, ?_⟩
  | refine ⟨_, _, _, rfl, rfl, (by walk_at "hp"), (by walk_at "sz"), ?_⟩
  | refine ⟨_, _, rfl, SqT.of (by walk_at "hp"), rfl, ?_⟩
  | refine ⟨_, _, rfl, ?_⟩
  | refine ⟨_, _, _, rfl, ?_⟩
  | refine ⟨⟨_, rfl⟩, ?_⟩
  | refine ⟨rfl, ?_⟩))
local macro_rules | `(tactic| walk_at "nb") => `(tactic| first
  | exact (nb_vs1 _).bag
  | exact (nb_strs _).bag
  | exact (nb_vsS _).bag
  | exact (nb_refs _).bag
  | assumption
  | rfl)
local macro_rules | `(tactic| walk_at "hp") => `(tactic| first
  | assumption
  | with_reducible exact upd_same
  | ((with_reducible apply upd_keep); assumption; walk_at "hp")
  | ((with_reducible apply Wb.keep); assumption; walk_at "hp"; walk_at "nb")
  | ((with_reducible apply Same.keep); assumption; walk_at "hp"))
local macro_rules | `(tactic| walk_at "wb") => `(tactic| first
  | assumption
  | exact Wb.refl (by assumption)
  | (apply Wb.trans2; assumption; walk_at "wb1")
  | (apply Wb.same2; assumption; walk_at "wb1"))
local macro_rules | `(tactic| walk_at "wb1") => `(tactic| walk_at "wb")
local macro_rules | `(tactic| walk_at "sd") => `(tactic| with_reducible exact Wb.bag (by assumption))

def sp_drawing : Sp := fun vs H Q _ => ∃ (G : BagId) (n m : Nat), vs = [.ref G.b, .int n, .int m] ∧ Bag G H ∧ 1 ≤ n ∧ n ≤ 16 ∧ m ≤ 8 ∧
  ∀ (p : Addr) (W : Whl) (H' : Hp), H p = none → WhAt H' p W → Good W → W.map (·.1) = keysN n → (stepsW W).length ≤ 60 → Wb G H H' → Q (.ref p) H'
section
variable {P : Program} {w : World} {K : PySem.W.Frag} {mg : Str → Option Value} {base : Heap}
theorem ok__law_drawing {f : Addr} {fd : FuncData} (F : Fun K "_law_drawing" "_law_drawing" s__law_drawing f fd) (B : Blt mg) (G__law_draw : Fn P w K mg base 1 "_law_draw" ["bag", "limit"] sp_draw) (G__law_of : Fn P w K mg base 2 "_law_of" ["bag", "things"] sp_of) (G__law_rooms : Fn P w K mg base 1 "_law_rooms" ["wheel"] sp_rooms) : FnOk P w K mg base CX0 3 f fd ["bag", "many", "more"] sp_drawing := by
  refine F.ok sc__law_drawing (fun vs H Q E h => ?_) (fun cdv A outer s H vs Q E hr h => ?_)
  · obtain ⟨G, n, m, rfl, _⟩ := h
    rfl
  · obtain ⟨G, n, m, rfl, hb, n1, n16, m100, q⟩ := h
    have hu := hu_of hr
    refine ⟨_, (pss_cons (ps_set (i := 3) sc__law_drawing.nd rfl (Or.inl rfl) (pe_disp (pps_cons pe_int (pe_lst pa_nil) pps_nil) (by rfl) (by rfl) (fun z => by cases z) (by decide)))
      (pss_cons (ps_for PassesOwn.never rfl (pi_range2 (by rfl) B.range (pa_cons pe_int (pa_cons (pv 1) pa_nil))) (pg_name (i := 4) sc__law_drawing.nd rfl (Or.inl rfl))
      (C8.pss_cut (ps_set (i := 5) sc__law_drawing.nd rfl (Or.inl rfl) (pe_fn G__law_draw (hr.mono (by decide)) (by rfl) (pa_cons (pv 0) (pa_cons (pv 4) pa_nil))))
      (C8.pss_cut (ps_set (i := 5) sc__law_drawing.nd rfl (Or.inl rfl) (pe_ifExp (pt_cmpR op_lt (pe_callB (klen (K := K)) (by rfl) B.len (by decide +kernel) (pa_cons (pe_ix (kix (K := K) hu) (pv 3) (pv 5) (fun _ _ => rfl)) pa_nil)) pe_int (nomark _)) (pv 5) (pe_op op_sub (pv 4) pe_int)))
      (pss_cons (ps_set (i := 6) sc__law_drawing.nd rfl (Or.inl rfl) (pe_ix (kix (K := K) hu) (pv 3) (pv 5) (fun _ _ => rfl)))
      (pss_cons (ps_expr (kbm (K := K) (pe_bm PySem.F.plainAttrs_list PySem.F.slot_list_insert PySem.F.type_list_insert mt_insert (pv 6) (pa_cons (pe_fn G__law_draw (hr.mono (by decide)) (by rfl) (pa_cons (pv 0) (pa_cons (pe_op (kadd (K := K)) (pe_callB (klen (K := K)) (by rfl) B.len (by decide +kernel) (pa_cons (pv 6) pa_nil)) pe_int) pa_nil))) (pa_cons (pv 4) pa_nil)))))
      (pss_one (ps_asg (pe_lst (pa_cons (pv 5) pa_nil)) (pg_sub (pv 3) (pv 4) (set_any hu)))))))))
      (pss_cons (ps_for PassesOwn.never rfl (pi_range1 (by rfl) B.range (pa_cons (pe_ifExp (pt_cmpR op_gt (pv 1) pe_int (nomark _)) (pv 2) pe_int) pa_nil)) (pg_name (i := 4) sc__law_drawing.nd rfl (Or.inl rfl))
      (pss_cons (ps_set (i := 7) sc__law_drawing.nd rfl (Or.inl rfl) (pe_fn G__law_of (hr.mono (by decide)) (by rfl) (pa_cons (pv 0) (pa_cons (pe_fn G__law_rooms (hr.mono (by decide)) (by rfl) (pa_cons (pv 3) pa_nil)) pa_nil))))
      (pss_cons (ps_par rfl sc__law_drawing.nd (i := 8) (j := 9) rfl rfl (by decide) rfl rfl (pa_cons (pe_fn G__law_of (hr.mono (by decide)) (by rfl) (pa_cons (pv 0) (pa_cons (pv 7) pa_nil))) (pa_cons (pe_fn G__law_of (hr.mono (by decide)) (by rfl) (pa_cons (pv 0) (pa_cons (pv 7) pa_nil))) pa_nil)) (by rfl))
      (pss_cons (ps_par rfl sc__law_drawing.nd (i := 10) (j := 11) rfl rfl (by decide) rfl rfl (pa_cons (pe_ix (kix (K := K) hu) (pv 3) (pe_ix (kix (K := K) hu) (pv 8) pe_int (fun _ _ => rfl)) (fun _ _ => rfl)) (pa_cons (pe_ix (kix (K := K) hu) (pv 3) (pe_ix (kix (K := K) hu) (pv 9) pe_int (fun _ _ => rfl)) (fun _ _ => rfl)) pa_nil)) (by rfl))
      (pss_one (ps_if (PW.pt (pw_and (pt_cmpR (kne (K := K) hr) (pe_ix (kix (K := K) hu) (pv 8) pe_int (fun _ _ => rfl)) (pe_ix (kix (K := K) hu) (pv 9) pe_int (fun _ _ => rfl)) (nomark _)) (pw_and (pt_cmpR (knotin (K := K) (P := P) (w := w) hr) (pe_ix (kix (K := K) hu) (pv 9) pe_int (fun _ _ => rfl)) (pv 10) (by rfl)) (pw_and (pt_cmpR op_lt (pe_callB (klen (K := K)) (by rfl) B.len (by decide +kernel) (pa_cons (pv 10) pa_nil)) pe_int (nomark _)) (pw_and (pt_cmpR op_lt (pe_callB (klen (K := K)) (by rfl) B.len (by decide +kernel) (pa_cons (pv 11) pa_nil)) pe_int (nomark _)) (pw_and1 (pt_cmpR op_lt (pe_op (kadd (K := K)) (pv 1) (pv 4)) pe_int (nomark _))))))))
      (pss_cons (ps_expr (kbm (K := K) (pe_bm PySem.F.plainAttrs_list PySem.F.slot_list_insert PySem.F.type_list_insert mt_insert (pv 10) (pa_cons (pe_op (kadd (K := K)) (kbm (K := K) (pe_bm PySem.F.plainAttrs_list PySem.F.slot_list_index PySem.F.type_list_index mt_index (pv 10) (pa_cons (pe_ix (kix (K := K) hu) (pv 8) pe_int (fun _ _ => rfl)) pa_nil))) pe_int) (pa_cons (pe_ix (kix (K := K) hu) (pv 9) pe_int (fun _ _ => rfl)) pa_nil)))))
      (pss_one (ps_expr (kbm (K := K) (pe_bm PySem.F.plainAttrs_list PySem.F.slot_list_insert PySem.F.type_list_insert mt_insert (pv 11) (pa_cons (pe_op (kadd (K := K)) (kbm (K := K) (pe_bm PySem.F.plainAttrs_list PySem.F.slot_list_index PySem.F.type_list_index mt_index (pv 11) (pa_cons (pe_ix (kix (K := K) hu) (pv 9) pe_int (fun _ _ => rfl)) pa_nil))) pe_int) (pa_cons (pe_ix (kix (K := K) hu) (pv 8) pe_int (fun _ _ => rfl)) pa_nil)))))))
      pss_nil))))))
      (pss_one (ps_ret (pv 3)))))), ?_⟩
    walk_at "go"
    intro t nt
    walk_at "go"
    intro l nl
    have lt : l ≠ t := fun e => by rw [e, upd_same] at nl; cases nl
    have nlH : H l = none := (upd_none nl).2
    have ht0 : upd (upd H t (.dK [])) l (.lst []) t = some (.dK []) := by rw [upd_ne lt.symm, upd_same]
    refine ⟨ht0, [(Sum.inl 0, .ref l)], rfl, Nat.le_of_ble_eq_true rfl, ?_⟩
    have w0 : Wb G H (upd (upd (upd H t (.dK [])) l (.lst [])) t (.dK (mergeK [] [(Sum.inl 0, V.ref l)]))) := (((Wb.refl hb).mut nt).mut nlH).mut nt
    have hm : mergeK [] [((Sum.inl 0 : Key), V.ref l)] = [(Sum.inl 0, V.ref l)] := putK_new _ valV_nil
    rw [hm] at w0 ⊢
    have D0 : WdAt H (upd (upd (upd H t (.dK [])) l (.lst [])) t (.dK [(Sum.inl 0, V.ref l)])) t [(Sum.inl 0, [])] := ⟨_, upd_same, .cons ⟨rfl, l, rfl, by rw [upd_ne lt, upd_same]; rfl⟩ .nil, List.nodup_cons.mpr ⟨List.not_mem_nil, List.nodup_nil⟩, fun p hp a e => by rw [List.mem_singleton.mp hp] at e; cases e; exact nlH⟩
    generalize upd (upd (upd H t (.dK [])) l (.lst [])) t (.dK [(Sum.inl 0, V.ref l)]) = H1 at *
    have G0 : Good [((Sum.inl 0 : Key), [])] := ⟨List.nodup_cons.mpr ⟨List.not_mem_nil, List.nodup_nil⟩, fun ur hm => by rw [List.mem_singleton.mp hm]; exact List.nodup_nil, fun u v h => absurd h List.not_mem_nil, fun u v h => absurd h List.not_mem_nil⟩
    clear nl ht0 hm
    walk_at "go"
    refine for_range (lo := 1) (fun i σ H' => ∃ (v4 v5 v6 : Option V) (W : Whl), σ = [some (.ref G.b), some (.int n), some (.int m), some (.ref t), v4, v5, v6, none, none, none, none, none] ∧ Wb G H H' ∧ WdAt H H' t W ∧ Good W ∧ W.map (·.1) = keysN (i + 1) ∧ (1 ≤ i → stepsW W ≠ []) ∧ (stepsW W).length ≤ 2 * i) ⟨_, _, _, _, rfl, w0, D0, G0, rfl, (fun h => absurd h (by decide)), Nat.le_refl _⟩ ?_ ?_
    · rintro i σ H2 hi ⟨v4, v5, v6, W, rfl, w2, ⟨kvs, hd, hp, nv, nf⟩, g, hk, hst, hcnt⟩
      have b2 := w2.bag
      have hWl : W.length = i + 1 := by
        have := congrArg List.length hk
        rw [List.length_map, keysN_len] at this
        exact this
      walk_at "go"
      refine ⟨fun σ H' => ∃ d : Nat, σ = [some (.ref G.b), some (.int n), some (.int m), some (.ref t), some (.int (1 + (i : Int))), some (.int d), v6, none, none, none, none, none] ∧ d < i + 1 ∧ Wb G H2 H', ?_, ?_⟩
      · walk_at "go"
        intro d H3 d0 d1 v3
        walk_at "go"
        obtain ⟨d, rfl⟩ : ∃ c' : Nat, d = (c' : Int) := ⟨d.toNat, by omega⟩
        exact ⟨d, rfl, by omega, v3⟩
      rintro σ H3 ⟨d, rfl, hdi, v3⟩
      have b3 := v3.bag
      have hd3 := v3.keep hd rfl
      have hp3 : Paired (RgP H3) kvs W := Paired.mapP hp fun a b r => r.kp v3.kp
      have inW : ∀ e : Nat, e < i + 1 → (Sum.inl (e : Int) : Key) ∈ W.map (·.1) := fun e he => by rw [hk]; exact keysN_mem.mpr ⟨e, rfl, he⟩
      obtain ⟨r, a, hr, hka, ha, gv⟩ := ring_get hd3 hp3 g.nd (inW d hdi)
      have hrl := ring_small g hr
      have hrm : (r.map kV).length = r.length := List.length_map _
      refine ⟨fun σ H' => ∃ d : Nat, σ = [some (.ref G.b), some (.int n), some (.int m), some (.ref t), some (.int (1 + (i : Int))), some (.int d), v6, none, none, none, none, none] ∧ d < i + 1 ∧ H' = H3, ?_, ?_⟩
      · walk_at "go"
        refine .inr (.inr (.inr ⟨t, .ref a, rfl, gv, ?_⟩))
        walk_at "go"
        refine ite_d (fun c => ?_) (fun c => ?_)
        · walk_at "go"
          first
            | exact ⟨d, rfl, hdi, rfl⟩
            | rfl
        · walk_at "go"
          refine ⟨i, ?_, by omega, rfl⟩
          show [some (V.ref G.b), some (.int n), some (.int m), some (.ref t), some (.int (1 + (i : Int))), some (.int (1 + (i : Int) - 1)), v6, none, none, none, none, none] = _
          rw [show (1 : Int) + (i : Int) - 1 = (i : Int) by omega]
      rintro σ H3' ⟨e, rfl, hei, rfl⟩
      obtain ⟨r, a, hr, hka, ha, gv⟩ := ring_get hd3 hp3 g.nd (inW e hei)
      have hrl := ring_small g hr
      have hrm : (r.map kV).length = r.length := List.length_map _
      walk_at "go"
      refine .inr (.inr (.inr ⟨t, .ref a, rfl, gv, ?_⟩))
      walk_at "go"
      intro c H4 c0 c1 v4
      walk_at "go"
      obtain ⟨c, rfl⟩ : ∃ c' : Nat, c = (c' : Int) := ⟨c.toNat, by omega⟩
      have ha4 := v4.keep ha (nb_keys _).bag
      have hp4 : Paired (RgP H4) kvs W := Paired.mapP hp3 fun a b r => r.kp v4.kp
      have nkk : (kvs.map (·.1)).Nodup := by rw [rgp_keys hp4]; exact g.nd
      refine ⟨a, _, c, .int (1 + (i : Int)), rfl, rfl, ha4, by rw [nat63]; omega, c0, by omega, ?_⟩
      have ei : (1 : Int) + (i : Int) = ((i + 1 : Nat) : Int) := by omega
      have V4 := (w2.trans v3).trans v4
      have haH : H a = none := nf _ hka a rfl
      rw [show V.int (1 + (i : Int)) = kV (Sum.inl (1 + (i : Int))) from rfl, insL_map, show (c : Int).toNat = c from rfl]
      have hd4 := v4.keep hd3 rfl
      have hd5 : upd H4 a (.lst ((insL r c (Sum.inl (1 + (i : Int)))).map kV)) t = some (.dK kvs) := by
        rw [upd_ne (ne_of hd4 ha4 (by intro q; cases q))]
        exact hd4
      have hp5 := rgp_set (r' := insL r c (Sum.inl (1 + (i : Int)))) hp4 nkk nv hka
      have V5 : Wb G H (upd H4 a (.lst ((insL r c (Sum.inl (1 + (i : Int)))).map kV))) := V4.mut haH
      generalize upd H4 a (.lst ((insL r c (Sum.inl (1 + (i : Int)))).map kV)) = H5 at *
      walk_at "go"
      intro z nz
      generalize ez : upd H5 z _ = H6 at *
      have hz := at_new ez
      have v6' := Wb.of_new ez nz V5.bag
      have zs := same_new ez nz
      clear ez
      have zt : t ≠ z := fun e => by rw [← e, hd5] at nz; cases nz
      have hd6 := zs _ _ hd5
      have kl : kvs.length = W.length := Paired.length hp
      walk_at "go"
      refine .inr ⟨t, _, rfl, DPut.k (k := Sum.inl (1 + (i : Int))) hd6 (by rw [nat63]; omega), ?_⟩
      have kno : (Sum.inl (1 + (i : Int)) : Key) ∉ W.map (·.1) := fun h => by
        rw [hk] at h
        obtain ⟨j, ej, hj⟩ := keysN_mem.mp h
        have : (1 : Int) + (i : Int) = (j : Int) := Sum.inl.inj ej
        omega
      have kno2 : (Sum.inl (1 + (i : Int)) : Key) ∉ kvs.map (·.1) := by rw [rgp_keys hp]; exact kno
      rw [putK_new _ (valV_no kno2)]
      have hp6 : Paired (RgP H6) kvs (setR W (Sum.inl (e : Int)) (insL r c (Sum.inl (1 + (i : Int))))) := Paired.mapP hp5 fun a b ⟨q1, z', q2, q3⟩ => ⟨q1, z', q2, zs _ _ q3⟩
      refine ⟨_, _, _, setR W (Sum.inl (e : Int)) (insL r c (Sum.inl (1 + (i : Int)))) ++ [(Sum.inl (1 + (i : Int)), [Sum.inl (e : Int)])], rfl, (V5.trans v6').mut nt, ⟨_, upd_same, RgP.add hd6 hp6 hz, snd_new hp5 nz nv, fun p hpm a' ea => ?_⟩, (g.leaf hr kno).1, ?_, fun _ hn => ?_, by have := (g.leaf (j := c) hr kno).2; omega⟩
      · rcases List.mem_append.mp hpm with hpm | hpm
        · exact nf p hpm a' ea
        · rw [List.mem_singleton.mp hpm] at ea
          cases ea
          exact V5.free nz
      · rw [List.map_append, setR_keys, hk, keysN_succ (i + 1), ← ei]
        rfl
      · have : ((Sum.inl (1 + (i : Int)) : Key), (Sum.inl (e : Int) : Key)) ∈ stepsW (setR W (Sum.inl (e : Int)) (insL r c (Sum.inl (1 + (i : Int)))) ++ [(Sum.inl (1 + (i : Int)), [Sum.inl (e : Int)])]) := mem_steps.mpr ⟨_, List.mem_append_right _ List.mem_cons_self, List.mem_cons_self⟩
        rw [hn] at this
        cases this
    · rintro σ H2 ⟨v4, v5, v6, W, rfl, w2, D2, g, hk, hst, hcnt⟩
      have hk' : W.map (·.1) = keysN n := by rw [hk, show ((n : Int) - 1).toNat + 1 = n by omega]
      clear hk
      walk_at "go"
      refine ite_d (fun c => ?_) (fun c => ?_)
      · have hst' := hst (by omega)
        walk_at "go"
        refine for_range (lo := 0) (fun i σ H' => ∃ (v4 v5 v6 v7 v8 v9 v10 v11 : Option V) (W : Whl), σ = [some (.ref G.b), some (.int n), some (.int m), some (.ref t), v4, v5, v6, v7, v8, v9, v10, v11] ∧ Wb G H H' ∧ WdAt H H' t W ∧ Good W ∧ W.map (·.1) = keysN n ∧ stepsW W ≠ [] ∧ (stepsW W).length ≤ 30 + 2 * i) ⟨_, _, _, _, _, _, _, _, W, rfl, w2, D2, g, hk', hst', by omega⟩ ?_ ?_
        · clear hst hst' hk' g D2 w2 hcnt
          rintro i σ H3 hi ⟨v4, v5, v6, v7, v8, v9, v10, v11, W, rfl, w3, D3, g, hk, hst, hcnt⟩
          have hWl : W.length = n := by
            have := congrArg List.length hk
            rw [List.length_map, keysN_len] at this
            exact this
          have hsl : (stepsW W).length ≤ W.length * W.length := steps_few fun ur hm => ring_small g (u := ur.1) (r := ur.2) hm
          have hsl2 : W.length * W.length ≤ 16 * 16 := Nat.mul_le_mul (by omega) (by omega)
          walk_at "go"
          refine ⟨t, W, rfl, D3.wh, g, by omega, by omega, fun p as rows H4 np fr s4 hp4 hrows R => ?_⟩
          have v4' : Wb G H3 H4 := (Wb.refl w3.bag).same s4
          have hdone : ∀ s ∈ (stepsW W).reverse, s ∈ stepsW W := fun s h => List.mem_reverse.mp h
          have hne := R.some (by rw [Ne, List.reverse_eq_nil_iff]; exact hst)
          have hlen := R.len
          have hal := Paired.length hrows
          rw [List.length_reverse] at hlen
          have hpos : 0 < rows.length := List.length_pos_iff.mpr hne
          refine ⟨G, p, _, rfl, v4'.bag, hp4, (nb_refs _).bag, by rw [List.length_map]; omega, by rw [List.length_map]; omega, fun v H5 hv v5' => ?_⟩
          obtain ⟨a0, ha0, rfl⟩ := List.mem_map.mp hv
          obtain ⟨row, hrow, hR⟩ := paired_mem' hrows ha0
          obtain ⟨rne, rin⟩ := R.row g.one hdone hrow
          have rlen : row.length ≤ rows.flatten.length := by
            have := (List.sublist_flatten_of_mem hrow).length_le
            exact this
          have rfl' : rows.flatten.length ≤ (stepsW W).length := nodup_sub (R.nodup g.one hdone) (R.sub g.one hdone)
          obtain ⟨ts, hts, tts⟩ := hR.kp v5'.kp
          have tl := tts.length
          rw [List.length_map] at tl
          have rpos : 0 < row.length := List.length_pos_iff.mpr rne
          have tn : 0 < (ts.map V.ref).length := by rw [List.length_map]; omega
          have tn2 : (ts.map V.ref).length < 1073741824 := by rw [List.length_map]; omega
          have pick : ∀ (H' : Hp) (v : V), v ∈ ts.map V.ref → Wb G H5 H' → ∃ (q : Addr) (x y : Int), v = .ref q ∧ H' q = some (.tup [.int x, .int y]) ∧ ((Sum.inl x : Key), (Sum.inl y : Key)) ∈ stepsW W := by
            intro H' v hv w
            obtain ⟨q, hq, rfl⟩ := List.mem_map.mp hv
            obtain ⟨j, hj⟩ := List.getElem?_of_mem hq
            obtain ⟨kk, hkk, eq⟩ := tts.get hj
            rw [List.getElem?_map] at hkk
            obtain ⟨s, hs, rfl⟩ := Option.map_eq_some_iff.mp hkk
            have hs' := rin s (List.mem_of_getElem? hs)
            obtain ⟨x, y⟩ := s
            have kx := key_of hs'
            have ky := key_of (g.sym _ _ hs')
            rw [hk] at kx ky
            obtain ⟨x, rfl, _⟩ := keysN_mem.mp kx
            obtain ⟨y, rfl, _⟩ := keysN_mem.mp ky
            exact ⟨q, x, y, rfl, w.keep eq rfl, hs'⟩
          walk_at "go"
          refine ⟨G, a0, _, rfl, v5'.bag, hts, (nb_refs _).bag, tn, tn2, fun v H6 hv1 v6' => ?_⟩
          obtain ⟨q1, x1, y1, rfl, hq1, st1⟩ := pick H6 v hv1 v6'
          walk_at "go"
          refine ⟨G, a0, _, rfl, v6'.bag, v6'.keep hts (nb_refs _).bag, (nb_refs _).bag, tn, tn2, fun v H7 hv2 v7' => ?_⟩
          obtain ⟨q2, x2, y2, rfl, hq2, st2⟩ := pick H7 v hv2 (v6'.trans v7')
          have hq1 := v7'.keep hq1 rfl
          have v37 := ((v4'.trans v5').trans v6').trans v7'
          obtain ⟨kvs, hd, hp, nv, nf⟩ := D3.kp v37.kp
          have w7 := w3.trans v37
          have nkk : (kvs.map (·.1)).Nodup := by rw [rgp_keys hp]; exact g.nd
          obtain ⟨r1, a1, hr1, hk1, ha1, gv1⟩ := ring_get hd hp g.nd (key_of (g.sym _ _ st1))
          obtain ⟨r2, a2, hr2, hk2, ha2, gv2⟩ := ring_get hd hp g.nd (key_of (g.sym _ _ st2))
          have l1 := ring_small g hr1
          have l2 := ring_small g hr2
          have m1 : (r1.map kV).length = r1.length := List.length_map _
          have m2 : (r2.map kV).length = r2.length := List.length_map _
          clear D3 hrows hp4 tts hts R
          walk_at "go"
          refine .inr (.inr (.inr ⟨t, .ref a1, rfl, gv1, ?_⟩))
          walk_at "go"
          refine .inr (.inr (.inr ⟨t, .ref a2, rfl, gv2, ?_⟩))
          walk_at "go"
          have skip : ∀ (v4 v5 v6 v7 v8 v9 v10 v11 : Option V), ∃ (v4' v5' v6' v7' v8' v9' v10' v11' : Option V) (W : Whl), [some (.ref G.b), some (.int n), some (.int m), some (.ref t), v4, v5, v6, v7, v8, v9, v10, v11] = [some (V.ref G.b), some (.int n), some (.int m), some (.ref t), v4', v5', v6', v7', v8', v9', v10', v11'] ∧ Wb G H H7 ∧ WdAt H H7 t W ∧ Good W ∧ W.map (·.1) = keysN n ∧ stepsW W ≠ [] ∧ (stepsW W).length ≤ 30 + 2 * (i + 1) := fun v4 v5 v6 v7 v8 v9 v10 v11 => ⟨v4, v5, v6, v7, v8, v9, v10, v11, W, rfl, w7, ⟨kvs, hd, hp, nv, nf⟩, g, hk, hst, by omega⟩
          refine ite_ndi (fun yne => ?_) (fun _ => ?_)
          rotate_left
          · first
              | exact skip _ _ _ _ _ _ _ _
              | (refine iteF ?_; exact skip _ _ _ _ _ _ _ _)
          walk_at "go"
          refine .inl ⟨a1, _, rfl, .inl (SqL.of ha1), rfl, flat_keys _, ?_⟩
          rw [show inV (V.int y2) (r1.map kV) = memK (Sum.inl y2) r1 from inV_keys (Sum.inl y2) r1]
          refine ⟨_, rfl, ite_if (fun c2 => ?_) (fun _ => ?_)⟩
          rotate_left
          · first
              | exact skip _ _ _ _ _ _ _ _
              | (refine iteF ?_; exact skip _ _ _ _ _ _ _ _)
          have ynot : (Sum.inl y2 : Key) ∉ r1 := fun h => by
            have c3 : (!memK (Sum.inl y2) r1) = true := c2
            rw [memK_iff.mpr h] at c3
            cases c3
          walk_at "go"
          refine ite_d (fun c3 => ?_) (fun _ => ?_)
          rotate_left
          · first
              | exact skip _ _ _ _ _ _ _ _
              | (refine iteF ?_; exact skip _ _ _ _ _ _ _ _)
          walk_at "go"
          refine ite_d (fun c4 => ?_) (fun _ => ?_)
          rotate_left
          · first
              | exact skip _ _ _ _ _ _ _ _
              | (refine iteF ?_; exact skip _ _ _ _ _ _ _ _)
          walk_at "go"
          refine ite_d (fun c5 => ?_) (fun _ => ?_)
          rotate_left
          · first
              | exact skip _ _ _ _ _ _ _ _
              | (refine iteF ?_; exact skip _ _ _ _ _ _ _ _)
          walk_at "go"
          have mem1 : (Sum.inl x1 : Key) ∈ r1 := by
            obtain ⟨r', hr', m'⟩ := mem_steps.mp (g.sym _ _ st1)
            rw [ring_uni g.nd hr1 hr']
            exact m'
          have mem2 : (Sum.inl x2 : Key) ∈ r2 := by
            obtain ⟨r', hr', m'⟩ := mem_steps.mp (g.sym _ _ st2)
            rw [ring_uni g.nd hr2 hr']
            exact m'
          have ab : (Sum.inl y1 : Key) ≠ Sum.inl y2 := fun e => yne (Sum.inl.inj e)
          have aa : a2 ≠ a1 := fun e => by
            have := inj_of_nodup nv hk1 hk2 (show V.ref a1 = V.ref a2 by rw [e])
            exact ab (congrArg Prod.fst this)
          obtain ⟨j1, hj1, i1, i2, i3⟩ := index_key (g.rn _ hr1) mem1
          have hj1 : j1 < r1.length := hj1
          refine ⟨a1, _, _, j1, _, rfl, rfl, SqL.of ha1, rfl, flat_keys _, i1, i2, i3, ?_⟩
          walk_at "go"
          refine ⟨a1, _, (j1 : Int) + 1, .int y2, rfl, rfl, ha1, by rw [nat63]; omega, by omega, by omega, ?_⟩
          rw [show V.int y2 = kV (Sum.inl y2) from rfl, insL_map, show ((j1 : Int) + 1).toNat = j1 + 1 by omega]
          have hd8 : upd H7 a1 (.lst ((insL r1 (j1 + 1) (Sum.inl y2)).map kV)) t = some (.dK kvs) := by
            rw [upd_ne (ne_of hd ha1 (by intro q; cases q))]
            exact hd
          have hp8 := rgp_set (r' := insL r1 (j1 + 1) (Sum.inl y2)) hp nkk nv hk1
          have ha28 : upd H7 a1 (.lst ((insL r1 (j1 + 1) (Sum.inl y2)).map kV)) a2 = some (.lst (r2.map kV)) := by rw [upd_ne aa]; exact ha2
          have tup8 : ∀ z xs, H7 z = some (.tup xs) → upd H7 a1 (.lst ((insL r1 (j1 + 1) (Sum.inl y2)).map kV)) z = some (.tup xs) := fun z xs h => by rw [upd_ne (ne_of h ha1 (by intro q; cases q))]; exact h
          have w8 : Wb G H (upd H7 a1 (.lst ((insL r1 (j1 + 1) (Sum.inl y2)).map kV))) := w7.mut (nf _ hk1 a1 rfl)
          have hq18 := tup8 _ _ hq1
          have hq28 := tup8 _ _ hq2
          generalize upd H7 a1 (.lst ((insL r1 (j1 + 1) (Sum.inl y2)).map kV)) = H8 at *
          walk_at "go"
          obtain ⟨j2, hj2, i4, i5, i6⟩ := index_key (g.rn _ hr2) mem2
          have hj2 : j2 < r2.length := hj2
          refine ⟨a2, _, _, j2, _, rfl, rfl, SqL.of ha28, rfl, flat_keys _, i4, i5, i6, ?_⟩
          walk_at "go"
          refine ⟨a2, _, (j2 : Int) + 1, .int y1, rfl, rfl, ha28, by rw [nat63]; omega, by omega, by omega, ?_⟩
          rw [show V.int y1 = kV (Sum.inl y1) from rfl, insL_map, show ((j2 : Int) + 1).toNat = j2 + 1 by omega]
          have hd9 : upd H8 a2 (.lst ((insL r2 (j2 + 1) (Sum.inl y1)).map kV)) t = some (.dK kvs) := by
            rw [upd_ne (ne_of hd8 ha28 (by intro q; cases q))]
            exact hd8
          have hp9 := rgp_set (r' := insL r2 (j2 + 1) (Sum.inl y1)) hp8 nkk nv hk2
          have gc := g.chord (j := j1 + 1) (k := j2 + 1) hr1 hr2 ab ynot
          refine ⟨_, _, _, _, _, _, _, _, setR (setR W (Sum.inl y1) (insL r1 (j1 + 1) (Sum.inl y2))) (Sum.inl y2) (insL r2 (j2 + 1) (Sum.inl y1)), rfl, w8.mut (nf _ hk2 a2 rfl), ⟨kvs, hd9, hp9, nv, nf⟩, gc.1, by rw [setR_keys, setR_keys]; exact hk, fun e => ?_, by have := gc.2; omega⟩
          have hb1 : ((Sum.inl y2 : Key), r2) ∈ setR W (Sum.inl y1) (insL r1 (j1 + 1) (Sum.inl y2)) := mem_setR.mpr (.inl ⟨ab.symm, hr2⟩)
          have : ((Sum.inl y2 : Key), (Sum.inl y1 : Key)) ∈ stepsW (setR (setR W (Sum.inl y1) (insL r1 (j1 + 1) (Sum.inl y2))) (Sum.inl y2) (insL r2 (j2 + 1) (Sum.inl y1))) := (steps_setR (by rw [setR_keys]; exact g.nd) hb1 (fun v => mem_insL)).mpr (.inr ⟨rfl, rfl⟩)
          rw [e] at this
          cases this
        · rintro σ H3 ⟨v4, v5, v6, v7, v8, v9, v10, v11, W, rfl, w3, D3, g, hk, _, hcnt⟩
          walk_at "go"
          exact q t W _ nt D3.wh g hk (by omega) w3
      · walk_at "go"
        refine for_range (lo := 0) (fun i σ H' => (∃ v4, σ = [some (.ref G.b), some (.int n), some (.int m), some (.ref t), v4, v5, v6, none, none, none, none, none]) ∧ H' = H2) ⟨⟨_, rfl⟩, rfl⟩ ?_ ?_
        · intro i σ H' hi
          exact absurd hi (Nat.not_lt_zero _)
        · rintro σ H' ⟨⟨_, rfl⟩, rfl⟩
          walk_at "go"
          exact q t W _ nt D2.wh g hk' (by omega) w2
end

end Y

namespace Y
open PySem PySem.Spec PyProof.Rows L2
def sp_mixed : Sp := fun vs H Q _ => ∃ (G : BagId) (t : Addr) (xs : List V), vs = [.ref G.b, .ref t] ∧ Bag G H ∧ H t = some (.lst xs) ∧ nb xs ∧ xs.length ≤ 100000 ∧ ∀ (p : Addr) (ys : List V) (H' : Hp), ys.Perm xs → H p = none → H' p = some (.lst ys) → Wb G H H' → Q (.ref p) H'
theorem sc__law_mixed : FnScope ["bag", "things", "rest", "told", "k"] ["bag", "things"] (defScope s__law_mixed) := ⟨rfl, rfl, rfl, by decide +kernel, rfl, by decide +kernel, by decide +kernel⟩
local macro_rules | `(tactic| walk_at "hp") => `(tactic| first
  | assumption
  | exact upd_same
  | (refine (upd_ne (by first | assumption | exact Ne.symm (by assumption))).trans ?_; walk_at "hp"))
local macro_rules | `(tactic| walk_at "sz") => `(tactic| first
  | (rw [nat63]; omega)
  | (rw [nat63]; exact Nat.le_of_ble_eq_true rfl)
  | (simp only [nat63, List.length_append, List.length_cons, List.length_nil, List.length_map, List.length_set]; omega))
local macro_rules | `(tactic| walk_at "sd") => `(tactic| (try dsimp only [CDiv, CMul, CPow]); first
  | (with_reducible assumption)
  | omega
  | decide
  | walk_at "sz"
  | exact ⟨by omega, by omega⟩
  | exact ⟨by omega, by omega, by omega⟩
  | exact Or.inr ⟨by omega, by omega⟩
  | exact Or.inl ⟨by omega, by omega⟩)
local macro_rules | `(tactic| walk_at "go") => `(tactic| repeat (first
  | refine ⟨_, rfl, ?_⟩
  | refine ⟨_, _, rfl, rfl, ?_⟩
  | refine Or.inl ⟨_, rfl, ?_⟩
  | refine Or.inl ⟨_, _, rfl, rfl, ?_⟩
  | refine Or.inl ⟨_, _, _, _, rfl, rfl, SqL.of (by walk_at "hp"), rfl, ?_⟩
  | refine Or.inl ⟨rfl, ?_⟩
  | refine Or.inl ⟨_, _, _, _, rfl, rfl, (by walk_at "hp"), rfl, ?_⟩
  | refine Or.inr (Or.inl ⟨_, _, _, _, rfl, rfl, SqT.of (by walk_at "hp"), rfl, ?_⟩)
  | refine Or.inl ⟨_, _, rfl, Or.inl ⟨_, SqL.of (by walk_at "hp"), rfl⟩, ?_⟩
  | (with_reducible refine iteF ?_)
  | (with_reducible refine iteT ?_)
  | refine And.intro (by walk_at "sd") ?_
  | refine ⟨Or.inl ⟨rfl, _, SqL.of (by walk_at "hp")⟩, ?_⟩
  | refine ⟨_, _, _, rfl, rfl, (by walk_at "hp"), (by walk_at "sz"), ?_⟩
  | refine ⟨_, _, rfl, SqT.of (by walk_at "hp"), rfl, ?_⟩
  | refine ⟨_, _, rfl, ?_⟩
  | refine ⟨_, _, _, rfl, ?_⟩
  | refine ⟨rfl, ?_⟩))

section
variable {P : Program} {w : World} {K : PySem.W.Frag} {mg : Str → Option Value} {base : Heap}
theorem ok__law_mixed {f : Addr} {fd : FuncData} (F : Fun K "_law_mixed" "_law_mixed" s__law_mixed f fd) (B : Blt mg) (G__law_draw : Fn P w K mg base 1 "_law_draw" ["bag", "limit"] sp_draw) : FnOk P w K mg base CX0 2 f fd ["bag", "things"] sp_mixed := by
  refine F.ok sc__law_mixed (fun vs H Q E h => ?_) (fun cdv A outer s H vs Q E hr h => ?_)
  · obtain ⟨G, t, xs, rfl, _⟩ := h
    rfl
  · obtain ⟨G, t, xs, rfl, hb, ht, hn, h1, q⟩ := h
    have hu := hu_of hr
    refine ⟨_, (pss_cons (ps_par rfl sc__law_mixed.nd (i := 2) (j := 3) rfl rfl (by decide) rfl rfl (pa_cons (pe_callTy (klist (K := K)) (by rfl) B.list (by decide +kernel) (pa_cons (pv 1) pa_nil)) (pa_cons (pe_lst pa_nil) pa_nil)) (by rfl))
      (pss_cons (ps_for PassesOwn.never rfl (pi_range1 (by rfl) B.range (pa_cons (pe_callB (klen (K := K)) (by rfl) B.len (by decide +kernel) (pa_cons (pv 2) pa_nil)) pa_nil)) (pg_name (i := 4) sc__law_mixed.nd rfl (Or.inl rfl))
      (pss_one (ps_expr (kbm (K := K) (pe_bm PySem.F.plainAttrs_list PySem.F.slot_list_append PySem.F.type_list_append mt_append (pv 3) (pa_cons (kbm (K := K) (pe_bm PySem.F.plainAttrs_list PySem.F.slot_list_pop PySem.F.type_list_pop mt_popAt (pv 2) (pa_cons (pe_fn G__law_draw (hr.mono (by decide)) (by rfl) (pa_cons (pv 0) (pa_cons (pe_callB (klen (K := K)) (by rfl) B.len (by decide +kernel) (pa_cons (pv 2) pa_nil)) pa_nil))) pa_nil))) pa_nil))))))
      (pss_one (ps_ret (pv 3))))), ?_⟩
    walk_at "go"
    refine Or.inl ⟨_, _, rfl, Or.inl (SqL.of ht), fun r nr => ?_⟩
    walk_at "go"
    intro p np
    obtain ⟨npr, np'⟩ := upd_none np
    have w0 : Wb G H (upd (upd H r (.lst xs)) p (.lst [])) := ((Wb.refl hb).mut nr).mut np'
    walk_at "go"
    refine for_range (lo := 0) (n := xs.length) (fun i σ H' => ∃ (ys zs : List V) (v : Option V), σ = [some (.ref G.b), some (.ref t), some (.ref r), some (.ref p), v] ∧ (ys ++ zs).Perm xs ∧ ys.length = i ∧ H' r = some (.lst zs) ∧ H' p = some (.lst ys) ∧ Wb G H H')
      ⟨[], xs, none, rfl, List.Perm.refl _, rfl, by rw [upd_ne (Ne.symm npr), upd_same], upd_same, w0⟩ ?_ ?_
    · rintro i σ H1 hi ⟨ys, zs, v, rfl, pm, hl, hr1, hp1, w1⟩
      have hlen := pm.length_eq
      rw [List.length_append] at hlen
      have b1 := w1.bag
      walk_at "go"
      intro d H2 d0 d1 w2
      have hr2 := w2.kp.keep _ _ hr1 (hn.sub fun y hy => pm.subset (List.mem_append_right _ hy)).bag
      have hp2 := w2.kp.keep _ _ hp1 (hn.sub fun y hy => pm.subset (List.mem_append_left _ hy)).bag
      obtain ⟨j, rfl⟩ : ∃ j : Nat, d = (j : Int) := ⟨d.toNat, by omega⟩
      have hj : j < zs.length := by omega
      refine ⟨r, zs, j, j, zs[j], rfl, rfl, hr2, by omega, by omega, seqIx_nat hj, List.getElem?_eq_getElem hj, ?_⟩
      have hp3 : upd H2 r (.lst (zs.eraseIdx j)) p = some (.lst ys) := by rw [upd_ne npr]; exact hp2
      walk_at "go"
      refine ⟨ys ++ [zs[j]], zs.eraseIdx j, _, rfl, ?_, by simp [hl], by rw [upd_ne (Ne.symm npr), upd_same], upd_same, ((w1.trans w2).mut nr).mut np'⟩
      refine List.Perm.trans ?_ pm
      rw [List.append_assoc]
      exact List.Perm.append_left _ (perm_erase hj)
    · rintro σ H1 ⟨ys, zs, v, rfl, pm, hl, hr1, hp1, w1⟩
      have hlen := pm.length_eq
      rw [List.length_append] at hlen
      have hz : zs = [] := List.eq_nil_of_length_eq_zero (by omega)
      subst hz
      rw [List.append_nil] at pm
      walk_at "go"
      exact q p ys H1 pm np' hp1 w1
end

end Y

namespace Y
open PySem PySem.Spec PyProof.Rows L2
theorem sc__law_titled : FnScope ["bag", "wheel", "titles", "told", "k", "ring", "spot", "j"] ["bag", "wheel", "titles"] (defScope s__law_titled) := ⟨rfl, rfl, rfl, by decide +kernel, rfl, by decide +kernel, by decide +kernel⟩
local macro_rules | `(tactic| walk_at "hp") => `(tactic| first
  | assumption
  | exact upd_same
  | (refine (upd_ne (by first | assumption | exact Ne.symm (by assumption))).trans ?_; walk_at "hp"))
local macro_rules | `(tactic| walk_at "sz") => `(tactic| first
  | (rw [nat63]; omega)
  | (rw [nat63]; exact Nat.le_of_ble_eq_true rfl)
  | (simp only [nat63, List.length_append, List.length_cons, List.length_nil, List.length_map, List.length_set]; omega))
local macro_rules | `(tactic| walk_at "sd") => `(tactic| (try dsimp only [CDiv, CMul, CPow]); first
  | (with_reducible assumption)
  | omega
  | decide
  | walk_at "sz"
  | exact ⟨by omega, by omega⟩
  | exact ⟨by omega, by omega, by omega⟩
  | exact Or.inr ⟨by omega, by omega⟩
  | exact Or.inl ⟨by omega, by omega⟩)
local macro_rules | `(tactic| walk_at "go") => `(tactic| repeat (first
  | refine ⟨_, rfl, ?_⟩
  | refine ⟨_, _, rfl, rfl, ?_⟩
  | refine Or.inl ⟨_, rfl, ?_⟩
  | refine Or.inl ⟨_, _, rfl, rfl, ?_⟩
  | refine Or.inl ⟨_, _, _, _, rfl, rfl, SqL.of (by walk_at "hp"), rfl, ?_⟩
  | refine Or.inl ⟨rfl, ?_⟩
  | refine Or.inl ⟨_, _, _, _, rfl, rfl, (by walk_at "hp"), rfl, ?_⟩
  | refine Or.inr (Or.inl ⟨_, _, _, _, rfl, rfl, SqT.of (by walk_at "hp"), rfl, ?_⟩)
  | refine Or.inl ⟨_, _, rfl, Or.inl ⟨_, SqL.of (by walk_at "hp"), rfl⟩, ?_⟩
  | (with_reducible refine iteF ?_)
  | (with_reducible refine iteT ?_)
  | refine And.intro (by walk_at "sd") ?_
  | refine ⟨Or.inl ⟨rfl, _, SqL.of (by walk_at "hp")⟩, ?_⟩
  | refine ⟨_, _, _, rfl, rfl, (by walk_at "hp"), (by walk_at "sz"), ?_⟩
  | refine ⟨_, _, rfl, SqT.of (by walk_at "hp"), rfl, ?_⟩
  | refine ⟨_, _, rfl, ?_⟩
  | refine ⟨_, _, _, rfl, ?_⟩
  | refine ⟨⟨_, rfl⟩, ?_⟩
  | refine ⟨rfl, ?_⟩))
local macro_rules | `(tactic| walk_at "nb") => `(tactic| first
  | exact (nb_vs1 _).bag
  | exact (nb_strs _).bag
  | exact (nb_vsS _).bag
  | exact (nb_refs _).bag
  | assumption
  | rfl)
local macro_rules | `(tactic| walk_at "hp") => `(tactic| first
  | assumption
  | with_reducible exact upd_same
  | ((with_reducible apply upd_keep); assumption; walk_at "hp")
  | ((with_reducible apply Wb.keep); assumption; walk_at "hp"; walk_at "nb")
  | ((with_reducible apply Same.keep); assumption; walk_at "hp"))
local macro_rules | `(tactic| walk_at "wb") => `(tactic| first
  | assumption
  | exact Wb.refl (by assumption)
  | (apply Wb.trans2; assumption; walk_at "wb1")
  | (apply Wb.same2; assumption; walk_at "wb1"))
local macro_rules | `(tactic| walk_at "wb1") => `(tactic| walk_at "wb")
local macro_rules | `(tactic| walk_at "sd") => `(tactic| with_reducible exact Wb.bag (by assumption))

def sp_titled : Sp := fun vs H Q _ => ∃ (G : BagId) (d a : Addr) (n : Nat) (W : Whl) (xs : List Str), vs = [.ref G.b, .ref d, .ref a] ∧ Bag G H ∧ WhAt H d W ∧ (W.map (·.1)).Nodup ∧ (∀ ur ∈ W, InR n ur.1 ∧ (∀ v ∈ ur.2, InR n v) ∧ ur.2.length ≤ 1000) ∧ W.length ≤ 1000 ∧ H a = some (.lst (xs.map V.str)) ∧ xs.length = n ∧ xs.Nodup ∧
  ∀ (p : Addr) (ks : List Key) (W' : Whl) (H' : Hp), H p = none → WhAt H' p W' → ks.Perm (W.map (·.1)) → Paired (TitledP W xs) ks W' → Wb G H H' → Q (.ref p) H'
section
variable {P : Program} {w : World} {K : PySem.W.Frag} {mg : Str → Option Value} {base : Heap}
theorem ok__law_titled {f : Addr} {fd : FuncData} (F : Fun K "_law_titled" "_law_titled" s__law_titled f fd) (B : Blt mg) (G__law_draw : Fn P w K mg base 1 "_law_draw" ["bag", "limit"] sp_draw) (G__law_mixed : Fn P w K mg base 2 "_law_mixed" ["bag", "things"] sp_mixed) : FnOk P w K mg base CX0 3 f fd ["bag", "wheel", "titles"] sp_titled := by
  refine F.ok sc__law_titled (fun vs H Q E h => ?_) (fun cdv A outer s H vs Q E hr h => ?_)
  · obtain ⟨G, d, a, n, W, xs, rfl, _⟩ := h
    rfl
  · obtain ⟨G, d, a, n, W, xs, rfl, hb, ⟨kvs, hd, hk⟩, gn, gr, z1, ha, hxl, hxn, q⟩ := h
    have hu := hu_of hr
    refine ⟨_, (pss_cons (ps_set (i := 3) sc__law_titled.nd rfl (Or.inl rfl) pe_dnewK)
      (pss_cons (ps_for PassesOwn.never rfl (kpi_list (K := K) (pe_fn G__law_mixed (hr.mono (by decide)) (by rfl) (pa_cons (pv 0) (pa_cons (pe_callTy (klist (K := K)) (by rfl) B.list (by decide +kernel) (pa_cons (pv 1) pa_nil)) pa_nil)))) (pg_name (i := 4) sc__law_titled.nd rfl (Or.inl rfl))
      (pss_cons (ps_setLc (i := 5) (own := [("j", 7)]) rfl sc__law_titled.nd rfl rfl (sw_true rfl rfl rfl (by decide +kernel)) (kpi_list (K := K) (pe_ix (kix (K := K) hu) (pv 1) (pv 4) (fun _ _ => rfl))) (blkOk_by (own := [("j", 7)]) (N := ["bag", "wheel", "titles", "told", "k", "ring", "spot", "j"]) (sc := defScope s__law_titled) (by decide +kernel)) (fun _ _ _ _ _ => (pg_name (i := 7) sc__law_titled.nd rfl (Or.inl rfl))) (fun _ _ _ _ _ => pts_nil) (fun _ _ _ _ _ => (pe_ix (kix (K := K) hu) (pv 2) (pv 7) (fun _ _ => rfl))))
      (pss_cons (ps_set (i := 6) sc__law_titled.nd rfl (Or.inl rfl) (pe_fn G__law_draw (hr.mono (by decide)) (by rfl) (pa_cons (pv 0) (pa_cons (pe_op (kadd (K := K)) (pe_callB (klen (K := K)) (by rfl) B.len (by decide +kernel) (pa_cons (pv 5) pa_nil)) pe_int) pa_nil))))
      (pss_one (ps_asg (pe_op (kadd (K := K)) (pe_slice (ksl (K := K)) (pv 5) (po_some (pv 6)) po_none) (pe_slice (ksl (K := K)) (pv 5) po_none (po_some (pv 6)))) (pg_sub (pv 3) (pe_ix (kix (K := K) hu) (pv 2) (pv 4) (fun _ _ => rfl)) (set_any hu)))))))
      (pss_one (ps_ret (pv 3))))), ?_⟩
    have nk : (kvs.map (·.1)).Nodup := by rw [rgp_keys hk]; exact gn
    have hl : kvs.length = W.length := Paired.length hk
    walk_at "go"
    intro t nt
    generalize et : upd H t _ = H2 at *
    have ht2 := at_new et
    have v2 := Wb.of_new et nt hb
    clear et
    have hd2 := v2.keep hd rfl
    walk_at "go"
    refine .inr (.inl ⟨d, kvs, rfl, hd2, fun l nl => ?_⟩)
    generalize el : upd H2 l _ = H3 at *
    have hl3 := at_new el
    have v3 := Wb.of_new el nl v2.bag
    clear el
    rw [show (kvs.map fun kv => kV kv.1) = (kvs.map (·.1)).map kV from by rw [List.map_map]; rfl, rgp_keys hk] at hl3
    refine ⟨G, l, _, rfl, v3.bag, hl3, nb_keys _, by rw [List.length_map, List.length_map]; omega, fun p ys H4 pm np hp4 v4 => ?_⟩
    obtain ⟨kk, rfl, pk⟩ := perm_map_inv pm rfl
    have v24 := (v2.trans v3).trans v4
    have ht4 := v4.keep (v3.keep ht2 rfl) rfl
    walk_at "go"
    refine ⟨⟨_, SqL.of hp4⟩, for_list (K := K) (a := p) (xs := kk.map kV) (fun i σ H' => ∃ (v5 v6 v7 : Option V) (ks : List (Key × V)) (W' : Whl), σ = [some (.ref G.b), some (.ref d), some (.ref a), some (.ref t), v5, v6, v7, none] ∧ Wb G H H' ∧ H' p = some (.lst (kk.map kV)) ∧ H' t = some (.dK ks) ∧ Paired (RgP H') ks W' ∧ Paired (TitledP W xs) (kk.take i) W') ?_ ?_ ?_ ?_⟩
    · exact ⟨_, _, _, [], [], rfl, v24, hp4, ht4, .nil, .nil⟩
    · rintro i σ H' _ ⟨_, _, _, ks, W', rfl, _, hp', _⟩
      exact SqL.of hp'
    · rintro i x σ H5 hx ⟨v5, v6, v7, ks, W', rfl, w5, hp5, ht5, hq, hW⟩
      rw [List.getElem?_map] at hx
      obtain ⟨k, hk', rfl⟩ := Option.map_eq_some_iff.mp hx
      have b5 := w5.bag
      have hm := pk.subset (List.mem_of_getElem? hk')
      obtain ⟨⟨k', r⟩, hWm, e⟩ := List.mem_map.mp hm
      obtain rfl : k' = k := e
      obtain ⟨kv, hkv, e1, a', e2, ha'⟩ := paired_mem hk hWm
      obtain ⟨k0, v0⟩ := kv
      obtain rfl : k0 = k' := e1
      obtain rfl : v0 = V.ref a' := e2
      obtain ⟨g1, g2, g3⟩ := gr _ hWm
      have g3 : r.length ≤ 1000 := g3
      have g1 : InR n k0 := g1
      have g2 : ∀ v ∈ r, InR n v := g2
      have hd5 := w5.keep hd rfl
      have ha5 := w5.keep ha (nb_strs _).bag
      have hr5 := w5.keep ha' (nb_keys _).bag
      have gv : ∀ H', H' d = some (.dK kvs) → DGet H' d (kV k0) (some (.ref a')) := fun H' h => .inl ⟨kvs, k0, .inl h, rfl, (valV_of nk hkv).symm⟩
      walk_at "go"
      refine .inr (.inr (.inr ⟨d, .ref a', rfl, gv _ hd5, ?_⟩))
      walk_at "go"
      refine ⟨⟨_, SqL.of hr5⟩, fun D nD => ?_⟩
      have hL : (r.map kV).length = r.length := List.length_map _
      refine lc_acc (walk_list (K := K) (a := a') (xs := r.map kV)) (fun i => fm (fun _ => true) (fun v => kV (tk xs v)) r i) rfl nD (fun H' s => SqL.of (s _ _ hr5)) (fun i hi => Nat.le_trans fm_len (by omega)) ?_ ?_
      · rintro j y H8 H9 hj s8 ⟨rfl, hy⟩ N Yd hN hY
        rw [List.getElem?_map] at hy
        obtain ⟨v, hv, rfl⟩ := Option.map_eq_some_iff.mp hy
        obtain ⟨c, rfl, hc⟩ := at_tk hxl (g2 _ (List.mem_of_getElem? hv))
        have ha9 := s8 _ _ ha5
        walk_at "go"
        refine .inl ⟨a, _, _, _, rfl, rfl, SqL.of ha9, hc, ?_⟩
        exact hY _ _ (fm_yes hv rfl) (Same.refl _)
      · intro H8 s8 hD8
        rw [fm_all hL, List.filter_eq_self.mpr (fun _ _ => rfl), show (r.map fun v => kV (tk xs v)) = (r.map (tk xs)).map kV from by rw [List.map_map]; rfl] at hD8
        have w8 := w5.same s8
        have b8 := w8.bag
        have hL2 : ((r.map (tk xs)).map kV).length = r.length := by rw [List.length_map, List.length_map]
        walk_at "go"
        intro c H9 c0 c1 v9
        obtain ⟨c, rfl⟩ : ∃ c' : Nat, c = (c' : Int) := ⟨c.toNat, by omega⟩
        have hD9 := v9.keep hD8 (nb_keys _).bag
        walk_at "go"
        refine .inl ⟨D, _, rfl, SqL.of hD9, fun z1' nz1 => ?_⟩
        rw [cutV_drop, ← List.map_drop]
        generalize ez : upd H9 z1' _ = H10 at *
        have hz1 := at_new ez
        have v10 := Wb.of_new ez nz1 v9.bag
        clear ez
        have hD10 := v10.keep hD9 (nb_keys _).bag
        walk_at "go"
        refine .inl ⟨D, _, rfl, SqL.of hD10, fun z2' nz2 => ?_⟩
        rw [cutV_take, ← List.map_take]
        generalize ez : upd H10 z2' _ = H11 at *
        have hz2 := at_new ez
        have v11 := Wb.of_new ez nz2 v10.bag
        clear ez
        have hz11 := v11.keep hz1 (nb_keys _).bag
        refine .inr (.inr (.inl ⟨z1', z2', _, _, rfl, rfl, hz11, hz2, by rw [nat63, List.length_map, List.length_map, List.length_drop, List.length_take, List.length_map]; omega, fun z3 nz3 => ?_⟩))
        rw [← List.map_append]
        generalize ez : upd H11 z3 _ = H12 at *
        have hz3 := at_new ez
        have v12 := Wb.of_new ez nz3 v11.bag
        clear ez
        have v812 := ((v9.trans v10).trans v11).trans v12
        have w512 : Wb G H5 H12 := ((Wb.refl b5).same s8).trans v812
        have ha12 := w512.keep ha5 (nb_strs _).bag
        have ht12 := w512.keep ht5 rfl
        obtain ⟨c', rfl, hc'⟩ := at_tk hxl g1
        have hks := Paired.length hq
        have hWs := Paired.length hW
        rw [List.length_take] at hWs
        have hkl : kk.length = W.length := by rw [pk.length_eq, List.length_map]
        walk_at "go"
        refine .inl ⟨a, _, _, _, rfl, rfl, SqL.of ha12, hc', ?_⟩
        walk_at "go"
        refine .inr ⟨t, _, rfl, DPut.k (k := tk xs (Sum.inl (c' : Int))) ht12 (by rw [nat63]; omega), ?_⟩
        have kn : tk xs (Sum.inl (c' : Int)) ∉ ks.map (·.1) := by
          rw [rgp_keys hq]
          intro m
          obtain ⟨ur, hm2, e⟩ := List.mem_map.mp m
          obtain ⟨k2, hk2, e2, _⟩ := paired_mem hW hm2
          rw [e2] at e
          obtain ⟨⟨k3, r3⟩, hW3, e3⟩ := List.mem_map.mp (pk.subset (List.mem_of_mem_take hk2))
          obtain rfl : k3 = k2 := e3
          have := tk_inj hxn hxl (gr _ hW3).1 g1 e
          subst this
          exact nd_take (pk.nodup_iff.mpr gn) hk' hk2
        rw [putK_new _ (valV_no kn)]
        refine ⟨_, _, _, ks ++ [(tk xs (Sum.inl (c' : Int)), .ref z3)], W' ++ [(tk xs (Sum.inl (c' : Int)), (r.map (tk xs)).drop c ++ (r.map (tk xs)).take c)], rfl, (w5.trans w512).mut nt, ?_, upd_same, RgP.add ht12 (Paired.mapP hq fun a b r => r.kp w512.kp) hz3, ?_⟩
        · have hp12 := w512.keep hp5 (nb_keys _).bag
          rw [upd_ne (ne_of hp12 ht12 (by intro q; cases q))]
          exact hp12
        · rw [take_snoc hk']
          exact paired_snoc ⟨rfl, by rw [rgW_of gn hWm]; exact rot_perm _ _⟩ hW
    · rintro σ H4 ⟨v5, v6, v7, ks, W', rfl, w5, hp5, ht5, hq, hW⟩
      rw [List.length_map, List.take_length] at hW
      walk_at "go"
      exact q t kk W' _ nt ⟨ks, ht5, hq⟩ pk hW w5
end

end Y

namespace Y
open PySem PySem.Spec PyProof.Rows L2
theorem sc__law_strings : FnScope ["bag", "titles", "one"] ["bag", "titles"] (defScope s__law_strings) := ⟨rfl, rfl, rfl, by decide +kernel, rfl, by decide +kernel, by decide +kernel⟩
local macro_rules | `(tactic| walk_at "hp") => `(tactic| first
  | assumption
  | exact upd_same
  | (refine (upd_ne (by first | assumption | exact Ne.symm (by assumption))).trans ?_; walk_at "hp"))
local macro_rules | `(tactic| walk_at "sz") => `(tactic| first
  | (rw [nat63]; omega)
  | (rw [nat63]; exact Nat.le_of_ble_eq_true rfl)
  | (simp only [nat63, List.length_append, List.length_cons, List.length_nil, List.length_map, List.length_set]; omega))
local macro_rules | `(tactic| walk_at "sd") => `(tactic| (try dsimp only [CDiv, CMul, CPow]); first
  | (with_reducible assumption)
  | omega
  | decide
  | walk_at "sz"
  | exact ⟨by omega, by omega⟩
  | exact ⟨by omega, by omega, by omega⟩
  | exact Or.inr ⟨by omega, by omega⟩
  | exact Or.inl ⟨by omega, by omega⟩)
local macro_rules | `(tactic| walk_at "go") => `(tactic| repeat (first
  | refine ⟨_, rfl, ?_⟩
  | refine ⟨_, _, rfl, rfl, ?_⟩
  | refine Or.inl ⟨_, rfl, ?_⟩
  | refine Or.inl ⟨_, _, rfl, rfl, ?_⟩
  | refine Or.inl ⟨_, _, _, _, rfl, rfl, SqL.of (by walk_at "hp"), rfl, ?_⟩
  | refine Or.inl ⟨rfl, ?_⟩
  | refine Or.inl ⟨_, _, _, _, rfl, rfl, (by walk_at "hp"), rfl, ?_⟩
  | refine Or.inr (Or.inl ⟨_, _, _, _, rfl, rfl, SqT.of (by walk_at "hp"), rfl, ?_⟩)
  | refine Or.inl ⟨_, _, rfl, Or.inl ⟨_, SqL.of (by walk_at "hp"), rfl⟩, ?_⟩
  | (with_reducible refine iteF ?_)
  | (with_reducible refine iteT ?_)
  | refine And.intro (by walk_at "sd") ?_
  | refine ⟨Or.inl ⟨rfl, _, SqL.of (by walk_at "hp")⟩, ?_⟩
  | refine ⟨_, _, _, rfl, rfl, (by walk_at "hp"), (by walk_at "sz"), ?_⟩
  | refine ⟨_, _, rfl, SqT.of (by walk_at "hp"), rfl, ?_⟩
  | refine ⟨_, _, rfl, ?_⟩
  | refine ⟨_, _, _, rfl, ?_⟩
  | refine ⟨⟨_, rfl⟩, ?_⟩
  | refine ⟨rfl, ?_⟩))
local macro_rules | `(tactic| walk_at "nb") => `(tactic| first
  | exact (nb_vs1 _).bag
  | exact (nb_strs _).bag
  | exact (nb_vsS _).bag
  | exact (nb_refs _).bag
  | assumption
  | rfl)
local macro_rules | `(tactic| walk_at "hp") => `(tactic| first
  | assumption
  | with_reducible exact upd_same
  | ((with_reducible apply upd_keep); assumption; walk_at "hp")
  | ((with_reducible apply Wb.keep); assumption; walk_at "hp"; walk_at "nb")
  | ((with_reducible apply Same.keep); assumption; walk_at "hp"))
local macro_rules | `(tactic| walk_at "wb") => `(tactic| first
  | assumption
  | exact Wb.refl (by assumption)
  | (apply Wb.trans2; assumption; walk_at "wb1")
  | (apply Wb.same2; assumption; walk_at "wb1"))
local macro_rules | `(tactic| walk_at "wb1") => `(tactic| walk_at "wb")
local macro_rules | `(tactic| walk_at "sd") => `(tactic| with_reducible exact Wb.bag (by assumption))

def sp_strings : Sp := fun vs H Q _ => ∃ (G : BagId) (a : Addr) (n : Nat) (xs : List Str), vs = [.ref G.b, .ref a] ∧ Bag G H ∧ H a = some (.lst (xs.map V.str)) ∧ Names n xs ∧ n ≤ 1000 ∧
  ∀ (p : Addr) (ys : List Str) (H' : Hp), H' p = some (.lst (ys.map V.str)) → Titles n ys → Wb G H H' → Q (.ref p) H'
section
variable {P : Program} {w : World} {K : PySem.W.Frag} {mg : Str → Option Value} {base : Heap}
theorem ok__law_strings {f : Addr} {fd : FuncData} (F : Fun K "_law_strings" "_law_strings" s__law_strings f fd) (B : Blt mg) (G__law_draw : Fn P w K mg base 1 "_law_draw" ["bag", "limit"] sp_draw) (G__law_of : Fn P w K mg base 2 "_law_of" ["bag", "things"] sp_of) : FnOk P w K mg base CX0 3 f fd ["bag", "titles"] sp_strings := by
  refine F.ok sc__law_strings (fun vs H Q E h => ?_) (fun cdv A outer s H vs Q E hr h => ?_)
  · obtain ⟨G, a, n, xs, rfl, _⟩ := h
    rfl
  · obtain ⟨G, a, n, xs, rfl, hb, ha, nm, z1, q⟩ := h
    have hu := hu_of hr
    have hxl := nm.1
    refine ⟨_, (pss_cons (ps_if (pt_cmpR op_gt (pe_fn G__law_draw (hr.mono (by decide)) (by rfl) (pa_cons (pv 0) (pa_cons pe_int pa_nil))) pe_int (nomark _))
      (pss_one (ps_ret (pv 1)))
      pss_nil)
      (pss_one (ps_ret (pe_lc (own := [("one", 2)]) (by rfl) sc__law_strings.nd (kpi_list (K := K) (pv 1)) (blkOk_by (own := [("one", 2)]) (N := ["bag", "titles", "one"]) (sc := defScope s__law_strings) (by decide +kernel)) (fun _ _ _ _ _ => (pg_name (i := 2) sc__law_strings.nd rfl (Or.inl rfl))) (fun _ _ _ _ _ => pts_nil) (fun _ _ _ _ _ => (pe_ifExp (pt_cmpR op_gt (pe_fn G__law_draw (hr.mono (by decide)) (by rfl) (pa_cons (pv 0) (pa_cons pe_int pa_nil))) pe_int (nomark _)) (pv 2) (pe_op (kadd (K := K)) (pv 2) (pe_fn G__law_of (hr.mono (by decide)) (by rfl) (pa_cons (pv 0) (pa_cons (pe_lst (pa_cons pe_str (pa_cons pe_str (pa_cons pe_str (pa_cons pe_str pa_nil))))) pa_nil)))))))))), ?_⟩
    walk_at "go"
    intro d H2 d0 d1 v2
    have ha2 := v2.keep ha (nb_strs _).bag
    walk_at "go"
    refine ite_d (fun c => ?_) (fun c => ?_)
    · walk_at "go"
      exact q a xs _ ha2 nm.titles v2
    · walk_at "go"
      refine ⟨⟨_, SqL.of ha2⟩, fun D nD => ?_⟩
      have hL : (xs.map V.str).length = xs.length := List.length_map _
      refine lc_gen (walk_list (K := K) (a := a) (xs := xs.map V.str)) (fun i acc H' => ∃ ys : List Str, acc = ys.map V.str ∧ ys.map baseS = xs.take i ∧ (∀ y ∈ ys, PyData.strOk y = true) ∧ Wb G H2 H') ⟨[], rfl, rfl, (fun y hy => absurd hy List.not_mem_nil), (Wb.refl v2.bag).new nD⟩ (fun i acc H' hi ⟨ys, _, _, _, v⟩ => SqL.of (v.keep ha2 (nb_strs _).bag)) ?_ ?_ ?_
      · rintro i acc H' hi ⟨ys, rfl, hy, _⟩
        have := congrArg List.length hy
        rw [List.length_map, List.length_take] at this
        rw [List.length_map]
        omega
      · rintro i y acc H8 H9 hi hD ⟨ys, rfl, hys, hok, v8⟩ ⟨rfl, hy⟩ N Yd hN hY
        rw [List.getElem?_map] at hy
        obtain ⟨x, hx, rfl⟩ := Option.map_eq_some_iff.mp hy
        have xm := nm.2.2 x (List.mem_of_getElem? hx)
        have b9 := v8.bag
        have fin : ∀ (y' : Str) (H' : Hp), Wb G H9 H' → baseS y' = x → PyData.strOk y' = true → Yd (.str y') H' := fun y' H' v e1 e2 => hY _ _ (v.keep hD (nb_strs _).bag) ⟨ys ++ [y'], by rw [List.map_append]; rfl, by rw [List.map_append, hys, take_snoc hx]; exact congrArg (fun z => xs.take i ++ [z]) e1, fun z hz => by
          rcases List.mem_append.mp hz with hz | hz
          · exact hok z hz
          · rw [List.mem_singleton.mp hz]; exact e2, (v8.trans v).mut nD⟩
        walk_at "go"
        intro d' H10 g0 g1 v10
        walk_at "go"
        refine ite_d (fun c => ?_) (fun c => ?_)
        · walk_at "go"
          exact fin x _ v10 xm.base xm.sok
        · walk_at "go"
          intro l nl
          generalize el : upd H10 l _ = H11 at *
          have hl11 := at_new el
          have v11 := Wb.of_new el nl v10.bag
          clear el
          have hl11 : H11 l = some (.lst (sufV.map V.str)) := hl11
          refine ⟨G, l, _, rfl, v11.bag, hl11, (nb_strs _).bag, by decide, by decide, fun v H12 hv v12 => ?_⟩
          obtain ⟨y', hy', rfl⟩ := List.mem_map.mp hv
          have l1 := (suf_no y' hy').2.2
          have l2 := xm.len
          refine .inr (.inl ⟨_, _, rfl, rfl, by rw [nat63]; omega, ?_⟩)
          exact fin _ _ ((v10.trans v11).trans v12) (base_cat xm hy') (sok_cat xm hy')
      · rintro acc H8 hD ⟨ys, rfl, hys, hok, v8⟩
        rw [hL, List.take_length] at hys
        refine q D ys H8 hD ⟨?_, nodup_of_map (f := baseS) (by rw [hys]; exact nm.2.1), hok⟩ (v2.trans v8)
        have := congrArg List.length hys
        rw [List.length_map] at this
        omega
end

end Y

namespace Y
open PySem PySem.Spec PyProof.Rows L2
theorem sc__law_reserved : FnScope ["words"] [] (defScope s__law_reserved) := ⟨rfl, rfl, rfl, by decide +kernel, rfl, by decide +kernel, by decide +kernel⟩
local macro_rules | `(tactic| walk_at "hp") => `(tactic| first
  | assumption
  | exact upd_same
  | (refine (upd_ne (by first | assumption | exact Ne.symm (by assumption))).trans ?_; walk_at "hp"))
local macro_rules | `(tactic| walk_at "sz") => `(tactic| first
  | (rw [nat63]; omega)
  | (rw [nat63]; exact Nat.le_of_ble_eq_true rfl)
  | (simp only [nat63, List.length_append, List.length_cons, List.length_nil, List.length_map, List.length_set]; omega))
local macro_rules | `(tactic| walk_at "sd") => `(tactic| (try dsimp only [CDiv, CMul, CPow]); first
  | (with_reducible assumption)
  | omega
  | decide
  | walk_at "sz"
  | exact ⟨by omega, by omega⟩
  | exact ⟨by omega, by omega, by omega⟩
  | exact Or.inr ⟨by omega, by omega⟩
  | exact Or.inl ⟨by omega, by omega⟩)
local macro_rules | `(tactic| walk_at "go") => `(tactic| repeat (first
  | refine ⟨_, rfl, ?_⟩
  | refine ⟨_, _, rfl, rfl, ?_⟩
  | refine Or.inl ⟨_, rfl, ?_⟩
  | refine Or.inl ⟨_, _, rfl, rfl, ?_⟩
  | refine Or.inl ⟨_, _, _, _, rfl, rfl, SqL.of (by walk_at "hp"), rfl, ?_⟩
  | refine Or.inl ⟨rfl, ?_⟩
  | refine Or.inl ⟨_, _, _, _, rfl, rfl, (by walk_at "hp"), rfl, ?_⟩
  | refine Or.inr (Or.inl ⟨_, _, _, _, rfl, rfl, SqT.of (by walk_at "hp"), rfl, ?_⟩)
  | refine Or.inl ⟨_, _, rfl, Or.inl ⟨_, SqL.of (by walk_at "hp"), rfl⟩, ?_⟩
  | (with_reducible refine iteF ?_)
  | (with_reducible refine iteT ?_)
  | refine And.intro (by walk_at "sd") ?_
  | refine ⟨Or.inl ⟨rfl, _, SqL.of (by walk_at "hp")⟩, ?_⟩
  | refine ⟨_, _, _, rfl, rfl, (by walk_at "hp"), (by walk_at "sz"), ?_⟩
  | refine ⟨_, _, rfl, SqT.of (by walk_at "hp"), rfl, ?_⟩
  | refine ⟨_, _, rfl, ?_⟩
  | refine ⟨_, _, _, rfl, ?_⟩
  | refine ⟨rfl, ?_⟩))

def sp_reserved : Sp := fun vs H Q _ => vs = [] ∧ ∀ (p : Addr) (H' : Hp), H p = none → Same H H' → H' p = some (.lst (resWords.map V.str)) → Q (.ref p) H'
theorem res_split : Txt.split (("start net houses tie done lists table at sheets sheet ring begin bypass rim all model part chosen ask leaf dead" : Str) ++ (" live of as none yes home" : Str)) (" " : Str) = resWords := by decide +kernel
section
variable {P : Program} {w : World} {K : PySem.W.Frag} {mg : Str → Option Value} {base : Heap}
theorem ok__law_reserved {f : Addr} {fd : FuncData} (F : Fun K "_law_reserved" "_law_reserved" s__law_reserved f fd) (B : Blt mg) : FnOk P w K mg base CX0 1 f fd [] sp_reserved := by
  refine F.ok sc__law_reserved (fun vs H Q E h => ?_) (fun cdv A outer s H vs Q E hr h => ?_)
  · obtain ⟨rfl, _⟩ := h
    rfl
  · obtain ⟨rfl, q⟩ := h
    have hu := hu_of hr
    refine ⟨_, (pss_cons (ps_set (i := 0) sc__law_reserved.nd rfl (Or.inl rfl) pe_str)
      (pss_one (ps_ret (pe_split (pe_op (kadd (K := K)) (pv 0) pe_str) pe_str)))), ?_⟩
    walk_at "go"
    refine .inr (.inl ⟨_, _, rfl, rfl, (by decide +kernel), ?_⟩)
    refine ⟨⟨_, rfl⟩, ⟨_, _, rfl, rfl, (by decide +kernel), (by decide +kernel), fun p np => ?_⟩⟩
    refine q p _ np (same_upd np) ?_
    rw [upd_same, res_split]
end

end Y

namespace Y
open PySem PySem.Spec PyProof.Rows L2
theorem sc__law_names : FnScope ["bag", "many", "letters", "signs", "told", "shape", "barred", "stem", "spot", "low", "k", "first", "j", "one"] ["bag", "many"] (defScope s__law_names) := ⟨rfl, rfl, rfl, by decide +kernel, rfl, by decide +kernel, by decide +kernel⟩
local macro_rules | `(tactic| walk_at "hp") => `(tactic| first
  | assumption
  | exact upd_same
  | (refine (upd_ne (by first | assumption | exact Ne.symm (by assumption))).trans ?_; walk_at "hp"))
local macro_rules | `(tactic| walk_at "sz") => `(tactic| first
  | (rw [nat63]; omega)
  | (rw [nat63]; exact Nat.le_of_ble_eq_true rfl)
  | (simp only [nat63, List.length_append, List.length_cons, List.length_nil, List.length_map, List.length_set]; omega))
local macro_rules | `(tactic| walk_at "sd") => `(tactic| (try dsimp only [CDiv, CMul, CPow]); first
  | (with_reducible assumption)
  | omega
  | decide
  | walk_at "sz"
  | exact ⟨by omega, by omega⟩
  | exact ⟨by omega, by omega, by omega⟩
  | exact Or.inr ⟨by omega, by omega⟩
  | exact Or.inl ⟨by omega, by omega⟩)
local macro_rules | `(tactic| walk_at "go") => `(tactic| repeat (first
  | refine ⟨_, rfl, ?_⟩
  | refine ⟨_, _, rfl, rfl, ?_⟩
  | refine Or.inl ⟨_, rfl, ?_⟩
  | refine Or.inl ⟨_, _, rfl, rfl, ?_⟩
  | refine Or.inl ⟨_, _, _, _, rfl, rfl, SqL.of (by walk_at "hp"), rfl, ?_⟩
  | refine Or.inl ⟨rfl, ?_⟩
  | refine Or.inl ⟨_, _, _, _, rfl, rfl, (by walk_at "hp"), rfl, ?_⟩
  | refine Or.inr (Or.inl ⟨_, _, _, _, rfl, rfl, SqT.of (by walk_at "hp"), rfl, ?_⟩)
  | refine Or.inl ⟨_, _, rfl, Or.inl ⟨_, SqL.of (by walk_at "hp"), rfl⟩, ?_⟩
  | (with_reducible refine iteF ?_)
  | (with_reducible refine iteT ?_)
  | refine And.intro (by walk_at "sd") ?_
  | refine ⟨Or.inl ⟨rfl, _, SqL.of (by walk_at "hp")⟩, ?_⟩
  | refine ⟨_, _, _, rfl, rfl, (by walk_at "hp"), (by walk_at "sz"), ?_⟩
  | refine ⟨_, _, rfl, SqT.of (by walk_at "hp"), rfl, ?_⟩
  | refine ⟨_, _, rfl, ?_⟩
  | refine ⟨_, _, _, rfl, ?_⟩
  | refine ⟨⟨_, rfl⟩, ?_⟩
  | refine ⟨rfl, ?_⟩))
local macro_rules | `(tactic| walk_at "nb") => `(tactic| first
  | exact (nb_vs1 _).bag
  | exact (nb_strs _).bag
  | exact (nb_vsS _).bag
  | exact (nb_refs _).bag
  | assumption
  | rfl)
local macro_rules | `(tactic| walk_at "hp") => `(tactic| first
  | assumption
  | with_reducible exact upd_same
  | ((with_reducible apply upd_keep); assumption; walk_at "hp")
  | ((with_reducible apply Wb.keep); assumption; walk_at "hp"; walk_at "nb")
  | ((with_reducible apply Same.keep); assumption; walk_at "hp"))
local macro_rules | `(tactic| walk_at "wb") => `(tactic| first
  | assumption
  | exact Wb.refl (by assumption)
  | (apply Wb.trans2; assumption; walk_at "wb1")
  | (apply Wb.same2; assumption; walk_at "wb1"))
local macro_rules | `(tactic| walk_at "wb1") => `(tactic| walk_at "wb")
local macro_rules | `(tactic| walk_at "sd") => `(tactic| with_reducible exact Wb.bag (by assumption))

open SX
def sp_names : Sp := fun vs H Q _ => ∃ (G : BagId) (n : Nat), vs = [.ref G.b, .int n] ∧ Bag G H ∧ n ≤ 26 ∧
  ∀ (p : Addr) (xs : List Str) (H' : Hp), H p = none → H' p = some (.lst (xs.map V.str)) → Names n xs → Wb G H H' → Q (.ref p) H'
section
variable {P : Program} {w : World} {K : PySem.W.Frag} {mg : Str → Option Value} {base : Heap}
theorem ok__law_names {f : Addr} {fd : FuncData} (F : Fun K "_law_names" "_law_names" s__law_names f fd) (B : Blt mg) (G__law_draw : Fn P w K mg base 1 "_law_draw" ["bag", "limit"] sp_draw) (G__law_mixed : Fn P w K mg base 2 "_law_mixed" ["bag", "things"] sp_mixed) (G__law_reserved : Fn P w K mg base 1 "_law_reserved" [] sp_reserved) : FnOk P w K mg base CX0 3 f fd ["bag", "many"] sp_names := by
  refine F.ok sc__law_names (fun vs H Q E h => ?_) (fun cdv A outer s H vs Q E hr h => ?_)
  · obtain ⟨G, n, rfl, _⟩ := h
    rfl
  · obtain ⟨G, n, rfl, hb, hn, q⟩ := h
    have hu := hu_of hr
    refine ⟨_, (pss_cons (ps_asg (pe_tup (pa_cons (pe_callTy (klist (K := K)) (by rfl) B.list (by decide +kernel) (pa_cons pe_str pa_nil)) (pa_cons pe_str (pa_cons (pe_lst pa_nil) pa_nil)))) (kpg_tup (K := K) (n := 3) (pg_tup rfl (pgs_cons (pg_name (i := 2) sc__law_names.nd rfl (Or.inl rfl)) (pgs_cons (pg_name (i := 3) sc__law_names.nd rfl (Or.inr rfl)) (pgs_cons (pg_name (i := 4) sc__law_names.nd rfl (Or.inl rfl)) pgs_nil))))))
      (pss_cons (ps_asg (pe_tup (pa_cons (pe_fn G__law_draw (hr.mono (by decide)) (by rfl) (pa_cons (pv 0) (pa_cons pe_int pa_nil))) (pa_cons (pe_fn0 G__law_reserved (hr.mono (by decide)) (by rfl)) pa_nil))) (kpg_tup (K := K) (n := 2) (pg_tup rfl (pgs_cons (pg_name (i := 5) sc__law_names.nd rfl (Or.inl rfl)) (pgs_cons (pg_name (i := 6) sc__law_names.nd rfl (Or.inr rfl)) pgs_nil)))))
      (pss_cons (ps_set (i := 7) sc__law_names.nd rfl (Or.inl rfl) (pe_op (kadd (K := K)) (pe_ix (kix (K := K) hu) (pv 2) (pe_fn G__law_draw (hr.mono (by decide)) (by rfl) (pa_cons (pv 0) (pa_cons pe_int pa_nil))) (fun _ _ => rfl)) (pe_join pe_str (pe_lc (own := [("k", 10)]) (by rfl) sc__law_names.nd (pi_range1 (by rfl) B.range (pa_cons (pe_fn G__law_draw (hr.mono (by decide)) (by rfl) (pa_cons (pv 0) (pa_cons pe_int pa_nil))) pa_nil)) (blkOk_by (own := [("k", 10)]) (N := ["bag", "many", "letters", "signs", "told", "shape", "barred", "stem", "spot", "low", "k", "first", "j", "one"]) (sc := defScope s__law_names) (by decide +kernel)) (fun _ _ _ _ _ => (pg_name (i := 10) sc__law_names.nd rfl (Or.inl rfl))) (fun _ _ _ _ _ => pts_nil) (fun _ _ _ _ _ => (pe_ix (kix (K := K) hu) (pv 3) (pe_fn G__law_draw (hr.mono (by decide)) (by rfl) (pa_cons (pv 0) (pa_cons pe_int pa_nil))) (fun _ _ => rfl)))))))
      (C8.pss_cut (ps_par rfl sc__law_names.nd (i := 8) (j := 9) rfl rfl (by decide) rfl rfl (pa_cons (pe_fn G__law_draw (hr.mono (by decide)) (by rfl) (pa_cons (pv 0) (pa_cons (pe_op (kadd (K := K)) (pe_callB (klen (K := K)) (by rfl) B.len (by decide +kernel) (pa_cons (pv 7) pa_nil)) pe_int) pa_nil))) (pa_cons (pe_ifExp (pt_cmpR (keq (K := K) hr) (pv 5) pe_int (nomark _)) pe_int pe_int) pa_nil)) (by rfl))
      (C8.pss_cut (ps_if (pt_cmpR (keq (K := K) hr) (pv 5) pe_int (nomark _))
      (pss_one (ps_set (i := 4) sc__law_names.nd rfl (Or.inl rfl) (pe_slice (ksl (K := K)) (pe_fn G__law_mixed (hr.mono (by decide)) (by rfl) (pa_cons (pv 0) (pa_cons (pe_callTy (klist (K := K)) (by rfl) B.list (by decide +kernel) (pa_cons pe_str pa_nil)) pa_nil))) po_none (po_some (pv 1)))))
      pss_nil)
      (pss_cons (ps_for PassesOwn.never rfl (pi_range1 (by rfl) B.range (pa_cons (pe_op op_sub (pv 1) (pe_callB (klen (K := K)) (by rfl) B.len (by decide +kernel) (pa_cons (pv 4) pa_nil))) pa_nil)) (pg_name (i := 10) sc__law_names.nd rfl (Or.inl rfl))
      (pss_cons (ps_set (i := 11) sc__law_names.nd rfl (Or.inl rfl) (kbm (K := K) (pe_bm PySem.F.plainAttrs_list PySem.F.slot_list_pop PySem.F.type_list_pop mt_popAt (pv 2) (pa_cons (pe_fn G__law_draw (hr.mono (by decide)) (by rfl) (pa_cons (pv 0) (pa_cons (pe_callB (klen (K := K)) (by rfl) B.len (by decide +kernel) (pa_cons (pv 2) pa_nil)) pa_nil))) pa_nil))))
      (pss_one (ps_if (pt_cmpR (keq (K := K) hr) (pv 5) pe_int (nomark _))
      (pss_one (ps_expr (kbm (K := K) (pe_bm PySem.F.plainAttrs_list PySem.F.slot_list_append PySem.F.type_list_append mt_append (pv 4) (pa_cons (pe_op (kadd (K := K)) (pe_op (kadd (K := K)) (pe_slice (ksl (K := K)) (pv 7) po_none (po_some (pv 8))) (pv 11)) (pe_slice (ksl (K := K)) (pv 7) (po_some (pv 8)) po_none)) pa_nil)))))
      (pss_one (ps_expr (kbm (K := K) (pe_bm PySem.F.plainAttrs_list PySem.F.slot_list_append PySem.F.type_list_append mt_append (pv 4) (pa_cons (pe_op (kadd (K := K)) (pv 11) (pe_join pe_str (pe_lc (own := [("j", 12)]) (by rfl) sc__law_names.nd (pi_range1 (by rfl) B.range (pa_cons (pe_op (kadd (K := K)) (pv 9) (pe_fn G__law_draw (hr.mono (by decide)) (by rfl) (pa_cons (pv 0) (pa_cons (pe_op op_sub pe_int (pv 9)) pa_nil)))) pa_nil)) (blkOk_by (own := [("j", 12)]) (N := ["bag", "many", "letters", "signs", "told", "shape", "barred", "stem", "spot", "low", "k", "first", "j", "one"]) (sc := defScope s__law_names) (by decide +kernel)) (fun _ _ _ _ _ => (pg_name (i := 12) sc__law_names.nd rfl (Or.inl rfl))) (fun _ _ _ _ _ => pts_nil) (fun _ _ _ _ _ => (pe_ix (kix (K := K) hu) (pv 3) (pe_fn G__law_draw (hr.mono (by decide)) (by rfl) (pa_cons (pv 0) (pa_cons pe_int pa_nil))) (fun _ _ => rfl)))))) pa_nil)))))))))
      (pss_one (ps_ret (pe_lc (own := [("one", 13)]) (by rfl) sc__law_names.nd (kpi_list (K := K) (pv 4)) (blkOk_by (own := [("one", 13)]) (N := ["bag", "many", "letters", "signs", "told", "shape", "barred", "stem", "spot", "low", "k", "first", "j", "one"]) (sc := defScope s__law_names) (by decide +kernel)) (fun _ _ _ _ _ => (pg_name (i := 13) sc__law_names.nd rfl (Or.inl rfl))) (fun _ _ _ _ _ => pts_nil) (fun _ _ _ _ _ => (pe_ifExp (pt_cmpR (kin (K := K) (P := P) (w := w) hr) (pv 13) (pv 6) (by rfl)) (pe_op (kadd (K := K)) (pv 13) pe_str) (pv 13)))))))))))), ?_⟩
    walk_at "go"
    rw [az_text]
    refine .inr (.inr (.inl ⟨_, rfl, (by decide), fun l nl => ?_⟩))
    rw [signs_S]
    have v0 : Wb G H (upd H l (.lst (vs1 azL))) := (Wb.refl hb).mut nl
    have l0 : upd H l (.lst (vs1 azL)) l = some (.lst (vs1 azL)) := upd_same
    generalize upd H l (.lst (vs1 azL)) = H0 at *
    rw [az36_text]
    walk_at "go"
    intro t nt
    have v1 : Wb G H0 (upd H0 t (.lst [])) := (Wb.refl v0.bag).new nt
    have t1 : upd H0 t (.lst []) t = some (.lst []) := upd_same
    have nt := v0.free nt
    generalize upd H0 t (.lst []) = H1 at *
    walk_at "go"
    intro u nu
    have v2 : Wb G H1 (upd H1 u (.tup [.ref l, .str (S az36), .ref t])) := (Wb.refl v1.bag).new nu
    have u2 : upd H1 u (.tup [.ref l, .str (S az36), .ref t]) u = some (.tup [.ref l, .str (S az36), .ref t]) := upd_same
    generalize upd H1 u (.tup [.ref l, .str (S az36), .ref t]) = H2 at *
    walk_at "go"
    intro shape H3 d0 d1 v3
    walk_at "go"
    intro r H4 nr s4 r4
    have v4 : Wb G H3 H4 := (Wb.refl v3.bag).same s4
    walk_at "go"
    intro x nx
    have v5 : Wb G H4 (upd H4 x (.tup [.int shape, .ref r])) := (Wb.refl v4.bag).new nx
    have x5 : upd H4 x (.tup [.int shape, .ref r]) x = some (.tup [.int shape, .ref r]) := upd_same
    generalize upd H4 x (.tup [.int shape, .ref r]) = H5 at *
    walk_at "go"
    intro d H6 e0 e1 v6
    obtain ⟨j, rfl⟩ : ∃ j : Nat, d = (j : Int) := ⟨d.toNat, by omega⟩
    have hj : j < azL.length := by rw [az_len]; omega
    refine .inl ⟨_, _, _, _, rfl, rfl, SqL.of (by walk_at "hp"), at_vs1 (List.getElem?_eq_getElem hj), ?_⟩
    have hc0 := az_L _ (List.getElem_mem hj)
    generalize azL[j] = c0 at *
    walk_at "go"
    intro d H7 f0 f1 v7
    walk_at "go"
    intro D nD
    refine lc_gen walk_range (fun i acc H' => ∃ cs : List Nat, acc = vs1 cs ∧ cs.length = i ∧ (∀ c ∈ cs, isS c) ∧ Wb G H7 H') ⟨[], rfl, rfl, (fun c hc => absurd hc (List.not_mem_nil)), (Wb.refl v7.bag).new nD⟩ (fun _ _ _ _ _ => trivial) ?_ ?_ ?_
    · rintro i acc H' hi ⟨cs, rfl, hl, _⟩
      rw [List.length_map]
      omega
    · rintro i y acc H8 H9 hi hD ⟨cs, rfl, hl, hs, v8⟩ ⟨rfl, rfl⟩ N Yd hN hY
      walk_at "go"
      intro d' H9 g0 g1 v9
      obtain ⟨k, rfl⟩ : ∃ k : Nat, d' = (k : Int) := ⟨d'.toNat, by omega⟩
      have hk : k < az36.length := by rw [az36_len]; omega
      refine .inr (.inr (.inl ⟨S az36, k, az36[k], rfl, rfl, (by decide), atI_nat (List.getElem?_eq_getElem hk), ?_⟩))
      have hc1 := az36_S _ (List.getElem_mem hk)
      generalize az36[k] = c1 at *
      refine hY _ _ (by walk_at "hp") ⟨cs ++ [c1], by rw [vs1, vs1, List.map_append]; rfl, by rw [List.length_append, hl]; rfl, fun c hc => ?_, (v8.trans v9).mut nD⟩
      rcases List.mem_append.mp hc with hc | hc
      · exact hs c hc
      · rw [List.mem_singleton.mp hc]
        exact hc1
    · rintro acc H8 hD ⟨cs, rfl, hl, hs, v8⟩
      refine ⟨_, D, cs.map fun c => S [c], rfl, rfl, .inl (SqL.of (strs_vs1 hD)), sum_le (by omega), ?_⟩
      rw [join_ones]
      have hD0 := v7.free nD
      walk_at "go"
      refine .inr (.inl ⟨_, _, rfl, rfl, (by rw [S_len, S_len, nat63]; simp only [List.length_singleton]; omega), ?_⟩)
      rw [S_cat]
      have nm : NameL (c0 :: cs) := .mk1 hc0 hs (by omega)
      have ste : [c0] ++ cs = c0 :: cs := rfl
      rw [ste]
      have stl : (c0 :: cs).length ≤ 6 := by rw [List.length_cons]; omega
      have st1 : 1 ≤ (c0 :: cs).length := by rw [List.length_cons]; omega
      generalize c0 :: cs = st at *
      walk_at "go"
      have hb8 : Bag G H8 := v8.bag
      refine ⟨fun σ H' => ∃ spot low : Int, σ = [some (.ref G.b), some (.int n), some (.ref l), some (.str (S az36)), some (.ref t), some (.int shape), some (.ref r), some (.str (S st)), some (.int spot), some (.int low), none, none, none, none] ∧ 0 ≤ spot ∧ spot ≤ st.length ∧ (shape = 0 → low = 1) ∧ (shape ≠ 0 → low = 0) ∧ Wb G H8 H', ?_, ?_⟩
      · walk_at "go"
        refine .inl ⟨_, _, rfl, ⟨(by rw [S_len, nat63]; omega), rfl⟩, ?_⟩
        rw [S_len]
        walk_at "go"
        intro spot H9 s0 s1 v9
        walk_at "go"
        refine ite_di (fun hsh => ?_) (fun hsh => ?_)
        · walk_at "go"
          exact v9
        · walk_at "go"
          exact v9
      rintro σ H9 ⟨spot, low, rfl, s0, s1, lo1, lo0, v9⟩
      have ntl : t ≠ l := fun e => by
        have h1 : H9 t = some (.lst []) := by walk_at "hp"
        have h2 : H9 l = some (.lst (vs1 azL)) := by walk_at "hp"
        rw [e, h2] at h1
        cases h1
      have ntr : t ≠ r := fun e => by
        have h1 : H9 t = some (.lst []) := by walk_at "hp"
        have h2 : H9 r = some (.lst (resWords.map V.str)) := by walk_at "hp"
        rw [e, h2] at h1
        cases h1
      have nrl : r ≠ l := fun e => by
        have h1 : H9 r = some (.lst (resWords.map V.str)) := by walk_at "hp"
        have h2 : H9 l = some (.lst (vs1 azL)) := by walk_at "hp"
        rw [e, h2] at h1
        cases h1
      have hl9 : H9 l = some (.lst (vs1 azL)) := by walk_at "hp"
      have hr9 : H9 r = some (.lst (resWords.map V.str)) := by walk_at "hp"
      have ht9 : H9 t = some (.lst []) := by walk_at "hp"
      have V9 : Wb G H H9 := by walk_at "wb"
      refine ⟨fun σ H' => ∃ (z : Addr) (xs : List (List Nat)), σ = [some (.ref G.b), some (.int n), some (.ref l), some (.str (S az36)), some (.ref z), some (.int shape), some (.ref r), some (.str (S st)), some (.int spot), some (.int low), none, none, none, none] ∧ Wb G H H' ∧ H z = none ∧ z ≠ l ∧ r ≠ z ∧ H' l = some (.lst (vs1 azL)) ∧ H' r = some (.lst (resWords.map V.str)) ∧ H' z = some (.lst (vsS xs)) ∧ xs.length ≤ n ∧ (shape ≠ 0 → xs = []) ∧ NmI (decide (shape = 0)) (if shape = 1 then spot.toNat else 0) azL xs, ?_, ?_⟩
      · walk_at "go"
        refine ite_di (fun hsh => ?_) (fun hsh => ?_)
        · walk_at "go"
          rw [few_text]
          refine .inr (.inr (.inl ⟨_, rfl, (by decide), fun e ne => ?_⟩))
          rw [signs_S]
          generalize ee : upd H9 e _ = HA at *
          have vA := Wb.of_new ee ne v9.bag
          have eA := at_new ee
          refine ⟨G, _, _, rfl, vA.bag, eA, nb_vs1 _, by rw [List.length_map]; decide, fun p ys HB pm np hp vB => ?_⟩
          obtain ⟨cs, rfl, pc⟩ := perm_map_inv pm rfl
          walk_at "go"
          refine .inl ⟨_, _, rfl, SqL.of hp, fun z nz => ?_⟩
          have ecut : cutV (vs1 cs) none (some (n : Int)) = vsS ((cs.take n).map fun c => [c]) := by
            rw [cutV_take, ← vs1_S]
            unfold vs1
            rw [List.map_take]
          rw [ecut]
          generalize ez : upd HB z _ = HC at *
          have vC := Wb.of_new ez nz vB.bag
          have zC := at_new ez
          have nz' : H z = none := (by walk_at "wb" : Wb G H HB).free nz
          have nzl : z ≠ l := fun e => by
            have h2 : HB l = some (.lst (vs1 azL)) := by walk_at "hp"
            rw [e, h2] at nz
            cases nz
          have nrz : r ≠ z := fun e => by
            have h2 : HB r = some (.lst (resWords.map V.str)) := by walk_at "hp"
            rw [e, nz] at h2
            cases h2
          walk_at "go"
          refine ⟨z, _, rfl, ((V9.trans vA).trans vB).trans vC, nz', nzl, nrz, by walk_at "hp", by walk_at "hp", zC, ?_, fun h => absurd hsh h, ?_⟩
          · rw [List.length_map, List.length_take]
            omega
          · rw [hsh]
            exact .few ((pc.nodup_iff.mpr few_nd).sublist (List.take_sublist _ _)) fun c hc => pc.subset (List.mem_of_mem_take hc)
        · walk_at "go"
          exact ⟨t, [], rfl, V9, nt, ntl, ntr.symm, by walk_at "hp", by walk_at "hp", by walk_at "hp", by simp, fun _ => rfl, .nil _ _⟩
      · rintro σ H10 ⟨z, xs, rfl, v10, nz, nzl, nrz, hl10, hr10, hz, hxn, hx0, nI⟩
        walk_at "go"
        refine for_range (lo := 0) (n := ((n : Int) - ((vsS xs).length : Int)).toNat) (fun i σ H' => ∃ (L : List Nat) (ys : List (List Nat)) (v10 v11 v12 v13 : Option V), σ = [some (.ref G.b), some (.int n), some (.ref l), some (.str (S az36)), some (.ref z), some (.int shape), some (.ref r), some (.str (S st)), some (.int spot), some (.int low), v10, v11, v12, v13] ∧ Wb G H H' ∧ H' l = some (.lst (vs1 L)) ∧ H' r = some (.lst (resWords.map V.str)) ∧ H' z = some (.lst (vsS ys)) ∧ L.length = 26 - i ∧ ys.length = xs.length + i ∧ NmI (decide (shape = 0)) (if shape = 1 then spot.toNat else 0) L ys)
          ⟨azL, xs, none, none, none, none, rfl, v10, hl10, hr10, hz, rfl, rfl, nI⟩ ?_ ?_
        · rintro i σ H11 hi ⟨L, ys, w10, w11, w12, w13, rfl, v11, hl11, hr11, hz11, hL, hys, nI⟩
          rw [List.length_map] at hi
          have hLv : (vs1 L).length = L.length := List.length_map _
          have hyv : (vsS ys).length = ys.length := List.length_map _
          have b11 := v11.bag
          walk_at "go"
          intro d H12 g0 g1 v12
          obtain ⟨k, rfl⟩ : ∃ k : Nat, d = (k : Int) := ⟨d.toNat, by omega⟩
          have hk : k < L.length := by omega
          refine ⟨l, vs1 L, k, k, V.str (S [L[k]]), rfl, rfl, v12.keep hl11 (nb_vs1 _).bag, by omega, by omega, seqIx_nat (by omega), by rw [List.getElem?_map, List.getElem?_eq_getElem hk]; rfl, ?_⟩
          have hLk : L[k]? = some L[k] := List.getElem?_eq_getElem hk
          have hlk := nI.lt _ (List.getElem_mem hk)
          generalize L[k] = c1 at *
          rw [vs1_erase]
          have hle : (L.eraseIdx k).length = L.length - 1 := List.length_eraseIdx_of_lt hk
          have vZ : Wb G H (upd H12 l (.lst (vs1 (L.eraseIdx k)))) := (v11.trans v12).mut nl
          have hz13 : upd H12 l (.lst (vs1 (L.eraseIdx k))) z = some (.lst (vsS ys)) := by
            rw [upd_ne nzl]
            exact v12.keep hz11 (nb_vsS _).bag
          have hr13 : upd H12 l (.lst (vs1 (L.eraseIdx k))) r = some (.lst (resWords.map V.str)) := by
            rw [upd_ne nrl]
            exact v12.keep hr11 (nb_strs _).bag
          have hl13 : upd H12 l (.lst (vs1 (L.eraseIdx k))) l = some (.lst (vs1 (L.eraseIdx k))) := upd_same
          generalize upd H12 l (.lst (vs1 (L.eraseIdx k))) = H13 at *
          have bZ := vZ.bag
          have fin : ∀ (H14 : Hp) (z' : List Nat), Wb G H13 H14 → NmI (decide (shape = 0)) (if shape = 1 then spot.toNat else 0) (L.eraseIdx k) (ys ++ [z']) →
              Wb G H (upd H14 z (.lst (vsS ys ++ [V.str (S z')]))) ∧ (upd H14 z (.lst (vsS ys ++ [V.str (S z')]))) l = some (.lst (vs1 (L.eraseIdx k))) ∧ (upd H14 z (.lst (vsS ys ++ [V.str (S z')]))) r = some (.lst (resWords.map V.str)) ∧ (upd H14 z (.lst (vsS ys ++ [V.str (S z')]))) z = some (.lst (vsS (ys ++ [z']))) ∧ (L.eraseIdx k).length = 26 - (i + 1) ∧ (ys ++ [z']).length = xs.length + (i + 1) ∧ NmI (decide (shape = 0)) (if shape = 1 then spot.toNat else 0) (L.eraseIdx k) (ys ++ [z']) := by
            intro H14 z' w nn
            refine ⟨(vZ.trans w).mut nz, ?_, ?_, ?_, by omega, by rw [List.length_append, List.length_singleton]; omega, nn⟩
            · rw [upd_ne nzl.symm]
              exact w.keep hl13 (nb_vs1 _).bag
            · rw [upd_ne nrz]
              exact w.keep hr13 (nb_strs _).bag
            · rw [upd_same, vsS, vsS, List.map_append]
              rfl
          walk_at "go"
          refine ite_di (fun hsh => ?_) (fun hsh => ?_)
          · walk_at "go"
            refine .inr (.inl ⟨_, rfl, by rw [S_len, nat63]; omega, ?_⟩)
            rw [C8.cutS_slice, slice_to s0]
            walk_at "go"
            refine .inr (.inl ⟨_, _, rfl, rfl, by rw [S_len, S_len, nat63, List.length_take]; simp only [List.length_singleton]; omega, ?_⟩)
            rw [S_cat]
            walk_at "go"
            refine .inr (.inl ⟨_, rfl, by rw [S_len, nat63]; omega, ?_⟩)
            rw [C8.cutS_slice, slice_from s0]
            walk_at "go"
            refine .inr (.inl ⟨_, _, rfl, rfl, by rw [S_len, S_len, nat63, List.length_append, List.length_take, List.length_drop]; simp only [List.length_singleton]; omega, ?_⟩)
            rw [S_cat]
            walk_at "go"
            have hat := mid_at (st := st) (c := c1) (p := spot.toNat) (by omega)
            exact ⟨L.eraseIdx k, ys ++ [st.take spot.toNat ++ [c1] ++ st.drop spot.toNat], _, _, _, _, rfl, fin H13 _ (Wb.refl bZ) (nI.step hLk (.mid hlk nm (by omega)) (by rw [if_pos hsh]; exact hat) (fun h => by have := of_decide_eq_true h; omega))⟩
          · walk_at "go"
            intro d H14 x0 x1 v14
            walk_at "go"
            intro D nD
            have hlow : low = 0 ∨ low = 1 := by by_cases h : shape = 0 <;> simp_all
            refine lc_gen walk_range (fun i acc H' => ∃ cs : List Nat, acc = vs1 cs ∧ cs.length = i ∧ (∀ c ∈ cs, isS c) ∧ Wb G H14 H') ⟨[], rfl, rfl, (fun c hc => absurd hc (List.not_mem_nil)), (Wb.refl v14.bag).new nD⟩ (fun _ _ _ _ _ => trivial) ?_ ?_ ?_
            · rintro i acc H' hi ⟨cs, rfl, hl, _⟩
              rw [List.length_map]
              omega
            · rintro i y acc H15 H16 hi hD ⟨cs, rfl, hl, hs, v8⟩ ⟨rfl, rfl⟩ N Yd hN hY
              have b15 := v8.bag
              walk_at "go"
              intro d' H9 g0 g1 v9
              obtain ⟨k, rfl⟩ : ∃ k : Nat, d' = (k : Int) := ⟨d'.toNat, by omega⟩
              have hk : k < az36.length := by rw [az36_len]; omega
              refine .inr (.inr (.inl ⟨S az36, k, az36[k], rfl, rfl, (by decide), atI_nat (List.getElem?_eq_getElem hk), ?_⟩))
              have hc1 := az36_S _ (List.getElem_mem hk)
              generalize az36[k] = c1 at *
              refine hY _ _ (v9.keep hD (nb_vs1 _).bag) ⟨cs ++ [c1], by rw [vs1, vs1, List.map_append]; rfl, by rw [List.length_append, hl]; rfl, fun c hc => ?_, (v8.trans v9).mut nD⟩
              rcases List.mem_append.mp hc with hc | hc
              · exact hs c hc
              · rw [List.mem_singleton.mp hc]
                exact hc1
            · rintro acc H15 hD ⟨cs, rfl, hl, hs, v15⟩
              refine ⟨_, D, cs.map fun c => S [c], rfl, rfl, .inl (SqL.of (strs_vs1 hD)), sum_le (by omega), ?_⟩
              rw [join_ones]
              refine .inr (.inl ⟨_, _, rfl, rfl, by rw [S_len, S_len, nat63]; simp only [List.length_singleton]; omega, ?_⟩)
              rw [S_cat, show [c1] ++ cs = c1 :: cs from rfl]
              have nm' : NameL (c1 :: cs) := .mk1 hlk hs (by omega)
              have hz15 : H15 z = some (.lst (vsS ys)) := v15.keep (v14.keep hz13 (nb_vsS _).bag) (nb_vsS _).bag
              walk_at "go"
              refine ⟨L.eraseIdx k, ys ++ [c1 :: cs], _, _, _, _, rfl, fin H15 _ (v14.trans v15) (nI.step hLk nm' (by rw [if_neg hsh]; rfl) (fun h => ?_))⟩
              have h0 := of_decide_eq_true h
              have := lo1 h0
              rw [List.length_cons]
              omega
        · rintro σ H10 ⟨L, ys, w10, w11, w12, w13, rfl, v11, hl11, hr11, hz11, hL, hys, nI⟩
          walk_at "go"
          rw [List.length_map] at hys
          have hyl : ys.length = n := by omega
          refine ⟨⟨_, SqL.of hz11⟩, fun D nD => ?_⟩
          have hvl : (vsS ys).length = ys.length := List.length_map _
          refine lc_acc (walk_list (K := K) (a := z) (xs := vsS ys)) (fun i => fm (fun _ => true) (fun l => V.str (barS (S l))) ys i) rfl nD (fun H' s => SqL.of (s _ _ hz11)) (fun i hi => Nat.le_trans fm_len (by omega)) ?_ ?_
          · rintro k y H8 H9 hk s8 ⟨rfl, hy⟩ N Yd hN hY
            rw [List.getElem?_map] at hy
            obtain ⟨x, hx, rfl⟩ := Option.map_eq_some_iff.mp hy
            have hr9 := s8 _ _ hr11
            have xl : x.length ≤ 8 := (nI.ok x (List.mem_of_getElem? hx)).1.len
            refine ⟨rfl, ?_⟩
            have fin : Yd (V.str (barS (S x))) H9 := hY _ _ (fm_yes hx rfl) (Same.refl _)
            refine ⟨_, rfl, _, rfl, .inl ⟨r, _, rfl, .inl (SqL.of hr9), rfl, flat_strs _, ?_⟩⟩
            rw [inV_strs]
            refine ⟨_, rfl, ite_d (fun h => ?_) (fun h => ?_)⟩
            · refine ⟨_, rfl, .inr (.inl ⟨_, _, rfl, rfl, by rw [seven, S_len, S_len, nat63]; simp only [List.length_singleton]; omega, ?_⟩)⟩
              rw [barS, if_pos h] at fin
              exact fin
            · rw [barS, if_neg h] at fin
              exact ⟨_, rfl, fin⟩
          · intro H8 s8 hD8
            rw [fm_all hvl] at hD8
            have nf := nI.fin
            rw [hyl] at nf
            refine q D _ H8 (v11.free nD) ?_ nf (v11.same s8)
            rw [hD8, List.filter_eq_self.mpr (fun _ _ => rfl), List.map_map]
            rfl
end

end Y

namespace Y
open PySem PySem.Spec PyProof.Rows L2
def tupHas (H : Hp) (x : V) : V → Bool
  | .ref a => match H a with
    | some (.tup xs) => inV x xs
    | _ => false
  | _ => false
theorem tupHas_at {H : Hp} {x : V} {a : Addr} {xs : List V} (h : H a = some (.tup xs)) : tupHas H x (.ref a) = inV x xs := by
  show (match H a with | some (.tup xs) => inV x xs | _ => false) = _
  rw [h]
theorem tupHas_len {H : Hp} {i : Int} : ∀ {as : List Addr} {ps : List (Int × Int)}, Tups H as (ps.map ik) → ((as.map V.ref).filter (tupHas H (.int i))).length = degI ps i
  | _, [], .nil => rfl
  | _, p :: ps, .cons (a := a) r t => by
    have ih := tupHas_len (i := i) t
    have e1 : tupHas H (.int i) (.ref a) = (decide (p.1 = i) || decide (p.2 = i)) := by
      rw [tupHas_at r]
      show (p.1 == i || (p.2 == i || false)) = _
      rw [Bool.or_false]
      rfl
    unfold degI at ih ⊢
    rw [List.map_cons, List.filter_cons, List.filter_cons, e1]
    split
    · rw [List.length_cons, List.length_cons, ih]
    · exact ih
theorem sc__law_tie : FnScope ["pairs", "i", "j", "one", "pair"] ["pairs", "i", "j"] (defScope s__law_tie) := ⟨rfl, rfl, rfl, by decide +kernel, rfl, by decide +kernel, by decide +kernel⟩
local macro_rules | `(tactic| walk_at "hp") => `(tactic| first
  | assumption
  | exact upd_same
  | (refine (upd_ne (by first | assumption | exact Ne.symm (by assumption))).trans ?_; walk_at "hp"))
local macro_rules | `(tactic| walk_at "sz") => `(tactic| first
  | (rw [nat63]; omega)
  | (rw [nat63]; exact Nat.le_of_ble_eq_true rfl)
  | (simp only [nat63, List.length_append, List.length_cons, List.length_nil, List.length_map, List.length_set]; omega))
local macro_rules | `(tactic| walk_at "sd") => `(tactic| (try dsimp only [CDiv, CMul, CPow]); first
  | (with_reducible assumption)
  | omega
  | decide
  | walk_at "sz"
  | exact ⟨by omega, by omega⟩
  | exact ⟨by omega, by omega, by omega⟩
  | exact Or.inr ⟨by omega, by omega⟩
  | exact Or.inl ⟨by omega, by omega⟩)
local macro_rules | `(tactic| walk_at "go") => `(tactic| repeat (first
  | refine ⟨_, rfl, ?_⟩
  | refine ⟨_, _, rfl, rfl, ?_⟩
  | refine Or.inl ⟨_, rfl, ?_⟩
  | refine Or.inl ⟨_, _, rfl, rfl, ?_⟩
  | refine Or.inl ⟨_, _, _, _, rfl, rfl, SqL.of (by walk_at "hp"), rfl, ?_⟩
  | refine Or.inl ⟨rfl, ?_⟩
  | refine Or.inl ⟨_, _, _, _, rfl, rfl, (by walk_at "hp"), rfl, ?_⟩
  | refine Or.inr (Or.inl ⟨_, _, _, _, rfl, rfl, SqT.of (by walk_at "hp"), rfl, ?_⟩)
  | refine Or.inl ⟨_, _, rfl, Or.inl ⟨_, SqL.of (by walk_at "hp"), rfl⟩, ?_⟩
  | (with_reducible refine iteF ?_)
  | (with_reducible refine iteT ?_)
  | refine And.intro (by walk_at "sd") ?_
  | refine ⟨Or.inl ⟨rfl, _, SqL.of (by walk_at "hp")⟩, ?_⟩
  | refine ⟨_, _, _, rfl, rfl, (by walk_at "hp"), (by walk_at "sz"), ?_⟩
  | refine ⟨_, _, rfl, SqT.of (by walk_at "hp"), rfl, ?_⟩
  | refine ⟨_, _, rfl, ?_⟩
  | refine ⟨_, _, _, rfl, ?_⟩
  | refine ⟨rfl, ?_⟩))

section
variable {P : Program} {w : World} {K : PySem.W.Frag} {mg : Str → Option Value} {base : Heap}
theorem ok__law_tie {f : Addr} {fd : FuncData} (F : Fun K "_law_tie" "_law_tie" s__law_tie f fd) (B : Blt mg) : FnOk P w K mg base CX0 1 f fd ["pairs", "i", "j"] sp_tie := by
  refine F.ok sc__law_tie (fun vs H Q E h => ?_) (fun cdv A outer s H vs Q E hr h => ?_)
  · obtain ⟨G, n, i, j, rfl, _⟩ := h
    rfl
  · obtain ⟨p, ps, i, j, rfl, ⟨as, hp, ht⟩, hl, q⟩ := h
    have hu := hu_of hr
    refine ⟨_, (pss_cons (ps_set (i := 3) sc__law_tie.nd rfl (Or.inl rfl) (pe_tup (pa_cons (pe_callB (call_min2 rfl) (by rfl) B.min (by decide +kernel) (pa_cons (pv 1) (pa_cons (pv 2) pa_nil))) (pa_cons (pe_callB (call_max2 rfl) (by rfl) B.max (by decide +kernel) (pa_cons (pv 1) (pa_cons (pv 2) pa_nil))) pa_nil))))
      (pss_one (ps_if (PW.pt (pw_and (pt_cmpR (kne (K := K) hr) (pv 1) (pv 2) (nomark _)) (pw_and (pt_cmpR (knotin (K := K) (P := P) (w := w) hr) (pv 3) (pv 0) (by rfl)) (pw_and1 (pt_cmpR op_lt (pe_callB (klen (K := K)) (by rfl) B.len (by decide +kernel) (pa_cons (pv 0) pa_nil)) pe_int (nomark _))))))
      (pss_one (ps_if (PW.pt (pw_and (pt_cmpR op_lt (pe_callB (klen (K := K)) (by rfl) B.len (by decide +kernel) (pa_cons (pe_lc (own := [("pair", 4)]) (by rfl) sc__law_tie.nd (kpi_list (K := K) (pv 0)) (blkOk_by (own := [("pair", 4)]) (N := ["pairs", "i", "j", "one", "pair"]) (sc := defScope s__law_tie) (by decide +kernel)) (fun _ _ _ _ _ => (pg_name (i := 4) sc__law_tie.nd rfl (Or.inl rfl))) (fun _ _ _ _ _ => (pts_one (pt_cmpR (kin (K := K) (P := P) (w := w) hr) (pv 1) (pv 4) (by rfl)))) (fun _ _ _ _ _ => pe_int)) pa_nil)) pe_int (nomark _)) (pw_and1 (pt_cmpR op_lt (pe_callB (klen (K := K)) (by rfl) B.len (by decide +kernel) (pa_cons (pe_lc (own := [("pair", 4)]) (by rfl) sc__law_tie.nd (kpi_list (K := K) (pv 0)) (blkOk_by (own := [("pair", 4)]) (N := ["pairs", "i", "j", "one", "pair"]) (sc := defScope s__law_tie) (by decide +kernel)) (fun _ _ _ _ _ => (pg_name (i := 4) sc__law_tie.nd rfl (Or.inl rfl))) (fun _ _ _ _ _ => (pts_one (pt_cmpR (kin (K := K) (P := P) (w := w) hr) (pv 2) (pv 4) (by rfl)))) (fun _ _ _ _ _ => pe_int)) pa_nil)) pe_int (nomark _)))))
      (pss_one (ps_expr (kbm (K := K) (pe_bm PySem.F.plainAttrs_list PySem.F.slot_list_append PySem.F.type_list_append mt_append (pv 0) (pa_cons (pv 3) pa_nil)))))
      pss_nil))
      pss_nil))), ?_⟩
    walk_at "go"
    intro o no
    have po : p ≠ o := ne_of_none hp no
    have hp1 : upd H o (.tup [.int (if j < i then j else i), .int (if j > i then j else i)]) p = some (.lst (as.map V.ref)) := by rw [upd_ne po]; exact hp
    have ho1 : upd H o (.tup [.int (if j < i then j else i), .int (if j > i then j else i)]) o = some (.tup [.int (if j < i then j else i), .int (if j > i then j else i)]) := upd_same
    have s1 : Same H (upd H o (.tup [.int (if j < i then j else i), .int (if j > i then j else i)])) := same_upd no
    generalize upd H o (.tup [.int (if j < i then j else i), .int (if j > i then j else i)]) = H1 at *
    have ht1 : Tups H1 as (ps.map ik) := ht.mono fun a xs e => s1 a _ e
    have stay : ∀ H', Same H1 H' → PairsAt H' p ps := fun H' s => ⟨as, s _ _ hp1, ht1.mono fun a xs e => s a _ e⟩
    have emin : (if j < i then j else i) = min i j := by split <;> omega
    have emax : (if j > i then j else i) = max i j := by split <;> omega
    rw [emin, emax] at ho1
    walk_at "go"
    refine ite_ndi (fun h1 => ?_) (fun h1 => ?_)
    · walk_at "go"
      refine .inr (.inr (.inr (.inl (notin_tups (k := ik (min i j, max i j)) (SqL.of hp1) ht1 ho1 rfl (okKs_ik _) ?_))))
      have emem : memT (ik (min i j, max i j)) (ps.map ik) = decide ((min i j, max i j) ∈ ps) := by
        rw [Bool.eq_iff_iff, memT_iff, decide_eq_true_iff, List.mem_map]
        exact ⟨fun ⟨x, h, e⟩ => ik_inj e ▸ h, fun h => ⟨_, h, rfl⟩⟩
      have hla := ht1.length
      rw [List.length_map] at hla
      rw [emem]
      walk_at "go"
      refine ite_nd (fun h2 => ?_) (fun h2 => ?_)
      · walk_at "go"
        refine ite_d (fun h3 => ?_) (fun h3 => ?_)
        · rw [List.length_map, hla] at h3
          walk_at "go"
          have turn : ∀ (z : Int) (k : Nat) (x : V) (H2 : Hp), (as.map V.ref)[k]? = some x → Same H1 H2 → ∃ a b c, x = .ref a ∧ H2 a = some (.tup [.int b, .int c]) ∧ tupHas H1 (.int z) x = inV (.int z) [.int b, .int c] := by
            intro z k x H2 hx s2
            rw [List.getElem?_map] at hx
            obtain ⟨a, ha, rfl⟩ := Option.map_eq_some_iff.mp hx
            obtain ⟨kk, hk, ea⟩ := ht1.get ha
            rw [List.getElem?_map] at hk
            obtain ⟨pr, _, rfl⟩ := Option.map_eq_some_iff.mp hk
            exact ⟨a, pr.1, pr.2, rfl, s2 _ _ ea, tupHas_at ea⟩
          refine ⟨⟨_, SqL.of hp1⟩, fun D nD => lc_pure (K := K) (a := p) (xs := as.map V.ref) (tupHas H1 (.int i)) (fun _ => .int 1) (SqL.of hp1) nD (by rw [List.length_map]; omega) ?_ ?_⟩
          · intro k x H2 hx s2 N Yd hN hY
            obtain ⟨a, b, c, rfl, ea, et⟩ := turn i k x H2 hx s2
            refine ⟨rfl, ?_⟩
            walk_at "go"
            refine .inl ⟨a, _, rfl, .inr (SqT.of ea), rfl, rfl, inV (.int i) [.int b, .int c], rfl, ?_⟩
            exact ite_if (fun e => hY (et.trans e) _ (Same.refl _)) (fun e => hN (et.trans e) _ (Same.refl _))
          · intro H2 s2 hD2
            walk_at "go"
            rw [List.length_map, tupHas_len ht1]
            refine ite_d (fun h4 => ?_) (fun h4 => ?_)
            · have hp2 := s2 _ _ hp1
              walk_at "go"
              refine ⟨⟨_, SqL.of hp2⟩, fun D2 nD2 => lc_pure (K := K) (a := p) (xs := as.map V.ref) (tupHas H1 (.int j)) (fun _ => .int 1) (SqL.of hp2) nD2 (by rw [List.length_map]; omega) ?_ ?_⟩
              · intro k x H3 hx s3 N Yd hN hY
                obtain ⟨a, b, c, rfl, ea, et⟩ := turn j k x H3 hx (s2.trans s3)
                refine ⟨rfl, ?_⟩
                walk_at "go"
                refine .inl ⟨a, _, rfl, .inr (SqT.of ea), rfl, rfl, inV (.int j) [.int b, .int c], rfl, ?_⟩
                exact ite_if (fun e => hY (et.trans e) _ (Same.refl _)) (fun e => hN (et.trans e) _ (Same.refl _))
              · intro H3 s3 hD3
                walk_at "go"
                rw [List.length_map, tupHas_len ht1]
                have s4 : Same H1 H3 := s2.trans s3
                have hp3 := s4 _ _ hp1
                refine ite_d (fun h5 => ?_) (fun h5 => ?_)
                · walk_at "go"
                  refine q _ ⟨as ++ [o], ?_, ?_⟩ (fun a u e ne => ?_)
                  · rw [upd_same, List.map_append]
                    rfl
                  · unfold tieI
                    rw [if_pos ⟨h1, h2, by omega, by omega, by omega⟩, List.map_append]
                    exact Tups.snoc (k := ik (min i j, max i j)) (by rw [upd_ne (Ne.symm po)]; exact s4 _ _ ho1) (ht1.mono fun a xs e => by
                      have e4 := s4 _ _ e
                      rw [upd_ne (ne_of e4 hp3 (by intro q; cases q))]
                      exact e4)
                  · rw [upd_ne ne]
                    exact s4 _ _ (s1 _ _ e)
                · walk_at "go"
                  refine q _ ?_ (fun a o e _ => s4 _ _ (s1 a o e))
                  unfold tieI
                  rw [if_neg (fun z => h5 (by have := z.2.2.2.2; omega))]
                  exact stay _ s4
            · walk_at "go"
              refine q _ ?_ (fun a o e _ => s2 _ _ (s1 a o e))
              unfold tieI
              rw [if_neg (fun z => h4 (by have := z.2.2.2.1; omega))]
              exact stay _ s2
        · walk_at "go"
          refine q _ ?_ (fun a o e _ => s1 a o e)
          unfold tieI
          rw [if_neg (fun z => h3 (by rw [List.length_map, hla]; have := z.2.2.1; omega))]
          exact stay _ (Same.refl _)
      · walk_at "go"
        refine q _ ?_ (fun a o e _ => s1 a o e)
        unfold tieI
        rw [if_neg (fun z => z.2.1 h2)]
        exact stay _ (Same.refl _)
    · walk_at "go"
      refine q _ ?_ (fun a o e _ => s1 a o e)
      unfold tieI
      rw [if_neg (fun z => z.1 h1)]
      exact stay _ (Same.refl _)
end

end Y

namespace Y
open PySem PySem.Spec PyProof.Rows L2
def sp_loose : Sp := fun vs H Q _ => ∃ (G : BagId) (c m : Int), vs = [.ref G.b, .int c, .int m] ∧ Bag G H ∧ 1 ≤ c ∧ c ≤ 1000 ∧ 0 ≤ m ∧ m ≤ 1000 ∧
  ∀ (t p : Addr) (ps : List (Int × Int)) (H' : Hp), H t = none → H p = none → H' t = some (.tup [.int c, .ref p]) → PairsAt H' p ps → Pat c ps → Wb G H H' → Q (.ref t) H'
theorem sc__law_loose : FnScope ["bag", "count", "more", "pairs", "k"] ["bag", "count", "more"] (defScope s__law_loose) := ⟨rfl, rfl, rfl, by decide +kernel, rfl, by decide +kernel, by decide +kernel⟩
local macro_rules | `(tactic| walk_at "hp") => `(tactic| first
  | assumption
  | exact upd_same
  | (refine (upd_ne (by first | assumption | exact Ne.symm (by assumption))).trans ?_; walk_at "hp"))
local macro_rules | `(tactic| walk_at "sz") => `(tactic| first
  | (rw [nat63]; omega)
  | (rw [nat63]; exact Nat.le_of_ble_eq_true rfl)
  | (simp only [nat63, List.length_append, List.length_cons, List.length_nil, List.length_map, List.length_set]; omega))
local macro_rules | `(tactic| walk_at "sd") => `(tactic| (try dsimp only [CDiv, CMul, CPow]); first
  | (with_reducible assumption)
  | omega
  | decide
  | walk_at "sz"
  | exact ⟨by omega, by omega⟩
  | exact ⟨by omega, by omega, by omega⟩
  | exact Or.inr ⟨by omega, by omega⟩
  | exact Or.inl ⟨by omega, by omega⟩)
local macro_rules | `(tactic| walk_at "go") => `(tactic| repeat (first
  | refine ⟨_, rfl, ?_⟩
  | refine ⟨_, _, rfl, rfl, ?_⟩
  | refine Or.inl ⟨_, rfl, ?_⟩
  | refine Or.inl ⟨_, _, rfl, rfl, ?_⟩
  | refine Or.inl ⟨_, _, _, _, rfl, rfl, SqL.of (by walk_at "hp"), rfl, ?_⟩
  | refine Or.inl ⟨rfl, ?_⟩
  | refine Or.inl ⟨_, _, _, _, rfl, rfl, (by walk_at "hp"), rfl, ?_⟩
  | refine Or.inr (Or.inl ⟨_, _, _, _, rfl, rfl, SqT.of (by walk_at "hp"), rfl, ?_⟩)
  | refine Or.inl ⟨_, _, rfl, Or.inl ⟨_, SqL.of (by walk_at "hp"), rfl⟩, ?_⟩
  | (with_reducible refine iteF ?_)
  | (with_reducible refine iteT ?_)
  | refine And.intro (by walk_at "sd") ?_
  | refine ⟨Or.inl ⟨rfl, _, SqL.of (by walk_at "hp")⟩, ?_⟩
  | refine ⟨_, _, _, rfl, rfl, (by walk_at "hp"), (by walk_at "sz"), ?_⟩
  | refine ⟨_, _, rfl, SqT.of (by walk_at "hp"), rfl, ?_⟩
  | refine ⟨_, _, rfl, ?_⟩
  | refine ⟨_, _, _, rfl, ?_⟩
  | refine ⟨rfl, ?_⟩))

section
variable {P : Program} {w : World} {K : PySem.W.Frag} {mg : Str → Option Value} {base : Heap}
theorem ok__law_loose {f : Addr} {fd : FuncData} (F : Fun K "_law_loose" "_law_loose" s__law_loose f fd) (B : Blt mg) (G__law_draw : Fn P w K mg base 1 "_law_draw" ["bag", "limit"] sp_draw) (G__law_tie : Fn P w K mg base 1 "_law_tie" ["pairs", "i", "j"] sp_tie) : FnOk P w K mg base CX0 2 f fd ["bag", "count", "more"] sp_loose := by
  refine F.ok sc__law_loose (fun vs H Q E h => ?_) (fun cdv A outer s H vs Q E hr h => ?_)
  · obtain ⟨G, c, m, rfl, _⟩ := h
    rfl
  · obtain ⟨G, c, m, rfl, hb, c1, c2, m1, m2, q⟩ := h
    have hu := hu_of hr
    refine ⟨_, (pss_cons (ps_set (i := 3) sc__law_loose.nd rfl (Or.inl rfl) (pe_lst pa_nil))
      (pss_cons (ps_for PassesOwn.never rfl (pi_range2 (by rfl) B.range (pa_cons pe_int (pa_cons (pv 1) pa_nil))) (pg_name (i := 4) sc__law_loose.nd rfl (Or.inl rfl))
      (pss_cons (ps_expr (pe_fn G__law_tie (hr.mono (by decide)) (by rfl) (pa_cons (pv 3) (pa_cons (pe_fn G__law_draw (hr.mono (by decide)) (by rfl) (pa_cons (pv 0) (pa_cons (pv 4) pa_nil))) (pa_cons (pv 4) pa_nil)))))
      (pss_one (ps_if (pt_cmpR op_lt (pe_callB (klen (K := K)) (by rfl) B.len (by decide +kernel) (pa_cons (pv 3) pa_nil)) (pv 4) (nomark _))
      (pss_one (ps_expr (pe_fn G__law_tie (hr.mono (by decide)) (by rfl) (pa_cons (pv 3) (pa_cons (pe_op op_sub (pv 4) pe_int) (pa_cons (pv 4) pa_nil))))))
      pss_nil))))
      (pss_cons (ps_for PassesOwn.never rfl (pi_range1 (by rfl) B.range (pa_cons (pv 2) pa_nil)) (pg_name (i := 4) sc__law_loose.nd rfl (Or.inl rfl))
      (pss_one (ps_expr (pe_fn G__law_tie (hr.mono (by decide)) (by rfl) (pa_cons (pv 3) (pa_cons (pe_fn G__law_draw (hr.mono (by decide)) (by rfl) (pa_cons (pv 0) (pa_cons (pv 1) pa_nil))) (pa_cons (pe_fn G__law_draw (hr.mono (by decide)) (by rfl) (pa_cons (pv 0) (pa_cons (pv 1) pa_nil))) pa_nil)))))))
      (pss_one (ps_ret (pe_tup (pa_cons (pv 1) (pa_cons (pv 3) pa_nil)))))))), ?_⟩
    walk_at "go"
    intro p np
    have w0 : Wb G H (upd H p (.lst [])) := (Wb.refl hb).mut np
    have p0 : PairsAt (upd H p (.lst [])) p [] := ⟨[], upd_same, .nil⟩
    generalize upd H p (.lst []) = H0 at *
    walk_at "go"
    have hp0 : H p = none := np
    let Wd : Nat → L2.St → Hp → Prop := fun _ σ H' => ∃ ps v, σ = [some (.ref G.b), some (.int c), some (.int m), some (.ref p), v] ∧ Wb G H H' ∧ PairsAt H' p ps ∧ Pat c ps
    refine for_range (lo := 1) (n := (c - 1).toNat) Wd ⟨[], none, rfl, w0, p0, .nil⟩ ?_ ?_
    · rintro i σ H1 hi ⟨ps, v, rfl, w1, p1, t1⟩
      have b1 := w1.bag
      walk_at "go"
      intro d H2 d0 d1 w2
      have p2 := p1.kp w2.kp
      have w3 := w1.trans w2
      walk_at "go"
      refine ⟨p, ps, _, _, rfl, p2, by have := t1.len; omega, fun H3 p3 k3 => ?_⟩
      have w4 := w3.but hp0 k3
      have t3 := t1.tie (i := d) (j := 1 + (i : Int)) ⟨d0, by omega⟩ ⟨by omega, by omega⟩
      generalize tieI ps d (1 + (i : Int)) = ps3 at p3 t3
      obtain ⟨as3, e3, l3⟩ := p3.len
      walk_at "go"
      refine ite_d (fun h1 => ?_) (fun h1 => ?_)
      · walk_at "go"
        refine ⟨p, ps3, _, _, rfl, p3, by have := t3.len; omega, fun H4 p4 k4 => ?_⟩
        exact ⟨_, _, rfl, w4.but hp0 k4, p4, t3.tie ⟨by omega, by omega⟩ ⟨by omega, by omega⟩⟩
      · exact ⟨_, _, rfl, w4, p3, t3⟩
    · rintro σ H1 ⟨ps, v, rfl, w1, p1, t1⟩
      walk_at "go"
      refine for_range (lo := 0) (n := m.toNat) Wd ⟨ps, v, rfl, w1, p1, t1⟩ ?_ ?_
      · rintro i σ H1 hi ⟨ps, v, rfl, w1, p1, t1⟩
        have b1 := w1.bag
        walk_at "go"
        intro d H2 d0 d1 w2
        have b2 := w2.bag
        walk_at "go"
        intro e H3 e0 e1 w3
        walk_at "go"
        have w4 := (w1.trans w2).trans w3
        refine ⟨p, ps, _, _, rfl, (p1.kp w2.kp).kp w3.kp, by have := t1.len; omega, fun H4 p4 k4 => ?_⟩
        exact ⟨_, _, rfl, w4.but hp0 k4, p4, t1.tie ⟨d0, d1⟩ ⟨e0, e1⟩⟩
      · rintro σ H1 ⟨ps, v, rfl, w1, p1, t1⟩
        walk_at "go"
        intro t nt
        exact q t p ps _ (w1.free nt) hp0 upd_same (p1.same (same_upd nt)) t1 (w1.new nt)
end

end Y

namespace Y
open PySem PySem.Spec PyProof.Rows L2
def sp_several : Sp := fun vs H Q _ => ∃ (G : BagId), vs = [.ref G.b] ∧ Bag G H ∧
  ∀ (t p : Addr) (n : Int) (ps : List (Int × Int)) (H' : Hp), H t = none → H p = none → H' t = some (.tup [.int n, .ref p]) → PairsAt H' p ps → 1 ≤ n ∧ n ≤ 16 → Pat n ps → Wb G H H' → Q (.ref t) H'
theorem sc__law_several : FnScope ["bag", "count", "pairs", "k", "some", "inner", "i", "j"] ["bag"] (defScope s__law_several) := ⟨rfl, rfl, rfl, by decide +kernel, rfl, by decide +kernel, by decide +kernel⟩
local macro_rules | `(tactic| walk_at "hp") => `(tactic| first
  | assumption
  | exact upd_same
  | (refine (upd_ne (by first | assumption | exact Ne.symm (by assumption))).trans ?_; walk_at "hp"))
local macro_rules | `(tactic| walk_at "sz") => `(tactic| first
  | (rw [nat63]; omega)
  | (rw [nat63]; exact Nat.le_of_ble_eq_true rfl)
  | (simp only [nat63, List.length_append, List.length_cons, List.length_nil, List.length_map, List.length_set]; omega))
local macro_rules | `(tactic| walk_at "sd") => `(tactic| (try dsimp only [CDiv, CMul, CPow]); first
  | (with_reducible assumption)
  | omega
  | decide
  | walk_at "sz"
  | exact ⟨by omega, by omega⟩
  | exact ⟨by omega, by omega, by omega⟩
  | exact Or.inr ⟨by omega, by omega⟩
  | exact Or.inl ⟨by omega, by omega⟩)
local macro_rules | `(tactic| walk_at "go") => `(tactic| repeat (first
  | refine ⟨_, rfl, ?_⟩
  | refine ⟨_, _, rfl, rfl, ?_⟩
  | refine Or.inl ⟨_, rfl, ?_⟩
  | refine Or.inl ⟨_, _, rfl, rfl, ?_⟩
  | refine Or.inl ⟨_, _, _, _, rfl, rfl, SqL.of (by walk_at "hp"), rfl, ?_⟩
  | refine Or.inl ⟨rfl, ?_⟩
  | refine Or.inl ⟨_, _, _, _, rfl, rfl, (by walk_at "hp"), rfl, ?_⟩
  | refine Or.inr (Or.inl ⟨_, _, _, _, rfl, rfl, SqT.of (by walk_at "hp"), rfl, ?_⟩)
  | refine Or.inl ⟨_, _, rfl, Or.inl ⟨_, SqL.of (by walk_at "hp"), rfl⟩, ?_⟩
  | (with_reducible refine iteF ?_)
  | (with_reducible refine iteT ?_)
  | refine And.intro (by walk_at "sd") ?_
  | refine ⟨Or.inl ⟨rfl, _, SqL.of (by walk_at "hp")⟩, ?_⟩
  | refine ⟨_, _, _, rfl, rfl, (by walk_at "hp"), (by walk_at "sz"), ?_⟩
  | refine ⟨_, _, rfl, SqT.of (by walk_at "hp"), rfl, ?_⟩
  | refine ⟨_, _, rfl, ?_⟩
  | refine ⟨_, _, _, rfl, ?_⟩
  | refine ⟨rfl, ?_⟩))

section
variable {P : Program} {w : World} {K : PySem.W.Frag} {mg : Str → Option Value} {base : Heap}
theorem ok__law_several {f : Addr} {fd : FuncData} (F : Fun K "_law_several" "_law_several" s__law_several f fd) (B : Blt mg) (G__law_draw : Fn P w K mg base 1 "_law_draw" ["bag", "limit"] sp_draw) (G__law_loose : Fn P w K mg base 2 "_law_loose" ["bag", "count", "more"] sp_loose) : FnOk P w K mg base CX0 3 f fd ["bag"] sp_several := by
  refine F.ok sc__law_several (fun vs H Q E h => ?_) (fun cdv A outer s H vs Q E hr h => ?_)
  · obtain ⟨G, rfl, _⟩ := h
    rfl
  · obtain ⟨G, rfl, hb, q⟩ := h
    have hu := hu_of hr
    refine ⟨_, (pss_cons (ps_asg (pe_tup (pa_cons pe_int (pa_cons (pe_lst pa_nil) pa_nil))) (kpg_tup (K := K) (n := 2) (pg_tup rfl (pgs_cons (pg_name (i := 1) sc__law_several.nd rfl (Or.inr rfl)) (pgs_cons (pg_name (i := 2) sc__law_several.nd rfl (Or.inl rfl)) pgs_nil)))))
      (pss_cons (ps_for PassesOwn.never rfl (pi_range1 (by rfl) B.range (pa_cons (pe_op (kadd (K := K)) pe_int (pe_fn G__law_draw (hr.mono (by decide)) (by rfl) (pa_cons (pv 0) (pa_cons pe_int pa_nil)))) pa_nil)) (pg_name (i := 3) sc__law_several.nd rfl (Or.inl rfl))
      (pss_cons (ps_asg (pe_fn G__law_loose (hr.mono (by decide)) (by rfl) (pa_cons (pv 0) (pa_cons (pe_op (kadd (K := K)) pe_int (pe_fn G__law_draw (hr.mono (by decide)) (by rfl) (pa_cons (pv 0) (pa_cons pe_int pa_nil)))) (pa_cons (pe_fn G__law_draw (hr.mono (by decide)) (by rfl) (pa_cons (pv 0) (pa_cons pe_int pa_nil))) pa_nil)))) (kpg_tup (K := K) (n := 2) (pg_tup rfl (pgs_cons (pg_name (i := 4) sc__law_several.nd rfl (Or.inl rfl)) (pgs_cons (pg_name (i := 5) sc__law_several.nd rfl (Or.inl rfl)) pgs_nil)))))
      (pss_cons (ps_set (i := 2) sc__law_several.nd rfl (Or.inl rfl) (pe_op (kadd (K := K)) (pv 2) (pe_lc (own := [("i", 6), ("j", 7)]) (by rfl) sc__law_several.nd (kpi_list (K := K) (pv 5)) (blkOk_by (own := [("i", 6), ("j", 7)]) (N := ["bag", "count", "pairs", "k", "some", "inner", "i", "j"]) (sc := defScope s__law_several) (by decide +kernel)) (fun _ _ _ _ _ => (kpg_tup (K := K) (n := 2) (pg_tup rfl (pgs_cons (pg_name (i := 6) sc__law_several.nd rfl (Or.inl rfl)) (pgs_cons (pg_name (i := 7) sc__law_several.nd rfl (Or.inl rfl)) pgs_nil))))) (fun _ _ _ _ _ => pts_nil) (fun _ _ _ _ _ => (pe_tup (pa_cons (pe_op (kadd (K := K)) (pv 6) (pv 1)) (pa_cons (pe_op (kadd (K := K)) (pv 7) (pv 1)) pa_nil)))))))
      (pss_one (ps_set (i := 1) sc__law_several.nd rfl (Or.inr rfl) (pe_op (kadd (K := K)) (pv 1) (pv 4)))))))
      (pss_one (ps_ret (pe_tup (pa_cons (pe_op (kadd (K := K)) (pv 1) (pe_fn G__law_draw (hr.mono (by decide)) (by rfl) (pa_cons (pv 0) (pa_cons pe_int pa_nil)))) (pa_cons (pv 2) pa_nil))))))), ?_⟩
    walk_at "go"
    intro l nl
    have w0 : Wb G H (upd H l (.lst [])) := (Wb.refl hb).mut nl
    have l0 : PairsAt (upd H l (.lst [])) l [] := ⟨[], upd_same, .nil⟩
    generalize upd H l (.lst []) = H0 at *
    walk_at "go"
    intro t nt
    have w1 : Wb G H (upd H0 t (.tup [.int 0, .ref l])) := w0.new nt
    have l1 : PairsAt (upd H0 t (.tup [.int 0, .ref l])) l [] := l0.same (same_upd nt)
    have t1 : upd H0 t (.tup [.int 0, .ref l]) t = some (.tup [.int 0, .ref l]) := upd_same
    generalize upd H0 t (.tup [.int 0, .ref l]) = H1 at *
    have b1 := w1.bag
    walk_at "go"
    intro d H2 d0 d1 w2
    walk_at "go"
    have w3 := w1.trans w2
    refine for_range (lo := 0) (n := (2 + d).toNat) (fun i σ H' => ∃ (c : Int) (p : Addr) (ps : List (Int × Int)) (v3 v4 v5 : Option V), σ = [some (.ref G.b), some (.int c), some (.ref p), v3, v4, v5, none, none] ∧ Wb G H H' ∧ H p = none ∧ PairsAt H' p ps ∧ Pat c ps ∧ 0 ≤ c ∧ c ≤ 4 * i ∧ (0 < i → 1 ≤ c) ∧ ps.length ≤ 6 * i)
      ⟨0, l, [], none, none, none, rfl, w3, nl, l1.kp w2.kp, .nil, by omega, by omega, by omega, by simp⟩ ?_ ?_
    · rintro i σ H3 hi ⟨c, p, ps, v3, v4, v5, rfl, w4, np, p4, pt, c0, c1, c2, hl⟩
      have b4 := w4.bag
      walk_at "go"
      intro x H4 x0 x1 w5
      have b5 := w5.bag
      walk_at "go"
      intro y H5 y0 y1 w6
      have b6 := w6.bag
      walk_at "go"
      intro t p' qs H6 nt np' ht pq pat w7
      have w8 := ((w4.trans w5).trans w6).trans w7
      have pp := ((p4.kp w5.kp).kp w6.kp).kp w7.kp
      obtain ⟨bs, e2, t2⟩ := pq
      have hbs := t2.length
      rw [List.length_map] at hbs
      have few := pat.few (by omega)
      walk_at "go"
      refine ⟨⟨_, SqL.of e2⟩, fun D nD => ?_⟩
      have hbs' : (bs.map V.ref).length = qs.length := by rw [List.length_map, hbs]
      refine lc_tups (walk_list (K := K) (a := p') (xs := bs.map V.ref)) (fun i => ((qs.take i).map (shiftP c)).map ik) rfl nD (fun H' s => SqL.of (s _ _ e2)) (fun i hi => by rw [List.length_map, List.length_map, List.length_take]; omega) ?_ ?_
      · rintro k z H7 H8 hk s7 ⟨rfl, hz⟩ N Yd hN hY
        rw [List.getElem?_map] at hz
        obtain ⟨a, ha, rfl⟩ := Option.map_eq_some_iff.mp hz
        obtain ⟨kk, hkk, ea⟩ := t2.get ha
        rw [List.getElem?_map] at hkk
        obtain ⟨pr, hpr, rfl⟩ := Option.map_eq_some_iff.mp hkk
        have ea7 : H8 a = some (.tup [.int pr.1, .int pr.2]) := s7 _ _ ea
        walk_at "go"
        intro t9 nt9
        refine hY (ik (shiftP c pr)) t9 _ ?_ (same_upd nt9) upd_same
        rw [List.take_add_one, hpr, List.map_append, List.map_append]
        rfl
      · intro as H7 s7 hD7 t7
        rw [hbs', List.take_length] at t7
        refine .inr (.inr (.inl (rCat_pairs (pp.same s7) ⟨as, hD7, t7⟩ (by rw [List.length_map]; omega) fun p5 H9 s9 np5 c5 => ?_)))
        walk_at "go"
        refine ⟨c + (1 + x), p5, _, _, _, _, rfl, (w8.same s7).same s9, (w8.same s7).free np5, c5, pt.join pat c0 (by omega) (by omega), by omega, by omega, by omega, ?_⟩
        rw [List.length_append, List.length_map]
        omega
    · rintro σ H3 ⟨c, p, ps, v3, v4, v5, rfl, w4, np, p4, pt, c0, c1, c2, hl⟩
      have b4 := w4.bag
      walk_at "go"
      intro x H4 x0 x1 w5
      walk_at "go"
      intro t nt
      have w6 := w4.trans w5
      exact q t p _ ps _ (w6.free nt) np upd_same ((p4.kp w5.kp).same (same_upd nt)) ⟨by omega, by omega⟩ (pt.mono (by omega)) (w6.new nt)
end

end Y

namespace Y
open PySem PySem.Spec PyProof.Rows L2
def sp_block : Sp := fun vs H Q _ => ∃ (G : BagId), vs = [.ref G.b] ∧ Bag G H ∧
  ∀ (t p : Addr) (n : Int) (ps : List (Int × Int)) (H' : Hp), H t = none → H p = none → H' t = some (.tup [.int n, .ref p]) → PairsAt H' p ps → 2 ≤ n ∧ n ≤ 6 → Pat n ps → Wb G H H' → Q (.ref t) H'
theorem sc__law_block : FnScope ["bag", "pick", "size", "pairs", "k"] ["bag"] (defScope s__law_block) := ⟨rfl, rfl, rfl, by decide +kernel, rfl, by decide +kernel, by decide +kernel⟩
local macro_rules | `(tactic| walk_at "hp") => `(tactic| first
  | assumption
  | exact upd_same
  | (refine (upd_ne (by first | assumption | exact Ne.symm (by assumption))).trans ?_; walk_at "hp"))
local macro_rules | `(tactic| walk_at "sz") => `(tactic| first
  | (rw [nat63]; omega)
  | (rw [nat63]; exact Nat.le_of_ble_eq_true rfl)
  | (simp only [nat63, List.length_append, List.length_cons, List.length_nil, List.length_map, List.length_set]; omega))
local macro_rules | `(tactic| walk_at "sd") => `(tactic| (try dsimp only [CDiv, CMul, CPow]); first
  | (with_reducible assumption)
  | omega
  | decide
  | walk_at "sz"
  | exact ⟨by omega, by omega⟩
  | exact ⟨by omega, by omega, by omega⟩
  | exact Or.inr ⟨by omega, by omega⟩
  | exact Or.inl ⟨by omega, by omega⟩)
local macro_rules | `(tactic| walk_at "go") => `(tactic| repeat (first
  | refine ⟨_, rfl, ?_⟩
  | refine ⟨_, _, rfl, rfl, ?_⟩
  | refine Or.inl ⟨_, rfl, ?_⟩
  | refine Or.inl ⟨_, _, rfl, rfl, ?_⟩
  | refine Or.inl ⟨_, _, _, _, rfl, rfl, SqL.of (by walk_at "hp"), rfl, ?_⟩
  | refine Or.inl ⟨rfl, ?_⟩
  | refine Or.inl ⟨_, _, _, _, rfl, rfl, (by walk_at "hp"), rfl, ?_⟩
  | refine Or.inr (Or.inl ⟨_, _, _, _, rfl, rfl, SqT.of (by walk_at "hp"), rfl, ?_⟩)
  | refine Or.inl ⟨_, _, rfl, Or.inl ⟨_, SqL.of (by walk_at "hp"), rfl⟩, ?_⟩
  | (with_reducible refine iteF ?_)
  | (with_reducible refine iteT ?_)
  | refine And.intro (by walk_at "sd") ?_
  | refine ⟨Or.inl ⟨rfl, _, SqL.of (by walk_at "hp")⟩, ?_⟩
  | refine ⟨_, _, _, rfl, rfl, (by walk_at "hp"), (by walk_at "sz"), ?_⟩
  | refine ⟨_, _, rfl, SqT.of (by walk_at "hp"), rfl, ?_⟩
  | refine ⟨_, _, rfl, ?_⟩
  | refine ⟨_, _, _, rfl, ?_⟩
  | refine ⟨rfl, ?_⟩))

section
variable {P : Program} {w : World} {K : PySem.W.Frag} {mg : Str → Option Value} {base : Heap}
theorem ok__law_block {f : Addr} {fd : FuncData} (F : Fun K "_law_block" "_law_block" s__law_block f fd) (B : Blt mg) (G__law_draw : Fn P w K mg base 1 "_law_draw" ["bag", "limit"] sp_draw) (G__law_tie : Fn P w K mg base 1 "_law_tie" ["pairs", "i", "j"] sp_tie) : FnOk P w K mg base CX0 2 f fd ["bag"] sp_block := by
  refine F.ok sc__law_block (fun vs H Q E h => ?_) (fun cdv A outer s H vs Q E hr h => ?_)
  · obtain ⟨G, rfl, _⟩ := h
    rfl
  · obtain ⟨G, rfl, hb, q⟩ := h
    have hu := hu_of hr
    refine ⟨_, (pss_cons (ps_set (i := 1) sc__law_block.nd rfl (Or.inl rfl) (pe_fn G__law_draw (hr.mono (by decide)) (by rfl) (pa_cons (pv 0) (pa_cons pe_int pa_nil))))
      (pss_cons (ps_if (pt_cmpR op_lt (pv 1) pe_int (nomark _))
      (pss_one (ps_ret (pe_tup (pa_cons pe_int (pa_cons (pe_lst (pa_cons (pe_tup (pa_cons pe_int (pa_cons pe_int pa_nil))) pa_nil)) pa_nil)))))
      pss_nil)
      (pss_cons (ps_if (pt_cmpR (keq (K := K) hr) (pv 1) pe_int (nomark _))
      (pss_one (ps_ret (pe_tup (pa_cons pe_int (pa_cons (pe_lst (pa_cons (pe_tup (pa_cons pe_int (pa_cons pe_int pa_nil))) (pa_cons (pe_tup (pa_cons pe_int (pa_cons pe_int pa_nil))) (pa_cons (pe_tup (pa_cons pe_int (pa_cons pe_int pa_nil))) (pa_cons (pe_tup (pa_cons pe_int (pa_cons pe_int pa_nil))) (pa_cons (pe_tup (pa_cons pe_int (pa_cons pe_int pa_nil))) (pa_cons (pe_tup (pa_cons pe_int (pa_cons pe_int pa_nil))) pa_nil))))))) pa_nil)))))
      pss_nil)
      (pss_cons (ps_if (pt_cmpR (keq (K := K) hr) (pv 1) pe_int (nomark _))
      (pss_one (ps_ret (pe_tup (pa_cons pe_int (pa_cons (pe_op (kadd (K := K)) (pe_lst (pa_cons (pe_tup (pa_cons pe_int (pa_cons pe_int pa_nil))) (pa_cons (pe_tup (pa_cons pe_int (pa_cons pe_int pa_nil))) (pa_cons (pe_tup (pa_cons pe_int (pa_cons pe_int pa_nil))) (pa_cons (pe_tup (pa_cons pe_int (pa_cons pe_int pa_nil))) (pa_cons (pe_tup (pa_cons pe_int (pa_cons pe_int pa_nil))) (pa_cons (pe_tup (pa_cons pe_int (pa_cons pe_int pa_nil))) pa_nil))))))) (pe_lc (own := [("k", 4)]) (by rfl) sc__law_block.nd (pi_range1 (by rfl) B.range (pa_cons (pe_fn G__law_draw (hr.mono (by decide)) (by rfl) (pa_cons (pv 0) (pa_cons pe_int pa_nil))) pa_nil)) (blkOk_by (own := [("k", 4)]) (N := ["bag", "pick", "size", "pairs", "k"]) (sc := defScope s__law_block) (by decide +kernel)) (fun _ _ _ _ _ => (pg_name (i := 4) sc__law_block.nd rfl (Or.inl rfl))) (fun _ _ _ _ _ => pts_nil) (fun _ _ _ _ _ => (pe_tup (pa_cons pe_int (pa_cons pe_int pa_nil)))))) pa_nil)))))
      pss_nil)
      (C8.pss_cut (ps_set (i := 2) sc__law_block.nd rfl (Or.inl rfl) (pe_ifExp (pt_cmpR op_gt (pv 1) pe_int (nomark _)) pe_int (pe_op (kadd (K := K)) pe_int (pe_fn G__law_draw (hr.mono (by decide)) (by rfl) (pa_cons (pv 0) (pa_cons pe_int pa_nil))))))
      (pss_cons (ps_set (i := 3) sc__law_block.nd rfl (Or.inl rfl) (pe_op (kadd (K := K)) (pe_lc (own := [("k", 4)]) (by rfl) sc__law_block.nd (pi_range1 (by rfl) B.range (pa_cons (pe_op op_sub (pv 2) pe_int) pa_nil)) (blkOk_by (own := [("k", 4)]) (N := ["bag", "pick", "size", "pairs", "k"]) (sc := defScope s__law_block) (by decide +kernel)) (fun _ _ _ _ _ => (pg_name (i := 4) sc__law_block.nd rfl (Or.inl rfl))) (fun _ _ _ _ _ => pts_nil) (fun _ _ _ _ _ => (pe_tup (pa_cons (pv 4) (pa_cons (pe_op (kadd (K := K)) (pv 4) pe_int) pa_nil))))) (pe_lst (pa_cons (pe_tup (pa_cons pe_int (pa_cons (pe_op op_sub (pv 2) pe_int) pa_nil))) pa_nil))))
      (pss_cons (ps_if (pt_cmpR op_gt (pv 1) pe_int (nomark _))
      (pss_one (ps_ret (pe_tup (pa_cons pe_int (pa_cons (pe_op (kadd (K := K)) (pv 3) (pe_lst (pa_cons (pe_tup (pa_cons pe_int (pa_cons pe_int pa_nil))) (pa_cons (pe_tup (pa_cons pe_int (pa_cons pe_int pa_nil))) pa_nil)))) pa_nil)))))
      pss_nil)
      (pss_cons (ps_expr (pe_fn G__law_tie (hr.mono (by decide)) (by rfl) (pa_cons (pv 3) (pa_cons (pe_fn G__law_draw (hr.mono (by decide)) (by rfl) (pa_cons (pv 0) (pa_cons (pv 2) pa_nil))) (pa_cons (pe_fn G__law_draw (hr.mono (by decide)) (by rfl) (pa_cons (pv 0) (pa_cons (pv 2) pa_nil))) pa_nil)))))
      (pss_one (ps_ret (pe_tup (pa_cons (pv 2) (pa_cons (pv 3) pa_nil))))))))))))), ?_⟩
    have fin : ∀ (D : Ends) (p : Addr) (n : Int) (ps : List (Int × Int)) (H' : Hp), D.rt = Q → H p = none → PairsAt H' p ps → 2 ≤ n ∧ n ≤ 6 → Pat n ps → Wb G H H' → RetP n D (.ref p) H' := by
      intro D p n ps H' eD np hp hn hP hw
      subst eD
      exact ⟨by rw [nat63]; exact Nat.le_of_ble_eq_true rfl, fun t nt => q t p n ps _ (hw.free nt) np upd_same (hp.same (same_upd nt)) hn hP (hw.new nt)⟩
    walk_at "go"
    intro d H1 d0 d1 w1
    walk_at "go"
    refine ite_d (fun h1 => ?_) (fun h1 => ?_)
    · refine ret_pairs 2 [(0, 1)] (by decide) fun p H2 s2 np p2 => ?_
      exact fin _ p 2 _ H2 rfl (w1.free np) p2 ⟨by decide, by decide⟩ (pat_of (by decide) (by decide) (by decide)) (w1.same s2)
    · walk_at "go"
      refine ite_di (fun h2 => ?_) (fun h2 => ?_)
      · refine ret_pairs 4 [(0, 1), (0, 2), (0, 3), (1, 2), (1, 3), (2, 3)] (by decide) fun p H2 s2 np p2 => ?_
        exact fin _ p 4 _ H2 rfl (w1.free np) p2 ⟨by decide, by decide⟩ (pat_of (by decide) (by decide) (by decide)) (w1.same s2)
      · walk_at "go"
        refine ite_di (fun h3 => ?_) (fun h3 => ?_)
        · refine ret_pairs_op 5 [(0, 2), (1, 2), (0, 3), (1, 3), (0, 4), (1, 4)] (by decide) fun p H2 s2 np p2 => ?_
          have w2 := w1.same s2
          have b2 := w2.bag
          walk_at "go"
          intro e H3 e0 e1 w3
          walk_at "go"
          intro D nD
          have p3 := p2.kp w3.kp
          have w4 := w2.trans w3
          refine lc_tups (walk_range (lo := 0) (n := e.toNat)) (fun i => (rgP i fun _ => (0, 1)).map ik) rfl nD (fun _ _ => trivial) (fun i hi => by rw [List.length_map, rgP_len]; omega) ?_ ?_
          · rintro i x H4 H5 hi s4 ⟨rfl, rfl⟩ N Yd hN hY
            refine ⟨rfl, ?_⟩
            walk_at "go"
            intro t nt
            exact hY (ik (0, 1)) t _ (rgP_succ _ _) (same_upd nt) upd_same
          · intro as H4 s4 hD4 t4
            refine .inr (.inr (.inl (rCat_pairs (p3.same s4) ⟨as, hD4, t4⟩ (by rw [rgP_len]; simp only [List.length_cons, List.length_nil]; omega) fun p5 H5 s5 np5 c5 => ?_)))
            refine fin _ p5 5 _ H5 rfl ((w4.same s4).free np5) c5 ⟨by decide, by decide⟩ ?_ ((w4.same s4).same s5)
            rcases (show e = 0 ∨ e = 1 by omega) with rfl | rfl
            · exact pat_of (by decide) (by decide) (by decide)
            · exact pat_of (by decide) (by decide) (by decide)
        · walk_at "go"
          refine ⟨fun σ H' => ∃ n : Int, σ = [some (.ref G.b), some (.int d), some (.int n), none, none] ∧ (3 ≤ n ∧ n ≤ 6) ∧ (5 < d → n = 5) ∧ Wb G H H', ?_, ?_⟩
          · walk_at "go"
            refine ite_d (fun h4 => ?_) (fun h4 => ?_)
            · walk_at "go"
              exact w1
            · have b1 := w1.bag
              walk_at "go"
              intro e H2 e0 e1 w2
              walk_at "go"
              exact w1.trans w2
          · rintro σ H2 ⟨n, rfl, hn, hn5, w2⟩
            walk_at "go"
            intro D nD
            obtain ⟨m, rfl⟩ : ∃ m : Nat, n = (m : Int) + 1 := ⟨(n - 1).toNat, by omega⟩
            have em : ((m : Int) + 1 - 1).toNat = m := by omega
            rw [em]
            refine lc_tups (walk_range (lo := 0) (n := m)) (fun i => (rgP i fun k => ((0 : Int) + (k : Int), (0 : Int) + (k : Int) + 1)).map ik) rfl nD (fun _ _ => trivial) (fun i hi => by rw [List.length_map, rgP_len]; omega) ?_ ?_
            · rintro i x H4 H5 hi s4 ⟨rfl, rfl⟩ N Yd hN hY
              refine ⟨rfl, ?_⟩
              walk_at "go"
              intro t nt
              exact hY (ik (0 + (i : Int), 0 + (i : Int) + 1)) t _ (rgP_succ _ _) (same_upd nt) upd_same
            · intro as H4 s4 hD4 t4
              have p4 : PairsAt H4 D (rgP m fun k => ((0 : Int) + (k : Int), (0 : Int) + (k : Int) + 1)) := ⟨as, hD4, t4⟩
              walk_at "go"
              intro t nt
              have q4 := p4.same (same_upd (o := .tup [.int 0, .int ((m : Int) + 1 - 1)]) nt)
              have w4 : Wb G H (upd H4 t (.tup [.int 0, .int ((m : Int) + 1 - 1)])) := (w2.same s4).new nt
              have ht : upd H4 t (.tup [.int 0, .int ((m : Int) + 1 - 1)]) t = some (.tup ((ik (0, (m : Int) + 1 - 1)).map kV)) := upd_same
              generalize upd H4 t (.tup [.int 0, .int ((m : Int) + 1 - 1)]) = H5 at *
              walk_at "go"
              intro l nl
              have q5 := q4.same (same_upd (o := .lst [.ref t]) nl)
              have w5 : Wb G H (upd H5 l (.lst [.ref t])) := w4.new nl
              have r5 : PairsAt (upd H5 l (.lst [.ref t])) l [(0, (m : Int) + 1 - 1)] := ⟨[t], upd_same, .cons (by rw [upd_ne (ne_of_none ht nl)]; exact ht) .nil⟩
              generalize upd H5 l (.lst [.ref t]) = H6 at *
              walk_at "go"
              refine .inr (.inr (.inl (rCat_pairs q5 r5 (by rw [rgP_len]; simp only [List.length_cons, List.length_nil]; omega) fun p7 H7 s7 np7 c7 => ?_)))
              have w7 := w5.same s7
              have np0 : H p7 = none := w5.free np7
              have hpat : Pat ((m : Int) + 1) (rgP m (fun k => ((0 : Int) + (k : Int), (0 : Int) + (k : Int) + 1)) ++ [(0, (m : Int) + 1 - 1)]) := by
                rcases (show m = 2 ∨ m = 3 ∨ m = 4 ∨ m = 5 by omega) with rfl | rfl | rfl | rfl <;> exact pat_of (by decide) (by decide) (by decide)
              walk_at "go"
              refine ite_d (fun h5 => ?_) (fun h5 => ?_)
              · have e4 : m = 4 := by have := hn5 h5; omega
                subst e4
                refine ret_op_pairs 5 [(0, 2), (1, 3)] (by decide) rfl fun p8 H8 s8 np8 c8 => ?_
                refine .inr (.inr (.inl (rCat_pairs (c7.same s8) c8 (by decide) fun p9 H9 s9 np9 c9 => ?_)))
                exact fin _ p9 5 _ H9 rfl ((w7.same s8).free np9) c9 ⟨by decide, by decide⟩ (pat_of (by decide) (by decide) (by decide)) ((w7.same s8).same s9)
              · have b7 := w7.bag
                walk_at "go"
                intro x H8 x0 x1 w8
                have b8 := w8.bag
                walk_at "go"
                intro y H9 y0 y1 w9
                walk_at "go"
                have w10 := (w7.trans w8).trans w9
                refine ⟨p7, _, _, _, rfl, (c7.kp w8.kp).kp w9.kp, by have := hpat.len; omega, fun H10 p10 k10 => ?_⟩
                walk_at "go"
                exact (fin { nx := fun _ H' => Q .non H', rt := Q } p7 ((m : Int) + 1) _ H10 rfl np0 p10 ⟨by omega, by omega⟩ (hpat.tie ⟨x0, x1⟩ ⟨y0, y1⟩) (w10.but np0 k10)).2
end

end Y

namespace Y
open PySem PySem.Spec PyProof.Rows L2
def sp_glued : Sp := fun vs H Q _ => ∃ (G : BagId) (m : Int), vs = [.ref G.b, .int m] ∧ Bag G H ∧ 1 ≤ m ∧ m ≤ 1000 ∧
  ∀ (t p : Addr) (n : Int) (ps : List (Int × Int)) (H' : Hp), H t = none → H p = none → H' t = some (.tup [.int n, .ref p]) → PairsAt H' p ps → 1 ≤ n ∧ n ≤ 16 → Pat n ps → Wb G H H' → Q (.ref t) H'
theorem sc__law_glued : FnScope ["bag", "most", "count", "pairs", "k", "size", "inner", "spot", "bend", "new", "i", "j", "pair"] ["bag", "most"] (defScope s__law_glued) := ⟨rfl, rfl, rfl, by decide +kernel, rfl, by decide +kernel, by decide +kernel⟩
local macro_rules | `(tactic| walk_at "hp") => `(tactic| first
  | assumption
  | exact upd_same
  | (refine (upd_ne (by first | assumption | exact Ne.symm (by assumption))).trans ?_; walk_at "hp"))
local macro_rules | `(tactic| walk_at "sz") => `(tactic| first
  | (rw [nat63]; omega)
  | (rw [nat63]; exact Nat.le_of_ble_eq_true rfl)
  | (simp only [nat63, List.length_append, List.length_cons, List.length_nil, List.length_map, List.length_set]; omega))
local macro_rules | `(tactic| walk_at "sd") => `(tactic| (try dsimp only [CDiv, CMul, CPow]); first
  | (with_reducible assumption)
  | omega
  | decide
  | walk_at "sz"
  | exact ⟨by omega, by omega⟩
  | exact ⟨by omega, by omega, by omega⟩
  | exact Or.inr ⟨by omega, by omega⟩
  | exact Or.inl ⟨by omega, by omega⟩)
local macro_rules | `(tactic| walk_at "go") => `(tactic| repeat (first
  | refine ⟨_, rfl, ?_⟩
  | refine ⟨_, _, rfl, rfl, ?_⟩
  | refine Or.inl ⟨_, rfl, ?_⟩
  | refine Or.inl ⟨_, _, rfl, rfl, ?_⟩
  | refine Or.inl ⟨_, _, _, _, rfl, rfl, SqL.of (by walk_at "hp"), rfl, ?_⟩
  | refine Or.inl ⟨rfl, ?_⟩
  | refine Or.inl ⟨_, _, _, _, rfl, rfl, (by walk_at "hp"), rfl, ?_⟩
  | refine Or.inr (Or.inl ⟨_, _, _, _, rfl, rfl, SqT.of (by walk_at "hp"), rfl, ?_⟩)
  | refine Or.inl ⟨_, _, rfl, Or.inl ⟨_, SqL.of (by walk_at "hp"), rfl⟩, ?_⟩
  | (with_reducible refine iteF ?_)
  | (with_reducible refine iteT ?_)
  | refine And.intro (by walk_at "sd") ?_
  | refine ⟨Or.inl ⟨rfl, _, SqL.of (by walk_at "hp")⟩, ?_⟩
  | refine ⟨_, _, _, rfl, rfl, (by walk_at "hp"), (by walk_at "sz"), ?_⟩
  | refine ⟨_, _, rfl, SqT.of (by walk_at "hp"), rfl, ?_⟩
  | refine ⟨_, _, rfl, ?_⟩
  | refine ⟨_, _, _, rfl, ?_⟩
  | refine ⟨rfl, ?_⟩))

section
variable {P : Program} {w : World} {K : PySem.W.Frag} {mg : Str → Option Value} {base : Heap}
theorem ok__law_glued {f : Addr} {fd : FuncData} (F : Fun K "_law_glued" "_law_glued" s__law_glued f fd) (B : Blt mg) (G__law_draw : Fn P w K mg base 1 "_law_draw" ["bag", "limit"] sp_draw) (G__law_tie : Fn P w K mg base 1 "_law_tie" ["pairs", "i", "j"] sp_tie) (G__law_block : Fn P w K mg base 2 "_law_block" ["bag"] sp_block) : FnOk P w K mg base CX0 3 f fd ["bag", "most"] sp_glued := by
  refine F.ok sc__law_glued (fun vs H Q E h => ?_) (fun cdv A outer s H vs Q E hr h => ?_)
  · obtain ⟨G, m, rfl, _⟩ := h
    rfl
  · obtain ⟨G, m, rfl, hb, m0, m1, q⟩ := h
    have hu := hu_of hr
    refine ⟨_, (pss_cons (ps_asg (pe_tup (pa_cons pe_int (pa_cons (pe_lst pa_nil) pa_nil))) (kpg_tup (K := K) (n := 2) (pg_tup rfl (pgs_cons (pg_name (i := 2) sc__law_glued.nd rfl (Or.inr rfl)) (pgs_cons (pg_name (i := 3) sc__law_glued.nd rfl (Or.inl rfl)) pgs_nil)))))
      (pss_cons (ps_for PassesOwn.never rfl (pi_range1 (by rfl) B.range (pa_cons (pe_op (kadd (K := K)) pe_int (pe_fn G__law_draw (hr.mono (by decide)) (by rfl) (pa_cons (pv 0) (pa_cons (pv 1) pa_nil)))) pa_nil)) (pg_name (i := 4) sc__law_glued.nd rfl (Or.inl rfl))
      (pss_cons (ps_asg (pe_fn G__law_block (hr.mono (by decide)) (by rfl) (pa_cons (pv 0) pa_nil)) (kpg_tup (K := K) (n := 2) (pg_tup rfl (pgs_cons (pg_name (i := 5) sc__law_glued.nd rfl (Or.inl rfl)) (pgs_cons (pg_name (i := 6) sc__law_glued.nd rfl (Or.inl rfl)) pgs_nil)))))
      (pss_cons (ps_asg (pe_tup (pa_cons (pe_fn G__law_draw (hr.mono (by decide)) (by rfl) (pa_cons (pv 0) (pa_cons (pv 2) pa_nil))) (pa_cons (pe_fn G__law_draw (hr.mono (by decide)) (by rfl) (pa_cons (pv 0) (pa_cons (pv 5) pa_nil))) pa_nil))) (kpg_tup (K := K) (n := 2) (pg_tup rfl (pgs_cons (pg_name (i := 7) sc__law_glued.nd rfl (Or.inr rfl)) (pgs_cons (pg_name (i := 8) sc__law_glued.nd rfl (Or.inr rfl)) pgs_nil)))))
      (pss_one (ps_if (PW.pt (pw_and (pt_cmpR op_le (pe_op op_sub (pe_op (kadd (K := K)) (pv 2) (pv 5)) pe_int) pe_int (nomark _)) (pw_and1 (pt_cmpR op_le (pe_op (kadd (K := K)) (pe_callB (klen (K := K)) (by rfl) B.len (by decide +kernel) (pa_cons (pv 3) pa_nil)) (pe_callB (klen (K := K)) (by rfl) B.len (by decide +kernel) (pa_cons (pv 6) pa_nil))) pe_int (nomark _)))))
      (C8.pss_cut (ps_if (pt_cmpR op_gt (pe_callB (klen (K := K)) (by rfl) B.len (by decide +kernel) (pa_cons (pe_lc (own := [("pair", 12)]) (by rfl) sc__law_glued.nd (kpi_list (K := K) (pv 3)) (blkOk_by (own := [("pair", 12)]) (N := ["bag", "most", "count", "pairs", "k", "size", "inner", "spot", "bend", "new", "i", "j", "pair"]) (sc := defScope s__law_glued) (by decide +kernel)) (fun _ _ _ _ _ => (pg_name (i := 12) sc__law_glued.nd rfl (Or.inl rfl))) (fun _ _ _ _ _ => (pts_one (pt_cmpR (kin (K := K) (P := P) (w := w) hr) (pv 7) (pv 12) (by rfl)))) (fun _ _ _ _ _ => pe_int)) pa_nil)) pe_int (nomark _))
      (pss_one (ps_set (i := 7) sc__law_glued.nd rfl (Or.inr rfl) (pe_op op_sub (pv 2) pe_int)))
      pss_nil)
      (pss_cons (ps_setLc (i := 9) (own := [("j", 11)]) rfl sc__law_glued.nd rfl rfl (sw_true rfl rfl rfl (by decide +kernel)) (pi_range1 (by rfl) B.range (pa_cons (pv 5) pa_nil)) (blkOk_by (own := [("j", 11)]) (N := ["bag", "most", "count", "pairs", "k", "size", "inner", "spot", "bend", "new", "i", "j", "pair"]) (sc := defScope s__law_glued) (by decide +kernel)) (fun _ _ _ _ _ => (pg_name (i := 11) sc__law_glued.nd rfl (Or.inl rfl))) (fun _ _ _ _ _ => pts_nil) (fun _ _ _ _ _ => (pe_ifExp (pt_cmpR (keq (K := K) hr) (pv 11) (pv 8) (nomark _)) (pv 7) (pe_ifExp (pt_cmpR op_gt (pv 11) (pv 8) (nomark _)) (pe_op op_sub (pe_op (kadd (K := K)) (pv 2) (pv 11)) pe_int) (pe_op (kadd (K := K)) (pv 2) (pv 11))))))
      (pss_cons (ps_for PassesOwn.never rfl (kpi_list (K := K) (pv 6)) (kpg_tup (K := K) (n := 2) (pg_tup rfl (pgs_cons (pg_name (i := 10) sc__law_glued.nd rfl (Or.inl rfl)) (pgs_cons (pg_name (i := 11) sc__law_glued.nd rfl (Or.inl rfl)) pgs_nil))))
      (pss_one (ps_expr (pe_fn G__law_tie (hr.mono (by decide)) (by rfl) (pa_cons (pv 3) (pa_cons (pe_ix (kix (K := K) hu) (pv 9) (pv 10) (fun _ _ => rfl)) (pa_cons (pe_ix (kix (K := K) hu) (pv 9) (pv 11) (fun _ _ => rfl)) pa_nil)))))))
      (pss_one (ps_set (i := 2) sc__law_glued.nd rfl (Or.inr rfl) (pe_op op_sub (pe_op (kadd (K := K)) (pv 2) (pv 5)) pe_int))))))
      pss_nil)))))
      (pss_one (ps_ret (pe_tup (pa_cons (pv 2) (pa_cons (pv 3) pa_nil))))))), ?_⟩
    walk_at "go"
    intro l nl
    have w0 : Wb G H (upd H l (.lst [])) := (Wb.refl hb).mut nl
    have l0 : PairsAt (upd H l (.lst [])) l [] := ⟨[], upd_same, .nil⟩
    generalize upd H l (.lst []) = H0 at *
    walk_at "go"
    intro t nt
    have w1 : Wb G H (upd H0 t (.tup [.int 1, .ref l])) := w0.new nt
    have l1 : PairsAt (upd H0 t (.tup [.int 1, .ref l])) l [] := l0.same (same_upd nt)
    have t1 : upd H0 t (.tup [.int 1, .ref l]) t = some (.tup [.int 1, .ref l]) := upd_same
    generalize upd H0 t (.tup [.int 1, .ref l]) = H1 at *
    have b1 := w1.bag
    walk_at "go"
    intro d H2 d0 d1 w2
    walk_at "go"
    have w3 := w1.trans w2
    refine for_range (lo := 0) (n := (1 + d).toNat) (fun i σ H' => ∃ (c : Int) (ps : List (Int × Int)) (v4 v5 v6 v7 v8 v9 v10 v11 : Option V), σ = [some (.ref G.b), some (.int m), some (.int c), some (.ref l), v4, v5, v6, v7, v8, v9, v10, v11, none] ∧ Wb G H H' ∧ PairsAt H' l ps ∧ Pat c ps ∧ 1 ≤ c ∧ c ≤ 16)
      ⟨1, [], none, none, none, none, none, none, none, none, rfl, w3, l1.kp w2.kp, .nil, by omega, by omega⟩ ?_ ?_
    · rintro i σ H3 hi ⟨c, ps, v4, v5, v6, v7, v8, v9, v10, v11, rfl, w4, p4, pt, c0, c1⟩
      have b4 := w4.bag
      have lk : ∃ o, H3 l = some o := by
        obtain ⟨as, h, _⟩ := p4
        exact ⟨_, h⟩
      walk_at "go"
      intro t p' n qs H4 nt np' ht pq hn pat w5
      have lp : p' ≠ l := by
        obtain ⟨o, h⟩ := lk
        exact fun e => by rw [e, h] at np'; cases np'
      have w6 := w4.trans w5
      have b6 := w6.bag
      have p6 := p4.kp w5.kp
      walk_at "go"
      intro x H5 x0 x1 w7
      have b7 := w7.bag
      walk_at "go"
      intro y H6 y0 y1 w8
      walk_at "go"
      intro u nu
      have w9 := ((w6.trans w7).trans w8).new (o := .tup [.int x, .int y]) nu
      have p9 := ((p6.kp w7.kp).kp w8.kp).same (same_upd (o := .tup [.int x, .int y]) nu)
      have q9 := ((pq.kp w7.kp).kp w8.kp).same (same_upd (o := .tup [.int x, .int y]) nu)
      have hu9 : upd H6 u (.tup [.int x, .int y]) u = some (.tup [.int x, .int y]) := upd_same
      generalize upd H6 u (.tup [.int x, .int y]) = H7 at *
      walk_at "go"
      have stop : ∀ (σ : L2.St) (H' : Hp) (v5 v6 v7 v8 v9 v10 v11 : Option V), σ = [some (.ref G.b), some (.int m), some (.int c), some (.ref l), some (.int (0 + (i : Int))), v5, v6, v7, v8, v9, v10, v11, none] → Wb G H H' → PairsAt H' l ps → ∃ (c : Int) (ps : List (Int × Int)) (v4 v5 v6 v7 v8 v9 v10 v11 : Option V), σ = [some (.ref G.b), some (.int m), some (.int c), some (.ref l), v4, v5, v6, v7, v8, v9, v10, v11, none] ∧ Wb G H H' ∧ PairsAt H' l ps ∧ Pat c ps ∧ 1 ≤ c ∧ c ≤ 16 :=
        fun σ H' v5 v6 v7 v8 v9 v10 v11 e w p => ⟨c, ps, _, v5, v6, v7, v8, v9, v10, v11, e, w, p, pt, c0, c1⟩
      refine ite_d (fun h1 => ?_) (fun h1 => ?_)
      · obtain ⟨as, ea, ta⟩ := id p9
        obtain ⟨bs, eb, tb⟩ := id q9
        have la := ta.length
        have lb := tb.length
        rw [List.length_map] at la lb
        have hpl := pt.len
        have hql := pat.len
        walk_at "go"
        rw [List.length_map, List.length_map, la, lb]
        refine ite_d (fun h2 => ?_) (fun h2 => ?_)
        · refine ⟨fun σ H' => ∃ s : Int, σ = [some (.ref G.b), some (.int m), some (.int c), some (.ref l), some (.int (0 + (i : Int))), some (.int n), some (.ref p'), some (.int s), some (.int y), v9, v10, v11, none] ∧ Same H7 H' ∧ 0 ≤ s ∧ s < c, ?_, ?_⟩
          · walk_at "go"
            refine ⟨⟨_, SqL.of ea⟩, fun D nD => lc_pure (K := K) (a := l) (xs := as.map V.ref) (tupHas H7 (.int x)) (fun _ => .int 1) (SqL.of ea) nD (by rw [List.length_map]; omega) ?_ ?_⟩
            · intro k z H8 hz s8 N Yd hN hY
              rw [List.getElem?_map] at hz
              obtain ⟨a, ha, rfl⟩ := Option.map_eq_some_iff.mp hz
              obtain ⟨kk, hkk, e8⟩ := ta.get ha
              rw [List.getElem?_map] at hkk
              obtain ⟨pr, hpr, rfl⟩ := Option.map_eq_some_iff.mp hkk
              have et : tupHas H7 (.int x) (.ref a) = inV (.int x) [.int pr.1, .int pr.2] := tupHas_at e8
              refine ⟨rfl, ?_⟩
              walk_at "go"
              refine .inl ⟨a, _, rfl, .inr (SqT.of (s8 _ _ e8)), rfl, rfl, inV (.int x) [.int pr.1, .int pr.2], rfl, ?_⟩
              exact ite_if (fun e => hY (et.trans e) _ (Same.refl _)) (fun e => hN (et.trans e) _ (Same.refl _))
            · intro H8 s8 hD8
              walk_at "go"
              refine ite_d (fun h3 => ?_) (fun h3 => ?_)
              · walk_at "go"
                omega
              · exact ⟨x, rfl, s8, x0, x1⟩
          · rintro σ H8 ⟨s, rfl, s8, s0, s1⟩
            have eb8 := s8 _ _ eb
            walk_at "go"
            intro D nD
            refine lc_vals (walk_range (lo := 0) (n := n.toNat)) (fun j => .int (if (0 : Int) + (j : Int) = y then s else if y < (0 : Int) + (j : Int) then c + (0 + (j : Int)) - 1 else c + (0 + (j : Int)))) nD (fun _ _ => trivial) (by omega) ?_ ?_
            · rintro k z H9 H10 hk s9 ⟨rfl, rfl⟩ N Yd hY
              refine ⟨rfl, ?_⟩
              walk_at "go"
              refine ite_di (fun h4 => ?_) (fun h4 => ?_)
              · rw [if_pos h4] at hY
                walk_at "go"
                exact hY _ (Same.refl _)
              · rw [if_neg h4] at hY
                walk_at "go"
                refine ite_d (fun h5 => ?_) (fun h5 => ?_)
                · rw [if_pos h5] at hY
                  walk_at "go"
                  exact hY _ (Same.refl _)
                · rw [if_neg h5] at hY
                  walk_at "go"
                  exact hY _ (Same.refl _)
            · intro H9 s9 hD9
              have eb9 := s9 _ _ eb8
              have nD7 : H7 D = none := s8.free nD
              have lD : D ≠ l := fun e => by rw [e, ea] at nD7; cases nD7
              walk_at "go"
              have pairs9 : PairsAt H9 l ps := (p9.same s8).same s9
              refine ⟨⟨_, SqL.of eb9⟩, for_list (K := K) (a := p') (xs := bs.map V.ref) (fun k σ H' => ∃ (ps' : List (Int × Int)) (v10 v11 : Option V), σ = [some (.ref G.b), some (.int m), some (.int c), some (.ref l), some (.int (0 + (i : Int))), some (.int n), some (.ref p'), some (.int s), some (.int y), some (.ref D), v10, v11, none] ∧ (∀ a o, H9 a = some o → a ≠ l → H' a = some o) ∧ PairsAt H' l ps' ∧ Pat (c + n - 1) ps' ∧ Wb G H H') ?_ ?_ ?_ ?_⟩
              · exact ⟨ps, v10, v11, rfl, fun a o h _ => h, pairs9, pt.mono (by omega), (w9.same s8).same s9⟩
              · rintro k σ H' _ ⟨ps', v10, v11, rfl, kp, _, _⟩
                exact SqL.of (kp _ _ eb9 lp)
              · rintro k z σ H10 hz ⟨ps', v10, v11, rfl, kp, p10, pt10, w10⟩
                rw [List.getElem?_map] at hz
                obtain ⟨a, ha, rfl⟩ := Option.map_eq_some_iff.mp hz
                obtain ⟨kk, hkk, e8⟩ := tb.get ha
                rw [List.getElem?_map] at hkk
                obtain ⟨pr, hpr, rfl⟩ := Option.map_eq_some_iff.mp hkk
                have e10 : H10 a = some (.tup [.int pr.1, .int pr.2]) := kp _ _ (s9 _ _ (s8 _ _ e8)) (ne_of e8 ea (by intro q; cases q))
                have hD10 := kp _ _ hD9 lD
                obtain ⟨r1, r2, r3⟩ := pat.rng pr (List.mem_of_getElem? hpr)
                obtain ⟨i1, hi1⟩ : ∃ k : Nat, pr.1 = (k : Int) := ⟨pr.1.toNat, by omega⟩
                obtain ⟨i2, hi2⟩ : ∃ k : Nat, pr.2 = (k : Int) := ⟨pr.2.toNat, by omega⟩
                have g : ∀ k : Nat, (k : Int) < n → ((List.range n.toNat).map fun (j : Nat) => V.int (if (0 : Int) + (j : Int) = y then s else if y < (0 : Int) + (j : Int) then c + (0 + (j : Int)) - 1 else c + (0 + (j : Int))))[k]? = some (V.int (if (0 : Int) + (k : Int) = y then s else if y < (0 : Int) + (k : Int) then c + (0 + (k : Int)) - 1 else c + (0 + (k : Int)))) := fun k hk => by
                  rw [List.getElem?_map, List.getElem?_range (by omega)]
                  rfl
                have rg : ∀ k : Nat, (k : Int) < n → 0 ≤ (if (0 : Int) + (k : Int) = y then s else if y < (0 : Int) + (k : Int) then c + (0 + (k : Int)) - 1 else c + (0 + (k : Int))) ∧ (if (0 : Int) + (k : Int) = y then s else if y < (0 : Int) + (k : Int) then c + (0 + (k : Int)) - 1 else c + (0 + (k : Int))) < c + n - 1 := fun k hk => by
                  split
                  · omega
                  · split <;> omega
                walk_at "go"
                rw [hi1]
                refine .inl ⟨D, _, i1, _, rfl, rfl, SqL.of hD10, atI_nat (g i1 (by omega)), ?_⟩
                walk_at "go"
                rw [hi2]
                refine .inl ⟨D, _, i2, _, rfl, rfl, SqL.of hD10, atI_nat (g i2 (by omega)), ?_⟩
                walk_at "go"
                refine ⟨l, ps', _, _, rfl, p10, by have := pt10.len; omega, fun H11 p11 k11 => ?_⟩
                exact ⟨_, _, _, rfl, fun a o h ne => k11 _ _ (kp _ _ h ne) ne, p11, pt10.tie (rg i1 (by omega)) (rg i2 (by omega)), w10.but nl k11⟩
              · rintro σ H10 ⟨ps', v10, v11, rfl, kp, p10, pt10, w10⟩
                walk_at "go"
                exact ⟨c + n - 1, ps', _, _, _, _, _, _, _, _, rfl, w10, p10, pt10, by omega, by omega⟩
        · walk_at "go"
          exact stop _ H7 _ _ _ _ _ _ _ rfl w9 p9
      · walk_at "go"
        exact stop _ H7 _ _ _ _ _ _ _ rfl w9 p9
    · rintro σ H3 ⟨c, ps, v4, v5, v6, v7, v8, v9, v10, v11, rfl, w4, p4, pt, c0, c1⟩
      walk_at "go"
      intro t nt
      exact q t l _ ps _ (w4.free nt) nl upd_same (p4.same (same_upd nt)) ⟨c0, c1⟩ pt (w4.new nt)
end

end Y

namespace Y
open PySem PySem.Spec PyProof.Rows L2
def sp_pattern : Sp := fun vs H Q _ => ∃ (G : BagId), vs = [.ref G.b] ∧ Bag G H ∧
  ∀ (t p : Addr) (n : Int) (ps : List (Int × Int)) (H' : Hp), H t = none → H p = none → H' t = some (.tup [.int n, .ref p]) → PairsAt H' p ps → 1 ≤ n ∧ n ≤ 16 → Pat n ps → Wb G H H' → Q (.ref t) H'
theorem sc__law_pattern : FnScope ["bag", "pick", "count", "pairs", "i", "j"] ["bag"] (defScope s__law_pattern) := ⟨rfl, rfl, rfl, by decide +kernel, rfl, by decide +kernel, by decide +kernel⟩
local macro_rules | `(tactic| walk_at "hp") => `(tactic| first
  | assumption
  | exact upd_same
  | (refine (upd_ne (by first | assumption | exact Ne.symm (by assumption))).trans ?_; walk_at "hp"))
local macro_rules | `(tactic| walk_at "sz") => `(tactic| first
  | (rw [nat63]; omega)
  | (rw [nat63]; exact Nat.le_of_ble_eq_true rfl)
  | (simp only [nat63, List.length_append, List.length_cons, List.length_nil, List.length_map, List.length_set]; omega))
local macro_rules | `(tactic| walk_at "sd") => `(tactic| (try dsimp only [CDiv, CMul, CPow]); first
  | (with_reducible assumption)
  | omega
  | decide
  | walk_at "sz"
  | exact ⟨by omega, by omega⟩
  | exact ⟨by omega, by omega, by omega⟩
  | exact Or.inr ⟨by omega, by omega⟩
  | exact Or.inl ⟨by omega, by omega⟩)
local macro_rules | `(tactic| walk_at "go") => `(tactic| repeat (first
  | refine ⟨_, rfl, ?_⟩
  | refine ⟨_, _, rfl, rfl, ?_⟩
  | refine Or.inl ⟨_, rfl, ?_⟩
  | refine Or.inl ⟨_, _, rfl, rfl, ?_⟩
  | refine Or.inl ⟨_, _, _, _, rfl, rfl, SqL.of (by walk_at "hp"), rfl, ?_⟩
  | refine Or.inl ⟨rfl, ?_⟩
  | refine Or.inl ⟨_, _, _, _, rfl, rfl, (by walk_at "hp"), rfl, ?_⟩
  | refine Or.inr (Or.inl ⟨_, _, _, _, rfl, rfl, SqT.of (by walk_at "hp"), rfl, ?_⟩)
  | refine Or.inl ⟨_, _, rfl, Or.inl ⟨_, SqL.of (by walk_at "hp"), rfl⟩, ?_⟩
  | (with_reducible refine iteF ?_)
  | (with_reducible refine iteT ?_)
  | refine And.intro (by walk_at "sd") ?_
  | refine ⟨Or.inl ⟨rfl, _, SqL.of (by walk_at "hp")⟩, ?_⟩
  | refine ⟨_, _, _, rfl, rfl, (by walk_at "hp"), (by walk_at "sz"), ?_⟩
  | refine ⟨_, _, rfl, SqT.of (by walk_at "hp"), rfl, ?_⟩
  | refine ⟨_, _, rfl, ?_⟩
  | refine ⟨_, _, _, rfl, ?_⟩
  | refine ⟨rfl, ?_⟩))

section
variable {P : Program} {w : World} {K : PySem.W.Frag} {mg : Str → Option Value} {base : Heap}
theorem ok__law_pattern {f : Addr} {fd : FuncData} (F : Fun K "_law_pattern" "_law_pattern" s__law_pattern f fd) (B : Blt mg) (G__law_draw : Fn P w K mg base 1 "_law_draw" ["bag", "limit"] sp_draw) (G__law_tie : Fn P w K mg base 1 "_law_tie" ["pairs", "i", "j"] sp_tie) (G__law_loose : Fn P w K mg base 2 "_law_loose" ["bag", "count", "more"] sp_loose)
    (G__law_several : Fn P w K mg base 3 "_law_several" ["bag"] sp_several) (G__law_glued : Fn P w K mg base 3 "_law_glued" ["bag", "most"] sp_glued) : FnOk P w K mg base CX0 4 f fd ["bag"] sp_pattern := by
  refine F.ok sc__law_pattern (fun vs H Q E h => ?_) (fun cdv A outer s H vs Q E hr h => ?_)
  · obtain ⟨G, rfl, _⟩ := h
    rfl
  · obtain ⟨G, rfl, hb, q⟩ := h
    have hu := hu_of hr
    refine ⟨_, (pss_cons (ps_set (i := 1) sc__law_pattern.nd rfl (Or.inl rfl) (pe_fn G__law_draw (hr.mono (by decide)) (by rfl) (pa_cons (pv 0) (pa_cons pe_int pa_nil))))
      (pss_cons (ps_if (pt_cmpR op_lt (pv 1) pe_int (nomark _))
      (pss_one (ps_ret (pe_fn G__law_loose (hr.mono (by decide)) (by rfl) (pa_cons (pv 0) (pa_cons (pe_op (kadd (K := K)) pe_int (pe_fn G__law_draw (hr.mono (by decide)) (by rfl) (pa_cons (pv 0) (pa_cons pe_int pa_nil)))) (pa_cons (pe_fn G__law_draw (hr.mono (by decide)) (by rfl) (pa_cons (pv 0) (pa_cons pe_int pa_nil))) pa_nil))))))
      pss_nil)
      (pss_cons (ps_if (pt_cmpR (keq (K := K) hr) (pv 1) pe_int (nomark _))
      (pss_one (ps_ret (pe_fn G__law_several (hr.mono (by decide)) (by rfl) (pa_cons (pv 0) pa_nil))))
      pss_nil)
      (pss_cons (ps_if (pt_cmpR (keq (K := K) hr) (pv 1) pe_int (nomark _))
      (pss_one (ps_ret (pe_fn G__law_loose (hr.mono (by decide)) (by rfl) (pa_cons (pv 0) (pa_cons (pe_op (kadd (K := K)) pe_int (pe_fn G__law_draw (hr.mono (by decide)) (by rfl) (pa_cons (pv 0) (pa_cons pe_int pa_nil)))) (pa_cons (pe_fn G__law_draw (hr.mono (by decide)) (by rfl) (pa_cons (pv 0) (pa_cons pe_int pa_nil))) pa_nil))))))
      pss_nil)
      (pss_cons (ps_if (pt_cmpR (keq (K := K) hr) (pv 1) pe_int (nomark _))
      (pss_cons (ps_asg (pe_fn G__law_loose (hr.mono (by decide)) (by rfl) (pa_cons (pv 0) (pa_cons (pe_op (kadd (K := K)) pe_int (pe_fn G__law_draw (hr.mono (by decide)) (by rfl) (pa_cons (pv 0) (pa_cons pe_int pa_nil)))) (pa_cons pe_int pa_nil)))) (kpg_tup (K := K) (n := 2) (pg_tup rfl (pgs_cons (pg_name (i := 2) sc__law_pattern.nd rfl (Or.inl rfl)) (pgs_cons (pg_name (i := 3) sc__law_pattern.nd rfl (Or.inl rfl)) pgs_nil)))))
      (pss_cons (ps_for PassesOwn.never rfl (pi_range1 (by rfl) B.range (pa_cons (pv 2) pa_nil)) (pg_name (i := 4) sc__law_pattern.nd rfl (Or.inl rfl))
      (pss_one (ps_for PassesOwn.never rfl (pi_range1 (by rfl) B.range (pa_cons (pv 4) pa_nil)) (pg_name (i := 5) sc__law_pattern.nd rfl (Or.inl rfl))
      (pss_one (ps_if (pt_cmpR op_gt (pe_fn G__law_draw (hr.mono (by decide)) (by rfl) (pa_cons (pv 0) (pa_cons pe_int pa_nil))) pe_int (nomark _))
      (pss_one (ps_expr (pe_fn G__law_tie (hr.mono (by decide)) (by rfl) (pa_cons (pv 3) (pa_cons (pv 4) (pa_cons (pv 5) pa_nil))))))
      pss_nil)))))
      (pss_one (ps_ret (pe_tup (pa_cons (pv 2) (pa_cons (pv 3) pa_nil)))))))
      pss_nil)
      (pss_cons (ps_if (pt_cmpR (keq (K := K) hr) (pv 1) pe_int (nomark _))
      (pss_one (ps_ret (pe_fn G__law_loose (hr.mono (by decide)) (by rfl) (pa_cons (pv 0) (pa_cons (pe_op (kadd (K := K)) pe_int (pe_fn G__law_draw (hr.mono (by decide)) (by rfl) (pa_cons (pv 0) (pa_cons pe_int pa_nil)))) (pa_cons (pe_fn G__law_draw (hr.mono (by decide)) (by rfl) (pa_cons (pv 0) (pa_cons pe_int pa_nil))) pa_nil))))))
      pss_nil)
      (pss_one (ps_ret (pe_fn G__law_glued (hr.mono (by decide)) (by rfl) (pa_cons (pv 0) (pa_cons (pe_ifExp (pt_cmpR (keq (K := K) hr) (pv 1) pe_int (nomark _)) pe_int pe_int) pa_nil))))))))))), ?_⟩
    walk_at "go"
    intro d H1 d0 d1 w1
    have b1 := w1.bag
    walk_at "go"
    refine ite_d (fun h1 => ?_) (fun h1 => ?_)
    · walk_at "go"
      intro x H2 x0 x1 w2
      have b2 := w2.bag
      walk_at "go"
      intro y H3 y0 y1 w3
      have b3 := w3.bag
      walk_at "go"
      intro t p ps H4 nt np ht hp pat w4
      have w13 := (w1.trans w2).trans w3
      exact q t p _ ps H4 (w13.free nt) (w13.free np) ht hp ⟨by omega, by omega⟩ pat (w13.trans w4)
    · walk_at "go"
      refine ite_di (fun h2 => ?_) (fun h2 => ?_)
      · walk_at "go"
        intro t p n ps H4 nt np ht hp hn pat w4
        exact q t p _ ps H4 (w1.free nt) (w1.free np) ht hp hn pat (w1.trans w4)
      · walk_at "go"
        refine ite_di (fun h3 => ?_) (fun h3 => ?_)
        · walk_at "go"
          intro x H2 x0 x1 w2
          have b2 := w2.bag
          walk_at "go"
          intro y H3 y0 y1 w3
          have b3 := w3.bag
          walk_at "go"
          intro t p ps H4 nt np ht hp pat w4
          have w13 := (w1.trans w2).trans w3
          exact q t p _ ps H4 (w13.free nt) (w13.free np) ht hp ⟨by omega, by omega⟩ pat (w13.trans w4)
        · walk_at "go"
          refine ite_di (fun h4 => ?_) (fun h4 => ?_)
          · walk_at "go"
            intro x H2 x0 x1 w2
            have b2 := w2.bag
            walk_at "go"
            intro t p ps H4 nt np ht hp pat w4
            have w12 := w1.trans w2
            have np0 : H p = none := w12.free np
            have w14 := w12.trans w4
            walk_at "go"
            let Wd : Nat → L2.St → Hp → Prop := fun _ σ H' => ∃ ps v4 v5, σ = [some (.ref G.b), some (.int d), some (.int (4 + x)), some (.ref p), v4, v5] ∧ Wb G H H' ∧ PairsAt H' p ps ∧ Pat (4 + x) ps
            refine for_range (lo := 0) (n := (4 + x).toNat) Wd ⟨ps, none, none, rfl, w14, hp, pat⟩ ?_ ?_
            · rintro i σ H5 hi ⟨ps, v4, v5, rfl, w5, p5, t5⟩
              walk_at "go"
              refine for_range (lo := 0) (n := (0 + (i : Int)).toNat) (fun j σ H' => ∃ ps v5, σ = [some (.ref G.b), some (.int d), some (.int (4 + x)), some (.ref p), some (.int (0 + (i : Int))), v5] ∧ Wb G H H' ∧ PairsAt H' p ps ∧ Pat (4 + x) ps) ⟨ps, v5, rfl, w5, p5, t5⟩ ?_ ?_
              · rintro j σ H6 hj ⟨ps, v5, rfl, w6, p6, t6⟩
                have b6 := w6.bag
                walk_at "go"
                intro y H7 y0 y1 w7
                walk_at "go"
                refine ite_d (fun h5 => ?_) (fun h5 => ?_)
                · walk_at "go"
                  refine ⟨p, ps, _, _, rfl, p6.kp w7.kp, by have := t6.len; omega, fun H8 p8 k8 => ?_⟩
                  exact ⟨_, _, rfl, (w6.trans w7).but np0 k8, p8, t6.tie ⟨by omega, by omega⟩ ⟨by omega, by omega⟩⟩
                · exact ⟨_, _, rfl, w6.trans w7, p6.kp w7.kp, t6⟩
              · rintro σ H6 ⟨ps, v5, rfl, w6, p6, t6⟩
                exact ⟨_, _, _, rfl, w6, p6, t6⟩
            · rintro σ H5 ⟨ps, v4, v5, rfl, w5, p5, t5⟩
              walk_at "go"
              intro u nu
              exact q u p _ ps _ (w5.free nu) np0 upd_same (p5.same (same_upd nu)) ⟨by omega, by omega⟩ t5 (w5.new nu)
          · walk_at "go"
            refine ite_di (fun h5 => ?_) (fun h5 => ?_)
            · walk_at "go"
              intro x H2 x0 x1 w2
              have b2 := w2.bag
              walk_at "go"
              intro y H3 y0 y1 w3
              have b3 := w3.bag
              walk_at "go"
              intro t p ps H4 nt np ht hp pat w4
              have w13 := (w1.trans w2).trans w3
              exact q t p _ ps H4 (w13.free nt) (w13.free np) ht hp ⟨by omega, by omega⟩ pat (w13.trans w4)
            · walk_at "go"
              refine ite_di (fun h6 => ?_) (fun h6 => ?_)
              · walk_at "go"
                intro t p n ps H4 nt np ht hp hn pat w4
                exact q t p _ ps H4 (w1.free nt) (w1.free np) ht hp hn pat (w1.trans w4)
              · walk_at "go"
                intro t p n ps H4 nt np ht hp hn pat w4
                exact q t p _ ps H4 (w1.free nt) (w1.free np) ht hp hn pat (w1.trans w4)
end

end Y

namespace Y
open PySem PySem.Spec PyProof.Rows L2
/-- the texts' pairs -/
abbrev sk (p : Str × Str) : List Key := [Sum.inr p.1, Sum.inr p.2]
/-- a net by names: a tuple of a list of names and of a list of pairs of names -/
def OwnAt (H : Hp) (o : Addr) (ts : List Str) (es : List (Str × Str)) : Prop := ∃ (t e : Addr) (as : List Addr), H o = some (.tup [.ref t, .ref e]) ∧ H t = some (.lst (ts.map V.str)) ∧ H e = some (.lst (as.map V.ref)) ∧ Tups H as (es.map sk)
theorem OwnAt.kp {H H' : Hp} {o : Addr} {ts : List Str} {es : List (Str × Str)} (h : OwnAt H o ts es) (k : Kp H H') : OwnAt H' o ts es := by
  obtain ⟨t, e, as, h1, h2, h3, h4⟩ := h
  exact ⟨t, e, as, k.keep _ _ h1 rfl, k.keep _ _ h2 (nb_strs _).bag, k.keep _ _ h3 (nb_refs _).bag, h4.mono fun a xs e => k.keep _ _ e rfl⟩
def sp_beside : Sp := fun vs H Q _ => ∃ (o : Addr) (ts : List Str) (es : List (Str × Str)) (u : Str), vs = [.ref o, .str u] ∧ OwnAt H o ts es ∧ ts.length ≤ 100000 ∧ es.length ≤ 100000 ∧
  ∀ (p : Addr) (H' : Hp), H p = none → Same H H' → H' p = some (.lst ((nearL ts es u).map V.str)) → Q (.ref p) H'
theorem sc__law_beside : FnScope ["own", "one", "told", "u", "v", "w"] ["own", "one"] (defScope s__law_beside) := ⟨rfl, rfl, rfl, by decide +kernel, rfl, by decide +kernel, by decide +kernel⟩
local macro_rules | `(tactic| walk_at "hp") => `(tactic| first
  | assumption
  | exact upd_same
  | (refine (upd_ne (by first | assumption | exact Ne.symm (by assumption))).trans ?_; walk_at "hp"))
local macro_rules | `(tactic| walk_at "sz") => `(tactic| first
  | (rw [nat63]; omega)
  | (rw [nat63]; exact Nat.le_of_ble_eq_true rfl)
  | (simp only [nat63, List.length_append, List.length_cons, List.length_nil, List.length_map, List.length_set]; omega))
local macro_rules | `(tactic| walk_at "sd") => `(tactic| (try dsimp only [CDiv, CMul, CPow]); first
  | (with_reducible assumption)
  | omega
  | decide
  | walk_at "sz"
  | exact ⟨by omega, by omega⟩
  | exact ⟨by omega, by omega, by omega⟩
  | exact Or.inr ⟨by omega, by omega⟩
  | exact Or.inl ⟨by omega, by omega⟩)
local macro_rules | `(tactic| walk_at "go") => `(tactic| repeat (first
  | refine ⟨_, rfl, ?_⟩
  | refine ⟨_, _, rfl, rfl, ?_⟩
  | refine Or.inl ⟨_, rfl, ?_⟩
  | refine Or.inl ⟨_, _, rfl, rfl, ?_⟩
  | refine Or.inl ⟨_, _, _, _, rfl, rfl, SqL.of (by walk_at "hp"), rfl, ?_⟩
  | refine Or.inl ⟨rfl, ?_⟩
  | refine Or.inl ⟨_, _, _, _, rfl, rfl, (by walk_at "hp"), rfl, ?_⟩
  | refine Or.inr (Or.inl ⟨_, _, _, _, rfl, rfl, SqT.of (by walk_at "hp"), rfl, ?_⟩)
  | refine Or.inl ⟨_, _, rfl, Or.inl ⟨_, SqL.of (by walk_at "hp"), rfl⟩, ?_⟩
  | (with_reducible refine iteF ?_)
  | (with_reducible refine iteT ?_)
  | refine And.intro (by walk_at "sd") ?_
  | refine ⟨Or.inl ⟨rfl, _, SqL.of (by walk_at "hp")⟩, ?_⟩
  | refine ⟨_, _, _, rfl, rfl, (by walk_at "hp"), (by walk_at "sz"), ?_⟩
  | refine ⟨_, _, rfl, SqT.of (by walk_at "hp"), rfl, ?_⟩
  | refine ⟨_, _, rfl, ?_⟩
  | refine ⟨_, _, _, rfl, ?_⟩
  | refine ⟨rfl, ?_⟩))

section
variable {P : Program} {w : World} {K : PySem.W.Frag} {mg : Str → Option Value} {base : Heap}
theorem ok__law_beside {f : Addr} {fd : FuncData} (F : Fun K "_law_beside" "_law_beside" s__law_beside f fd) (B : Blt mg) : FnOk P w K mg base CX0 1 f fd ["own", "one"] sp_beside := by
  refine F.ok sc__law_beside (fun vs H Q E h => ?_) (fun cdv A outer s H vs Q E hr h => ?_)
  · obtain ⟨G, _, _, _, rfl, _⟩ := h
    rfl
  · obtain ⟨o, ts, es, u, rfl, ⟨t, e, as, ho, ht, he, hts⟩, z1, z2, q⟩ := h
    have hu := hu_of hr
    have hla := hts.length
    rw [List.length_map] at hla
    refine ⟨_, (pss_cons (ps_set (i := 2) sc__law_beside.nd rfl (Or.inr rfl) (pe_lc (own := [("u", 3), ("v", 4)]) (by rfl) sc__law_beside.nd (kpi_list (K := K) (pe_ix (kix (K := K) hu) (pv 0) pe_int (fun _ _ => rfl))) (blkOk_by (own := [("u", 3), ("v", 4)]) (N := ["own", "one", "told", "u", "v", "w"]) (sc := defScope s__law_beside) (by decide +kernel)) (fun _ _ _ _ _ => (kpg_tup (K := K) (n := 2) (pg_tup rfl (pgs_cons (pg_name (i := 3) sc__law_beside.nd rfl (Or.inl rfl)) (pgs_cons (pg_name (i := 4) sc__law_beside.nd rfl (Or.inl rfl)) pgs_nil))))) (fun _ _ _ _ _ => (pts_one (PW.pt (pw_or (pt_cmpR (keq (K := K) hr) (pv 1) (pv 3) (nomark _)) (pw_or1 (pt_cmpR (keq (K := K) hr) (pv 1) (pv 4) (nomark _))))))) (fun _ _ _ _ _ => (pe_ifExp (pt_cmpR (keq (K := K) hr) (pv 4) (pv 1) (nomark _)) (pv 3) (pv 4)))))
      (pss_one (ps_ret (pe_lc (own := [("w", 5)]) (by rfl) sc__law_beside.nd (kpi_list (K := K) (pe_ix (kix (K := K) hu) (pv 0) pe_int (fun _ _ => rfl))) (blkOk_by (own := [("w", 5)]) (N := ["own", "one", "told", "u", "v", "w"]) (sc := defScope s__law_beside) (by decide +kernel)) (fun _ _ _ _ _ => (pg_name (i := 5) sc__law_beside.nd rfl (Or.inl rfl))) (fun _ _ _ _ _ => (pts_one (pt_cmpR (kin (K := K) (P := P) (w := w) hr) (pv 5) (pv 2) (by rfl)))) (fun _ _ _ _ _ => (pv 5)))))), ?_⟩
    walk_at "go"
    refine ⟨⟨_, SqL.of he⟩, fun D nD => ?_⟩
    have hn : (as.map V.ref).length = es.length := by rw [List.length_map, hla]
    refine lc_acc (walk_list (K := K) (a := e) (xs := as.map V.ref)) (fun i => fm (fun p => decide (u = p.1) || decide (u = p.2)) (fun p : Str × Str => V.str (if p.2 = u then p.1 else p.2)) es i) rfl nD (fun H' s => SqL.of (s _ _ he)) (fun i hi => Nat.le_trans fm_len (by omega)) ?_ ?_
    · rintro k z H7 H8 hk s7 ⟨rfl, hz⟩ N Yd hN hY
      rw [List.getElem?_map] at hz
      obtain ⟨a, ha, rfl⟩ := Option.map_eq_some_iff.mp hz
      obtain ⟨kk, hkk, ea⟩ := hts.get ha
      rw [List.getElem?_map] at hkk
      obtain ⟨pr, hpr, rfl⟩ := Option.map_eq_some_iff.mp hkk
      have ea7 : H8 a = some (.tup [.str pr.1, .str pr.2]) := s7 _ _ ea
      have hgY := fun (c : (decide (u = pr.1) || decide (u = pr.2)) = true) => fun H2 (s : Same H8 H2) => hY _ H2 (fm_yes hpr c) s
      clear hY
      have last : (u = pr.1 ∨ u = pr.2) → ∀ (σ : L2.St) (t : TE), (σ[3]? = some (some (.str pr.1)) ∧ σ[4]? = some (some (.str pr.2)) ∧ σ[1]? = some (some (.str u))) → tIf (tTest (tOp (rEqA K) (tVar 4) (tVar 1))) (tVar 3) (tVar 4) σ H8 Yd := by
        rintro c σ t ⟨c3, c4, c1⟩
        have c' : (decide (u = pr.1) || decide (u = pr.2)) = true := by rcases c with c | c <;> simp [c]
        have fin := hgY c' H8 (Same.refl _)
        refine ⟨_, c4, _, c1, ?_⟩
        walk_at "go"
        refine ite_ds (fun h => ?_) (fun h => ?_)
        · rw [if_pos h] at fin
          exact ⟨_, c3, fin⟩
        · rw [if_neg h] at fin
          exact ⟨_, c4, fin⟩
      walk_at "go"
      refine ite_ds (fun h => ?_) (fun h => ?_)
      · exact last (.inl h) _ (fun _ _ _ => True) ⟨rfl, rfl, rfl⟩
      · walk_at "go"
        refine ite_ds (fun h2 => ?_) (fun h2 => ?_)
        · exact last (.inr h2) _ (fun _ _ _ => True) ⟨rfl, rfl, rfl⟩
        · exact hN (fm_no hpr (by simp [h, h2])) _ (Same.refl _)
    · intro H7 s7 hD7
      rw [fm_all hn] at hD7
      have hD8 : H7 D = some (.lst ((nearT es u).map V.str)) := by
        rw [hD7, nearT, List.map_map]
        rfl
      have ho7 := s7 _ _ ho
      have ht7 := s7 _ _ ht
      walk_at "go"
      refine ⟨⟨_, SqL.of ht7⟩, fun E nE => ?_⟩
      have hl : (ts.map V.str).length = ts.length := List.length_map _
      refine lc_acc (walk_list (K := K) (a := t) (xs := ts.map V.str)) (fun i => fm (fun w => decide (w ∈ nearT es u)) V.str ts i) rfl nE (fun H' s => SqL.of (s _ _ ht7)) (fun i hi => Nat.le_trans fm_len (by omega)) ?_ ?_
      · rintro k z H8 H9 hk s8 ⟨rfl, hz⟩ N Yd hN hY
        rw [List.getElem?_map] at hz
        obtain ⟨x, hx, rfl⟩ := Option.map_eq_some_iff.mp hz
        have hD9 := s8 _ _ hD8
        refine ⟨rfl, ?_⟩
        refine ⟨_, rfl, _, rfl, ?_⟩
        refine .inl ⟨D, _, rfl, .inl (SqL.of hD9), rfl, flat_strs _, ?_⟩
        rw [inV_strs]
        refine ⟨_, rfl, ite_d (fun h => ?_) (fun h => ?_)⟩
        · exact ⟨_, rfl, hY _ _ (fm_yes hx (decide_eq_true h)) (Same.refl _)⟩
        · exact hN (fm_no hx (decide_eq_false h)) _ (Same.refl _)
      · intro H8 s8 hE8
        rw [fm_all hl] at hE8
        exact q E H8 (s7.free nE) (fun a o h => s8 _ _ (s7 _ _ h)) hE8
end

end Y

namespace Y
open PySem PySem.Spec PyProof.Rows L2
theorem sc__law_wheel_of : FnScope ["bag", "own", "told", "u"] ["bag", "own"] (defScope s__law_wheel_of) := ⟨rfl, rfl, rfl, by decide +kernel, rfl, by decide +kernel, by decide +kernel⟩
local macro_rules | `(tactic| walk_at "hp") => `(tactic| first
  | assumption
  | exact upd_same
  | (refine (upd_ne (by first | assumption | exact Ne.symm (by assumption))).trans ?_; walk_at "hp"))
local macro_rules | `(tactic| walk_at "sz") => `(tactic| first
  | (rw [nat63]; omega)
  | (rw [nat63]; exact Nat.le_of_ble_eq_true rfl)
  | (simp only [nat63, List.length_append, List.length_cons, List.length_nil, List.length_map, List.length_set]; omega))
local macro_rules | `(tactic| walk_at "sd") => `(tactic| (try dsimp only [CDiv, CMul, CPow]); first
  | (with_reducible assumption)
  | omega
  | decide
  | walk_at "sz"
  | exact ⟨by omega, by omega⟩
  | exact ⟨by omega, by omega, by omega⟩
  | exact Or.inr ⟨by omega, by omega⟩
  | exact Or.inl ⟨by omega, by omega⟩)
local macro_rules | `(tactic| walk_at "go") => `(tactic| repeat (first
  | refine ⟨_, rfl, ?_⟩
  | refine ⟨_, _, rfl, rfl, ?_⟩
  | refine Or.inl ⟨_, rfl, ?_⟩
  | refine Or.inl ⟨_, _, rfl, rfl, ?_⟩
  | refine Or.inl ⟨_, _, _, _, rfl, rfl, SqL.of (by walk_at "hp"), rfl, ?_⟩
  | refine Or.inl ⟨rfl, ?_⟩
  | refine Or.inl ⟨_, _, _, _, rfl, rfl, (by walk_at "hp"), rfl, ?_⟩
  | refine Or.inr (Or.inl ⟨_, _, _, _, rfl, rfl, SqT.of (by walk_at "hp"), rfl, ?_⟩)
  | refine Or.inl ⟨_, _, rfl, Or.inl ⟨_, SqL.of (by walk_at "hp"), rfl⟩, ?_⟩
  | (with_reducible refine iteF ?_)
  | (with_reducible refine iteT ?_)
  | refine And.intro (by walk_at "sd") ?_
  | refine ⟨Or.inl ⟨rfl, _, SqL.of (by walk_at "hp")⟩, ?_⟩
  | refine ⟨_, _, _, rfl, rfl, (by walk_at "hp"), (by walk_at "sz"), ?_⟩
  | refine ⟨_, _, rfl, SqT.of (by walk_at "hp"), rfl, ?_⟩
  | refine ⟨_, _, rfl, ?_⟩
  | refine ⟨_, _, _, rfl, ?_⟩
  | refine ⟨⟨_, rfl⟩, ?_⟩
  | refine ⟨rfl, ?_⟩))
local macro_rules | `(tactic| walk_at "nb") => `(tactic| first
  | exact (nb_vs1 _).bag
  | exact (nb_strs _).bag
  | exact (nb_vsS _).bag
  | exact (nb_refs _).bag
  | assumption
  | rfl)
local macro_rules | `(tactic| walk_at "hp") => `(tactic| first
  | assumption
  | with_reducible exact upd_same
  | ((with_reducible apply upd_keep); assumption; walk_at "hp")
  | ((with_reducible apply Wb.keep); assumption; walk_at "hp"; walk_at "nb")
  | ((with_reducible apply Same.keep); assumption; walk_at "hp"))
local macro_rules | `(tactic| walk_at "wb") => `(tactic| first
  | assumption
  | exact Wb.refl (by assumption)
  | (apply Wb.trans2; assumption; walk_at "wb1")
  | (apply Wb.same2; assumption; walk_at "wb1"))
local macro_rules | `(tactic| walk_at "wb1") => `(tactic| walk_at "wb")
local macro_rules | `(tactic| walk_at "sd") => `(tactic| with_reducible exact Wb.bag (by assumption))

def sp_wheel_of : Sp := fun vs H Q _ => ∃ (G : BagId) (o : Addr) (ts : List Str) (es : List (Str × Str)), vs = [.ref G.b, .ref o] ∧ Bag G H ∧ OwnAt H o ts es ∧ ts.Nodup ∧ ts.length ≤ 1000 ∧ es.length ≤ 1000 ∧
  ∀ (p : Addr) (W : Whl) (H' : Hp), H p = none → WhAt H' p W → Paired (RingOf ts es) ts W → Wb G H H' → Q (.ref p) H'
section
variable {P : Program} {w : World} {K : PySem.W.Frag} {mg : Str → Option Value} {base : Heap}
theorem ok__law_wheel_of {f : Addr} {fd : FuncData} (F : Fun K "_law_wheel_of" "_law_wheel_of" s__law_wheel_of f fd) (B : Blt mg) (G__law_mixed : Fn P w K mg base 2 "_law_mixed" ["bag", "things"] sp_mixed) (G__law_beside : Fn P w K mg base 1 "_law_beside" ["own", "one"] sp_beside) : FnOk P w K mg base CX0 3 f fd ["bag", "own"] sp_wheel_of := by
  refine F.ok sc__law_wheel_of (fun vs H Q E h => ?_) (fun cdv A outer s H vs Q E hr h => ?_)
  · obtain ⟨G, o, ts, es, rfl, _⟩ := h
    rfl
  · obtain ⟨G, o, ts, es, rfl, hb, ho, gn, z1, z2, q⟩ := h
    have hu := hu_of hr
    refine ⟨_, (pss_cons (ps_set (i := 2) sc__law_wheel_of.nd rfl (Or.inl rfl) pe_dnewK)
      (pss_cons (ps_for PassesOwn.never rfl (kpi_list (K := K) (pe_ix (kix (K := K) hu) (pv 1) pe_int (fun _ _ => rfl))) (pg_name (i := 3) sc__law_wheel_of.nd rfl (Or.inl rfl))
      (pss_one (ps_asg (pe_fn G__law_mixed (hr.mono (by decide)) (by rfl) (pa_cons (pv 0) (pa_cons (pe_fn G__law_beside (hr.mono (by decide)) (by rfl) (pa_cons (pv 1) (pa_cons (pv 3) pa_nil))) pa_nil))) (pg_sub (pv 2) (pv 3) (set_any hu)))))
      (pss_one (ps_ret (pv 2))))), ?_⟩
    walk_at "go"
    intro t nt
    generalize et : upd H t _ = H2 at *
    have ht2 := at_new et
    have v2 := Wb.of_new et nt hb
    clear et
    obtain ⟨a, e, as, oo, oa, oe, ots⟩ := ho.kp v2.kp
    have ho2 : OwnAt H2 o ts es := ⟨a, e, as, oo, oa, oe, ots⟩
    have hL : (ts.map V.str).length = ts.length := List.length_map _
    walk_at "go"
    refine ⟨⟨_, SqL.of oa⟩, for_list (K := K) (a := a) (xs := ts.map V.str) (fun i σ H' => ∃ (v3 : Option V) (ks : List (Key × V)) (W : Whl), σ = [some (.ref G.b), some (.ref o), some (.ref t), v3] ∧ Wb G H H' ∧ OwnAt H' o ts es ∧ H' a = some (.lst (ts.map V.str)) ∧ H' t = some (.dK ks) ∧ Paired (RgP H') ks W ∧ Paired (RingOf ts es) (ts.take i) W) ?_ ?_ ?_ ?_⟩
    · exact ⟨_, [], [], rfl, v2, ho2, oa, ht2, .nil, .nil⟩
    · rintro i σ H' _ ⟨_, ks, W, rfl, _, _, oa', _⟩
      exact SqL.of oa'
    · rintro i x σ H4 hx ⟨v3, ks, W, rfl, v4, ho4, oa4, ht4, hp, hW⟩
      rw [List.getElem?_map] at hx
      obtain ⟨u, hu', rfl⟩ := Option.map_eq_some_iff.mp hx
      have b4 := v4.bag
      walk_at "go"
      refine ⟨o, ts, es, u, rfl, ho4, by omega, by omega, fun p H5 np s5 hp5 => ?_⟩
      have v5 : Wb G H4 H5 := (Wb.refl b4).same s5
      have nl : (nearL ts es u).length ≤ ts.length := List.length_filter_le _ _
      refine ⟨G, p, _, rfl, v5.bag, hp5, nb_strs _, by rw [List.length_map]; omega, fun p' ys H6 pm np' hp6 v6 => ?_⟩
      obtain ⟨l, rfl, pl⟩ := perm_map_inv pm rfl
      have v46 := v5.trans v6
      have ht6 := v46.keep ht4 rfl
      have hks := Paired.length hp
      have hWs := Paired.length hW
      rw [List.length_take] at hWs
      walk_at "go"
      refine .inr ⟨t, _, rfl, DPut.k (k := Sum.inr u) ht6 (by rw [nat63]; omega), ?_⟩
      have kn : (Sum.inr u : Key) ∉ ks.map (·.1) := by
        rw [rgp_keys hp]
        intro m
        obtain ⟨ur, hm, e⟩ := List.mem_map.mp m
        obtain ⟨u', hu2, e2, _⟩ := paired_mem hW hm
        rw [e2] at e
        cases e
        exact nd_take gn hu' hu2
      rw [putK_new _ (valV_no kn)]
      have hkv : H6 p' = some (.lst ((l.map (Sum.inr : Str → Key)).map kV)) := by
        rw [hp6, List.map_map]
        rfl
      refine ⟨_, ks ++ [(Sum.inr u, .ref p')], W ++ [(Sum.inr u, l.map Sum.inr)], rfl, (v4.trans v46).mut nt, ?_, ?_, upd_same, RgP.add ht6 (Paired.mapP hp fun a b r => r.kp v46.kp) hkv, ?_⟩
      · obtain ⟨x1, x2, x3, q1, q2, q3, q4⟩ := ho4.kp v46.kp
        have F : ∀ (o' : HO) (a : Addr) (u : HO), H6 a = some u → u ≠ .dK ks → upd H6 t o' a = some u := fun o' a u h n => by
          rw [upd_ne (ne_of h ht6 n)]
          exact h
        exact ⟨x1, x2, x3, F _ _ _ q1 (by intro q; cases q), F _ _ _ q2 (by intro q; cases q), F _ _ _ q3 (by intro q; cases q), q4.mono fun a xs h => F _ _ _ h (by intro q; cases q)⟩
      · rw [upd_ne (ne_of (v46.keep oa4 (nb_strs _).bag) ht6 (by intro q; cases q))]
        exact v46.keep oa4 (nb_strs _).bag
      · rw [take_snoc hu']
        exact paired_snoc ⟨rfl, l, rfl, pl⟩ hW
    · rintro σ H4 ⟨v3, ks, W, rfl, v4, ho4, oa4, ht4, hp, hW⟩
      rw [hL, List.take_length] at hW
      walk_at "go"
      exact q t W _ nt ⟨ks, ht4, hp⟩ hW v4
end

end Y

namespace Y
open PySem PySem.Spec PyProof.Rows L2
theorem sc__law_drawn : FnScope ["bag", "pick", "many", "count", "pairs", "titles", "i", "j"] ["bag"] (defScope s__law_drawn) := ⟨rfl, rfl, rfl, by decide +kernel, rfl, by decide +kernel, by decide +kernel⟩
local macro_rules | `(tactic| walk_at "hp") => `(tactic| first
  | assumption
  | exact upd_same
  | (refine (upd_ne (by first | assumption | exact Ne.symm (by assumption))).trans ?_; walk_at "hp"))
local macro_rules | `(tactic| walk_at "sz") => `(tactic| first
  | (rw [nat63]; omega)
  | (rw [nat63]; exact Nat.le_of_ble_eq_true rfl)
  | (simp only [nat63, List.length_append, List.length_cons, List.length_nil, List.length_map, List.length_set]; omega))
local macro_rules | `(tactic| walk_at "sd") => `(tactic| (try dsimp only [CDiv, CMul, CPow]); first
  | (with_reducible assumption)
  | omega
  | decide
  | walk_at "sz"
  | exact ⟨by omega, by omega⟩
  | exact ⟨by omega, by omega, by omega⟩
  | exact Or.inr ⟨by omega, by omega⟩
  | exact Or.inl ⟨by omega, by omega⟩)
local macro_rules | `(tactic| walk_at "go") => `(tactic| repeat (first
  | refine ⟨_, rfl, ?_⟩
  | refine ⟨_, _, rfl, rfl, ?_⟩
  | refine Or.inl ⟨_, rfl, ?_⟩
  | refine Or.inl ⟨_, _, rfl, rfl, ?_⟩
  | refine Or.inl ⟨_, _, _, _, rfl, rfl, SqL.of (by walk_at "hp"), rfl, ?_⟩
  | refine Or.inl ⟨rfl, ?_⟩
  | refine Or.inl ⟨_, _, _, _, rfl, rfl, (by walk_at "hp"), rfl, ?_⟩
  | refine Or.inr (Or.inl ⟨_, _, _, _, rfl, rfl, SqT.of (by walk_at "hp"), rfl, ?_⟩)
  | refine Or.inl ⟨_, _, rfl, Or.inl ⟨_, SqL.of (by walk_at "hp"), rfl⟩, ?_⟩
  | (with_reducible refine iteF ?_)
  | (with_reducible refine iteT ?_)
  | refine And.intro (by walk_at "sd") ?_
  | refine ⟨Or.inl ⟨rfl, _, SqL.of (by walk_at "hp")⟩, ?_⟩
  | refine ⟨_, _, _, rfl, rfl, (by walk_at "hp"), (by walk_at "sz"), ?_⟩
  | refine ⟨_, _, rfl, SqT.of (by walk_at "hp"), rfl, ?_⟩
  | refine ⟨_, _, rfl, ?_⟩
  | refine ⟨_, _, _, rfl, ?_⟩
  | refine ⟨⟨_, rfl⟩, ?_⟩
  | refine ⟨rfl, ?_⟩))
local macro_rules | `(tactic| walk_at "nb") => `(tactic| first
  | exact (nb_vs1 _).bag
  | exact (nb_strs _).bag
  | exact (nb_vsS _).bag
  | exact (nb_refs _).bag
  | assumption
  | rfl)
local macro_rules | `(tactic| walk_at "hp") => `(tactic| first
  | assumption
  | with_reducible exact upd_same
  | ((with_reducible apply upd_keep); assumption; walk_at "hp")
  | ((with_reducible apply Wb.keep); assumption; walk_at "hp"; walk_at "nb")
  | ((with_reducible apply Same.keep); assumption; walk_at "hp"))
local macro_rules | `(tactic| walk_at "wb") => `(tactic| first
  | assumption
  | exact Wb.refl (by assumption)
  | (apply Wb.trans2; assumption; walk_at "wb1")
  | (apply Wb.same2; assumption; walk_at "wb1"))
local macro_rules | `(tactic| walk_at "wb1") => `(tactic| walk_at "wb")
local macro_rules | `(tactic| walk_at "sd") => `(tactic| with_reducible exact Wb.bag (by assumption))

def sp_drawn : Sp := fun vs H Q _ => ∃ (G : BagId), vs = [.ref G.b] ∧ Bag G H ∧
  ∀ (p : Addr) (W : Whl) (H' : Hp), WhAt H' p W → Good W → OkW W → StrW W → W.length ≤ 16 → (stepsW W).length ≤ 60 → Wb G H H' → Q (.ref p) H'
theorem numsV : ∀ v ∈ [V.int 1, V.int 2, V.int 3, V.int 4, V.int 5, V.int 6, V.int 7, V.int 8, V.int 12, V.int 16], ∃ n : Nat, v = V.int n ∧ 1 ≤ n ∧ n ≤ 16 := by
  intro v h
  simp only [List.mem_cons, List.not_mem_nil, or_false] at h
  rcases h with rfl | rfl | rfl | rfl | rfl | rfl | rfl | rfl | rfl | rfl
  · exact ⟨1, rfl, by decide, by decide⟩
  · exact ⟨2, rfl, by decide, by decide⟩
  · exact ⟨3, rfl, by decide, by decide⟩
  · exact ⟨4, rfl, by decide, by decide⟩
  · exact ⟨5, rfl, by decide, by decide⟩
  · exact ⟨6, rfl, by decide, by decide⟩
  · exact ⟨7, rfl, by decide, by decide⟩
  · exact ⟨8, rfl, by decide, by decide⟩
  · exact ⟨12, rfl, by decide, by decide⟩
  · exact ⟨16, rfl, by decide, by decide⟩
section
variable {P : Program} {w : World} {K : PySem.W.Frag} {mg : Str → Option Value} {base : Heap}
theorem ok__law_drawn {f : Addr} {fd : FuncData} (F : Fun K "_law_drawn" "_law_drawn" s__law_drawn f fd) (B : Blt mg) (G__law_draw : Fn P w K mg base 1 "_law_draw" ["bag", "limit"] sp_draw) (G__law_of : Fn P w K mg base 2 "_law_of" ["bag", "things"] sp_of) (G__law_drawing : Fn P w K mg base 3 "_law_drawing" ["bag", "many", "more"] sp_drawing)
    (G__law_titled : Fn P w K mg base 3 "_law_titled" ["bag", "wheel", "titles"] sp_titled) (G__law_strings : Fn P w K mg base 3 "_law_strings" ["bag", "titles"] sp_strings) (G__law_names : Fn P w K mg base 3 "_law_names" ["bag", "many"] sp_names)
    (G__law_pattern : Fn P w K mg base 4 "_law_pattern" ["bag"] sp_pattern) (G__law_wheel_of : Fn P w K mg base 3 "_law_wheel_of" ["bag", "own"] sp_wheel_of) : FnOk P w K mg base CX0 5 f fd ["bag"] sp_drawn := by
  refine F.ok sc__law_drawn (fun vs H Q E h => ?_) (fun cdv A outer s H vs Q E hr h => ?_)
  · obtain ⟨G, rfl, _⟩ := h
    rfl
  · obtain ⟨G, rfl, hb, q⟩ := h
    have hu := hu_of hr
    refine ⟨_, (pss_cons (ps_set (i := 1) sc__law_drawn.nd rfl (Or.inl rfl) (pe_fn G__law_draw (hr.mono (by decide)) (by rfl) (pa_cons (pv 0) (pa_cons pe_int pa_nil))))
      (pss_cons (ps_if (pt_cmpR (keq (K := K) hr) (pv 1) pe_int (nomark _))
      (pss_one (ps_ret pe_dnewK))
      pss_nil)
      (pss_cons (ps_if (pt_cmpR op_lt (pv 1) pe_int (nomark _))
      (pss_cons (ps_set (i := 2) sc__law_drawn.nd rfl (Or.inl rfl) (pe_fn G__law_of (hr.mono (by decide)) (by rfl) (pa_cons (pv 0) (pa_cons (pe_lst (pa_cons pe_int (pa_cons pe_int (pa_cons pe_int (pa_cons pe_int (pa_cons pe_int (pa_cons pe_int (pa_cons pe_int (pa_cons pe_int (pa_cons pe_int (pa_cons pe_int pa_nil))))))))))) pa_nil))))
      (pss_one (ps_ret (pe_fn G__law_titled (hr.mono (by decide)) (by rfl) (pa_cons (pv 0) (pa_cons (pe_fn G__law_drawing (hr.mono (by decide)) (by rfl) (pa_cons (pv 0) (pa_cons (pv 2) (pa_cons (pe_fn G__law_draw (hr.mono (by decide)) (by rfl) (pa_cons (pv 0) (pa_cons pe_int pa_nil))) pa_nil)))) (pa_cons (pe_fn G__law_strings (hr.mono (by decide)) (by rfl) (pa_cons (pv 0) (pa_cons (pe_fn G__law_names (hr.mono (by decide)) (by rfl) (pa_cons (pv 0) (pa_cons (pv 2) pa_nil))) pa_nil))) pa_nil)))))))
      pss_nil)
      (pss_cons (ps_asg (pe_fn G__law_pattern (hr.mono (by decide)) (by rfl) (pa_cons (pv 0) pa_nil)) (kpg_tup (K := K) (n := 2) (pg_tup rfl (pgs_cons (pg_name (i := 3) sc__law_drawn.nd rfl (Or.inl rfl)) (pgs_cons (pg_name (i := 4) sc__law_drawn.nd rfl (Or.inl rfl)) pgs_nil)))))
      (pss_cons (ps_set (i := 5) sc__law_drawn.nd rfl (Or.inr rfl) (pe_fn G__law_strings (hr.mono (by decide)) (by rfl) (pa_cons (pv 0) (pa_cons (pe_fn G__law_names (hr.mono (by decide)) (by rfl) (pa_cons (pv 0) (pa_cons (pv 3) pa_nil))) pa_nil))))
      (pss_one (ps_ret (pe_fn G__law_wheel_of (hr.mono (by decide)) (by rfl) (pa_cons (pv 0) (pa_cons (pe_tup (pa_cons (pv 5) (pa_cons (pe_lc (own := [("i", 6), ("j", 7)]) (by rfl) sc__law_drawn.nd (kpi_list (K := K) (pv 4)) (blkOk_by (own := [("i", 6), ("j", 7)]) (N := ["bag", "pick", "many", "count", "pairs", "titles", "i", "j"]) (sc := defScope s__law_drawn) (by decide +kernel)) (fun _ _ _ _ _ => (kpg_tup (K := K) (n := 2) (pg_tup rfl (pgs_cons (pg_name (i := 6) sc__law_drawn.nd rfl (Or.inl rfl)) (pgs_cons (pg_name (i := 7) sc__law_drawn.nd rfl (Or.inl rfl)) pgs_nil))))) (fun _ _ _ _ _ => pts_nil) (fun _ _ _ _ _ => (pe_tup (pa_cons (pe_ix (kix (K := K) hu) (pv 5) (pv 6) (fun _ _ => rfl)) (pa_cons (pe_ix (kix (K := K) hu) (pv 5) (pv 7) (fun _ _ => rfl)) pa_nil))))) pa_nil))) pa_nil)))))))))), ?_⟩
    walk_at "go"
    intro pick H1 p0 p1 v1
    have b1 := v1.bag
    walk_at "go"
    refine ite_di (fun c => ?_) (fun c => ?_)
    · walk_at "go"
      intro d nd
      generalize ed : upd H1 d _ = H2 at *
      have hd2 := at_new ed
      have v2 := Wb.of_new ed nd b1
      exact q d [] H2 ⟨[], hd2, .nil⟩ ⟨List.nodup_nil, fun ur h => absurd h List.not_mem_nil, fun u v h => absurd h List.not_mem_nil, fun u v h => absurd h List.not_mem_nil⟩ (fun k h => absurd h List.not_mem_nil) (fun k h => absurd h List.not_mem_nil) (by decide) (by decide) (v1.trans v2)
    walk_at "go"
    refine ite_d (fun c2 => ?_) (fun c2 => ?_)
    · walk_at "go"
      intro l nl
      generalize el : upd H1 l _ = H2 at *
      have hl2 := at_new el
      have v2 := Wb.of_new el nl b1
      clear el
      refine ⟨G, l, _, rfl, v2.bag, hl2, rfl, by decide, by decide, fun v H3 hv v3 => ?_⟩
      obtain ⟨n, rfl, n1, n16⟩ := numsV v hv
      have b3 := v3.bag
      walk_at "go"
      intro x H4 x0 x1 v4
      obtain ⟨x, rfl⟩ : ∃ c' : Nat, x = (c' : Int) := ⟨x.toNat, by omega⟩
      walk_at "go"
      intro d W H5 nd hW g hk hcnt v5
      have b5 := v5.bag
      walk_at "go"
      intro a xs H6 na ha nm v6
      refine ⟨G, a, n, xs, rfl, v6.bag, ha, nm, by omega, fun a2 ys H7 ha2 ti v7 => ?_⟩
      have v57 := v6.trans v7
      have hWl : W.length = n := by
        have := congrArg List.length hk
        rw [List.length_map, keysN_len] at this
        exact this
      refine ⟨G, d, a2, n, W, ys, rfl, v7.bag, hW.kp v57.kp, g.nd, fun ur hm => ⟨keysN_mem.mp (by rw [← hk]; exact List.mem_map_of_mem hm), fun v hv => keysN_mem.mp (by rw [← hk]; exact ring_keys g (u := ur.1) (r := ur.2) hm hv), ?_⟩, by omega, ha2, ti.1, ti.2.1, fun p ks W' H8 np hW' pm hp v8 => ?_⟩
      · have := ring_small g (u := ur.1) (r := ur.2) hm
        omega
      · refine q p W' H8 hW' (titled_good g hk ti.1 ti.2.1 pm hp) (titled_ok hk ti.1 ti.2.2 pm hp) (titled_str hk pm hp) ?_ (Nat.le_trans (titled_len g (titled_good g hk ti.1 ti.2.1 pm hp) hk pm hp) hcnt) (((((v1.trans v2).trans v3).trans v4).trans v5).trans (v57.trans v8))
        have h1 := Paired.length hp
        have h2 := pm.length_eq
        rw [List.length_map] at h2
        omega
    · walk_at "go"
      intro t p n ps H2 nt np ht hps n16 pat v2
      obtain ⟨n, rfl⟩ : ∃ c' : Nat, n = (c' : Int) := ⟨n.toNat, by omega⟩
      have b2 := v2.bag
      walk_at "go"
      intro a xs H6 na ha nm v6
      refine ⟨G, a, n, xs, rfl, v6.bag, ha, nm, by omega, fun a2 ys H7 ha2 ti v7 => ?_⟩
      have v27 := v6.trans v7
      obtain ⟨as, e1, t1⟩ := hps.kp v27.kp
      have tl := t1.length
      rw [List.length_map] at tl
      have pl := pat.len
      walk_at "go"
      refine ⟨⟨_, SqL.of e1⟩, fun D nD => ?_⟩
      have hL : (as.map V.ref).length = ps.length := by rw [List.length_map, tl]
      have es : ∃ f : Int × Int → Str × Str, f = fun p => (ys.getD p.1.toNat "", ys.getD p.2.toNat "") := ⟨_, rfl⟩
      obtain ⟨f, hf⟩ := es
      have getY : ∀ i : Int, 0 ≤ i → i < n → ∃ j : Nat, i = (j : Int) ∧ atI (ys.map V.str) (j : Int) = some (V.str (ys.getD j "")) := fun i h0 h1 => by
        refine ⟨i.toNat, by omega, atI_nat ?_⟩
        have hlt : i.toNat < ys.length := by rw [ti.1]; omega
        rw [List.getElem?_map, List.getElem?_eq_getElem hlt, List.getD_eq_getElem?_getD, List.getElem?_eq_getElem hlt]
        rfl
      refine lc_tups (walk_list (K := K) (a := p) (xs := as.map V.ref)) (fun i => ((ps.take i).map f).map sk) rfl nD (fun H' s => SqL.of (s _ _ e1)) (fun i hi => by rw [List.length_map, List.length_map, List.length_take]; omega) ?_ ?_
      · rintro k z H8 H9 hk s8 ⟨rfl, hz⟩ N Yd hN hY
        rw [List.getElem?_map] at hz
        obtain ⟨a', ha', rfl⟩ := Option.map_eq_some_iff.mp hz
        obtain ⟨kk, hkk, ea⟩ := t1.get ha'
        rw [List.getElem?_map] at hkk
        obtain ⟨pr, hpr, rfl⟩ := Option.map_eq_some_iff.mp hkk
        obtain ⟨r0, r1, r2⟩ := pat.rng pr (List.mem_of_getElem? hpr)
        obtain ⟨i, j⟩ := pr
        have r0 : 0 ≤ i := r0
        have r1 : i < j := r1
        have r2 : j < (n : Int) := r2
        have ea9 : H9 a' = some (.tup [.int i, .int j]) := s8 _ _ ea
        have hy9 := s8 _ _ ha2
        obtain ⟨i', rfl, gi⟩ := getY i r0 (by omega)
        obtain ⟨j', rfl, gj⟩ := getY j (by omega) r2
        walk_at "go"
        refine .inl ⟨a2, _, _, _, rfl, rfl, SqL.of hy9, gi, ?_⟩
        walk_at "go"
        refine .inl ⟨a2, _, _, _, rfl, rfl, SqL.of hy9, gj, ?_⟩
        walk_at "go"
        intro t9 nt9
        refine hY (sk (f ((i' : Int), (j' : Int)))) t9 _ ?_ (same_upd nt9) (by rw [upd_same, hf]; rfl)
        rw [take_snoc hpr, List.map_append, List.map_append]
        rfl
      · intro bs H8 s8 hD8 t8
        rw [hL, List.take_length] at t8
        walk_at "go"
        intro o no
        generalize eo : upd H8 o _ = H9 at *
        have ho9 := at_new eo
        have s9 := same_new eo no
        clear eo
        have v9 : Wb G H7 H9 := ((Wb.refl v7.bag).same s8).same s9
        have hlen := ti.1
        refine ⟨G, o, ys, ps.map f, rfl, v9.bag, ⟨a2, D, bs, ho9, s9 _ _ (s8 _ _ ha2), s9 _ _ hD8, t8.mono fun a xs e => s9 _ _ e⟩, ti.2.1, by omega, by rw [List.length_map]; omega, fun p' W H10 np' hW hR v10 => ?_⟩
        have ne : ∀ e ∈ ps.map f, e.1 ≠ e.2 := by
          intro e he
          obtain ⟨⟨i, j⟩, hp, rfl⟩ := List.mem_map.mp he
          obtain ⟨r0, r1, r2⟩ := pat.rng _ hp
          have r0 : 0 ≤ i := r0
          have r1 : i < j := r1
          have r2 : j < (n : Int) := r2
          rw [hf]
          show ys.getD i.toNat "" ≠ ys.getD j.toNat ""
          have h1 : i.toNat < ys.length := by omega
          have h2 : j.toNat < ys.length := by omega
          rw [List.getD_eq_getElem?_getD, List.getD_eq_getElem?_getD, List.getElem?_eq_getElem h1, List.getElem?_eq_getElem h2]
          intro e
          have e' : ys[i.toNat] = ys[j.toNat] := e
          have := nodup_idx ti.2.1 (List.getElem?_eq_getElem h1) (by rw [e']; exact List.getElem?_eq_getElem h2)
          omega
        have hWl := Paired.length hR
        exact q p' W H10 hW (near_good ti.2.1 ne hR) (near_ok ti.2.2 hR) (near_str hR) (by omega) (by have := near_len ne (near_good ti.2.1 ne hR) hR; rw [List.length_map] at this; omega) (((v1.trans v2).trans v27).trans (v9.trans v10))
end

end Y

namespace Y
open PySem PySem.Spec PyProof.Rows L2
def sp_bag (K : PySem.W.Frag) : Sp := fun vs H Q _ => ∃ (a : Addr) (ns : List Int), vs = [.ref a] ∧ SqL K H a (ns.map V.int) ∧ ns.length ≤ 63 ∧ ∀ (G : BagId) (H' : Hp), Same H H' → H G.b = none → Bag G H' → Q (.ref G.b) H'
theorem sc__law_bag : FnScope ["script", "stir", "cell"] ["script"] (defScope s__law_bag) := ⟨rfl, rfl, rfl, by decide +kernel, rfl, by decide +kernel, by decide +kernel⟩
local macro_rules | `(tactic| walk_at "hp") => `(tactic| first
  | assumption
  | exact upd_same
  | (refine (upd_ne (by first | assumption | exact Ne.symm (by assumption))).trans ?_; walk_at "hp"))
local macro_rules | `(tactic| walk_at "sz") => `(tactic| first
  | (rw [nat63]; omega)
  | (rw [nat63]; exact Nat.le_of_ble_eq_true rfl)
  | (simp only [nat63, List.length_append, List.length_cons, List.length_nil, List.length_map, List.length_set]; omega))
local macro_rules | `(tactic| walk_at "sd") => `(tactic| (try dsimp only [CDiv, CMul, CPow]); first
  | (with_reducible assumption)
  | omega
  | decide
  | walk_at "sz"
  | exact ⟨by omega, by omega⟩
  | exact ⟨by omega, by omega, by omega⟩
  | exact Or.inr ⟨by omega, by omega⟩
  | exact Or.inl ⟨by omega, by omega⟩)
local macro_rules | `(tactic| walk_at "go") => `(tactic| repeat (first
  | refine ⟨_, rfl, ?_⟩
  | refine ⟨_, _, rfl, rfl, ?_⟩
  | refine Or.inl ⟨_, rfl, ?_⟩
  | refine Or.inl ⟨_, _, rfl, rfl, ?_⟩
  | refine Or.inl ⟨_, _, _, _, rfl, rfl, SqL.of (by walk_at "hp"), rfl, ?_⟩
  | refine Or.inl ⟨rfl, ?_⟩
  | refine Or.inl ⟨_, _, _, _, rfl, rfl, (by walk_at "hp"), rfl, ?_⟩
  | refine Or.inr (Or.inl ⟨_, _, _, _, rfl, rfl, SqT.of (by walk_at "hp"), rfl, ?_⟩)
  | refine Or.inl ⟨_, _, rfl, Or.inl ⟨_, SqL.of (by walk_at "hp"), rfl⟩, ?_⟩
  | (with_reducible refine iteF ?_)
  | (with_reducible refine iteT ?_)
  | refine And.intro (by walk_at "sd") ?_
  | refine ⟨Or.inl ⟨rfl, _, SqL.of (by walk_at "hp")⟩, ?_⟩
  | refine ⟨_, _, _, rfl, rfl, (by walk_at "hp"), (by walk_at "sz"), ?_⟩
  | refine ⟨_, _, rfl, SqT.of (by walk_at "hp"), rfl, ?_⟩
  | refine ⟨_, _, rfl, ?_⟩
  | refine ⟨_, _, _, rfl, ?_⟩
  | refine ⟨rfl, ?_⟩))

theorem cut63 {ns : List Int} (h : ns.length ≤ 63) : cutV (ns.map V.int) none (some 63) = ns.map V.int := by
  unfold cutV
  rw [HT.sIx_none, show HT.sIx (ns.map V.int).length (ns.map V.int).length (some 63) = min 63 (ns.map V.int).length from HT.sIx_nat _ _ 63, List.drop_zero, List.length_map]
  exact List.take_of_length_le (by rw [List.length_map]; omega)
section
variable {P : Program} {w : World} {K : PySem.W.Frag} {mg : Str → Option Value} {base : Heap}
theorem ok__law_bag {f : Addr} {fd : FuncData} (F : Fun K "_law_bag" "_law_bag" s__law_bag f fd) (B : Blt mg) : FnOk P w K mg base CX0 1 f fd ["script"] (sp_bag K) := by
  refine F.ok sc__law_bag (fun vs H Q E h => ?_) (fun cdv A outer s H vs Q E hr h => ?_)
  · obtain ⟨a, ns, rfl, _⟩ := h
    rfl
  · obtain ⟨a, ns, rfl, hS, hl, q⟩ := h
    have hu := hu_of hr
    refine ⟨_, (pss_cons (ps_set (i := 1) sc__law_bag.nd rfl (Or.inl rfl) pe_int)
      (pss_cons (ps_for PassesOwn.never rfl (kpi_list (K := K) (pe_slice (ksl (K := K)) (pv 0) po_none (po_some pe_int))) (pg_name (i := 2) sc__law_bag.nd rfl (Or.inl rfl))
      (pss_one (ps_set (i := 1) sc__law_bag.nd rfl (Or.inl rfl) (pe_op op_mod (pe_callTy (call_int1) (by rfl) B.int (by decide +kernel) (pa_cons (pe_op (kadd (K := K)) (pe_op (kadd (K := K)) (pe_op op_mul (pv 1) pe_int) (pe_op op_mod (pe_callTy (call_int1) (by rfl) B.int (by decide +kernel) (pa_cons (pv 2) pa_nil)) pe_int)) pe_int) pa_nil)) pe_int))))
      (pss_one (ps_ret (pe_lst (pa_cons (pe_callTy (klist (K := K)) (by rfl) B.list (by decide +kernel) (pa_cons (pe_slice (ksl (K := K)) (pv 0) po_none (po_some pe_int)) pa_nil)) (pa_cons pe_int (pa_cons pe_int (pa_cons (pv 1) (pa_cons pe_int pa_nil)))))))))), ?_⟩
    walk_at "go"
    refine Or.inl ⟨_, _, rfl, hS, fun p np => ?_⟩
    have s1 : Same H (upd H p (.lst (cutV (ns.map V.int) none (some 63)))) := same_upd np
    rw [cut63 hl] at s1 ⊢
    walk_at "go"
    refine ⟨⟨_, SqL.of upd_same⟩, for_list (K := K) (a := p) (xs := ns.map V.int) (fun i σ H' => (∃ m v, σ = [some (.ref a), some (.int m), v] ∧ 0 ≤ m ∧ m < 2147483647) ∧ Same (upd H p (.lst (ns.map V.int))) H') ⟨⟨_, _, rfl, by decide, by decide⟩, Same.refl _⟩ (fun i σ H' _ h => SqL.of (h.2 _ _ upd_same)) ?_ ?_⟩
    · rintro i x σ H' hx ⟨⟨m, v, rfl, m0, m1⟩, sm⟩
      rw [List.getElem?_map] at hx
      obtain ⟨z, hz, rfl⟩ := Option.map_eq_some_iff.mp hx
      walk_at "go"
      exact ⟨⟨_, _, rfl, Int.emod_nonneg _ (by decide), Int.emod_lt_of_pos _ (by decide)⟩, sm⟩
    · rintro σ H' ⟨⟨m, v, rfl, m0, m1⟩, sm⟩
      walk_at "go"
      have s2 := s1.trans sm
      refine Or.inl ⟨_, _, rfl, s2.seq hS, fun p2 np2 => ?_⟩
      rw [cut63 hl]
      walk_at "go"
      refine Or.inl ⟨_, _, rfl, Or.inl (SqL.of upd_same), fun l nl => ?_⟩
      walk_at "go"
      intro b nb
      have np2' : H p2 = none := s2.free np2
      have nl' : H l = none := s2.free (upd_none nl).2
      have nb1 := (upd_none nb)
      have nb2 : H b = none := s2.free (upd_none nb1.2).2
      refine q ⟨b, l, ns⟩ _ (same_mut (same_mut (same_mut s2 np2') nl') nb2) nb2 ⟨0, 0, m, 0, upd_same, ?_, by omega, by omega, m0, m1, hl⟩
      rw [upd_ne (Ne.symm nb1.1), upd_same]
end

end Y

namespace Y
open PySem PySem.Spec PyProof.Rows L2
theorem sc_are_rings : FnScope ["rings", "steps", "house", "ring", "other"] ["rings"] (defScope s_are_rings) := ⟨rfl, rfl, rfl, by decide +kernel, rfl, by decide +kernel, by decide +kernel⟩
local macro_rules | `(tactic| walk_at "hp") => `(tactic| first
  | assumption
  | exact upd_same
  | (refine (upd_ne (by first | assumption | exact Ne.symm (by assumption))).trans ?_; walk_at "hp"))
local macro_rules | `(tactic| walk_at "sz") => `(tactic| first
  | (rw [nat63]; omega)
  | (rw [nat63]; exact Nat.le_of_ble_eq_true rfl)
  | (simp only [nat63, List.length_append, List.length_cons, List.length_nil, List.length_map, List.length_set]; omega))
local macro_rules | `(tactic| walk_at "sd") => `(tactic| (try dsimp only [CDiv, CMul, CPow]); first
  | (with_reducible assumption)
  | omega
  | decide
  | walk_at "sz"
  | exact ⟨by omega, by omega⟩
  | exact ⟨by omega, by omega, by omega⟩
  | exact Or.inr ⟨by omega, by omega⟩
  | exact Or.inl ⟨by omega, by omega⟩)
local macro_rules | `(tactic| walk_at "go") => `(tactic| repeat (first
  | refine ⟨_, rfl, ?_⟩
  | refine ⟨_, _, rfl, rfl, ?_⟩
  | refine Or.inl ⟨_, rfl, ?_⟩
  | refine Or.inl ⟨_, _, rfl, rfl, ?_⟩
  | refine Or.inl ⟨_, _, _, _, rfl, rfl, SqL.of (by walk_at "hp"), rfl, ?_⟩
  | refine Or.inl ⟨rfl, ?_⟩
  | refine Or.inl ⟨_, _, _, _, rfl, rfl, (by walk_at "hp"), rfl, ?_⟩
  | refine Or.inr (Or.inl ⟨_, _, _, _, rfl, rfl, SqT.of (by walk_at "hp"), rfl, ?_⟩)
  | refine Or.inl ⟨_, _, rfl, Or.inl ⟨_, SqL.of (by walk_at "hp"), rfl⟩, ?_⟩
  | (with_reducible refine iteF ?_)
  | (with_reducible refine iteT ?_)
  | refine And.intro (by walk_at "sd") ?_
  | refine ⟨Or.inl ⟨rfl, _, SqL.of (by walk_at "hp")⟩, ?_⟩
  | refine ⟨_, _, _, rfl, rfl, (by walk_at "hp"), (by walk_at "sz"), ?_⟩
  | refine ⟨_, _, rfl, SqT.of (by walk_at "hp"), rfl, ?_⟩
  | refine ⟨_, _, rfl, ?_⟩
  | refine ⟨_, _, _, rfl, ?_⟩
  | refine ⟨⟨_, rfl⟩, ?_⟩
  | refine ⟨rfl, ?_⟩))
local macro_rules | `(tactic| walk_at "nb") => `(tactic| first
  | exact (nb_vs1 _).bag
  | exact (nb_strs _).bag
  | exact (nb_vsS _).bag
  | exact (nb_refs _).bag
  | assumption
  | rfl)
local macro_rules | `(tactic| walk_at "hp") => `(tactic| first
  | assumption
  | with_reducible exact upd_same
  | ((with_reducible apply upd_keep); assumption; walk_at "hp")
  | ((with_reducible apply Wb.keep); assumption; walk_at "hp"; walk_at "nb")
  | ((with_reducible apply Same.keep); assumption; walk_at "hp"))
local macro_rules | `(tactic| walk_at "wb") => `(tactic| first
  | assumption
  | exact Wb.refl (by assumption)
  | (apply Wb.trans2; assumption; walk_at "wb1")
  | (apply Wb.same2; assumption; walk_at "wb1"))
local macro_rules | `(tactic| walk_at "wb1") => `(tactic| walk_at "wb")
local macro_rules | `(tactic| walk_at "sd") => `(tactic| with_reducible exact Wb.bag (by assumption))

def sp_are_rings : Sp := fun vs H Q _ => ∃ (d : Addr) (W : Whl), vs = [.ref d] ∧ WqAt H d W ∧ Good W ∧ StrW W ∧ W.length ≤ 1000 ∧ (stepsW W).length ≤ 10000 ∧
  ∀ (H' : Hp), Same H H' → Q (.bl true) H'
section
variable {P : Program} {w : World} {K : PySem.W.Frag} {mg : Str → Option Value} {base : Heap}
theorem ok_are_rings {f : Addr} {fd : FuncData} (F : Fun K "are_rings" "are_rings" s_are_rings f fd) (B : Blt mg) : FnOk P w K mg base CX0 1 f fd ["rings"] sp_are_rings := by
  refine F.ok sc_are_rings (fun vs H Q E h => ?_) (fun cdv A outer s H vs Q E hr h => ?_)
  · obtain ⟨d, W, rfl, _⟩ := h
    rfl
  · obtain ⟨d, W, rfl, ⟨kvs, hd, hk⟩, g, sW, z1, z2, q⟩ := h
    have hu := hu_of hr
    refine ⟨_, (pss_cons (ps_set (i := 1) sc_are_rings.nd rfl (Or.inr rfl) pe_dnewT)
      (pss_cons (ps_lock (ps_for PassesOwn.never rfl (pi_items (pv 0)) (kpg_tup (K := K) (n := 2) (pg_tup rfl (pgs_cons (pg_name (i := 2) sc_are_rings.nd rfl (Or.inl rfl)) (pgs_cons (pg_name (i := 3) sc_are_rings.nd rfl (Or.inl rfl)) pgs_nil))))
      (pss_one (ps_for PassesOwn.never rfl (kpi_any (K := K) (pv 3)) (pg_name (i := 4) sc_are_rings.nd rfl (Or.inl rfl))
      (pss_cons (ps_if (PW.pt (pw_or (pt_cmpR (keq (K := K) hr) (pv 4) (pv 2) (nomark _)) (pw_or (pt_cmpR (knotin (K := K) (P := P) (w := w) hr) (pv 4) (pv 0) (by rfl)) (pw_or1 (pt_cmpR (kin (K := K) (P := P) (w := w) hr) (pe_tup (pa_cons (pv 2) (pa_cons (pv 4) pa_nil))) (pv 1) (by rfl))))))
      (pss_one (ps_ret pe_bl))
      pss_nil)
      (pss_one (ps_asg pe_bl (pg_sub (pv 1) (pe_tup (pa_cons (pv 2) (pa_cons (pv 4) pa_nil))) (set_any hu)))))))))
      (pss_one (ps_ret (pe_callB (kall (K := K)) (by rfl) B.all (by decide +kernel) (pa_cons (pe_lock (pe_lc (own := [("house", 2), ("other", 4)]) (by rfl) sc_are_rings.nd (pi_keys (pv 1)) (blkOk_by (own := [("house", 2), ("other", 4)]) (N := ["rings", "steps", "house", "ring", "other"]) (sc := defScope s_are_rings) (by decide +kernel)) (fun _ _ _ _ _ => (kpg_tup (K := K) (n := 2) (pg_tup rfl (pgs_cons (pg_name (i := 2) sc_are_rings.nd rfl (Or.inl rfl)) (pgs_cons (pg_name (i := 4) sc_are_rings.nd rfl (Or.inl rfl)) pgs_nil))))) (fun _ _ _ _ _ => pts_nil) (fun _ _ _ _ _ => (pe_cmpR (kin (K := K) (P := P) (w := w) hr) (pe_tup (pa_cons (pv 4) (pa_cons (pv 2) pa_nil))) (pv 1) (by rfl))))) pa_nil)))))), ?_⟩
    have nk : (kvs.map (·.1)).Nodup := by rw [rgq_keys hk]; exact g.nd
    have hl : kvs.length = W.length := Paired.length hk
    walk_at "go"
    intro t nt
    generalize et : upd H t _ = H2 at *
    have ht2 := at_new et
    have s2 := same_new et nt
    clear et
    have dt : d ≠ t := fun e => by rw [e, nt] at hd; cases hd
    walk_at "go"
    refine ⟨d, .dK kvs, s2 _ _ hd, trivial, fun od => ?_⟩
    refine ⟨_, rfl, d, od, kvs, rfl, upd_same, ?_⟩
    refine for_it walk_items (fun i σ H' => ∃ (v2 v3 v4 : Option V), σ = [some (.ref d), some (.ref t), v2, v3, v4] ∧ Same (upd H d (.frz od (.dK kvs))) H' ∧ H' t = some (.dT (metK (stepsW (W.take i))))) ?_ ?_ ?_ ?_
    · exact ⟨_, _, _, rfl, same_lock s2, by rw [upd_ne dt.symm]; exact ht2⟩
    · rintro i σ H' _ ⟨_, _, _, rfl, sL, _⟩
      exact sL _ _ upd_same
    · rintro i x σ H4 H5 hi ⟨v2, v3, v4, rfl, sL, ht4⟩ hY
      obtain ⟨T, kx, vx, rfl, nT, rfl, hkx, hvx⟩ := hY
      obtain ⟨⟨k, v⟩, hkv, rfl⟩ := Option.map_eq_some_iff.mp hkx
      obtain ⟨⟨k', v'⟩, hkv', rfl⟩ := Option.map_eq_some_iff.mp hvx
      rw [hkv] at hkv'
      cases hkv'
      obtain ⟨⟨u, r⟩, hWi, e1, a, e2, ha⟩ := paired_at hk hkv
      obtain rfl : k = u := e1
      obtain rfl : v = V.ref a := e2
      generalize eT : upd H4 T _ = H5 at *
      have hT5 := at_new eT
      have s5 := same_new eT nT
      clear eT
      have sL5 := sL.trans s5
      have ht5 := s5 _ _ ht4
      have ad : a ≠ d := by
        rcases ha with h | h
        · exact ne_of h hd (by intro q; cases q)
        · exact ne_of h hd (by intro q; cases q)
      have ha5 : H5 a = some (.lst (r.map kV)) ∨ H5 a = some (.tup (r.map kV)) := ha.imp (fun h => sL5 _ _ (by rw [upd_ne ad]; exact h)) (fun h => sL5 _ _ (by rw [upd_ne ad]; exact h))
      have rl := ring_le hWi
      have rm : (r.map kV).length = r.length := List.length_map _
      have hkk : k ∈ W.map (·.1) := List.mem_map.mpr ⟨_, List.mem_of_getElem? hWi, rfl⟩
      obtain ⟨su, rfl⟩ := sW _ hkk
      refine ⟨_, _, rfl, SqT.of hT5, rfl, ?_⟩
      refine ⟨_, _, rfl, ?_⟩
      refine ⟨_, _, rfl, ?_⟩
      refine ⟨rfl, ?_⟩
      show tFor (iAny K (tVar 3)) _ _ _ [some (V.ref d), some (V.ref t), some (V.str su), some (V.ref a), v4] H5
      refine for_any (K := K) (a := a) (xs := r.map kV) ha5 (fun R hR => ⟨_, rfl, hR⟩) (fun j σ H' => ∃ v4 : Option V, σ = [some (.ref d), some (.ref t), some (.str su), some (.ref a), v4] ∧ Same (upd H d (.frz od (.dK kvs))) H' ∧ (∀ o, H5 a = some o → H' a = some o) ∧ H' t = some (.dT (metK (stepsW (W.take i) ++ stepsU (Sum.inr su) (r.take j))))) ?_ ?_ ?_ ?_
      · exact ⟨_, rfl, sL5, fun o h => h, by rw [show stepsU (Sum.inr su) (r.take 0) = [] from rfl, List.append_nil]; exact ht5⟩
      · rintro j σ H' _ ⟨_, rfl, _, h, _⟩
        exact h
      · rintro j x σ H6 hx ⟨w4, rfl, sL6, keep, ht6⟩
        rw [List.getElem?_map] at hx
        obtain ⟨y, hy, rfl⟩ := Option.map_eq_some_iff.mp hx
        have hs : ((Sum.inr su : Key), y) ∈ stepsW W := mem_steps.mpr ⟨r, List.mem_of_getElem? hWi, List.mem_of_getElem? hy⟩
        have hyk := ring_keys g (List.mem_of_getElem? hWi) (List.mem_of_getElem? hy)
        obtain ⟨sy, rfl⟩ := sW _ hyk
        have hno := done_no g hWi hy
        have hdL := sL6 _ _ upd_same
        have hjr : j < r.length := (List.getElem?_eq_some_iff.mp hy).1
        obtain ⟨⟨k2, r2⟩, hm2, e2⟩ := List.mem_map.mp hyk
        obtain rfl : k2 = Sum.inr sy := e2
        obtain ⟨⟨ky, vy⟩, hky, eky, _⟩ := paired_mem hk hm2
        obtain rfl : ky = Sum.inr sy := eky
        have gvy : DGet H6 d (.str sy) (some vy) := .inl ⟨kvs, Sum.inr sy, .inr ⟨od, hdL⟩, rfl, (valV_of nk hky).symm⟩
        walk_at "go"
        refine ite_ds (fun e => absurd (by rw [e]) (g.ne _ _ hs)) (fun _ => ?_)
        walk_at "go"
        refine .inr (.inl ⟨d, _, rfl, gvy, ?_⟩)
        refine ⟨_, rfl, iteF ?_⟩
        walk_at "go"
        intro q1 nq1
        generalize e7 : upd H6 q1 _ = H7 at *
        have hq1 := at_new e7
        have s7 := same_new e7 nq1
        clear e7
        have ht7 := s7 _ _ ht6
        refine ⟨_, rfl, .inr (.inl ⟨t, _, rfl, DGet.t (k := skp (Sum.inr su, Sum.inr sy)) ht7 hq1, ?_⟩)⟩
        rw [metK_none hno]
        refine ⟨_, rfl, iteF ?_⟩
        walk_at "go"
        intro q2 nq2
        generalize e8 : upd H7 q2 _ = H8 at *
        have hq2 := at_new e8
        have s8 := same_new e8 nq2
        clear e8
        have ht8 := s8 _ _ ht7
        walk_at "go"
        refine .inr ⟨t, _, rfl, DPut.t (k := skp (Sum.inr su, Sum.inr sy)) ht8 hq2 (by rw [metK_len, List.length_append, stepsU_len, List.length_take, nat63]; omega), ?_⟩
        rw [metK_put hno, List.append_assoc, ← stepsU_take hy]
        have ntL : upd H d (.frz od (.dK kvs)) t = none := by rw [upd_ne dt.symm]; exact nt
        refine ⟨_, rfl, same_mut ((sL6.trans s7).trans s8) ntL, fun o h => ?_, upd_same⟩
        rw [upd_ne (fun e => by rw [e, ht5] at ha5; rcases ha5 with h | h <;> cases h)]
        exact s8 _ _ (s7 _ _ (keep o h))
      · rintro σ H6 ⟨w4, rfl, sL6, keep, ht6⟩
        rw [List.length_map, List.take_length, ← stepsW_take hWi] at ht6
        exact ⟨_, _, _, rfl, sL6, ht6⟩
    · rintro σ H4 ⟨v2, v3, v4, rfl, sL, ht4⟩
      rw [hl, List.take_length] at ht4
      refine ⟨sL _ _ upd_same, ?_⟩
      have sU := same_unlock hd sL
      have htU : upd H4 d (.dK kvs) t = some (.dT (metK (stepsW W))) := by rw [upd_ne dt.symm]; exact ht4
      generalize upd H4 d (.dK kvs) = H5 at *
      refine ⟨t, _, htU, trivial, fun o2 => ?_⟩
      refine ⟨_, rfl, t, o2, rfl, .inr ⟨_, upd_same, ?_⟩⟩
      intro D nD
      have tD : t ≠ D := fun e => by rw [← e, upd_same] at nD; cases nD
      have nDH : H5 D = none := by rw [upd_ne tD.symm] at nD; exact nD
      refine lc_vals walk_keysT (fun _ => V.bl true) nD (fun H' s => s _ _ upd_same) (by rw [metK_len]; omega) ?_ ?_
      · rintro k z H7 H8 hk7 s7 ⟨rfl, kk, vv, qq, hkv, rfl, hqq⟩ N Yd hY
        obtain ⟨⟨x1, x2⟩, hsl, rfl⟩ := metK_at hkv
        have hst := List.mem_of_getElem? hsl
        have hq8 : H8 qq = some (.tup [kV x1, kV x2]) := hqq
        have htL := s7 _ _ upd_same
        obtain ⟨vv2, hvv⟩ := metK_some (g.sym _ _ hst)
        walk_at "go"
        intro q9 nq9
        generalize e9 : upd H8 q9 _ = H9 at *
        have hq9 := at_new e9
        have s9 := same_new e9 nq9
        clear e9
        walk_at "go"
        refine .inr (.inl ⟨t, _, rfl, .inr ⟨_, skp (x2, x1), q9, .inr ⟨o2, s9 _ _ htL⟩, rfl, hq9, rfl⟩, ?_⟩)
        rw [hvv]
        exact hY _ s9
      · intro H7 s7 hD7
        have htL := s7 _ _ upd_same
        refine ⟨htL, ?_⟩
        walk_at "go"
        refine ⟨D, (List.range (metK (stepsW W)).length).map fun _ => true, rfl, SqL.of (by rw [upd_ne tD.symm, hD7, List.map_map]; rfl), ?_⟩
        rw [all_bl]
        exact q _ (sU.trans (same_unlock htU s7))
end

end Y

namespace Y
open PySem PySem.Spec PyProof.Rows L2
theorem sc_check_rings : FnScope ["rings"] ["rings"] (defScope s_check_rings) := ⟨rfl, rfl, rfl, by decide +kernel, rfl, by decide +kernel, by decide +kernel⟩
local macro_rules | `(tactic| walk_at "hp") => `(tactic| first
  | assumption
  | exact upd_same
  | (refine (upd_ne (by first | assumption | exact Ne.symm (by assumption))).trans ?_; walk_at "hp"))
local macro_rules | `(tactic| walk_at "sz") => `(tactic| first
  | (rw [nat63]; omega)
  | (rw [nat63]; exact Nat.le_of_ble_eq_true rfl)
  | (simp only [nat63, List.length_append, List.length_cons, List.length_nil, List.length_map, List.length_set]; omega))
local macro_rules | `(tactic| walk_at "sd") => `(tactic| (try dsimp only [CDiv, CMul, CPow]); first
  | (with_reducible assumption)
  | omega
  | decide
  | walk_at "sz"
  | exact ⟨by omega, by omega⟩
  | exact ⟨by omega, by omega, by omega⟩
  | exact Or.inr ⟨by omega, by omega⟩
  | exact Or.inl ⟨by omega, by omega⟩)
local macro_rules | `(tactic| walk_at "go") => `(tactic| repeat (first
  | refine ⟨_, rfl, ?_⟩
  | refine ⟨_, _, rfl, rfl, ?_⟩
  | refine Or.inl ⟨_, rfl, ?_⟩
  | refine Or.inl ⟨_, _, rfl, rfl, ?_⟩
  | refine Or.inl ⟨_, _, _, _, rfl, rfl, SqL.of (by walk_at "hp"), rfl, ?_⟩
  | refine Or.inl ⟨rfl, ?_⟩
  | refine Or.inl ⟨_, _, _, _, rfl, rfl, (by walk_at "hp"), rfl, ?_⟩
  | refine Or.inr (Or.inl ⟨_, _, _, _, rfl, rfl, SqT.of (by walk_at "hp"), rfl, ?_⟩)
  | refine Or.inl ⟨_, _, rfl, Or.inl ⟨_, SqL.of (by walk_at "hp"), rfl⟩, ?_⟩
  | (with_reducible refine iteF ?_)
  | (with_reducible refine iteT ?_)
  | refine And.intro (by walk_at "sd") ?_
  | refine ⟨Or.inl ⟨rfl, _, SqL.of (by walk_at "hp")⟩, ?_⟩
  | refine ⟨_, _, _, rfl, rfl, (by walk_at "hp"), (by walk_at "sz"), ?_⟩
  | refine ⟨_, _, rfl, SqT.of (by walk_at "hp"), rfl, ?_⟩
  | refine ⟨_, _, rfl, ?_⟩
  | refine ⟨_, _, _, rfl, ?_⟩
  | refine ⟨⟨_, rfl⟩, ?_⟩
  | refine ⟨rfl, ?_⟩))
local macro_rules | `(tactic| walk_at "nb") => `(tactic| first
  | exact (nb_vs1 _).bag
  | exact (nb_strs _).bag
  | exact (nb_vsS _).bag
  | exact (nb_refs _).bag
  | assumption
  | rfl)
local macro_rules | `(tactic| walk_at "hp") => `(tactic| first
  | assumption
  | with_reducible exact upd_same
  | ((with_reducible apply upd_keep); assumption; walk_at "hp")
  | ((with_reducible apply Wb.keep); assumption; walk_at "hp"; walk_at "nb")
  | ((with_reducible apply Same.keep); assumption; walk_at "hp"))
local macro_rules | `(tactic| walk_at "wb") => `(tactic| first
  | assumption
  | exact Wb.refl (by assumption)
  | (apply Wb.trans2; assumption; walk_at "wb1")
  | (apply Wb.same2; assumption; walk_at "wb1"))
local macro_rules | `(tactic| walk_at "wb1") => `(tactic| walk_at "wb")
local macro_rules | `(tactic| walk_at "sd") => `(tactic| with_reducible exact Wb.bag (by assumption))

section
variable {P : Program} {w : World} {K : PySem.W.Frag} {mg : Str → Option Value} {base : Heap}
theorem ok_check_rings {f : Addr} {fd : FuncData} (F : Fun K "check_rings" "check_rings" s_check_rings f fd) (B : Blt mg) (G_are_rings : Fn P w K mg base 1 "are_rings" ["rings"] sp_are_rings) : FnOk P w K mg base CX0 2 f fd ["rings"] sp_check_rings := by
  refine F.ok sc_check_rings (fun vs H Q E h => ?_) (fun cdv A outer s H vs Q E hr h => ?_)
  · obtain ⟨d, W, rfl, _⟩ := h
    rfl
  · obtain ⟨d, W, rfl, hd, r, q⟩ := h
    have hu := hu_of hr
    refine ⟨_, (pss_one (ps_if (pt_not (kpt_truth (K := K) (pe_fn G_are_rings (hr.mono (by decide)) (by rfl) (pa_cons (pv 0) pa_nil)) (by intro _; rfl)))
      (pss_one ps_never)
      pss_nil)), ?_⟩
    refine ⟨_, rfl, d, W, rfl, hd, r.g, r.st, r.few, Nat.le_trans r.len (by decide), fun H' s' => ?_⟩
    refine ⟨_, rfl, iteF ?_⟩
    exact q _ s'
end

end Y

namespace Y
open PySem PySem.Spec PyProof.Rows L2
theorem sc_turned : FnScope ["rings", "house", "ring"] ["rings"] (defScope s_turned) := ⟨rfl, rfl, rfl, by decide +kernel, rfl, by decide +kernel, by decide +kernel⟩
local macro_rules | `(tactic| walk_at "hp") => `(tactic| first
  | assumption
  | exact upd_same
  | (refine (upd_ne (by first | assumption | exact Ne.symm (by assumption))).trans ?_; walk_at "hp"))
local macro_rules | `(tactic| walk_at "sz") => `(tactic| first
  | (rw [nat63]; omega)
  | (rw [nat63]; exact Nat.le_of_ble_eq_true rfl)
  | (simp only [nat63, List.length_append, List.length_cons, List.length_nil, List.length_map, List.length_set]; omega))
local macro_rules | `(tactic| walk_at "sd") => `(tactic| (try dsimp only [CDiv, CMul, CPow]); first
  | (with_reducible assumption)
  | omega
  | decide
  | walk_at "sz"
  | exact ⟨by omega, by omega⟩
  | exact ⟨by omega, by omega, by omega⟩
  | exact Or.inr ⟨by omega, by omega⟩
  | exact Or.inl ⟨by omega, by omega⟩)
local macro_rules | `(tactic| walk_at "go") => `(tactic| repeat (first
  | refine ⟨_, rfl, ?_⟩
  | refine ⟨_, _, rfl, rfl, ?_⟩
  | refine Or.inl ⟨_, rfl, ?_⟩
  | refine Or.inl ⟨_, _, rfl, rfl, ?_⟩
  | refine Or.inl ⟨_, _, _, _, rfl, rfl, SqL.of (by walk_at "hp"), rfl, ?_⟩
  | refine Or.inl ⟨rfl, ?_⟩
  | refine Or.inl ⟨_, _, _, _, rfl, rfl, (by walk_at "hp"), rfl, ?_⟩
  | refine Or.inr (Or.inl ⟨_, _, _, _, rfl, rfl, SqT.of (by walk_at "hp"), rfl, ?_⟩)
  | refine Or.inl ⟨_, _, rfl, Or.inl ⟨_, SqL.of (by walk_at "hp"), rfl⟩, ?_⟩
  | (with_reducible refine iteF ?_)
  | (with_reducible refine iteT ?_)
  | refine And.intro (by walk_at "sd") ?_
  | refine ⟨Or.inl ⟨rfl, _, SqL.of (by walk_at "hp")⟩, ?_⟩
  | refine ⟨_, _, _, rfl, rfl, (by walk_at "hp"), (by walk_at "sz"), ?_⟩
  | refine ⟨_, _, rfl, SqT.of (by walk_at "hp"), rfl, ?_⟩
  | refine ⟨_, _, rfl, ?_⟩
  | refine ⟨_, _, _, rfl, ?_⟩
  | refine ⟨⟨_, rfl⟩, ?_⟩
  | refine ⟨rfl, ?_⟩))
local macro_rules | `(tactic| walk_at "nb") => `(tactic| first
  | exact (nb_vs1 _).bag
  | exact (nb_strs _).bag
  | exact (nb_vsS _).bag
  | exact (nb_refs _).bag
  | assumption
  | rfl)
local macro_rules | `(tactic| walk_at "hp") => `(tactic| first
  | assumption
  | with_reducible exact upd_same
  | ((with_reducible apply upd_keep); assumption; walk_at "hp")
  | ((with_reducible apply Wb.keep); assumption; walk_at "hp"; walk_at "nb")
  | ((with_reducible apply Same.keep); assumption; walk_at "hp"))
local macro_rules | `(tactic| walk_at "wb") => `(tactic| first
  | assumption
  | exact Wb.refl (by assumption)
  | (apply Wb.trans2; assumption; walk_at "wb1")
  | (apply Wb.same2; assumption; walk_at "wb1"))
local macro_rules | `(tactic| walk_at "wb1") => `(tactic| walk_at "wb")
local macro_rules | `(tactic| walk_at "sd") => `(tactic| with_reducible exact Wb.bag (by assumption))

section
variable {P : Program} {w : World} {K : PySem.W.Frag} {mg : Str → Option Value} {base : Heap}
theorem ok_turned {f : Addr} {fd : FuncData} (F : Fun K "turned" "turned" s_turned f fd) (B : Blt mg) (G_check_rings : Fn P w K mg base 2 "check_rings" ["rings"] sp_check_rings) : FnOk P w K mg base CX0 3 f fd ["rings"] sp_turned := by
  refine F.ok sc_turned (fun vs H Q E h => ?_) (fun cdv A outer s H vs Q E hr h => ?_)
  · obtain ⟨d, W, rfl, _⟩ := h
    rfl
  · obtain ⟨d, W, rfl, hd, r, q⟩ := h
    have hu := hu_of hr
    refine ⟨_, (pss_cons (ps_expr (pe_fn G_check_rings (hr.mono (by decide)) (by rfl) (pa_cons (pv 0) pa_nil)))
      (pss_one (ps_ret (pe_lock (pe_dc (own := [("house", 1), ("ring", 2)]) (by rfl) sc_turned.nd (pi_items (pv 0)) (blkOk_by (own := [("house", 1), ("ring", 2)]) (N := ["rings", "house", "ring"]) (sc := defScope s_turned) (by decide +kernel)) (fun _ _ _ _ _ => (kpg_tup (K := K) (n := 2) (pg_tup rfl (pgs_cons (pg_name (i := 1) sc_turned.nd rfl (Or.inl rfl)) (pgs_cons (pg_name (i := 2) sc_turned.nd rfl (Or.inl rfl)) pgs_nil))))) (fun _ _ _ _ _ => pts_nil) (fun _ _ _ _ _ => (pv 1)) (fun _ _ _ _ _ => (pe_op (kadd (K := K)) (pe_callTy (klist (K := K)) (by rfl) B.list (by decide +kernel) (pa_cons (pe_slice (ksl (K := K)) (pv 2) po_none (po_some pe_int)) pa_nil)) (pe_callTy (klist (K := K)) (by rfl) B.list (by decide +kernel) (pa_cons (pe_tailRev (K := K) (pv 2)) pa_nil))))))))), ?_⟩
    have g := r.g
    walk_at "go"
    refine ⟨d, W, rfl, hd.q, r, fun H1 s1 => ?_⟩
    obtain ⟨kvs, hd0, hk0⟩ := hd
    have hd1 := s1 _ _ hd0
    have hk1 : Paired (RgP H1) kvs W := Paired.mapP hk0 fun _ _ e => e.same s1
    have hl : kvs.length = W.length := Paired.length hk1
    have zl := r.few
    walk_at "go"
    refine ⟨d, .dK kvs, hd1, trivial, fun od => ?_⟩
    refine ⟨_, rfl, d, od, kvs, rfl, upd_same, fun D nD => ?_⟩
    have dD : D ≠ d := fun e => by rw [e, upd_same] at nD; cases nD
    have nDH : H1 D = none := by rw [upd_ne dD] at nD; exact nD
    refine dc_new walk_items (fun i H' => ∃ kv', Same (upd H1 d (.frz od (.dK kvs))) H' ∧ H' D = some (.dK kv') ∧ Paired (RgP H') kv' ((turnW W).take i) ∧ ∀ k a, (k, V.ref a) ∈ kv' → H1 a = none) ⟨[], same_upd nD, upd_same, .nil, fun _ _ h => by cases h⟩ (fun i H' _ ⟨_, h, _⟩ => h _ _ upd_same) ?_ ?_
    · rintro i x H4 H5 hi ⟨kv', sL, hD4, hp4, hfr⟩ ⟨T, kx, vx, rfl, nT, rfl, hkx, hvx⟩
      obtain ⟨⟨k, v⟩, hkv, rfl⟩ := Option.map_eq_some_iff.mp hkx
      obtain ⟨⟨k', v'⟩, hkv', rfl⟩ := Option.map_eq_some_iff.mp hvx
      rw [hkv] at hkv'
      cases hkv'
      obtain ⟨⟨u, ri⟩, hWi, e1, a, rfl, ha⟩ := paired_at hk1 hkv
      obtain rfl : k = u := e1
      have ad : a ≠ d := ne_of ha hd1 (by intro q; cases q)
      generalize eT : upd H4 T _ = H5 at *
      have hT5 := at_new eT
      have s5 := same_new eT nT
      clear eT
      have sL5 := sL.trans s5
      have hD5 := s5 _ _ hD4
      have ha5 := sL5 a _ (by rw [upd_ne ad]; exact ha)
      refine ⟨_, _, rfl, SqT.of hT5, rfl, ?_⟩
      walk_at "go"
      refine .inl ⟨a, _, rfl, SqL.of ha5, fun l1 n1 => ?_⟩
      generalize e1 : upd H5 l1 _ = H6 at *
      have h1 := at_new e1
      have s6 := same_new e1 n1
      clear e1
      rw [show (some (1 : Int)) = some ((1 : Nat) : Int) from rfl, cutV_take] at h1
      walk_at "go"
      refine .inl ⟨l1, _, rfl, .inl (SqL.of h1), fun l2 n2 => ?_⟩
      generalize e2 : upd H6 l2 _ = H7 at *
      have h2 := at_new e2
      have s7 := same_new e2 n2
      clear e2
      walk_at "go"
      refine ⟨a, _, rfl, SqL.of (s7 _ _ (s6 _ _ ha5)), fun l3 n3 => ?_⟩
      generalize e3 : upd H7 l3 _ = H8 at *
      have h3 := at_new e3
      have s8 := same_new e3 n3
      clear e3
      walk_at "go"
      refine .inl ⟨l3, _, rfl, .inl (SqL.of h3), fun l4 n4 => ?_⟩
      generalize e4 : upd H8 l4 _ = H9 at *
      have h4 := at_new e4
      have s9 := same_new e4 n4
      clear e4
      have h2' := s9 _ _ (s8 _ _ h2)
      have rs := ring_small g (u := k) (r := ri) (List.mem_of_getElem? hWi)
      walk_at "go"
      refine .inr (.inr (.inl ⟨l2, l4, _, _, rfl, rfl, h2', h4, ?_, fun l5 n5 => ?_⟩))
      · rw [nat63, List.length_take, List.length_reverse, List.length_drop, List.length_map]
        show min 1 ri.length + (ri.length - 1) ≤ _
        omega
      · have l5d : l5 ≠ d := fun e => by
          have := ((((sL5.trans s6).trans s7).trans s8).trans s9) d _ upd_same
          rw [← e, n5] at this
          cases this
        have n5H : H1 l5 = none := by
          have := ((((sL5.trans s6).trans s7).trans s8).trans s9).free n5
          rwa [upd_ne l5d] at this
        generalize e5 : upd H9 l5 _ = HA at *
        have h5 := at_new e5
        have sA := same_new e5 n5
        clear e5
        have s4A := ((((s5.trans s6).trans s7).trans s8).trans s9).trans sA
        have hDA := s4A _ _ hD4
        have kl := Paired.length hp4
        rw [List.length_take] at kl
        refine ⟨kv', k, rfl, hDA, by rw [nat63]; omega, _, same_mut (sL.trans s4A) (by rw [upd_ne dD]; exact nDH), upd_same, ?_⟩
        have h5' : upd HA D (.dK (putK kv' k (.ref l5))) l5 = some (.lst ((turnR ri).map kV)) := by
          rw [upd_ne (ne_of h5 hDA (by intro q; cases q)), h5, turnR_map]
        refine ⟨?_, fun k2 a2 h2 => (mem_putK h2).elim (hfr k2 a2) fun e => by cases e; exact n5H⟩
        exact turn_snoc g.nd hWi (Paired.mapP hp4 fun _ _ e => (e.same s4A).mut hDA (fun _ q => by cases q)) h5'
    · rintro H4 ⟨kv', sL, hD4, hp4, hfr⟩
      refine ⟨sL _ _ upd_same, ?_⟩
      have zT : (turnW W).length = kvs.length := by
        unfold turnW
        rw [List.length_map, hl]
      rw [← zT, List.take_length] at hp4
      refine q D _ (s1.free nDH) (s1.trans (same_unlock hd1 sL)) ⟨kv', by rw [upd_ne dD]; exact hD4, Paired.mapP hp4 fun _ _ e => e.mut (sL _ _ upd_same) (fun _ q => by cases q)⟩ fun kvs' h k a hm => ?_
      rw [upd_ne dD, hD4] at h
      cases h
      exact s1.free (hfr k a hm)
end

end Y

namespace Y
open PySem PySem.Spec PyProof.Rows L2
theorem sc__law_turn : FnScope ["wheel", "told", "u"] ["wheel"] (defScope s__law_turn) := ⟨rfl, rfl, rfl, by decide +kernel, rfl, by decide +kernel, by decide +kernel⟩
local macro_rules | `(tactic| walk_at "hp") => `(tactic| first
  | assumption
  | exact upd_same
  | (refine (upd_ne (by first | assumption | exact Ne.symm (by assumption))).trans ?_; walk_at "hp"))
local macro_rules | `(tactic| walk_at "sz") => `(tactic| first
  | (rw [nat63]; omega)
  | (rw [nat63]; exact Nat.le_of_ble_eq_true rfl)
  | (simp only [nat63, List.length_append, List.length_cons, List.length_nil, List.length_map, List.length_set]; omega))
local macro_rules | `(tactic| walk_at "sd") => `(tactic| (try dsimp only [CDiv, CMul, CPow]); first
  | (with_reducible assumption)
  | omega
  | decide
  | walk_at "sz"
  | exact ⟨by omega, by omega⟩
  | exact ⟨by omega, by omega, by omega⟩
  | exact Or.inr ⟨by omega, by omega⟩
  | exact Or.inl ⟨by omega, by omega⟩)
local macro_rules | `(tactic| walk_at "go") => `(tactic| repeat (first
  | refine ⟨_, rfl, ?_⟩
  | refine ⟨_, _, rfl, rfl, ?_⟩
  | refine Or.inl ⟨_, rfl, ?_⟩
  | refine Or.inl ⟨_, _, rfl, rfl, ?_⟩
  | refine Or.inl ⟨_, _, _, _, rfl, rfl, SqL.of (by walk_at "hp"), rfl, ?_⟩
  | refine Or.inl ⟨rfl, ?_⟩
  | refine Or.inl ⟨_, _, _, _, rfl, rfl, (by walk_at "hp"), rfl, ?_⟩
  | refine Or.inr (Or.inl ⟨_, _, _, _, rfl, rfl, SqT.of (by walk_at "hp"), rfl, ?_⟩)
  | refine Or.inl ⟨_, _, rfl, Or.inl ⟨_, SqL.of (by walk_at "hp"), rfl⟩, ?_⟩
  | (with_reducible refine iteF ?_)
  | (with_reducible refine iteT ?_)
  | refine And.intro (by walk_at "sd") ?_
  | refine ⟨Or.inl ⟨rfl, _, SqL.of (by walk_at "hp")⟩, ?_⟩
  | refine ⟨_, _, _, rfl, rfl, (by walk_at "hp"), (by walk_at "sz"), ?_⟩
  | refine ⟨_, _, rfl, SqT.of (by walk_at "hp"), rfl, ?_⟩
  | refine ⟨_, _, rfl, ?_⟩
  | refine ⟨_, _, _, rfl, ?_⟩
  | refine ⟨⟨_, rfl⟩, ?_⟩
  | refine ⟨rfl, ?_⟩))
local macro_rules | `(tactic| walk_at "nb") => `(tactic| first
  | exact (nb_vs1 _).bag
  | exact (nb_strs _).bag
  | exact (nb_vsS _).bag
  | exact (nb_refs _).bag
  | assumption
  | rfl)
local macro_rules | `(tactic| walk_at "hp") => `(tactic| first
  | assumption
  | with_reducible exact upd_same
  | ((with_reducible apply upd_keep); assumption; walk_at "hp")
  | ((with_reducible apply Wb.keep); assumption; walk_at "hp"; walk_at "nb")
  | ((with_reducible apply Same.keep); assumption; walk_at "hp"))
local macro_rules | `(tactic| walk_at "wb") => `(tactic| first
  | assumption
  | exact Wb.refl (by assumption)
  | (apply Wb.trans2; assumption; walk_at "wb1")
  | (apply Wb.same2; assumption; walk_at "wb1"))
local macro_rules | `(tactic| walk_at "wb1") => `(tactic| walk_at "wb")
local macro_rules | `(tactic| walk_at "sd") => `(tactic| with_reducible exact Wb.bag (by assumption))

def sp_law_turn : Sp := fun vs H Q _ => ∃ (d : Addr) (W : Whl), vs = [.ref d] ∧ WhAt H d W ∧ Good W ∧ W.length ≤ 1000 ∧
  ∀ (p : Addr) (H' : Hp), H p = none → Same H H' → WhAt H' p (turnW W) → Q (.ref p) H'
section
variable {P : Program} {w : World} {K : PySem.W.Frag} {mg : Str → Option Value} {base : Heap}
theorem ok__law_turn {f : Addr} {fd : FuncData} (F : Fun K "_law_turn" "_law_turn" s__law_turn f fd) (B : Blt mg) : FnOk P w K mg base CX0 1 f fd ["wheel"] sp_law_turn := by
  refine F.ok sc__law_turn (fun vs H Q E h => ?_) (fun cdv A outer s H vs Q E hr h => ?_)
  · obtain ⟨d, W, rfl, _⟩ := h
    rfl
  · obtain ⟨d, W, rfl, ⟨kvs, hd, hk⟩, g, z1, q⟩ := h
    have hu := hu_of hr
    refine ⟨_, (pss_cons (ps_set (i := 1) sc__law_turn.nd rfl (Or.inl rfl) pe_dnewK)
      (pss_cons (ps_lock (ps_for PassesOwn.never rfl (pi_keys (pv 0)) (pg_name (i := 2) sc__law_turn.nd rfl (Or.inl rfl))
      (pss_one (ps_asg (pe_op (kadd (K := K)) (pe_slice (ksl (K := K)) (pe_ix (kix (K := K) hu) (pv 0) (pv 2) (fun _ _ => rfl)) po_none (po_some pe_int)) (pe_revL (pe_slice (ksl (K := K)) (pe_ix (kix (K := K) hu) (pv 0) (pv 2) (fun _ _ => rfl)) (po_some pe_int) po_none))) (pg_sub (pv 1) (pv 2) (set_any hu))))))
      (pss_one (ps_ret (pv 1))))), ?_⟩
    have nk : (kvs.map (·.1)).Nodup := by rw [rgp_keys hk]; exact g.nd
    have hl : kvs.length = W.length := Paired.length hk
    walk_at "go"
    intro t nt
    generalize et : upd H t _ = H2 at *
    have ht2 := at_new et
    have s2 := same_new et nt
    clear et
    have hd2 := s2 _ _ hd
    have td : t ≠ d := fun e => by rw [e, hd] at nt; cases nt
    walk_at "go"
    refine ⟨d, .dK kvs, hd2, trivial, fun od => ?_⟩
    refine ⟨_, rfl, d, od, rfl, .inl ⟨kvs, upd_same, ?_⟩⟩
    refine for_it walk_keys (fun i σ H' => ∃ (v2 : Option V) (kv' : List (Key × V)), σ = [some (.ref d), some (.ref t), v2] ∧ Same (upd H d (.frz od (.dK kvs))) H' ∧ H' t = some (.dK kv') ∧ Paired (RgP H') kv' ((turnW W).take i)) ?_ ?_ ?_ ?_
    · exact ⟨none, [], rfl, same_lock s2, by rw [upd_ne td]; exact ht2, .nil⟩
    · rintro i σ H' _ ⟨_, _, rfl, sL, _⟩
      exact sL _ _ upd_same
    · rintro i x σ H4 H5 hi ⟨v2, kv', rfl, sL, ht4, hp4⟩ ⟨rfl, k, v, hkv, rfl⟩
      obtain ⟨⟨u, ri⟩, hWi, e1, a, rfl, ha⟩ := paired_at hk hkv
      obtain rfl : k = u := e1
      have ad : a ≠ d := ne_of ha hd (by intro q; cases q)
      have ha5 := sL a _ (by rw [upd_ne ad]; exact ha)
      have gv : ∀ H', Same H5 H' → DGet H' d (kV k) (some (.ref a)) := fun H' s => .inl ⟨kvs, k, .inr ⟨od, s _ _ (sL _ _ upd_same)⟩, rfl, (valV_of nk (List.mem_of_getElem? hkv)).symm⟩
      walk_at "go"
      refine .inr (.inr (.inr ⟨d, .ref a, rfl, gv _ (fun _ _ h => h), ?_⟩))
      walk_at "go"
      refine .inl ⟨a, _, rfl, SqL.of ha5, fun l1 n1 => ?_⟩
      generalize e1 : upd H5 l1 _ = H6 at *
      have h1 := at_new e1
      have s6 := same_new e1 n1
      clear e1
      rw [show (some (1 : Int)) = some ((1 : Nat) : Int) from rfl, cutV_take] at h1
      walk_at "go"
      refine .inr (.inr (.inr ⟨d, .ref a, rfl, gv _ s6, ?_⟩))
      walk_at "go"
      refine .inl ⟨a, _, rfl, SqL.of (s6 _ _ ha5), fun l2 n2 => ?_⟩
      generalize e2 : upd H6 l2 _ = H7 at *
      have h2 := at_new e2
      have s7 := same_new e2 n2
      clear e2
      rw [show (some (1 : Int)) = some ((1 : Nat) : Int) from rfl, cutV_drop] at h2
      walk_at "go"
      refine ⟨l2, _, rfl, SqL.of h2, fun l3 n3 => ?_⟩
      generalize e3 : upd H7 l3 _ = H8 at *
      have h3 := at_new e3
      have s8 := same_new e3 n3
      clear e3
      have h1' := s8 _ _ (s7 _ _ h1)
      have rs := ring_small g (u := k) (r := ri) (List.mem_of_getElem? hWi)
      refine .inr (.inr (.inl ⟨l1, l3, _, _, rfl, rfl, h1', h3, ?_, fun l5 n5 => ?_⟩))
      · rw [nat63, List.length_take, List.length_reverse, List.length_drop, List.length_map]
        show min 1 ri.length + (ri.length - 1) ≤ _
        omega
      · generalize e5 : upd H8 l5 _ = HA at *
        have h5 := at_new e5
        have sA := same_new e5 n5
        clear e5
        have s4A := ((s6.trans s7).trans s8).trans sA
        have htA := s4A _ _ ht4
        have kl := Paired.length hp4
        rw [List.length_take] at kl
        walk_at "go"
        refine .inr ⟨t, _, rfl, DPut.k htA (by rw [nat63]; omega), ?_⟩
        have h5' : upd HA t (.dK (putK kv' k (.ref l5))) l5 = some (.lst ((turnR ri).map kV)) := by
          rw [upd_ne (ne_of h5 htA (by intro q; cases q)), h5, turnR_map]
        exact ⟨_, _, rfl, same_mut (sL.trans s4A) (by rw [upd_ne td]; exact nt), upd_same, turn_snoc g.nd hWi (Paired.mapP hp4 fun _ _ e => (e.same s4A).mut htA (fun _ q => by cases q)) h5'⟩
    · rintro σ H4 ⟨v2, kv', rfl, sL, ht4, hp4⟩
      have zT : (turnW W).length = kvs.length := by
        unfold turnW
        rw [List.length_map, hl]
      rw [← zT, List.take_length] at hp4
      refine ⟨sL _ _ upd_same, ?_⟩
      walk_at "go"
      exact q t _ nt (same_unlock hd sL) ⟨kv', by rw [upd_ne td]; exact ht4, Paired.mapP hp4 fun _ _ e => e.mut (sL _ _ upd_same) (fun _ q => by cases q)⟩
end

end Y

namespace Y
open PySem PySem.Spec PyProof.Rows L2
theorem sc_hang_together : FnScope ["rings", "met", "fresh", "other", "house"] ["rings"] (defScope s_hang_together) := ⟨rfl, rfl, rfl, by decide +kernel, rfl, by decide +kernel, by decide +kernel⟩
local macro_rules | `(tactic| walk_at "hp") => `(tactic| first
  | assumption
  | exact upd_same
  | (refine (upd_ne (by first | assumption | exact Ne.symm (by assumption))).trans ?_; walk_at "hp"))
local macro_rules | `(tactic| walk_at "sz") => `(tactic| first
  | (rw [nat63]; omega)
  | (rw [nat63]; exact Nat.le_of_ble_eq_true rfl)
  | (simp only [nat63, List.length_append, List.length_cons, List.length_nil, List.length_map, List.length_set]; omega))
local macro_rules | `(tactic| walk_at "sd") => `(tactic| (try dsimp only [CDiv, CMul, CPow]); first
  | (with_reducible assumption)
  | omega
  | decide
  | walk_at "sz"
  | exact ⟨by omega, by omega⟩
  | exact ⟨by omega, by omega, by omega⟩
  | exact Or.inr ⟨by omega, by omega⟩
  | exact Or.inl ⟨by omega, by omega⟩)
local macro_rules | `(tactic| walk_at "go") => `(tactic| repeat (first
  | refine ⟨_, rfl, ?_⟩
  | refine ⟨_, _, rfl, rfl, ?_⟩
  | refine Or.inl ⟨_, rfl, ?_⟩
  | refine Or.inl ⟨_, _, rfl, rfl, ?_⟩
  | refine Or.inl ⟨_, _, _, _, rfl, rfl, SqL.of (by walk_at "hp"), rfl, ?_⟩
  | refine Or.inl ⟨rfl, ?_⟩
  | refine Or.inl ⟨_, _, _, _, rfl, rfl, (by walk_at "hp"), rfl, ?_⟩
  | refine Or.inr (Or.inl ⟨_, _, _, _, rfl, rfl, SqT.of (by walk_at "hp"), rfl, ?_⟩)
  | refine Or.inl ⟨_, _, rfl, Or.inl ⟨_, SqL.of (by walk_at "hp"), rfl⟩, ?_⟩
  | (with_reducible refine iteF ?_)
  | (with_reducible refine iteT ?_)
  | refine And.intro (by walk_at "sd") ?_
  | refine ⟨Or.inl ⟨rfl, _, SqL.of (by walk_at "hp")⟩, ?_⟩
  | refine ⟨_, _, _, rfl, rfl, (by walk_at "hp"), (by walk_at "sz"), ?_⟩
  | refine ⟨_, _, rfl, SqT.of (by walk_at "hp"), rfl, ?_⟩
  | refine ⟨_, _, rfl, ?_⟩
  | refine ⟨_, _, _, rfl, ?_⟩
  | refine ⟨⟨_, rfl⟩, ?_⟩
  | refine ⟨rfl, ?_⟩))
local macro_rules | `(tactic| walk_at "nb") => `(tactic| first
  | exact (nb_vs1 _).bag
  | exact (nb_strs _).bag
  | exact (nb_vsS _).bag
  | exact (nb_refs _).bag
  | assumption
  | rfl)
local macro_rules | `(tactic| walk_at "hp") => `(tactic| first
  | assumption
  | with_reducible exact upd_same
  | ((with_reducible apply upd_keep); assumption; walk_at "hp")
  | ((with_reducible apply Wb.keep); assumption; walk_at "hp"; walk_at "nb")
  | ((with_reducible apply Same.keep); assumption; walk_at "hp"))
local macro_rules | `(tactic| walk_at "wb") => `(tactic| first
  | assumption
  | exact Wb.refl (by assumption)
  | (apply Wb.trans2; assumption; walk_at "wb1")
  | (apply Wb.same2; assumption; walk_at "wb1"))
local macro_rules | `(tactic| walk_at "wb1") => `(tactic| walk_at "wb")
local macro_rules | `(tactic| walk_at "sd") => `(tactic| with_reducible exact Wb.bag (by assumption))

def sp_hang : Sp := fun vs H Q _ => ∃ (d : Addr) (W : Whl), vs = [.ref d] ∧ WhAt H d W ∧ Good W ∧ W.length ≤ 1000 ∧ ∀ (b : Bool) (H' : Hp), (b = true ↔ ConnW W) → Same H H' → Q (.bl b) H'
section
variable {P : Program} {w : World} {K : PySem.W.Frag} {mg : Str → Option Value} {base : Heap}
theorem ok_hang_together {f : Addr} {fd : FuncData} (F : Fun K "hang_together" "hang_together" s_hang_together f fd) (B : Blt mg) : FnOk P w K mg base CX0 1 f fd ["rings"] sp_hang := by
  refine F.ok sc_hang_together (fun vs H Q E h => ?_) (fun cdv A outer s H vs Q E hr h => ?_)
  · obtain ⟨d, W, rfl, _⟩ := h
    rfl
  · obtain ⟨d, W, rfl, ⟨kvs, hd, hk⟩, g, z1, q⟩ := h
    have hu := hu_of hr
    refine ⟨_, (pss_cons (ps_setDc1 (n := 1) (own := [("house", 4)]) rfl sc_hang_together.nd rfl rfl (dc2_swaps rfl rfl rfl (by decide +kernel)) (kpi_list (K := K) (pe_slice (ksl (K := K)) (pe_callTy (klist (K := K)) (by rfl) B.list (by decide +kernel) (pa_cons (pv 0) pa_nil)) po_none (po_some pe_int))) (blkOk_by (own := [("house", 4)]) (N := ["rings", "met", "fresh", "other", "house"]) (sc := defScope s_hang_together) (by decide +kernel)) (fun _ _ _ _ _ => (pg_name (i := 4) sc_hang_together.nd rfl (Or.inl rfl))) (fun _ _ _ _ _ => pts_nil) (fun _ _ _ _ _ => (pv 4)) (fun _ _ _ _ _ => pe_bl))
      (pss_cons (ps_set (i := 2) sc_hang_together.nd rfl (Or.inl rfl) (pe_callTy (klist (K := K)) (by rfl) B.list (by decide +kernel) (pa_cons (pv 1) pa_nil)))
      (pss_cons (ps_while PassesOwn.never (kpt_truth (K := K) (pv 2) (by intro _; rfl))
      (pss_one (ps_for PassesOwn.never rfl (kpi_list (K := K) (pe_ix (kix (K := K) hu) (pv 0) (kbm0 (K := K) (pe_bm0 PySem.F.plainAttrs_list PySem.F.slot_list_pop PySem.F.type_list_pop mt_pop (pv 2))) (fun _ _ => rfl))) (pg_name (i := 3) sc_hang_together.nd rfl (Or.inl rfl))
      (pss_one (ps_if (pt_cmpR (knotin (K := K) (P := P) (w := w) hr) (pv 3) (pv 1) (by rfl))
      (pss_cons (ps_asg pe_bl (pg_sub (pv 1) (pv 3) (set_any hu)))
      (pss_one (ps_expr (kbm (K := K) (pe_bm PySem.F.plainAttrs_list PySem.F.slot_list_append PySem.F.type_list_append mt_append (pv 2) (pa_cons (pv 3) pa_nil))))))
      pss_nil)))))
      (pss_one (ps_ret (pe_cmpR (keq (K := K) hr) (pe_callB (klen (K := K)) (by rfl) B.len (by decide +kernel) (pa_cons (pv 1) pa_nil)) (pe_callB (klen (K := K)) (by rfl) B.len (by decide +kernel) (pa_cons (pv 0) pa_nil)) (nomark _))))))), ?_⟩
    have nk : (kvs.map (·.1)).Nodup := by rw [rgp_keys hk]; exact g.nd
    have hl : kvs.length = W.length := Paired.length hk
    have ek : (kvs.map fun kv => kV kv.1) = (W.map (·.1)).map kV := by
      rw [← rgp_keys hk, List.map_map]
      rfl
    walk_at "go"
    refine .inr (.inl ⟨d, kvs, rfl, hd, fun l1 n1 => ?_⟩)
    generalize e1 : upd H l1 _ = H1 at *
    have h1 := at_new e1
    have s1 := same_new e1 n1
    clear e1
    rw [ek] at h1
    walk_at "go"
    refine .inl ⟨l1, _, rfl, SqL.of h1, fun l2 n2 => ?_⟩
    generalize e2 : upd H1 l2 _ = H2 at *
    have h2 := at_new e2
    have s2 := same_new e2 n2
    clear e2
    rw [show (some (1 : Int)) = some ((1 : Nat) : Int) from rfl, cutV_take, ← List.map_take] at h2
    generalize hK1 : (W.map (·.1)).take 1 = K1 at h2
    have K1nd : K1.Nodup := by rw [← hK1]; exact g.nd.sublist (List.take_sublist _ _)
    have K1l : K1.length ≤ 1 := by rw [← hK1, List.length_take]; omega
    have K1w : K1.length ≤ W.length := by rw [← hK1, List.length_take, List.length_map]; omega
    have s12 := s1.trans s2
    walk_at "go"
    refine ⟨⟨_, SqL.of h2⟩, fun D nD => ?_⟩
    have nDH := s12.free nD
    refine dc_new (walk_list (K := K) (a := l2) (xs := K1.map kV)) (fun i H' => Same H2 H' ∧ H' D = some (.dK (dkT (K1.take i)))) ⟨same_upd nD, upd_same⟩ (fun i H' _ h => SqL.of (h.1 _ _ h2)) ?_ ?_
    · rintro i x H4 H5 hi ⟨s4, hD4⟩ ⟨rfl, hx⟩
      rw [List.getElem?_map] at hx
      obtain ⟨k, hkk, rfl⟩ := Option.map_eq_some_iff.mp hx
      refine ⟨rfl, ?_⟩
      walk_at "go"
      refine ⟨dkT (K1.take i), k, rfl, hD4, by rw [dkT_len, List.length_take, nat63]; omega, same_mut s4 nD, ?_⟩
      rw [upd_same, dkT_put, take_snoc hkk]
      unfold ddS
      rw [if_neg fun h => nd_take K1nd hkk (memK_iff.mp h)]
    · rintro H4 ⟨s4, hD4⟩
      rw [List.length_map, List.take_length] at hD4
      have s04 := s12.trans s4
      walk_at "go"
      refine .inr (.inl ⟨D, dkT K1, rfl, hD4, fun l3 n3 => ?_⟩)
      generalize e3 : upd H4 l3 _ = H5 at *
      have h3 := at_new e3
      have s5 := same_new e3 n3
      clear e3
      rw [show (dkT K1).map (fun kv => kV kv.1) = K1.map kV by unfold dkT; rw [List.map_map]; rfl] at h3
      have hD5 := s5 _ _ hD4
      have n3H := s04.free n3
      have Dl : D ≠ l3 := fun e => by rw [e, n3] at hD4; cases hD4
      have s05 := s04.trans s5
      walk_at "go"
      refine ⟨fun mm σ H' => ∃ (v3 v4 : Option V) (M Fs : List Key), mm = 2 * (W.length - M.length) + Fs.length ∧ mm ≤ 3000 ∧ σ = [some (.ref d), some (.ref D), some (.ref l3), v3, v4] ∧ Same H H' ∧ H' D = some (.dK (dkT M)) ∧ H' l3 = some (.lst (Fs.map kV)) ∧ (∀ a, (W.map (·.1)).head? = some a → Met W a M) ∧ M.length ≤ W.length ∧ (∀ b ∈ Fs, b ∈ M) ∧ ∀ b ∈ M, b ∉ Fs → ∀ c, (b, c) ∈ stepsW W → c ∈ M, ?_, ?_⟩
      · exact ⟨_, _, _, K1, K1, rfl, by omega, rfl, s05, hD5, h3, fun a ha => hK1 ▸ Met.one ha, K1w, fun b hb => hb, fun b hb n => absurd hb n⟩
      · rintro mm σ H6 ⟨v3, v4, M, Fs, hmm, h30, rfl, s6, hD6, hf6, hM, hMl, hF, hC⟩
        walk_at "go"
        refine ⟨_, .inl ⟨_, SqL.of hf6, rfl⟩, ite_if (fun c => ?_) (fun c => ?_)⟩
        · have hne : Fs ≠ [] := fun e => by rw [e] at c; cases c
          obtain ⟨F0, u, rfl⟩ := last_split hne
          have huM := hF u (List.mem_append_right _ List.mem_cons_self)
          have hw : ∃ a, (W.map (·.1)).head? = some a := by
            cases h : W.map (·.1) with
            | nil =>
              have h1 := congrArg List.length h
              rw [List.length_map, List.length_nil] at h1
              have h2 := List.length_pos_of_mem huM
              omega
            | cons x r => exact ⟨x, rfl⟩
          obtain ⟨a0, ha0⟩ := hw
          have uK := (hM a0 ha0).sub u huM
          obtain ⟨⟨u', r⟩, hur, eu⟩ := List.mem_map.mp uK
          obtain rfl : u' = u := eu
          obtain ⟨⟨ku, vu⟩, hkv, e1, a, e2, ha⟩ := paired_mem hk hur
          obtain rfl : ku = u' := e1
          obtain rfl : vu = V.ref a := e2
          rw [List.length_append, List.length_singleton] at hmm
          refine ⟨fun σ' H' => ∃ m', m' < mm ∧ _, fun σ' H' h => h, ?_⟩
          have hlast : ((F0 ++ [ku]).map kV)[((F0 ++ [ku]).map kV).length - 1]? = some (kV ku) := by
            rw [List.length_map, List.length_append, List.length_singleton, List.getElem?_map, Nat.add_sub_cancel, List.getElem?_append_right (Nat.le_refl _), Nat.sub_self]
            rfl
          walk_at "go"
          refine ⟨l3, _, _, rfl, rfl, hf6, hlast, ?_⟩
          have hdl : ((F0 ++ [ku]).map kV).dropLast = F0.map kV := by
            rw [List.map_append]
            exact List.dropLast_concat
          rw [hdl]
          generalize e7 : upd H6 l3 _ = H7
          have hf7 := at_new e7
          have F7 : ∀ z o, H6 z = some o → z ≠ l3 → H7 z = some o := fun z o h n => by rw [← e7, upd_ne n]; exact h
          have s7 : Same H H7 := e7 ▸ same_mut s6 n3H
          clear e7
          have hD7 := F7 _ _ hD6 Dl
          refine .inr (.inr (.inr ⟨d, .ref a, rfl, .inl ⟨kvs, ku, .inl (s7 _ _ hd), rfl, (valV_of nk hkv).symm⟩, ?_⟩))
          have ha7 := s7 _ _ ha
          have rl := ring_small g (u := ku) (r := r) hur
          refine ⟨a, rfl, ⟨_, SqL.of ha7⟩, ?_⟩
          refine for_list (K := K) (a := a) (xs := r.map kV) (fun j σ H' => ∃ (v3 v4 : Option V) (M' F' : List Key), σ = [some (.ref d), some (.ref D), some (.ref l3), v3, v4] ∧ Same H H' ∧ H' D = some (.dK (dkT M')) ∧ H' l3 = some (.lst (F'.map kV)) ∧ Met W a0 M' ∧ 2 * (W.length - M'.length) + F'.length < mm ∧ ku ∈ M' ∧ (∀ b ∈ F', b ∈ M') ∧ (∀ b ∈ M', b ∉ F' → b ≠ ku → ∀ c, (b, c) ∈ stepsW W → c ∈ M') ∧ ∀ y ∈ r.take j, y ∈ M') ?_ ?_ ?_ ?_
          · exact ⟨_, _, M, F0, rfl, s7, hD7, hf7, hM a0 ha0, by omega, huM, fun b hb => hF b (List.mem_append_left _ hb), fun b hb n ne => hC b hb fun h => (List.mem_append.mp h).elim n fun h => ne (List.mem_singleton.mp h), fun y hy => by cases hy⟩
          · rintro j σ H' _ ⟨_, _, _, _, rfl, sH, _⟩
            exact SqL.of (sH _ _ ha)
          · rintro j x σ H8 hx ⟨v3, v4, M', F', rfl, s8, hD8, hf8, mM, hms, hku, hF', hC', hT⟩
            rw [List.getElem?_map] at hx
            obtain ⟨y, hy, rfl⟩ := Option.map_eq_some_iff.mp hx
            have hs : (ku, y) ∈ stepsW W := mem_steps.mpr ⟨r, hur, List.mem_of_getElem? hy⟩
            have ml := mM.len
            walk_at "go"
            refine .inr (.inl ⟨D, _, rfl, DGet.k hD8, ?_⟩)
            by_cases hin : y ∈ M'
            · rw [dkT_in hin]
              refine ⟨_, rfl, iteF ?_⟩
              refine ⟨_, _, M', F', rfl, s8, hD8, hf8, mM, hms, hku, hF', hC', fun z hz => ?_⟩
              rw [take_snoc hy] at hz
              rcases List.mem_append.mp hz with h | h
              · exact hT z h
              · rw [List.mem_singleton.mp h]
                exact hin
            · rw [dkT_no hin]
              walk_at "go"
              refine .inr ⟨D, _, rfl, DPut.k (k := y) hD8 (by rw [dkT_len, nat63]; omega), ?_⟩
              rw [dkT_put]
              have ed : ddS M' y = M' ++ [y] := by
                unfold ddS
                rw [if_neg fun h => hin (memK_iff.mp h)]
              rw [ed]
              generalize e9 : upd H8 D _ = H9
              have hD9 := at_new e9
              have F9 : ∀ z o, H8 z = some o → z ≠ D → H9 z = some o := fun z o h n => by rw [← e9, upd_ne n]; exact h
              have s9 : Same H H9 := e9 ▸ same_mut s8 nDH
              clear e9
              have hf9 := F9 _ _ hf8 Dl.symm
              have mM2 := mM.add g hku hs hin
              have ml2 := mM2.len
              rw [List.length_append, List.length_singleton] at ml2
              have fl : F'.length ≤ 100000 := by omega
              walk_at "go"
              refine ⟨_, _, M' ++ [y], F' ++ [y], rfl, same_mut s9 n3H, by rw [upd_ne Dl]; exact hD9, by rw [upd_same, List.map_append]; rfl, mM2, ?_, List.mem_append_left _ hku, fun b hb => ?_, fun b hb n ne c' hs' => ?_, fun z hz => ?_⟩
              · rw [List.length_append, List.length_append, List.length_singleton]
                omega
              · rcases List.mem_append.mp hb with h | h
                · exact List.mem_append_left _ (hF' b h)
                · exact List.mem_append_right _ h
              · rcases List.mem_append.mp hb with h | h
                · exact List.mem_append_left _ (hC' b h (fun k => n (List.mem_append_left _ k)) ne c' hs')
                · exact absurd (List.mem_append_right _ h) n
              · rw [take_snoc hy] at hz
                rcases List.mem_append.mp hz with h | h
                · exact List.mem_append_left _ (hT z h)
                · exact List.mem_append_right _ h
          · rintro σ H8 ⟨v3, v4, M', F', rfl, s8, hD8, hf8, mM, hms, hku, hF', hC', hT⟩
            rw [List.length_map, List.take_length] at hT
            refine ⟨_, hms, _, _, M', F', rfl, by omega, rfl, s8, hD8, hf8, fun a ha => by rw [ha0] at ha; cases ha; exact mM, mM.len, hF', fun b hb n c' hs => ?_⟩
            by_cases e : b = ku
            · rw [e] at hs
              obtain ⟨r', hr', hc⟩ := mem_steps.mp hs
              obtain rfl : r' = r := (rgW_of g.nd hr').symm.trans (rgW_of g.nd hur)
              exact hT c' hc
            · exact hC' b hb n e c' hs
        · have he : Fs = [] := by
            cases Fs with
            | nil => rfl
            | cons x t => cases c
          subst he
          have cl : ClosedW W M := fun b hb => hC b hb List.not_mem_nil
          have hd6 := s6 _ _ hd
          walk_at "go"
          refine .inr (.inl ⟨D, _, rfl, hD6, ?_⟩)
          walk_at "go"
          refine .inr (.inl ⟨d, _, rfl, hd6, ?_⟩)
          walk_at "go"
          refine q _ H6 ?_ s6
          rw [dkT_len, hl]
          have e1 : (decide (V.int (M.length : Int) = V.int (W.length : Int)) = true) ↔ M.length = W.length := by
            rw [decide_eq_true_eq]
            exact ⟨fun e => by injection e with e; omega, fun e => by rw [e]⟩
          rw [e1]
          cases h : (W.map (·.1)).head? with
          | some a => exact (hM a h).conn g.nd h cl
          | none =>
            have h0 : W.length = 0 := by
              have := List.head?_eq_none_iff.mp h
              have := congrArg List.length this
              rwa [List.length_map] at this
            exact ⟨fun _ a ha => (by rw [h] at ha; cases ha), fun _ => by omega⟩
end

end Y

namespace Y
open PySem PySem.Spec PyProof.Rows L2
theorem sc_rooms_of : FnScope ["rings", "behind", "met", "found", "first", "room", "step"] ["rings"] (defScope s_rooms_of) := ⟨rfl, rfl, rfl, by decide +kernel, rfl, by decide +kernel, by decide +kernel⟩
local macro_rules | `(tactic| walk_at "hp") => `(tactic| first
  | assumption
  | exact upd_same
  | (refine (upd_ne (by first | assumption | exact Ne.symm (by assumption))).trans ?_; walk_at "hp"))
local macro_rules | `(tactic| walk_at "sz") => `(tactic| first
  | (rw [nat63]; omega)
  | (rw [nat63]; exact Nat.le_of_ble_eq_true rfl)
  | (simp only [nat63, List.length_append, List.length_cons, List.length_nil, List.length_map, List.length_set]; omega))
local macro_rules | `(tactic| walk_at "sd") => `(tactic| (try dsimp only [CDiv, CMul, CPow]); first
  | (with_reducible assumption)
  | omega
  | decide
  | walk_at "sz"
  | exact ⟨by omega, by omega⟩
  | exact ⟨by omega, by omega, by omega⟩
  | exact Or.inr ⟨by omega, by omega⟩
  | exact Or.inl ⟨by omega, by omega⟩)
local macro_rules | `(tactic| walk_at "go") => `(tactic| repeat (first
  | refine ⟨_, rfl, ?_⟩
  | refine ⟨_, _, rfl, rfl, ?_⟩
  | refine Or.inl ⟨_, rfl, ?_⟩
  | refine Or.inl ⟨_, _, rfl, rfl, ?_⟩
  | refine Or.inl ⟨_, _, _, _, rfl, rfl, SqL.of (by walk_at "hp"), rfl, ?_⟩
  | refine Or.inl ⟨rfl, ?_⟩
  | refine Or.inl ⟨_, _, _, _, rfl, rfl, (by walk_at "hp"), rfl, ?_⟩
  | refine Or.inr (Or.inl ⟨_, _, _, _, rfl, rfl, SqT.of (by walk_at "hp"), rfl, ?_⟩)
  | refine Or.inl ⟨_, _, rfl, Or.inl ⟨_, SqL.of (by walk_at "hp"), rfl⟩, ?_⟩
  | (with_reducible refine iteF ?_)
  | (with_reducible refine iteT ?_)
  | refine And.intro (by walk_at "sd") ?_
  | refine ⟨Or.inl ⟨rfl, _, SqL.of (by walk_at "hp")⟩, ?_⟩
  | refine ⟨_, _, _, rfl, rfl, (by walk_at "hp"), (by walk_at "sz"), ?_⟩
  | refine ⟨_, _, rfl, SqT.of (by walk_at "hp"), rfl, ?_⟩
  | refine ⟨_, _, rfl, ?_⟩
  | refine ⟨_, _, _, rfl, ?_⟩
  | refine ⟨⟨_, rfl⟩, ?_⟩
  | refine ⟨rfl, ?_⟩))
local macro_rules | `(tactic| walk_at "nb") => `(tactic| first
  | exact (nb_vs1 _).bag
  | exact (nb_strs _).bag
  | exact (nb_vsS _).bag
  | exact (nb_refs _).bag
  | assumption
  | rfl)
local macro_rules | `(tactic| walk_at "hp") => `(tactic| first
  | assumption
  | with_reducible exact upd_same
  | ((with_reducible apply upd_keep); assumption; walk_at "hp")
  | ((with_reducible apply Wb.keep); assumption; walk_at "hp"; walk_at "nb")
  | ((with_reducible apply Same.keep); assumption; walk_at "hp"))
local macro_rules | `(tactic| walk_at "wb") => `(tactic| first
  | assumption
  | exact Wb.refl (by assumption)
  | (apply Wb.trans2; assumption; walk_at "wb1")
  | (apply Wb.same2; assumption; walk_at "wb1"))
local macro_rules | `(tactic| walk_at "wb1") => `(tactic| walk_at "wb")
local macro_rules | `(tactic| walk_at "sd") => `(tactic| with_reducible exact Wb.bag (by assumption))

structure RoI (K : PySem.W.Frag) (P : Program) (w : World) (W : Whl) (HL H : Hp) (m t : Addr) (done row : List Stp) (H' : Hp) (as : List Addr) (rows : List (List Stp)) (L : List (List Key × Addr)) : Prop where
  sL : Same HL H'
  fr : ∀ a ∈ as, H a = none
  tn : t ∉ as
  ht : H' t = some (.lst (as.map V.ref))
  nd : as.Nodup
  pr : Paired (RowP H') as rows
  rw : Rows (nextW W) done rows
  hm : H' m = some (PileO P w m L)
  lv : ∀ x ∈ L, H' x.2 = some (.tup (x.1.map kV))
  pm : (L.map (·.1)).Perm ((rows.flatten ++ row).map skp)
theorem RoI.same {K : PySem.W.Frag} {P : Program} {w : World} {W : Whl} {HL H H' H2 : Hp} {m t : Addr} {done row : List Stp} {as : List Addr} {rows : List (List Stp)} {L : List (List Key × Addr)} (I : RoI K P w W HL H m t done row H' as rows L) (s : Same H' H2) : RoI K P w W HL H m t done row H2 as rows L :=
  ⟨I.sL.trans s, I.fr, I.tn, s _ _ I.ht, I.nd, Paired.mapP I.pr fun _ _ e => e.same s, I.rw, s _ _ I.hm, fun x h => s _ _ (I.lv x h), I.pm⟩
theorem RoI.put {K : PySem.W.Frag} {P : Program} {w : World} {W : Whl} {HL H H' : Hp} {m t q : Addr} {done row : List Stp} {as : List Addr} {rows : List (List Stp)} {L L' : List (List Key × Addr)} {s : Stp} (I : RoI K P w W HL H m t done row H' as rows L) (hq : H' q = some (.tup ((skp s).map kV)))
    (nm : HL m = none) (mt : m ≠ t) (pm : L'.Perm ((skp s, q) :: L)) : RoI K P w W HL H m t done (row ++ [s]) (upd H' m (PileO P w m L')) as rows L' := by
  have tp : ∀ a xs, H' a = some (.tup xs) → upd H' m (PileO P w m L') a = some (.tup xs) := fun a xs h => by rw [upd_ne (ne_of h I.hm (by intro q; cases q))]; exact h
  refine ⟨same_mut I.sL nm, I.fr, I.tn, by rw [upd_ne mt.symm]; exact I.ht, I.nd, Paired.mapP I.pr fun _ _ e => e.mut I.hm (fun _ q => by cases q) (fun _ q => by cases q), I.rw, upd_same, fun x h => ?_, ?_⟩
  · rcases List.mem_cons.mp (pm.mem_iff.mp h) with e | h
    · rw [e]
      exact tp _ _ hq
    · exact tp _ _ (I.lv x h)
  · refine ((pm.map (·.1)).trans (.cons _ I.pm)).trans ?_
    show (skp s :: (rows.flatten ++ row).map skp).Perm ((rows.flatten ++ (row ++ [s])).map skp)
    rw [← List.append_assoc, List.map_append (l₂ := [s])]
    exact (List.perm_append_singleton _ _).symm
theorem RoI.has {K : PySem.W.Frag} {P : Program} {w : World} {W : Whl} {HL H H' : Hp} {m t : Addr} {done row : List Stp} {as : List Addr} {rows : List (List Stp)} {L : List (List Key × Addr)} (I : RoI K P w W HL H m t done row H' as rows L) {s : Stp} : skp s ∈ L.map (·.1) ↔ s ∈ rows.flatten ++ row := by
  rw [I.pm.mem_iff, List.mem_map]
  exact ⟨fun ⟨x, h, e⟩ => skp_inj e ▸ h, fun h => ⟨s, h, rfl⟩⟩
section
variable {P : Program} {w : World} {K : PySem.W.Frag} {mg : Str → Option Value} {base : Heap}
theorem ok_rooms_of {f : Addr} {fd : FuncData} (F : Fun K "rooms_of" "rooms_of" s_rooms_of f fd) (B : Blt mg) (G_steps_behind : Fn P w K mg base 1 "steps_behind" ["rings"] sp_steps_behind) (G_room_from : Fn P w K mg base 1 "room_from" ["behind", "first"] sp_room_from) : FnOk P w K mg base CX0 2 f fd ["rings"] sp_rooms_of := by
  refine F.ok sc_rooms_of (fun vs H Q E h => ?_) (fun cdv A outer s H vs Q E hr h => ?_)
  · obtain ⟨d, W, rfl, _⟩ := h
    rfl
  · obtain ⟨d, W, rfl, hd, r, q⟩ := h
    have hu := hu_of hr
    refine ⟨_, (pss_cons (ps_set (i := 1) sc_rooms_of.nd rfl (Or.inl rfl) (pe_fn G_steps_behind (hr.mono (by decide)) (by rfl) (pa_cons (pv 0) pa_nil)))
      (pss_cons (ps_set (i := 2) sc_rooms_of.nd rfl (Or.inl rfl) (pe_callTy0 (cr_pile0 (P := P) (w := w)) (by rfl) B.set (by decide +kernel)))
      (pss_cons (ps_set (i := 3) sc_rooms_of.nd rfl (Or.inl rfl) (pe_lst pa_nil))
      (pss_cons (ps_lock (ps_for PassesOwn.never rfl (pi_keys (pv 1)) (pg_name (i := 4) sc_rooms_of.nd rfl (Or.inl rfl))
      (pss_one (ps_if (pt_cmpR (or_pnotin (K := K) (P := P) (w := w) hu) (pv 4) (pv 2) (by rfl))
      (pss_cons (ps_set (i := 5) sc_rooms_of.nd rfl (Or.inl rfl) (pe_fn G_room_from (hr.mono (by decide)) (by rfl) (pa_cons (pv 1) (pa_cons (pv 4) pa_nil))))
      (pss_cons (ps_for PassesOwn.never rfl (kpi_list (K := K) (pv 5)) (pg_name (i := 6) sc_rooms_of.nd rfl (Or.inl rfl))
      (pss_one (ps_expr (pe_padd (K := K) (P := P) (w := w) hu (pv 2) (pv 6)))))
      (pss_one (ps_expr (kbm (K := K) (pe_bm PySem.F.plainAttrs_list PySem.F.slot_list_append PySem.F.type_list_append mt_append (pv 3) (pa_cons (pv 5) pa_nil)))))))
      pss_nil))))
      (pss_one (ps_ret (pv 3))))))), ?_⟩
    have g := r.g
    walk_at "go"
    refine ⟨d, W, rfl, hd, r, fun p bk H1 np s1 hp1 hks hB => ?_⟩
    walk_at "go"
    intro m nm
    generalize em : upd H1 m _ = H2 at *
    have hm2 := at_new em
    have s2 := same_new em nm
    clear em
    walk_at "go"
    intro t nt
    generalize et : upd H2 t _ = H3 at *
    have ht3 := at_new et
    have s3 := same_new et nt
    clear et
    have hm3 := s3 _ _ hm2
    have mt : m ≠ t := fun e => by rw [e, nt] at hm2; cases hm2
    have nt1 : H1 t = none := s2.free nt
    have S3 : Same H1 H3 := s2.trans s3
    have hp3 := S3 _ _ hp1
    have mp : m ≠ p := fun e => by rw [e, hp1] at nm; cases nm
    have tp : t ≠ p := fun e => by rw [e, hp1] at nt1; cases nt1
    walk_at "go"
    refine ⟨p, .dT bk, hp3, trivial, fun od => ?_⟩
    refine ⟨_, rfl, p, od, rfl, .inr ⟨bk, upd_same, ?_⟩⟩
    have bkl : bk.length = (stepsW W).length := by rw [← List.length_map (f := (·.1)), hks, List.length_map]
    have fL : ∀ z, H1 z = none → z ≠ p → upd H1 p (.frz od (.dT bk)) z = none := fun z h n => by rw [upd_ne n]; exact h
    have BL : ∀ H', Same (upd H1 p (.frz od (.dT bk))) H' → Beh H' W bk (· ∈ stepsW W) := fun H' s => hB.mono (fun z xs e => s _ _ (by rw [upd_ne (ne_of e hp1 (by intro q; cases q))]; exact e)) fun _ h => h
    refine for_it walk_keysT (fun i σ H' => ∃ (v4 v5 v6 : Option V) (as : List Addr) (rows : List (List Stp)) (L : List (List Key × Addr)), σ = [some (.ref d), some (.ref p), some (.ref m), some (.ref t), v4, v5, v6] ∧ RoI K P w W (upd H1 p (.frz od (.dT bk))) H1 m t ((stepsW W).take i).reverse [] H' as rows L) ?_ ?_ ?_ ?_
    · exact ⟨_, _, _, [], [], [], rfl, same_lock S3, fun a h => absurd h List.not_mem_nil, List.not_mem_nil, by rw [upd_ne tp]; exact ht3, .nil, .nil, rfl, by rw [upd_ne mp]; exact hm3, fun x h => absurd h List.not_mem_nil, .refl _⟩
    · rintro i σ H' _ ⟨_, _, _, as, rows, L, rfl, I⟩
      exact I.sL _ _ upd_same
    · rintro i x σ H4 H5 hi ⟨v4, v5, v6, as, rows, L, rfl, I⟩ ⟨rfl, k, v, q0, hkv, rfl, hq0⟩
      obtain ⟨st, hst, rfl⟩ : ∃ st, (stepsW W)[i]? = some st ∧ skp st = k := by
        have h1 : (bk.map (·.1))[i]? = some k := by rw [List.getElem?_map, hkv]; rfl
        rw [hks, List.getElem?_map] at h1
        exact Option.map_eq_some_iff.mp h1
      have hs : st ∈ stepsW W := List.mem_of_getElem? hst
      have hdone : ∀ s ∈ ((stepsW W).take i).reverse, s ∈ stepsW W := fun s h => List.mem_of_mem_take (List.mem_reverse.mp h)
      have hnext : ((stepsW W).take (i + 1)).reverse = st :: ((stepsW W).take i).reverse := by
        rw [take_snoc hst, List.reverse_append]
        rfl
      walk_at "go"
      refine ⟨(skp st, q0), m, L, rfl, rfl, I.hm, SqT.of hq0, fun x h => SqT.of (I.lv x h), ?_⟩
      have hdone' : ∀ s ∈ st :: ((stepsW W).take i).reverse, s ∈ stepsW W := fun s h => (List.mem_cons.mp h).elim (fun e => e ▸ hs) (hdone s)
      have lr : as.length ≤ 60 := by
        have h1 := Paired.length I.pr
        have h2 := I.rw.len
        have h3 := r.len
        rw [List.length_reverse, List.length_take] at h2
        omega
      refine ⟨_, rfl, ite_if (fun c => ?_) (fun c => ?_)⟩
      · have hn : st ∉ rows.flatten := fun h => by
          have c' : (!hasR L (skp st)) = true := c
          rw [hasR_iff.mpr (I.has.mpr (List.mem_append_left _ h))] at c'
          cases c'
        walk_at "go"
        refine ⟨p, q0, W, bk, st, rfl, .inr ⟨od, I.sL _ _ upd_same⟩, BL _ I.sL, hq0, hs, g, r.ok, by have := r.len; omega, fun a row H6 na s6 ha cyc => ?_⟩
        obtain ⟨ts, ha6, hts⟩ := ha
        have R2 := I.rw.take hn cyc
        have nd2 := R2.nodup g.one hdone'
        have sub2 := R2.sub g.one hdone'
        rw [flatten_snoc] at nd2 sub2
        have len2 := nodup_sub nd2 (D := stepsW W) sub2
        rw [List.length_append] at len2
        have rl := r.len
        have tl : ts.length = row.length := by
          have := hts.length
          rwa [List.length_map] at this
        have tl2 : (ts.map V.ref).length = row.length := by rw [List.length_map, tl]
        have at' : a ≠ t := fun e => by rw [e, I.ht] at na; cases na
        have am : a ≠ m := fun e => by rw [e, I.hm] at na; cases na
        have aa : a ∉ as := fun h => by
          obtain ⟨j, hj⟩ := List.getElem?_of_mem h
          obtain ⟨_, _, ts', e, _⟩ := paired_at I.pr hj
          rw [e] at na
          cases na
        walk_at "go"
        refine ⟨⟨_, SqL.of ha6⟩, for_list (K := K) (a := a) (xs := ts.map V.ref) (fun j σ H' => ∃ (v6 : Option V) (L : List (List Key × Addr)), σ = [some (.ref d), some (.ref p), some (.ref m), some (.ref t), some (.ref q0), some (.ref a), v6] ∧ RoI K P w W (upd H1 p (.frz od (.dT bk))) H1 m t ((stepsW W).take i).reverse (row.take j) H' as rows L ∧ H' a = some (.lst (ts.map V.ref)) ∧ Tups H' ts (row.map skp)) ?_ ?_ ?_ ?_⟩
        · exact ⟨_, L, rfl, I.same s6, ha6, hts⟩
        · rintro j σ H' _ ⟨_, L, rfl, I, ha', _⟩
          exact SqL.of ha'
        · rintro j x σ H7 hx ⟨v6, L7, rfl, I7, ha7, hts7⟩
          rw [List.getElem?_map] at hx
          obtain ⟨tj, htj, rfl⟩ := Option.map_eq_some_iff.mp hx
          obtain ⟨k, hk, htup⟩ := paired_at hts7 htj
          rw [List.getElem?_map] at hk
          obtain ⟨sj, hsj, rfl⟩ := Option.map_eq_some_iff.mp hk
          have jl : j < row.length := (List.getElem?_eq_some_iff.mp hsj).1
          have fresh : sj ∉ rows.flatten ++ row.take j := fun h => by
            obtain ⟨n1, n2, n3⟩ := List.nodup_append.mp nd2
            rcases List.mem_append.mp h with h | h
            · exact n3 _ h _ (List.mem_of_getElem? hsj) rfl
            · exact nd_take n2 hsj h
          have lL : L7.length ≤ 60 := by
            have := I7.pm.length_eq
            rw [List.length_map, List.length_map, List.length_append, List.length_take] at this
            omega
          walk_at "go"
          refine ⟨⟨m, L7, rfl, I7.hm⟩, ?_⟩
          walk_at "go"
          refine ⟨m, (skp sj, tj), L7, rfl, rfl, I7.hm, SqT.of htup, fun x h => SqT.of (I7.lv x h), by omega, fun L8 _ c2 => ?_⟩
          refine ⟨_, L8, rfl, ?_, ?_, ?_⟩
          · rw [take_snoc hsj]
            exact I7.put htup (fL m nm mp) mt (c2 fun h => fresh (I7.has.mp h))
          · rw [upd_ne am]
            exact ha7
          · exact hts7.mono fun z xs k => by rw [upd_ne (ne_of k I7.hm (by intro q; cases q))]; exact k
        · rintro σ H7 ⟨v6, L7, rfl, I7, ha7, hts7⟩
          rw [tl2, List.take_length] at I7
          have ht7 := I7.ht
          walk_at "go"
          refine ⟨_, _, _, as ++ [a], rows ++ [row], L7, rfl, ?_⟩
          have lm : ∀ z o, H7 z = some o → (∀ xs, o ≠ .lst xs) → upd H7 t (.lst (as.map V.ref ++ [V.ref a])) z = some o := fun z o h n => by rw [upd_ne (ne_of h ht7 (n _))]; exact h
          have tpm : ∀ z xs, H7 z = some (.tup xs) → upd H7 t (.lst (as.map V.ref ++ [V.ref a])) z = some (.tup xs) := fun z xs h => lm z _ h (fun _ q => by cases q)
          have rp : ∀ z r, z ≠ t → RowP H7 z r → RowP (upd H7 t (.lst (as.map V.ref ++ [V.ref a]))) z r := fun z r n ⟨ts, h1, h2⟩ => ⟨ts, by rw [upd_ne n]; exact h1, h2.mono tpm⟩
          rw [hnext]
          refine ⟨same_mut I7.sL (fL t nt1 tp), fun z h => ?_, fun h => ?_, ?_, ?_, ?_, R2, lm _ _ I7.hm (fun _ q => by cases q), fun x h => tpm _ _ (I7.lv x h), ?_⟩
          · rcases List.mem_append.mp h with h | h
            · exact I.fr z h
            · rw [List.mem_singleton.mp h]
              have na1 := I.sL.free na
              by_cases e : a = p
              · rw [e, upd_same] at na1
                cases na1
              · rwa [upd_ne e] at na1
          · rcases List.mem_append.mp h with h | h
            · exact I.tn h
            · exact at' (List.mem_singleton.mp h).symm
          · rw [upd_same, List.map_append]
            rfl
          · rw [List.nodup_append]
            exact ⟨I.nd, by simp, fun x hx y hy e => by rw [e, List.mem_singleton.mp hy] at hx; exact aa hx⟩
          · exact paired_snoc (rp a row at' ⟨ts, ha7, hts7⟩) (paired_map I7.pr fun z r hz h => rp z r (fun e => I.tn (e ▸ hz)) h)
          · rw [flatten_snoc, List.append_nil]
            exact I7.pm
      · have hin : st ∈ rows.flatten := by
          have c' : (!hasR L (skp st)) = false := c
          cases e : hasR L (skp st) with
          | false => rw [e] at c'; cases c'
          | true => simpa using I.has.mp (hasR_iff.mp e)
        refine ⟨_, _, _, as, rows, L, rfl, ?_⟩
        rw [hnext]
        exact ⟨I.sL, I.fr, I.tn, I.ht, I.nd, I.pr, I.rw.skip hin, I.hm, I.lv, I.pm⟩
    · rintro σ H4 ⟨v4, v5, v6, as, rows, L, rfl, I⟩
      have S5 : Same H1 (upd H4 p (.dT bk)) := same_unlock hp1 I.sL
      rw [bkl, List.take_length] at I
      have ht4 := I.ht
      refine ⟨I.sL _ _ upd_same, ?_⟩
      walk_at "go"
      refine q t as rows _ (s1.free nt1) (fun a h => s1.free (I.fr a h)) (s1.trans S5) (by rw [upd_ne tp]; exact ht4) I.nd (Paired.mapP I.pr fun _ _ e => e.mut (I.sL _ _ upd_same) (fun _ q => by cases q) (fun _ q => by cases q)) I.rw
end

end Y

namespace Y
open PySem PySem.Spec PyProof.Rows L2
theorem sc_plane : FnScope ["rings", "ties", "ring"] ["rings"] (defScope s_plane) := ⟨rfl, rfl, rfl, by decide +kernel, rfl, by decide +kernel, by decide +kernel⟩
local macro_rules | `(tactic| walk_at "hp") => `(tactic| first
  | assumption
  | exact upd_same
  | (refine (upd_ne (by first | assumption | exact Ne.symm (by assumption))).trans ?_; walk_at "hp"))
local macro_rules | `(tactic| walk_at "sz") => `(tactic| first
  | (rw [nat63]; omega)
  | (rw [nat63]; exact Nat.le_of_ble_eq_true rfl)
  | (simp only [nat63, List.length_append, List.length_cons, List.length_nil, List.length_map, List.length_set]; omega))
local macro_rules | `(tactic| walk_at "sd") => `(tactic| (try dsimp only [CDiv, CMul, CPow]); first
  | (with_reducible assumption)
  | omega
  | decide
  | walk_at "sz"
  | exact ⟨by omega, by omega⟩
  | exact ⟨by omega, by omega, by omega⟩
  | exact Or.inr ⟨by omega, by omega⟩
  | exact Or.inl ⟨by omega, by omega⟩)
local macro_rules | `(tactic| walk_at "go") => `(tactic| repeat (first
  | refine ⟨_, rfl, ?_⟩
  | refine ⟨_, _, rfl, rfl, ?_⟩
  | refine Or.inl ⟨_, rfl, ?_⟩
  | refine Or.inl ⟨_, _, rfl, rfl, ?_⟩
  | refine Or.inl ⟨_, _, _, _, rfl, rfl, SqL.of (by walk_at "hp"), rfl, ?_⟩
  | refine Or.inl ⟨rfl, ?_⟩
  | refine Or.inl ⟨_, _, _, _, rfl, rfl, (by walk_at "hp"), rfl, ?_⟩
  | refine Or.inr (Or.inl ⟨_, _, _, _, rfl, rfl, SqT.of (by walk_at "hp"), rfl, ?_⟩)
  | refine Or.inl ⟨_, _, rfl, Or.inl ⟨_, SqL.of (by walk_at "hp"), rfl⟩, ?_⟩
  | (with_reducible refine iteF ?_)
  | (with_reducible refine iteT ?_)
  | refine And.intro (by walk_at "sd") ?_
  | refine ⟨Or.inl ⟨rfl, _, SqL.of (by walk_at "hp")⟩, ?_⟩
  | refine ⟨_, _, _, rfl, rfl, (by walk_at "hp"), (by walk_at "sz"), ?_⟩
  | refine ⟨_, _, rfl, SqT.of (by walk_at "hp"), rfl, ?_⟩
  | refine ⟨_, _, rfl, ?_⟩
  | refine ⟨_, _, _, rfl, ?_⟩
  | refine ⟨⟨_, rfl⟩, ?_⟩
  | refine ⟨rfl, ?_⟩))
local macro_rules | `(tactic| walk_at "nb") => `(tactic| first
  | exact (nb_vs1 _).bag
  | exact (nb_strs _).bag
  | exact (nb_vsS _).bag
  | exact (nb_refs _).bag
  | assumption
  | rfl)
local macro_rules | `(tactic| walk_at "hp") => `(tactic| first
  | assumption
  | with_reducible exact upd_same
  | ((with_reducible apply upd_keep); assumption; walk_at "hp")
  | ((with_reducible apply Wb.keep); assumption; walk_at "hp"; walk_at "nb")
  | ((with_reducible apply Same.keep); assumption; walk_at "hp"))
local macro_rules | `(tactic| walk_at "wb") => `(tactic| first
  | assumption
  | exact Wb.refl (by assumption)
  | (apply Wb.trans2; assumption; walk_at "wb1")
  | (apply Wb.same2; assumption; walk_at "wb1"))
local macro_rules | `(tactic| walk_at "wb1") => `(tactic| walk_at "wb")
local macro_rules | `(tactic| walk_at "sd") => `(tactic| with_reducible exact Wb.bag (by assumption))

def sp_plane : Sp := fun vs H Q _ => ∃ (d : Addr) (W : Whl), vs = [.ref d] ∧ WhAt H d W ∧ Ringed W ∧ ∀ (b : Bool) (H' : Hp), (b = true ↔ PlaneW W) → Same H H' → Q (.bl b) H'
section
variable {P : Program} {w : World} {K : PySem.W.Frag} {mg : Str → Option Value} {base : Heap}
theorem ok_plane {f : Addr} {fd : FuncData} (F : Fun K "plane" "plane" s_plane f fd) (B : Blt mg) (G_check_rings : Fn P w K mg base 2 "check_rings" ["rings"] sp_check_rings) (G_hang_together : Fn P w K mg base 1 "hang_together" ["rings"] sp_hang) (G_rooms_of : Fn P w K mg base 2 "rooms_of" ["rings"] sp_rooms_of) : FnOk P w K mg base CX0 3 f fd ["rings"] sp_plane := by
  refine F.ok sc_plane (fun vs H Q E h => ?_) (fun cdv A outer s H vs Q E hr h => ?_)
  · obtain ⟨d, W, rfl, _⟩ := h
    rfl
  · obtain ⟨d, W, rfl, hw, r, q⟩ := h
    have hu := hu_of hr
    refine ⟨_, (pss_cons (ps_expr (pe_fn G_check_rings (hr.mono (by decide)) (by rfl) (pa_cons (pv 0) pa_nil)))
      (pss_cons (ps_if (pt_cmpR op_lt (pe_callB (klen (K := K)) (by rfl) B.len (by decide +kernel) (pa_cons (pv 0) pa_nil)) pe_int (nomark _))
      (pss_one (ps_ret (pe_cmpR (keq (K := K) hr) (pe_callB (klen (K := K)) (by rfl) B.len (by decide +kernel) (pa_cons (pv 0) pa_nil)) pe_int (nomark _))))
      pss_nil)
      (pss_cons (ps_set (i := 1) sc_plane.nd rfl (Or.inl rfl) (pe_op op_fdiv (pe_callB (ksum (K := K)) (by rfl) B.sum (by decide +kernel) (pa_cons (pe_lock (pe_lc (own := [("ring", 2)]) (by rfl) sc_plane.nd (pi_values (pv 0)) (blkOk_by (own := [("ring", 2)]) (N := ["rings", "ties", "ring"]) (sc := defScope s_plane) (by decide +kernel)) (fun _ _ _ _ _ => (pg_name (i := 2) sc_plane.nd rfl (Or.inl rfl))) (fun _ _ _ _ _ => pts_nil) (fun _ _ _ _ _ => (pe_callB (klen (K := K)) (by rfl) B.len (by decide +kernel) (pa_cons (pv 2) pa_nil))))) pa_nil)) pe_int))
      (pss_one (ps_ret (pe_and (pe_fn G_hang_together (hr.mono (by decide)) (by rfl) (pa_cons (pv 0) pa_nil)) (pe_one (pe_cmpR (keq (K := K) hr) (pe_callB (klen (K := K)) (by rfl) B.len (by decide +kernel) (pa_cons (pe_fn G_rooms_of (hr.mono (by decide)) (by rfl) (pa_cons (pv 0) pa_nil)) pa_nil)) (pe_op (kadd (K := K)) (pe_op op_sub (pv 1) (pe_callB (klen (K := K)) (by rfl) B.len (by decide +kernel) (pa_cons (pv 0) pa_nil))) pe_int) (nomark _))))))))), ?_⟩
    walk_at "go"
    refine ⟨d, W, rfl, hw.q, r, fun H1 s1 => ?_⟩
    have hw1 : WhAt H1 d W := hw.kp (Kp.of s1)
    obtain ⟨kvs, hd, hk⟩ := id hw1
    have hl : kvs.length = W.length := Paired.length hk
    have z1 := r.few
    have z2 := r.len
    walk_at "go"
    refine .inr (.inl ⟨d, _, rfl, hd, ?_⟩)
    walk_at "go"
    refine ite_if (fun c => ?_) (fun c => ?_)
    · have c1 : W.length < 2 := by
        have := of_decide_eq_true c
        omega
      walk_at "go"
      refine .inr (.inl ⟨d, _, rfl, hd, ?_⟩)
      walk_at "go"
      refine q _ H1 ?_ s1
      rw [hl, PlaneW.small c1, decide_eq_true_eq]
      exact ⟨fun e => by injection e with e; omega, fun e => by rw [e]; rfl⟩
    · have c1 : 2 ≤ W.length := by
        have := of_decide_eq_false c
        omega
      refine ⟨d, .dK kvs, hd, trivial, fun od => ?_⟩
      refine ⟨_, rfl, d, od, kvs, rfl, upd_same, fun D nD => ?_⟩
      have dD : D ≠ d := fun e => by rw [e, upd_same] at nD; cases nD
      have nDH : H1 D = none := by rw [upd_ne dD] at nD; exact nD
      have lz := lensW_len W
      refine lc_vals walk_values (fun i => V.int ((lensW W).getD i 0)) nD (fun H' s => s _ _ upd_same) (by omega) ?_ ?_
      · rintro i x H4 H5 hi s4 ⟨rfl, k, hkv⟩ N Yd hY
        obtain ⟨⟨u, ri⟩, hWi, e1, a, rfl, ha⟩ := paired_at hk hkv
        have ad : a ≠ d := ne_of ha hd (by intro q; cases q)
        have ha4 := s4 a _ (by rw [upd_ne ad]; exact ha)
        have hle : (lensW W).getD i 0 = (ri.length : Int) := by
          unfold lensW
          rw [List.getD_eq_getElem?_getD, List.getElem?_map, hWi]
          rfl
        rw [hle] at hY
        walk_at "go"
        rw [show (((u, ri).snd.map kV).length : Int) = (ri.length : Int) by rw [List.length_map]]
        exact hY _ fun _ _ h => h
      · intro H4 s4 hD4
        refine ⟨s4 _ _ upd_same, ?_⟩
        have sU : Same H1 (upd H4 d (.dK kvs)) := same_unlock hd s4
        have hDU : upd H4 d (.dK kvs) D = some (.lst ((lensW W).map V.int)) := by
          rw [upd_ne dD, hD4, ← lz.trans hl.symm, range_getD]
        generalize upd H4 d (.dK kvs) = H5 at sU hDU
        walk_at "go"
        refine ⟨D, lensW W, rfl, SqL.of hDU, ?_⟩
        rw [lensW_sum]
        walk_at "go"
        have s05 := s1.trans sU
        have hw5 : WhAt H5 d W := hw.kp (Kp.of s05)
        refine ⟨d, W, rfl, hw5, r.g, r.few, fun b H6 hb s6 => ?_⟩
        have s06 := s05.trans s6
        refine ⟨b, rfl, ite_if (fun cb => ?_) (fun cb => ?_)⟩
        · walk_at "go"
          refine ⟨d, W, rfl, (hw.kp (Kp.of s06)).q, r, fun p as rows H7 np fr s7 hp nd pr R => ?_⟩
          have la := Paired.length pr
          obtain ⟨rl1, _⟩ := rows_small r.g R
          obtain ⟨kv7, hd7, hk7⟩ := hw.kp (Kp.of (s06.trans s7))
          have l7 : kv7.length = W.length := Paired.length hk7
          walk_at "go"
          refine .inr (.inl ⟨d, _, rfl, hd7, ?_⟩)
          walk_at "go"
          refine q _ H7 ?_ (s06.trans s7)
          rw [PlaneW.big c1 R, decide_eq_true_eq, l7, List.length_map, la]
          exact ⟨fun e => ⟨hb.mp cb, by injection e⟩, fun e => congrArg V.int e.2⟩
        · refine q false H6 ⟨fun h => (by cases h), fun h => ?_⟩ s06
          have := hb.mpr h.2.1
          rw [cb] at this
          cases this
end

end Y

namespace Y
open PySem PySem.Spec PyProof.Rows L2
theorem sc__law_counted : FnScope ["wheel", "met", "lap", "many", "v", "u"] ["wheel"] (defScope s__law_counted) := ⟨rfl, rfl, rfl, by decide +kernel, rfl, by decide +kernel, by decide +kernel⟩
local macro_rules | `(tactic| walk_at "hp") => `(tactic| first
  | assumption
  | exact upd_same
  | (refine (upd_ne (by first | assumption | exact Ne.symm (by assumption))).trans ?_; walk_at "hp"))
local macro_rules | `(tactic| walk_at "sz") => `(tactic| first
  | (rw [nat63]; omega)
  | (rw [nat63]; exact Nat.le_of_ble_eq_true rfl)
  | (simp only [nat63, List.length_append, List.length_cons, List.length_nil, List.length_map, List.length_set]; omega))
local macro_rules | `(tactic| walk_at "sd") => `(tactic| (try dsimp only [CDiv, CMul, CPow]); first
  | (with_reducible assumption)
  | omega
  | decide
  | walk_at "sz"
  | exact ⟨by omega, by omega⟩
  | exact ⟨by omega, by omega, by omega⟩
  | exact Or.inr ⟨by omega, by omega⟩
  | exact Or.inl ⟨by omega, by omega⟩)
local macro_rules | `(tactic| walk_at "go") => `(tactic| repeat (first
  | refine ⟨_, rfl, ?_⟩
  | refine ⟨_, _, rfl, rfl, ?_⟩
  | refine Or.inl ⟨_, rfl, ?_⟩
  | refine Or.inl ⟨_, _, rfl, rfl, ?_⟩
  | refine Or.inl ⟨_, _, _, _, rfl, rfl, SqL.of (by walk_at "hp"), rfl, ?_⟩
  | refine Or.inl ⟨rfl, ?_⟩
  | refine Or.inl ⟨_, _, _, _, rfl, rfl, (by walk_at "hp"), rfl, ?_⟩
  | refine Or.inr (Or.inl ⟨_, _, _, _, rfl, rfl, SqT.of (by walk_at "hp"), rfl, ?_⟩)
  | refine Or.inl ⟨_, _, rfl, Or.inl ⟨_, SqL.of (by walk_at "hp"), rfl⟩, ?_⟩
  | (with_reducible refine iteF ?_)
  | (with_reducible refine iteT ?_)
  | refine And.intro (by walk_at "sd") ?_
  | refine ⟨Or.inl ⟨rfl, _, SqL.of (by walk_at "hp")⟩, ?_⟩
  | refine ⟨_, _, _, rfl, rfl, (by walk_at "hp"), (by walk_at "sz"), ?_⟩
  | refine ⟨_, _, rfl, SqT.of (by walk_at "hp"), rfl, ?_⟩
  | refine ⟨_, _, rfl, ?_⟩
  | refine ⟨_, _, _, rfl, ?_⟩
  | refine ⟨⟨_, rfl⟩, ?_⟩
  | refine ⟨rfl, ?_⟩))
local macro_rules | `(tactic| walk_at "nb") => `(tactic| first
  | exact (nb_vs1 _).bag
  | exact (nb_strs _).bag
  | exact (nb_vsS _).bag
  | exact (nb_refs _).bag
  | assumption
  | rfl)
local macro_rules | `(tactic| walk_at "hp") => `(tactic| first
  | assumption
  | with_reducible exact upd_same
  | ((with_reducible apply upd_keep); assumption; walk_at "hp")
  | ((with_reducible apply Wb.keep); assumption; walk_at "hp"; walk_at "nb")
  | ((with_reducible apply Same.keep); assumption; walk_at "hp"))
local macro_rules | `(tactic| walk_at "wb") => `(tactic| first
  | assumption
  | exact Wb.refl (by assumption)
  | (apply Wb.trans2; assumption; walk_at "wb1")
  | (apply Wb.same2; assumption; walk_at "wb1"))
local macro_rules | `(tactic| walk_at "wb1") => `(tactic| walk_at "wb")
local macro_rules | `(tactic| walk_at "sd") => `(tactic| with_reducible exact Wb.bag (by assumption))

def sp_counted : Sp := fun vs H Q _ => ∃ (d : Addr) (W : Whl), vs = [.ref d] ∧ WhAt H d W ∧ Ringed W ∧ ∀ (b : Bool) (H' : Hp), (b = true ↔ PlaneW W) → Same H H' → Q (.bl b) H'
section
variable {P : Program} {w : World} {K : PySem.W.Frag} {mg : Str → Option Value} {base : Heap}
theorem ok__law_counted {f : Addr} {fd : FuncData} (F : Fun K "_law_counted" "_law_counted" s__law_counted f fd) (B : Blt mg) (G__law_rooms : Fn P w K mg base 1 "_law_rooms" ["wheel"] sp_rooms) : FnOk P w K mg base CX0 2 f fd ["wheel"] sp_counted := by
  refine F.ok sc__law_counted (fun vs H Q E h => ?_) (fun cdv A outer s H vs Q E hr h => ?_)
  · obtain ⟨d, W, rfl, _⟩ := h
    rfl
  · obtain ⟨d, W, rfl, hw, r, q⟩ := h
    have hu := hu_of hr
    refine ⟨_, (pss_cons (ps_if (pt_not (kpt_truth (K := K) (pv 0) (by intro _; rfl)))
      (pss_one (ps_ret pe_bl))
      pss_nil)
      (pss_cons (ps_set (i := 1) sc__law_counted.nd rfl (Or.inr rfl) (pe_slice (ksl (K := K)) (pe_callTy (klist (K := K)) (by rfl) B.list (by decide +kernel) (pa_cons (pv 0) pa_nil)) po_none (po_some pe_int)))
      (pss_cons (ps_for PassesOwn.never rfl (pi_range1 (by rfl) B.range (pa_cons (pe_callB (klen (K := K)) (by rfl) B.len (by decide +kernel) (pa_cons (pv 0) pa_nil)) pa_nil)) (pg_name (i := 2) sc__law_counted.nd rfl (Or.inl rfl))
      (pss_one (ps_set (i := 1) sc__law_counted.nd rfl (Or.inr rfl) (pe_op (kadd (K := K)) (pv 1) (pe_lock (pe_lc (own := [("v", 4)]) (by rfl) sc__law_counted.nd (pi_keys (pv 0)) (blkOk_by (own := [("v", 4)]) (N := ["wheel", "met", "lap", "many", "v", "u"]) (sc := defScope s__law_counted) (by decide +kernel)) (fun _ _ _ _ _ => (pg_name (i := 4) sc__law_counted.nd rfl (Or.inr rfl))) (fun _ _ _ _ _ => (pts_one (PW.pt (pw_and (pt_cmpR (knotin (K := K) (P := P) (w := w) hr) (pv 4) (pv 1) (by rfl)) (pw_and1 (kpt_truth (K := K) (pe_lc (own := [("u", 5)]) (by rfl) sc__law_counted.nd (kpi_list (K := K) (pv 1)) (blkOk_by (own := [("u", 5)]) (N := ["wheel", "met", "lap", "many", "v", "u"]) (sc := { kind := ScopeKind.function, names := [(".0", NameKind.local), ("v", NameKind.cell), ("met", NameKind.cell), ("wheel", NameKind.cell)], isGenerator := false, isCoroutine := false }) (by decide +kernel)) (fun _ _ _ _ _ => (pg_name (i := 5) sc__law_counted.nd rfl (Or.inl rfl))) (fun _ _ _ _ _ => (pts_one (pt_cmpR (kin (K := K) (P := P) (w := w) hr) (pv 5) (pe_ix (kix (K := K) hu) (pv 0) (pv 4) (fun _ _ => rfl)) (by rfl)))) (fun _ _ _ _ _ => pe_int)) (by intro _; rfl))))))) (fun _ _ _ _ _ => (pv 4))))))))
      (pss_cons (ps_set (i := 3) sc__law_counted.nd rfl (Or.inl rfl) (pe_op op_fdiv (pe_callB (ksum (K := K)) (by rfl) B.sum (by decide +kernel) (pa_cons (pe_lock (pe_lc (own := [("v", 4)]) (by rfl) sc__law_counted.nd (pi_keys (pv 0)) (blkOk_by (own := [("v", 4)]) (N := ["wheel", "met", "lap", "many", "v", "u"]) (sc := defScope s__law_counted) (by decide +kernel)) (fun _ _ _ _ _ => (pg_name (i := 4) sc__law_counted.nd rfl (Or.inl rfl))) (fun _ _ _ _ _ => pts_nil) (fun _ _ _ _ _ => (pe_callB (klen (K := K)) (by rfl) B.len (by decide +kernel) (pa_cons (pe_ix (kix (K := K) hu) (pv 0) (pv 4) (fun _ _ => rfl)) pa_nil))))) pa_nil)) pe_int))
      (pss_one (ps_ret (pe_and (pe_cmpR (keq (K := K) hr) (pe_callB (klen (K := K)) (by rfl) B.len (by decide +kernel) (pa_cons (pv 1) pa_nil)) (pe_callB (klen (K := K)) (by rfl) B.len (by decide +kernel) (pa_cons (pv 0) pa_nil)) (nomark _)) (pe_one (pe_or (pe_cmpR (keq (K := K) hr) (pe_callB (klen (K := K)) (by rfl) B.len (by decide +kernel) (pa_cons (pv 0) pa_nil)) pe_int (nomark _)) (pe_one (pe_cmpR (keq (K := K) hr) (pe_callB (klen (K := K)) (by rfl) B.len (by decide +kernel) (pa_cons (pe_fn G__law_rooms (hr.mono (by decide)) (by rfl) (pa_cons (pv 0) pa_nil)) pa_nil)) (pe_op (kadd (K := K)) (pe_op op_sub (pv 3) (pe_callB (klen (K := K)) (by rfl) B.len (by decide +kernel) (pa_cons (pv 0) pa_nil))) pe_int) (nomark _)))))))))))), ?_⟩
    obtain ⟨kvs, hd, hk⟩ := id hw
    have hl : kvs.length = W.length := Paired.length hk
    have nk : (kvs.map (·.1)).Nodup := by rw [rgp_keys hk]; exact r.g.nd
    have g := r.g
    have z1 := r.few
    have z2 := r.len
    walk_at "go"
    refine ⟨_, .inr (.inr ⟨kvs, hd, rfl⟩), ?_⟩
    refine ite_if (c := !(!kvs.isEmpty)) (fun c => ?_) (fun c => ?_)
    · have e0 : kvs = [] := by
        cases kvs with
        | nil => rfl
        | cons x t => cases c
      have e1 : W = [] := by
        rw [e0] at hl
        exact List.length_eq_zero_iff.mp hl.symm
      exact q false H ⟨fun h => (by cases h), fun h => absurd e1 h.1⟩ fun _ _ h => h
    have hne : W ≠ [] := fun e => by
      rw [e] at hl
      rw [List.length_eq_zero_iff.mp hl] at c
      cases c
    obtain ⟨a0, ha0⟩ : ∃ a, (W.map (·.1)).head? = some a := by
      cases W with
      | nil => exact absurd rfl hne
      | cons x t => exact ⟨x.1, rfl⟩
    have ek : (kvs.map fun kv => kV kv.1) = (W.map (·.1)).map kV := by
      rw [← rgp_keys hk, List.map_map]
      rfl
    walk_at "go"
    refine .inr (.inl ⟨d, kvs, rfl, hd, fun l1 n1 => ?_⟩)
    generalize e1 : upd H l1 _ = H1 at *
    have h1 := at_new e1
    have s1 := same_new e1 n1
    clear e1
    rw [ek] at h1
    walk_at "go"
    refine .inl ⟨l1, _, rfl, SqL.of h1, fun l2 n2 => ?_⟩
    generalize e2 : upd H1 l2 _ = H2 at *
    have h2 := at_new e2
    have s2 := same_new e2 n2
    clear e2
    rw [show (some (1 : Int)) = some ((1 : Nat) : Int) from rfl, cutV_take, ← List.map_take] at h2
    have m1 := Met.one ha0
    generalize (W.map (·.1)).take 1 = K1 at h2 m1
    have s12 := s1.trans s2
    walk_at "go"
    refine .inr (.inl ⟨d, _, rfl, s12 _ _ hd, ?_⟩)
    walk_at "go"
    refine for_range (lo := 0) (fun i σ H' => ∃ (l : Addr) (v2 : Option V), σ = [some (.ref d), some (.ref l), v2, none, none, none] ∧ Same H H' ∧ H' l = some (.lst ((laps W K1 i).map kV))) ⟨l2, _, rfl, s12, h2⟩ ?_ ?_
    · rintro i σ H3 hi ⟨l, v2, rfl, s3, hl3⟩
      have mi := laps_met m1 g i
      have ml := mi.len
      generalize hMi : laps W K1 i = M at hl3 mi ml
      have hd3 := s3 _ _ hd
      have hk3 : Paired (RgP H3) kvs W := Paired.mapP hk fun _ _ e => e.same s3
      show ∃ x, _
      walk_at "go"
      refine ⟨d, .dK kvs, hd3, trivial, fun od => ?_⟩
      refine ⟨_, rfl, d, od, rfl, .inl ⟨kvs, upd_same, ?_⟩⟩
      intro D nD
      have dD : D ≠ d := fun e => by rw [e, upd_same] at nD; cases nD
      have nDH : H3 D = none := by rw [upd_ne dD] at nD; exact nD
      have ld : l ≠ d := ne_of hl3 hd3 (by intro q; cases q)
      have hlL : upd H3 d (.frz od (.dK kvs)) l = some (.lst (M.map kV)) := by rw [upd_ne ld]; exact hl3
      refine lc_acc walk_keys (fun j => (newOf (W.take j) M).map kV) rfl nD (fun H' s => s _ _ upd_same) (fun j hj => ?_) ?_ ?_
      · rw [List.length_map]
        unfold newOf
        rw [List.length_map]
        have := List.length_filter_le (fun vr : Key × List Key => !memK vr.1 M && M.any fun u => memK u vr.2) (W.take j)
        rw [List.length_take] at this
        omega
      · rintro j x H4 H5 hj s4 ⟨rfl, k, v, hkv, rfl⟩ N Yd hN hY
        obtain ⟨⟨u, ri⟩, hWi, e1, a, rfl, ha⟩ := paired_at hk3 hkv
        obtain rfl : k = u := e1
        have ad : a ≠ d := ne_of ha hd3 (by intro q; cases q)
        have ha4 := s4 a _ (by rw [upd_ne ad]; exact ha)
        have hl4 := s4 _ _ hlL
        have nt := new_take (M := M) hWi
        refine ⟨rfl, ?_⟩
        walk_at "go"
        refine .inl ⟨l, _, rfl, .inl (SqL.of hl4), flat_key k, flat_keys M, ?_⟩
        rw [inV_keys]
        refine ⟨_, rfl, ite_if (fun c1 => ?_) (fun c1 => ?_)⟩
        · walk_at "go"
          refine ⟨⟨_, SqL.of hl4⟩, fun D2 nD2 => ?_⟩
          have nl : ∀ z o, H5 z = some o → z ≠ D2 := fun z o h => ne_of_none h nD2
          refine lc_acc (walk_list (K := K) (a := l) (xs := M.map kV)) (fun jj => ((M.take jj).filter fun u => memK u ri).map fun _ => V.int 1) rfl nD2 (fun H' s => SqL.of (s _ _ hl4)) (fun jj hjj => ?_) ?_ ?_
          · rw [List.length_map]
            have := List.length_filter_le (fun u => memK u ri) (M.take jj)
            rw [List.length_take] at this
            omega
          · rintro jj y H6 H7 hjj s6 ⟨rfl, hy⟩ N2 Y2 hN2 hY2
            rw [List.getElem?_map] at hy
            obtain ⟨z, hz, rfl⟩ := Option.map_eq_some_iff.mp hy
            rw [take_snoc hz, filter_snoc, List.map_append] at hN2 hY2
            refine ⟨rfl, ?_⟩
            walk_at "go"
            refine .inr (.inr (.inr ⟨d, .ref a, rfl, .inl ⟨kvs, k, .inr ⟨od, s6 _ _ (s4 _ _ upd_same)⟩, rfl, (valV_of nk (List.mem_of_getElem? hkv)).symm⟩, ?_⟩))
            walk_at "go"
            refine .inl ⟨a, _, rfl, .inl (SqL.of (s6 _ _ ha4)), flat_key z, flat_keys ri, ?_⟩
            rw [inV_keys]
            refine ⟨_, rfl, ?_⟩
            cases e : memK z ri with
            | true =>
              rw [e] at hY2
              exact hY2 _ _ rfl fun _ _ h => h
            | false =>
              rw [e] at hN2
              exact hN2 (List.append_nil _) _ fun _ _ h => h
          · intro H6 s6 hD6
            rw [List.length_map, List.take_length] at hD6
            refine ⟨_, .inl ⟨_, SqL.of hD6, rfl⟩, ?_⟩
            rw [any_len]
            cases e : M.any fun u => memK u ri with
            | true =>
              have c1' : (!memK k M) = true := c1
              rw [e, Bool.and_true, if_pos c1'] at nt
              refine iteT ?_
              walk_at "go"
              refine hY _ _ ?_ s6
              rw [nt, List.map_append]
              rfl
            | false =>
              rw [e, Bool.and_false, if_neg Bool.false_ne_true, List.append_nil] at nt
              exact iteF (hN (by rw [nt]) _ s6)
        · have c2 : (!memK k M) = false := c1
          rw [c2, Bool.false_and, if_neg Bool.false_ne_true, List.append_nil] at nt
          exact hN (by rw [nt]) _ fun _ _ h => h
      · intro H4 s4 hD4
        rw [hl, List.take_length] at hD4
        refine ⟨s4 _ _ upd_same, ?_⟩
        have sU : Same H3 (upd H4 d (.dK kvs)) := same_unlock hd3 s4
        have hDU : upd H4 d (.dK kvs) D = some (.lst ((newOf W M).map kV)) := by rw [upd_ne dD]; exact hD4
        generalize upd H4 d (.dK kvs) = H5 at sU hDU
        have hl5 := sU _ _ hl3
        have m2 := (mi.grow g).len
        rw [List.length_append] at m2
        refine .inr (.inr (.inl ⟨l, D, _, _, rfl, rfl, hl5, hDU, by rw [nat63, List.length_map, List.length_map]; omega, fun p np => ?_⟩))
        refine ⟨p, _, rfl, same_mut (s3.trans sU) ((s3.trans sU).free np), ?_⟩
        rw [upd_same]
        show some (HO.lst (M.map kV ++ (newOf W M).map kV)) = some (.lst ((laps W K1 i ++ newOf W (laps W K1 i)).map kV))
        rw [hMi, List.map_append]
    · rintro σ H3 ⟨l, v2, rfl, s3, hl3⟩
      rw [hl, Int.toNat_natCast] at hl3
      have mE := laps_met m1 g W.length
      have cE := laps_end m1 g
      generalize laps W K1 W.length = M at hl3 mE cE
      have hd3 := s3 _ _ hd
      have hk3 : Paired (RgP H3) kvs W := Paired.mapP hk fun _ _ e => e.same s3
      have ld : l ≠ d := ne_of hl3 hd3 (by intro q; cases q)
      refine ⟨d, .dK kvs, hd3, trivial, fun od => ?_⟩
      refine ⟨_, rfl, d, od, rfl, .inl ⟨kvs, upd_same, ?_⟩⟩
      intro D nD
      have dD : D ≠ d := fun e => by rw [e, upd_same] at nD; cases nD
      have nDH : H3 D = none := by rw [upd_ne dD] at nD; exact nD
      have lz := lensW_len W
      refine lc_vals walk_keys (fun i => V.int ((lensW W).getD i 0)) nD (fun H' s => s _ _ upd_same) (by omega) ?_ ?_
      · rintro i x H4 H5 hi s4 ⟨rfl, k, v, hkv, rfl⟩ N Yd hY
        obtain ⟨⟨u, ri⟩, hWi, e1, a, rfl, ha⟩ := paired_at hk3 hkv
        obtain rfl : k = u := e1
        have ad : a ≠ d := ne_of ha hd3 (by intro q; cases q)
        have ha4 := s4 a _ (by rw [upd_ne ad]; exact ha)
        have hle : (lensW W).getD i 0 = (ri.length : Int) := by
          unfold lensW
          rw [List.getD_eq_getElem?_getD, List.getElem?_map, hWi]
          rfl
        rw [hle] at hY
        refine ⟨rfl, ?_⟩
        walk_at "go"
        refine .inr (.inr (.inr ⟨d, .ref a, rfl, .inl ⟨kvs, k, .inr ⟨od, s4 _ _ upd_same⟩, rfl, (valV_of nk (List.mem_of_getElem? hkv)).symm⟩, ?_⟩))
        walk_at "go"
        rw [show (((k, ri).snd.map kV).length : Int) = (ri.length : Int) by rw [List.length_map]]
        exact hY _ fun _ _ h => h
      · intro H4 s4 hD4
        refine ⟨s4 _ _ upd_same, ?_⟩
        have sU : Same H3 (upd H4 d (.dK kvs)) := same_unlock hd3 s4
        have hDU : upd H4 d (.dK kvs) D = some (.lst ((lensW W).map V.int)) := by
          rw [upd_ne dD, hD4, ← lz.trans hl.symm, range_getD]
        generalize upd H4 d (.dK kvs) = H5 at sU hDU
        have hl5 := sU _ _ hl3
        have hd5 := sU _ _ hd3
        have s05 := s3.trans sU
        have hw5 : WhAt H5 d W := hw.kp (Kp.of s05)
        walk_at "go"
        refine ⟨D, lensW W, rfl, SqL.of hDU, ?_⟩
        rw [lensW_sum]
        walk_at "go"
        refine .inr (.inl ⟨d, _, rfl, hd5, ?_⟩)
        walk_at "go"
        have hcn := mE.conn g.nd ha0 cE
        have wl : 0 < W.length := List.length_pos_iff.mpr hne
        refine ite_d (fun e => ?_) (fun e => ?_)
        · have eM : M.length = W.length := by
            injection e with e
            rw [List.length_map, hl] at e
            omega
          walk_at "go"
          refine .inr (.inl ⟨d, _, rfl, hd5, ?_⟩)
          walk_at "go"
          refine ite_d (fun e2 => ?_) (fun e2 => ?_)
          · have e3 : W.length = 1 := by
              injection e2 with e2
              rw [hl] at e2
              omega
            exact q true H5 ⟨fun _ => (PlaneW.small (by omega)).mpr e3, fun _ => rfl⟩ s05
          · have e3 : 2 ≤ W.length := by
              have : ¬ W.length = 1 := fun e4 => e2 (by rw [hl, e4]; rfl)
              omega
            walk_at "go"
            refine ⟨d, W, rfl, hw5, g, z1, by omega, fun p as rows H6 np fr s6 hp pr R => ?_⟩
            have la := Paired.length pr
            obtain ⟨rl1, _⟩ := rows_small g R
            have hd6 := s6 _ _ hd5
            walk_at "go"
            refine .inr (.inl ⟨d, _, rfl, hd6, ?_⟩)
            walk_at "go"
            refine q _ H6 ?_ (s05.trans s6)
            rw [PlaneW.big e3 R, decide_eq_true_eq, hl, List.length_map, la]
            exact ⟨fun e => ⟨hcn.mp eM, by injection e⟩, fun e => congrArg V.int e.2⟩
        · refine q false H5 ⟨fun h => (by cases h), fun h => absurd ?_ e⟩ s05
          rw [List.length_map, hl, hcn.mpr h.2.1]
end

end Y

namespace Y
open PySem PySem.Spec PyProof.Rows L2
theorem sc_law : FnScope ["script", "bag", "lap", "wheel", "given", "due", "told", "before", "behind", "back", "ends", "u", "ring", "again", "row", "v"] ["script"] (defScope s_law) := ⟨rfl, rfl, rfl, by decide +kernel, rfl, by decide +kernel, by decide +kernel⟩
local macro_rules | `(tactic| walk_at "hp") => `(tactic| first
  | assumption
  | exact upd_same
  | (refine (upd_ne (by first | assumption | exact Ne.symm (by assumption))).trans ?_; walk_at "hp"))
local macro_rules | `(tactic| walk_at "sz") => `(tactic| first
  | (rw [nat63]; omega)
  | (rw [nat63]; exact Nat.le_of_ble_eq_true rfl)
  | (simp only [nat63, List.length_append, List.length_cons, List.length_nil, List.length_map, List.length_set]; omega))
local macro_rules | `(tactic| walk_at "sd") => `(tactic| (try dsimp only [CDiv, CMul, CPow]); first
  | (with_reducible assumption)
  | omega
  | decide
  | walk_at "sz"
  | exact ⟨by omega, by omega⟩
  | exact ⟨by omega, by omega, by omega⟩
  | exact Or.inr ⟨by omega, by omega⟩
  | exact Or.inl ⟨by omega, by omega⟩)
local macro_rules | `(tactic| walk_at "go") => `(tactic| repeat (first
  | refine ⟨_, rfl, ?_⟩
  | refine ⟨_, _, rfl, rfl, ?_⟩
  | refine Or.inl ⟨_, rfl, ?_⟩
  | refine Or.inl ⟨_, _, rfl, rfl, ?_⟩
  | refine Or.inl ⟨_, _, _, _, rfl, rfl, SqL.of (by walk_at "hp"), rfl, ?_⟩
  | refine Or.inl ⟨rfl, ?_⟩
  | refine Or.inl ⟨_, _, _, _, rfl, rfl, (by walk_at "hp"), rfl, ?_⟩
  | refine Or.inr (Or.inl ⟨_, _, _, _, rfl, rfl, SqT.of (by walk_at "hp"), rfl, ?_⟩)
  | refine Or.inl ⟨_, _, rfl, Or.inl ⟨_, SqL.of (by walk_at "hp"), rfl⟩, ?_⟩
  | (with_reducible refine iteF ?_)
  | (with_reducible refine iteT ?_)
  | refine And.intro (by walk_at "sd") ?_
  | refine ⟨Or.inl ⟨rfl, _, SqL.of (by walk_at "hp")⟩, ?_⟩
  | refine ⟨_, _, _, rfl, rfl, (by walk_at "hp"), (by walk_at "sz"), ?_⟩
  | refine ⟨_, _, rfl, SqT.of (by walk_at "hp"), rfl, ?_⟩
  | refine ⟨_, _, rfl, ?_⟩
  | refine ⟨_, _, _, rfl, ?_⟩
  | refine ⟨⟨_, rfl⟩, ?_⟩
  | refine ⟨rfl, ?_⟩))
local macro_rules | `(tactic| walk_at "nb") => `(tactic| first
  | exact (nb_vs1 _).bag
  | exact (nb_strs _).bag
  | exact (nb_vsS _).bag
  | exact (nb_refs _).bag
  | assumption
  | rfl)
local macro_rules | `(tactic| walk_at "hp") => `(tactic| first
  | assumption
  | with_reducible exact upd_same
  | ((with_reducible apply upd_keep); assumption; walk_at "hp")
  | ((with_reducible apply Wb.keep); assumption; walk_at "hp"; walk_at "nb")
  | ((with_reducible apply Same.keep); assumption; walk_at "hp"))
local macro_rules | `(tactic| walk_at "wb") => `(tactic| first
  | assumption
  | exact Wb.refl (by assumption)
  | (apply Wb.trans2; assumption; walk_at "wb1")
  | (apply Wb.same2; assumption; walk_at "wb1"))
local macro_rules | `(tactic| walk_at "wb1") => `(tactic| walk_at "wb")
local macro_rules | `(tactic| walk_at "sd") => `(tactic| with_reducible exact Wb.bag (by assumption))

def sp_law (K : PySem.W.Frag) : Sp := fun vs H Q _ => ∃ (a : Addr) (ns : List Int), vs = [.ref a] ∧ SqL K H a (ns.map V.int) ∧ ns.length ≤ 63 ∧ ∀ H', Q (.bl true) H'
def sp_likeX : Sp := fun vs H Q E => sp_like 3 vs H Q E ∨ sp_likeD 2 vs H Q E
theorem likeX_w {H : Hp} {a b : Addr} {W : Whl} {Q : VK} {E : XK} (ha : WhAt H a W) (hb : WhAt H b W) (n : a ≠ b) (g : Good W) (few : W.length ≤ 1000) (q : ∀ H', Same H H' → Q (.bl true) H') : sp_likeX [.ref a, .ref b] H Q E := by
  obtain ⟨kvs, lvs, e1, e2, e3, e4, e5, e6, e7⟩ := like_wheels ha hb n g few
  exact .inr ⟨a, b, kvs, lvs, rfl, e1, e2, e3, e4, e5, e6, e7, q⟩
theorem likeX_al {H : Hp} {x y : V} {Q : VK} {E : XK} (h : Al H 3 x y) (q : ∀ H', Same H H' → Q (.bl true) H') : sp_likeX [x, y] H Q E := .inl ⟨x, y, rfl, h, q⟩
section
variable {P : Program} {w : World} {K : PySem.W.Frag} {mg : Str → Option Value} {base : Heap}
theorem ok_or {k : Nat} {f : Addr} {fd : FuncData} {ps : List Str} {sp1 sp2 : Sp} (h1 : FnOk P w K mg base CX0 k f fd ps sp1) (h2 : FnOk P w K mg base CX0 k f fd ps sp2) : FnOk P w K mg base CX0 k f fd ps (fun vs H Q E => sp1 vs H Q E ∨ sp2 vs H Q E) := by
  exact ⟨fun vs H Q E h => h.elim (h1.len vs H Q E) (h2.len vs H Q E), fun A outer s H args us vs Q E hr e hb hv h => h.elim (h1.run A outer s H args us vs Q E hr e hb hv) (h2.run A outer s H args us vs Q E hr e hb hv)⟩
theorem ok_law {f : Addr} {fd : FuncData} (F : Fun K "law" "law" s_law f fd) (B : Blt mg) (G__law_bag : Fn P w K mg base 1 "_law_bag" ["script"] (sp_bag K)) (G__law_drawn : Fn P w K mg base 5 "_law_drawn" ["bag"] sp_drawn) (G__law_rooms : Fn P w K mg base 1 "_law_rooms" ["wheel"] sp_rooms) (G__law_replica : Fn P w K mg base 1 "_law_replica" ["wheel"] sp_replica) (G__law_turn : Fn P w K mg base 1 "_law_turn" ["wheel"] sp_law_turn)
    (G_rooms : Fn P w K mg base 3 "rooms" ["rings"] sp_rooms_of) (G_turned : Fn P w K mg base 3 "turned" ["rings"] sp_turned) (GK_turned : FnK P w K mg base 3 "turned" ["rings"] sp_turned) (G_touched : Fn P w K mg base 1 "touched" ["room"] sp_touched) (G_plane : Fn P w K mg base 3 "plane" ["rings"] sp_plane) (G__law_counted : Fn P w K mg base 2 "_law_counted" ["wheel"] sp_counted)
    (G__law_like : Fn P w K mg base 5 "_law_like" ["told", "due"] sp_likeX) : FnOk P w K mg base CX0 6 f fd ["script"] (sp_law K) := by
  refine F.ok sc_law (fun vs H Q E h => ?_) (fun cdv A outer s H vs Q E hr h => ?_)
  · obtain ⟨a, ns, rfl, _⟩ := h
    rfl
  · obtain ⟨sc, ns, rfl, hS, hl, q⟩ := h
    have hu := hu_of hr
    refine ⟨_, (pss_cons (ps_set (i := 1) sc_law.nd rfl (Or.inl rfl) (pe_fn G__law_bag (hr.mono (by decide)) (by rfl) (pa_cons (pv 0) pa_nil)))
      (pss_cons (ps_for PassesOwn.never rfl (pi_range1 (by rfl) B.range (pa_cons pe_int pa_nil)) (pg_name (i := 2) sc_law.nd rfl (Or.inl rfl))
      (pss_cons (ps_set (i := 3) sc_law.nd rfl (Or.inl rfl) (pe_fn G__law_drawn (hr.mono (by decide)) (by rfl) (pa_cons (pv 1) pa_nil)))
      (pss_cons (ps_par rfl sc_law.nd (i := 4) (j := 5) rfl rfl (by decide) rfl rfl (pa_cons (pe_fn G__law_replica (hr.mono (by decide)) (by rfl) (pa_cons (pv 3) pa_nil)) (pa_cons (pe_fn G__law_turn (hr.mono (by decide)) (by rfl) (pa_cons (pv 3) pa_nil)) pa_nil)) (by rfl))
      (C8.pss_cut (ps_set (i := 6) sc_law.nd rfl (Or.inl rfl) (pe_ifExp (pt_cmpR (keq (K := K) hr) (pv 2) pe_int (nomark _)) (pe_fn G_turned (hr.mono (by decide)) (by rfl) (pa_cons (pv 4) pa_nil)) (pe_fnK GK_turned (hr.mono (by decide)) (by rfl) (pk_cons (pv 4) pk_nil))))
      (pss_cons (ps_if (PW.pt (pw_or (pt_not (kpt_truth (K := K) (pe_fn G__law_like (hr.mono (by decide)) (by rfl) (pa_cons (pv 6) (pa_cons (pv 5) pa_nil))) (by intro _; rfl))) (pw_or (pt_not (kpt_truth (K := K) (pe_fn G__law_like (hr.mono (by decide)) (by rfl) (pa_cons (pv 4) (pa_cons (pv 3) pa_nil))) (by intro _; rfl))) (pw_or1 (pt_not (kpt_truth (K := K) (pe_fn G__law_like (hr.mono (by decide)) (by rfl) (pa_cons (pe_fn G_turned (hr.mono (by decide)) (by rfl) (pa_cons (pv 6) pa_nil)) (pa_cons (pv 3) pa_nil))) (by intro _; rfl)))))))
      (pss_one (ps_ret pe_bl))
      pss_nil)
      (pss_cons (ps_setLc (i := 7) (own := [("row", 14)]) rfl sc_law.nd rfl rfl (sw_true rfl rfl rfl (by decide +kernel)) (kpi_list (K := K) (pe_fn G__law_rooms (hr.mono (by decide)) (by rfl) (pa_cons (pv 3) pa_nil))) (blkOk_by (own := [("row", 14)]) (N := ["script", "bag", "lap", "wheel", "given", "due", "told", "before", "behind", "back", "ends", "u", "ring", "again", "row", "v"]) (sc := defScope s_law) (by decide +kernel)) (fun _ _ _ _ _ => (pg_name (i := 14) sc_law.nd rfl (Or.inl rfl))) (fun _ _ _ _ _ => pts_nil) (fun _ _ _ _ _ => (pe_callB (cr_sortE (K := K) hr.units) (by rfl) B.sorted (by decide +kernel) (pa_cons (pv 14) pa_nil))))
      (pss_cons (ps_set (i := 8) sc_law.nd rfl (Or.inl rfl) (pe_fn G_rooms (hr.mono (by decide)) (by rfl) (pa_cons (pv 6) pa_nil)))
      (pss_cons (ps_if (pt_not (kpt_truth (K := K) (pe_fn G__law_like (hr.mono (by decide)) (by rfl) (pa_cons (pv 8) (pa_cons (pe_fn G__law_rooms (hr.mono (by decide)) (by rfl) (pa_cons (pv 5) pa_nil)) pa_nil))) (by intro _; rfl)))
      (pss_one (ps_ret pe_bl))
      pss_nil)
      (pss_cons (ps_setLc (i := 9) (own := [("row", 14)]) rfl sc_law.nd rfl rfl (sw_true rfl rfl rfl (by decide +kernel)) (kpi_list (K := K) (pv 8)) (blkOk_by (own := [("row", 14)]) (N := ["script", "bag", "lap", "wheel", "given", "due", "told", "before", "behind", "back", "ends", "u", "ring", "again", "row", "v"]) (sc := defScope s_law) (by decide +kernel)) (fun _ _ _ _ _ => (pg_name (i := 14) sc_law.nd rfl (Or.inl rfl))) (fun _ _ _ _ _ => pts_nil) (fun _ _ _ _ _ => (pe_callB (cr_sortE (K := K) hr.units) (by rfl) B.sorted (by decide +kernel) (pa_cons (pe_lc (own := [("u", 11), ("v", 15)]) (by rfl) sc_law.nd (kpi_list (K := K) (pv 14)) (blkOk_by (own := [("u", 11), ("v", 15)]) (N := ["script", "bag", "lap", "wheel", "given", "due", "told", "before", "behind", "back", "ends", "u", "ring", "again", "row", "v"]) (sc := { kind := ScopeKind.function, names := [(".0", NameKind.local), ("row", NameKind.local), ("sorted", NameKind.globalImplicit)], isGenerator := false, isCoroutine := false }) (by decide +kernel)) (fun _ _ _ _ _ => (kpg_tup (K := K) (n := 2) (pg_tup rfl (pgs_cons (pg_name (i := 11) sc_law.nd rfl (Or.inl rfl)) (pgs_cons (pg_name (i := 15) sc_law.nd rfl (Or.inl rfl)) pgs_nil))))) (fun _ _ _ _ _ => pts_nil) (fun _ _ _ _ _ => (pe_tup (pa_cons (pv 15) (pa_cons (pv 11) pa_nil))))) pa_nil))))
      (pss_cons (ps_if (pt_cmpR (kne (K := K) hr) (pe_callB (cr_sortE (K := K) hr.units) (by rfl) B.sorted (by decide +kernel) (pa_cons (pv 7) pa_nil)) (pe_callB (cr_sortE (K := K) hr.units) (by rfl) B.sorted (by decide +kernel) (pa_cons (pv 9) pa_nil)) (nomark _))
      (pss_one (ps_ret pe_bl))
      pss_nil)
      (pss_cons (ps_set (i := 10) sc_law.nd rfl (Or.inl rfl) (pe_callB (cr_sortE (K := K) hr.units) (by rfl) B.sorted (by decide +kernel) (pa_cons (pe_lc (own := [("row", 14)]) (by rfl) sc_law.nd (kpi_list (K := K) (pv 8)) (blkOk_by (own := [("row", 14)]) (N := ["script", "bag", "lap", "wheel", "given", "due", "told", "before", "behind", "back", "ends", "u", "ring", "again", "row", "v"]) (sc := defScope s_law) (by decide +kernel)) (fun _ _ _ _ _ => (pg_name (i := 14) sc_law.nd rfl (Or.inl rfl))) (fun _ _ _ _ _ => pts_nil) (fun _ _ _ _ _ => (pe_callB (cr_sortE (K := K) hr.units) (by rfl) B.sorted (by decide +kernel) (pa_cons (pe_fn G_touched (hr.mono (by decide)) (by rfl) (pa_cons (pv 14) pa_nil)) pa_nil)))) pa_nil)))
      (pss_cons (ps_if (pt_cmpR (kne (K := K) hr) (pv 10) (pe_callB (cr_sortE (K := K) hr.units) (by rfl) B.sorted (by decide +kernel) (pa_cons (pe_lc (own := [("row", 14)]) (by rfl) sc_law.nd (kpi_list (K := K) (pe_fn G_rooms (hr.mono (by decide)) (by rfl) (pa_cons (pv 4) pa_nil))) (blkOk_by (own := [("row", 14)]) (N := ["script", "bag", "lap", "wheel", "given", "due", "told", "before", "behind", "back", "ends", "u", "ring", "again", "row", "v"]) (sc := defScope s_law) (by decide +kernel)) (fun _ _ _ _ _ => (pg_name (i := 14) sc_law.nd rfl (Or.inl rfl))) (fun _ _ _ _ _ => pts_nil) (fun _ _ _ _ _ => (pe_callB (cr_sortE (K := K) hr.units) (by rfl) B.sorted (by decide +kernel) (pa_cons (pe_fn G_touched (hr.mono (by decide)) (by rfl) (pa_cons (pv 14) pa_nil)) pa_nil)))) pa_nil)) (nomark _))
      (pss_one (ps_ret pe_bl))
      pss_nil)
      (pss_cons (ps_if (pt_not (kpt_truth (K := K) (pe_fn G__law_like (hr.mono (by decide)) (by rfl) (pa_cons (pe_lst (pa_cons (pe_fn G_plane (hr.mono (by decide)) (by rfl) (pa_cons (pv 4) pa_nil)) (pa_cons (pe_fn G_plane (hr.mono (by decide)) (by rfl) (pa_cons (pv 6) pa_nil)) pa_nil))) (pa_cons (pe_lst (pa_cons (pe_fn G__law_counted (hr.mono (by decide)) (by rfl) (pa_cons (pv 3) pa_nil)) (pa_cons (pe_fn G__law_counted (hr.mono (by decide)) (by rfl) (pa_cons (pv 3) pa_nil)) pa_nil))) pa_nil))) (by intro _; rfl)))
      (pss_one (ps_ret pe_bl))
      pss_nil)
      (pss_cons (ps_lock (ps_for PassesOwn.never rfl (pi_keys (pv 3)) (pg_name (i := 11) sc_law.nd rfl (Or.inl rfl))
      (pss_cons (ps_set (i := 12) sc_law.nd rfl (Or.inl rfl) (pe_ix (kix (K := K) hu) (pv 6) (pv 11) (fun _ _ => rfl)))
      (pss_one (ps_expr (kbm (K := K) (pe_bm PySem.F.plainAttrs_list PySem.F.slot_list_append PySem.F.type_list_append mt_append (pv 12) (pa_cons pe_str pa_nil))))))))
      (pss_cons (ps_asg (pe_lst pa_nil) (pg_sub (pv 6) pe_str (set_any hu)))
      (pss_cons (ps_if (PW.pt (pw_or (pt_not (kpt_truth (K := K) (pe_fn G__law_like (hr.mono (by decide)) (by rfl) (pa_cons (pe_fn G_turned (hr.mono (by decide)) (by rfl) (pa_cons (pv 4) pa_nil)) (pa_cons (pv 5) pa_nil))) (by intro _; rfl))) (pw_or1 (pt_not (kpt_truth (K := K) (pe_fn G__law_like (hr.mono (by decide)) (by rfl) (pa_cons (pv 4) (pa_cons (pv 3) pa_nil))) (by intro _; rfl))))))
      (pss_one (ps_ret pe_bl))
      pss_nil)
      (pss_cons (ps_set (i := 13) sc_law.nd rfl (Or.inl rfl) (pe_fn G_turned (hr.mono (by decide)) (by rfl) (pa_cons (pv 4) pa_nil)))
      (pss_cons (ps_expr (kbm0 (K := K) (pe_bm0 PySem.F.plainAttrs_dict PySem.F.slot_dict_clear PySem.F.type_dict_clear mtd_clear (pv 4))))
      (pss_one (ps_if (pt_not (kpt_truth (K := K) (pe_fn G__law_like (hr.mono (by decide)) (by rfl) (pa_cons (pv 13) (pa_cons (pv 5) pa_nil))) (by intro _; rfl)))
      (pss_one (ps_ret pe_bl))
      pss_nil))))))))))))))))))))
      (pss_one (ps_ret pe_bl)))), ?_⟩
    walk_at "go"
    refine ⟨sc, ns, rfl, hS, hl, fun G H1 s1 nG b1 => ?_⟩
    walk_at "go"
    refine for_range (lo := 0) (fun i σ H' => ∃ (w2 w3 w4 w5 w6 w7 w8 w9 w10 w11 w12 w13 : Option V), σ = [some (.ref sc), some (.ref G.b), w2, w3, w4, w5, w6, w7, w8, w9, w10, w11, w12, w13, none, none] ∧ Wb G H1 H') ⟨_, _, _, _, _, _, _, _, _, _, _, _, rfl, Wb.refl b1⟩ ?_ ?_
    · rintro i σ H5 hi ⟨w2, w3, w4, w5, w6, w7, w8, w9, w10, w11, w12, w13, rfl, wb5⟩
      have b5 := wb5.bag
      walk_at "go"
      intro d W H6 hW g ok sw few len v6
      have wf : WF H6 d W := ⟨hW, g, ok, sw, few, len⟩
      have b6 := v6.bag
      have tx := wf.tx
      have rg := wf.ringed
      have rgt := rg.turn
      walk_at "go"
      refine ⟨d, W, rfl, wf.at_, g.nd, by omega, fun gv H7 ng s7 hg7 => ?_⟩
      have hd7 := wf.at_.kp (Kp.of s7)
      walk_at "go"
      refine ⟨d, W, rfl, hd7, g, by omega, fun du H8 nu s8 hu8 => ?_⟩
      have s68 := s7.trans s8
      have hg8 := hg7.kp (Kp.of s8)
      have hd8 := hd7.kp (Kp.of s8)
      have gu : gv ≠ du := fun e => by
        obtain ⟨k, h, _⟩ := hg7
        rw [e, nu] at h
        cases h
      have gd : gv ≠ d := fun e => by
        obtain ⟨k, h, _⟩ := wf.at_
        rw [← e, ng] at h
        cases h
      walk_at "go"
      refine ⟨fun σ H' => ∃ (tv : Addr), σ = [some (.ref sc), some (.ref G.b), some (.int (0 + i)), some (.ref d), some (.ref gv), some (.ref du), some (.ref tv), w7, w8, w9, w10, w11, w12, w13, none, none] ∧ H8 tv = none ∧ Same H8 H' ∧ WhAt H' tv (turnW W) ∧ ∀ kvs, H' tv = some (.dK kvs) → ∀ k a, (k, V.ref a) ∈ kvs → H8 a = none, ?_, ?_⟩
      · walk_at "go"
        refine ite_di (fun c => ?_) (fun c => ?_)
        · walk_at "go"
          refine ⟨gv, W, rfl, hg8, rg, fun tv H9 nt s9 ht fr => ?_⟩
          exact ⟨tv, rfl, nt, s9, ht, fr⟩
        · walk_at "go"
          refine ⟨gv, W, rfl, hg8, rg, fun tv H9 nt s9 ht fr => ?_⟩
          exact ⟨tv, rfl, nt, s9, ht, fr⟩
      · rintro σ H9 ⟨tv, rfl, nt, s9, ht, tfr⟩
        have few3 : W.length ≤ 1000 := by omega
        have fewt : (turnW W).length ≤ 1000 := rgt.few
        have ne8 : ∀ (z : Addr) (X : Whl), WhAt H8 z X → tv ≠ z := fun z X ⟨k, h, _⟩ e => by rw [← e, nt] at h; cases h
        have tu := ne8 du _ hu8
        have td := ne8 d _ hd8
        have tg := ne8 gv _ hg8
        walk_at "go"
        refine likeX_w ht (hu8.kp (Kp.of s9)) tu rgt.g fewt fun HA sA => ?_
        have s8A := s9.trans sA
        walk_at "go"
        refine likeX_w (hg8.kp (Kp.of s8A)) (hd8.kp (Kp.of s8A)) gd g few3 fun HB sB => ?_
        have s8B := s8A.trans sB
        have htB := (ht.kp (Kp.of sA)).kp (Kp.of sB)
        walk_at "go"
        refine ⟨tv, turnW W, rfl, htB, rgt, fun p HC np sC hp _ => ?_⟩
        rw [turnW_turnW] at hp
        have s8C := s8B.trans sC
        walk_at "go"
        have pd : p ≠ d := fun e => by
          obtain ⟨k, h, _⟩ := hd8.kp (Kp.of s8B)
          rw [← e, np] at h
          cases h
        refine likeX_w hp (hd8.kp (Kp.of s8C)) pd g few3 fun HD sD => ?_
        have s8D := s8C.trans sD
        walk_at "go"
        refine ⟨d, W, rfl, hd8.kp (Kp.of s8D), g, few3, by omega, fun p1 as1 rows1 HE np1 fr1 sE hp1 pr1 R1 => ?_⟩
        have s8E := s8D.trans sE
        obtain ⟨rl1, rl2⟩ := rows_small g R1
        have F1 := Full.of g R1
        have tx1 : ∀ row ∈ rows1, ∀ s ∈ row, TxS s := fun row h s hs => tx s (F1.sub h hs)
        refine ⟨p1, rfl, ⟨_, SqL.of hp1⟩, fun D1 nD1 => ?_⟩
        refine lc_obs ob_row ob_row (f := srtE encS) hp1 pr1 nD1 (by omega) ?_ ?_
        · rintro k b row H hb hrow sH rb Yd hY
          have mr := List.mem_of_getElem? hrow
          refine ⟨rfl, ?_⟩
          walk_at "go"
          exact sort_row rb (tx1 row mr) (by have := rl2 row mr; omega) fun p H2 np s2 o => hY p H2 s2 np o
        · rintro as1' HF sF hF pF
          have s8F := s8E.trans sF
          have htF := htB.kp (Kp.of (((sC.trans sD).trans sE).trans sF))
          walk_at "go"
          refine ⟨tv, turnW W, rfl, htF.q, rgt, fun p2 as2 rows2 HG np2 fr2 sG hp2 nd2 pr2 R2 => ?_⟩
          have s8G := s8F.trans sG
          obtain ⟨rt1, rt2⟩ := rows_small rgt.g R2
          have lent := rgt.len
          walk_at "go"
          refine ⟨du, turnW W, rfl, hu8.kp (Kp.of s8G), rgt.g, fewt, by omega, fun p3 as3 rows3 HH np3 fr3 sH hp3 pr3 R3 => ?_⟩
          obtain rfl := R3.uniq R2
          have s8H := s8G.trans sH
          have hp2H := sH _ _ hp2
          have pr2H : Paired (RowP HH) as2 rows3 := Paired.mapP pr2 fun _ _ o => o.same sH
          walk_at "go"
          refine likeX_al (al_rows (n := 0) hp2H hp3 pr2H pr3 (by omega) fun r hr => by have := rt2 r hr; omega) fun HI sI => ?_
          have s8I := s8H.trans sI
          have hp2I := sI _ _ hp2H
          have pr2I : Paired (RowP HI) as2 rows3 := Paired.mapP pr2H fun _ _ o => o.same sI
          have hFI := sI _ _ (sH _ _ (sG _ _ hF))
          have pFI : Paired (RowP HI) as1' (rows1.map (srtE encS)) := Paired.mapP pF fun _ _ o => ((o.same sG).same sH).same sI
          have F3 := Full.of rgt.g R2
          have tx3 : ∀ row ∈ rows3, ∀ s ∈ row.map revS, TxS s := fun row h s hs => by
            obtain ⟨z, hz, rfl⟩ := List.mem_map.mp hs
            have := turn_tx tx z (F3.sub h hz)
            exact ⟨this.2, this.1⟩
          walk_at "go"
          refine ⟨⟨_, SqL.of hp2I⟩, fun D2 nD2 => ?_⟩
          refine lc_obs ob_row ob_row (f := fun r => srtE encS (r.map revS)) hp2I pr2I nD2 (by omega) ?_ ?_
          · rintro k b row H hb hrow sH' rb Yd hY
            have mr := List.mem_of_getElem? hrow
            have rlen := rt2 row mr
            obtain ⟨ts, hts, tts⟩ := rb
            have tl : ts.length = row.length := by
              have := tts.length
              rwa [List.length_map] at this
            refine ⟨rfl, ?_⟩
            walk_at "go"
            refine ⟨⟨_, SqL.of hts⟩, fun D3 nD3 => ?_⟩
            refine lc_tups (walk_list (K := K) (a := b) (xs := ts.map V.ref)) (fun j => ((row.take j).map revS).map skp) rfl nD3 (fun H' s' => SqL.of (s' _ _ hts)) (fun j hj => by rw [List.length_map, List.length_map, List.length_take]; omega) ?_ ?_
            · rintro j x H2 H3 hj s2 ⟨rfl, hx⟩ N Yd2 hN hY2
              obtain ⟨t, ht, rfl⟩ := refs_at hx
              obtain ⟨ks, hks, hk⟩ := paired_at tts ht
              rw [List.getElem?_map] at hks
              obtain ⟨sj, hsj, rfl⟩ := Option.map_eq_some_iff.mp hks
              have hk2 := s2 _ _ hk
              refine ⟨_, _, rfl, SqT.of hk2, rfl, ?_⟩
              walk_at "go"
              intro t2 nt2
              refine hY2 (skp (revS sj)) t2 _ ?_ (same_upd nt2) upd_same
              rw [take_snoc hsj, List.map_append, List.map_append]
              rfl
            · rintro us H2 s2 hD3 tt
              rw [List.length_map, tl, List.take_length] at tt
              walk_at "go"
              exact sort_row ⟨us, hD3, tt⟩ (tx3 row mr) (by rw [List.length_map]; omega) fun p H3 np s3 o => hY p H3 (s2.trans s3) (s2.free np) o
          · rintro as2' HJ sJ hJ pJ
            have s8J := s8I.trans sJ
            have hFJ := sJ _ _ hFI
            have pFJ : Paired (RowP HJ) as1' (rows1.map (srtE encS)) := Paired.mapP pFI fun _ _ o => o.same sJ
            have al1 := rows_alike (f := fun r => r) tx1
            have al3 := rows_alike (f := fun r : List Stp => r.map revS) tx3
            walk_at "go"
            refine sort_obs ob_row (enc := encR) (fun a c o => Dp.row o) encR_nt encR_60 hFJ pFJ al1 (by rw [List.length_map]; omega) fun z1 az1 HK nz1 sK hz1 pz1 => ?_
            have hJK := sK _ _ hJ
            have pJK : Paired (RowP HK) as2' (rows3.map fun r => srtE encS (r.map revS)) := Paired.mapP pJ fun _ _ o => o.same sK
            walk_at "go"
            refine sort_obs ob_row (enc := encR) (fun a c o => Dp.row o) encR_nt encR_60 hJK pJK al3 (by rw [List.length_map]; omega) fun z2 az2 HL nz2 sL hz2 pz2 => ?_
            have e12 : srtE encR (rows1.map (srtE encS)) = srtE encR (rows3.map fun r => srtE encS (r.map revS)) := srtE_eq al1 encR_inj (rows_perm g tx R1 R2)
            have pz1L : Paired (RowP HL) az1 (srtE encR (rows3.map fun r => srtE encS (r.map revS))) := by
              rw [← e12]
              exact Paired.mapP pz1 fun _ _ o => o.same sL
            refine ne_obs (enc := encR) (fun a c o => Dp.row o) encR_60 (sL _ _ hz1) hz2 pz1L pz2 (fun c hc => ?_) ?_
            · obtain ⟨r, hr, rfl⟩ := List.mem_map.mp ((srtE_perm encR _).mem_iff.mp hc)
              refine encR_lay fun s hs => ?_
              obtain ⟨z, hz, rfl⟩ := List.mem_map.mp ((srtE_perm encS _).mem_iff.mp hs)
              exact rg.ok _ (rev_out g (F3.sub hr hz))
            have s8L := (s8J.trans sK).trans sL
            have sIL := (sJ.trans sK).trans sL
            have hp2L := sIL _ _ hp2I
            have pr2L : Paired (RowP HL) as2 rows3 := Paired.mapP pr2I fun _ _ o => o.same sIL
            have txt : ∀ row ∈ rows3, ∀ k ∈ touchK row, ∃ x, k = Sum.inr x := fun row h k hk => by
              obtain ⟨z, hz, rfl⟩ := touch_mem hk
              exact (turn_tx tx z (F3.sub h hz)).1
            have txs : ∀ row ∈ rows1, ∀ k ∈ touchK row, ∃ x, k = Sum.inr x := fun row h k hk => by
              obtain ⟨z, hz, rfl⟩ := touch_mem hk
              exact (tx1 row h z hz).1
            have alt := keys_alike (f := touchK) txt
            have als := keys_alike (f := touchK) txs
            walk_at "go"
            refine ⟨⟨_, SqL.of hp2L⟩, fun D4 nD4 => ?_⟩
            refine lc_obs ob_row ob_key (f := fun r => srtE keyD (touchK r)) hp2L pr2L nD4 (by omega) ?_ ?_
            · rintro k b row H hb hrow sH' rb Yd hY
              have mr := List.mem_of_getElem? hrow
              have rlen := rt2 row mr
              have tln := touch_len row
              obtain ⟨ts, hts, tts⟩ := rb
              refine ⟨rfl, ?_⟩
              walk_at "go"
              refine ⟨b, ts, row, rfl, .inl hts, tts, by omega, fun p H2 np s2 hp => ?_⟩
              walk_at "go"
              exact sort_keys hp (txt row mr) (by omega) fun p2 H3 np3 s3 o => hY p2 H3 (s2.trans s3) (s2.free np3) o
            · rintro as4 HM sM hM pM
              walk_at "go"
              refine sort_obs ob_key (enc := encK) (fun a c o => Dp.keyO o) encK_nt encK_60 hM pM alt (by rw [List.length_map]; omega) fun z4 az4 HN nz4 sN hz4 pz4 => ?_
              have s8N := (s8L.trans sM).trans sN
              walk_at "go"
              refine ⟨gv, W, rfl, (hg8.kp (Kp.of s8N)).q, rg, fun p5 as5 rows5 HO5 np5 fr5 sO hp5 nd5 pr5 R5 => ?_⟩
              obtain rfl := R5.uniq R1
              have s8O := s8N.trans sO
              have hz4O := sO _ _ hz4
              have pz4O : Paired (KeyL HO5) az4 _ := Paired.mapP pz4 fun _ _ o => ob_key.same sO o
              walk_at "go"
              refine ⟨⟨_, SqL.of hp5⟩, fun D5 nD5 => ?_⟩
              refine lc_obs ob_row ob_key (f := fun r => srtE keyD (touchK r)) hp5 pr5 nD5 (by omega) ?_ ?_
              · rintro k b row H hb hrow sH' rb Yd hY
                have mr := List.mem_of_getElem? hrow
                have rlen := rl2 row mr
                have tln := touch_len row
                obtain ⟨ts, hts, tts⟩ := rb
                refine ⟨rfl, ?_⟩
                walk_at "go"
                refine ⟨b, ts, row, rfl, .inl hts, tts, by omega, fun p H2 np s2 hp => ?_⟩
                walk_at "go"
                exact sort_keys hp (txs row mr) (by omega) fun p2 H3 np3 s3 o => hY p2 H3 (s2.trans s3) (s2.free np3) o
              · rintro as6 HP sP hP6 pP6
                walk_at "go"
                refine sort_obs ob_key (enc := encK) (fun a c o => Dp.keyO o) encK_nt encK_60 hP6 pP6 als (by rw [List.length_map]; omega) fun z6 az6 HQ nz6 sQ hz6 pz6 => ?_
                have e46 : srtE encK (rows3.map fun r => srtE keyD (touchK r)) = srtE encK (rows5.map fun r => srtE keyD (touchK r)) := srtE_eq alt encK_inj (touch_perm g tx R1 R2)
                have pz4Q : Paired (KeyL HQ) az4 (srtE encK (rows5.map fun r => srtE keyD (touchK r))) := by
                  rw [← e46]
                  exact Paired.mapP pz4O fun _ _ o => ob_key.same (sP.trans sQ) o
                refine ne_obs (enc := encK) (fun a c o => Dp.keyO o) encK_60 ((sP.trans sQ) _ _ hz4O) hz6 pz4Q pz6 (fun c hc => ?_) ?_
                · obtain ⟨r, hr, rfl⟩ := List.mem_map.mp ((srtE_perm encK _).mem_iff.mp hc)
                  refine encK_lay fun k hk => ?_
                  obtain ⟨z, hz, rfl⟩ := touch_mem ((srtE_perm keyD _).mem_iff.mp hk)
                  exact wf.ok _ (key_of (u := z.1) (v := z.2) (F1.sub hr hz))
                have s8Q := (s8O.trans sP).trans sQ
                have s9Q := ((((((((((((sA.trans sB).trans sC).trans sD).trans sE).trans sF).trans sG).trans sH).trans sI).trans sIL).trans sM).trans sN).trans sO).trans (sP.trans sQ)
                walk_at "go"
                refine ⟨gv, W, rfl, hg8.kp (Kp.of s8Q), rg, fun c1 HR hc1 sR => ?_⟩
                walk_at "go"
                refine ⟨tv, turnW W, rfl, ht.kp (Kp.of (s9Q.trans sR)), rgt, fun c2 HS hc2 sS => ?_⟩
                walk_at "go"
                intro b1' nb1
                generalize eb1 : upd HS b1' _ = HT at *
                have hb1 := at_new eb1
                have sT := same_new eb1 nb1
                clear eb1
                have s8T := ((s8Q.trans sR).trans sS).trans sT
                walk_at "go"
                refine ⟨d, W, rfl, hd8.kp (Kp.of s8T), rg, fun c3 HU hc3 sU => ?_⟩
                walk_at "go"
                refine ⟨d, W, rfl, hd8.kp (Kp.of (s8T.trans sU)), rg, fun c4 HV hc4 sV => ?_⟩
                walk_at "go"
                intro b2' nb2
                generalize eb2 : upd HV b2' _ = HW at *
                have hb2 := at_new eb2
                have sW := same_new eb2 nb2
                clear eb2
                obtain rfl : c3 = c1 := Bool.eq_iff_iff.mpr (hc3.trans hc1.symm)
                obtain rfl : c4 = c2 := Bool.eq_iff_iff.mpr (hc4.trans ((plane_turn g tx R1 R2).symm.trans hc2.symm))
                have hb1W := sW _ _ (sV _ _ (sU _ _ hb1))
                walk_at "go"
                refine likeX_al (al_bools (xs := [c3, c4]) (n := 2) hb1W hb2 (by show 2 ≤ 100000; decide)) fun HX sX => ?_
                have s8X := (((s8T.trans sU).trans sV).trans sW).trans sX
                have s9X := (((((s9Q.trans sR).trans sS).trans sT).trans sU).trans sV).trans (sW.trans sX)
                walk_at "go"
                refine (ite_if (c := !true) (fun e => by cases e) (fun _ => ?_) : ite _ _ _)
                obtain ⟨kvs, hdX, hkX⟩ := hd8.kp (Kp.of s8X)
                obtain ⟨kvt, ht9, pt9⟩ := ht
                have fr9 := tfr kvt ht9
                have htX := s9X _ _ ht9
                have nkt : (kvt.map (·.1)).Nodup := by rw [rgp_keys pt9]; exact rgt.g.nd
                have hl2 : kvs.length = W.length := Paired.length hkX
                have tdX : tv ≠ d := td
                refine ⟨d, .dK kvs, hdX, trivial, fun od => ?_⟩
                refine ⟨_, rfl, d, od, rfl, .inl ⟨kvs, upd_same, ?_⟩⟩
                have a_d : ∀ k a, (k, V.ref a) ∈ kvt → a ≠ d := fun k a h e => by
                  obtain ⟨k8, h8, _⟩ := hd8
                  rw [← e, fr9 k a h] at h8
                  cases h8
                have nL : ∀ k a, (k, V.ref a) ∈ kvt → upd H8 d (.frz od (.dK kvs)) a = none := fun k a h => by rw [upd_ne (a_d k a h)]; exact fr9 k a h
                have rings : ∀ H' : Hp, Same H9 H' → ∀ k a, (k, V.ref a) ∈ kvt → ∃ xs, H' a = some (.lst xs) ∧ xs.length ≤ 1000 := fun H' s' k a h => by
                  obtain ⟨j, hj⟩ := List.getElem?_of_mem h
                  obtain ⟨⟨u, r⟩, hWj, e1, b, e2, hb⟩ := paired_at pt9 hj
                  cases e2
                  refine ⟨_, s' _ _ hb, ?_⟩
                  rw [List.length_map]
                  have := ring_small rgt.g (u := u) (r := r) (List.mem_of_getElem? hWj)
                  show r.length ≤ 1000
                  omega
                refine for_it walk_keys (fun j σ H' => ∃ (w11 w12 : Option V), σ = [some (.ref sc), some (.ref G.b), some (.int (0 + i)), some (.ref d), some (.ref gv), some (.ref du), some (.ref tv), some (.ref D1), some (.ref p2), some (.ref D2), some (.ref z4), w11, w12, w13, none, none] ∧ Same (upd H8 d (.frz od (.dK kvs))) H' ∧ H' tv = some (.dK kvt) ∧ ∀ k a, (k, V.ref a) ∈ kvt → ∃ xs, H' a = some (.lst xs) ∧ xs.length ≤ 1000 + j) ?_ ?_ ?_ ?_
                · refine ⟨_, _, rfl, same_lock s8X, by rw [upd_ne td]; exact htX, fun k a h => ?_⟩
                  obtain ⟨xs, h1, h2⟩ := rings HX s9X k a h
                  exact ⟨xs, by rw [upd_ne (a_d k a h)]; exact h1, by omega⟩
                · rintro j σ H' _ ⟨_, _, rfl, sL, _⟩
                  exact sL _ _ upd_same
                · rintro j x σ H2 H3 hj ⟨w11, w12, rfl, sL, htL, hrL⟩ ⟨rfl, k, v, hkv, rfl⟩
                  have mk : k ∈ kvt.map (·.1) := by
                    rw [rgp_keys pt9, turnW_keys, ← rgp_keys hkX]
                    exact List.mem_map.mpr ⟨(k, v), List.mem_of_getElem? hkv, rfl⟩
                  obtain ⟨⟨k2, vt⟩, mkt, e1⟩ := List.mem_map.mp mk
                  obtain rfl : k2 = k := e1
                  obtain ⟨a, ea⟩ : ∃ a, vt = V.ref a := by
                    obtain ⟨j', hj'⟩ := List.getElem?_of_mem mkt
                    obtain ⟨_, _, _, b, e2, _⟩ := paired_at pt9 hj'
                    exact ⟨b, e2⟩
                  subst ea
                  obtain ⟨xs, hxs, lx⟩ := hrL k2 a mkt
                  have jl : j < 1000 := by omega
                  walk_at "go"
                  refine .inr (.inr (.inr ⟨tv, .ref a, rfl, .inl ⟨kvt, k2, .inl htL, rfl, (valV_of nkt mkt).symm⟩, ?_⟩))
                  walk_at "go"
                  refine ⟨same_mut sL (nL k2 a mkt), by rw [upd_ne (ne_of htL hxs (by intro q; cases q))]; exact htL, fun k b h => ?_⟩
                  by_cases e : b = a
                  · rw [e, upd_same]
                    exact ⟨_, rfl, by rw [List.length_append, List.length_singleton]; omega⟩
                  · obtain ⟨ys, hys, ly⟩ := hrL k b h
                    exact ⟨ys, by rw [upd_ne e]; exact hys, by omega⟩
                · rintro σ HY ⟨w11, w12, rfl, sL, htL, _⟩
                  have sU8 : Same H8 (upd HY d (.dK kvs)) := by
                    refine same_unlock ?_ sL
                    obtain ⟨k8, h8, _⟩ := hd8
                    rw [h8]
                    have := s8X _ _ h8
                    rw [hdX] at this
                    cases this
                    rfl
                  refine ⟨sL _ _ upd_same, ?_⟩
                  have htU : upd HY d (.dK kvs) tv = some (.dK kvt) := by rw [upd_ne td]; exact htL
                  generalize upd HY d (.dK kvs) = HZ at sU8 htU
                  have lkt : kvt.length = (turnW W).length := Paired.length pt9
                  walk_at "go"
                  intro e1 ne1
                  generalize ee1 : upd HZ e1 _ = Ha at *
                  have sa := same_new ee1 ne1
                  clear ee1
                  have hta := sa _ _ htU
                  walk_at "go"
                  refine .inr ⟨tv, _, rfl, DPut.k (k := Sum.inr (Str.ofString "?")) hta (by rw [nat63]; omega), ?_⟩
                  have s8b : Same H8 (upd Ha tv (.dK (putK kvt (Sum.inr (Str.ofString "?")) (.ref e1)))) := same_mut (sU8.trans sa) nt
                  generalize upd Ha tv (.dK (putK kvt (Sum.inr (Str.ofString "?")) (.ref e1))) = Hb at s8b ⊢
                  walk_at "go"
                  refine ⟨gv, W, rfl, hg8.kp (Kp.of s8b), rg, fun t7 Hc n7 sc' h7 _ => ?_⟩
                  have s8c := s8b.trans sc'
                  have ne7 : ∀ (z : Addr) (X : Whl), WhAt H8 z X → t7 ≠ z := fun z X hz e => by
                    obtain ⟨k, h, _⟩ := hz.kp (Kp.of s8b)
                    rw [← e, n7] at h
                    cases h
                  walk_at "go"
                  refine likeX_w h7 (hu8.kp (Kp.of s8c)) (ne7 du _ hu8) rgt.g fewt fun Hd sd => ?_
                  have s8d := s8c.trans sd
                  walk_at "go"
                  refine likeX_w (hg8.kp (Kp.of s8d)) (hd8.kp (Kp.of s8d)) gd g few3 fun He se => ?_
                  have s8e := s8d.trans se
                  walk_at "go"
                  refine ⟨gv, W, rfl, hg8.kp (Kp.of s8e), rg, fun t8 Hf n8 sf h8 _ => ?_⟩
                  have s8f := s8e.trans sf
                  have ne8' : ∀ (z : Addr) (X : Whl), WhAt H8 z X → t8 ≠ z := fun z X hz e => by
                    obtain ⟨k, h, _⟩ := hz.kp (Kp.of s8e)
                    rw [← e, n8] at h
                    cases h
                  obtain ⟨kz, hgf, _⟩ := hg8.kp (Kp.of s8f)
                  have clr : ∀ {z : Addr} {X : Whl}, z ≠ gv → WhAt Hf z X → WhAt (upd Hf gv (.dK [])) z X := fun n ⟨k, a, b⟩ => ⟨k, by rw [upd_ne n]; exact a, Paired.mapP b fun _ _ e => e.mut hgf (fun _ q => by cases q)⟩
                  have s6g : Same H6 (upd Hf gv (.dK [])) := same_mut (s68.trans s8f) ng
                  walk_at "go"
                  refine ⟨.inr (.inr (.inl ⟨rfl, .inl ⟨_, hgf⟩⟩)), gv, kz, rfl, rfl, hgf, ?_⟩
                  walk_at "go"
                  refine likeX_w (clr (ne8' gv _ hg8) h8) (clr gu.symm (hu8.kp (Kp.of s8f))) (ne8' du _ hu8) rgt.g fewt fun Hh sh => ?_
                  walk_at "go"
                  exact ⟨_, _, _, _, _, _, _, _, _, _, _, _, rfl, ((wb5.trans v6).same s6g).same sh⟩
    · rintro σ H' ⟨_, _, _, _, _, _, _, _, _, _, _, _, rfl, _⟩
      exact q _
end

end Y

namespace Y
open PySem PySem.Spec PyProof.Rows L2
theorem sc_rooms : FnScope ["rings"] ["rings"] (defScope s_rooms) := ⟨rfl, rfl, rfl, by decide +kernel, rfl, by decide +kernel, by decide +kernel⟩
local macro_rules | `(tactic| walk_at "hp") => `(tactic| first
  | assumption
  | exact upd_same
  | (refine (upd_ne (by first | assumption | exact Ne.symm (by assumption))).trans ?_; walk_at "hp"))
local macro_rules | `(tactic| walk_at "sz") => `(tactic| first
  | (rw [nat63]; omega)
  | (rw [nat63]; exact Nat.le_of_ble_eq_true rfl)
  | (simp only [nat63, List.length_append, List.length_cons, List.length_nil, List.length_map, List.length_set]; omega))
local macro_rules | `(tactic| walk_at "sd") => `(tactic| (try dsimp only [CDiv, CMul, CPow]); first
  | (with_reducible assumption)
  | omega
  | decide
  | walk_at "sz"
  | exact ⟨by omega, by omega⟩
  | exact ⟨by omega, by omega, by omega⟩
  | exact Or.inr ⟨by omega, by omega⟩
  | exact Or.inl ⟨by omega, by omega⟩)
local macro_rules | `(tactic| walk_at "go") => `(tactic| repeat (first
  | refine ⟨_, rfl, ?_⟩
  | refine ⟨_, _, rfl, rfl, ?_⟩
  | refine Or.inl ⟨_, rfl, ?_⟩
  | refine Or.inl ⟨_, _, rfl, rfl, ?_⟩
  | refine Or.inl ⟨_, _, _, _, rfl, rfl, SqL.of (by walk_at "hp"), rfl, ?_⟩
  | refine Or.inl ⟨rfl, ?_⟩
  | refine Or.inl ⟨_, _, _, _, rfl, rfl, (by walk_at "hp"), rfl, ?_⟩
  | refine Or.inr (Or.inl ⟨_, _, _, _, rfl, rfl, SqT.of (by walk_at "hp"), rfl, ?_⟩)
  | refine Or.inl ⟨_, _, rfl, Or.inl ⟨_, SqL.of (by walk_at "hp"), rfl⟩, ?_⟩
  | (with_reducible refine iteF ?_)
  | (with_reducible refine iteT ?_)
  | refine And.intro (by walk_at "sd") ?_
  | refine ⟨Or.inl ⟨rfl, _, SqL.of (by walk_at "hp")⟩, ?_⟩
  | refine ⟨_, _, _, rfl, rfl, (by walk_at "hp"), (by walk_at "sz"), ?_⟩
  | refine ⟨_, _, rfl, SqT.of (by walk_at "hp"), rfl, ?_⟩
  | refine ⟨_, _, rfl, ?_⟩
  | refine ⟨_, _, _, rfl, ?_⟩
  | refine ⟨⟨_, rfl⟩, ?_⟩
  | refine ⟨rfl, ?_⟩))
local macro_rules | `(tactic| walk_at "nb") => `(tactic| first
  | exact (nb_vs1 _).bag
  | exact (nb_strs _).bag
  | exact (nb_vsS _).bag
  | exact (nb_refs _).bag
  | assumption
  | rfl)
local macro_rules | `(tactic| walk_at "hp") => `(tactic| first
  | assumption
  | with_reducible exact upd_same
  | ((with_reducible apply upd_keep); assumption; walk_at "hp")
  | ((with_reducible apply Wb.keep); assumption; walk_at "hp"; walk_at "nb")
  | ((with_reducible apply Same.keep); assumption; walk_at "hp"))
local macro_rules | `(tactic| walk_at "wb") => `(tactic| first
  | assumption
  | exact Wb.refl (by assumption)
  | (apply Wb.trans2; assumption; walk_at "wb1")
  | (apply Wb.same2; assumption; walk_at "wb1"))
local macro_rules | `(tactic| walk_at "wb1") => `(tactic| walk_at "wb")
local macro_rules | `(tactic| walk_at "sd") => `(tactic| with_reducible exact Wb.bag (by assumption))

section
variable {P : Program} {w : World} {K : PySem.W.Frag} {mg : Str → Option Value} {base : Heap}
theorem ok_rooms {f : Addr} {fd : FuncData} (F : Fun K "rooms" "rooms" s_rooms f fd) (B : Blt mg) (G_check_rings : Fn P w K mg base 2 "check_rings" ["rings"] sp_check_rings) (G_rooms_of : Fn P w K mg base 2 "rooms_of" ["rings"] sp_rooms_of) : FnOk P w K mg base CX0 3 f fd ["rings"] sp_rooms_of := by
  refine F.ok sc_rooms (fun vs H Q E h => ?_) (fun cdv A outer s H vs Q E hr h => ?_)
  · obtain ⟨d, W, rfl, _⟩ := h
    rfl
  · obtain ⟨d, W, rfl, hd, r, q⟩ := h
    have hu := hu_of hr
    refine ⟨_, (pss_cons (ps_expr (pe_fn G_check_rings (hr.mono (by decide)) (by rfl) (pa_cons (pv 0) pa_nil)))
      (pss_one (ps_ret (pe_fn G_rooms_of (hr.mono (by decide)) (by rfl) (pa_cons (pv 0) pa_nil))))), ?_⟩
    walk_at "go"
    refine ⟨d, W, rfl, hd, r, fun H' s' => ?_⟩
    walk_at "go"
    refine ⟨d, W, rfl, hd.same s', r, fun p as rows H2 np fr s2 hp nd hr R => ?_⟩
    exact q p as rows H2 (s'.free np) (fun a ha => s'.free (fr a ha)) (s'.trans s2) hp nd hr R
end

end Y

namespace Y
open PySem PySem.Spec PyProof.Rows L2
def d__law_bag : He.DefD := ⟨("_law_bag", none), "_law_bag", "_law_bag", defArgs s__law_bag, defBody s__law_bag, defScope s__law_bag, [], []⟩
def d__law_draw : He.DefD := ⟨("_law_draw", none), "_law_draw", "_law_draw", defArgs s__law_draw, defBody s__law_draw, defScope s__law_draw, [], []⟩
def d__law_of : He.DefD := ⟨("_law_of", none), "_law_of", "_law_of", defArgs s__law_of, defBody s__law_of, defScope s__law_of, [], []⟩
def d__law_rooms : He.DefD := ⟨("_law_rooms", none), "_law_rooms", "_law_rooms", defArgs s__law_rooms, defBody s__law_rooms, defScope s__law_rooms, [], []⟩
def d__law_drawing : He.DefD := ⟨("_law_drawing", none), "_law_drawing", "_law_drawing", defArgs s__law_drawing, defBody s__law_drawing, defScope s__law_drawing, [], []⟩
def d__law_mixed : He.DefD := ⟨("_law_mixed", none), "_law_mixed", "_law_mixed", defArgs s__law_mixed, defBody s__law_mixed, defScope s__law_mixed, [], []⟩
def d__law_titled : He.DefD := ⟨("_law_titled", none), "_law_titled", "_law_titled", defArgs s__law_titled, defBody s__law_titled, defScope s__law_titled, [], []⟩
def d__law_strings : He.DefD := ⟨("_law_strings", none), "_law_strings", "_law_strings", defArgs s__law_strings, defBody s__law_strings, defScope s__law_strings, [], []⟩
def d__law_reserved : He.DefD := ⟨("_law_reserved", none), "_law_reserved", "_law_reserved", defArgs s__law_reserved, defBody s__law_reserved, defScope s__law_reserved, [], []⟩
def d__law_names : He.DefD := ⟨("_law_names", none), "_law_names", "_law_names", defArgs s__law_names, defBody s__law_names, defScope s__law_names, [], []⟩
def d__law_tie : He.DefD := ⟨("_law_tie", none), "_law_tie", "_law_tie", defArgs s__law_tie, defBody s__law_tie, defScope s__law_tie, [], []⟩
def d__law_loose : He.DefD := ⟨("_law_loose", none), "_law_loose", "_law_loose", defArgs s__law_loose, defBody s__law_loose, defScope s__law_loose, [], []⟩
def d__law_several : He.DefD := ⟨("_law_several", none), "_law_several", "_law_several", defArgs s__law_several, defBody s__law_several, defScope s__law_several, [], []⟩
def d__law_block : He.DefD := ⟨("_law_block", none), "_law_block", "_law_block", defArgs s__law_block, defBody s__law_block, defScope s__law_block, [], []⟩
def d__law_glued : He.DefD := ⟨("_law_glued", none), "_law_glued", "_law_glued", defArgs s__law_glued, defBody s__law_glued, defScope s__law_glued, [], []⟩
def d__law_pattern : He.DefD := ⟨("_law_pattern", none), "_law_pattern", "_law_pattern", defArgs s__law_pattern, defBody s__law_pattern, defScope s__law_pattern, [], []⟩
def d__law_beside : He.DefD := ⟨("_law_beside", none), "_law_beside", "_law_beside", defArgs s__law_beside, defBody s__law_beside, defScope s__law_beside, [], []⟩
def d__law_wheel_of : He.DefD := ⟨("_law_wheel_of", none), "_law_wheel_of", "_law_wheel_of", defArgs s__law_wheel_of, defBody s__law_wheel_of, defScope s__law_wheel_of, [], []⟩
def d__law_drawn : He.DefD := ⟨("_law_drawn", none), "_law_drawn", "_law_drawn", defArgs s__law_drawn, defBody s__law_drawn, defScope s__law_drawn, [], []⟩
def d__law_replica : He.DefD := ⟨("_law_replica", none), "_law_replica", "_law_replica", defArgs s__law_replica, defBody s__law_replica, defScope s__law_replica, [], []⟩
def d__law_turn : He.DefD := ⟨("_law_turn", none), "_law_turn", "_law_turn", defArgs s__law_turn, defBody s__law_turn, defScope s__law_turn, [], []⟩
def d_are_rings : He.DefD := ⟨("are_rings", none), "are_rings", "are_rings", defArgs s_are_rings, defBody s_are_rings, defScope s_are_rings, [], []⟩
def d_check_rings : He.DefD := ⟨("check_rings", none), "check_rings", "check_rings", defArgs s_check_rings, defBody s_check_rings, defScope s_check_rings, [], []⟩
def d_steps_behind : He.DefD := ⟨("steps_behind", none), "steps_behind", "steps_behind", defArgs s_steps_behind, defBody s_steps_behind, defScope s_steps_behind, [], []⟩
def d_room_from : He.DefD := ⟨("room_from", none), "room_from", "room_from", defArgs s_room_from, defBody s_room_from, defScope s_room_from, [], []⟩
def d_rooms_of : He.DefD := ⟨("rooms_of", none), "rooms_of", "rooms_of", defArgs s_rooms_of, defBody s_rooms_of, defScope s_rooms_of, [], []⟩
def d_rooms : He.DefD := ⟨("rooms", none), "rooms", "rooms", defArgs s_rooms, defBody s_rooms, defScope s_rooms, [], []⟩
def d_turned : He.DefD := ⟨("turned", none), "turned", "turned", defArgs s_turned, defBody s_turned, defScope s_turned, [], []⟩
def d_touched : He.DefD := ⟨("touched", none), "touched", "touched", defArgs s_touched, defBody s_touched, defScope s_touched, [], []⟩
def d_hang_together : He.DefD := ⟨("hang_together", none), "hang_together", "hang_together", defArgs s_hang_together, defBody s_hang_together, defScope s_hang_together, [], []⟩
def d_plane : He.DefD := ⟨("plane", none), "plane", "plane", defArgs s_plane, defBody s_plane, defScope s_plane, [], []⟩
def d__law_counted : He.DefD := ⟨("_law_counted", none), "_law_counted", "_law_counted", defArgs s__law_counted, defBody s__law_counted, defScope s__law_counted, [], []⟩
def d__law_like : He.DefD := ⟨("_law_like", none), "_law_like", "_law_like", defArgs s__law_like, defBody s__law_like, defScope s__law_like, [], []⟩
def d_law : He.DefD := ⟨("law", none), "law", "law", defArgs s_law, defBody s_law, defScope s_law, [], []⟩
def fnL : List He.DefD := [d__law_bag, d__law_draw, d__law_of, d__law_rooms, d__law_drawing, d__law_mixed, d__law_titled, d__law_strings, d__law_reserved, d__law_names, d__law_tie, d__law_loose, d__law_several, d__law_block, d__law_glued, d__law_pattern, d__law_beside, d__law_wheel_of, d__law_drawn, d__law_replica, d__law_turn, d_are_rings, d_check_rings, d_steps_behind, d_room_from, d_rooms_of, d_rooms, d_turned, d_touched, d_hang_together, d_plane, d__law_counted, d__law_like, d_law]
def faL : List He.Fa := [.glo "_law_bag", .glo "_law_draw", .glo "_law_of", .glo "_law_rooms", .glo "_law_drawing", .glo "_law_mixed", .glo "_law_titled", .glo "_law_strings", .glo "_law_reserved", .glo "_law_names", .glo "_law_tie", .glo "_law_loose", .glo "_law_several", .glo "_law_block", .glo "_law_glued", .glo "_law_pattern", .glo "_law_beside", .glo "_law_wheel_of", .glo "_law_drawn", .glo "_law_replica", .glo "_law_turn", .glo "are_rings", .glo "check_rings", .glo "steps_behind", .glo "room_from", .glo "rooms_of", .glo "rooms", .glo "turned", .glo "touched", .glo "hang_together", .glo "plane", .glo "_law_counted", .glo "_law_like", .glo "law", .free "len", .free "range", .free "list", .free "tuple", .free "dict", .free "int", .free "str", .free "bool", .free "isinstance", .free "all", .free "zip", .free "enumerate", .free "min", .free "max", .free "set", .free "sorted", .free "sum"]
abbrev RR : PySem.W.OpenRow := PySem.W.OpenLaw.row PySem.Challenge.rw_wayleft_k37_turned_over
abbrev hkL : PySem.W.Hook := He.hookD 4 faL fnL
def obL (s : PySem.W.SharedT) : He.AlD := He.obsDG 4 faL fnL (HandSHeadRun.getT s)
theorem obL_eq (s : PySem.W.SharedT) : obL s = hkL.obs s.abs := He.obsDG_eq (HandSHeadRun.getT_eq s)
def nmL0 : List PySem.Str := ["Unlike", "are_rings", "steps_behind", "room_from", "rooms_of", "hang_together", "check_rings", "rooms", "plane", "turned", "touched", "_law_bag", "_law_draw", "_law_of", "_law_mixed", "_law_like", "_law_reserved", "_law_names", "_law_beside", "_law_tie", "_law_loose", "_law_block", "_law_glued", "_law_several", "_law_pattern", "_law_rooms", "_law_counted", "_law_drawing", "_law_titled", "_law_wheel_of"]
def nmL1 : List PySem.Str := ["_law_strings", "_law_replica", "_law_turn", "_law_drawn"]
abbrev nmL : List PySem.Str := nmL0 ++ nmL1
set_option maxHeartbeats 0 in
theorem runL (w : World) : HandSHeadRun.RunEq RR (PySem.W.view RR.prog [38]) hkL obL 20000 nmL w := by
  intro os
  kernel_rfl
theorem fun_of {K : PySem.W.Frag} {x : Str} {st : Stmt} {f : Addr} {fd : FuncData} (F : FunD K x x (defArgs st) (defBody st) (defScope st) [] [] f fd) : Fun K x x st f fd := by
  obtain ⟨oc, od, dV, kV, doc, pm, an, cdv, ct, osl, e, lk, hcd, hD, _⟩ := F.ex
  rcases hD with ⟨_, rfl⟩ | ⟨z, _⟩
  · exact ⟨⟨oc, od, kV, doc, pm, an, cdv, ct, osl, e, lk, hcd⟩, F.kp⟩
  · exact absurd rfl z
theorem fn_mk {P : Program} {w : World} {K : PySem.W.Frag} {mg : Str → Option Value} {base : Heap} {k : Nat} {x : Str} {st : Stmt} {f : Addr} {fd : FuncData} {ps : List Str} {sp : Sp} (F : FunD K x x (defArgs st) (defBody st) (defScope st) [] [] f fd) (G : mg x = some (.ref f))
    (hb : ∀ (kV doc pm : Value) (an : Option Addr) (cdv ct : Value) (us : List Value), us.length = ps.length → bindArgs (PySem.W.fnOf x x (defArgs st) (defBody st) (defScope st) .none kV doc pm an cdv ct) ⟨us, []⟩ = pure (ps.zip us))
    (ok : FnOk P w K mg base CX0 k f fd ps sp) : Fn P w K mg base k x ps sp := ⟨f, fd, G, F.kp, F.bindsN hb, ok⟩
theorem fnk_mk {P : Program} {w : World} {K : PySem.W.Frag} {mg : Str → Option Value} {base : Heap} {k : Nat} {x : Str} {st : Stmt} {f : Addr} {fd : FuncData} {ps : List Str} {sp : Sp} (F : FunD K x x (defArgs st) (defBody st) (defScope st) [] [] f fd) (G : mg x = some (.ref f))
    (hb : ∀ (kV doc pm : Value) (an : Option Addr) (cdv ct : Value) (ws : List Value), ws.length = ps.length → bindArgs (PySem.W.fnOf x x (defArgs st) (defBody st) (defScope st) .none kV doc pm an cdv ct) ⟨[], ps.zip ws⟩ = pure (ps.zip ws))
    (ok : FnOk P w K mg base CX0 k f fd ps sp) : FnK P w K mg base k x ps sp := by
  refine ⟨f, fd, G, F.kp, fun s ws _ hl => ?_, ok⟩
  obtain ⟨oc, od, dV, kV, doc, pm, an, cdv, ct, osl, rfl, lk, hcd, hD, _⟩ := F.ex
  rcases hD with ⟨_, rfl⟩ | ⟨z, _⟩
  · exact .of_eq (hb kV doc pm an cdv ct ws hl)
  · exact absurd rfl z
theorem ok_false {P : Program} {w : World} {K : PySem.W.Frag} {mg : Str → Option Value} {base : Heap} {k : Nat} {f : Addr} {fd : FuncData} {ps : List Str} : FnOk P w K mg base CX0 k f fd ps (fun _ _ _ _ => False) := ⟨fun _ _ _ _ h => h.elim, fun _ _ _ _ _ _ _ _ _ _ _ _ _ h => h.elim⟩
theorem factsL {P : Program} {w : World} {K : PySem.W.Frag} {h : Heap} {mg : Str → Option Value} {fa : Addr} (X : K.In h) (G : h.Ns mainGlobals mg) (hfa : mg ("law" : Str) = some (.ref fa)) (c : He.SaysD faL fnL K) :
    ∃ fd : FuncData, (∀ (s : Shared) (v : Value), BindsTo s fd ⟨[v], []⟩ [("script", v)]) ∧ ∀ base : Heap, K.In base → base.Ns mainGlobals mg → FnOk P w K mg base CX0 6 fa fd ["script"] (sp_law K) := by
  obtain ⟨v__law_bag, F__law_bag⟩ := c.def_ 0 (d := d__law_bag) rfl
  obtain ⟨v__law_draw, F__law_draw⟩ := c.def_ 1 (d := d__law_draw) rfl
  obtain ⟨v__law_of, F__law_of⟩ := c.def_ 2 (d := d__law_of) rfl
  obtain ⟨v__law_rooms, F__law_rooms⟩ := c.def_ 3 (d := d__law_rooms) rfl
  obtain ⟨v__law_drawing, F__law_drawing⟩ := c.def_ 4 (d := d__law_drawing) rfl
  obtain ⟨v__law_mixed, F__law_mixed⟩ := c.def_ 5 (d := d__law_mixed) rfl
  obtain ⟨v__law_titled, F__law_titled⟩ := c.def_ 6 (d := d__law_titled) rfl
  obtain ⟨v__law_strings, F__law_strings⟩ := c.def_ 7 (d := d__law_strings) rfl
  obtain ⟨v__law_reserved, F__law_reserved⟩ := c.def_ 8 (d := d__law_reserved) rfl
  obtain ⟨v__law_names, F__law_names⟩ := c.def_ 9 (d := d__law_names) rfl
  obtain ⟨v__law_tie, F__law_tie⟩ := c.def_ 10 (d := d__law_tie) rfl
  obtain ⟨v__law_loose, F__law_loose⟩ := c.def_ 11 (d := d__law_loose) rfl
  obtain ⟨v__law_several, F__law_several⟩ := c.def_ 12 (d := d__law_several) rfl
  obtain ⟨v__law_block, F__law_block⟩ := c.def_ 13 (d := d__law_block) rfl
  obtain ⟨v__law_glued, F__law_glued⟩ := c.def_ 14 (d := d__law_glued) rfl
  obtain ⟨v__law_pattern, F__law_pattern⟩ := c.def_ 15 (d := d__law_pattern) rfl
  obtain ⟨v__law_beside, F__law_beside⟩ := c.def_ 16 (d := d__law_beside) rfl
  obtain ⟨v__law_wheel_of, F__law_wheel_of⟩ := c.def_ 17 (d := d__law_wheel_of) rfl
  obtain ⟨v__law_drawn, F__law_drawn⟩ := c.def_ 18 (d := d__law_drawn) rfl
  obtain ⟨v__law_replica, F__law_replica⟩ := c.def_ 19 (d := d__law_replica) rfl
  obtain ⟨v__law_turn, F__law_turn⟩ := c.def_ 20 (d := d__law_turn) rfl
  obtain ⟨v_are_rings, F_are_rings⟩ := c.def_ 21 (d := d_are_rings) rfl
  obtain ⟨v_check_rings, F_check_rings⟩ := c.def_ 22 (d := d_check_rings) rfl
  obtain ⟨v_steps_behind, F_steps_behind⟩ := c.def_ 23 (d := d_steps_behind) rfl
  obtain ⟨v_room_from, F_room_from⟩ := c.def_ 24 (d := d_room_from) rfl
  obtain ⟨v_rooms_of, F_rooms_of⟩ := c.def_ 25 (d := d_rooms_of) rfl
  obtain ⟨v_rooms, F_rooms⟩ := c.def_ 26 (d := d_rooms) rfl
  obtain ⟨v_turned, F_turned⟩ := c.def_ 27 (d := d_turned) rfl
  obtain ⟨v_touched, F_touched⟩ := c.def_ 28 (d := d_touched) rfl
  obtain ⟨v_hang_together, F_hang_together⟩ := c.def_ 29 (d := d_hang_together) rfl
  obtain ⟨v_plane, F_plane⟩ := c.def_ 30 (d := d_plane) rfl
  obtain ⟨v__law_counted, F__law_counted⟩ := c.def_ 31 (d := d__law_counted) rfl
  obtain ⟨v__law_like, F__law_like⟩ := c.def_ 32 (d := d__law_like) rfl
  obtain ⟨v_law, F_law⟩ := c.def_ 33 (d := d_law) rfl
  have g__law_bag := He.glo_ok X G (c.fact 0 (f := .glo "_law_bag") rfl)
  have g__law_draw := He.glo_ok X G (c.fact 1 (f := .glo "_law_draw") rfl)
  have g__law_of := He.glo_ok X G (c.fact 2 (f := .glo "_law_of") rfl)
  have g__law_rooms := He.glo_ok X G (c.fact 3 (f := .glo "_law_rooms") rfl)
  have g__law_drawing := He.glo_ok X G (c.fact 4 (f := .glo "_law_drawing") rfl)
  have g__law_mixed := He.glo_ok X G (c.fact 5 (f := .glo "_law_mixed") rfl)
  have g__law_titled := He.glo_ok X G (c.fact 6 (f := .glo "_law_titled") rfl)
  have g__law_strings := He.glo_ok X G (c.fact 7 (f := .glo "_law_strings") rfl)
  have g__law_reserved := He.glo_ok X G (c.fact 8 (f := .glo "_law_reserved") rfl)
  have g__law_names := He.glo_ok X G (c.fact 9 (f := .glo "_law_names") rfl)
  have g__law_tie := He.glo_ok X G (c.fact 10 (f := .glo "_law_tie") rfl)
  have g__law_loose := He.glo_ok X G (c.fact 11 (f := .glo "_law_loose") rfl)
  have g__law_several := He.glo_ok X G (c.fact 12 (f := .glo "_law_several") rfl)
  have g__law_block := He.glo_ok X G (c.fact 13 (f := .glo "_law_block") rfl)
  have g__law_glued := He.glo_ok X G (c.fact 14 (f := .glo "_law_glued") rfl)
  have g__law_pattern := He.glo_ok X G (c.fact 15 (f := .glo "_law_pattern") rfl)
  have g__law_beside := He.glo_ok X G (c.fact 16 (f := .glo "_law_beside") rfl)
  have g__law_wheel_of := He.glo_ok X G (c.fact 17 (f := .glo "_law_wheel_of") rfl)
  have g__law_drawn := He.glo_ok X G (c.fact 18 (f := .glo "_law_drawn") rfl)
  have g__law_replica := He.glo_ok X G (c.fact 19 (f := .glo "_law_replica") rfl)
  have g__law_turn := He.glo_ok X G (c.fact 20 (f := .glo "_law_turn") rfl)
  have g_are_rings := He.glo_ok X G (c.fact 21 (f := .glo "are_rings") rfl)
  have g_check_rings := He.glo_ok X G (c.fact 22 (f := .glo "check_rings") rfl)
  have g_steps_behind := He.glo_ok X G (c.fact 23 (f := .glo "steps_behind") rfl)
  have g_room_from := He.glo_ok X G (c.fact 24 (f := .glo "room_from") rfl)
  have g_rooms_of := He.glo_ok X G (c.fact 25 (f := .glo "rooms_of") rfl)
  have g_rooms := He.glo_ok X G (c.fact 26 (f := .glo "rooms") rfl)
  have g_turned := He.glo_ok X G (c.fact 27 (f := .glo "turned") rfl)
  have g_touched := He.glo_ok X G (c.fact 28 (f := .glo "touched") rfl)
  have g_hang_together := He.glo_ok X G (c.fact 29 (f := .glo "hang_together") rfl)
  have g_plane := He.glo_ok X G (c.fact 30 (f := .glo "plane") rfl)
  have g__law_counted := He.glo_ok X G (c.fact 31 (f := .glo "_law_counted") rfl)
  have g__law_like := He.glo_ok X G (c.fact 32 (f := .glo "_law_like") rfl)
  have e := hfa.symm.trans (He.glo_ok X G (c.fact 33 (f := .glo "law") rfl))
  cases e
  have B : Blt mg := ⟨He.free_ok X G (c.fact 34 (f := .free "len") rfl), He.free_ok X G (c.fact 35 (f := .free "range") rfl), He.free_ok X G (c.fact 36 (f := .free "list") rfl), He.free_ok X G (c.fact 37 (f := .free "tuple") rfl), He.free_ok X G (c.fact 38 (f := .free "dict") rfl), He.free_ok X G (c.fact 39 (f := .free "int") rfl), He.free_ok X G (c.fact 40 (f := .free "str") rfl), He.free_ok X G (c.fact 41 (f := .free "bool") rfl), He.free_ok X G (c.fact 42 (f := .free "isinstance") rfl), He.free_ok X G (c.fact 43 (f := .free "all") rfl), He.free_ok X G (c.fact 44 (f := .free "zip") rfl), He.free_ok X G (c.fact 45 (f := .free "enumerate") rfl), He.free_ok X G (c.fact 46 (f := .free "min") rfl), He.free_ok X G (c.fact 47 (f := .free "max") rfl), He.free_ok X G (c.fact 48 (f := .free "set") rfl), He.free_ok X G (c.fact 49 (f := .free "sorted") rfl), He.free_ok X G (c.fact 50 (f := .free "sum") rfl)⟩
  have b := FunD.bindsA (ps := ["script"]) F_law fun _ _ _ _ _ _ us hl => match us, hl with | [_], _ => rfl
  refine ⟨v_law, fun s v => b s [v] rfl, fun base _ _ => ?_⟩
  have G__law_bag : Fn P w K mg base 1 "_law_bag" ["script"] (sp_bag K) := fn_mk (st := s__law_bag) F__law_bag g__law_bag (fun _ _ _ _ _ _ us hl => match us, hl with | [_], _ => rfl) (ok__law_bag (fun_of (st := s__law_bag) F__law_bag) B )
  have G__law_draw : Fn P w K mg base 1 "_law_draw" ["bag", "limit"] sp_draw := fn_mk (st := s__law_draw) F__law_draw g__law_draw (fun _ _ _ _ _ _ us hl => match us, hl with | [_, _], _ => rfl) (ok__law_draw (fun_of (st := s__law_draw) F__law_draw) B )
  have G__law_of : Fn P w K mg base 2 "_law_of" ["bag", "things"] sp_of := fn_mk (st := s__law_of) F__law_of g__law_of (fun _ _ _ _ _ _ us hl => match us, hl with | [_, _], _ => rfl) (ok__law_of (fun_of (st := s__law_of) F__law_of) B G__law_draw)
  have G__law_rooms : Fn P w K mg base 1 "_law_rooms" ["wheel"] sp_rooms := fn_mk (st := s__law_rooms) F__law_rooms g__law_rooms (fun _ _ _ _ _ _ us hl => match us, hl with | [_], _ => rfl) (ok__law_rooms (fun_of (st := s__law_rooms) F__law_rooms) B )
  have G__law_drawing : Fn P w K mg base 3 "_law_drawing" ["bag", "many", "more"] sp_drawing := fn_mk (st := s__law_drawing) F__law_drawing g__law_drawing (fun _ _ _ _ _ _ us hl => match us, hl with | [_, _, _], _ => rfl) (ok__law_drawing (fun_of (st := s__law_drawing) F__law_drawing) B G__law_draw G__law_of G__law_rooms)
  have G__law_mixed : Fn P w K mg base 2 "_law_mixed" ["bag", "things"] sp_mixed := fn_mk (st := s__law_mixed) F__law_mixed g__law_mixed (fun _ _ _ _ _ _ us hl => match us, hl with | [_, _], _ => rfl) (ok__law_mixed (fun_of (st := s__law_mixed) F__law_mixed) B G__law_draw)
  have G__law_titled : Fn P w K mg base 3 "_law_titled" ["bag", "wheel", "titles"] sp_titled := fn_mk (st := s__law_titled) F__law_titled g__law_titled (fun _ _ _ _ _ _ us hl => match us, hl with | [_, _, _], _ => rfl) (ok__law_titled (fun_of (st := s__law_titled) F__law_titled) B G__law_draw G__law_mixed)
  have G__law_strings : Fn P w K mg base 3 "_law_strings" ["bag", "titles"] sp_strings := fn_mk (st := s__law_strings) F__law_strings g__law_strings (fun _ _ _ _ _ _ us hl => match us, hl with | [_, _], _ => rfl) (ok__law_strings (fun_of (st := s__law_strings) F__law_strings) B G__law_draw G__law_of)
  have G__law_reserved : Fn P w K mg base 1 "_law_reserved" [] sp_reserved := fn_mk (st := s__law_reserved) F__law_reserved g__law_reserved (fun _ _ _ _ _ _ us hl => match us, hl with | [], _ => rfl) (ok__law_reserved (fun_of (st := s__law_reserved) F__law_reserved) B )
  have G__law_names : Fn P w K mg base 3 "_law_names" ["bag", "many"] sp_names := fn_mk (st := s__law_names) F__law_names g__law_names (fun _ _ _ _ _ _ us hl => match us, hl with | [_, _], _ => rfl) (ok__law_names (fun_of (st := s__law_names) F__law_names) B G__law_draw G__law_mixed G__law_reserved)
  have G__law_tie : Fn P w K mg base 1 "_law_tie" ["pairs", "i", "j"] sp_tie := fn_mk (st := s__law_tie) F__law_tie g__law_tie (fun _ _ _ _ _ _ us hl => match us, hl with | [_, _, _], _ => rfl) (ok__law_tie (fun_of (st := s__law_tie) F__law_tie) B )
  have G__law_loose : Fn P w K mg base 2 "_law_loose" ["bag", "count", "more"] sp_loose := fn_mk (st := s__law_loose) F__law_loose g__law_loose (fun _ _ _ _ _ _ us hl => match us, hl with | [_, _, _], _ => rfl) (ok__law_loose (fun_of (st := s__law_loose) F__law_loose) B G__law_draw G__law_tie)
  have G__law_several : Fn P w K mg base 3 "_law_several" ["bag"] sp_several := fn_mk (st := s__law_several) F__law_several g__law_several (fun _ _ _ _ _ _ us hl => match us, hl with | [_], _ => rfl) (ok__law_several (fun_of (st := s__law_several) F__law_several) B G__law_draw G__law_loose)
  have G__law_block : Fn P w K mg base 2 "_law_block" ["bag"] sp_block := fn_mk (st := s__law_block) F__law_block g__law_block (fun _ _ _ _ _ _ us hl => match us, hl with | [_], _ => rfl) (ok__law_block (fun_of (st := s__law_block) F__law_block) B G__law_draw G__law_tie)
  have G__law_glued : Fn P w K mg base 3 "_law_glued" ["bag", "most"] sp_glued := fn_mk (st := s__law_glued) F__law_glued g__law_glued (fun _ _ _ _ _ _ us hl => match us, hl with | [_, _], _ => rfl) (ok__law_glued (fun_of (st := s__law_glued) F__law_glued) B G__law_draw G__law_tie G__law_block)
  have G__law_pattern : Fn P w K mg base 4 "_law_pattern" ["bag"] sp_pattern := fn_mk (st := s__law_pattern) F__law_pattern g__law_pattern (fun _ _ _ _ _ _ us hl => match us, hl with | [_], _ => rfl) (ok__law_pattern (fun_of (st := s__law_pattern) F__law_pattern) B G__law_draw G__law_tie G__law_loose G__law_several G__law_glued)
  have G__law_beside : Fn P w K mg base 1 "_law_beside" ["own", "one"] sp_beside := fn_mk (st := s__law_beside) F__law_beside g__law_beside (fun _ _ _ _ _ _ us hl => match us, hl with | [_, _], _ => rfl) (ok__law_beside (fun_of (st := s__law_beside) F__law_beside) B )
  have G__law_wheel_of : Fn P w K mg base 3 "_law_wheel_of" ["bag", "own"] sp_wheel_of := fn_mk (st := s__law_wheel_of) F__law_wheel_of g__law_wheel_of (fun _ _ _ _ _ _ us hl => match us, hl with | [_, _], _ => rfl) (ok__law_wheel_of (fun_of (st := s__law_wheel_of) F__law_wheel_of) B G__law_mixed G__law_beside)
  have G__law_drawn : Fn P w K mg base 5 "_law_drawn" ["bag"] sp_drawn := fn_mk (st := s__law_drawn) F__law_drawn g__law_drawn (fun _ _ _ _ _ _ us hl => match us, hl with | [_], _ => rfl) (ok__law_drawn (fun_of (st := s__law_drawn) F__law_drawn) B G__law_draw G__law_of G__law_drawing G__law_titled G__law_strings G__law_names G__law_pattern G__law_wheel_of)
  have G__law_replica : Fn P w K mg base 1 "_law_replica" ["wheel"] sp_replica := fn_mk (st := s__law_replica) F__law_replica g__law_replica (fun _ _ _ _ _ _ us hl => match us, hl with | [_], _ => rfl) (ok__law_replica (fun_of (st := s__law_replica) F__law_replica) B )
  have G__law_turn : Fn P w K mg base 1 "_law_turn" ["wheel"] sp_law_turn := fn_mk (st := s__law_turn) F__law_turn g__law_turn (fun _ _ _ _ _ _ us hl => match us, hl with | [_], _ => rfl) (ok__law_turn (fun_of (st := s__law_turn) F__law_turn) B )
  have G_are_rings : Fn P w K mg base 1 "are_rings" ["rings"] sp_are_rings := fn_mk (st := s_are_rings) F_are_rings g_are_rings (fun _ _ _ _ _ _ us hl => match us, hl with | [_], _ => rfl) (ok_are_rings (fun_of (st := s_are_rings) F_are_rings) B )
  have G_check_rings : Fn P w K mg base 2 "check_rings" ["rings"] sp_check_rings := fn_mk (st := s_check_rings) F_check_rings g_check_rings (fun _ _ _ _ _ _ us hl => match us, hl with | [_], _ => rfl) (ok_check_rings (fun_of (st := s_check_rings) F_check_rings) B G_are_rings)
  have G_steps_behind : Fn P w K mg base 1 "steps_behind" ["rings"] sp_steps_behind := fn_mk (st := s_steps_behind) F_steps_behind g_steps_behind (fun _ _ _ _ _ _ us hl => match us, hl with | [_], _ => rfl) (ok_steps_behind (fun_of (st := s_steps_behind) F_steps_behind) B )
  have G_room_from : Fn P w K mg base 1 "room_from" ["behind", "first"] sp_room_from := fn_mk (st := s_room_from) F_room_from g_room_from (fun _ _ _ _ _ _ us hl => match us, hl with | [_, _], _ => rfl) (ok_room_from (fun_of (st := s_room_from) F_room_from) B )
  have G_rooms_of : Fn P w K mg base 2 "rooms_of" ["rings"] sp_rooms_of := fn_mk (st := s_rooms_of) F_rooms_of g_rooms_of (fun _ _ _ _ _ _ us hl => match us, hl with | [_], _ => rfl) (ok_rooms_of (fun_of (st := s_rooms_of) F_rooms_of) B G_steps_behind G_room_from)
  have G_rooms : Fn P w K mg base 3 "rooms" ["rings"] sp_rooms_of := fn_mk (st := s_rooms) F_rooms g_rooms (fun _ _ _ _ _ _ us hl => match us, hl with | [_], _ => rfl) (ok_rooms (fun_of (st := s_rooms) F_rooms) B G_check_rings G_rooms_of)
  have G_turned : Fn P w K mg base 3 "turned" ["rings"] sp_turned := fn_mk (st := s_turned) F_turned g_turned (fun _ _ _ _ _ _ us hl => match us, hl with | [_], _ => rfl) (ok_turned (fun_of (st := s_turned) F_turned) B G_check_rings)
  have GK_turned : FnK P w K mg base 3 "turned" ["rings"] sp_turned := fnk_mk (st := s_turned) F_turned g_turned (fun _ _ _ _ _ _ us hl => match us, hl with | [_], _ => rfl) (ok_turned (fun_of (st := s_turned) F_turned) B G_check_rings)
  have G_touched : Fn P w K mg base 1 "touched" ["room"] sp_touched := fn_mk (st := s_touched) F_touched g_touched (fun _ _ _ _ _ _ us hl => match us, hl with | [_], _ => rfl) (ok_touched (fun_of (st := s_touched) F_touched) B )
  have G_hang_together : Fn P w K mg base 1 "hang_together" ["rings"] sp_hang := fn_mk (st := s_hang_together) F_hang_together g_hang_together (fun _ _ _ _ _ _ us hl => match us, hl with | [_], _ => rfl) (ok_hang_together (fun_of (st := s_hang_together) F_hang_together) B )
  have G_plane : Fn P w K mg base 3 "plane" ["rings"] sp_plane := fn_mk (st := s_plane) F_plane g_plane (fun _ _ _ _ _ _ us hl => match us, hl with | [_], _ => rfl) (ok_plane (fun_of (st := s_plane) F_plane) B G_check_rings G_hang_together G_rooms_of)
  have G__law_counted : Fn P w K mg base 2 "_law_counted" ["wheel"] sp_counted := fn_mk (st := s__law_counted) F__law_counted g__law_counted (fun _ _ _ _ _ _ us hl => match us, hl with | [_], _ => rfl) (ok__law_counted (fun_of (st := s__law_counted) F__law_counted) B G__law_rooms)
  have Z0 : Fn P w K mg base 1 "_law_like" ["told", "due"] (fun _ _ _ _ => False) := fn_mk (st := s__law_like) F__law_like g__law_like (fun _ _ _ _ _ _ us hl => match us, hl with | [_, _], _ => rfl) ok_false
  have Z1 : Fn P w K mg base 2 "_law_like" ["told", "due"] (sp_like 0) := fn_mk (st := s__law_like) F__law_like g__law_like (fun _ _ _ _ _ _ us hl => match us, hl with | [_, _], _ => rfl) (ok__law_like_step (n := 0) (k := 1) (fun_of (st := s__law_like) F__law_like) B _ (fun m e => by cases e) Z0)
  have Z2 : Fn P w K mg base 3 "_law_like" ["told", "due"] (sp_like 1) := fn_mk (st := s__law_like) F__law_like g__law_like (fun _ _ _ _ _ _ us hl => match us, hl with | [_, _], _ => rfl) (ok__law_like_step (n := 1) (k := 2) (fun_of (st := s__law_like) F__law_like) B _ (fun m e => by cases e; rfl) Z1)
  have Z3 : Fn P w K mg base 4 "_law_like" ["told", "due"] (sp_like 2) := fn_mk (st := s__law_like) F__law_like g__law_like (fun _ _ _ _ _ _ us hl => match us, hl with | [_, _], _ => rfl) (ok__law_like_step (n := 2) (k := 3) (fun_of (st := s__law_like) F__law_like) B _ (fun m e => by cases e; rfl) Z2)
  have Z4 : Fn P w K mg base 5 "_law_like" ["told", "due"] (sp_like 3) := fn_mk (st := s__law_like) F__law_like g__law_like (fun _ _ _ _ _ _ us hl => match us, hl with | [_, _], _ => rfl) (ok__law_like_step (n := 3) (k := 4) (fun_of (st := s__law_like) F__law_like) B _ (fun m e => by cases e; rfl) Z3)
  have ZX : Fn P w K mg base 5 "_law_like" ["told", "due"] sp_likeX := fn_mk (st := s__law_like) F__law_like g__law_like (fun _ _ _ _ _ _ us hl => match us, hl with | [_, _], _ => rfl) (ok_or (ok__law_like_step (n := 3) (k := 4) (fun_of (st := s__law_like) F__law_like) B _ (fun m e => by cases e; rfl) Z3) (ok__law_like_dict (n := 1) (k := 4) (fun_of (st := s__law_like) F__law_like) B Z3))
  exact (ok_law (fun_of (st := s_law) F_law) B G__law_bag G__law_drawn G__law_rooms G__law_replica G__law_turn G_rooms G_turned GK_turned G_touched G_plane G__law_counted ZX)
end Y
open PySem PySem.W PySem.Calls PyProof.Rows Y
set_option maxHeartbeats 0 in
theorem PySem.Challenge.cw_wayleft_k37_turned_over_holds : PySem.Challenge.rw_wayleft_k37_turned_over.Holds := by
  w_on; o_law
  refine HandSHeadRun.head_any (r := PySem.W.OpenLaw.row PySem.Challenge.rw_wayleft_k37_turned_over) (q := PySem.W.view (PySem.W.OpenLaw.row PySem.Challenge.rw_wayleft_k37_turned_over).prog [38]) (H := hkL) (ob := obL) (M := 20000) (loose := nmL) (d := HandSHeadRun.topDef (PySem.W.OpenLaw.row PySem.Challenge.rw_wayleft_k37_turned_over).prog 38) (kwd := []) obL_eq
    (by kernel_rfl) (fun s => by kernel_rfl) runL (by kernel_rfl) (by kernel_rfl) (by kernel_rfl) (by rfl) (by first | assumption | decide +kernel) (by decide +kernel) ⟨rfl, rfl, rfl, rfl, rfl, by decide +kernel⟩ ?hw ?hc
  case hw => w_witness2
  case hc =>
    refine L2.walk_ofE (l := PySem.Challenge.rw_wayleft_k37_turned_over) (n := 63) (k := 6) (x := "script") (CX := L2.CX0) rfl (by decide) (by kernel_rfl) ⟨rfl, by decide, by decide⟩ ?F (fun _ _ _ _ z => z)
    intro w mg fa h YY GG hmg0
    obtain ⟨K, KX, c⟩ := YY
    have hmg : mg ("law" : PySem.Str) = some (.ref fa) := by
      have e : (HandSHeadRun.topDef (PySem.W.OpenLaw.row PySem.Challenge.rw_wayleft_k37_turned_over).prog 38).name = ("law" : PySem.Str) := by kernel_rfl
      rw [← e]
      exact hmg0
    obtain ⟨fd, hb, hF⟩ := factsL (P := (PySem.Challenge.rw_wayleft_k37_turned_over).prog) (w := w) KX GG hmg c
    exact ⟨K, fd, _, KX, hb, fun H a ns hl _ hS => ⟨a, ns, rfl, hS, hl, fun _ => rfl⟩, hF⟩
