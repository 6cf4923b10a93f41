import PyProof.Rows.All
import Wide.All
import OpenK.AllK
import Wide.FinOn
import HandS.ForMost
import HandS.ForExc
import HandS.IsInst
import HandS.TupAny
import HandS.CallSlots
import HandS.Deep
import HandS.TupLen
import HandS.SetKeys
import HandS.SortKw
import HandS.Rev
import HandS.RevRange
import KE.KDictPairs
import PyProof.Rows.SortShellAny
import HandS.Style
import HandS.Strs
import HandS.Conv
import HandS.HotCalls
import HandS.ExcIs
import HandS.Finally
import KE.DataMinMax
import KE.SortKeyHeap
import KE.SortData
import PyProof.Rows.StrMul
import PySem.Challenge.RW_fieldrest_k04_kinds_that_fit
set_option Elab.async false
set_option linter.all false
set_option maxRecDepth 100000
set_option maxHeartbeats 4000000
/-! PM: functions over plain data that mirror Python code. Part 1: data, stores, results, combinators. -/
namespace PM
open PySem L2

/-- plain data: atoms, tuples, lists and dicts that nobody changes any more, and the numbers of objects that may change -/
inductive D where
  | non | bl (b : Bool) | int (i : Int) | str (s : Str)
  | tup (ds : List D) | lst (ds : List D) | scr (ds : List D) | dct (ks : List Key) (ds : List D) | ref (n : Nat) | exn (a : Addr)
  deriving Inhabited

/-- an object that may change -/
inductive MO where
  | lst (ds : List D) | dK (ks : List Key) (ds : List D) | dKL (ks : List Key) (ds : List D) | dT (ks : List (List Key)) (ds : List D) | ins (c : Str) (fs : List Str) (ds : List D)
  deriving Inhabited
abbrev Sto := List MO
structure Exc where
  cls : Str
  fs : List Str
  ds : List D
abbrev Loc := List (Option D)

inductive R (α : Type) where
  | ok (a : α) (S : Sto) | exc (c : Exc) (S : Sto) | stuck
def R.bind {α β : Type} (r : R α) (k : α → Sto → R β) : R β := match r with
  | .ok a S => k a S
  | .exc c S => .exc c S
  | .stuck => .stuck
@[simp] theorem R.bind_ok {α β : Type} {a : α} {S : Sto} {k : α → Sto → R β} : (R.ok a S).bind k = k a S := (rfl)
@[simp] theorem R.bind_exc {α β : Type} {c : Exc} {S : Sto} {k : α → Sto → R β} : (R.exc c S : R α).bind k = .exc c S := (rfl)
@[simp] theorem R.bind_stuck {α β : Type} {k : α → Sto → R β} : (R.stuck : R α).bind k = .stuck := (rfl)

abbrev Em := Loc → Sto → R D
abbrev Tm := Loc → Sto → R Bool
abbrev Am := Loc → Sto → R (List D)

/-- how a statement ends -/
inductive RS where
  | nx (δ : Loc) (S : Sto) | rt (d : D) (S : Sto) | bk (δ : Loc) (S : Sto) | ct (δ : Loc) (S : Sto) | exc (c : Exc) (δ : Loc) (S : Sto) | stuck
abbrev Sm := Loc → Sto → RS
def RS.seq (r : RS) (k : Sm) : RS := match r with
  | .nx δ S => k δ S
  | r => r
@[simp] theorem RS.seq_nx {δ S k} : (RS.nx δ S).seq k = k δ S := (rfl)
@[simp] theorem RS.seq_rt {d S k} : (RS.rt d S).seq k = .rt d S := (rfl)
@[simp] theorem RS.seq_bk {δ S k} : (RS.bk δ S).seq k = .bk δ S := (rfl)
@[simp] theorem RS.seq_ct {δ S k} : (RS.ct δ S).seq k = .ct δ S := (rfl)
@[simp] theorem RS.seq_exc {c δ S k} : (RS.exc c δ S).seq k = .exc c δ S := (rfl)
@[simp] theorem RS.seq_stuck {k} : RS.stuck.seq k = .stuck := (rfl)
/-- an expression's result goes on as a statement -/
def R.into {α : Type} (r : R α) (δ : Loc) (k : α → Sto → RS) : RS := match r with
  | .ok a S => k a S
  | .exc c S => .exc c δ S
  | .stuck => .stuck
@[simp] theorem R.into_ok {α : Type} {a : α} {S δ} {k : α → Sto → RS} : (R.ok a S).into δ k = k a S := (rfl)
@[simp] theorem R.into_exc {α : Type} {c S δ} {k : α → Sto → RS} : (R.exc c S : R α).into δ k = .exc c δ S := (rfl)
@[simp] theorem R.into_stuck {α : Type} {δ} {k : α → Sto → RS} : (R.stuck : R α).into δ k = .stuck := (rfl)

/-- an exception is not looked for here -/
def R.quiet {α : Type} (r : R α) : R α := match r with
  | .exc _ _ => .stuck
  | r => r
@[simp] theorem R.quiet_ok {α : Type} {a : α} {S : Sto} : (R.ok a S).quiet = .ok a S := (rfl)
@[simp] theorem R.quiet_exc {α : Type} {c : Exc} {S : Sto} : (R.exc c S : R α).quiet = .stuck := (rfl)
@[simp] theorem R.quiet_stuck {α : Type} : (R.stuck : R α).quiet = .stuck := (rfl)
/-! ### expressions -/
def mV (i : Nat) : Em := fun δ S => match δ[i]? with
  | some (some d) => .ok d S
  | _ => .stuck
def mC (d : D) : Em := fun _ S => .ok d S
def mB (op : D → D → Sto → R D) (a b : Em) : Em := fun δ S => (a δ S).bind fun x S1 => (b δ S1).bind fun y S2 => op x y S2
def mU (op : D → Sto → R D) (a : Em) : Em := fun δ S => (a δ S).bind fun x S1 => op x S1
def mNil : Am := fun _ S => .ok [] S
def mCons (a : Em) (r : Am) : Am := fun δ S => (a δ S).bind fun x S1 => (r δ S1).bind fun xs S2 => .ok (x :: xs) S2
def mApp (f : List D → Sto → R D) (a : Am) : Em := fun δ S => (a δ S).bind fun xs S1 => f xs S1
def mIfE (c : Tm) (a b : Em) : Em := fun δ S => (c δ S).bind fun k S1 => if k = true then a δ S1 else b δ S1
/-- and, or of truths -/
def mAndV (a b : Em) : Em := fun δ S => (a δ S).bind fun x S1 => match x with
  | .bl true => b δ S1
  | .bl false => .ok (.bl false) S1
  | _ => .stuck
def mOrV (a b : Em) : Em := fun δ S => (a δ S).bind fun x S1 => match x with
  | .bl true => .ok (.bl true) S1
  | .bl false => b δ S1
  | _ => .stuck
def mNotV (a : Em) : Em := fun δ S => (a δ S).bind fun x S1 => match x with
  | .bl k => .ok (.bl (!k)) S1
  | _ => .stuck
def mChain (f g : D → D → Sto → R D) (a b c : Em) : Em := fun δ S => (a δ S).bind fun x S1 => (b δ S1).bind fun y S2 => (f x y S2).bind fun k S3 => match k with
  | .bl true => (c δ S3).bind fun z S4 => g y z S4
  | .bl false => .ok (.bl false) S3
  | _ => .stuck
/-! ### tests -/
def mT (a : Em) : Tm := fun δ S => (a δ S).bind fun x S1 => match x with
  | .bl k => .ok k S1
  | _ => .stuck
def mAnd (a b : Tm) : Tm := fun δ S => (a δ S).bind fun k S1 => if k = true then b δ S1 else .ok false S1
def mOr (a b : Tm) : Tm := fun δ S => (a δ S).bind fun k S1 => if k = true then .ok true S1 else b δ S1
def mNot (a : Tm) : Tm := fun δ S => (a δ S).bind fun k S1 => .ok (!k) S1
def mYes : Tm := fun _ S => .ok true S
/-! ### statements -/
def sSeq (a b : Sm) : Sm := fun δ S => (a δ S).seq b
def sPass : Sm := fun δ S => .nx δ S
def sExpr (e : Em) : Sm := fun δ S => (e δ S).into δ fun _ S1 => .nx δ S1
def sRet (e : Em) : Sm := fun δ S => (e δ S).into δ fun d S1 => .rt d S1
def sRetN : Sm := fun _ S => .rt .non S
def sIf (c : Tm) (a b : Sm) : Sm := fun δ S => (c δ S).into δ fun k S1 => if k = true then a δ S1 else b δ S1
def sBk : Sm := fun δ S => .bk δ S
def sCt : Sm := fun δ S => .ct δ S
/-! ### targets -/
abbrev Gm := D → Loc → Sto → R Loc
def gmName (i : Nat) : Gm := fun d δ S => .ok (δ.set i (some d)) S
def gmNames : List Nat → List D → Loc → Sto → R Loc
  | [], [], δ, S => .ok δ S
  | i :: is, d :: ds, δ, S => gmNames is ds (δ.set i (some d)) S
  | _, _, _, _ => .stuck
def gmTup (is : List Nat) : Gm := fun d δ S => match d with
  | .tup ds => gmNames is ds δ S
  | _ => .stuck
def sAsg (e : Em) (g : Gm) : Sm := fun δ S => (e δ S).into δ fun d S1 => (g d δ S1).into δ fun δ' S2 => .nx δ' S2
def gmSub (o i : Em) (f : D → D → D → Sto → R Unit) : Gm := fun d δ S => (o δ S).bind fun x S1 => (i δ S1).bind fun y S2 => (f x y d S2).bind fun _ S3 => .ok δ S3
/-! ### loops -/
/-- what is walked: the items, and what must stand at each turn -/
abbrev Src := Loc → Sto → R (List D × (Sto → Prop))
open Classical in
noncomputable def loopM (grd : Sto → Prop) (b : D → Sm) : List D → Sm
  | [], δ, S => if grd S then .nx δ S else .stuck
  | x :: xs, δ, S => if grd S then (match b x δ S with
    | .nx δ' S' => loopM grd b xs δ' S'
    | .ct δ' S' => loopM grd b xs δ' S'
    | .bk δ' S' => .nx δ' S'
    | r => r) else .stuck
/-- a list that nobody changes, a tuple, a list that the loop leaves -/
def sItems (e : Em) : Src := fun δ S => (e δ S).bind fun d S1 => match d with
  | .lst ds => .ok (ds, fun _ => True) S1
  | .scr ds => .ok (ds, fun _ => True) S1
  | .tup ds => .ok (ds, fun _ => True) S1
  | .str s => .ok (s.cps.toList.map (fun c => .str ⟨#[c]⟩), fun _ => True) S1
  | .ref n => match S1[n]? with
    | some (.lst ds) => .ok (ds, fun S => S[n]? = some (.lst ds)) S1
    | _ => .stuck
  | _ => .stuck
def rangeD (lo : Int) (n : Nat) : List D := (List.range n).map fun i => .int (lo + (i : Nat))
def lim62 (i : Int) : Bool := decide (-(2 ^ 62) ≤ i ∧ i < 2 ^ 62)
def limR (i j : Int) : Bool := lim62 i && lim62 j && decide (j - i ≤ (sizeLine : Nat))
def sRange1 (e : Em) : Src := fun δ S => (e δ S).bind fun d S1 => match d with
  | .int j => if limR 0 j = true then .ok (rangeD 0 j.toNat, fun _ => True) S1 else .stuck
  | _ => .stuck
def sRange2 (a e : Em) : Src := fun δ S => (a δ S).bind fun x S1 => (e δ S1).bind fun y S2 => match x, y with
  | .int i, .int j => if limR i j = true then .ok (rangeD i (j - i).toNat, fun _ => True) S2 else .stuck
  | _, _ => .stuck
/-- range(len(e)) -/
def lenOf (d : D) (S : Sto) : Option Nat := match d with
  | .lst ds => some ds.length
  | .scr ds => some ds.length
  | .tup ds => some ds.length
  | .str s => some s.length
  | .dct ks _ => some ks.length
  | .ref n => match S[n]? with
    | some (.lst ds) => some ds.length
    | some (.dK ks _) => some ks.length
    | some (.dKL ks _) => some ks.length
    | some (.dT ks _) => some ks.length
    | _ => none
  | _ => none
def sRangeLen (e : Em) : Src := fun δ S => (e δ S).bind fun d S1 => match lenOf d S1 with
  | some n => .ok (rangeD 0 n, fun _ => True) S1
  | none => .stuck
noncomputable def sFor (src : Src) (g : Gm) (b : Sm) : Sm := fun δ S => (src δ S).into δ fun p S1 => loopM p.2 (fun x δ S => (g x δ S).into δ b) p.1 δ S1
/-- a comprehension's loop: slots vs forgotten at each turn -/
def wipeD (δ : Loc) : List Nat → Loc
  | [] => δ
  | v :: vs => (wipeD δ vs).set v none
open Classical in
noncomputable def compM (grd : Sto → Prop) (g : Gm) (t : Tm) (e : Em) (δ : Loc) : List D → List D → Sto → R D
  | acc, [], S => if grd S then .ok (.lst acc) S else .stuck
  | acc, x :: xs, S => if grd S then (g x δ S).quiet.bind fun δ' S1 => (t δ' S1).quiet.bind fun k S2 =>
      if k = true then (e δ' S2).quiet.bind fun y S3 => compM grd g t e δ (acc ++ [y]) xs S3 else compM grd g t e δ acc xs S2 else .stuck
noncomputable def mComp (src : Src) (g : Gm) (t : Tm) (e : Em) (vs : List Nat) : Em := fun δ S => (src δ S).bind fun p S1 => compM p.2 g t e (wipeD δ vs) [] p.1 S1
end PM

/-! PM, part 1b: tuples made with all that is known of their objects -/
namespace PM
open PySem PySem.Spec L2 PyProof.Rows
/-- a tuple of whose object all is known, and that has no dict -/
def Tp (H : Hp) (a : Addr) (vs : List V) : Prop := ∃ o, H a = some (.frz o (.tup vs)) ∧ o.dict = none
theorem Tp.sq {K : PySem.W.Frag} {H : Hp} {a : Addr} {vs : List V} (h : Tp H a vs) : SqT K H a vs := let ⟨o, h, _⟩ := h; .inl (.inr ⟨o, h⟩)
theorem Tp.keep {H : Hp} {a p : Addr} {u : HO} {vs : List V} (h : Tp H a vs) (hp : a ≠ p) : Tp (upd H p u) a vs := let ⟨o, h, d⟩ := h; ⟨o, by rw [upd_ne hp]; exact h, d⟩
theorem Tp.up {H : Hp} {a p : Addr} {u : HO} {vs : List V} (h : Tp H a vs) (hp : H p = none) : Tp (upd H p u) a vs := h.keep (let ⟨_, h, _⟩ := h; ne_of_none h hp)
theorem Tp.mk {H : Hp} {p : Addr} {o : Obj} {vs : List V} (d : o.dict = none) : Tp (upd H p (.frz o (.tup vs))) p vs := ⟨o, upd_same, d⟩
/-- what a new one gives -/
def NewT (H : Hp) (vs : List V) (Q : VK) : Prop := ∀ p o, o.dict = none → H p = none → Q (.ref p) (upd H p (.frz o (.tup vs)))
def tTupF (t : TA) : TE := fun σ H Q => t σ H fun vs H1 => vs.length ≤ sizeLine ∧ NewT H1 vs Q
section
variable {X : Cx} {es : List Expr} {t : TA} {pos : Pos}
theorem pe_tupF {x1} (h : PA X es t) : PE X (.Tuple es x1 pos) (tTupF t) := .mk fun pins s σ H Q I hq =>
  wpAny_Tuple_spliced (thn (h.run pos pins s σ H _ I hq) fun us s1 ⟨vs, H1, I1, r, z, q⟩ => ⟨by rw [← r.length]; exact z,
    .ref s1.heap.objs.size, _, I1.laid (t' := s1.toks) (o := .frz { cls := .type "tuple", data := .seq us.toArray } (.tup vs)) (fun b u e => Heap.get?_push_of_some _ e) (Nat.le_refl _)
      ⟨Heap.get?_push_size _ rfl, z, us, r, ⟨_, Heap.get?_push_size _ rfl, rfl, _, rfl⟩⟩, rfl, q _ _ rfl (I1.hok.fresh (Nat.le_refl _))⟩)
def rCatF (K : PySem.W.Frag) : R2 := fun x y H Q => ∃ a b vs ws, x = .ref a ∧ y = .ref b ∧ SqT K H a vs ∧ SqT K H b ws ∧ vs.length + ws.length ≤ sizeLine ∧
  (vs = [] → Q (.ref b) H) ∧ (vs ≠ [] → ws = [] → Q (.ref a) H) ∧ (vs ≠ [] → ws ≠ [] → NewT H (vs ++ ws) Q)
theorem op_catF : OpR X (binaryOp .Add) (rCatF X.K) := by
  intro pins s σ H x y v u Q I rx ry ⟨a, b, vs, ws, e1, e2, ha, hb, hz, q0, q1, q2⟩
  subst e1 e2
  cases rx
  cases ry
  obtain ⟨is, r1, p1, _⟩ := I.tuple ha
  obtain ⟨js, r2, p2, _⟩ := I.tuple hb
  by_cases hx : vs = []
  · subst hx
    cases r1
    exact cat_tup0 p1 p2 ⟨.ref b, H, I, rfl, q0 rfl⟩
  · refine HT.cat_tup p1 p2 (fun z => hx (r1.nil_iff.mp z)) (fun z => ⟨.ref a, H, I, rfl, q1 hx (r2.nil_iff.mp z)⟩) (fun z => ?_) (by rw [← r1.length, ← r2.length]; exact hz)
    exact ⟨.ref s.heap.objs.size, _, I.laid (t' := s.toks) (o := .frz { cls := .type "tuple", data := .seq (is ++ js).toArray } (.tup (vs ++ ws))) (fun b ob q => Heap.get?_push_of_some _ q) (Nat.le_refl _)
      ⟨Heap.get?_push_size _ rfl, by rw [List.length_append]; exact hz, _, r1.append r2, IsTup.new _ _⟩, rfl, q2 hx (fun w => z (r2.nil_iff.mpr w)) _ _ rfl (I.hok.fresh (Nat.le_refl _))⟩
def rSlF (K : PySem.W.Frag) : V → Option Int → Option Int → Hp → VK → Prop := fun x lo hi H Q => ∃ a vs, x = .ref a ∧ SqT K H a vs ∧
  (HT.sIx vs.length 0 lo = 0 ∧ HT.sIx vs.length vs.length hi = vs.length → Q (.ref a) H) ∧ (¬ (HT.sIx vs.length 0 lo = 0 ∧ HT.sIx vs.length vs.length hi = vs.length) → NewT H (cutV vs lo hi) Q)
theorem sl_tupF : SlR X (rSlF X.K) := by
  intro pins s σ H x v vl vu lo hi sl Q I rx hs pl pu ⟨a, vs, e, hx, q1, q2⟩
  subst e
  by_cases hw : HT.sIx vs.length 0 lo = 0 ∧ HT.sIx vs.length vs.length hi = vs.length
  · exact sl_tupA pins s σ H _ v vl vu lo hi sl Q I rx hs pl pu ⟨a, vs, rfl, hx, q1, fun w => absurd hw w⟩
  · cases rx
    obtain ⟨is, r, ht, hz⟩ := I.tuple hx
    have hlen : is.toArray.size = vs.length := by rw [List.size_toArray]; exact r.length.symm
    refine ⟨"tuple", _, PyProof.Rows.slot_tuple_getitem.lookup, ht.typeIs, HT.getItem_tuple_cut ht hs pl pu (by rw [hlen]; exact hw) ?_ (by rw [hlen]; exact hz)⟩
    rw [hlen]
    exact ⟨.ref s.heap.objs.size, _, I.laid (t' := s.toks) (o := .frz { cls := .type "tuple", data := .seq ((is.drop (HT.sIx vs.length 0 lo)).take (HT.sIx vs.length vs.length hi - HT.sIx vs.length 0 lo)).toArray } (.tup (cutV vs lo hi))) (fun b ob q => Heap.get?_push_of_some _ q) (Nat.le_refl _)
      ⟨Heap.get?_push_size _ rfl, Nat.le_trans (cutV_length vs lo hi) hz, _, (r.drop (HT.sIx vs.length 0 lo)).take (HT.sIx vs.length vs.length hi - HT.sIx vs.length 0 lo), IsTup.new _ _⟩, rfl, q2 hw _ _ rfl (I.hok.fresh (Nat.le_refl _))⟩
theorem call_tupleF : CallR X (.type "tuple") (fun xs H Q => ∃ p vs, xs = [.ref p] ∧ ((SqL X.K H p vs ∧ NewT H vs Q) ∨ (SqT X.K H p vs ∧ Q (.ref p) H))) := by
  intro pins s σ H xs us Q I r ⟨p, vs, e, h⟩
  subst e
  obtain ⟨u, e, rx⟩ := vals1 r
  subst e
  cases rx
  rcases h with ⟨hq, q⟩ | ⟨hq, q⟩
  · obtain ⟨is, r', pl, hz⟩ := I.list hq
    have hlen := r'.length
    refine call_tuple_list pl.isList (fun h' kp => ?_) (by simp only [List.size_toArray] <;> omega)
    have I1 : Inv X pins σ H { s with heap := h' } := I.kept (t' := s.toks) kp
    exact ⟨.ref h'.objs.size, _, I1.laid (t' := s.toks) (o := .frz { cls := .type "tuple", data := .seq is.toArray } (.tup vs)) (fun b o e => Heap.get?_push_of_some _ e) (Nat.le_refl _)
      ⟨Heap.get?_push_size _ rfl, hz, is, r', IsTup.new _ _⟩, rfl, q _ _ rfl (I1.hok.fresh (Nat.le_refl _))⟩
  · obtain ⟨is, r', pl, hz⟩ := I.tuple hq
    exact call_tuple_same pl ⟨.ref p, H, I, rfl, q⟩
end
end PM

/-! PM, part 2: how data stand in the abstract heap -/
namespace PM
open PySem L2
/-- the addresses of the numbered objects; those that no data may hold meanwhile -/
structure Z where
  a : List Addr
  b : List Addr
  k : PySem.W.Frag
structure EnvK where
  m : Str → Option Value
  K : PySem.W.Frag
/-- an object of the written part -/
def KL (K : PySem.W.Frag) (a : Addr) (xs : List V) : Prop := ∃ (o : Obj) (its : Array Value) (n : Nat), K.lookup a = some o ∧ o.cls = .type "list" ∧ o.dict = none ∧ o.data = .seq its n ∧ its.size ≤ sizeLine ∧ Vals xs its.toList
def Mk (u : HO) : Prop := (∀ o xs, u ≠ .frz o (.tup xs)) ∧ ∀ o x, u ≠ .frz o x
def Z.no (z : Z) (x : Addr) : Prop := x ∉ z.a ∧ x ∉ z.b
section
variable (H : Hp) (ι : Z)
mutual
def RD : D → V → Prop
  | .non, v => v = .non
  | .bl b, v => v = .bl b
  | .int i, v => v = .int i
  | .str s, v => v = .str s ∧ s.length ≤ sizeLine
  | .tup ds, v => ∃ a vs, v = .ref a ∧ Tp H a vs ∧ ds.length ≤ sizeLine ∧ RDs ds vs
  | .lst ds, v => ∃ a vs, v = .ref a ∧ H a = some (.lst vs) ∧ ι.no a ∧ ds.length ≤ sizeLine ∧ RDs ds vs
  | .scr ds, v => ∃ a vs, v = .ref a ∧ ((∃ o, H a = some (.frz o (.lst vs))) ∨ KL ι.k a vs) ∧ ds.length ≤ sizeLine ∧ RDs ds vs
  | .dct ks ds, v => ∃ a vs, v = .ref a ∧ Rd H a (.dK (ks.zip vs)) ∧ ι.no a ∧ ks.length = ds.length ∧ ks.length ≤ sizeLine ∧ RDs ds vs
  | .ref n, v => ∃ a, v = .ref a ∧ ι.a[n]? = some a
  | .exn a, v => v = .ref a
def RDs : List D → List V → Prop
  | [], vs => vs = []
  | d :: ds, vs => ∃ v r, vs = v :: r ∧ RD d v ∧ RDs ds r
end
variable (mg : EnvK)
def RO (a : Addr) : MO → Prop
  | .lst ds => ∃ vs, H a = some (.lst vs) ∧ ds.length ≤ sizeLine ∧ RDs H ι ds vs
  | .dK ks ds => ∃ vs, H a = some (.dK (ks.zip vs)) ∧ ks.length = ds.length ∧ ks.length ≤ sizeLine ∧ RDs H ι ds vs
  | .dKL ks ds => ∃ o vs, H a = some (.frz o (.dK (ks.zip vs))) ∧ ks.length = ds.length ∧ ks.length ≤ sizeLine ∧ RDs H ι ds vs
  | .dT ks ds => ∃ vs, H a = some (.dT (ks.zip vs)) ∧ ks.length = ds.length ∧ ks.length ≤ sizeLine ∧ RDs H ι ds vs
  | .ins c fs ds => ∃ C dx vs, mg.m c = some (.ref C) ∧ H a = some (.ins C dx (fs.zip vs)) ∧ fs.length = ds.length ∧ RDs H ι ds vs
structure Rep (S : Sto) : Prop where
  kk : ι.k = mg.K
  len : ι.a.length = S.length
  nd : ι.a.Nodup
  bt : ∀ x ∈ ι.b, x ∉ ι.a ∧ ∃ o, H x = some o ∧ Mk o
  obj : ∀ (n : Nat) (a : Addr) (o : MO), ι.a[n]? = some a → S[n]? = some o → RO H ι mg a o
def RX (c : Exc) (cls : Value) (dx : Option Addr) : Prop :=
  (∃ C, mg.m c.cls = some (.ref C) ∧ cls = .ref C) ∧ ((c.fs = [] ∧ c.ds = [] ∧ dx = none) ∨ c.fs ≠ [] ∧ ∃ d vs, dx = some d ∧ H d = some (.xd (c.fs.zip vs)) ∧ c.fs.length = c.ds.length ∧ RDs H ι c.ds vs)
structure RSt (δ : Loc) (σ : St) : Prop where
  len : δ.length = σ.length
  at' : ∀ (i : Nat) (d : D), δ[i]? = some (some d) → ∃ v, σ[i]? = some (some v) ∧ RD H ι d v
end

structure Lift (ι : Z) (H : Hp) (ι' : Z) (H' : Hp) : Prop where
  pre : ∀ (n : Nat) (a : Addr), ι.a[n]? = some a → ι'.a[n]? = some a
  tup : ∀ a xs, Tp H a xs → Tp H' a xs
  lst : ∀ a xs, ι.no a → H a = some (.lst xs) → H' a = some (.lst xs) ∧ ι'.no a
  scr : ∀ a o xs, H a = some (.frz o (.lst xs)) → H' a = some (.frz o (.lst xs))
  dct : ∀ a xs, ι.no a → Rd H a (.dK xs) → Rd H' a (.dK xs) ∧ ι'.no a
  kk : ι'.k = ι.k
  frz : ∀ a o u, H a = some (.frz o u) → H' a = some (.frz o u)
/-- the same, but for what is locked -/
structure L0 (ι : Z) (H : Hp) (ι' : Z) (H' : Hp) : Prop where
  pre : ∀ (n : Nat) (a : Addr), ι.a[n]? = some a → ι'.a[n]? = some a
  tup : ∀ a xs, Tp H a xs → Tp H' a xs
  lst : ∀ a xs, ι.no a → H a = some (.lst xs) → H' a = some (.lst xs) ∧ ι'.no a
  scr : ∀ a o xs, H a = some (.frz o (.lst xs)) → H' a = some (.frz o (.lst xs))
  dct : ∀ a xs, ι.no a → Rd H a (.dK xs) → Rd H' a (.dK xs) ∧ ι'.no a
  kk : ι'.k = ι.k
theorem Lift.l0 {ι H ι' H'} (s : Lift ι H ι' H') : L0 ι H ι' H' := ⟨s.pre, s.tup, s.lst, s.scr, s.dct, s.kk⟩
theorem Lift.refl {ι H} : Lift ι H ι H := ⟨fun _ _ h => h, fun _ _ h => h, fun _ _ n h => ⟨h, n⟩, fun _ _ _ h => h, fun _ _ n h => ⟨h, n⟩, rfl, fun _ _ _ h => h⟩
theorem Lift.trans {ι ι1 ι2 H H1 H2} (a : Lift ι H ι1 H1) (b : Lift ι1 H1 ι2 H2) : Lift ι H ι2 H2 :=
  ⟨fun n x h => b.pre n x (a.pre n x h), fun x xs h => b.tup x xs (a.tup x xs h),
   fun x xs n h => let ⟨h1, n1⟩ := a.lst x xs n h; b.lst x xs n1 h1, fun x o xs h => b.scr x o xs (a.scr x o xs h), fun x xs n h => let ⟨h1, n1⟩ := a.dct x xs n h; b.dct x xs n1 h1, b.kk.trans a.kk, fun x o u h => b.frz x o u (a.frz x o u h)⟩
structure Step (ι : Z) (H : Hp) (ι' : Z) (H' : Hp) : Prop where
  up : Lift ι H ι' H'
  bb : ι'.b = ι.b
  hid : ∀ x ∈ ι.b, ∀ o, H x = some o → H' x = some o
theorem Step.refl {ι H} : Step ι H ι H := ⟨.refl, rfl, fun _ _ _ h => h⟩
theorem Step.trans {ι ι1 ι2 H H1 H2} (a : Step ι H ι1 H1) (b : Step ι1 H1 ι2 H2) : Step ι H ι2 H2 := ⟨a.up.trans b.up, b.bb.trans a.bb, fun x hx o h => b.hid x (by rw [a.bb]; exact hx) o (a.hid x hx o h)⟩

section
variable {ι ι' : Z} {H H' : Hp} {mg : EnvK}
mutual
theorem RD.mono0 (s : L0 ι H ι' H') : ∀ (d : D) (v : V), RD H ι d v → RD H' ι' d v
  | .non, _, h => by simp only [RD] at h ⊢; exact h
  | .bl _, _, h => by simp only [RD] at h ⊢; exact h
  | .int _, _, h => by simp only [RD] at h ⊢; exact h
  | .str _, _, h => by simp only [RD] at h ⊢; exact h
  | .tup ds, _, h => by
    simp only [RD] at h ⊢
    obtain ⟨a, vs, e, h1, z, h2⟩ := h
    exact ⟨a, vs, e, s.tup a vs h1, z, RDs.mono0 s ds vs h2⟩
  | .lst ds, _, h => by
    simp only [RD] at h ⊢
    obtain ⟨a, vs, e, h1, n, z, h2⟩ := h
    obtain ⟨h1, n⟩ := s.lst a vs n h1
    exact ⟨a, vs, e, h1, n, z, RDs.mono0 s ds vs h2⟩
  | .scr ds, _, h => by
    simp only [RD] at h ⊢
    obtain ⟨a, vs, e, h1, z, h2⟩ := h
    refine ⟨a, vs, e, ?_, z, RDs.mono0 s ds vs h2⟩
    rcases h1 with ⟨o, h1⟩ | h1
    · exact .inl ⟨o, s.scr a o vs h1⟩
    · rw [s.kk]; exact .inr h1
  | .dct ks ds, _, h => by
    simp only [RD] at h ⊢
    obtain ⟨a, vs, e, h1, n, z, y, h2⟩ := h
    obtain ⟨h1, n⟩ := s.dct a _ n h1
    exact ⟨a, vs, e, h1, n, z, y, RDs.mono0 s ds vs h2⟩
  | .ref n, _, h => by
    simp only [RD] at h ⊢
    obtain ⟨a, e, h1⟩ := h
    exact ⟨a, e, s.pre n a h1⟩
  | .exn _, _, h => by simp only [RD] at h ⊢; exact h
theorem RDs.mono0 (s : L0 ι H ι' H') : ∀ (ds : List D) (vs : List V), RDs H ι ds vs → RDs H' ι' ds vs
  | [], _, h => by simp only [RDs] at h ⊢; exact h
  | d :: ds, _, h => by
    simp only [RDs] at h ⊢
    obtain ⟨v, r, e, h1, h2⟩ := h
    exact ⟨v, r, e, RD.mono0 s d v h1, RDs.mono0 s ds r h2⟩
end
theorem RD.mono (s : Lift ι H ι' H') (d : D) (v : V) (h : RD H ι d v) : RD H' ι' d v := RD.mono0 s.l0 d v h
theorem RDs.mono (s : Lift ι H ι' H') (ds : List D) (vs : List V) (h : RDs H ι ds vs) : RDs H' ι' ds vs := RDs.mono0 s.l0 ds vs h
theorem RSt.mono (s : Lift ι H ι' H') {δ : Loc} {σ : St} (h : RSt H ι δ σ) : RSt H' ι' δ σ :=
  ⟨h.len, fun i d e => let ⟨v, e', r⟩ := h.at' i d e; ⟨v, e', r.mono s⟩⟩
theorem RDs.length : ∀ {ds : List D} {vs : List V}, RDs H ι ds vs → ds.length = vs.length
  | [], _, h => by simp only [RDs] at h; subst h; rfl
  | d :: ds, _, h => by
    simp only [RDs] at h
    obtain ⟨v, r, e, h1, h2⟩ := h
    subst e
    simp [RDs.length h2]
theorem RDs.nil : RDs H ι [] [] := by simp only [RDs]
theorem RDs.cons {d v ds vs} (h1 : RD H ι d v) (h2 : RDs H ι ds vs) : RDs H ι (d :: ds) (v :: vs) := by
  simp only [RDs]; exact ⟨v, vs, rfl, h1, h2⟩
theorem RDs.app : ∀ {ds es : List D} {vs ws : List V}, RDs H ι ds vs → RDs H ι es ws → RDs H ι (ds ++ es) (vs ++ ws)
  | [], _, _, _, h, g => by simp only [RDs] at h; subst h; exact g
  | d :: ds, _, _, _, h, g => by
    simp only [RDs] at h
    obtain ⟨v, r, e, h1, h2⟩ := h
    subst e
    exact .cons h1 (RDs.app h2 g)
theorem RDs.get : ∀ {ds : List D} {vs : List V} {i : Nat} {d : D}, RDs H ι ds vs → ds[i]? = some d → ∃ v, vs[i]? = some v ∧ RD H ι d v
  | [], _, i, d, _, e => by simp at e
  | d :: ds, _, 0, d', h, e => by
    simp only [RDs] at h
    obtain ⟨v, r, e', h1, h2⟩ := h
    subst e'
    simp at e; subst e
    exact ⟨v, rfl, h1⟩
  | d :: ds, _, i + 1, d', h, e => by
    simp only [RDs] at h
    obtain ⟨v, r, e', h1, h2⟩ := h
    subst e'
    simpa using RDs.get h2 (by simpa using e)
theorem RDs.set : ∀ {ds : List D} {vs : List V} {i : Nat} {d : D} {v : V}, RDs H ι ds vs → RD H ι d v → RDs H ι (ds.set i d) (vs.set i v)
  | [], _, i, d, _, h, _ => by simp only [RDs] at h; subst h; exact .nil
  | d :: ds, _, 0, d', _, h, q => by
    simp only [RDs] at h
    obtain ⟨v, r, e', h1, h2⟩ := h
    subst e'
    exact .cons q h2
  | d :: ds, _, i + 1, d', _, h, q => by
    simp only [RDs] at h
    obtain ⟨v, r, e', h1, h2⟩ := h
    subst e'
    exact .cons h1 (RDs.set h2 q)
theorem RDs.drop : ∀ {ds : List D} {vs : List V} (n : Nat), RDs H ι ds vs → RDs H ι (ds.drop n) (vs.drop n)
  | _, _, 0, h => h
  | [], _, n + 1, h => by simp only [RDs] at h; subst h; exact .nil
  | d :: ds, _, n + 1, h => by
    simp only [RDs] at h
    obtain ⟨v, r, e', h1, h2⟩ := h
    subst e'
    exact RDs.drop n h2
theorem RDs.take : ∀ {ds : List D} {vs : List V} (n : Nat), RDs H ι ds vs → RDs H ι (ds.take n) (vs.take n)
  | _, _, 0, h => by simpa using RDs.nil
  | [], _, n + 1, h => by simp only [RDs] at h; subst h; exact .nil
  | d :: ds, _, n + 1, h => by
    simp only [RDs] at h
    obtain ⟨v, r, e', h1, h2⟩ := h
    subst e'
    exact .cons h1 (RDs.take n h2)

/-! ### allocation, writing -/
theorem rd_tracked {a : Addr} {u : HO} (h : Rd H a u) : ∃ o, H a = some o := by
  rcases h with h | ⟨o, h⟩
  · exact ⟨_, h⟩
  · exact ⟨_, h⟩
theorem rd_upd_ne {a p : Addr} {u o : HO} (h : Rd H a u) (n : a ≠ p) : Rd (upd H p o) a u := by
  rcases h with h | ⟨ob, h⟩
  · exact .inl (by rw [L2.upd_ne n]; exact h)
  · exact .inr ⟨ob, by rw [L2.upd_ne n]; exact h⟩
theorem ne_new {a p : Addr} {u : HO} (h : Rd H a u) (hp : H p = none) : a ≠ p := by
  rintro rfl
  obtain ⟨o, e⟩ := rd_tracked h
  rw [e] at hp; cases hp
theorem Step.new {p : Addr} {o : HO} (hp : H p = none) : Step ι H ι (upd H p o) :=
  ⟨⟨fun _ _ h => h, fun a xs h => h.up hp, fun a xs n h => ⟨by rw [upd_ne (ne_of_none h hp)]; exact h, n⟩, fun a o xs h => by rw [upd_ne (ne_of_none h hp)]; exact h, fun a xs n h => ⟨rd_upd_ne h (ne_new h hp), n⟩, rfl, fun a o u h => by rw [upd_ne (ne_of_none h hp)]; exact h⟩, rfl, fun x _ o e => by rw [upd_ne (ne_of_none e hp)]; exact e⟩
abbrev Z.snoc (ι : Z) (p : Addr) : Z := ⟨ι.a ++ [p], ι.b, ι.k⟩
theorem Z.no_snoc {ι : Z} {a p : Addr} (n : ι.no a) (h : a ≠ p) : (ι.snoc p).no a := ⟨by simp [n.1, h], n.2⟩
theorem Step.newRef {p : Addr} {o : HO} (hp : H p = none) : Step ι H (ι.snoc p) (upd H p o) :=
  ⟨⟨fun n a h => by rw [List.getElem?_append_left (List.getElem?_eq_some_iff.mp h).1]; exact h, fun a xs h => h.up hp,
    fun a xs n h => ⟨by rw [upd_ne (ne_of_none h hp)]; exact h, Z.no_snoc n (ne_of_none h hp)⟩, fun a o xs h => by rw [upd_ne (ne_of_none h hp)]; exact h, fun a xs n h => ⟨rd_upd_ne h (ne_new h hp), Z.no_snoc n (ne_new h hp)⟩, rfl, fun a o u h => by rw [upd_ne (ne_of_none h hp)]; exact h⟩, rfl, fun x _ o e => by rw [upd_ne (ne_of_none e hp)]; exact e⟩
theorem Lift.write {a : Addr} {o : HO} (ha : a ∈ ι.a ∨ a ∈ ι.b) (hm : ∀ u, H a = some u → Mk u) : Lift ι H ι (upd H a o) :=
  have ne : ∀ {b : Addr}, ι.no b → b ≠ a := fun n e => by
    subst e
    rcases ha with h | h
    · exact n.1 h
    · exact n.2 h
  ⟨fun _ _ h => h, fun b xs h => h.keep (by rintro rfl; obtain ⟨o, h, _⟩ := h; exact (hm _ h).1 _ _ rfl),
    fun b xs n h => ⟨by rw [upd_ne (ne n)]; exact h, n⟩, fun b o xs h => by rw [upd_ne (by rintro rfl; exact (hm _ h).2 _ _ rfl)]; exact h, fun b xs n h => ⟨rd_upd_ne h (ne n), n⟩, rfl, fun b o u h => by rw [upd_ne (by rintro rfl; exact (hm _ h).2 _ _ rfl)]; exact h⟩
theorem RO.mono0 (s : L0 ι H ι' H') {a : Addr} (h' : H' a = H a) : ∀ {o : MO}, RO H ι mg a o → RO H' ι' mg a o
  | .lst ds, ⟨vs, e, z, r⟩ => ⟨vs, h'.trans e, z, r.mono0 s⟩
  | .dK ks ds, ⟨vs, e, z, y, r⟩ => ⟨vs, h'.trans e, z, y, r.mono0 s⟩
  | .dKL ks ds, ⟨o, vs, e, z, y, r⟩ => ⟨o, vs, h'.trans e, z, y, r.mono0 s⟩
  | .dT ks ds, ⟨vs, e, z, y, r⟩ => ⟨vs, h'.trans e, z, y, r.mono0 s⟩
  | .ins c fs ds, ⟨C, dx, vs, m, e, z, r⟩ => ⟨C, dx, vs, m, h'.trans e, z, r.mono0 s⟩
theorem RO.mono (s : Lift ι H ι' H') {a : Addr} (h' : H' a = H a) {o : MO} (h : RO H ι mg a o) : RO H' ι' mg a o := RO.mono0 s.l0 h' h
theorem RO.some {a : Addr} : ∀ {o : MO}, RO H ι mg a o → ∃ u, H a = Option.some u
  | .lst ds, ⟨vs, e, z, r⟩ => ⟨_, e⟩
  | .dK ks ds, ⟨vs, e, z, y, r⟩ => ⟨_, e⟩
  | .dKL ks ds, ⟨o, vs, e, z, y, r⟩ => ⟨_, e⟩
  | .dT ks ds, ⟨vs, e, z, y, r⟩ => ⟨_, e⟩
  | .ins c fs ds, ⟨C, dx, vs, m, e, z, r⟩ => ⟨_, e⟩
theorem Rep.has {S : Sto} (r : Rep H ι mg S) {n : Nat} {a : Addr} (h : ι.a[n]? = some a) : ∃ o, S[n]? = some o ∧ RO H ι mg a o := by
  have hn : n < S.length := by rw [← r.len]; exact (List.getElem?_eq_some_iff.mp h).1
  exact ⟨S[n], List.getElem?_eq_getElem hn, r.obj n a _ h (List.getElem?_eq_getElem hn)⟩
theorem Rep.addr {S : Sto} (r : Rep H ι mg S) {n : Nat} {o : MO} (h : S[n]? = some o) : ∃ a, ι.a[n]? = some a ∧ RO H ι mg a o := by
  have hn : n < ι.a.length := by rw [r.len]; exact (List.getElem?_eq_some_iff.mp h).1
  exact ⟨ι.a[n], List.getElem?_eq_getElem hn, r.obj n _ _ (List.getElem?_eq_getElem hn) h⟩
theorem Rep.track {S : Sto} (r : Rep H ι mg S) {a : Addr} (h : a ∈ ι.a) : ∃ u, H a = some u := by
  obtain ⟨n, hn⟩ := List.getElem?_of_mem h
  obtain ⟨o, _, ro⟩ := r.has hn
  exact ro.some
theorem Rep.fresh {S : Sto} (r : Rep H ι mg S) {p : Addr} (hp : H p = none) : ι.no p := by
  refine ⟨fun h => ?_, fun h => ?_⟩
  · obtain ⟨u, e⟩ := r.track h
    rw [hp] at e; cases e
  · obtain ⟨_, u, e, _⟩ := r.bt p h
    rw [hp] at e; cases e
theorem Rep.new {S : Sto} (r : Rep H ι mg S) {p : Addr} {o : HO} (hp : H p = none) : Rep (upd H p o) ι mg S :=
  ⟨r.kk, r.len, r.nd, fun x hx => ⟨(r.bt x hx).1, let ⟨u, e, q⟩ := (r.bt x hx).2; ⟨u, by rw [L2.upd_ne (ne_of_none e hp)]; exact e, q⟩⟩,
    fun n a m h1 h2 => (r.obj n a m h1 h2).mono (Step.new hp).up (L2.upd_ne (by rintro rfl; exact (r.fresh hp).1 (List.mem_of_getElem? h1)))⟩
theorem Rep.newRef {S : Sto} (r : Rep H ι mg S) {p : Addr} {o : HO} {m : MO} (hp : H p = none) (ho : RO (upd H p o) (ι.snoc p) mg p m) : Rep (upd H p o) (ι.snoc p) mg (S ++ [m]) := by
  refine ⟨r.kk, by simp [r.len], ?_, fun x hx => ?_, fun n a m' h1 h2 => ?_⟩
  · show (ι.a ++ [p]).Nodup
    rw [List.nodup_append]
    refine ⟨r.nd, by simp, fun a ha b hb => ?_⟩
    simp at hb; subst hb
    rintro rfl; exact (r.fresh hp).1 ha
  · obtain ⟨n, u, e, q⟩ := r.bt x hx
    have ne : x ≠ p := ne_of_none e hp
    exact ⟨by simp [n, ne], u, by rw [L2.upd_ne ne]; exact e, q⟩
  · have k1 : (ι.a ++ [p])[n]? = some a := h1
    clear h1
    by_cases hn : n < ι.a.length
    · rw [List.getElem?_append_left hn] at k1
      rw [List.getElem?_append_left (by rw [← r.len]; exact hn)] at h2
      exact (r.obj n a m' k1 h2).mono (Step.newRef hp).up (L2.upd_ne (by rintro rfl; exact (r.fresh hp).1 (List.mem_of_getElem? k1)))
    · have hn' : ι.a.length ≤ n := Nat.le_of_not_lt hn
      rw [List.getElem?_append_right hn'] at k1
      rw [List.getElem?_append_right (by rw [← r.len]; exact hn')] at h2
      have e : n - ι.a.length = 0 := by
        have := (List.getElem?_eq_some_iff.mp k1).1
        simp at this; omega
      rw [e] at k1; rw [← r.len, e] at h2
      simp at k1 h2; subst k1 h2
      exact ho
theorem Rep.write {S : Sto} (r : Rep H ι mg S) {n : Nat} {a : Addr} {o : HO} {m : MO} (hn : ι.a[n]? = some a) (hm : ∀ u, H a = some u → Mk u) (ho : RO (upd H a o) ι mg a m) : Rep (upd H a o) ι mg (S.set n m) ∧ Step ι H ι (upd H a o) := by
  have ha : a ∈ ι.a := List.mem_of_getElem? hn
  have st : Step ι H ι (upd H a o) := ⟨Lift.write (.inl ha) hm, rfl, fun x hx u e => by rw [L2.upd_ne (by rintro rfl; exact (r.bt x hx).1 ha)]; exact e⟩
  refine ⟨⟨r.kk, by simpa using r.len, r.nd, fun x hx => ?_, fun k b m' h1 h2 => ?_⟩, st⟩
  · obtain ⟨n, u, e, q⟩ := r.bt x hx
    exact ⟨n, u, by rw [L2.upd_ne (by rintro rfl; exact n ha)]; exact e, q⟩
  by_cases hk : n = k
  · subst hk
    rw [hn] at h1; cases h1
    have hl : n < S.length := by rw [← r.len]; exact (List.getElem?_eq_some_iff.mp hn).1
    rw [List.getElem?_set_self hl] at h2; cases h2
    exact ho
  · rw [List.getElem?_set_ne hk] at h2
    refine (r.obj k b m' h1 h2).mono st.up (L2.upd_ne ?_)
    rintro rfl
    obtain ⟨l1, e1⟩ := List.getElem?_eq_some_iff.mp hn
    obtain ⟨l2, e2⟩ := List.getElem?_eq_some_iff.mp h1
    exact hk ((List.getElem_inj r.nd).mp (e1.trans e2.symm))
/-- a hidden object is laid, written, told -/
abbrev Z.hide (ι : Z) (p : Addr) : Z := ⟨ι.a, p :: ι.b, ι.k⟩
theorem Lift.hide {p : Addr} {o : HO} (hp : H p = none) : Lift ι H (ι.hide p) (upd H p o) :=
  ⟨fun _ _ h => h, fun a xs h => h.up hp, fun a xs n h => ⟨by rw [upd_ne (ne_of_none h hp)]; exact h, n.1, by simp [n.2, ne_of_none h hp]⟩,
    fun a o xs h => by rw [upd_ne (ne_of_none h hp)]; exact h, fun a xs n h => ⟨rd_upd_ne h (ne_new h hp), n.1, by simp [n.2, ne_new h hp]⟩, rfl, fun a o u h => by rw [upd_ne (ne_of_none h hp)]; exact h⟩
theorem Rep.hide {S : Sto} (r : Rep H ι mg S) {p : Addr} {o : HO} (hp : H p = none) (nt : Mk o) : Rep (upd H p o) (ι.hide p) mg S :=
  ⟨r.kk, r.len, r.nd, fun x hx => by
      rcases List.mem_cons.mp hx with e | hx
      · subst e; exact ⟨(r.fresh hp).1, o, upd_same, nt⟩
      · obtain ⟨n, u, e, q⟩ := r.bt x hx
        exact ⟨n, u, by rw [L2.upd_ne (ne_of_none e hp)]; exact e, q⟩,
    fun n a m h1 h2 => (r.obj n a m h1 h2).mono (Lift.hide hp) (L2.upd_ne (by rintro rfl; exact (r.fresh hp).1 (List.mem_of_getElem? (show ι.a[n]? = some _ from h1))))⟩
theorem Rep.writeHid {S : Sto} (r : Rep H ι mg S) {p : Addr} {o : HO} (hp : p ∈ ι.b) (nt : Mk o) : Rep (upd H p o) ι mg S ∧ Lift ι H ι (upd H p o) := by
  obtain ⟨np, u, e, q⟩ := r.bt p hp
  have st : Lift ι H ι (upd H p o) := Lift.write (.inr hp) (fun u' e' => by rw [e] at e'; cases e'; exact q)
  refine ⟨⟨r.kk, r.len, r.nd, fun x hx => ?_, fun k b m' h1 h2 => (r.obj k b m' h1 h2).mono st (L2.upd_ne (by rintro rfl; exact np (List.mem_of_getElem? h1)))⟩, st⟩
  obtain ⟨n, u, e, q⟩ := r.bt x hx
  by_cases hx' : x = p
  · subst hx'; exact ⟨n, o, upd_same, nt⟩
  · exact ⟨n, u, by rw [L2.upd_ne hx']; exact e, q⟩
theorem Lift.show {p : Addr} {l : List Addr} (h : ι.b = p :: l) : Lift ι H ⟨ι.a, l, ι.k⟩ H :=
  ⟨fun _ _ h => h, fun _ _ h => h, fun a xs n e => ⟨e, n.1, fun q => n.2 (by rw [h]; exact List.mem_cons_of_mem _ q)⟩, fun _ _ _ e => e,
    fun a xs n e => ⟨e, n.1, fun q => n.2 (by rw [h]; exact List.mem_cons_of_mem _ q)⟩, rfl, fun _ _ _ e => e⟩
theorem Rep.show {S : Sto} (r : Rep H ι mg S) {p : Addr} {l : List Addr} (h : ι.b = p :: l) : Rep H ⟨ι.a, l, ι.k⟩ mg S :=
  ⟨r.kk, r.len, r.nd, fun x hx => r.bt x (by rw [h]; exact List.mem_cons_of_mem _ hx), fun n a m h1 h2 => (r.obj n a m h1 h2).mono (Lift.show h) rfl⟩
end
end PM

/-! PM, part 3: judgements -/
namespace PM
open PySem PySem.Spec L2
abbrev _root_.L2.Cx.ek (X : Cx) : EnvK := ⟨X.mg, X.K⟩
abbrev wat (W : WX) (σ : St) : XK := fun c d H => W c d σ H
abbrev Rel (α β : Type) := Hp → Z → α → β → Prop
def REq {α : Type} : Rel α α := fun _ _ a b => b = a
/-- room for C code alone, also where an exception is handled -/
structure Ru (A : Around) : Prop where
  un : A.units + 200 < cLine
theorem Ru.units {A : Around} (r : Ru A) : A.units + 64 < cLine := by have := r.un; omega
theorem Ru.hu {A : Around} (r : Ru A) : A.units + 1 < cLine := by have := r.un; omega
theorem Ru.of {k : Nat} {A : Around} (r : Room k A) : Ru A := ⟨by have := r.un; omega⟩
section
variable {mg : EnvK} {α β γ ε : Type}
def G (mg : EnvK) (W : XK) (ι : Z) (H : Hp) (Rl : Rel α β) (r : R α) (Q : β → Hp → Prop) : Prop := match r with
  | .ok a S' => ∀ ι' H' b, Step ι H ι' H' → Rep H' ι' mg S' → Rl H' ι' a b → Q b H'
  | .exc c S' => ∀ ι' H' cls dx, Step ι H ι' H' → Rep H' ι' mg S' → RX H' ι' mg c cls dx → W cls dx H'
  | .stuck => False
variable {W : XK} {ι ι' : Z} {H H' : Hp} {Rl : Rel α β} {r : R α} {Q Q' : β → Hp → Prop}
theorem G.imp (h : G mg W ι H Rl r Q) (q : ∀ b H', Q b H' → Q' b H') : G mg W ι H Rl r Q' := by
  cases r with
  | ok a S => exact fun ι' H' b st rp rl => q _ _ (h ι' H' b st rp rl)
  | exc c S => exact h
  | stuck => exact h
theorem G.step (st : Step ι H ι' H') (h : G mg W ι H Rl r Q) : G mg W ι' H' Rl r Q := by
  cases r with
  | ok a S => exact fun ι2 H2 b s2 rp rl => h ι2 H2 b (st.trans s2) rp rl
  | exc c S => exact fun ι2 H2 b d s2 rp rl => h ι2 H2 b d (st.trans s2) rp rl
  | stuck => exact h
theorem G.bind {Rl2 : Rel γ ε} {k : α → Sto → R γ} {Q2 : ε → Hp → Prop} (h : G mg W ι H Rl2 (r.bind k) Q2) :
    G mg W ι H Rl r (fun b H1 => ∃ ι1 S1 a, Step ι H ι1 H1 ∧ Rep H1 ι1 mg S1 ∧ Rl H1 ι1 a b ∧ G mg W ι1 H1 Rl2 (k a S1) Q2) := by
  cases r with
  | ok a S => exact fun ι' H' b st rp rl => ⟨ι', S, a, st, rp, rl, G.step st h⟩
  | exc c S => exact h
  | stuck => exact h
theorem G.here {a : α} {b : β} {S : Sto} (h : G mg W ι H Rl (.ok a S) Q) (rp : Rep H ι mg S) (rl : Rl H ι a b) : Q b H := h ι H b .refl rp rl
theorem G.at {a : α} {b : β} {S : Sto} (h : G mg W ι H Rl (.ok a S) Q) (st : Step ι H ι' H') (rp : Rep H' ι' mg S) (rl : Rl H' ι' a b) : Q b H' := h ι' H' b st rp rl
end

def tD {α β : Type} (mg : EnvK) (W : WX) (Rl : Rel α β) (m : Loc → Sto → R α) : St → Hp → (β → Hp → Prop) → Prop := fun σ H Q =>
  ∃ ι S δ, Rep H ι mg S ∧ RSt H ι δ σ ∧ G mg (wat W σ) ι H Rl (m δ S) Q
abbrev tDE (mg : EnvK) (W : WX) (m : Em) : TE := tD mg W RD m
def GS (mg : EnvK) (W : WX) (ι : Z) (H : Hp) (r : RS) (D : Ends) : Prop := match r with
  | .nx δ S => ∀ ι' H' σ', Step ι H ι' H' → Rep H' ι' mg S → RSt H' ι' δ σ' → D.nx σ' H'
  | .bk δ S => ∀ ι' H' σ', Step ι H ι' H' → Rep H' ι' mg S → RSt H' ι' δ σ' → D.bk σ' H'
  | .ct δ S => ∀ ι' H' σ', Step ι H ι' H' → Rep H' ι' mg S → RSt H' ι' δ σ' → D.ct σ' H'
  | .rt d S => ∀ ι' H' v, Step ι H ι' H' → Rep H' ι' mg S → RD H' ι' d v → D.rt v H'
  | .exc c δ S => ∀ ι' H' σ' cls dx, Step ι H ι' H' → Rep H' ι' mg S → RSt H' ι' δ σ' → RX H' ι' mg c cls dx → W cls dx σ' H'
  | .stuck => False
section
variable {mg : EnvK} {W : WX} {ι ι' : Z} {H H' : Hp} {r : RS} {D D' : Ends}
theorem GS.step (st : Step ι H ι' H') (h : GS mg W ι H r D) : GS mg W ι' H' r D := by
  cases r with
  | nx δ S => exact fun ι2 H2 b s2 rp rl => h ι2 H2 b (st.trans s2) rp rl
  | bk δ S => exact fun ι2 H2 b s2 rp rl => h ι2 H2 b (st.trans s2) rp rl
  | ct δ S => exact fun ι2 H2 b s2 rp rl => h ι2 H2 b (st.trans s2) rp rl
  | rt d S => exact fun ι2 H2 b s2 rp rl => h ι2 H2 b (st.trans s2) rp rl
  | exc c δ S => exact fun ι2 H2 b d e s2 rp rl => h ι2 H2 b d e (st.trans s2) rp rl
  | stuck => exact h
theorem GS.seq {k : Sm} (h : GS mg W ι H (r.seq k) D) : GS mg W ι H r { D with nx := fun σ1 H1 => ∃ ι1 S1 δ1, Step ι H ι1 H1 ∧ Rep H1 ι1 mg S1 ∧ RSt H1 ι1 δ1 σ1 ∧ GS mg W ι1 H1 (k δ1 S1) D } := by
  cases r with
  | nx δ S => exact fun ι2 H2 b s2 rp rl => ⟨ι2, S, δ, s2, rp, rl, GS.step s2 h⟩
  | bk δ S => exact h
  | ct δ S => exact h
  | rt d S => exact h
  | exc c δ S => exact h
  | stuck => exact h
theorem GS.into {α β : Type} {Rl : Rel α β} {a : R α} {δ : Loc} {σ : St} {k : α → Sto → RS} (rs : RSt H ι δ σ) (h : GS mg W ι H (a.into δ k) D) :
    G mg (wat W σ) ι H Rl a (fun b H1 => ∃ ι1 S1 x, Step ι H ι1 H1 ∧ Rep H1 ι1 mg S1 ∧ Rl H1 ι1 x b ∧ GS mg W ι1 H1 (k x S1) D) := by
  cases a with
  | ok x S => exact fun ι' H' b st rp rl => ⟨ι', S, x, st, rp, rl, GS.step st h⟩
  | exc c S => exact fun ι' H' b d st rp rx => h ι' H' σ b d st rp (rs.mono st.up) rx
  | stuck => exact h
end
def tDS (mg : EnvK) (W : WX) (m : Sm) : TS := fun D σ H => ∃ ι S δ, Rep H ι mg S ∧ RSt H ι δ σ ∧ GS mg W ι H (m δ S) D

section
variable (X : Cx) (W : WX)
def DE (e : Expr) (m : Em) : Prop := PE X e (tDE X.ek W m)
def DT (e : Expr) (m : Tm) : Prop := PT X e (tD X.ek W REq m)
def DW (e : Expr) (m : Tm) : Prop := PW X e (tD X.ek W REq m)
def DA (es : List Expr) (m : Am) : Prop := PA X es (tD X.ek W RDs m)
def DS (st : Stmt) (m : Sm) : Prop := PS X st (tDS X.ek W m)
def DSs (sts : List Stmt) (m : Sm) : Prop := PSs X sts (tDS X.ek W m)
/-- a target: the value is at hand -/
def tDG (mg : EnvK) (W : WX) (g : Gm) : TG := fun v σ H Q => ∃ ι S δ d, Rep H ι mg S ∧ RSt H ι δ σ ∧ RD H ι d v ∧ G mg (wat W σ) ι H RSt (g d δ S) Q
def DG (tg : Expr) (g : Gm) : Prop := PG X tg (tDG X.ek W g)
end
theorem pe_imp {X : Cx} {e : Expr} {t t' : TE} (h : PE X e t) (i : ∀ σ H Q, t' σ H Q → t σ H Q) : PE X e t' := ⟨fun pins s σ H Q I q => h.run pins s σ H Q I (i _ _ _ q)⟩
theorem pt_imp {X : Cx} {e : Expr} {t t' : TT} (h : PT X e t) (i : ∀ σ H Q, t' σ H Q → t σ H Q) : PT X e t' := ⟨fun pins s σ H Q I q => h.run pins s σ H Q I (i _ _ _ q)⟩
theorem pw_imp {X : Cx} {e : Expr} {t t' : TT} (h : PW X e t) (i : ∀ σ H Q, t' σ H Q → t σ H Q) : PW X e t' := ⟨fun w pins s σ H Q I q => h.run w pins s σ H Q I (i _ _ _ q)⟩
theorem pa_imp {X : Cx} {e : List Expr} {t t' : TA} (h : PA X e t) (i : ∀ σ H Q, t' σ H Q → t σ H Q) : PA X e t' := ⟨fun p pins s σ H Q I q => h.run p pins s σ H Q I (i _ _ _ q)⟩
theorem ps_imp {X : Cx} {e : Stmt} {t t' : TS} (h : PS X e t) (i : ∀ D σ H, t' D σ H → t D σ H) : PS X e t' := ⟨fun pins s σ H Q I q => h.run pins s σ H Q I (i _ _ _ q)⟩
theorem pss_imp {X : Cx} {e : List Stmt} {t t' : TS} (h : PSs X e t) (i : ∀ D σ H, t' D σ H → t D σ H) : PSs X e t' := ⟨fun pins s σ H Q I q => h.run pins s σ H Q I (i _ _ _ q)⟩

section
variable {X : Cx} {W : WX} {a b c e : Expr} {es : List Expr} {pos p p2 : Pos} {ma mb mc : Em} {am : Am} {ta tb : Tm}
/-! ### names, constants -/
theorem de_var {i : Nat} {x : Str} (h : PE X (.Name x pos) (tVar i)) : DE X W (.Name x pos) (mV i) := pe_imp h fun σ H Q ⟨ι, S, δ, rp, rs, g⟩ => by
  unfold mV at g
  split at g
  · rename_i d hd
    obtain ⟨v, e, r⟩ := rs.at' i d hd
    exact ⟨v, e, g.here rp r⟩
  · exact g.elim
theorem de_const {d : D} {v : V} (h : PE X e (tC v)) (r : ∀ H ι, RD H ι d v) : DE X W e (mC d) := pe_imp h fun σ H Q ⟨ι, S, δ, rp, rs, g⟩ => G.here (b := v) g rp (r _ _)
theorem de_int {i : Int} {j} : DE X W (.Constant (.int i) j pos) (mC (.int i)) := de_const pe_int fun _ _ => by simp only [RD]
theorem de_bl {i : Bool} {j} : DE X W (.Constant (.bool i) j pos) (mC (.bl i)) := de_const pe_bl fun _ _ => by simp only [RD]
theorem de_non {j} : DE X W (.Constant .none j pos) (mC .non) := de_const pe_non fun _ _ => by simp only [RD]
theorem de_str {x : Str} {j} (h : x.length ≤ sizeLine) : DE X W (.Constant (.str x) j pos) (mC (.str x)) := de_const pe_str fun _ _ => by simp only [RD]; exact ⟨trivial, h⟩

/-! ### arguments, displays -/
theorem da_nil : DA X W [] mNil := pa_imp pa_nil fun σ H Q ⟨ι, S, δ, rp, rs, g⟩ => g.here rp RDs.nil
theorem da_cons (ha : DE X W e ma) (hr : DA X W es am) (hs : starEach (e :: es) X.env = (false, eval e X.env) :: starEach es X.env := by rfl) : DA X W (e :: es) (mCons ma am) :=
  pa_imp (pa_cons ha hr hs) fun σ H Q ⟨ι, S, δ, rp, rs, g⟩ => ⟨ι, S, δ, rp, rs, (G.bind g).imp fun v H1 ⟨ι1, S1, d, st, rp1, rd, g1⟩ =>
    ⟨ι1, S1, δ, rp1, rs.mono st.up, (G.bind g1).imp fun vs H2 ⟨ι2, S2, ds, st2, rp2, rds, g2⟩ => g2.here rp2 (.cons (rd.mono st2.up) rds)⟩⟩
end
def newTup (ds : List D) (S : Sto) : R D := if ds.length ≤ sizeLine then .ok (.tup ds) S else .stuck
def newLst (ds : List D) (S : Sto) : R D := if ds.length ≤ sizeLine then .ok (.lst ds) S else .stuck
def newRef (ds : List D) (S : Sto) : R D := if ds.length ≤ sizeLine then .ok (.ref S.length) (S ++ [.lst ds]) else .stuck
section
variable {mg : EnvK} {W : XK} {ι : Z} {H : Hp} {Q : V → Hp → Prop} {ds : List D} {vs : List V} {S : Sto}
/-- the ways a new list or tuple is taken into the data -/
theorem g_newTup (g : G mg W ι H RD (newTup ds S) Q) (rp : Rep H ι mg S) (r : RDs H ι ds vs) : vs.length ≤ sizeLine ∧ NewT H vs Q := by
  unfold newTup at g
  split at g
  · rename_i h
    refine ⟨by rw [← r.length]; exact h, fun p o d hp => g.at (Step.new hp) (rp.new hp) ?_⟩
    simp only [RD]
    exact ⟨p, vs, rfl, .mk d, h, r.mono (Step.new hp).up⟩
  · exact g.elim
theorem rd_newLst {p : Addr} (rp : Rep H ι mg S) (r : RDs H ι ds vs) (h : ds.length ≤ sizeLine) (hp : H p = none) : RD (upd H p (.lst vs)) ι (.lst ds) (.ref p) := by
  simp only [RD]
  exact ⟨p, vs, rfl, upd_same, rp.fresh hp, h, r.mono (Step.new hp).up⟩
theorem g_newLst (g : G mg W ι H RD (newLst ds S) Q) (rp : Rep H ι mg S) (r : RDs H ι ds vs) : vs.length ≤ sizeLine ∧ ∀ p, H p = none → Q (.ref p) (upd H p (.lst vs)) := by
  unfold newLst at g
  split at g
  · rename_i h
    exact ⟨by rw [← r.length]; exact h, fun p hp => g.at (Step.new hp) (rp.new hp) (rd_newLst rp r h hp)⟩
  · exact g.elim
theorem rep_newRef {p : Addr} {u : HO} {m : MO} (rp : Rep H ι mg S) (hp : H p = none) (ho : RO (upd H p u) (ι.snoc p) mg p m) : Rep (upd H p u) (ι.snoc p) mg (S ++ [m]) ∧ RD (upd H p u) (ι.snoc p) (.ref S.length) (.ref p) := by
  refine ⟨rp.newRef hp ho, ?_⟩
  simp only [RD]
  exact ⟨p, rfl, by rw [← rp.len]; simp⟩
theorem g_newRef (g : G mg W ι H RD (newRef ds S) Q) (rp : Rep H ι mg S) (r : RDs H ι ds vs) : vs.length ≤ sizeLine ∧ ∀ p, H p = none → Q (.ref p) (upd H p (.lst vs)) := by
  unfold newRef at g
  split at g
  · rename_i h
    refine ⟨by rw [← r.length]; exact h, fun p hp => ?_⟩
    have q := rep_newRef (m := .lst ds) (u := .lst vs) rp hp ⟨vs, upd_same, h, r.mono (Step.newRef hp).up⟩
    exact g.at (Step.newRef hp) q.1 q.2
  · exact g.elim
end
section
variable {X : Cx} {W : WX} {a b c e : Expr} {es : List Expr} {pos p p2 : Pos} {ma mb mc : Em} {am : Am} {ta tb : Tm}
theorem de_tup {x1} (h : DA X W es am) : DE X W (.Tuple es x1 pos) (mApp newTup am) := pe_imp (pe_tupF h) fun σ H Q ⟨ι, S, δ, rp, rs, g⟩ =>
  ⟨ι, S, δ, rp, rs, (G.bind g).imp fun vs H1 ⟨ι1, S1, ds, st, rp1, rd, g1⟩ => g_newTup g1 rp1 rd⟩
theorem de_lst (h : DA X W es am) : DE X W (.List es pos) (mApp newLst am) := pe_imp (pe_lst h) fun σ H Q ⟨ι, S, δ, rp, rs, g⟩ =>
  ⟨ι, S, δ, rp, rs, (G.bind g).imp fun vs H1 ⟨ι1, S1, ds, st, rp1, rd, g1⟩ => g_newLst g1 rp1 rd⟩
theorem de_lstR (h : DA X W es am) : DE X W (.List es pos) (mApp newRef am) := pe_imp (pe_lst h) fun σ H Q ⟨ι, S, δ, rp, rs, g⟩ =>
  ⟨ι, S, δ, rp, rs, (G.bind g).imp fun vs H1 ⟨ι1, S1, ds, st, rp1, rd, g1⟩ => g_newRef g1 rp1 rd⟩

/-! ### operators, by values -/
/-- f keeps the rule op of data -/
def OpD (X : Cx) (f : Value → Value → Sem Value) (op : D → D → Sto → R D) : Prop :=
  ∃ r : R2, OpR X f r ∧ ∀ (W : XK) (ι : Z) (S : Sto) (H : Hp) (x y : V) (dx dy : D) (Q : VK), Rep H ι X.ek S → RD H ι dx x → RD H ι dy y → G X.ek W ι H RD (op dx dy S) Q → r x y H Q
theorem de_opR {r : R2} {op : D → D → Sto → R D} (k : ∀ (W : XK) (ι : Z) (S : Sto) (H : Hp) (x y : V) (dx dy : D) (Q : VK), Rep H ι X.ek S → RD H ι dx x → RD H ι dy y → G X.ek W ι H RD (op dx dy S) Q → r x y H Q) {σ : St} {H : Hp} {Q : VK}
    (h : tDE X.ek W (mB op ma mb) σ H Q) : tOp r (tDE X.ek W ma) (tDE X.ek W mb) σ H Q := by
  obtain ⟨ι, S, δ, rp, rs, g⟩ := h
  exact ⟨ι, S, δ, rp, rs, (G.bind g).imp fun v H1 ⟨ι1, S1, d, st, rp1, rd, g1⟩ =>
    ⟨ι1, S1, δ, rp1, rs.mono st.up, (G.bind g1).imp fun v2 H2 ⟨ι2, S2, d2, st2, rp2, rd2, g2⟩ => k _ ι2 S2 H2 v v2 d d2 Q rp2 (rd.mono st2.up) rd2 g2⟩⟩
theorem de_bin {op : Operator} {f : D → D → Sto → R D} (ho : OpD X (binaryOp op) f) (ha : DE X W a ma) (hb : DE X W b mb) : DE X W (.BinOp a op b pos) (mB f ma mb) := by
  obtain ⟨r, hr, k⟩ := ho
  exact pe_imp (pe_op hr ha hb) fun σ H Q h => de_opR k h
theorem de_cmp {op : CmpOp} {f : D → D → Sto → R D} (ho : OpD X (compareOp op) f) (ha : DE X W a ma) (hb : DE X W b mb) (hm : behindInMarks op b = false) : DE X W (.Compare a [op] [b] pos) (mB f ma mb) := by
  obtain ⟨r, hr, k⟩ := ho
  exact pe_imp (pe_cmpR hr ha hb hm) fun σ H Q h => de_opR k h
theorem rd_bl {H : Hp} {ι : Z} {d : D} {k : Bool} (h : RD H ι (.bl k) v) : v = .bl k := by simpa only [RD] using h
/-- a value of truth as a test -/
theorem t_of {m : Em} {σ : St} {H : Hp} {Q : Bool → Hp → Prop} (h : tD X.ek W REq (mT m) σ H Q) : tDE X.ek W m σ H fun x H' => ∃ k, x = .bl k ∧ Q k H' := by
  obtain ⟨ι, S, δ, rp, rs, g⟩ := h
  refine ⟨ι, S, δ, rp, rs, (G.bind g).imp fun v H1 ⟨ι1, S1, d, st, rp1, rd, g1⟩ => ?_⟩
  cases d with
  | bl k => exact ⟨k, by simpa only [RD] using rd, g1.here rp1 rfl⟩
  | _ => exact g1.elim
theorem dt_cmp {op : CmpOp} {f : D → D → Sto → R D} (ho : OpD X (compareOp op) f) (ha : DE X W a ma) (hb : DE X W b mb) (hm : behindInMarks op b = false) : DT X W (.Compare a [op] [b] pos) (mT (mB f ma mb)) := by
  obtain ⟨r, hr, k⟩ := ho
  refine pt_imp (pt_cmpR hr ha hb hm) fun σ H Q h => ?_
  exact de_opR (Q := fun x H' => ∃ k, x = .bl k ∧ Q k H') k (t_of h)
theorem dt_val (h : DE X W e ma) (he : ∀ whole, isTrue e X.env whole = (do let v ← whole; standAt e.pos; holding [v] (truthy v)) := by intro _; rfl) : DT X W e (mT ma) :=
  pt_imp (pt_val h he) fun σ H Q q => t_of q
/-! ### tests -/
theorem t_bind {α β γ ε : Type} {mg : EnvK} {W : WX} {Rl : Rel α β} {Rl2 : Rel γ ε} {m : Loc → Sto → R α} {k : Loc → α → Sto → R γ} {σ : St} {H : Hp} {Q : ε → Hp → Prop} {T : β → Hp → Prop}
    (h : tD mg W Rl2 (fun δ S => (m δ S).bind (k δ)) σ H Q) (f : ∀ ι S δ a b H', Rep H' ι mg S → RSt H' ι δ σ → Rl H' ι a b → G mg (wat W σ) ι H' Rl2 (k δ a S) Q → T b H') : tD mg W Rl m σ H T := by
  obtain ⟨ι, S, δ, rp, rs, g⟩ := h
  exact ⟨ι, S, δ, rp, rs, (G.bind g).imp fun v H1 ⟨ι1, S1, d, st, rp1, rd, g1⟩ => f ι1 S1 δ d v H1 rp1 (rs.mono st.up) rd g1⟩
theorem dw_and1 (ha : DT X W a ta) : DW X W (.BoolOp .And [a] pos) ta := pw_and1 ha
theorem dw_or1 (ha : DT X W a ta) : DW X W (.BoolOp .Or [a] pos) ta := pw_or1 ha
theorem dw_and {rest : List Expr} (ha : DT X W a ta) (hb : DW X W (.BoolOp .And (b :: rest) pos) tb) : DW X W (.BoolOp .And (a :: b :: rest) pos) (mAnd ta tb) :=
  pw_imp (pw_and ha hb) fun σ H Q h => t_bind h fun ι S δ k c H' rp rs e g => by
    rw [show c = k from e]
    cases k with
    | true => exact ⟨ι, S, δ, rp, rs, g⟩
    | false => exact g.here rp rfl
theorem dw_or {rest : List Expr} (ha : DT X W a ta) (hb : DW X W (.BoolOp .Or (b :: rest) pos) tb) : DW X W (.BoolOp .Or (a :: b :: rest) pos) (mOr ta tb) :=
  pw_imp (pw_or ha hb) fun σ H Q h => t_bind h fun ι S δ k c H' rp rs e g => by
    rw [show c = k from e]
    cases k with
    | true => exact g.here rp rfl
    | false => exact ⟨ι, S, δ, rp, rs, g⟩
theorem dw_pt (h : DW X W e ta) : DT X W e ta := PW.pt h
theorem dt_not (ha : DT X W a ta) : DT X W (.UnaryOp .Not a pos) (mNot ta) :=
  pt_imp (pt_not ha) fun σ H Q h => t_bind h fun ι S δ k c H' rp rs e g => by
    rw [show c = k from e]
    exact g.here rp rfl
/-! ### values of truth -/
theorem de_one {op} (h : DE X W a ma) : DE X W (.BoolOp op [a] pos) ma := pe_one h
theorem de_and {rest : List Expr} (ha : DE X W a ma) (hb : DE X W (.BoolOp .And (b :: rest) pos) mb) : DE X W (.BoolOp .And (a :: b :: rest) pos) (mAndV ma mb) :=
  pe_imp (pe_and ha hb) fun σ H Q h => t_bind h fun ι S δ d v H' rp rs e g => by
    cases d with
    | bl k =>
      refine ⟨k, by simpa only [RD] using e, ?_⟩
      cases k with
      | true => exact ⟨ι, S, δ, rp, rs, g⟩
      | false => exact g.here rp (by simp only [RD])
    | _ => exact g.elim
theorem de_or {rest : List Expr} (ha : DE X W a ma) (hb : DE X W (.BoolOp .Or (b :: rest) pos) mb) : DE X W (.BoolOp .Or (a :: b :: rest) pos) (mOrV ma mb) :=
  pe_imp (pe_or ha hb) fun σ H Q h => t_bind h fun ι S δ d v H' rp rs e g => by
    cases d with
    | bl k =>
      refine ⟨k, by simpa only [RD] using e, ?_⟩
      cases k with
      | true => exact g.here rp (by simp only [RD])
      | false => exact ⟨ι, S, δ, rp, rs, g⟩
    | _ => exact g.elim
theorem de_not (ha : DE X W a ma) : DE X W (.UnaryOp .Not a pos) (mNotV ma) :=
  pe_imp (pe_not ha) fun σ H Q h => t_bind h fun ι S δ d v H' rp rs e g => by
    cases d with
    | bl k => exact ⟨k, by simpa only [RD] using e, g.here rp (by simp only [RD])⟩
    | _ => exact g.elim
theorem de_ifE (hc : DT X W c ta) (ha : DE X W a ma) (hb : DE X W b mb) : DE X W (.IfExp c a b pos) (mIfE ta ma mb) :=
  pe_imp (pe_ifExp hc ha hb) fun σ H Q h => t_bind h fun ι S δ k c H' rp rs e g => by
    rw [show c = k from e]
    cases k with
    | true => exact ⟨ι, S, δ, rp, rs, g⟩
    | false => exact ⟨ι, S, δ, rp, rs, g⟩
/-! ### statements -/
variable {st : Stmt} {sts : List Stmt} {m n : Sm} {g : Gm} {tg : Expr}
theorem ds_nil : DSs X W [] sPass := pss_imp pss_nil fun D σ H ⟨ι, S, δ, rp, rs, g⟩ => g ι H σ .refl rp rs
theorem ds_cons (h1 : DS X W st m) (h2 : DSs X W sts n) : DSs X W (st :: sts) (sSeq m n) :=
  pss_imp (pss_cons h1 h2) fun D σ H ⟨ι, S, δ, rp, rs, g⟩ => by
    refine ⟨ι, S, δ, rp, rs, ?_⟩
    have q := GS.seq g
    revert q
    cases m δ S with
    | nx δ1 S1 => exact fun q ι' H' σ' st rp rs => let ⟨ι1, S1, δ1, _, rp1, rs1, g1⟩ := q ι' H' σ' st rp rs; ⟨ι1, S1, δ1, rp1, rs1, g1⟩
    | _ => exact fun q => q
theorem ds_one (h1 : DS X W st m) : DSs X W [st] m := pss_one h1
theorem s_bind {α β : Type} {mg : EnvK} {W : WX} {Rl : Rel α β} {m : Loc → Sto → R α} {k : Loc → α → Sto → RS} {σ : St} {H : Hp} {D : Ends} {T : β → Hp → Prop}
    (h : tDS mg W (fun δ S => (m δ S).into δ (k δ)) D σ H) (f : ∀ ι S δ a b H', Rep H' ι mg S → RSt H' ι δ σ → Rl H' ι a b → GS mg W ι H' (k δ a S) D → T b H') : tD mg W Rl m σ H T := by
  obtain ⟨ι, S, δ, rp, rs, g⟩ := h
  exact ⟨ι, S, δ, rp, rs, (GS.into rs g).imp fun v H1 ⟨ι1, S1, d, st, rp1, rd, g1⟩ => f ι1 S1 δ d v H1 rp1 (rs.mono st.up) rd g1⟩
theorem ds_pass : DS X W (.Pass pos) sPass := ps_imp ps_pass fun D σ H ⟨ι, S, δ, rp, rs, g⟩ => g ι H σ .refl rp rs
theorem ds_brk : DS X W (.Break pos) sBk := ps_imp ps_break fun D σ H ⟨ι, S, δ, rp, rs, g⟩ => g ι H σ .refl rp rs
theorem ds_cont : DS X W (.Continue pos) sCt := ps_imp ps_continue fun D σ H ⟨ι, S, δ, rp, rs, g⟩ => g ι H σ .refl rp rs
theorem ds_expr (he : DE X W e ma) (hs : swapsWith e none pos.line X.env = pure false := by rfl) : DS X W (.Expr e pos) (sExpr ma) :=
  ps_imp (ps_expr he hs) fun D σ H h => s_bind h fun ι S δ d v H' rp rs r g => g ι H' σ .refl rp rs
theorem ds_ret (he : DE X W e ma) : DS X W (.Return (some e) pos) (sRet ma) :=
  ps_imp (ps_ret he) fun D σ H h => s_bind h fun ι S δ d v H' rp rs r g => g ι H' v .refl rp r
theorem ds_retN : DS X W (.Return none pos) sRetN := ps_imp ps_retN fun D σ H ⟨ι, S, δ, rp, rs, g⟩ => g ι H .non .refl rp (by simp only [RD])
theorem ds_if {sa sb : List Stmt} (hc : DT X W c ta) (ha : DSs X W sa m) (hb : DSs X W sb n) : DS X W (.If c sa sb pos) (sIf ta m n) :=
  ps_imp (ps_if hc ha hb) fun D σ H h => s_bind h fun ι S δ k c H' rp rs e g => by
    rw [show c = k from e]
    cases k with
    | true => exact ⟨ι, S, δ, rp, rs, g⟩
    | false => exact ⟨ι, S, δ, rp, rs, g⟩
/-! ### targets, assignments -/
theorem dg_name {i : Nat} {x : Str} (h : PG X (.Name x pos) (gName i)) : DG X W (.Name x pos) (gmName i) :=
  ⟨fun pins s σ H v u Q I r ⟨ι, S, δ, d, rp, rs, rd, g⟩ => h.run pins s σ H v u Q I r (by
    refine g.here rp ⟨by simpa using rs.len, fun j d' e => ?_⟩
    by_cases hj : i = j
    · subst hj
      have hi : i < δ.length := by
        rcases Nat.lt_or_ge i δ.length with h | h
        · exact h
        · rw [List.getElem?_eq_none (by simpa using h)] at e; cases e
      rw [List.getElem?_set_self hi] at e
      cases e
      exact ⟨v, by rw [List.getElem?_set_self (by rw [← rs.len]; exact hi)], rd⟩
    · rw [List.getElem?_set_ne hj] at e
      rw [List.getElem?_set_ne hj]
      exact rs.at' j d' e)⟩
end
end PM

/-! PM, part 4: assignments, loops, comprehensions, calls -/
namespace PM
open PySem PySem.Spec L2
section
variable {X : Cx} {W : WX} {a b c e o : Expr} {es : List Expr} {pos p p2 : Pos} {ma mb mc mo : Em} {am : Am} {ta tb : Tm} {st : Stmt} {sts : List Stmt} {m n : Sm} {g : Gm} {tg : Expr}
theorem ds_asg (he : DE X W e ma) (hg : DG X W tg g) (hs : swapsWithSole [tg] e pos.line X.env = pure false := by rfl) (hw : swappedStores [tg] e X.env = pure none := by rfl)
    (h1 : (assignEach [tg] X.env).map (·.2) = [assign tg X.env] := by rfl) : DS X W (.Assign [tg] e pos) (sAsg ma g) :=
  ps_imp (ps_asg he hg hs hw h1) fun D σ H h => s_bind h fun ι S δ d v H' rp rs r g =>
    ⟨ι, S, δ, d, rp, rs, r, (GS.into rs g).imp fun σ2 H2 ⟨ι2, S2, δ2, st2, rp2, rs2, g2⟩ => g2 ι2 H2 σ2 .refl rp2 rs2⟩
theorem rs_set {H : Hp} {ι : Z} {δ : Loc} {σ : St} {d : D} {v : V} (rs : RSt H ι δ σ) (r : RD H ι d v) (i : Nat) : RSt H ι (δ.set i (some d)) (σ.set i (some v)) := by
  refine ⟨by simpa using rs.len, fun j d' e => ?_⟩
  by_cases hj : i = j
  · subst hj
    have hi : i < δ.length := by
      rcases Nat.lt_or_ge i δ.length with h | h
      · exact h
      · rw [List.getElem?_eq_none (by simpa using h)] at e; cases e
    rw [List.getElem?_set_self hi] at e
    cases e
    exact ⟨v, by rw [List.getElem?_set_self (by rw [← rs.len]; exact hi)], r⟩
  · rw [List.getElem?_set_ne hj] at e
    rw [List.getElem?_set_ne hj]
    exact rs.at' j d' e
theorem ds_set {i : Nat} {x : Str} {p' : Pos} (hN : X.N.Nodup) (hi : X.N[i]? = some x) (hx : L2.Loc X.env.scope x) (he : DE X W e ma) (hs : swapsWith e (some (.Name x p')) pos.line X.env = pure false := by rfl)
    (hf : X.fn x = true ∨ X.env.scope.names.lookup x = some .local := by first | exact .inl rfl | exact .inr rfl | assumption) : DS X W (.Assign [.Name x p'] e pos) (sAsg ma (gmName i)) :=
  ps_imp (ps_set hN hi hx he hs hf) fun D σ H h => s_bind h fun ι S δ d v H' rp rs r g => g ι H' _ .refl rp (rs_set rs r _)
/-- the names of a target tuple -/
inductive Nms (X : Cx) : List Expr → List Nat → TGs → Prop where
  | nil : Nms X [] [] gNil
  | cons {e : Expr} {es : List Expr} {i : Nat} {is : List Nat} {t : TGs} : Nms X es is t → Nms X (e :: es) (i :: is) (gCons (gName i) t)
theorem nms_run {K : PySem.W.Frag} {mg : EnvK} {W : XK} : ∀ {es : List Expr} {is : List Nat} {t : TGs}, Nms X es is t → ∀ {ds : List D} {vs : List V} {δ : Loc} {σ : St} {S : Sto} {H : Hp} {ι : Z} {Q : St → Hp → Prop}, Rep H ι mg S → RSt H ι δ σ → RDs H ι ds vs →
    G mg W ι H RSt (gmNames is ds δ S) Q → vs.length = is.length ∧ t vs σ H Q
  | _, _, _, .nil, [], vs, δ, σ, S, H, ι, Q, rp, rs, r, g => by
    simp only [RDs] at r; subst r
    exact ⟨rfl, rfl, g.here rp rs⟩
  | _, _, _, .nil, d :: ds, vs, δ, σ, S, H, ι, Q, rp, rs, r, g => g.elim
  | _, _, _, .cons h, [], vs, δ, σ, S, H, ι, Q, rp, rs, r, g => g.elim
  | _, _, _, .cons h, d :: ds, vs, δ, σ, S, H, ι, Q, rp, rs, r, g => by
    simp only [RDs] at r
    obtain ⟨v, w, e, r1, r2⟩ := r
    subst e
    obtain ⟨q1, q2⟩ := nms_run (K := K) h rp (rs_set rs r1 _) r2 g
    exact ⟨by simp [q1], v, w, rfl, q2⟩
theorem dg_tup {es : List Expr} {k : Nat} {is : List Nat} {t : TGs} (hc : X.calm = true) (hp : PGs X es t) (nm : Nms X es is t) (hn : (assignEach es X.env).length = is.length := by rfl)
    (hst : (assignEach es X.env).findIdx? (·.1) = none := by rfl) : DG X W (.Tuple es k pos) (gmTup is) :=
  ⟨fun pins s σ H v u Q I r ⟨ι, S, δ, d, rp, rs, rd, g⟩ => (pg_tup hc hp hn hst).run pins s σ H v u Q I r (by
    cases d with
    | tup ds =>
      simp only [RD] at rd
      obtain ⟨a, vs, e, h1, z, h2⟩ := rd
      obtain ⟨q1, q2⟩ := nms_run (K := X.K) nm rp rs h2 g
      exact ⟨a, vs, e, h1.sq, q1, q2⟩
    | _ => exact g.elim)⟩
def PSetD (X : Cx) (f : D → D → D → Sto → R Unit) : Prop := ∃ t : TSet, PSet X t ∧
  ∀ (W : XK) (ι : Z) (S : Sto) (H : Hp) (x y z : V) (dx dy dz : D) (Q : Unit → Hp → Prop), Rep H ι X.ek S → RD H ι dx x → RD H ι dy y → RD H ι dz z → G X.ek W ι H REq (f dx dy dz S) Q → t x y z H (Q ())
theorem dg_sub {f : D → D → D → Sto → R Unit} (ho : DE X W a ma) (hi : DE X W b mb) (hs : PSetD X f) (hq : ∀ v, assign (.Subscript a b pos) X.env v = (do
      let ov ← holding [v] (eval a X.env)
      let iv ← holding [v, ov] (eval b X.env)
      standAt pos
      holding [v, ov, iv] (setItem ov iv v)
      release [v, ov, iv] []) := by intro _; rfl) : DG X W (.Subscript a b pos) (gmSub ma mb f) := by
  obtain ⟨t, ht, k⟩ := hs
  refine ⟨fun pins s σ H v u Q I r ⟨ι, S, δ, d, rp, rs, rd, g⟩ => (pg_sub ho hi ht hq).run pins s σ H v u Q I r ?_⟩
  exact ⟨ι, S, δ, rp, rs, (G.bind g).imp fun x H1 ⟨ι1, S1, dx, st1, rp1, rx, g1⟩ => ⟨ι1, S1, δ, rp1, rs.mono st1.up, (G.bind g1).imp fun y H2 ⟨ι2, S2, dy, st2, rp2, ry, g2⟩ =>
    k _ ι2 S2 H2 x y v dx dy d (fun _ H' => Q σ H') rp2 (rx.mono st2.up) ry (rd.mono (st1.trans st2).up) ((G.bind g2).imp fun _ H3 ⟨ι3, S3, _, st3, rp3, _, g3⟩ => g3.here rp3 (rs.mono ((st1.trans st2).trans st3).up))⟩⟩

/-! ### what is walked -/
/-- J walks the items -/
def RIt (mg : EnvK) : Rel (List D × (Sto → Prop)) It := fun H ι p J => p.1.length ≤ sizeLine ∧ ∀ (i : Nat) (H1 : Hp) (ι1 : Z) (S1 : Sto), Lift ι H ι1 H1 → Rep H1 ι1 mg S1 → p.2 S1 →
  (i < p.1.length → J.go i H1 ∧ ∀ x H2, J.yld i H1 x H2 → ∃ d, p.1[i]? = some d ∧ Step ι1 H1 ι1 H2 ∧ Rep H2 ι1 mg S1 ∧ RD H2 ι1 d x) ∧ (p.1.length ≤ i → J.stop i H1)
abbrev tDI (mg : EnvK) (W : WX) (src : Src) : TI := tD mg W (RIt mg) src
def DI (X : Cx) (W : WX) (tg iter : Expr) (src : Src) : Prop := PI X tg iter (tDI X.ek W src)
theorem pi_imp {X : Cx} {tg iter : Expr} {t t' : TI} (h : PI X tg iter t) (i : ∀ σ H Q, t' σ H Q → t σ H Q) : PI X tg iter t' := ⟨fun pins s σ H Q I q => h.run pins s σ H Q I (i _ _ _ q)⟩
/-- a turn's end -/
def RS.turn (r : RS) (k : Sm) : RS := match r with
  | .nx δ S => k δ S
  | .ct δ S => k δ S
  | .bk δ S => .nx δ S
  | r => r
theorem loopM_cons {grd : Sto → Prop} {b : D → Sm} {x : D} {xs : List D} {δ : Loc} {S : Sto} (h : grd S) : loopM grd b (x :: xs) δ S = (b x δ S).turn (loopM grd b xs) := by
  rw [loopM, if_pos h]
  cases b x δ S <;> rfl
theorem loopM_nil {grd : Sto → Prop} {b : D → Sm} {δ : Loc} {S : Sto} (h : grd S) : loopM grd b [] δ S = .nx δ S := by
  rw [loopM, if_pos h]
theorem loopM_grd {grd : Sto → Prop} {b : D → Sm} {xs : List D} {δ : Loc} {S : Sto} {mg W ι H D} (g : GS mg W ι H (loopM grd b xs δ S) D) : grd S := by
  cases xs with
  | nil =>
    rw [loopM] at g
    split at g
    · assumption
    · exact g.elim
  | cons x xs =>
    rw [loopM] at g
    split at g
    · assumption
    · exact g.elim
theorem GS.turn {mg : EnvK} {W : WX} {ι : Z} {H : Hp} {r : RS} {D : Ends} {k : Sm} (h : GS mg W ι H (r.turn k) D) :
    GS mg W ι H r { D with nx := fun σ1 H1 => ∃ ι1 S1 δ1, Step ι H ι1 H1 ∧ Rep H1 ι1 mg S1 ∧ RSt H1 ι1 δ1 σ1 ∧ GS mg W ι1 H1 (k δ1 S1) D, ct := fun σ1 H1 => ∃ ι1 S1 δ1, Step ι H ι1 H1 ∧ Rep H1 ι1 mg S1 ∧ RSt H1 ι1 δ1 σ1 ∧ GS mg W ι1 H1 (k δ1 S1) D, bk := D.nx } := by
  cases r with
  | nx δ S => exact fun ι2 H2 b s2 rp rl => ⟨ι2, S, δ, s2, rp, rl, GS.step s2 h⟩
  | ct δ S => exact fun ι2 H2 b s2 rp rl => ⟨ι2, S, δ, s2, rp, rl, GS.step s2 h⟩
  | bk δ S => exact h
  | rt d S => exact h
  | exc c δ S => exact h
  | stuck => exact h
theorem GS.imp {mg : EnvK} {W : WX} {ι : Z} {H : Hp} {r : RS} {D D' : Ends} (h : GS mg W ι H r D) (h1 : ∀ σ H, D.nx σ H → D'.nx σ H) (h2 : ∀ σ H, D.rt σ H → D'.rt σ H) (h3 : ∀ σ H, D.bk σ H → D'.bk σ H) (h4 : ∀ σ H, D.ct σ H → D'.ct σ H) : GS mg W ι H r D' := by
  cases r with
  | nx δ S => exact fun ι2 H2 b s2 rp rl => h1 _ _ (h ι2 H2 b s2 rp rl)
  | ct δ S => exact fun ι2 H2 b s2 rp rl => h4 _ _ (h ι2 H2 b s2 rp rl)
  | bk δ S => exact fun ι2 H2 b s2 rp rl => h3 _ _ (h ι2 H2 b s2 rp rl)
  | rt d S => exact fun ι2 H2 b s2 rp rl => h2 _ _ (h ι2 H2 b s2 rp rl)
  | exc c δ S => exact h
  | stuck => exact h
theorem ds_for {iter : Expr} {body : List Stmt} {src : Src} (hp : PassesOwn (model X.prog X.w) X.A X.env X.xe) (hc : X.calm = true) (hi : DI X W tg iter src) (hg : DG X W tg g) (hb : DSs X W body m)
    (hs : ∀ x, foldedSetIterable iter X.env x = pure x := by intro _; rfl) : DS X W (.For tg iter body [] pos) (sFor src g m) :=
  ps_imp (ps_for hp hc hi hg hb hs) fun D σ H h => s_bind h fun ι S δ p J H1 rp rs rit gs => by
    obtain ⟨hz, rit⟩ := rit
    refine ⟨fun i m' σ2 H2 => m' = p.1.length - i ∧ i ≤ p.1.length ∧ ∃ ι2 S2 δ2, Step ι H1 ι2 H2 ∧ Rep H2 ι2 X.ek S2 ∧ RSt H2 ι2 δ2 σ2 ∧ GS X.ek W ι2 H2 (loopM p.2 (fun x δ S => (g x δ S).into δ m) (p.1.drop i) δ2 S2) D,
      ⟨_, rfl, Nat.zero_le _, ι, S, δ, .refl, rp, rs, by rw [List.drop_zero]; exact gs⟩, ?_⟩
    rintro i m' σ2 H2 ⟨rfl, hi, ι2, S2, δ2, st2, rp2, rs2, g2⟩
    have gr := loopM_grd g2
    obtain ⟨q1, q2⟩ := rit i H2 ι2 S2 st2.up rp2 gr
    by_cases hlt : i < p.1.length
    · obtain ⟨q3, q4⟩ := q1 hlt
      refine .inr ⟨q3, fun σ' H' => p.1.length - (i + 1) = p.1.length - (i + 1) ∧ i + 1 ≤ p.1.length ∧ ∃ ι2 S2 δ2, Step ι H1 ι2 H' ∧ Rep H' ι2 X.ek S2 ∧ RSt H' ι2 δ2 σ' ∧ GS X.ek W ι2 H' (loopM p.2 (fun x δ S => (g x δ S).into δ m) (p.1.drop (i + 1)) δ2 S2) D,
        fun σ' H' q => ⟨_, by omega, q⟩, fun x H3 y => ?_⟩
      obtain ⟨d, e, st3, rp3, rd⟩ := q4 x H3 y
      have e2 : p.1.drop i = d :: p.1.drop (i + 1) := by
        have := List.getElem?_eq_some_iff.mp e
        rw [List.drop_eq_getElem_cons hlt, this.2]
      rw [e2, loopM_cons gr] at g2
      have g3 := GS.turn (GS.step st3 g2)
      refine ⟨ι2, S2, δ2, d, rp3, rs2.mono st3.up, rd, (GS.into (rs2.mono st3.up) g3).imp fun σ4 H4 ⟨ι4, S4, δ4, st4, rp4, rs4, g4⟩ => ⟨ι4, S4, δ4, rp4, rs4, ?_⟩⟩
      refine g4.imp (fun σ5 H5 ⟨ι5, S5, δ5, st5, rp5, rs5, g5⟩ => ?_) (fun _ _ q => q) (fun _ _ q => q) (fun σ5 H5 ⟨ι5, S5, δ5, st5, rp5, rs5, g5⟩ => ?_)
      · exact ⟨rfl, hlt, ι5, S5, δ5, st2.trans (st3.trans st5), rp5, rs5, g5⟩
      · exact ⟨rfl, hlt, ι5, S5, δ5, st2.trans (st3.trans st5), rp5, rs5, g5⟩
    · have e : i = p.1.length := by omega
      subst e
      rw [List.drop_length, loopM_nil gr] at g2
      exact .inl ⟨q2 (Nat.le_refl _), g2 ι2 H2 σ2 .refl rp2 rs2⟩

/-! ### sources -/
/-- what is walked, by its value -/
def PIV (X : Cx) (tg : Expr) (r : V → Hp → (It → Hp → Prop) → Prop) : Prop := ∀ (pins : List (Addr × Obj)) (s : Shared) (σ : St) (H : Hp) (x : V) (v : Value) (R : It → Hp → Prop), Inv X pins σ H s → RelV x v → r x H R → wpAny (model X.prog X.w) X.A (pyIter v) (PIE X pins σ tg R) X.xe s
theorem piv_list : PIV X tg (fun x H R => ∃ a, x = .ref a ∧ (∃ xs, SqL X.K H a xs) ∧ R (Itl X.K a) H) := by
  intro pins s σ H x v R I r1 q1
  obtain ⟨a, e, ⟨xs, hq⟩, q⟩ := q1
  subst e
  cases r1
  obtain ⟨its, rv, p, hz⟩ := I.list hq
  refine wpAny_pyIter_list p.isList ?_
  refine ⟨s.heap.objs.size, [s.heap.objs.size], _, _, H, rfl, I.kept (t' := s.toks) fun b o e => Heap.get?_push_of_some _ e, turn_list a _, ⟨_, Heap.get?_push_size _ rfl, rfl, rfl⟩, fun b hb => ?_, q⟩
  have e : b = s.heap.objs.size := by simpa using hb
  subst e
  exact I.fpOk (Nat.le_refl _) (I.hok.fresh (Nat.le_refl _))
theorem piv_tup : PIV X tg (fun x H R => ∃ a, x = .ref a ∧ (∃ xs, SqT X.K H a xs) ∧ R (Itt X.K a) H) := by
  intro pins s σ H x v R I r1 q1
  obtain ⟨a, e, ⟨xs, hq⟩, q⟩ := q1
  subst e
  cases r1
  obtain ⟨its, rv, p, hz⟩ := I.tuple hq
  refine wpAny_pyIter_tuple (show s.heap.IsTuple a its.toArray from p) ?_
  refine ⟨s.heap.objs.size, [s.heap.objs.size], _, _, H, rfl, I.kept (t' := s.toks) fun b o e => Heap.get?_push_of_some _ e, turn_tuple a _, ⟨_, Heap.get?_push_size _ rfl, rfl, rfl⟩, fun b hb => ?_, q⟩
  have e : b = s.heap.objs.size := by simpa using hb
  subst e
  exact I.fpOk (Nat.le_refl _) (I.hok.fresh (Nat.le_refl _))
theorem piv_str : PIV X tg (fun x H R => ∃ y, x = .str y ∧ R (Its y) H) := by
  intro pins s σ H v u R I r1 q
  obtain ⟨x, ex, q⟩ := q
  subst ex
  obtain ⟨t, rfl⟩ := r1
  cases ha : x.cps.all (· < 128)
  · exact wpAny_pyIter_wide ha (pi_one (tk := s.toks) I _ (turn_str _ x t "str_iterator" (.inr rfl)) ⟨_, Heap.get?_push_size _ rfl, rfl, rfl⟩ q)
  · exact wpAny_pyIter_ascii ha (pi_one (tk := s.toks) I _ (turn_str _ x t "str_ascii_iterator" (.inl rfl)) ⟨_, Heap.get?_push_size _ rfl, rfl, rfl⟩ q)
theorem PIV.or {r r' : V → Hp → (It → Hp → Prop) → Prop} (h : PIV X tg r) (h' : PIV X tg r') : PIV X tg (fun x H R => r x H R ∨ r' x H R) := fun pins s σ H x v R I rx q => q.elim (h pins s σ H x v R I rx) (h' pins s σ H x v R I rx)
theorem PIV.pi {r : V → Hp → (It → Hp → Prop) → Prop} {te : TE} (h : PIV X tg r) (he : PE X e te) : PI X tg e (fun σ H R => te σ H fun x H1 => r x H1 R) :=
  ⟨fun pins s σ H R I q => thn (he.run pins s σ H _ I q) fun v s1 ⟨x, H1, I1, r1, q1⟩ => h pins s1 σ H1 x v R I1 r1 q1⟩
theorem scr_sq {K : PySem.W.Frag} {ι : Z} {H : Hp} {a : Addr} {vs : List V} (e : ι.k = K) (h : (∃ o, H a = some (.frz o (.lst vs))) ∨ KL ι.k a vs) : SqL K H a vs := by
  subst e
  exact h.imp (fun h => .inr h) id
theorem get_rds {H : Hp} {ι : Z} {ds : List D} {vs : List V} (r : RDs H ι ds vs) {i : Nat} {x : V} (e : vs[i]? = some x) : ∃ d, ds[i]? = some d ∧ RD H ι d x := by
  have hi : i < ds.length := by rw [r.length]; exact (List.getElem?_eq_some_iff.mp e).1
  obtain ⟨v, e', rd⟩ := r.get (List.getElem?_eq_getElem hi)
  rw [e] at e'; cases e'
  exact ⟨_, List.getElem?_eq_getElem hi, rd⟩
theorem RIt.of_list {mg : EnvK} {K : PySem.W.Frag} {H : Hp} {ι : Z} {ds : List D} {grd : Sto → Prop} {a : Addr} (hz : ds.length ≤ sizeLine)
    (h : ∀ H1 ι1 S1, Lift ι H ι1 H1 → Rep H1 ι1 mg S1 → grd S1 → ∃ vs, SqL K H1 a vs ∧ RDs H1 ι1 ds vs) : RIt mg H ι (ds, grd) (Itl K a) := by
  refine ⟨hz, fun i H1 ι1 S1 l rp gr => ?_⟩
  obtain ⟨vs, hr, r⟩ := h H1 ι1 S1 l rp gr
  have hl := r.length
  refine ⟨fun hi => ?_, fun hi => ⟨vs, hr, by rw [← hl]; exact hi⟩⟩
  have hi' : i < vs.length := by rw [← hl]; exact hi
  refine ⟨⟨vs, vs[i], hr, List.getElem?_eq_getElem hi'⟩, fun x H2 ⟨e, y⟩ => ?_⟩
  subst e
  obtain ⟨d, e, rd⟩ := get_rds r (y vs hr)
  exact ⟨d, e, .refl, rp, rd⟩
theorem RIt.of_tup {mg : EnvK} {K : PySem.W.Frag} {H : Hp} {ι : Z} {ds : List D} {grd : Sto → Prop} {a : Addr} {vs : List V} (hz : ds.length ≤ sizeLine)
    (h : Tp H a vs) (r : RDs H ι ds vs) : RIt mg H ι (ds, grd) (Itt K a) := by
  refine ⟨hz, fun i H1 ι1 S1 l rp gr => ?_⟩
  have hr := l.tup a vs h
  have r := r.mono l
  have hl := r.length
  refine ⟨fun hi => ?_, fun hi => ⟨vs, hr.sq, by rw [← hl]; exact hi⟩⟩
  have hi' : i < vs.length := by rw [← hl]; exact hi
  refine ⟨⟨vs, vs[i], hr.sq, List.getElem?_eq_getElem hi'⟩, fun x H2 ⟨e, y⟩ => ?_⟩
  subst e
  obtain ⟨d, e, rd⟩ := get_rds r (y vs (hr.sq))
  exact ⟨d, e, .refl, rp, rd⟩
theorem di_items (he : DE X W e ma) : DI X W tg e (sItems ma) :=
  pi_imp (((piv_list (X := X) (tg := tg)).or (piv_tup.or piv_str)).pi he) fun σ H R h => t_bind h fun ι S δ d v H' rp rs rd g => by
    cases d with
    | lst ds =>
      simp only [RD] at rd
      obtain ⟨a, vs, e, h1, n, z, h2⟩ := rd
      exact .inl ⟨a, e, ⟨vs, .of h1⟩, g.here rp (RIt.of_list z fun H1 ι1 S1 l _ _ => ⟨vs, .of (l.lst a vs n h1).1, h2.mono l⟩)⟩
    | scr ds =>
      simp only [RD] at rd
      obtain ⟨a, vs, e, h1, z, h2⟩ := rd
      exact .inl ⟨a, e, ⟨vs, scr_sq rp.kk h1⟩, g.here rp (RIt.of_list z fun H1 ι1 S1 l rp1 _ => ⟨vs, scr_sq rp.kk (h1.imp (fun ⟨o, h⟩ => ⟨o, l.scr a o vs h⟩) id), h2.mono l⟩)⟩
    | tup ds =>
      simp only [RD] at rd
      obtain ⟨a, vs, e, h1, z, h2⟩ := rd
      exact .inr (.inl ⟨a, e, ⟨vs, h1.sq⟩, g.here rp (RIt.of_tup z h1 h2)⟩)
    | str y =>
      simp only [RD] at rd
      refine .inr (.inr ⟨y, rd.1, g.here rp ⟨?_, fun i H1 ι1 S1 l rp gr => ⟨fun hi => ?_, fun hi => ?_⟩⟩⟩)
      · rw [List.length_map, Array.length_toList]; exact rd.2
      · have hi : i < y.cps.size := by rw [List.length_map, Array.length_toList] at hi; exact hi
        refine ⟨hi, fun x H2 ⟨e, c, e1, e2⟩ => ?_⟩
        subst e
        refine ⟨.str ⟨#[c]⟩, ?_, .refl, rp, ?_⟩
        · rw [List.getElem?_map, Array.getElem?_toList, e1]; rfl
        · simp only [RD]; exact ⟨e2, by show 1 ≤ sizeLine; decide⟩
      · rw [List.length_map, Array.length_toList] at hi; exact hi
    | ref k =>
      simp only [RD] at rd
      obtain ⟨a, e, h1⟩ := rd
      obtain ⟨o, e2, ro⟩ := rp.has h1
      simp only [e2] at g
      cases o with
      | lst ds =>
        obtain ⟨vs, h3, z, h4⟩ := ro
        refine .inl ⟨a, e, ⟨vs, .of h3⟩, g.here rp (RIt.of_list z fun H1 ι1 S1 l rp1 gr => ?_)⟩
        obtain ⟨ws, h5, _, h6⟩ := rp1.obj k a _ (l.pre k a h1) gr
        exact ⟨ws, .of h5, h6⟩
      | _ => exact g.elim
    | _ => exact g.elim
theorem rangeD_get {lo : Int} {n i : Nat} (h : i < n) : (rangeD lo n)[i]? = some (.int (lo + i)) := by
  unfold rangeD
  rw [List.getElem?_map, List.getElem?_range h]; rfl
theorem RIt.of_range {mg : EnvK} {H : Hp} {ι : Z} {lo : Int} {n : Nat} {grd : Sto → Prop} (hz : n ≤ sizeLine) : RIt mg H ι (rangeD lo n, grd) (Itr lo n) := by
  have hl : (rangeD lo n).length = n := by simp [rangeD]
  refine ⟨by rw [hl]; exact hz, fun i H1 ι1 S1 l rp gr => ⟨fun hi => ?_, fun hi => ?_⟩⟩
  · rw [hl] at hi
    refine ⟨hi, fun x H2 ⟨e, y⟩ => ?_⟩
    subst e
    exact ⟨_, rangeD_get hi, .refl, rp, by simp only [RD]; exact y⟩
  · rw [hl] at hi; exact hi
theorem sz62 : ((sizeLine : Nat) : Int) < 2 ^ 62 := by rw [sizeLine_eq]; decide
theorem di_range1 {p q : Pos} (hg : Gl X "range") (hm : X.mg "range" = none) (ha : DE X W a ma) (hs : starEach [a] X.env = [(false, eval a X.env)] := by rfl) : DI X W tg (.Call (.Name "range" p) [a] [] q) (sRange1 ma) :=
  pi_imp (pi_range1 hg hm (da_cons ha da_nil hs) hs) fun σ H J ⟨ι, S, δ, rp, rs, g⟩ => by
    refine ⟨ι, S, δ, rp, rs, ?_⟩
    unfold sRange1 at g
    unfold mCons mNil
    cases e : ma δ S with
    | ok d S1 =>
      rw [e] at g
      simp only [PM.R.bind_ok] at g ⊢
      intro ι' H' vs st rp' rd
      split at g
      · rename_i j
        split at g
        · rename_i hj
          simp only [RDs, RD] at rd
          obtain ⟨v, r, e, e1, e2⟩ := rd
          subst e e1 e2
          unfold limR lim62 at hj
          simp only [Bool.and_eq_true, decide_eq_true_eq] at hj
          exact ⟨j, rfl, hj.1.2.1, hj.1.2.2, g.at st rp' (RIt.of_range (by omega))⟩
        · exact g.elim
      · exact g.elim
    | exc c S1 => rw [e] at g; exact g
    | stuck => rw [e] at g; exact g.elim
theorem di_range2 {p q : Pos} (hg : Gl X "range") (hm : X.mg "range" = none) (ha : DE X W a ma) (hb : DE X W b mb) (hs : starEach [a, b] X.env = [(false, eval a X.env), (false, eval b X.env)] := by rfl) (hs2 : starEach [b] X.env = [(false, eval b X.env)] := by rfl) :
    DI X W tg (.Call (.Name "range" p) [a, b] [] q) (sRange2 ma mb) :=
  pi_imp (pi_range2 hg hm (da_cons ha (da_cons hb da_nil hs2) (by rw [hs, hs2])) hs hs2) fun σ H J ⟨ι, S, δ, rp, rs, g⟩ => by
    refine ⟨ι, S, δ, rp, rs, ?_⟩
    unfold sRange2 at g
    unfold mCons mNil
    cases e : ma δ S with
    | ok d S1 =>
      rw [e] at g
      simp only [PM.R.bind_ok] at g ⊢
      cases e2 : mb δ S1 with
      | ok d2 S2 =>
        rw [e2] at g
        simp only [PM.R.bind_ok] at g ⊢
        intro ι' H' vs st rp' rd
        split at g
        · rename_i i j
          split at g
          · rename_i hj
            simp only [RDs, RD] at rd
            obtain ⟨v, r, e, e1, v2, r2, e3, e4, e5⟩ := rd
            subst e e3 e1 e4 e5
            unfold limR lim62 at hj
            simp only [Bool.and_eq_true, decide_eq_true_eq] at hj
            exact ⟨i, j, rfl, ⟨hj.1.1.1, hj.1.1.2, hj.1.2.1, hj.1.2.2⟩, g.at st rp' (RIt.of_range (by omega))⟩
          · exact g.elim
        · exact g.elim
      | exc c S2 => rw [e2] at g; exact g
      | stuck => rw [e2] at g; exact g.elim
    | exc c S1 => rw [e] at g; exact g
    | stuck => rw [e] at g; exact g.elim

/-! ### calls -/
/-- a def's promise: it answers as c does -/
def spD (mg : EnvK) (n : Nat) (c : List D → Sto → R D) : Sp := fun vs H Q E => vs.length = n ∧ ∃ ι S ds, Rep H ι mg S ∧ RDs H ι ds vs ∧ G mg E ι H RD (c ds S) Q
structure Has (P : Program) (w : World) (K : PySem.W.Frag) (mg : Str → Option Value) (base : Heap) (k : Nat) (x : Str) (n : Nat) (c : List D → Sto → R D) : Prop where
  ex : ∃ (f : Addr) (fd : FuncData) (ps : List Str), FnOk P w K mg base (L2N.CX P w) k f fd ps (spD ⟨mg, K⟩ n c) ∧ mg x = some (.ref f) ∧ PySem.W.keepIn K (.ref f) = true ∧ Binds K fd ps [] ∧ ps.length = n
/-- arguments whose number is known -/
def DAL (X : Cx) (W : WX) (es : List Expr) (m : Am) (n : Nat) : Prop := DA X W es m ∧ ∀ δ S ds S', m δ S = .ok ds S' → ds.length = n
theorem dal_nil : DAL X W [] mNil 0 := ⟨da_nil, fun δ S ds S' h => by simp only [mNil, R.ok.injEq] at h; rw [← h.1]; rfl⟩
theorem dal_cons {n : Nat} (ha : DE X W e ma) (hr : DAL X W es am n) (hs : starEach (e :: es) X.env = (false, eval e X.env) :: starEach es X.env := by rfl) : DAL X W (e :: es) (mCons ma am) (n + 1) :=
  ⟨da_cons ha hr.1 hs, fun δ S ds S' h => by
    unfold mCons at h
    cases h1 : ma δ S with
    | ok x S1 =>
      rw [h1] at h
      simp only [R.bind_ok] at h
      cases h2 : am δ S1 with
      | ok xs S2 =>
        rw [h2] at h
        simp only [R.bind_ok, R.ok.injEq] at h
        rw [← h.1, List.length_cons, hr.2 _ _ _ _ h2]
      | exc c S2 => rw [h2] at h; cases h
      | stuck => rw [h2] at h; cases h
    | exc c S1 => rw [h1] at h; cases h
    | stuck => rw [h1] at h; cases h⟩
theorem de_call {k n : Nat} {x : Str} {cf : List D → Sto → R D} (F : Has X.prog X.w X.K X.mg X.base k x n cf) (hr : Room k X.A) (tk : L2N.Takes X W) (hg : Gl X x) (ha : DAL X W (e :: es) am n)
    (hdb : (x == ("__debug__" : Str)) = false := by decide) (he : starEach (e :: es) X.env = (false, eval e X.env) :: starEach es X.env := by rfl) (hpl : (backTo pos (starEach es X.env)).any (·.1) = false := by rfl):
    DE X W (.Call (.Name x p) (e :: es) [] pos) (mApp cf am) := by
  obtain ⟨f, fd, ps, F, hm, hk, hb, hps⟩ := F.ex
  refine pe_imp (pe_callS F hr hg hm hk hb (fun σ => L2N.passAt tk σ) ha.1 hdb he hpl) fun σ H Q h => ?_
  obtain ⟨ι, S, δ, rp, rs, g⟩ := h
  refine ⟨ι, S, δ, rp, rs, ?_⟩
  have q := G.bind (Rl := RDs) g
  cases e1 : am δ S with
  | ok ds S1 =>
    rw [e1] at q
    intro ι' H' vs st rp' rd'
    obtain ⟨ι1, S2, ds2, st1, rp1, rd1, g1⟩ := q ι' H' vs st rp' rd'
    exact ⟨by rw [← rd'.length]; exact ha.2 _ _ _ _ e1, ι1, S2, ds2, rp1, rd1, g1⟩
  | exc c S1 => rw [e1] at q; exact q
  | stuck => rw [e1] at q; exact q
end
end PM

/-! PM, part 5: comprehensions, a def's end -/
namespace PM
open PySem PySem.Spec L2
abbrev w0 : WX := fun _ _ _ _ => False
theorem wipe_get (σ : St) (j : Nat) : ∀ vs : List Nat, (wipe σ vs)[j]? = if j ∈ vs then σ[j]?.map (fun _ => none) else σ[j]?
  | [] => by simp [wipe]
  | v :: vs => by
    unfold wipe
    by_cases h : v = j
    · subst h
      have ih := wipe_get σ v vs
      rw [if_pos (by simp), List.getElem?_set]
      simp only [↓reduceIte, wipe_length]
      by_cases hl : v < σ.length
      · rw [if_pos hl, List.getElem?_eq_getElem hl]; rfl
      · rw [if_neg hl, List.getElem?_eq_none (by omega)]; rfl
    · rw [List.getElem?_set_ne h, wipe_get σ j vs]
      by_cases hj : j ∈ vs
      · rw [if_pos hj, if_pos (by simp [hj])]
      · rw [if_neg hj, if_neg (by simp [hj]; exact fun e => h e.symm)]
theorem wipeD_get (δ : Loc) (j : Nat) : ∀ vs : List Nat, (wipeD δ vs)[j]? = if j ∈ vs then δ[j]?.map (fun _ => none) else δ[j]?
  | [] => by simp [wipeD]
  | v :: vs => by
    unfold wipeD
    have hlen : ∀ vs : List Nat, (wipeD δ vs).length = δ.length := fun vs => by
      induction vs with
      | nil => rfl
      | cons v vs ih => unfold wipeD; rw [List.length_set, ih]
    by_cases h : v = j
    · subst h
      rw [if_pos (by simp), List.getElem?_set]
      simp only [↓reduceIte, hlen]
      by_cases hl : v < δ.length
      · rw [if_pos hl, List.getElem?_eq_getElem hl]; rfl
      · rw [if_neg hl, List.getElem?_eq_none (by omega)]; rfl
    · rw [List.getElem?_set_ne h, wipeD_get δ j vs]
      by_cases hj : j ∈ vs
      · rw [if_pos hj, if_pos (by simp [hj])]
      · rw [if_neg hj, if_neg (by simp [hj]; exact fun e => h e.symm)]
theorem wipeD_length (δ : Loc) : ∀ vs : List Nat, (wipeD δ vs).length = δ.length
  | [] => rfl
  | v :: vs => by unfold wipeD; rw [List.length_set, wipeD_length δ vs]
theorem wipe_set {σ : St} {i : Nat} {x : Option V} {vs : List Nat} (h : i ∈ vs) : wipe (σ.set i x) vs = wipe σ vs := by
  apply List.ext_getElem?
  intro j
  rw [wipe_get, wipe_get]
  by_cases hj : j ∈ vs
  · rw [if_pos hj, if_pos hj, List.getElem?_set]
    split
    · rename_i e; subst e
      split
      · rename_i hl; rw [List.getElem?_eq_getElem hl]; rfl
      · rename_i hl; rw [List.getElem?_eq_none (by omega)]
    · rfl
  · rw [if_neg hj, if_neg hj, List.getElem?_set_ne (fun e => hj (by rw [← e]; exact h))]
theorem wipe_wipe (σ : St) (vs : List Nat) : wipe (wipe σ vs) vs = wipe σ vs := by
  apply List.ext_getElem?
  intro j
  rw [wipe_get, wipe_get]
  split
  · cases σ[j]? <;> rfl
  · rfl
section
variable {H : Hp} {ι : Z} {δ : Loc} {σ : St}
theorem RSt.wipe (rs : RSt H ι δ σ) (vs : List Nat) : RSt H ι (wipeD δ vs) (L2.wipe σ vs) := by
  refine ⟨by rw [wipeD_length, wipe_length, rs.len], fun i d e => ?_⟩
  rw [wipeD_get] at e
  rw [wipe_get]
  split at e
  · cases h : δ[i]? with
    | none => rw [h] at e; cases e
    | some o => rw [h] at e; cases e
  · rename_i hi
    rw [if_neg hi]
    exact rs.at' i d e
end
/-- a target that touches the slots vs alone -/
def TgR (vs : List Nat) (gt : TG) (gm : Gm) : Prop := ∀ (mg : EnvK) (W : XK) (ι : Z) (S : Sto) (H : Hp) (δ : Loc) (σ : St) (d : D) (v : V) (Q T : St → Hp → Prop),
  Rep H ι mg S → RSt H ι δ σ → RD H ι d v → G mg W ι H RSt (gm d δ S) Q → (∀ σ2 H2, L2.wipe σ2 vs = L2.wipe σ vs → Q σ2 H2 → T σ2 H2) → gt v σ H T
theorem tgr_name {i : Nat} {vs : List Nat} (h : i ∈ vs) : TgR vs (gName i) (gmName i) := fun mg W ι S H δ σ d v Q T rp rs rd g k => k _ _ (wipe_set h) (g.here rp (rs_set rs rd i))
theorem nms_runW {X : Cx} {mg : EnvK} {W : XK} {vs' : List Nat} : ∀ {es : List Expr} {is : List Nat} {t : TGs}, Nms X es is t → (∀ i ∈ is, i ∈ vs') → ∀ {ds : List D} {vs : List V} {δ : Loc} {σ : St} {S : Sto} {H : Hp} {ι : Z} {Q T : St → Hp → Prop}, Rep H ι mg S → RSt H ι δ σ → RDs H ι ds vs →
    G mg W ι H RSt (gmNames is ds δ S) Q → (∀ σ2 H2, L2.wipe σ2 vs' = L2.wipe σ vs' → Q σ2 H2 → T σ2 H2) → vs.length = is.length ∧ t vs σ H T
  | _, _, _, .nil, hi, [], vs, δ, σ, S, H, ι, Q, T, rp, rs, r, g, k => by
    simp only [RDs] at r; subst r
    exact ⟨rfl, rfl, k _ _ rfl (g.here rp rs)⟩
  | _, _, _, .nil, hi, d :: ds, vs, δ, σ, S, H, ι, Q, T, rp, rs, r, g, k => g.elim
  | _, _, _, .cons h, hi, [], vs, δ, σ, S, H, ι, Q, T, rp, rs, r, g, k => g.elim
  | _, _, _, .cons (i := i) h, hi, d :: ds, vs, δ, σ, S, H, ι, Q, T, rp, rs, r, g, k => by
    simp only [RDs] at r
    obtain ⟨v, w, e, r1, r2⟩ := r
    subst e
    obtain ⟨q1, q2⟩ := nms_runW (W := W) (vs' := vs') h (fun j hj => hi j (List.mem_cons_of_mem _ hj)) rp (rs_set rs r1 _) r2 g (fun σ2 H2 e q => k σ2 H2 (by rw [e]; exact wipe_set (hi i (List.mem_cons_self))) q)
    exact ⟨by simp [q1], v, w, rfl, q2⟩
theorem tgr_tup {X : Cx} {K : PySem.W.Frag} {es : List Expr} {is vs' : List Nat} {t : TGs} (nm : Nms X es is t) (hi : ∀ i ∈ is, i ∈ vs') : TgR vs' (gTup K is.length t) (gmTup is) := fun mg W ι S H δ σ d v Q T rp rs rd g k => by
  cases d with
  | tup ds =>
    simp only [RD] at rd
    obtain ⟨a, vs, e, h1, z, h2⟩ := rd
    obtain ⟨q1, q2⟩ := nms_runW nm hi rp rs h2 g k
    exact ⟨a, vs, e, h1.sq, q1, q2⟩
  | _ => exact g.elim
section
variable {mg : EnvK} {α β γ ε : Type} {W : XK} {ι ι2 : Z} {H H2 : Hp}
theorem G.quiet {Rl : Rel α β} {Rl2 : Rel γ ε} {r : R α} {k : α → Sto → R γ} {Q : ε → Hp → Prop} (W0 : XK) (h : G mg W ι H Rl2 (r.quiet.bind k) Q) :
    G mg W0 ι2 H2 Rl r (fun b H' => ∃ ι' S' a, Step ι2 H2 ι' H' ∧ Rep H' ι' mg S' ∧ Rl H' ι' a b ∧ G mg W ι H Rl2 (k a S') Q) := by
  cases r with
  | ok a S => exact fun ι' H' b st rp rl => ⟨ι', S, a, st, rp, rl, h⟩
  | exc c S => exact h.elim
  | stuck => exact h.elim
end
theorem compM_grd {grd : Sto → Prop} {g : Gm} {t : Tm} {e : Em} {δ : Loc} {acc xs : List D} {S : Sto} {mg W ι H} {Q : V → Hp → Prop} (h : G mg W ι H RD (compM grd g t e δ acc xs S) Q) : grd S := by
  cases xs with
  | nil =>
    rw [compM] at h
    split at h
    · assumption
    · exact h.elim
  | cons x xs =>
    rw [compM] at h
    split at h
    · assumption
    · exact h.elim
section
variable {X : Cx} {W : WX} {pos : Pos} {m : Em} {t : Tm} {g : Gm}
def DTs (X : Cx) (W : WX) (ifs : List Expr) (m : Tm) : Prop := PTs X ifs (tD X.ek W REq m)
theorem dts_nil : DTs X W [] mYes := ⟨fun pins s σ H Q I ⟨ι, S, δ, rp, rs, g⟩ => pts_nil.run pins s σ H Q I (g.here rp rfl)⟩
theorem dts_one {c : Expr} (h : DT X W c t) : DTs X W [c] t := pts_one h
theorem comp_core {tg : Expr} {gt : TG} {src : Src} {vs : List Nat} (hr : TgR vs gt g) {σ : St} {H : Hp} {Q : VK} (h : tDE X.ek W (mComp src g t m vs) σ H Q) :
    tLc (tDI X.ek W src) gt (tD X.ek w0 REq t) (tDE X.ek w0 m) vs σ H Q := by
  refine t_bind h fun ι S δ p J H1 rp rs rit gs => ?_
  obtain ⟨hz, rit⟩ := rit
  intro D hD
  have hno := rp.fresh hD
  refine ⟨fun i m' H2 => m' = p.1.length - i ∧ i ≤ p.1.length ∧ ∃ ι2 S2 accD accV, Lift ι H1 ι2 H2 ∧ ι2.b = D :: ι.b ∧ Rep H2 ι2 X.ek S2 ∧ H2 D = some (.lst accV) ∧ RDs H2 ι2 accD accV ∧ accD.length ≤ i ∧
      (∀ x ∈ ι.b, ∀ o, H1 x = some o → H2 x = some o) ∧ G X.ek (wat W σ) ι H1 RD (compM p.2 g t m (wipeD δ vs) accD (p.1.drop i) S2) Q,
    ⟨_, rfl, Nat.zero_le _, ι.hide D, S, [], [], Lift.hide hD, rfl, rp.hide hD (.intro (fun _ _ z => nomatch z) (fun _ _ z => nomatch z)), upd_same, RDs.nil, Nat.le_refl _, fun x _ o e => by rw [upd_ne (ne_of_none e hD)]; exact e, by rw [List.drop_zero]; exact gs⟩, ?_⟩
  rintro i m' H2 ⟨rfl, hi, ι2, S2, accD, accV, lf, eb, rp2, hH, ra, hl, hid, g2⟩
  have gr := compM_grd g2
  obtain ⟨q1, q2⟩ := rit i H2 ι2 S2 lf rp2 gr
  by_cases hlt : i < p.1.length
  · obtain ⟨q3, q4⟩ := q1 hlt
    refine .inr ⟨q3, fun H' => i + 1 ≤ p.1.length ∧ ∃ ι2 S2 accD accV, Lift ι H1 ι2 H' ∧ ι2.b = D :: ι.b ∧ Rep H' ι2 X.ek S2 ∧ H' D = some (.lst accV) ∧ RDs H' ι2 accD accV ∧ accD.length ≤ i + 1 ∧
      (∀ x ∈ ι.b, ∀ o, H1 x = some o → H' x = some o) ∧ G X.ek (wat W σ) ι H1 RD (compM p.2 g t m (wipeD δ vs) accD (p.1.drop (i + 1)) S2) Q, fun H' q => ⟨_, by omega, rfl, q⟩, fun x H3 y => ?_⟩
    obtain ⟨d, e, st3, rp3, rd⟩ := q4 x H3 y
    have e2 : p.1.drop i = d :: p.1.drop (i + 1) := by
      have := List.getElem?_eq_some_iff.mp e
      rw [List.drop_eq_getElem_cons hlt, this.2]
    rw [e2, compM, if_pos gr] at g2
    have rs3 : RSt H3 ι2 (wipeD δ vs) (L2.wipe σ vs) := (rs.wipe vs).mono (lf.trans st3.up)
    have hDb : D ∈ ι2.b := by rw [eb]; exact List.mem_cons_self
    have sub : ∀ x ∈ ι.b, x ∈ ι2.b := fun x hx => by rw [eb]; exact List.mem_cons_of_mem _ hx
    -- the target
    have gq := G.quiet (ι2 := ι2) (H2 := H3) (Rl := RSt) (fun _ _ _ => False) g2
    refine hr X.ek _ ι2 S2 H3 (wipeD δ vs) (L2.wipe σ vs) d x _ _ rp3 rs3 rd gq ?_
    rw [wipe_wipe]
    · rintro σ2 H4 hw ⟨ι4, S4, δ4, st4, rp4, rs4, g4⟩
      refine ⟨hw, ι4, S4, δ4, rp4, rs4, (G.quiet (ι2 := ι4) (H2 := H4) (Rl := REq) _ g4).imp fun b H5 ⟨ι5, S5, k, st5, rp5, ek, g5⟩ => ?_⟩
      rw [show b = k from ek]
      have st35 : Step ι2 H2 ι5 H5 := (st3.trans st4).trans st5
      cases k with
      | false =>
        rw [if_neg Bool.false_ne_true] at g5 ⊢
        exact ⟨hlt, ι5, S5, accD, accV, lf.trans st35.up, st35.bb.trans eb, rp5, st35.hid D hDb _ hH, ra.mono st35.up, by omega, fun x hx o ex => st35.hid x (sub x hx) o (hid x hx o ex), g5⟩
      | true =>
        rw [if_pos rfl] at g5 ⊢
        refine ⟨ι5, S5, δ4, rp5, rs4.mono st5.up, (G.quiet (ι2 := ι5) (H2 := H5) (Rl := RD) _ g5).imp fun yv H6 ⟨ι6, S6, yd, st6, rp6, ry, g6⟩ => ?_⟩
        have st36 : Step ι2 H2 ι6 H6 := st35.trans st6
        have eb6 : ι6.b = D :: ι.b := st36.bb.trans eb
        have hD6 : D ∈ ι6.b := by rw [eb6]; exact List.mem_cons_self
        have hH6 := st36.hid D hDb _ hH
        have la : accV.length = accD.length := ra.length.symm
        refine ⟨accV, hH6, by omega, hlt, ?_⟩
        obtain ⟨rp7, l7⟩ := rp6.writeHid (o := .lst (accV ++ [yv])) hD6 (.intro (fun _ _ z => nomatch z) (fun _ _ z => nomatch z))
        refine ⟨ι6, S6, accD ++ [yd], accV ++ [yv], (lf.trans st36.up).trans l7, eb6, rp7, upd_same, ((ra.mono st36.up).mono l7).app (.cons (ry.mono l7) .nil), by simp; omega, fun x hx o ex => ?_, g6⟩
        have : x ≠ D := fun z => hno.2 (z ▸ hx)
        rw [upd_ne this]
        exact st36.hid x (sub x hx) o (hid x hx o ex)
  · have e : i = p.1.length := by omega
    subst e
    rw [List.drop_length, compM, if_pos gr] at g2
    refine .inl ⟨q2 (Nat.le_refl _), ?_⟩
    have eb' : ι2.b = D :: ι.b := eb
    refine g2.at (ι' := ⟨ι2.a, ι.b, ι2.k⟩) (H' := H2) ⟨lf.trans (Lift.show eb'), rfl, hid⟩ (rp2.show eb') ?_
    simp only [RD]
    exact ⟨D, accV, rfl, hH, ⟨(rp2.bt D (by rw [eb]; exact List.mem_cons_self)).1, hno.2⟩, by omega, ra.mono (Lift.show eb')⟩
theorem de_comp {elt tg iter : Expr} {ifs : List Expr} {scope : Scope} {own : List (Str × Nat)} {gt : TG} {src : Src} (hc : X.calm = true) (hN : X.N.Nodup) (hi : DI X W tg iter src) (ok : BlkOk X.N X.env.scope scope own)
    (hg : ∀ (s : Shared) (H : Hp) (C : Addr) (cl : List (Str × Addr)) (fp : List Addr), PG (X.blk s H scope (compEnvC scope cl C X.env) fp) tg gt) (hr : TgR (own.map (·.2)) gt g)
    (ht : ∀ (s : Shared) (H : Hp) (C : Addr) (cl : List (Str × Addr)) (fp : List Addr), DTs (X.blk s H scope (compEnvC scope cl C X.env) fp) w0 ifs t)
    (he : ∀ (s : Shared) (H : Hp) (C : Addr) (cl : List (Str × Addr)) (fp : List Addr), DE (X.blk s H scope (compEnvC scope cl C X.env) fp) w0 elt m) (hs : ∀ x, foldedSetIterable iter X.env x = pure x := by intro _; rfl) :
    DE X W (.ListComp elt [⟨tg, iter, ifs, 0⟩] scope pos) (mComp src g t m (own.map (·.2))) :=
  pe_imp (pe_lc (tt := tD X.ek w0 REq t) (te := tDE X.ek w0 m) hc hN hi ok hg ht he hs) fun σ H Q h => comp_core (tg := tg) hr h
theorem ds_setComp {i : Nat} {y : Str} {py spos : Pos} {elt tg iter : Expr} {ifs : List Expr} {scope : Scope} {own : List (Str × Nat)} {gt : TG} {src : Src} (hc : X.calm = true) (hN : X.N.Nodup) (hy : X.N[i]? = some y) (hyl : X.env.scope.names.lookup y = some .local)
    (hsw : swapsWith (.ListComp elt [⟨tg, iter, ifs, 0⟩] scope pos) (some (.Name y py)) spos.line X.env = pure true) (hi : DI X W tg iter src) (ok : BlkOk X.N X.env.scope scope own)
    (hg : ∀ (s : Shared) (H : Hp) (C : Addr) (cl : List (Str × Addr)) (fp : List Addr), PG (X.blk s H scope (compEnvC scope cl C X.env) fp) tg gt) (hr : TgR (own.map (·.2)) gt g)
    (ht : ∀ (s : Shared) (H : Hp) (C : Addr) (cl : List (Str × Addr)) (fp : List Addr), DTs (X.blk s H scope (compEnvC scope cl C X.env) fp) w0 ifs t)
    (he : ∀ (s : Shared) (H : Hp) (C : Addr) (cl : List (Str × Addr)) (fp : List Addr), DE (X.blk s H scope (compEnvC scope cl C X.env) fp) w0 elt m) (hs : ∀ x, foldedSetIterable iter X.env x = pure x := by intro _; rfl) :
    DS X W (.Assign [.Name y py] (.ListComp elt [⟨tg, iter, ifs, 0⟩] scope pos) spos) (sAsg (mComp src g t m (own.map (·.2))) (gmName i)) :=
  ps_imp (ps_setLc (tt := tD X.ek w0 REq t) (te := tDE X.ek w0 m) hc hN hy hyl hsw hi ok hg ht he hs) fun D σ H h =>
    comp_core (tg := tg) hr (s_bind h fun ι S δ d v H' rp rs r g => g ι H' _ .refl rp (rs_set rs r _))
end
end PM

/-! PM, part 6: a def's body and its end -/
namespace PM
open PySem PySem.Spec L2 PyProof.Rows
def runB (body : Sm) (N : Nat) (ds : List D) (S : Sto) : R D := match body (ds.map some ++ List.replicate (N - ds.length) none) S with
  | .nx _ S' => .ok .non S'
  | .rt d S' => .ok d S'
  | .exc c _ S' => .exc c S'
  | _ => .stuck
/-- what is done with a def's objects at its end -/
abbrev Fin := Sto → R D → R D
def FinOk (fin : Fin) : Prop := ∀ (mg : EnvK) (W : XK) (ι : Z) (S : Sto) (H : Hp) (r : R D) (Q : VK), Rep H ι mg S → G mg W ι H RD (fin S r) Q → G mg W ι H RD r Q
def finRaw : Fin := fun _ r => r
theorem finRaw_ok : FinOk finRaw := fun _ _ _ _ _ _ _ _ h => h
section
variable {P : Program} {w : World} {K : PySem.W.Frag} {mg : Str → Option Value} {base : Heap}
theorem rst_start {H : Hp} {ι : Z} {N : List Str} {ds : List D} {vs : List V} (r : RDs H ι ds vs) : RSt H ι (ds.map some ++ List.replicate (N.length - ds.length) none) (L2.start N vs) := by
  have hl := r.length
  refine ⟨by simp [L2.start, hl], fun i d e => ?_⟩
  by_cases hi : i < ds.length
  · rw [List.getElem?_append_left (by simpa using hi), List.getElem?_map] at e
    rw [List.getElem?_eq_getElem hi] at e
    have e2 : ds[i] = d := by simpa using e
    obtain ⟨v, hv, rd⟩ := r.get (List.getElem?_eq_getElem hi)
    refine ⟨v, ?_, by rw [← e2]; exact rd⟩
    unfold L2.start
    rw [List.getElem?_append_left (by simp [← hl, hi]), List.getElem?_map, hv]; rfl
  · rw [List.getElem?_append_right (by simpa using hi)] at e
    have := List.mem_of_getElem? e
    rw [List.mem_replicate] at this
    exact absurd this.2 (by simp)
theorem has_fn {x qual : Str} {st : Stmt} {f : Addr} {fd : FuncData} {N ps : List Str} {k n : Nat} {body : Sm} {fin : Fin} (F : Fun K x qual st f fd) (Sc : FnScope N ps (defScope st)) (hn : ps.length = n) (hf : FinOk fin)
    (h : ∀ (cdv : Value) (A : Around) (outer : List Env) (s : Shared) (H : Hp) (E : XK), Room k (A.deeper (envOfC qual (defScope st) s.heap.objs.size f cdv)) →
      DSs (cxOf (L2N.CX P w) P w K mg base N qual (defScope st) f cdv A outer s H E) (fun cls d _ H => E cls d H) (defBody st) body) :
    FnOk P w K mg base (L2N.CX P w) (k + 1) f fd ps (spD ⟨mg, K⟩ n (fun ds S => fin S (runB body N.length ds S))) := by
  obtain ⟨oc, od, kV, doc, pm, an, cdv, ct, osl, rfl, lk, hcd⟩ := F.ex
  refine fn_of lk hcd Sc (fun vs H Q E q => by rw [q.1, hn]) fun A outer s H vs Q E hr hsp => ?_
  refine ⟨_, h cdv A outer s H E hr, ?_⟩
  obtain ⟨hl, ι, S, ds, rp, rd, g⟩ := hsp
  have g := hf _ _ _ _ _ _ _ rp g
  refine ⟨ι, S, _, rp, rst_start rd, ?_⟩
  show GS _ _ ι H _ _
  unfold runB at g
  revert g
  cases body (ds.map some ++ List.replicate (N.length - ds.length) none) S with
  | nx δ S' => exact fun g ι' H' σ' st rp rs => g ι' H' .non st rp (by simp only [RD])
  | rt d S' => exact fun g ι' H' v st rp r => g ι' H' v st rp r
  | exc c δ S' => exact fun g ι' H' σ' cls dx st rp rs rx => g ι' H' cls dx st rp rx
  | bk δ S' => exact fun g => g.elim
  | ct δ S' => exact fun g => g.elim
  | stuck => exact fun g => g.elim
theorem has_of {x qual : Str} {st : Stmt} {f : Addr} {fd : FuncData} {N ps : List Str} {k n : Nat} {body : Sm} {fin : Fin} (F : Fun K x qual st f fd) (Sc : FnScope N ps (defScope st)) (hm : mg x = some (.ref f)) (hb : Binds K fd ps []) (hn : ps.length = n) (hf : FinOk fin)
    (h : ∀ (cdv : Value) (A : Around) (outer : List Env) (s : Shared) (H : Hp) (E : XK), Room k (A.deeper (envOfC qual (defScope st) s.heap.objs.size f cdv)) →
      DSs (cxOf (L2N.CX P w) P w K mg base N qual (defScope st) f cdv A outer s H E) (fun cls d _ H => E cls d H) (defBody st) body) :
    Has P w K mg base (k + 1) x n (fun ds S => fin S (runB body N.length ds S)) := ⟨f, fd, ps, has_fn F Sc hn hf h, hm, F.kp, hb, hn⟩
theorem has_zero {x qual : Str} {st : Stmt} {f : Addr} {fd : FuncData} {ps : List Str} {n : Nat} (F : Fun K x qual st f fd) (hm : mg x = some (.ref f)) (hb : Binds K fd ps []) (hn : ps.length = n) : Has P w K mg base 0 x n (fun _ _ => .stuck) :=
  ⟨f, fd, ps, ⟨fun vs H Q E q => by rw [q.1, hn], fun A outer s H args us vs Q E _ _ _ _ q => by
    obtain ⟨_, ι, S, ds, _, _, g⟩ := q
    exact g.elim⟩, hm, F.kp, hb, hn⟩
end
/-! ### no new objects are left behind -/
section
variable (n : Nat)
mutual
def D.cl : D → Bool
  | .tup ds => D.cls ds
  | .lst ds => D.cls ds
  | .scr ds => D.cls ds
  | .dct _ ds => D.cls ds
  | .ref m => decide (m < n)
  | _ => true
def D.cls : List D → Bool
  | [] => true
  | d :: ds => D.cl d && D.cls ds
end
def MO.cl : MO → Bool
  | .lst ds => D.cls n ds
  | .dK _ ds => D.cls n ds
  | .dKL _ ds => D.cls n ds
  | .dT _ ds => D.cls n ds
  | .ins _ _ ds => D.cls n ds
end
section
variable {H : Hp} {ι : Z} {mg : EnvK}
mutual
theorem RD.cl : ∀ (d : D) (v : V), RD H ι d v → D.cl ι.a.length d = true
  | .non, _, _ => by simp only [D.cl]
  | .bl _, _, _ => by simp only [D.cl]
  | .int _, _, _ => by simp only [D.cl]
  | .str _, _, _ => by simp only [D.cl]
  | .tup ds, _, h => by
    simp only [RD] at h; simp only [D.cl]
    obtain ⟨a, vs, e, h1, z, h2⟩ := h
    exact RDs.cls ds vs h2
  | .lst ds, _, h => by
    simp only [RD] at h; simp only [D.cl]
    obtain ⟨a, vs, e, h1, n, z, h2⟩ := h
    exact RDs.cls ds vs h2
  | .scr ds, _, h => by
    simp only [RD] at h; simp only [D.cl]
    obtain ⟨a, vs, e, h1, z, h2⟩ := h
    exact RDs.cls ds vs h2
  | .dct ks ds, _, h => by
    simp only [RD] at h; simp only [D.cl]
    obtain ⟨a, vs, e, h1, n, z, y, h2⟩ := h
    exact RDs.cls ds vs h2
  | .ref m, _, h => by
    simp only [RD] at h; simp only [D.cl]
    obtain ⟨a, e, h1⟩ := h
    exact decide_eq_true (List.getElem?_eq_some_iff.mp h1).1
  | .exn _, _, _ => by simp only [D.cl]
theorem RDs.cls : ∀ (ds : List D) (vs : List V), RDs H ι ds vs → D.cls ι.a.length ds = true
  | [], _, _ => by simp only [D.cls]
  | d :: ds, _, h => by
    simp only [RDs] at h; simp only [D.cls]
    obtain ⟨v, r, e, h1, h2⟩ := h
    rw [RD.cl d v h1, RDs.cls ds r h2]; rfl
end
abbrev Z.cut (ι : Z) (n : Nat) : Z := ⟨ι.a.take n, ι.b, ι.k⟩
theorem Z.no_cut {ι : Z} {n : Nat} {a : Addr} (h : ι.no a) : (ι.cut n).no a := ⟨fun q => h.1 (List.mem_of_mem_take q), h.2⟩
mutual
theorem RD.cut (n : Nat) : ∀ (d : D) (v : V), RD H ι d v → D.cl n d = true → RD H (ι.cut n) d v
  | .non, _, h, _ => by simp only [RD] at h ⊢; exact h
  | .bl _, _, h, _ => by simp only [RD] at h ⊢; exact h
  | .int _, _, h, _ => by simp only [RD] at h ⊢; exact h
  | .str _, _, h, _ => by simp only [RD] at h ⊢; exact h
  | .tup ds, _, h, c => by
    simp only [RD] at h ⊢; simp only [D.cl] at c
    obtain ⟨a, vs, e, h1, z, h2⟩ := h
    exact ⟨a, vs, e, h1, z, RDs.cut n ds vs h2 c⟩
  | .lst ds, _, h, c => by
    simp only [RD] at h ⊢; simp only [D.cl] at c
    obtain ⟨a, vs, e, h1, no, z, h2⟩ := h
    exact ⟨a, vs, e, h1, Z.no_cut no, z, RDs.cut n ds vs h2 c⟩
  | .scr ds, _, h, c => by
    simp only [RD] at h ⊢; simp only [D.cl] at c
    obtain ⟨a, vs, e, h1, z, h2⟩ := h
    exact ⟨a, vs, e, h1, z, RDs.cut n ds vs h2 c⟩
  | .dct ks ds, _, h, c => by
    simp only [RD] at h ⊢; simp only [D.cl] at c
    obtain ⟨a, vs, e, h1, no, z, y, h2⟩ := h
    exact ⟨a, vs, e, h1, Z.no_cut no, z, y, RDs.cut n ds vs h2 c⟩
  | .ref m, _, h, c => by
    simp only [RD] at h ⊢; simp only [D.cl, decide_eq_true_eq] at c
    obtain ⟨a, e, h1⟩ := h
    exact ⟨a, e, by rw [List.getElem?_take_of_lt c]; exact h1⟩
  | .exn _, _, h, _ => by simp only [RD] at h ⊢; exact h
theorem RDs.cut (n : Nat) : ∀ (ds : List D) (vs : List V), RDs H ι ds vs → D.cls n ds = true → RDs H (ι.cut n) ds vs
  | [], _, h, _ => by simp only [RDs] at h ⊢; exact h
  | d :: ds, _, h, c => by
    simp only [RDs] at h ⊢; simp only [D.cls, Bool.and_eq_true] at c
    obtain ⟨v, r, e, h1, h2⟩ := h
    exact ⟨v, r, e, RD.cut n d v h1 c.1, RDs.cut n ds r h2 c.2⟩
end
theorem RO.cut (n : Nat) {a : Addr} : ∀ {o : MO}, RO H ι mg a o → o.cl n = true → RO H (ι.cut n) mg a o
  | .lst ds, ⟨vs, e, z, r⟩, c => ⟨vs, e, z, r.cut n _ _ c⟩
  | .dK ks ds, ⟨vs, e, z, y, r⟩, c => ⟨vs, e, z, y, r.cut n _ _ c⟩
  | .dKL ks ds, ⟨o, vs, e, z, y, r⟩, c => ⟨o, vs, e, z, y, r.cut n _ _ c⟩
  | .dT ks ds, ⟨vs, e, z, y, r⟩, c => ⟨vs, e, z, y, r.cut n _ _ c⟩
  | .ins cc fs ds, ⟨C, dx, vs, m, e, z, r⟩, c => ⟨C, dx, vs, m, e, z, r.cut n _ _ c⟩
theorem RO.cl {a : Addr} : ∀ {o : MO}, RO H ι mg a o → o.cl ι.a.length = true
  | .lst ds, ⟨vs, e, z, r⟩ => RDs.cls ds vs r
  | .dK ks ds, ⟨vs, e, z, y, r⟩ => RDs.cls ds vs r
  | .dKL ks ds, ⟨o, vs, e, z, y, r⟩ => RDs.cls ds vs r
  | .dT ks ds, ⟨vs, e, z, y, r⟩ => RDs.cls ds vs r
  | .ins cc fs ds, ⟨C, dx, vs, m, e, z, r⟩ => RDs.cls ds vs r
end
/-- the old objects hold no new ones -/
def ClS (S S' : Sto) : Prop := ∀ (m : Nat) (o : MO), m < S.length → S'[m]? = some o → S[m]? = some o ∨ o.cl S.length = true
theorem ClS.refl {S : Sto} : ClS S S := fun _ _ _ h => .inl h
theorem ClS.app {S T : Sto} : ClS S (S ++ T) := fun m o h e => .inl (by rw [List.getElem?_append_left h] at e; exact e)
theorem cut_step {H H' : Hp} {ι ι' : Z} {mg : EnvK} {S S' : Sto} (rp : Rep H ι mg S) (st : Step ι H ι' H') (rp' : Rep H' ι' mg S') (c : ClS S S') : Step ι H (ι'.cut S.length) H' ∧ Rep H' (ι'.cut S.length) mg (S'.take S.length) := by
  have hl : ι.a.length ≤ ι'.a.length := by
    rcases Nat.lt_or_ge ι'.a.length ι.a.length with h | h
    · have := st.up.pre ι'.a.length (ι.a[ι'.a.length]) (List.getElem?_eq_getElem h)
      rw [List.getElem?_eq_none (Nat.le_refl _)] at this; cases this
    · exact h
  refine ⟨⟨⟨fun m a h => ?_, st.up.tup, fun a xs n h => ⟨(st.up.lst a xs n h).1, Z.no_cut (st.up.lst a xs n h).2⟩, st.up.scr, fun a xs n h => ⟨(st.up.dct a xs n h).1, Z.no_cut (st.up.dct a xs n h).2⟩, st.up.kk, st.up.frz⟩, st.bb, st.hid⟩,
    ⟨rp'.kk, by simp [rp'.len], rp'.nd.sublist (List.take_sublist _ _), fun x hx => ⟨fun q => (rp'.bt x hx).1 (List.mem_of_mem_take q), (rp'.bt x hx).2⟩, fun m a o h1 h2 => ?_⟩⟩
  · have hm : m < S.length := by rw [← rp.len]; exact (List.getElem?_eq_some_iff.mp h).1
    show (ι'.a.take S.length)[m]? = some a
    rw [List.getElem?_take_of_lt hm]; exact st.up.pre m a h
  · have h1 : (ι'.a.take S.length)[m]? = some a := h1
    have hm : m < S.length := by
      have := (List.getElem?_eq_some_iff.mp h1).1
      simp at this; omega
    rw [List.getElem?_take_of_lt hm] at h1 h2
    refine (rp'.obj m a o h1 h2).cut _ ?_
    rcases c m o hm h2 with q | q
    · have hi : m < ι.a.length := by rw [rp.len]; exact hm
      have := (rp.obj m _ o (List.getElem?_eq_getElem hi) q).cl
      rw [rp.len] at this; exact this
    · exact q
/-! an answer without the new objects' numbers -/
mutual
def fz (rc : List D → Option (List D)) (S : Sto) (n : Nat) : D → Option D
  | .ref m => if m < n then some (.ref m) else match S[m]? with
    | some (.lst ds) => (rc ds).map .lst
    | some (.dK ks ds) => (rc ds).map (.dct ks)
    | _ => none
  | .tup ds => (fzs rc S n ds).map .tup
  | .lst ds => (fzs rc S n ds).map .lst
  | .scr ds => (fzs rc S n ds).map .scr
  | .dct ks ds => (fzs rc S n ds).map (.dct ks)
  | .non => some .non
  | .bl b => some (.bl b)
  | .int i => some (.int i)
  | .str s => some (.str s)
  | .exn a => some (.exn a)
def fzs (rc : List D → Option (List D)) (S : Sto) (n : Nat) : List D → Option (List D)
  | [] => some []
  | d :: ds => (fz rc S n d).bind fun e => (fzs rc S n ds).map (e :: ·)
end
def frz (S : Sto) (n : Nat) : Nat → List D → Option (List D)
  | 0, ds => fzs (fun _ => none) S n ds
  | k + 1, ds => fzs (frz S n k) S n ds
section
variable {H : Hp} {ι : Z} {mg : EnvK} {S : Sto} {n : Nat} {rc : List D → Option (List D)}
mutual
theorem fz_ok (rp : Rep H ι mg S) (hrc : ∀ ds es vs, rc ds = some es → RDs H ι ds vs → RDs H (ι.cut n) es vs) : ∀ (d e : D) (v : V), fz rc S n d = some e → RD H ι d v → RD H (ι.cut n) e v
  | .non, e, v, h, r => by simp only [fz, Option.some.injEq] at h; subst h; simp only [RD] at r ⊢; exact r
  | .bl _, e, v, h, r => by simp only [fz, Option.some.injEq] at h; subst h; simp only [RD] at r ⊢; exact r
  | .int _, e, v, h, r => by simp only [fz, Option.some.injEq] at h; subst h; simp only [RD] at r ⊢; exact r
  | .str _, e, v, h, r => by simp only [fz, Option.some.injEq] at h; subst h; simp only [RD] at r ⊢; exact r
  | .tup ds, e, v, h, r => by
    simp only [fz, Option.map_eq_some_iff] at h
    obtain ⟨es, h, e⟩ := h
    subst e
    simp only [RD] at r ⊢
    obtain ⟨a, vs, e, h1, z, h2⟩ := r
    have q := fzs_ok rp hrc ds es vs h h2
    exact ⟨a, vs, e, h1, by rw [q.length, ← h2.length]; exact z, q⟩
  | .lst ds, e, v, h, r => by
    simp only [fz, Option.map_eq_some_iff] at h
    obtain ⟨es, h, e⟩ := h
    subst e
    simp only [RD] at r ⊢
    obtain ⟨a, vs, e, h1, no, z, h2⟩ := r
    have q := fzs_ok rp hrc ds es vs h h2
    exact ⟨a, vs, e, h1, Z.no_cut no, by rw [q.length, ← h2.length]; exact z, q⟩
  | .scr ds, e, v, h, r => by
    simp only [fz, Option.map_eq_some_iff] at h
    obtain ⟨es, h, e⟩ := h
    subst e
    simp only [RD] at r ⊢
    obtain ⟨a, vs, e, h1, z, h2⟩ := r
    have q := fzs_ok rp hrc ds es vs h h2
    exact ⟨a, vs, e, h1, by rw [q.length, ← h2.length]; exact z, q⟩
  | .exn _, e, v, h, r => by simp only [fz, Option.some.injEq] at h; subst h; simp only [RD] at r ⊢; exact r
  | .dct ks ds, e, v, h, r => by
    simp only [fz, Option.map_eq_some_iff] at h
    obtain ⟨es, h, e⟩ := h
    subst e
    simp only [RD] at r ⊢
    obtain ⟨a, vs, e, h1, no, z, y, h2⟩ := r
    have q := fzs_ok rp hrc ds es vs h h2
    exact ⟨a, vs, e, h1, Z.no_cut no, by rw [q.length, ← h2.length]; exact z, y, q⟩
  | .ref m, e, v, h, r => by
    simp only [RD] at r
    obtain ⟨a, e1, h1⟩ := r
    simp only [fz] at h
    split at h
    · rename_i hm
      cases h
      simp only [RD]
      exact ⟨a, e1, by rw [List.getElem?_take_of_lt hm]; exact h1⟩
    · rename_i hm
      obtain ⟨o, e2, ro⟩ := rp.has h1
      have no : (ι.cut n).no a := by
        refine ⟨fun q => ?_, fun q => (rp.bt a q).1 (List.mem_of_getElem? h1)⟩
        obtain ⟨j, hj⟩ := List.getElem?_of_mem q
        have hjn : j < n := by
          have := (List.getElem?_eq_some_iff.mp hj).1
          simp at this; omega
        rw [List.getElem?_take_of_lt hjn] at hj
        obtain ⟨l1, e3⟩ := List.getElem?_eq_some_iff.mp hj
        obtain ⟨l2, e4⟩ := List.getElem?_eq_some_iff.mp h1
        have := (List.getElem_inj rp.nd).mp (e3.trans e4.symm)
        omega
      rw [e2] at h
      cases o with
      | lst ds =>
        simp only [Option.map_eq_some_iff] at h
        obtain ⟨es, h, e⟩ := h
        subst e
        obtain ⟨vs, h3, z, h4⟩ := ro
        have q := hrc ds es vs h h4
        simp only [RD]
        exact ⟨a, vs, e1, h3, no, by rw [q.length, ← h4.length]; exact z, q⟩
      | dKL ks ds => cases h
      | dK ks ds =>
        simp only [Option.map_eq_some_iff] at h
        obtain ⟨es, h, e⟩ := h
        subst e
        obtain ⟨vs, h3, z, y, h4⟩ := ro
        have q := hrc ds es vs h h4
        simp only [RD]
        exact ⟨a, vs, e1, .inl h3, no, by rw [q.length, ← h4.length]; exact z, y, q⟩
      | dT ks ds => cases h
      | ins c fs ds => cases h
theorem fzs_ok (rp : Rep H ι mg S) (hrc : ∀ ds es vs, rc ds = some es → RDs H ι ds vs → RDs H (ι.cut n) es vs) : ∀ (ds es : List D) (vs : List V), fzs rc S n ds = some es → RDs H ι ds vs → RDs H (ι.cut n) es vs
  | [], es, vs, h, r => by simp only [fzs, Option.some.injEq] at h; subst h; simp only [RDs] at r ⊢; exact r
  | d :: ds, es, vs, h, r => by
    simp only [fzs] at h
    simp only [RDs] at r
    obtain ⟨v, w, e, h1, h2⟩ := r
    cases h3 : fz rc S n d with
    | none => rw [h3] at h; cases h
    | some d' =>
      rw [h3] at h
      simp only [Option.bind_some, Option.map_eq_some_iff] at h
      obtain ⟨es', h, e'⟩ := h
      subst e' e
      exact .cons (fz_ok rp hrc d d' v h3 h1) (fzs_ok rp hrc ds es' w h h2)
end
theorem frz_ok (rp : Rep H ι mg S) : ∀ (k : Nat) (ds es : List D) (vs : List V), frz S n k ds = some es → RDs H ι ds vs → RDs H (ι.cut n) es vs
  | 0, ds, es, vs, h, r => fzs_ok rp (fun _ _ _ q => by cases q) ds es vs h r
  | k + 1, ds, es, vs, h, r => fzs_ok rp (fun _ _ _ q r => frz_ok rp k _ _ _ q r) ds es vs h r
end
open Classical in
/-- a def's new lists and dicts are changed no more behind it -/
noncomputable def finFrz (k : Nat) : Fin := fun S r => match r with
  | .ok d S' => if ClS S S' then (match frz S' S.length k [d] with
    | some [e] => .ok e (S'.take S.length)
    | _ => .stuck) else .stuck
  | .exc c S' => if ClS S S' ∧ D.cls S.length c.ds = true then .exc c (S'.take S.length) else .stuck
  | .stuck => .stuck
theorem RX.cut {H : Hp} {ι : Z} {mg : EnvK} {c : Exc} {cls : Value} {dx : Option Addr} (n : Nat) (h : RX H ι mg c cls dx) (q : D.cls n c.ds = true) : RX H (ι.cut n) mg c cls dx := by
  refine ⟨h.1, ?_⟩
  rcases h.2 with z | ⟨ne, d, vs, e1, e2, e3, r⟩
  · exact .inl z
  · exact .inr ⟨ne, d, vs, e1, e2, e3, r.cut n _ _ q⟩
theorem finFrz_ok {k : Nat} : FinOk (finFrz k) := fun mg W ι S H r Q rp g => by
  unfold finFrz at g
  cases r with
  | ok d S' =>
    simp only at g
    split at g
    · rename_i c
      intro ι' H' v st rp' rd
      obtain ⟨st2, rp2⟩ := cut_step rp st rp' c
      split at g
      · rename_i e he
        have q := frz_ok (n := S.length) rp' k [d] [e] [v] he (.cons rd .nil)
        simp only [RDs] at q
        obtain ⟨v', r', e', q, _⟩ := q
        cases e'
        exact g _ H' v st2 rp2 q
      · exact g.elim
    · exact g.elim
  | exc c S' =>
    simp only at g
    split at g
    · rename_i h
      intro ι' H' cls dx st rp' rx
      obtain ⟨st2, rp2⟩ := cut_step rp st rp' h.1
      exact g _ H' cls dx st2 rp2 (rx.cut _ h.2)
    · exact g.elim
  | stuck => exact g.elim
/-! an answer that holds one new list which the caller may change -/
structure Sub (n : Nat) (ι ι' : Z) : Prop where
  at' : ∀ (m : Nat) (a : Addr), m < n → ι.a[m]? = some a → ι'.a[m]? = some a
  no : ∀ a, ι.no a → ι'.no a
  k : ι'.k = ι.k
section
variable {H : Hp} {ι ι' : Z} {mg : EnvK} {n : Nat}
mutual
theorem RD.sub (s : Sub n ι ι') : ∀ (d : D) (v : V), RD H ι d v → D.cl n d = true → RD H ι' d v
  | .non, _, h, _ => by simp only [RD] at h ⊢; exact h
  | .bl _, _, h, _ => by simp only [RD] at h ⊢; exact h
  | .int _, _, h, _ => by simp only [RD] at h ⊢; exact h
  | .str _, _, h, _ => by simp only [RD] at h ⊢; exact h
  | .tup ds, _, h, c => by
    simp only [RD] at h ⊢; simp only [D.cl] at c
    obtain ⟨a, vs, e, h1, z, h2⟩ := h
    exact ⟨a, vs, e, h1, z, RDs.sub s ds vs h2 c⟩
  | .lst ds, _, h, c => by
    simp only [RD] at h ⊢; simp only [D.cl] at c
    obtain ⟨a, vs, e, h1, no, z, h2⟩ := h
    exact ⟨a, vs, e, h1, s.no _ no, z, RDs.sub s ds vs h2 c⟩
  | .scr ds, _, h, c => by
    simp only [RD] at h ⊢; simp only [D.cl] at c
    obtain ⟨a, vs, e, h1, z, h2⟩ := h
    exact ⟨a, vs, e, by rw [s.k]; exact h1, z, RDs.sub s ds vs h2 c⟩
  | .dct ks ds, _, h, c => by
    simp only [RD] at h ⊢; simp only [D.cl] at c
    obtain ⟨a, vs, e, h1, no, z, y, h2⟩ := h
    exact ⟨a, vs, e, h1, s.no _ no, z, y, RDs.sub s ds vs h2 c⟩
  | .ref m, _, h, c => by
    simp only [RD] at h ⊢; simp only [D.cl, decide_eq_true_eq] at c
    obtain ⟨a, e, h1⟩ := h
    exact ⟨a, e, s.at' m a c h1⟩
  | .exn _, _, h, _ => by simp only [RD] at h ⊢; exact h
theorem RDs.sub (s : Sub n ι ι') : ∀ (ds : List D) (vs : List V), RDs H ι ds vs → D.cls n ds = true → RDs H ι' ds vs
  | [], _, h, _ => by simp only [RDs] at h ⊢; exact h
  | d :: ds, _, h, c => by
    simp only [RDs] at h ⊢; simp only [D.cls, Bool.and_eq_true] at c
    obtain ⟨v, r, e, h1, h2⟩ := h
    exact ⟨v, r, e, RD.sub s d v h1 c.1, RDs.sub s ds r h2 c.2⟩
end
theorem RO.sub (s : Sub n ι ι') {a : Addr} : ∀ {o : MO}, RO H ι mg a o → o.cl n = true → RO H ι' mg a o
  | .lst ds, ⟨vs, e, z, r⟩, c => ⟨vs, e, z, r.sub s _ _ c⟩
  | .dK ks ds, ⟨vs, e, z, y, r⟩, c => ⟨vs, e, z, y, r.sub s _ _ c⟩
  | .dKL ks ds, ⟨o, vs, e, z, y, r⟩, c => ⟨o, vs, e, z, y, r.sub s _ _ c⟩
  | .dT ks ds, ⟨vs, e, z, y, r⟩, c => ⟨vs, e, z, y, r.sub s _ _ c⟩
  | .ins cc fs ds, ⟨C, dx, vs, m, e, z, r⟩, c => ⟨C, dx, vs, m, e, z, r.sub s _ _ c⟩
end
theorem keep_step {H H' : Hp} {ι ι' : Z} {mg : EnvK} {S S' : Sto} {m : Nat} {a : Addr} {ds : List D} (rp : Rep H ι mg S) (st : Step ι H ι' H') (rp' : Rep H' ι' mg S') (c : ClS S S') (hm : S.length ≤ m) (ha : ι'.a[m]? = some a) (hd : S'[m]? = some (.lst ds)) (hc : D.cls S.length ds = true) :
    ∃ ι2 : Z, Step ι H ι2 H' ∧ Rep H' ι2 mg (S'.take S.length ++ [.lst ds]) ∧ RD H' ι2 (.ref S.length) (.ref a) ∧ Sub S.length ι' ι2 := by
  obtain ⟨st2, rp2⟩ := cut_step rp st rp' c
  have hlen : (ι'.a.take S.length).length = S.length := by
    have hml : m < ι'.a.length := (List.getElem?_eq_some_iff.mp ha).1
    rw [List.length_take]; omega
  have notin : a ∉ ι'.a.take S.length := fun hmem => by
    obtain ⟨j, hj⟩ := List.getElem?_of_mem hmem
    have hjn : j < S.length := by
      have := (List.getElem?_eq_some_iff.mp hj).1
      omega
    rw [List.getElem?_take_of_lt hjn] at hj
    obtain ⟨l1, e3⟩ := List.getElem?_eq_some_iff.mp hj
    obtain ⟨l2, e4⟩ := List.getElem?_eq_some_iff.mp ha
    have := (List.getElem_inj rp'.nd).mp (e3.trans e4.symm)
    omega
  have sub : Sub S.length ι' ⟨ι'.a.take S.length ++ [a], ι'.b, ι'.k⟩ := by
    refine ⟨fun j b hj h => ?_, fun b n => ⟨fun h => ?_, n.2⟩, rfl⟩
    · show (ι'.a.take S.length ++ [a])[j]? = some b
      rw [List.getElem?_append_left (by omega), List.getElem?_take_of_lt hj]; exact h
    · rcases List.mem_append.mp h with h | h
      · exact n.1 (List.mem_of_mem_take h)
      · have : b = a := by simpa using h
        subst this
        exact n.1 (List.mem_of_getElem? ha)
  refine ⟨⟨ι'.a.take S.length ++ [a], ι'.b, ι'.k⟩, ⟨⟨fun j b h => ?_, st.up.tup, fun b xs n h => ⟨(st.up.lst b xs n h).1, sub.no _ (st.up.lst b xs n h).2⟩, st.up.scr, fun b xs n h => ⟨(st.up.dct b xs n h).1, sub.no _ (st.up.dct b xs n h).2⟩, st.up.kk, st.up.frz⟩, st.bb, st.hid⟩, ?_, ?_, sub⟩
  · have hj : j < S.length := by rw [← rp.len]; exact (List.getElem?_eq_some_iff.mp h).1
    exact sub.at' j b hj (st.up.pre j b h)
  · refine ⟨rp'.kk, by simp; have := rp'.len; have := hlen; rw [List.length_take] at this; omega, ?_, fun x hx => ⟨fun h => ?_, (rp'.bt x hx).2⟩, fun j b o h1 h2 => ?_⟩
    · rw [List.nodup_append]
      refine ⟨rp2.nd, by simp, fun x hx y hy => ?_⟩
      have : y = a := by simpa using hy
      subst this
      rintro rfl; exact notin hx
    · rcases List.mem_append.mp h with h | h
      · exact (rp'.bt x hx).1 (List.mem_of_mem_take h)
      · have : x = a := by simpa using h
        subst this
        exact (rp'.bt x hx).1 (List.mem_of_getElem? ha)
    · have h1 : (ι'.a.take S.length ++ [a])[j]? = some b := h1
      have hS : (S'.take S.length).length = S.length := by
        have := rp'.len; have := hlen; rw [List.length_take] at this ⊢; omega
      by_cases hj : j < S.length
      · rw [List.getElem?_append_left (by omega)] at h1
        rw [List.getElem?_append_left (by omega)] at h2
        rw [List.getElem?_take_of_lt hj] at h1 h2
        refine (rp'.obj j b o h1 h2).sub sub ?_
        rcases c j o hj h2 with q | q
        · have hi : j < ι.a.length := by rw [rp.len]; exact hj
          have := (rp.obj j _ o (List.getElem?_eq_getElem hi) q).cl
          rw [rp.len] at this; exact this
        · exact q
      · rw [List.getElem?_append_right (by omega)] at h1
        rw [List.getElem?_append_right (by omega)] at h2
        have e : j - S.length = 0 := by
          have := (List.getElem?_eq_some_iff.mp h1).1
          simp at this; omega
        rw [hlen, e] at h1; rw [hS, e] at h2
        simp at h1 h2; subst h1 h2
        exact (rp'.obj m a _ ha hd).sub sub hc
  · simp only [RD]
    refine ⟨a, rfl, ?_⟩
    show (ι'.a.take S.length ++ [a])[S.length]? = some a
    rw [List.getElem?_append_right (by omega), hlen]; simp
open Classical in
/-- the answer is a new list that the caller may change -/
noncomputable def finKeep : Fin := fun S r => match r with
  | .ok (.ref m) S' => match S'[m]? with
    | some (.lst ds) => if ClS S S' ∧ S.length ≤ m ∧ D.cls S.length ds = true then .ok (.ref S.length) (S'.take S.length ++ [.lst ds]) else .stuck
    | _ => .stuck
  | _ => .stuck
theorem finKeep_ok : FinOk finKeep := fun mg W ι S H r Q rp g => by
  unfold finKeep at g
  split at g
  · rename_i m S'
    split at g
    · rename_i ds hd
      split at g
      · rename_i c
        intro ι' H' v st rp' rd
        simp only [RD] at rd
        obtain ⟨a, e, h1⟩ := rd
        subst e
        obtain ⟨ι2, st2, rp2, r2, _⟩ := keep_step rp st rp' c.1 c.2.1 h1 hd c.2.2
        exact g ι2 H' _ st2 rp2 r2
      · exact g.elim
    · exact g.elim
  · exact g.elim
open Classical in
/-- the answer is a tuple with such a list at its second place -/
noncomputable def finKeepT : Fin := fun S r => match r with
  | .ok (.tup (x :: .ref m :: ys)) S' => match S'[m]? with
    | some (.lst ds) => if ClS S S' ∧ S.length ≤ m ∧ D.cls S.length ds = true ∧ D.cls S.length (x :: ys) = true then .ok (.tup (x :: .ref S.length :: ys)) (S'.take S.length ++ [.lst ds]) else .stuck
    | _ => .stuck
  | .exc c S' => if ClS S S' ∧ D.cls S.length c.ds = true then .exc c (S'.take S.length) else .stuck
  | _ => .stuck
theorem finKeepT_ok : FinOk finKeepT := fun mg W ι S H r Q rp g => by
  unfold finKeepT at g
  split at g
  · rename_i x m ys S'
    split at g
    · rename_i ds hd
      split at g
      · rename_i c
        intro ι' H' v st rp' rd
        simp only [RD, RDs] at rd
        obtain ⟨t, vs, e, h0, z, v1, r1, e1, rx, v2, r2, e2, ⟨a, e3, h1⟩, rys⟩ := rd
        subst e e1 e2 e3
        obtain ⟨ι2, st2, rp2, rr, sub⟩ := keep_step rp st rp' c.1 c.2.1 h1 hd c.2.2.1
        have hc := c.2.2.2
        simp only [D.cls, Bool.and_eq_true] at hc
        refine g ι2 H' _ st2 rp2 ?_
        simp only [RD, RDs]
        simp only [RD] at rr
        exact ⟨t, _, rfl, h0, z, v1, _, rfl, rx.sub sub _ _ hc.1, _, _, rfl, rr, rys.sub sub _ _ hc.2⟩
      · exact g.elim
    · exact g.elim
  · rename_i c S'
    split at g
    · rename_i h
      intro ι' H' cls dx st rp' rx
      obtain ⟨st2, rp2⟩ := cut_step rp st rp' h.1
      exact g _ H' cls dx st2 rp2 (rx.cut _ h.2)
    · exact g.elim
  · exact g.elim
end PM

/-! PM, part 7: operators -/
namespace PM
open PySem PySem.Spec L2 PyProof.Rows
/-! ### lists as they are read -/
def asL (S : Sto) : D → Option (List D)
  | .lst ds => some ds
  | .ref n => match S[n]? with
    | some (.lst ds) => some ds
    | _ => none
  | _ => none
def rdL (S : Sto) : D → Option (List D)
  | .scr ds => some ds
  | d => asL S d
def rdS (S : Sto) : D → Option (List D)
  | .tup ds => some ds
  | d => rdL S d
section
variable {H : Hp} {ι : Z} {mg : EnvK} {S : Sto} {d : D} {v : V} {ds : List D}
theorem asL_ok (rp : Rep H ι mg S) (r : RD H ι d v) (h : asL S d = some ds) : ∃ a vs, v = .ref a ∧ H a = some (.lst vs) ∧ RDs H ι ds vs ∧ ds.length ≤ sizeLine := by
  cases d with
  | lst es =>
    simp only [asL, Option.some.injEq] at h; subst h
    simp only [RD] at r
    obtain ⟨a, vs, e, h1, n, z, h2⟩ := r
    exact ⟨a, vs, e, h1, h2, z⟩
  | ref n =>
    simp only [RD] at r
    obtain ⟨a, e, h1⟩ := r
    obtain ⟨o, e2, ro⟩ := rp.has h1
    simp only [asL, e2] at h
    cases o with
    | lst es =>
      simp only [Option.some.injEq] at h; subst h
      obtain ⟨vs, h3, z, h4⟩ := ro
      exact ⟨a, vs, e, h3, h4, z⟩
    | _ => cases h
  | _ => cases h
theorem rdL_ok (rp : Rep H ι mg S) (r : RD H ι d v) (h : rdL S d = some ds) : ∃ a vs, v = .ref a ∧ SqL mg.K H a vs ∧ RDs H ι ds vs ∧ ds.length ≤ sizeLine := by
  cases d with
  | scr es =>
    simp only [rdL, Option.some.injEq] at h; subst h
    simp only [RD] at r
    obtain ⟨a, vs, e, h1, z, h2⟩ := r
    exact ⟨a, vs, e, scr_sq rp.kk h1, h2, z⟩
  | lst es => obtain ⟨a, vs, e, h1, h2, z⟩ := asL_ok rp r h; exact ⟨a, vs, e, .of h1, h2, z⟩
  | ref es => obtain ⟨a, vs, e, h1, h2, z⟩ := asL_ok rp r h; exact ⟨a, vs, e, .of h1, h2, z⟩
  | _ => cases h
theorem rdS_ok (rp : Rep H ι mg S) (r : RD H ι d v) (h : rdS S d = some ds) : ∃ a vs, v = .ref a ∧ (SqL mg.K H a vs ∨ SqT mg.K H a vs) ∧ RDs H ι ds vs ∧ ds.length ≤ sizeLine := by
  cases d with
  | tup es =>
    simp only [rdS, Option.some.injEq] at h; subst h
    simp only [RD] at r
    obtain ⟨a, vs, e, h1, z, h2⟩ := r
    exact ⟨a, vs, e, .inr (h1.sq), h2, z⟩
  | lst es => obtain ⟨a, vs, e, h1, h2, z⟩ := rdL_ok rp r h; exact ⟨a, vs, e, .inl h1, h2, z⟩
  | scr es => obtain ⟨a, vs, e, h1, h2, z⟩ := rdL_ok rp r h; exact ⟨a, vs, e, .inl h1, h2, z⟩
  | ref es => obtain ⟨a, vs, e, h1, h2, z⟩ := rdL_ok rp r h; exact ⟨a, vs, e, .inl h1, h2, z⟩
  | _ => cases h
end
section
variable {X : Cx}
theorem opd_int {f : Value → Value → Sem Value} {C : Int → Int → Prop} [∀ i j, Decidable (C i j)] {g : Int → Int → V} {g' : Int → Int → D} (h : OpR X f (rI C g)) (hg : ∀ H ι i j, RD H ι (g' i j) (g i j)) :
    OpD X f (fun x y S => match x, y with
      | .int i, .int j => if C i j then .ok (g' i j) S else .stuck
      | _, _ => .stuck) := by
  refine ⟨_, h, fun W ι S H x y dx dy Q rp rx ry q => ?_⟩
  dsimp only at q
  split at q
  · rename_i i j
    split at q
    · simp only [RD] at rx ry
      exact ⟨i, j, rx, ry, by assumption, q.here rp (hg _ _ i j)⟩
    · exact q.elim
  · exact q.elim
theorem opd_int0 {f : Value → Value → Sem Value} {g : Int → Int → V} {g' : Int → Int → D} (h : OpR X f (rI0 g)) (hg : ∀ H ι i j, RD H ι (g' i j) (g i j)) :
    OpD X f (fun x y S => match x, y with
      | .int i, .int j => .ok (g' i j) S
      | _, _ => .stuck) := by
  refine ⟨_, h, fun W ι S H x y dx dy Q rp rx ry q => ?_⟩
  dsimp only at q
  split at q
  · rename_i i j
    simp only [RD] at rx ry
    exact ⟨i, j, rx, ry, q.here rp (hg _ _ i j)⟩
  · exact q.elim
def opSub (x y : D) (S : Sto) : R D := match x, y with
  | .int i, .int j => .ok (.int (i - j)) S
  | _, _ => .stuck
theorem opSub_ok : OpD X (binaryOp .Sub) opSub := opd_int0 op_sub fun _ _ _ _ => by simp only [RD]
instance (i j : Int) : Decidable (CDiv i j) := by unfold CDiv; infer_instance
instance (i j : Int) : Decidable (CPow i j) := by unfold CPow; infer_instance
instance (i j : Int) : Decidable (CMul i j) := by unfold CMul; infer_instance
def opDiv (x y : D) (S : Sto) : R D := match x, y with
  | .int i, .int j => if CDiv i j then .ok (.int (i / j)) S else .stuck
  | _, _ => .stuck
theorem opDiv_ok : OpD X (binaryOp .FloorDiv) opDiv := opd_int op_fdiv fun _ _ _ _ => by simp only [RD]
def opMod (x y : D) (S : Sto) : R D := match x, y with
  | .int i, .int j => if 0 < j then .ok (.int (i % j)) S else .stuck
  | _, _ => .stuck
theorem opMod_ok : OpD X (binaryOp .Mod) opMod := opd_int (C := fun _ j => 0 < j) op_mod fun _ _ _ _ => by simp only [RD]
def opPow (x y : D) (S : Sto) : R D := match x, y with
  | .int i, .int j => if CPow i j then .ok (.int (i ^ j.toNat)) S else .stuck
  | _, _ => .stuck
theorem opPow_ok : OpD X (binaryOp .Pow) opPow := opd_int op_pow fun _ _ _ _ => by simp only [RD]
def opLt (x y : D) (S : Sto) : R D := match x, y with
  | .int i, .int j => .ok (.bl (decide (i < j))) S
  | _, _ => .stuck
theorem opLt_ok : OpD X (compareOp .Lt) opLt := opd_int0 op_lt fun _ _ _ _ => by simp only [RD]
def opLe (x y : D) (S : Sto) : R D := match x, y with
  | .int i, .int j => .ok (.bl (decide (i ≤ j))) S
  | _, _ => .stuck
theorem opLe_ok : OpD X (compareOp .LtE) opLe := opd_int0 op_le fun _ _ _ _ => by simp only [RD]
def opGt (x y : D) (S : Sto) : R D := match x, y with
  | .int i, .int j => .ok (.bl (decide (j < i))) S
  | _, _ => .stuck
theorem opGt_ok : OpD X (compareOp .Gt) opGt := opd_int0 op_gt fun _ _ _ _ => by simp only [RD]
/-- >= of numbers, of texts -/
def opGe (x y : D) (S : Sto) : R D := match x, y with
  | .int i, .int j => .ok (.bl (decide (j ≤ i))) S
  | .str i, .str j => .ok (.bl (!decide (i.cps.toList < j.cps.toList))) S
  | _, _ => .stuck
theorem opGe_ok : OpD X (compareOp .GtE) opGe := by
  refine ⟨_, op_ge.or op_ge_str, fun W ι S H x y dx dy Q rp rx ry q => ?_⟩
  unfold opGe at q
  split at q
  · rename_i i j
    simp only [RD] at rx ry
    exact .inl ⟨i, j, rx, ry, q.here rp (by simp only [RD])⟩
  · rename_i i j
    simp only [RD] at rx ry
    exact .inr ⟨i, j, rx.1, ry.1, q.here rp (by simp only [RD])⟩
  · exact q.elim
def opAdd (x y : D) (S : Sto) : R D := match x, y with
  | .int i, .int j => .ok (.int (i + j)) S
  | .str a, .str b => if a.length + b.length ≤ sizeLine then .ok (.str (a ++ b)) S else .stuck
  | .tup a, .tup b => newTup (a ++ b) S
  | x, y => match asL S x, asL S y with
    | some a, some b => newLst (a ++ b) S
    | _, _ => .stuck
theorem str_len_app (a b : Str) : (a ++ b).length = a.length + b.length := by
  show (a.cps ++ b.cps).size = _
  simp [Array.size_append]; rfl
theorem opAdd_ok : OpD X (binaryOp .Add) opAdd := by
  refine ⟨_, op_add.or (op_add_str.or (op_catF.or op_cat)), fun W ι S H x y dx dy Q rp rx ry q => ?_⟩
  unfold opAdd at q
  split at q
  · rename_i i j
    simp only [RD] at rx ry
    exact .inl ⟨i, j, rx, ry, q.here rp (by simp only [RD])⟩
  · rename_i a b
    split at q
    · rename_i h
      simp only [RD] at rx ry
      exact .inr (.inl ⟨a, b, rx.1, ry.1, h, q.here rp (by simp only [RD]; exact ⟨trivial, by rw [str_len_app]; exact h⟩)⟩)
    · exact q.elim
  · rename_i a b
    have rx' := rx
    have ry' := ry
    simp only [RD] at rx ry
    obtain ⟨p, vs, e1, h1, z1, r1⟩ := rx
    obtain ⟨p2, vs2, e2, h2, z2, r2⟩ := ry
    have hz : (a ++ b).length ≤ sizeLine := by
      unfold newTup at q
      split at q
      · assumption
      · exact q.elim
    have q' := g_newTup q rp (r1.app r2)
    refine .inr (.inr (.inl ⟨p, p2, vs, vs2, e1, e2, h1.sq, h2.sq, by rw [← r1.length, ← r2.length, ← List.length_append]; exact hz, fun z => ?_, fun _ z => ?_, fun _ _ => q'.2⟩))
    · unfold newTup at q
      rw [if_pos hz] at q
      subst z
      have : a = [] := List.length_eq_zero_iff.mp (by rw [r1.length]; rfl)
      subst this
      rw [← e2]
      exact q.here rp (by simpa using ry')
    · unfold newTup at q
      rw [if_pos hz] at q
      subst z
      have : b = [] := List.length_eq_zero_iff.mp (by rw [r2.length]; rfl)
      subst this
      rw [← e1]
      exact q.here rp (by simpa using rx')
  · split at q
    · rename_i a b ha hb
      obtain ⟨p, vs, e1, h1, r1, z1⟩ := asL_ok rp rx ha
      obtain ⟨p2, vs2, e2, h2, r2, z2⟩ := asL_ok rp ry hb
      have q' := g_newLst q rp (r1.app r2)
      exact .inr (.inr (.inr ⟨p, p2, vs, vs2, e1, e2, h1, h2, by rw [← List.length_append]; exact q'.1, q'.2⟩))
    · exact q.elim
/-- the same, a list that may be changed -/
def opAddR (x y : D) (S : Sto) : R D := match asL S x, asL S y with
  | some a, some b => newRef (a ++ b) S
  | _, _ => .stuck
theorem opAddR_ok : OpD X (binaryOp .Add) opAddR := by
  refine ⟨_, op_cat, fun W ι S H x y dx dy Q rp rx ry q => ?_⟩
  unfold opAddR at q
  split at q
  · rename_i a b ha hb
    obtain ⟨p, vs, e1, h1, r1, z1⟩ := asL_ok rp rx ha
    obtain ⟨p2, vs2, e2, h2, r2, z2⟩ := asL_ok rp ry hb
    have q' := g_newRef q rp (r1.app r2)
    exact ⟨p, p2, vs, vs2, e1, e2, h1, h2, by rw [← List.length_append]; exact q'.1, q'.2⟩
  · exact q.elim
def opMul (x y : D) (S : Sto) : R D := match x, y with
  | .int i, .int j => if CMul i j then .ok (.int (i * j)) S else .stuck
  | x, .int k => match asL S x with
    | some ds => if -(2 ^ 63) ≤ k ∧ k < 2 ^ 63 ∧ ds.length * k.toNat ≤ sizeLine then newLst (List.replicate k.toNat ds).flatten S else .stuck
    | none => .stuck
  | _, _ => .stuck
theorem rds_flat {H : Hp} {ι : Z} {ds : List D} {vs : List V} (r : RDs H ι ds vs) : ∀ k : Nat, RDs H ι (List.replicate k ds).flatten (List.replicate k vs).flatten
  | 0 => by simpa using RDs.nil
  | k + 1 => by rw [List.replicate_succ, List.replicate_succ, List.flatten_cons, List.flatten_cons]; exact r.app (rds_flat r k)
theorem opMul_ok : OpD X (binaryOp .Mult) opMul := by
  refine ⟨_, op_mul.or op_rep, fun W ι S H x y dx dy Q rp rx ry q => ?_⟩
  unfold opMul at q
  split at q
  · rename_i i j
    split at q
    · simp only [RD] at rx ry
      exact .inl ⟨i, j, rx, ry, by assumption, q.here rp (by simp only [RD])⟩
    · exact q.elim
  · rename_i k _
    split at q
    · rename_i ds hds
      split at q
      · rename_i h
        obtain ⟨p, vs, e1, h1, r1, z1⟩ := asL_ok rp rx hds
        simp only [RD] at ry
        have q' := g_newLst q rp (rds_flat r1 k.toNat)
        exact .inr ⟨p, k, vs, e1, ry, h1, h.1, h.2.1, by rw [← r1.length]; exact h.2.2, q'.2⟩
      · exact q.elim
    · exact q.elim
  · exact q.elim
/-! ### ==, != -/
section
variable (rc : List D → Option (List PyData)) (S : Sto)
mutual
def tp : D → Option PyData
  | .non => some .none
  | .bl b => some (.bool b)
  | .int i => some (.int i)
  | .str s => some (.str s)
  | .tup ds => (tps ds).map .tuple
  | .lst ds => (tps ds).map .list
  | .scr ds => (tps ds).map .list
  | .dct _ _ => none
  | .exn _ => none
  | .ref n => match S[n]? with
    | some (.lst ds) => (rc ds).map .list
    | _ => none
def tps : List D → Option (List PyData)
  | [] => some []
  | d :: ds => (tp d).bind fun e => (tps ds).map (e :: ·)
end
end
/-- the data behind, numbers of objects looked up k times -/
def tpk (S : Sto) : Nat → List D → Option (List PyData)
  | 0, ds => tps (fun _ => none) S ds
  | k + 1, ds => tps (tpk S k) S ds
def tpd (S : Sto) (d : D) : Option PyData := tp (tpk S 1) S d
section
variable {H : Hp} {ι : Z} {mg : EnvK} {S : Sto} {rc : List D → Option (List PyData)}
mutual
theorem tp_ok (rp : Rep H ι mg S) (hrc : ∀ ds es vs, rc ds = some es → RDs H ι ds vs → DpAll mg.K H vs es) : ∀ (d : D) (e : PyData) (v : V), tp rc S d = some e → RD H ι d v → Dp mg.K H v e
  | .non, e, v, h, r => by simp only [tp, Option.some.injEq] at h; subst h; simp only [RD] at r; subst r; exact .non
  | .bl b, e, v, h, r => by simp only [tp, Option.some.injEq] at h; subst h; simp only [RD] at r; subst r; exact .bl b
  | .int i, e, v, h, r => by simp only [tp, Option.some.injEq] at h; subst h; simp only [RD] at r; subst r; exact .int i
  | .str s, e, v, h, r => by simp only [tp, Option.some.injEq] at h; subst h; simp only [RD] at r; rw [r.1]; exact .str s
  | .tup ds, e, v, h, r => by
    simp only [tp, Option.map_eq_some_iff] at h
    obtain ⟨es, h, e⟩ := h
    subst e
    simp only [RD] at r
    obtain ⟨a, vs, e, h1, z, h2⟩ := r
    subst e
    exact .tup h1.sq (tps_ok rp hrc ds es vs h h2)
  | .lst ds, e, v, h, r => by
    simp only [tp, Option.map_eq_some_iff] at h
    obtain ⟨es, h, e⟩ := h
    subst e
    simp only [RD] at r
    obtain ⟨a, vs, e, h1, no, z, h2⟩ := r
    subst e
    exact .lst (.of h1) (tps_ok rp hrc ds es vs h h2)
  | .scr ds, e, v, h, r => by
    simp only [tp, Option.map_eq_some_iff] at h
    obtain ⟨es, h, e⟩ := h
    subst e
    simp only [RD] at r
    obtain ⟨a, vs, e, h1, z, h2⟩ := r
    subst e
    exact .lst (scr_sq rp.kk h1) (tps_ok rp hrc ds es vs h h2)
  | .dct ks ds, e, v, h, r => by simp only [tp] at h; cases h
  | .exn _, e, v, h, r => by simp only [tp] at h; cases h
  | .ref m, e, v, h, r => by
    simp only [RD] at r
    obtain ⟨a, e1, h1⟩ := r
    subst e1
    obtain ⟨o, e2, ro⟩ := rp.has h1
    simp only [tp, e2] at h
    cases o with
    | lst ds =>
      simp only [Option.map_eq_some_iff] at h
      obtain ⟨es, h, e⟩ := h
      subst e
      obtain ⟨vs, h3, z, h4⟩ := ro
      exact .lst (.of h3) (hrc ds es vs h h4)
    | _ => cases h
theorem tps_ok (rp : Rep H ι mg S) (hrc : ∀ ds es vs, rc ds = some es → RDs H ι ds vs → DpAll mg.K H vs es) : ∀ (ds : List D) (es : List PyData) (vs : List V), tps rc S ds = some es → RDs H ι ds vs → DpAll mg.K H vs es
  | [], es, vs, h, r => by simp only [tps, Option.some.injEq] at h; subst h; simp only [RDs] at r; subst r; exact .nil
  | d :: ds, es, vs, h, r => by
    simp only [tps] at h
    simp only [RDs] at r
    obtain ⟨v, w, e, h1, h2⟩ := r
    subst e
    cases h3 : tp rc S d with
    | none => rw [h3] at h; cases h
    | some d' =>
      rw [h3] at h
      simp only [Option.bind_some, Option.map_eq_some_iff] at h
      obtain ⟨es', h, e'⟩ := h
      subst e'
      exact .cons (tp_ok rp hrc d d' v h3 h1) (tps_ok rp hrc ds es' w h h2)
end
theorem tpk_ok (rp : Rep H ι mg S) : ∀ (k : Nat) (ds : List D) (es : List PyData) (vs : List V), tpk S k ds = some es → RDs H ι ds vs → DpAll mg.K H vs es
  | 0, ds, es, vs, h, r => tps_ok rp (fun _ _ _ q => by cases q) ds es vs h r
  | k + 1, ds, es, vs, h, r => tps_ok rp (fun _ _ _ q r => tpk_ok rp k _ _ _ q r) ds es vs h r
theorem tpd_ok (rp : Rep H ι mg S) {d : D} {e : PyData} {v : V} (h : tpd S d = some e) (r : RD H ι d v) : Dp mg.K H v e := tp_ok rp (fun _ _ _ q r => tpk_ok rp 1 _ _ _ q r) d e v h r
end
/-- atoms, told apart without more -/
def scalD : D → D → Option Bool
  | .non, .non => some true | .non, .int _ => some false | .int _, .non => some false | .non, .bl _ => some false | .bl _, .non => some false | .non, .str _ => some false | .str _, .non => some false
  | .int i, .int j => some (decide (i = j)) | .bl i, .bl j => some (decide (i = j)) | .str i, .str j => some (decide (i = j))
  | .int _, .str _ => some false | .str _, .int _ => some false | .bl _, .str _ => some false | .str _, .bl _ => some false
  | _, _ => none
theorem scalD_ok {H : Hp} {ι : Z} {dx dy : D} {x y : V} {k : Bool} (h : scalD dx dy = some k) (rx : RD H ι dx x) (ry : RD H ι dy y) : scal x y = true ∧ decide (x = y) = k := by
  unfold scalD at h
  split at h <;> first
    | (cases h; done)
    | (simp only [Option.some.injEq] at h; subst h; simp only [RD] at rx ry; first | (subst rx; subst ry; exact ⟨rfl, by simp⟩) | (obtain ⟨rx, _⟩ := rx; subst rx; subst ry; exact ⟨rfl, by simp⟩) | (obtain ⟨ry, _⟩ := ry; subst rx; subst ry; exact ⟨rfl, by simp⟩) | (obtain ⟨rx, _⟩ := rx; obtain ⟨ry, _⟩ := ry; subst rx; subst ry; exact ⟨rfl, by simp⟩))
/-- are they equal? -/
def eqD (S : Sto) (x y : D) : Option Bool := match scalD x y with
  | some k => some k
  | none => match tpd S x, tpd S y with
    | some p, some q => if SeqAt.shaped p = true ∧ SeqAt.shaped q = true then some (p.eqv q) else none
    | _, _ => none
def opEq (x y : D) (S : Sto) : R D := match eqD S x y with
  | some k => .ok (.bl k) S
  | none => .stuck
def opNe (x y : D) (S : Sto) : R D := match eqD S x y with
  | some k => .ok (.bl (!k)) S
  | none => .stuck
theorem opEq_ok (hr : Ru X.A) : OpD X (compareOp .Eq) opEq := by
  refine ⟨_, op_eq.or (op_eqD hr.units), fun W ι S H x y dx dy Q rp rx ry q => ?_⟩
  unfold opEq eqD at q
  split at q
  · rename_i k hk
    split at hk
    · rename_i k' hs
      cases hk
      obtain ⟨h1, h2⟩ := scalD_ok hs rx ry
      exact .inl ⟨h1, q.here rp (by simp only [RD]; rw [h2])⟩
    · split at hk
      · rename_i p p' hp hp'
        split at hk
        · rename_i hsh
          cases hk
          exact .inr ⟨p, p', tpd_ok rp hp rx, tpd_ok rp hp' ry, hsh.1, hsh.2, q.here rp (by simp only [RD])⟩
        · cases hk
      · cases hk
  · exact q.elim
theorem opNe_ok (hr : Ru X.A) : OpD X (compareOp .NotEq) opNe := by
  refine ⟨_, op_ne.or (op_neD hr.units), fun W ι S H x y dx dy Q rp rx ry q => ?_⟩
  unfold opNe eqD at q
  split at q
  · rename_i k hk
    split at hk
    · rename_i k' hs
      cases hk
      obtain ⟨h1, h2⟩ := scalD_ok hs rx ry
      exact .inl ⟨h1, q.here rp (by simp only [RD]; rw [h2])⟩
    · split at hk
      · rename_i p p' hp hp'
        split at hk
        · rename_i hsh
          cases hk
          exact .inr ⟨p, p', tpd_ok rp hp rx, tpd_ok rp hp' ry, hsh.1, hsh.2, q.here rp (by simp only [RD])⟩
        · cases hk
      · cases hk
  · exact q.elim
/-! ### is None -/
def isNon : D → Bool
  | .non => true
  | _ => false
def opIsN (x y : D) (S : Sto) : R D := match y with
  | .non => .ok (.bl (isNon x)) S
  | _ => .stuck
def opNotN (x y : D) (S : Sto) : R D := match y with
  | .non => .ok (.bl (!isNon x)) S
  | _ => .stuck
theorem isNon_ok {H : Hp} {ι : Z} {d : D} {v : V} (r : RD H ι d v) : decide (v = .non) = isNon d := by
  cases d <;> simp only [RD] at r
  · subst r; rfl
  · subst r; rfl
  · subst r; rfl
  · rw [r.1]; rfl
  all_goals first | (subst r; rfl) | (obtain ⟨a, r⟩ := r; first | (obtain ⟨vs, r, _⟩ := r; subst r; rfl) | (obtain ⟨r, _⟩ := r; subst r; rfl))
theorem opIsN_ok : OpD X (compareOp .Is) opIsN := by
  refine ⟨_, op_isN, fun W ι S H x y dx dy Q rp rx ry q => ?_⟩
  unfold opIsN at q
  split at q
  · simp only [RD] at ry
    exact ⟨ry, q.here rp (by simp only [RD]; rw [isNon_ok rx])⟩
  · exact q.elim
theorem opNotN_ok : OpD X (compareOp .IsNot) opNotN := by
  refine ⟨_, op_notN, fun W ι S H x y dx dy Q rp rx ry q => ?_⟩
  unfold opNotN at q
  split at q
  · simp only [RD] at ry
    exact ⟨ry, q.here rp (by simp only [RD]; rw [isNon_ok rx])⟩
  · exact q.elim
end
end PM

/-! PM, part 8: dicts, subscripts, slices, built-in calls, methods -/
namespace PM
open PySem PySem.Spec L2 PyProof.Rows
/-! ### tables -/
def OV (H : Hp) (ι : Z) : Option D → Option V → Prop
  | some x, ov => ∃ w, ov = some w ∧ RD H ι x w
  | none, ov => ov = none
section
variable {κ : Type} [DecidableEq κ]
def getK : List κ → List D → κ → Option D
  | k :: ks, d :: ds, j => if k = j then some d else getK ks ds j
  | _, _, _ => none
def insK (ks : List κ) (k : κ) : List κ := if k ∈ ks then ks else ks ++ [k]
def insD (ks : List κ) (ds : List D) (k : κ) (d : D) : List D := if k ∈ ks then List.zipWith (fun j x => if j = k then d else x) ks ds else ds ++ [d]
theorem getK_val {H : Hp} {ι : Z} {k : κ} : ∀ {ks : List κ} {ds : List D} {vs : List V}, ks.length = ds.length → RDs H ι ds vs → OV H ι (getK ks ds k) (valV (ks.zip vs) k)
  | [], [], vs, _, r => by simp only [getK, List.zip_nil_left]; rfl
  | j :: ks, d :: ds, vs, h, r => by
    simp only [RDs] at r
    obtain ⟨v, w, e, r1, r2⟩ := r
    subst e
    simp only [getK, List.zip_cons_cons]
    by_cases hj : j = k
    · rw [if_pos hj, valV_pos (p := (j, v)) hj]
      exact ⟨v, rfl, r1⟩
    · rw [if_neg hj, valV_neg (p := (j, v)) hj]
      exact getK_val (by simpa using h) r2
theorem zip_any {k : κ} : ∀ {ks : List κ} {vs : List V}, ks.length = vs.length → ((ks.zip vs).any fun kv => decide (kv.1 = k)) = decide (k ∈ ks)
  | [], [], _ => by simp
  | j :: ks, v :: vs, h => by
    rw [List.zip_cons_cons, List.any_cons, zip_any (by simpa using h)]
    by_cases hj : j = k
    · simp [hj]
    · have : ¬ k = j := fun e => hj e.symm
      simp [hj, this]
theorem insK_put {H : Hp} {ι : Z} {k : κ} {d : D} {v : V} {ks : List κ} {ds : List D} {vs : List V} (h : ks.length = ds.length) (r : RDs H ι ds vs) (rd : RD H ι d v) :
    ∃ ws, putK (ks.zip vs) k v = (insK ks k).zip ws ∧ (insK ks k).length = (insD ks ds k d).length ∧ RDs H ι (insD ks ds k d) ws := by
  have hl : ks.length = vs.length := by rw [h, r.length]
  unfold putK insK insD
  rw [zip_any hl]
  by_cases hk : k ∈ ks
  · rw [if_pos (by simpa using hk), if_pos hk, if_pos hk]
    refine ⟨List.zipWith (fun j x => if j = k then v else x) ks vs, ?_, by simp [h], ?_⟩
    · clear hk h r
      induction ks generalizing vs with
      | nil => rfl
      | cons j ks ih =>
        cases vs with
        | nil => cases hl
        | cons x vs =>
          rw [List.zip_cons_cons, List.map_cons, List.zipWith_cons_cons, List.zip_cons_cons, ih (by simpa using hl)]
          by_cases hj : j = k
          · rw [if_pos hj, if_pos hj]
          · rw [if_neg hj, if_neg hj]
    · clear hk
      induction ks generalizing ds vs with
      | nil => exact .nil
      | cons j ks ih =>
        cases ds with
        | nil => cases h
        | cons x ds =>
          simp only [RDs] at r
          obtain ⟨y, w, e, r1, r2⟩ := r
          subst e
          rw [List.zipWith_cons_cons, List.zipWith_cons_cons]
          refine .cons ?_ (ih (by simpa using h) r2 (by simpa using hl))
          by_cases hj : j = k
          · rw [if_pos hj, if_pos hj]; exact rd
          · rw [if_neg hj, if_neg hj]; exact r1
  · rw [if_neg (by simpa using hk), if_neg hk, if_neg hk]
    exact ⟨vs ++ [v], by rw [List.zip_append hl]; rfl, by simp [h], r.app (.cons rd .nil)⟩
end
def keyOf : D → Option Key
  | .int i => some (.inl i)
  | .str s => some (.inr s)
  | _ => none
def keysOf : List D → Option (List Key)
  | [] => some []
  | d :: ds => (keyOf d).bind fun k => (keysOf ds).map (k :: ·)
def tkeyOf : D → Option (List Key)
  | _ => none
theorem keyOf_ok {H : Hp} {ι : Z} {d : D} {v : V} {k : Key} (r : RD H ι d v) (h : keyOf d = some k) : v = kV k := by
  cases d <;> simp only [keyOf, Option.some.injEq] at h <;> first | (cases h; done) | (subst h; simp only [RD] at r; first | exact r | exact r.1)
theorem keysOf_ok {H : Hp} {ι : Z} : ∀ {ds : List D} {vs : List V} {k : List Key}, RDs H ι ds vs → keysOf ds = some k → vs = k.map kV
  | [], vs, k, r, h => by simp only [keysOf, Option.some.injEq] at h; subst h; simp only [RDs] at r; exact r
  | d :: ds, vs, k, r, h => by
    simp only [RDs] at r
    obtain ⟨v, w, e, r1, r2⟩ := r
    subst e
    simp only [keysOf] at h
    cases h1 : keyOf d with
    | none => rw [h1] at h; cases h
    | some k1 =>
      rw [h1] at h
      simp only [Option.bind_some, Option.map_eq_some_iff] at h
      obtain ⟨ks, h2, e⟩ := h
      subst e
      rw [keyOf_ok r1 h1, keysOf_ok r2 h2]; rfl
theorem tkeyOf_ok {H : Hp} {ι : Z} {d : D} {v : V} {k : List Key} (r : RD H ι d v) (h : tkeyOf d = some k) : ∃ b, v = .ref b ∧ H b = some (.tup (k.map kV)) := by
  cases h
def dkOf (S : Sto) : D → Option (List Key × List D)
  | .dct ks ds => some (ks, ds)
  | .ref n => match S[n]? with
    | some (.dK ks ds) => some (ks, ds)
    | some (.dKL ks ds) => some (ks, ds)
    | _ => none
  | _ => none
def dtOf (S : Sto) : D → Option (List (List Key) × List D)
  | .ref n => match S[n]? with
    | some (.dT ks ds) => some (ks, ds)
    | _ => none
  | _ => none
section
variable {H : Hp} {ι : Z} {mg : EnvK} {S : Sto} {d e : D} {v u : V}
theorem dkOf_ok {p : List Key × List D} (rp : Rep H ι mg S) (r : RD H ι d v) (h : dkOf S d = some p) : ∃ a vs, v = .ref a ∧ Rd H a (.dK (p.1.zip vs)) ∧ p.1.length = p.2.length ∧ RDs H ι p.2 vs := by
  cases d with
  | dct ks ds =>
    simp only [dkOf, Option.some.injEq] at h; subst h
    simp only [RD] at r
    obtain ⟨a, vs, e, h1, n, z, y, h2⟩ := r
    exact ⟨a, vs, e, h1, z, h2⟩
  | ref n =>
    simp only [RD] at r
    obtain ⟨a, e, h1⟩ := r
    obtain ⟨o, e2, ro⟩ := rp.has h1
    simp only [dkOf, e2] at h
    cases o with
    | dK ks ds =>
      simp only [Option.some.injEq] at h; subst h
      obtain ⟨vs, h3, z, y, h4⟩ := ro
      exact ⟨a, vs, e, .inl h3, z, h4⟩
    | dKL ks ds =>
      simp only [Option.some.injEq] at h; subst h
      obtain ⟨o, vs, h3, z, y, h4⟩ := ro
      exact ⟨a, vs, e, .inr ⟨o, h3⟩, z, h4⟩
    | _ => cases h
  | _ => cases h
theorem dtOf_ok {p : List (List Key) × List D} (rp : Rep H ι mg S) (r : RD H ι d v) (h : dtOf S d = some p) : ∃ a vs, v = .ref a ∧ H a = some (.dT (p.1.zip vs)) ∧ p.1.length = p.2.length ∧ RDs H ι p.2 vs := by
  cases d with
  | ref n =>
    simp only [RD] at r
    obtain ⟨a, e, h1⟩ := r
    obtain ⟨o, e2, ro⟩ := rp.has h1
    simp only [dtOf, e2] at h
    cases o with
    | dT ks ds =>
      simp only [Option.some.injEq] at h; subst h
      obtain ⟨vs, h3, z, y, h4⟩ := ro
      exact ⟨a, vs, e, h3, z, h4⟩
    | _ => cases h
  | _ => cases h
/-- what a dict has at a key -/
def dget (S : Sto) (x y : D) : Option (Option D) := match dkOf S x with
  | some p => match keyOf y with
    | some k => some (getK p.1 p.2 k)
    | none => none
  | none => match dtOf S x with
    | some p => match tkeyOf y with
      | some k => some (getK p.1 p.2 k)
      | none => none
    | none => none
theorem dget_ok {o : Option D} (rp : Rep H ι mg S) (r : RD H ι d v) (rk : RD H ι e u) (h : dget S d e = some o) : ∃ a ov, v = .ref a ∧ DGet H a u ov ∧ OV H ι o ov := by
  unfold dget at h
  split at h
  · rename_i p hp
    split at h
    · rename_i k hk
      cases h
      obtain ⟨a, vs, e1, h1, h2, h3⟩ := dkOf_ok rp r hp
      exact ⟨a, valV (p.1.zip vs) k, e1, .inl ⟨_, k, h1, keyOf_ok rk hk, rfl⟩, getK_val (k := k) h2 h3⟩
    · cases h
  · split at h
    · rename_i p hp
      split at h
      · rename_i k hk
        cases h
        obtain ⟨a, vs, e1, h1, h2, h3⟩ := dtOf_ok rp r hp
        obtain ⟨b, e2, h4⟩ := tkeyOf_ok rk hk
        exact ⟨a, valV (p.1.zip vs) k, e1, .inr ⟨_, k, b, .inl h1, e2, h4, rfl⟩, getK_val (k := k) h2 h3⟩
      · cases h
    · cases h
end
/-! ### in -/
def isFlat : D → Bool
  | .non => true | .bl _ => true | .int _ => true | .str _ => true
  | _ => false
def scalAny (x : D) : List D → Option Bool
  | [] => some false
  | d :: ds => (scalD d x).bind fun k => (scalAny x ds).map (k || ·)
theorem eqV_scal {x y : V} (h : scal x y = true) (f : flatV x = true) : eqV x y = decide (x = y) := by
  cases x <;> cases y <;> first | (cases h; done) | (cases f; done) | rfl | (simp only [eqV, V.bl.injEq, V.int.injEq, V.str.injEq]; exact Bool.beq_eq_decide_eq _ _)
theorem flat_v {H : Hp} {ι : Z} {d : D} {v : V} (r : RD H ι d v) (h : isFlat d = true) : flatV v = true := by
  cases d <;> simp only [RD] at r <;> first | (cases h; done) | (subst r; rfl) | (rw [r.1]; rfl)
theorem scalD_flat {d x : D} {k : Bool} (h : scalD d x = some k) : isFlat d = true := by
  cases d <;> cases x <;> first | rfl | cases h
theorem scalAny_ok {H : Hp} {ι : Z} {x : D} {v : V} (r : RD H ι x v) (fx : flatV v = true) : ∀ {ds : List D} {vs : List V} {k : Bool}, RDs H ι ds vs → scalAny x ds = some k → vs.all flatV = true ∧ inV v vs = k
  | [], vs, k, rs, h => by simp only [scalAny, Option.some.injEq] at h; subst h; simp only [RDs] at rs; subst rs; exact ⟨rfl, rfl⟩
  | d :: ds, vs, k, rs, h => by
    simp only [RDs] at rs
    obtain ⟨w, r2, e, r3, r4⟩ := rs
    subst e
    simp only [scalAny] at h
    cases h1 : scalD d x with
    | none => rw [h1] at h; cases h
    | some k1 =>
      rw [h1] at h
      simp only [Option.bind_some, Option.map_eq_some_iff] at h
      obtain ⟨k2, h2, e⟩ := h
      subst e
      obtain ⟨q1, q2⟩ := scalAny_ok r fx r4 h2
      obtain ⟨s1, s2⟩ := scalD_ok h1 r3 r
      have fw : flatV w = true := flat_v r3 (scalD_flat h1)
      have t1 := eqV_scal s1 fw
      refine ⟨by rw [List.all_cons, fw, q1]; rfl, ?_⟩
      show (eqV w v || inV v r2) = _
      rw [t1, s2, q2]
/-- is x in y? -/
def inDa (S : Sto) (x y : D) : Option Bool := match x, y with
  | .str a, .str z => match a.cps.toList with
    | [c] => some (decide (c ∈ z.cps.toList))
    | _ => none
  | x, y => match dget S y x with
    | some o => some o.isSome
    | none => match rdS S y with
      | some ds => match (if isFlat x = true then scalAny x ds else none) with
        | some k => some k
        | none => match tpd S x, tpd S y with
          | some p, some (.list ps) => if SeqAt.shaped p = true ∧ SeqAt.shaped (.list ps) = true then some (ps.any fun z => PyData.eqv z p) else none
          | _, _ => none
      | none => none
def opIn (x y : D) (S : Sto) : R D := match inDa S x y with
  | some k => .ok (.bl k) S
  | none => .stuck
def opNotIn (x y : D) (S : Sto) : R D := match inDa S x y with
  | some k => .ok (.bl (!k)) S
  | none => .stuck
section
variable {X : Cx}
theorem op_din (hu : X.A.units + 1 < cLine) : OpR X (compareOp .In) (fun y x H Q => ∃ a o, x = .ref a ∧ DGet H a y o ∧ Q (.bl o.isSome) H) := by
  intro pins s σ H x y v u Q I rx ry h
  obtain ⟨a, o, e, g, q⟩ := h
  subst e
  cases ry
  exact d_in hu I g rx fun s3 I3 => ⟨.bl o.isSome, H, I3, rfl, q⟩
theorem op_dnotin (hu : X.A.units + 1 < cLine) : OpR X (compareOp .NotIn) (fun y x H Q => ∃ a o, x = .ref a ∧ DGet H a y o ∧ Q (.bl (!o.isSome)) H) := by
  intro pins s σ H x y v u Q I rx ry h
  obtain ⟨a, o, e, g, q⟩ := h
  subst e
  cases ry
  exact d_notIn hu I g rx fun s3 I3 => ⟨.bl (!o.isSome), H, I3, rfl, q⟩
/-- what stands behind inDa's answer -/
theorem inDa_ok {H : Hp} {ι : Z} {S : Sto} {x y : D} {v u : V} {k : Bool} (rp : Rep H ι X.ek S) (rx : RD H ι x v) (ry : RD H ι y u) (h : inDa S x y = some k) :
    (∃ (c : Nat) (z : Str), v = .str ⟨#[c]⟩ ∧ u = .str z ∧ k = decide (c ∈ z.cps.toList)) ∨ (∃ a o, u = .ref a ∧ DGet H a v o ∧ k = o.isSome) ∨
    (∃ p xs, u = .ref p ∧ (SqL X.K H p xs ∨ SqT X.K H p xs) ∧ flatV v = true ∧ xs.all flatV = true ∧ k = inV v xs) ∨
    (∃ d ds, Dp X.K H v d ∧ Dp X.K H u (.list ds) ∧ SeqAt.shaped d = true ∧ SeqAt.shaped (.list ds) = true ∧ k = ds.any fun z => PyData.eqv z d) := by
  unfold inDa at h
  split at h
  · rename_i a z
    split at h
    · rename_i c hc
      cases h
      simp only [RD] at rx ry
      have e : a = ⟨#[c]⟩ := by
        obtain ⟨cps⟩ := a
        have : cps.toList = [c] := hc
        congr
        rw [← Array.toArray_toList (xs := cps), this]
      exact .inl ⟨c, z, by rw [rx.1, e], ry.1, rfl⟩
    · cases h
  · split at h
    · rename_i o ho
      cases h
      obtain ⟨a, ov, e, g, q⟩ := dget_ok rp ry rx ho
      refine .inr (.inl ⟨a, ov, e, g, ?_⟩)
      cases o with
      | some x => obtain ⟨w, e2, _⟩ := q; rw [e2]; rfl
      | none => rw [q]; rfl
    · split at h
      · rename_i ds hds
        obtain ⟨a, vs, e, hq, hr, hz⟩ := rdS_ok rp ry hds
        split at h
        · rename_i k' hk
          cases h
          split at hk
          · rename_i hf
            have fx := flat_v rx hf
            obtain ⟨q1, q2⟩ := scalAny_ok rx fx hr hk
            exact .inr (.inr (.inl ⟨a, vs, e, hq, fx, q1, q2.symm⟩))
          · cases hk
        · split at h
          · rename_i p ps hp hps
            split at h
            · rename_i hs
              cases h
              exact .inr (.inr (.inr ⟨p, ps, tpd_ok rp hp rx, tpd_ok rp hps ry, hs.1, hs.2, rfl⟩))
            · cases h
          · cases h
      · cases h
theorem opIn_ok (hr : Ru X.A) : OpD X (compareOp .In) opIn := by
  refine ⟨_, op_in_sign.or ((op_din hr.hu).or (op_in_seq.or (op_inD (by have := hr.un; omega)))), fun W ι S H x y dx dy Q rp rx ry q => ?_⟩
  unfold opIn at q
  split at q
  · rename_i k hk
    have q := q.here (b := V.bl k) rp (by simp only [RD])
    rcases inDa_ok rp rx ry hk with ⟨c, z, e1, e2, e3⟩ | ⟨a, o, e1, g, e2⟩ | ⟨p, xs, e, h1, h2, h3, e2⟩ | ⟨d, ds, h1, h2, h3, h4, e⟩
    · subst e3; exact .inl ⟨c, z, e1, e2, q⟩
    · subst e2; exact .inr (.inl ⟨a, o, e1, g, q⟩)
    · subst e2; exact .inr (.inr (.inl ⟨p, xs, e, h1, h2, h3, q⟩))
    · subst e; exact .inr (.inr (.inr ⟨d, ds, h1, h2, h3, h4, q⟩))
  · exact q.elim
theorem opNotIn_ok (hr : Ru X.A) : OpD X (compareOp .NotIn) opNotIn := by
  refine ⟨_, op_notIn_sign.or ((op_dnotin hr.hu).or (op_notIn_seq.or (op_notInD (by have := hr.un; omega)))), fun W ι S H x y dx dy Q rp rx ry q => ?_⟩
  unfold opNotIn at q
  split at q
  · rename_i k hk
    have q := q.here (b := V.bl (!k)) rp (by simp only [RD])
    rcases inDa_ok rp rx ry hk with ⟨c, z, e1, e2, e3⟩ | ⟨a, o, e1, g, e2⟩ | ⟨p, xs, e, h1, h2, h3, e2⟩ | ⟨d, ds, h1, h2, h3, h4, e⟩
    · subst e3; exact .inl ⟨c, z, e1, e2, q⟩
    · subst e2; exact .inr (.inl ⟨a, o, e1, g, q⟩)
    · subst e2; exact .inr (.inr (.inl ⟨p, xs, e, h1, h2, h3, q⟩))
    · subst e; exact .inr (.inr (.inr ⟨d, ds, h1, h2, h3, h4, q⟩))
  · exact q.elim
/-! ### subscripts -/
def IxD (X : Cx) (op : D → D → Sto → R D) : Prop :=
  ∃ r : R2, IxR X r ∧ ∀ (W : XK) (ι : Z) (S : Sto) (H : Hp) (x y : V) (dx dy : D) (Q : VK), Rep H ι X.ek S → RD H ι dx x → RD H ι dy y → G X.ek W ι H RD (op dx dy S) Q → r x y H Q
theorem ix_dict (hu : X.A.units + 1 < cLine) : IxR X (fun x y H Q => ∃ a v, x = .ref a ∧ DGet H a y (some v) ∧ Q v H) := by
  intro value slice pins s σ H x y v u Q I rx ry h hs
  obtain ⟨a, w, e, g, q⟩ := h
  subst e
  cases rx
  exact tail_any (dict_typeIs I g) PySem.F.slot_dict_getitem.lookup (d_getItem hu I g ry fun w' s3 I3 rw' => ⟨w, H, I3, rw', q⟩) hs
def opIx (x y : D) (S : Sto) : R D := match x, y with
  | .str z, .int i => match atI z.cps.toList i with
    | some c => .ok (.str ⟨#[c]⟩) S
    | none => .stuck
  | x, y => match dget S x y with
    | some (some d) => .ok d S
    | some none => .stuck
    | none => match rdS S x with
      | some ds => match y with
        | .int i => match atI ds i with
          | some d => .ok d S
          | none => .stuck
        | _ => .stuck
      | none => .stuck
theorem atI_ok {H : Hp} {ι : Z} {ds : List D} {vs : List V} {i : Int} {d : D} (r : RDs H ι ds vs) (h : atI ds i = some d) : ∃ v, atI vs i = some v ∧ RD H ι d v := by
  unfold atI at h ⊢
  rw [← r.length]
  cases hj : ixN ds.length i with
  | none => rw [hj] at h; cases h
  | some j =>
    rw [hj] at h
    exact r.get h
theorem opIx_ok (hr : Ru X.A) : IxD X opIx := by
  refine ⟨_, ix_str.or ((ix_dict hr.hu).or (ix_list.or ix_tup)), fun W ι S H x y dx dy Q rp rx ry q => ?_⟩
  unfold opIx at q
  split at q
  · rename_i z i
    split at q
    · rename_i c hc
      simp only [RD] at rx ry
      exact .inl ⟨z, i, c, rx.1, ry, rx.2, hc, q.here rp (by simp only [RD]; exact ⟨trivial, by show 1 ≤ sizeLine; decide⟩)⟩
    · exact q.elim
  · split at q
    · rename_i d hd
      obtain ⟨a, ov, e, g, w, e2, rw'⟩ := dget_ok rp rx ry hd
      subst e2
      exact .inr (.inl ⟨a, w, e, g, q.here rp rw'⟩)
    · exact q.elim
    · split at q
      · rename_i ds hds
        obtain ⟨a, vs, e, hq, h2, hz⟩ := rdS_ok rp rx hds
        cases dy with
        | int i =>
          dsimp only at q
          split at q
          · rename_i d hd
            obtain ⟨w, hw, rw'⟩ := atI_ok h2 hd
            simp only [RD] at ry
            rcases hq with hq | hq
            · exact .inr (.inr (.inl ⟨a, vs, i, w, e, ry, hq, hw, q.here rp rw'⟩))
            · exact .inr (.inr (.inr ⟨a, vs, i, w, e, ry, hq, hw, q.here rp rw'⟩))
          · exact q.elim
        | _ => exact q.elim
      · exact q.elim
variable {W : WX} {a b e o : Expr} {es : List Expr} {pos p p2 apos : Pos} {ma mb mo : Em} {am : Am}
theorem de_ix {f : D → D → Sto → R D} (ho : IxD X f) (ha : DE X W a ma) (hb : DE X W b mb) (hs : PlainIx b := by exact fun _ _ => rfl) : DE X W (.Subscript a b pos) (mB f ma mb) := by
  obtain ⟨r, hr, k⟩ := ho
  exact pe_imp (pe_ix hr ha hb hs) fun σ H Q h => de_opR k h
/-! ### stores -/
theorem PSet.or {t t' : TSet} (h : PSet X t) (h' : PSet X t') : PSet X (fun o i v H Q => t o i v H Q ∨ t' o i v H Q) := fun pins s σ H o i v ov iv u Q I ro ri rv q =>
  q.elim (h pins s σ H o i v ov iv u Q I ro ri rv) (h' pins s σ H o i v ov iv u Q I ro ri rv)
theorem set_dict (hu : X.A.units + 1 < cLine) : PSet X (fun o i v H Q => ∃ a H', o = .ref a ∧ DPut H a i v H' ∧ Q H') := by
  intro pins s σ H o i v ov iv u Q I ro ri rv h
  obtain ⟨a, H', e, g, q⟩ := h
  subst e
  cases ro
  exact d_setItem hu I g ri rv fun s4 I4 => ⟨H', I4, q⟩
def opSet (x y z : D) (S : Sto) : R Unit := match x with
  | .ref n => match S[n]? with
    | some (.lst ds) => match y with
      | .int i => match ixN ds.length i with
        | some j => .ok () (S.set n (.lst (ds.set j z)))
        | none => .stuck
      | _ => .stuck
    | some (.dK ks ds) => match keyOf y with
      | some k => if ks.length < sizeLine then .ok () (S.set n (.dK (insK ks k) (insD ks ds k z))) else .stuck
      | none => .stuck
    | some (.dT ks ds) => match tkeyOf y with
      | some k => if ks.length < sizeLine then .ok () (S.set n (.dT (insK ks k) (insD ks ds k z))) else .stuck
      | none => .stuck
    | _ => .stuck
  | _ => .stuck
theorem insK_len {κ : Type} [DecidableEq κ] (ks : List κ) (k : κ) : (insK ks k).length ≤ ks.length + 1 := by
  unfold insK
  split
  · omega
  · simp
theorem opSet_ok (hr : Ru X.A) : PSetD X opSet := by
  refine ⟨_, PSet.or set_list (set_dict hr.hu), fun W ι S H x y z dx dy dz Q rp rx ry rz q => ?_⟩
  unfold opSet at q
  split at q
  · rename_i n
    simp only [RD] at rx
    obtain ⟨a, e, h1⟩ := rx
    obtain ⟨o, e2, ro⟩ := rp.has h1
    simp only [e2] at q
    cases o with
    | lst ds =>
      obtain ⟨vs, h3, hz, h4⟩ := ro
      dsimp only at q
      split at q
      · rename_i i
        split at q
        · rename_i j hj
          simp only [RD] at ry
          refine .inl ⟨a, vs, i, j, e, ry, h3, by rw [← h4.length]; exact hj, ?_⟩
          have st : Lift ι H ι (upd H a (.lst (vs.set j z))) := Lift.write (.inl (List.mem_of_getElem? h1)) (fun _ e' => by rw [h3] at e'; cases e'; exact .intro (fun _ _ q => nomatch q) (fun _ _ q => nomatch q))
          obtain ⟨rp2, st2⟩ := rp.write (m := .lst (ds.set j dz)) (o := .lst (vs.set j z)) h1 (fun _ e' => by rw [h3] at e'; cases e'; exact .intro (fun _ _ q => nomatch q) (fun _ _ q => nomatch q)) ⟨_, upd_same, by simpa using hz, (h4.mono st).set (rz.mono st)⟩
          exact q.at st2 rp2 rfl
        · exact q.elim
      · exact q.elim
    | dKL ks ds => exact q.elim
    | dK ks ds =>
      obtain ⟨vs, h3, hl, hz, h4⟩ := ro
      dsimp only at q
      split at q
      · rename_i k hk
        split at q
        · rename_i hlt
          have lv : (ks.zip vs).length = ks.length := by rw [List.length_zip, ← h4.length, hl]; simp
          obtain ⟨ws0, p1, p2, p3⟩ := insK_put (k := k) hl h4 rz
          have st : Lift ι H ι (upd H a (.dK ((insK ks k).zip ws0))) := Lift.write (.inl (List.mem_of_getElem? h1)) (fun _ e' => by rw [h3] at e'; cases e'; exact .intro (fun _ _ q => nomatch q) (fun _ _ q => nomatch q))
          obtain ⟨rp2, st2⟩ := rp.write (m := .dK (insK ks k) (insD ks ds k dz)) (o := .dK ((insK ks k).zip ws0)) h1 (fun _ e' => by rw [h3] at e'; cases e'; exact .intro (fun _ _ q => nomatch q) (fun _ _ q => nomatch q)) ⟨_, upd_same, p2, by have := insK_len ks k; omega, p3.mono st⟩
          refine .inr ⟨a, _, e, .inl ⟨_, k, h3, keyOf_ok ry hk, by rw [lv]; exact hlt, rfl⟩, ?_⟩
          rw [p1]
          exact q.at st2 rp2 rfl
        · exact q.elim
      · exact q.elim
    | dT ks ds =>
      obtain ⟨vs, h3, hl, hz, h4⟩ := ro
      dsimp only at q
      split at q
      · rename_i k hk
        split at q
        · rename_i hlt
          have lv : (ks.zip vs).length = ks.length := by rw [List.length_zip, ← h4.length, hl]; simp
          obtain ⟨ws0, p1, p2, p3⟩ := insK_put (k := k) hl h4 rz
          have st : Lift ι H ι (upd H a (.dT ((insK ks k).zip ws0))) := Lift.write (.inl (List.mem_of_getElem? h1)) (fun _ e' => by rw [h3] at e'; cases e'; exact .intro (fun _ _ q => nomatch q) (fun _ _ q => nomatch q))
          obtain ⟨rp2, st2⟩ := rp.write (m := .dT (insK ks k) (insD ks ds k dz)) (o := .dT ((insK ks k).zip ws0)) h1 (fun _ e' => by rw [h3] at e'; cases e'; exact .intro (fun _ _ q => nomatch q) (fun _ _ q => nomatch q)) ⟨_, upd_same, p2, by have := insK_len ks k; omega, p3.mono st⟩
          obtain ⟨b, eb, hb⟩ := tkeyOf_ok ry hk
          refine .inr ⟨a, _, e, .inr ⟨_, k, b, h3, eb, hb, by rw [lv]; exact hlt, rfl⟩, ?_⟩
          rw [p1]
          exact q.at st2 rp2 rfl
        · exact q.elim
      · exact q.elim
    | ins c fs ds => exact q.elim
  · exact q.elim
end
end PM

/-! PM, part 9: slices, built-in calls, methods -/
namespace PM
open PySem PySem.Spec L2 PyProof.Rows
abbrev Om := Loc → Sto → R (Option Int)
def mNo : Om := fun _ S => .ok none S
def mPt (e : Em) : Om := fun δ S => (e δ S).bind fun x S1 => match x with
  | .int i => .ok (some i) S1
  | _ => .stuck
def mSl (f : D → Option Int → Option Int → Sto → R D) (a : Em) (lo hi : Om) : Em := fun δ S => (a δ S).bind fun x S1 => (lo δ S1).bind fun l S2 => (hi δ S2).bind fun u S3 => f x l u S3
def cutD {α : Type} (xs : List α) (lo hi : Option Int) : List α := (xs.drop (HT.sIx xs.length 0 lo)).take (HT.sIx xs.length xs.length hi - HT.sIx xs.length 0 lo)
def opSl (x : D) (lo hi : Option Int) (S : Sto) : R D := match x with
  | .str z => .ok (.str (cutS z lo hi)) S
  | .tup ds => .ok (.tup (cutD ds lo hi)) S
  | x => match rdL S x with
    | some ds => .ok (.lst (cutD ds lo hi)) S
    | none => .stuck
theorem cutD_le {α : Type} (xs : List α) (lo hi : Option Int) : (cutD xs lo hi).length ≤ xs.length := by
  unfold cutD
  rw [List.length_take, List.length_drop]; omega
theorem cutS_le (z : Str) (lo hi : Option Int) : (cutS z lo hi).length ≤ z.length := by
  have h : (cutS z lo hi).length = (cutD z.cps.toList lo hi).length := by
    unfold cutS cutD Str.length
    simp
  rw [h]
  have := cutD_le z.cps.toList lo hi
  simpa [Str.length] using this
theorem rds_cut {H : Hp} {ι : Z} {ds : List D} {vs : List V} (r : RDs H ι ds vs) (lo hi : Option Int) : RDs H ι (cutD ds lo hi) (cutV vs lo hi) := by
  unfold cutD cutV
  rw [r.length]
  exact (r.drop _).take _
section
variable {X : Cx} {W : WX} {a b e o : Expr} {es : List Expr} {pos p p2 apos : Pos} {ma mb mo : Em} {am : Am} {lo hi : Option Expr} {ml mh : Om} {tg : Expr}
def DO (X : Cx) (W : WX) (e : Option Expr) (m : Om) : Prop := PO X e (tD X.ek W REq m)
theorem do_none : DO X W none mNo := ⟨fun pins s σ H Q I ⟨ι, S, δ, rp, rs, g⟩ => po_none.run pins s σ H Q I (g.here rp rfl)⟩
theorem do_some (h : DE X W e ma) : DO X W (some e) (mPt ma) := ⟨fun pins s σ H Q I q => (po_some h).run pins s σ H Q I (t_bind q fun ι S δ d v H' rp rs r g => by
    cases d with
    | int i => simp only [RD] at r; exact ⟨i, r, g.here rp rfl⟩
    | _ => exact g.elim)⟩
theorem de_slice (ha : DE X W a ma) (hl : DO X W lo ml) (hh : DO X W hi mh) : DE X W (.Subscript a (.Slice lo hi none p2) pos) (mSl opSl ma ml mh) :=
  pe_imp (pe_slice (sl_str.or (sl_tupF.or sl_list)) ha hl hh) fun σ H Q h => t_bind h fun ι S δ d v H1 rp rs rd g => ⟨ι, S, δ, rp, rs, (G.bind g).imp fun l H2 ⟨ι2, S2, l', st2, rp2, el, g2⟩ =>
    ⟨ι2, S2, δ, rp2, rs.mono st2.up, (G.bind g2).imp fun u H3 ⟨ι3, S3, u', st3, rp3, eu, g3⟩ => by
      rw [show l = l' from el, show u = u' from eu]
      have rd3 := rd.mono (st2.trans st3).up
      unfold opSl at g3
      split at g3
      · simp only [RD] at rd3
        exact .inl ⟨_, rd3.1, rd3.2, g3.here rp3 (by simp only [RD]; exact ⟨trivial, Nat.le_trans (cutS_le _ l' u') rd3.2⟩)⟩
      · simp only [RD] at rd3
        obtain ⟨t, vs, e, h1, z, h2⟩ := rd3
        have hz := Nat.le_trans (cutD_le _ l' u') z
        refine .inr (.inl ⟨t, vs, e, h1.sq, fun w => ?_, fun _ p o d hp => g3.at (Step.new hp) (rp3.new hp) ?_⟩)
        · refine g3.here rp3 ?_
          unfold cutD
          rw [h2.length, w.1, w.2, List.drop_zero, Nat.sub_zero, ← h2.length, List.take_length]
          simp only [RD]
          exact ⟨t, vs, rfl, h1, z, h2⟩
        · simp only [RD]
          exact ⟨p, _, rfl, Tp.mk d, hz, (rds_cut h2 l' u').mono (Step.new hp).up⟩
      · split at g3
        · rename_i ds hds
          obtain ⟨t, vs, e, h1, h2, z⟩ := rdL_ok rp3 rd3 hds
          exact .inr (.inr ⟨t, vs, e, h1, fun p hp => g3.at (Step.new hp) (rp3.new hp) (rd_newLst rp3 (rds_cut h2 l' u') (Nat.le_trans (cutD_le _ _ _) z) hp)⟩)
        · exact g3.elim⟩⟩
/-! ### built-in calls -/
def CallD (X : Cx) (f : Value) (c : List D → Sto → R D) : Prop :=
  ∃ r, CallR X f r ∧ ∀ (W : XK) (ι : Z) (S : Sto) (H : Hp) (xs : List V) (dxs : List D) (Q : VK), Rep H ι X.ek S → RDs H ι dxs xs → G X.ek W ι H RD (c dxs S) Q → r xs H Q
theorem de_callB {x : Str} {id : String} {c : List D → Sto → R D} (hc : CallD X (.builtin id) c) (hg : Gl X x) (hm : X.mg x = none) (hv : bootBuiltins x = some (.builtin id)) (ha : DA X W (e :: es) am) (hn : x ≠ "__name__" := by decide) (hdb : (x == ("__debug__" : Str)) = false := by decide)
    (he : starEach (e :: es) X.env = (false, eval e X.env) :: starEach es X.env := by rfl) (hpl : (backTo pos (starEach es X.env)).any (·.1) = false := by rfl) : DE X W (.Call (.Name x p) (e :: es) [] pos) (mApp c am) := by
  obtain ⟨r, hr, k⟩ := hc
  exact pe_imp (pe_callB hr hg hm hv ha hn hdb he hpl) fun σ H Q h => t_bind h fun ι S δ ds vs H1 rp rs rd g => k _ ι S H1 vs ds Q rp rd g
theorem de_callTy {x : Str} {T : String} {c : List D → Sto → R D} (hc : CallD X (.type T) c) (hg : Gl X x) (hm : X.mg x = none) (hv : bootBuiltins x = some (.type T)) (ha : DA X W (e :: es) am) (hn : x ≠ "__name__" := by decide) (hdb : (x == ("__debug__" : Str)) = false := by decide)
    (he : starEach (e :: es) X.env = (false, eval e X.env) :: starEach es X.env := by rfl) (hpl : (backTo pos (starEach es X.env)).any (·.1) = false := by rfl) : DE X W (.Call (.Name x p) (e :: es) [] pos) (mApp c am) := by
  obtain ⟨r, hr, k⟩ := hc
  exact pe_imp (pe_callTy hr hg hm hv ha hn hdb he hpl) fun σ H Q h => t_bind h fun ι S δ ds vs H1 rp rs rd g => k _ ι S H1 vs ds Q rp rd g
theorem rds_one {H : Hp} {ι : Z} {d : D} {vs : List V} (r : RDs H ι [d] vs) : ∃ v, vs = [v] ∧ RD H ι d v := by
  simp only [RDs] at r
  obtain ⟨v, w, e, h, e2⟩ := r
  subst e2
  exact ⟨v, e, h⟩
theorem rds_two {H : Hp} {ι : Z} {d d' : D} {vs : List V} (r : RDs H ι [d, d'] vs) : ∃ v v', vs = [v, v'] ∧ RD H ι d v ∧ RD H ι d' v' := by
  simp only [RDs] at r
  obtain ⟨v, w, e, h, v', w', e2, h2, e3⟩ := r
  subst e3 e2
  exact ⟨v, v', e, h, h2⟩
/-- len -/
def cLen (ds : List D) (S : Sto) : R D := match ds with
  | [d] => match lenOf d S with
    | some n => .ok (.int n) S
    | none => .stuck
  | _ => .stuck
theorem call_lenRd : CallR X (.builtin "len") (fun xs H Q => ∃ a kvs, xs = [V.ref a] ∧ Rd H a (.dK kvs) ∧ Q (.int kvs.length) H) := by
  intro pins s σ H xs us Q I r h
  obtain ⟨a, kvs, rfl, ha, q⟩ := h
  obtain ⟨u, rfl, ru⟩ := vals1 r
  cases ru
  exact d_len I ha fun t s' I' => ⟨.int kvs.length, H, I', ⟨t, rfl⟩, q⟩
/-- what a length stands for -/
theorem lenOf_ok {H : Hp} {ι : Z} {S : Sto} {d : D} {v : V} {n : Nat} (rp : Rep H ι X.ek S) (r : RD H ι d v) (h : lenOf d S = some n) :
    n ≤ sizeLine ∧ ((∃ p ys, v = .ref p ∧ (SqL X.K H p ys ∨ SqT X.K H p ys) ∧ n = ys.length) ∨ (∃ z, v = .str z ∧ z.length ≤ sizeLine ∧ n = z.length) ∨ (∃ a kvs, v = .ref a ∧ Rd H a (.dK kvs) ∧ n = kvs.length) ∨ (∃ a kvs, v = .ref a ∧ H a = some (.dT kvs) ∧ n = kvs.length)) := by
  cases d with
  | str z =>
    simp only [lenOf, Option.some.injEq] at h; subst h
    simp only [RD] at r
    exact ⟨r.2, .inr (.inl ⟨z, r.1, r.2, rfl⟩)⟩
  | tup ds =>
    simp only [lenOf, Option.some.injEq] at h; subst h
    obtain ⟨a, vs, e, hq, h2, z⟩ := rdS_ok (ds := ds) rp r rfl
    exact ⟨z, .inl ⟨a, vs, e, hq, h2.length⟩⟩
  | lst ds =>
    simp only [lenOf, Option.some.injEq] at h; subst h
    obtain ⟨a, vs, e, hq, h2, z⟩ := rdS_ok (ds := ds) rp r rfl
    exact ⟨z, .inl ⟨a, vs, e, hq, h2.length⟩⟩
  | scr ds =>
    simp only [lenOf, Option.some.injEq] at h; subst h
    obtain ⟨a, vs, e, hq, h2, z⟩ := rdS_ok (ds := ds) rp r rfl
    exact ⟨z, .inl ⟨a, vs, e, hq, h2.length⟩⟩
  | dct ks ds =>
    simp only [lenOf, Option.some.injEq] at h; subst h
    simp only [RD] at r
    obtain ⟨a, vs, e, h1, n, z, y, h2⟩ := r
    exact ⟨y, .inr (.inr (.inl ⟨a, _, e, h1, by rw [List.length_zip, ← h2.length, z]; simp⟩))⟩
  | ref m =>
    simp only [RD] at r
    obtain ⟨a, e, h1⟩ := r
    obtain ⟨o, e2, ro⟩ := rp.has h1
    simp only [lenOf, e2] at h
    cases o with
    | lst ds =>
      simp only [Option.some.injEq] at h; subst h
      obtain ⟨vs, h3, z, h4⟩ := ro
      exact ⟨z, .inl ⟨a, vs, e, .inl (.of h3), h4.length⟩⟩
    | dK ks ds =>
      simp only [Option.some.injEq] at h; subst h
      obtain ⟨vs, h3, z, y, h4⟩ := ro
      exact ⟨y, .inr (.inr (.inl ⟨a, _, e, .inl h3, by rw [List.length_zip, ← h4.length, z]; simp⟩))⟩
    | dKL ks ds =>
      simp only [Option.some.injEq] at h; subst h
      obtain ⟨o, vs, h3, z, y, h4⟩ := ro
      exact ⟨y, .inr (.inr (.inl ⟨a, _, e, .inr ⟨o, h3⟩, by rw [List.length_zip, ← h4.length, z]; simp⟩))⟩
    | dT ks ds =>
      simp only [Option.some.injEq] at h; subst h
      obtain ⟨vs, h3, z, y, h4⟩ := ro
      exact ⟨y, .inr (.inr (.inr ⟨a, _, e, h3, by rw [List.length_zip, ← h4.length, z]; simp⟩))⟩
    | ins c fs ds => cases h
  | _ => cases h
theorem cLen_ok : CallD X (.builtin "len") cLen := by
  refine ⟨_, CallR.or call_len_seq (CallR.or call_len_str (CallR.or call_lenRd call_len_dT)), fun W ι S H xs dxs Q rp rx q => ?_⟩
  unfold cLen at q
  split at q
  · rename_i d
    obtain ⟨v, e, r⟩ := rds_one rx
    subst e
    split at q
    · rename_i n hn
      have q := q.here (b := V.int n) rp (by simp only [RD])
      obtain ⟨_, ⟨p, ys, e, hq, e2⟩ | ⟨z, e, hz, e2⟩ | ⟨a, kvs, e, hq, e2⟩ | ⟨a, kvs, e, hq, e2⟩⟩ := lenOf_ok rp r hn
      · subst e e2; exact .inl ⟨p, ys, rfl, hq, q⟩
      · subst e e2; exact .inr (.inl ⟨z, rfl, hz, q⟩)
      · subst e e2; exact .inr (.inr (.inl ⟨a, kvs, rfl, hq, q⟩))
      · subst e e2; exact .inr (.inr (.inr ⟨a, kvs, rfl, hq, q⟩))
    · exact q.elim
  · exact q.elim
/-- for .. in range(len(e)) -/
theorem di_rangeLen {q r s : Pos} (hg : Gl X "range") (hm : X.mg "range" = none) (hg2 : Gl X "len") (hm2 : X.mg "len" = none) (ha : DE X W a ma) (hs : starEach [.Call (.Name "len" p) [a] [] q] X.env = [(false, eval (.Call (.Name "len" p) [a] [] q) X.env)] := by rfl)
    (hs2 : starEach [a] X.env = [(false, eval a X.env)] := by rfl) (hpl : (backTo q (starEach [] X.env)).any (·.1) = false := by rfl) : DI X W tg (.Call (.Name "range" r) [.Call (.Name "len" p) [a] [] q] [] s) (sRangeLen ma) :=
  pi_imp (pi_range1 hg hm (pa_cons (pe_callB (CallR.or call_len_seq (CallR.or call_len_str (CallR.or call_lenRd call_len_dT))) hg2 hm2 boot_len (pa_cons ha pa_nil hs2) (he := hs2) (hpl := hpl)) pa_nil hs) hs) fun σ H J h => t_bind h fun ι S δ d v H1 rp rs rd g => by
    split at g
    · rename_i n hn
      obtain ⟨hz, q⟩ := lenOf_ok rp rd hn
      have fin : ∃ j : Int, [V.int (n : Int)] = [V.int j] ∧ -(2 ^ 62) ≤ j ∧ j < 2 ^ 62 ∧ J (Itr 0 j.toNat) H1 := by
        have := sz62
        exact ⟨n, rfl, by omega, by omega, g.here rp (RIt.of_range (n := n) hz)⟩
      rcases q with ⟨p, ys, e, hq, e2⟩ | ⟨z, e, hz, e2⟩ | ⟨a, kvs, e, hq, e2⟩ | ⟨a, kvs, e, hq, e2⟩
      · subst e e2; exact .inl ⟨p, ys, rfl, hq, fin⟩
      · subst e e2; exact .inr (.inl ⟨z, rfl, hz, fin⟩)
      · subst e e2; exact .inr (.inr (.inl ⟨a, kvs, rfl, hq, fin⟩))
      · subst e e2; exact .inr (.inr (.inr ⟨a, kvs, rfl, hq, fin⟩))
    · exact g.elim
/-- list(x), tuple(x) -/
def cList (ds : List D) (S : Sto) : R D := match ds with
  | [d] => match rdS S d with
    | some es => .ok (.lst es) S
    | none => .stuck
  | _ => .stuck
theorem cList_ok : CallD X (.type "list") cList := by
  refine ⟨_, call_list_of, fun W ι S H xs dxs Q rp rx q => ?_⟩
  unfold cList at q
  split at q
  · rename_i d
    obtain ⟨v, e, r⟩ := rds_one rx
    subst e
    split at q
    · rename_i es hes
      obtain ⟨a, vs, e, hq, h2, z⟩ := rdS_ok rp r hes
      subst e
      exact ⟨a, vs, rfl, hq, fun p hp => q.at (Step.new hp) (rp.new hp) (rd_newLst rp h2 z hp)⟩
    · exact q.elim
  · exact q.elim
/-- .. a list that may be changed -/
def cListR (ds : List D) (S : Sto) : R D := match ds with
  | [d] => match rdS S d with
    | some es => .ok (.ref S.length) (S ++ [.lst es])
    | none => .stuck
  | _ => .stuck
theorem cListR_ok : CallD X (.type "list") cListR := by
  refine ⟨_, call_list_of, fun W ι S H xs dxs Q rp rx q => ?_⟩
  unfold cListR at q
  split at q
  · rename_i d
    obtain ⟨v, e, r⟩ := rds_one rx
    subst e
    split at q
    · rename_i es hes
      obtain ⟨a, vs, e, hq, h2, z⟩ := rdS_ok rp r hes
      subst e
      refine ⟨a, vs, rfl, hq, fun p hp => ?_⟩
      have q2 := rep_newRef (m := .lst es) (u := .lst vs) rp hp ⟨vs, upd_same, z, h2.mono (Step.newRef hp).up⟩
      exact q.at (Step.newRef hp) q2.1 q2.2
    · exact q.elim
  · exact q.elim
def cTuple (ds : List D) (S : Sto) : R D := match ds with
  | [d] => match rdS S d with
    | some es => .ok (.tup es) S
    | none => .stuck
  | _ => .stuck
theorem cTuple_ok : CallD X (.type "tuple") cTuple := by
  refine ⟨_, call_tupleF, fun W ι S H xs dxs Q rp rx q => ?_⟩
  unfold cTuple at q
  split at q
  · rename_i d
    obtain ⟨v, e, r⟩ := rds_one rx
    subst e
    split at q
    · rename_i es hes
      have lst : rdL S d = some es → ∃ p ys, [v] = [V.ref p] ∧ ((SqL X.K H p ys ∧ NewT H ys Q) ∨ (SqT X.K H p ys ∧ Q (.ref p) H)) := fun h => by
        obtain ⟨a, vs, e, hq, h2, z⟩ := rdL_ok rp r h
        subst e
        exact ⟨a, vs, rfl, .inl ⟨hq, fun p o dd hp => q.at (Step.new hp) (rp.new hp) (by simp only [RD]; exact ⟨p, vs, rfl, Tp.mk dd, z, h2.mono (Step.new hp).up⟩)⟩⟩
      cases d with
      | tup ds =>
        simp only [rdS, Option.some.injEq] at hes; subst hes
        have r' := r
        simp only [RD] at r
        obtain ⟨a, vs, e, h1, z, h2⟩ := r
        subst e
        exact ⟨a, vs, rfl, .inr ⟨h1.sq, q.here rp r'⟩⟩
      | lst ds => exact lst hes
      | scr ds => exact lst hes
      | ref ds => exact lst hes
      | _ => cases hes
    · exact q.elim
  · exact q.elim
/-- isinstance(x, T) of a built-in class -/
def tyN (S : Sto) : D → Option String
  | .non => some "NoneType" | .bl _ => some "bool" | .int _ => some "int" | .str _ => some "str"
  | .tup _ => some "tuple" | .lst _ => some "list" | .scr _ => some "list" | .dct _ _ => some "dict" | .exn _ => none
  | .ref n => match S[n]? with
    | some (.lst _) => some "list"
    | some (.dK _ _) => some "dict"
    | some (.dT _ _) => some "dict"
    | _ => none
def opIsi (T : String) (d : D) (S : Sto) : R D := match tyN S d with
  | some t => match kitB t T with
    | some k => .ok (.bl k) S
    | none => .stuck
  | none => .stuck
theorem tyN_ok {H : Hp} {ι : Z} {S : Sto} {d : D} {v : V} {t : String} (rp : Rep H ι X.ek S) (r : RD H ι d v) (h : tyN S d = some t) : TyX X.K H v (.type t) := by
  cases d with
  | exn a => simp only [tyN] at h; cases h
  | non => simp only [tyN, Option.some.injEq] at h; subst h; simp only [RD] at r; subst r; exact .base .non
  | bl b => simp only [tyN, Option.some.injEq] at h; subst h; simp only [RD] at r; subst r; exact .base (.bl b)
  | int b => simp only [tyN, Option.some.injEq] at h; subst h; simp only [RD] at r; subst r; exact .base (.int b)
  | str b => simp only [tyN, Option.some.injEq] at h; subst h; simp only [RD] at r; rw [r.1]; exact .base (.str b)
  | tup ds =>
    simp only [tyN, Option.some.injEq] at h; subst h; simp only [RD] at r
    obtain ⟨a, vs, e, h1, _⟩ := r
    subst e; obtain ⟨o, h1, _⟩ := h1; exact .fTuple h1
  | lst ds =>
    simp only [tyN, Option.some.injEq] at h; subst h; simp only [RD] at r
    obtain ⟨a, vs, e, h1, _⟩ := r
    subst e; exact .base (.lst h1)
  | scr ds =>
    simp only [tyN, Option.some.injEq] at h; subst h; simp only [RD] at r
    obtain ⟨a, vs, e, h1, _⟩ := r
    subst e
    rcases h1 with ⟨o, h1⟩ | ⟨o, its, n, h1, h2, _⟩
    · exact .base (.frz h1)
    · rw [show ι.k = X.K from rp.kk] at h1
      exact .kList h1 h2
  | dct ks ds =>
    simp only [tyN, Option.some.injEq] at h; subst h; simp only [RD] at r
    obtain ⟨a, vs, e, h1, _⟩ := r
    subst e
    rcases h1 with h1 | ⟨o, h1⟩
    · exact .base (.dK h1)
    · exact .fDict h1
  | ref n =>
    simp only [RD] at r
    obtain ⟨a, e, h1⟩ := r
    subst e
    obtain ⟨o, e2, ro⟩ := rp.has h1
    simp only [tyN, e2] at h
    cases o with
    | lst ds => simp only [Option.some.injEq] at h; subst h; obtain ⟨vs, h3, _⟩ := ro; exact .base (.lst h3)
    | dKL ks ds => cases h
    | dK ks ds => simp only [Option.some.injEq] at h; subst h; obtain ⟨vs, h3, _⟩ := ro; exact .base (.dK h3)
    | dT ks ds => simp only [Option.some.injEq] at h; subst h; obtain ⟨vs, h3, _⟩ := ro; exact .base (.dT h3)
    | ins c fs ds => cases h
theorem de_isi {x : Str} {T : String} {q : Pos} (hg : Gl X "isinstance") (hm : X.mg "isinstance" = none) (ha : DE X W a ma) (hT : PE X (.Name x q) (tC (.ty T)))
    (hs : starEach [a, .Name x q] X.env = (false, eval a X.env) :: starEach [.Name x q] X.env := by rfl) (hs2 : starEach [.Name x q] X.env = [(false, eval (.Name x q) X.env)] := by rfl)
    (hpl : (backTo pos (starEach [.Name x q] X.env)).any (·.1) = false := by rfl) : DE X W (.Call (.Name "isinstance" p) [a, .Name x q] [] pos) (mU (opIsi T) ma) :=
  pe_imp (pe_callB call_isi hg hm (by decide +kernel) (pa_cons ha (pa_cons hT pa_nil hs2) hs) (he := hs) (hpl := hpl)) fun σ H Q h => t_bind h fun ι S δ d v H1 rp rs rd g => by
    unfold opIsi at g
    split at g
    · rename_i t ht
      split at g
      · rename_i k hk
        exact ⟨v, .ty T, .type t, .type T, k, rfl, .ty T, tyN_ok rp rd ht, kit_ty hk, g.here rp (by simp only [RD])⟩
      · exact g.elim
    · exact g.elim
/-! ### methods of built-in types -/
def mMt (chk : Sto → D → Bool) (c : D → List D → Sto → R D) (o : Em) (a : Am) : Em := fun δ S => (o δ S).bind fun x S1 => if chk S1 x = true then (a δ S1).bind fun xs S2 => c x xs S2 else .stuck
def isLst (S : Sto) (d : D) : Bool := (rdL S d).isSome
def MtD (X : Cx) (id : String) (c : D → List D → Sto → R D) : Prop :=
  ∃ r, MtR X id r ∧ ∀ (W : XK) (ι : Z) (S : Sto) (H : Hp) (x : V) (xs : List V) (dx : D) (dxs : List D) (Q : VK), Rep H ι X.ek S → RD H ι dx x → RDs H ι dxs xs → G X.ek W ι H RD (c dx dxs S) Q → r x xs H Q
theorem de_mlist {name : Str} {id : String} {c : D → List D → Sto → R D} (slot : Slot "list" name id) (hty : typeOf (.builtin id) = pure (.type "method_descriptor")) (hm : MtD X id c) (ho : DE X W o mo) (ha : DA X W (e :: es) am)
    (hbase : attributeBase o name X.env (eval o X.env) = eval o X.env := by rfl)
    (hfew : ((backTo p (starEach (e :: es) X.env)).all (fun x => !x.1) && (backToKw p (keywordEach [] X.env)).all (fun x => x.1.isSome)
      && decide ((e :: es).length + ([] : List Keyword).length + (if ([] : List Keyword).isEmpty then 0 else 1) < 30)) = true := by rfl)
    (hline : (apos.endLine == p.line) = true := by rfl) (hs : starEach (e :: es) X.env = (false, eval e X.env) :: starEach es X.env := by rfl) (hplain : (backTo p (starEach es X.env)).any (·.1) = false := by rfl) :
    DE X W (.Call (.Attribute o name apos) (e :: es) [] p) (mMt isLst c mo am) := by
  obtain ⟨r, hr, k⟩ := hm
  exact pe_imp (pe_bm PySem.F.plainAttrs_list slot hty hr ho ha hbase hfew hline hs hplain) fun σ H Q h => t_bind h fun ι S δ d v H1 rp rs rd g => by
    split at g
    · rename_i hl
      unfold isLst at hl
      cases hd : rdL S d with
      | none => rw [hd] at hl; cases hl
      | some ds =>
        obtain ⟨a, vs, e, h1, h2, z⟩ := rdL_ok rp rd hd
        refine ⟨by subst e; exact .inl ⟨rfl, vs, h1⟩, ι, S, δ, rp, rs, (G.bind g).imp fun xs H2 ⟨ι2, S2, ds2, st2, rp2, rd2, g2⟩ => k _ ι2 S2 H2 v xs d ds2 Q rp2 (rd.mono st2.up) rd2 g2⟩
    · exact g.elim
def cAppend (x : D) (ds : List D) (S : Sto) : R D := match x, ds with
  | .ref n, [d] => match S[n]? with
    | some (.lst es) => if es.length < sizeLine then .ok .non (S.set n (.lst (es ++ [d]))) else .stuck
    | _ => .stuck
  | _, _ => .stuck
theorem cAppend_ok : MtD X "list.append" cAppend := by
  refine ⟨_, mt_append, fun W ι S H x xs dx dxs Q rp rx rs q => ?_⟩
  unfold cAppend at q
  split at q
  · rename_i n d
    obtain ⟨v, e, r⟩ := rds_one rs
    subst e
    simp only [RD] at rx
    obtain ⟨a, e, h1⟩ := rx
    obtain ⟨o, e2, ro⟩ := rp.has h1
    simp only [e2] at q
    cases o with
    | lst es =>
      obtain ⟨vs, h3, hz, h4⟩ := ro
      dsimp only at q
      split at q
      · rename_i hlt
        have st : Lift ι H ι (upd H a (.lst (vs ++ [v]))) := Lift.write (.inl (List.mem_of_getElem? h1)) (fun _ e' => by rw [h3] at e'; cases e'; exact .intro (fun _ _ q => nomatch q) (fun _ _ q => nomatch q))
        obtain ⟨rp2, st2⟩ := rp.write (m := .lst (es ++ [d])) (o := .lst (vs ++ [v])) h1 (fun _ e' => by rw [h3] at e'; cases e'; exact .intro (fun _ _ q => nomatch q) (fun _ _ q => nomatch q)) ⟨_, upd_same, by simp; omega, (h4.mono st).app (.cons (r.mono st) .nil)⟩
        exact ⟨a, vs, v, e, rfl, h3, by rw [← h4.length]; exact hlt, q.at st2 rp2 (by simp only [RD])⟩
      · exact q.elim
    | _ => exact q.elim
  · exact q.elim
def cExtend (x : D) (ds : List D) (S : Sto) : R D := match x, ds with
  | .ref n, [d] => match S[n]?, asL S d with
    | some (.lst es), some fs => if es.length + fs.length ≤ sizeLine then .ok .non (S.set n (.lst (es ++ fs))) else .stuck
    | _, _ => .stuck
  | _, _ => .stuck
theorem cExtend_ok : MtD X "list.extend" cExtend := by
  refine ⟨_, mt_extend, fun W ι S H x xs dx dxs Q rp rx rs q => ?_⟩
  unfold cExtend at q
  split at q
  · rename_i n d
    obtain ⟨v, e, r⟩ := rds_one rs
    subst e
    simp only [RD] at rx
    obtain ⟨a, e, h1⟩ := rx
    obtain ⟨o, e2, ro⟩ := rp.has h1
    split at q
    · rename_i es fs h5 hfs
      rw [e2] at h5
      cases h5
      obtain ⟨vs, h3, hz, h4⟩ := ro
      obtain ⟨b, ws, eb, h6, h7, _⟩ := asL_ok rp r hfs
      subst eb
      split at q
      · rename_i hlt
        have st : Lift ι H ι (upd H a (.lst (vs ++ ws))) := Lift.write (.inl (List.mem_of_getElem? h1)) (fun _ e' => by rw [h3] at e'; cases e'; exact .intro (fun _ _ q => nomatch q) (fun _ _ q => nomatch q))
        obtain ⟨rp2, st2⟩ := rp.write (m := .lst (es ++ fs)) (o := .lst (vs ++ ws)) h1 (fun _ e' => by rw [h3] at e'; cases e'; exact .intro (fun _ _ q => nomatch q) (fun _ _ q => nomatch q)) ⟨_, upd_same, by simp; omega, (h4.mono st).app (h7.mono st)⟩
        exact ⟨a, b, vs, ws, e, rfl, h3, h6, by rw [← h4.length, ← h7.length]; exact hlt, q.at st2 rp2 (by simp only [RD])⟩
      · exact q.elim
    · exact q.elim
  · exact q.elim
/-- sep.join(xs) -/
def strsOf : List D → Option (List Str)
  | [] => some []
  | .str s :: ds => (strsOf ds).map (s :: ·)
  | _ :: _ => none
theorem strsOf_ok {H : Hp} {ι : Z} : ∀ {ds : List D} {vs : List V} {ys : List Str}, RDs H ι ds vs → strsOf ds = some ys → vs = ys.map V.str
  | [], vs, ys, r, h => by simp only [strsOf, Option.some.injEq] at h; subst h; simp only [RDs] at r; exact r
  | d :: ds, vs, ys, r, h => by
    simp only [RDs] at r
    obtain ⟨v, w, e, r1, r2⟩ := r
    subst e
    cases d with
    | str s =>
      simp only [strsOf, Option.map_eq_some_iff] at h
      obtain ⟨zs, h2, e⟩ := h
      subst e
      simp only [RD] at r1
      rw [r1.1, strsOf_ok r2 h2]; rfl
    | _ => simp only [strsOf] at h; cases h
def opJoin (x y : D) (S : Sto) : R D := match x with
  | .str a => match rdS S y with
    | some ds => match strsOf ds with
      | some ys => if (ys.map (·.length)).sum + ys.length * a.length ≤ 16777216 ∧ (Txt.join a ys).length ≤ sizeLine then .ok (.str (Txt.join a ys)) S else .stuck
      | none => .stuck
    | none => .stuck
  | _ => .stuck
def mJoin (a b : Em) : Em := fun δ S => (a δ S).bind fun x S1 => match x with
  | .str _ => (b δ S1).bind fun y S2 => opJoin x y S2
  | _ => .stuck
theorem de_join (ho : DE X W o mo) (ha : DE X W a ma) (hs : starEach [a] X.env = [(false, eval a X.env)] := by rfl) (hbase : attributeBase o "join" X.env (eval o X.env) = eval o X.env := by rfl) (hline : (apos.endLine == pos.line) = true := by rfl) :
    DE X W (.Call (.Attribute o "join" apos) [a] [] pos) (mJoin mo ma) :=
  pe_imp (pe_join ho ha hs hbase hline) fun σ H Q h => t_bind h fun ι S δ d v H1 rp rs rd g => by
    cases d with
    | str z =>
      simp only [RD] at rd
      refine ⟨⟨z, rd.1⟩, ι, S, δ, rp, rs, (G.bind g).imp fun y H2 ⟨ι2, S2, dy, st2, rp2, rd2, g2⟩ => ?_⟩
      unfold opJoin at g2
      dsimp only at g2
      split at g2
      · rename_i ds hds
        obtain ⟨p, vs, e, hq, h2, hz⟩ := rdS_ok rp2 rd2 hds
        split at g2
        · rename_i ys hys
          have e2 := strsOf_ok h2 hys
          subst e2
          split at g2
          · rename_i hc
            exact ⟨z, p, ys, rd.1, by rw [e], hq, hc.1, g2.here rp2 (by simp only [RD]; exact ⟨trivial, hc.2⟩)⟩
          · exact g2.elim
        · exact g2.elim
      · exact g2.elim
    | _ => exact g.elim
end
end PM

/-! PM, part 10: chains, all, any, sum, a module's constants, a law's end -/
namespace PM
open PySem PySem.Spec L2 PyProof.Rows
section
variable {X : Cx} {W : WX} {a b c e o : Expr} {es : List Expr} {pos p p2 apos : Pos} {ma mb mc mo : Em} {am : Am}
theorem chain_imp {f g : D → D → Sto → R D} {r r' : R2} (k : ∀ (W : XK) (ι : Z) (S : Sto) (H : Hp) (x y : V) (dx dy : D) (Q : VK), Rep H ι X.ek S → RD H ι dx x → RD H ι dy y → G X.ek W ι H RD (f dx dy S) Q → r x y H Q)
    (k' : ∀ (W : XK) (ι : Z) (S : Sto) (H : Hp) (x y : V) (dx dy : D) (Q : VK), Rep H ι X.ek S → RD H ι dx x → RD H ι dy y → G X.ek W ι H RD (g dx dy S) Q → r' x y H Q) {σ : L2.St} {H : Hp} {Q : VK}
    (h : tDE X.ek W (mChain f g ma mb mc) σ H Q) : tChain r r' (tDE X.ek W ma) (tDE X.ek W mb) (tDE X.ek W mc) σ H Q := by
  refine t_bind h fun ι S δ d v H1 rp rs rd gg => ⟨ι, S, δ, rp, rs, (G.bind gg).imp fun v2 H2 ⟨ι2, S2, d2, st2, rp2, rd2, g2⟩ => ?_⟩
  refine k _ ι2 S2 H2 v v2 d d2 _ rp2 (rd.mono st2.up) rd2 ((G.bind g2).imp fun z H3 ⟨ι3, S3, dz, st3, rp3, rz, g3⟩ => ?_)
  cases dz with
  | bl kk =>
    refine ⟨kk, by simpa only [RD] using rz, ?_⟩
    cases kk with
    | true =>
      rw [if_pos rfl]
      exact ⟨ι3, S3, δ, rp3, rs.mono (st2.trans st3).up, (G.bind g3).imp fun v4 H4 ⟨ι4, S4, d4, st4, rp4, rd4, g4⟩ => k' _ ι4 S4 H4 v2 v4 d2 d4 _ rp4 (rd2.mono (st3.trans st4).up) rd4 g4⟩
    | false =>
      rw [if_neg Bool.false_ne_true]
      exact g3.here rp3 (by simp only [RD])
  | _ => exact g3.elim
theorem de_chain {op op' : CmpOp} {f g : D → D → Sto → R D} (ho : OpD X (compareOp op) f) (ho' : OpD X (compareOp op') g) (ha : DE X W a ma) (hb : DE X W b mb) (hc : DE X W c mc)
    (hm : lastMarks [op, op'] [b, c] = false := by with_unfolding_all rfl) : DE X W (.Compare a [op, op'] [b, c] pos) (mChain f g ma mb mc) := by
  obtain ⟨r, hr, k⟩ := ho
  obtain ⟨r', hr', k'⟩ := ho'
  exact pe_imp (pe_chain hr hr' ha hb hc hm) fun σ H Q h => chain_imp k k' h
theorem dt_chain {op op' : CmpOp} {f g : D → D → Sto → R D} (ho : OpD X (compareOp op) f) (ho' : OpD X (compareOp op') g) (ha : DE X W a ma) (hb : DE X W b mb) (hc : DE X W c mc)
    (hm : lastMarks [op, op'] [b, c] = false := by with_unfolding_all rfl) : DT X W (.Compare a [op, op'] [b, c] pos) (mT (mChain f g ma mb mc)) := by
  obtain ⟨r, hr, k⟩ := ho
  obtain ⟨r', hr', k'⟩ := ho'
  exact pt_imp (pt_chain hr hr' ha hb hc hm) fun σ H Q h => chain_imp (Q := fun x H' => ∃ k, x = .bl k ∧ Q k H') k k' (t_of h)
/-! ### all, any, sum -/
def blsOf : List D → Option (List Bool)
  | [] => some []
  | .bl b :: ds => (blsOf ds).map (b :: ·)
  | _ :: _ => none
def intsOf : List D → Option (List Int)
  | [] => some []
  | .int b :: ds => (intsOf ds).map (b :: ·)
  | _ :: _ => none
theorem blsOf_ok {H : Hp} {ι : Z} : ∀ {ds : List D} {vs : List V} {ys : List Bool}, RDs H ι ds vs → blsOf ds = some ys → vs = ys.map V.bl
  | [], vs, ys, r, h => by simp only [blsOf, Option.some.injEq] at h; subst h; simp only [RDs] at r; exact r
  | d :: ds, vs, ys, r, h => by
    simp only [RDs] at r
    obtain ⟨v, w, e, r1, r2⟩ := r
    subst e
    cases d with
    | bl s =>
      simp only [blsOf, Option.map_eq_some_iff] at h
      obtain ⟨zs, h2, e⟩ := h
      subst e
      simp only [RD] at r1
      rw [r1, blsOf_ok r2 h2]; rfl
    | _ => simp only [blsOf] at h; cases h
theorem intsOf_ok {H : Hp} {ι : Z} : ∀ {ds : List D} {vs : List V} {ys : List Int}, RDs H ι ds vs → intsOf ds = some ys → vs = ys.map V.int
  | [], vs, ys, r, h => by simp only [intsOf, Option.some.injEq] at h; subst h; simp only [RDs] at r; exact r
  | d :: ds, vs, ys, r, h => by
    simp only [RDs] at r
    obtain ⟨v, w, e, r1, r2⟩ := r
    subst e
    cases d with
    | int s =>
      simp only [intsOf, Option.map_eq_some_iff] at h
      obtain ⟨zs, h2, e⟩ := h
      subst e
      simp only [RD] at r1
      rw [r1, intsOf_ok r2 h2]; rfl
    | _ => simp only [intsOf] at h; cases h
def cBls (f : List Bool → Bool) (ds : List D) (S : Sto) : R D := match ds with
  | [d] => match rdL S d with
    | some es => match blsOf es with
      | some bs => .ok (.bl (f bs)) S
      | none => .stuck
    | none => .stuck
  | _ => .stuck
abbrev cAll : List D → Sto → R D := cBls fun bs => bs.all id
abbrev cAny : List D → Sto → R D := cBls fun bs => bs.any id
def cSum (ds : List D) (S : Sto) : R D := match ds with
  | [d] => match rdL S d with
    | some es => match intsOf es with
      | some bs => .ok (.int bs.sum) S
      | none => .stuck
    | none => .stuck
  | _ => .stuck
theorem cAll_ok (hc : X.calm = true) : CallD X (.builtin "all") cAll := by
  refine ⟨_, cr_all hc, fun W ι S H xs dxs Q rp rx q => ?_⟩
  unfold cAll cBls at q
  split at q
  · obtain ⟨v, e, r⟩ := rds_one rx
    subst e
    split at q
    · rename_i es hes
      obtain ⟨a, vs, e, hq, h2, z⟩ := rdL_ok rp r hes
      subst e
      split at q
      · rename_i bs hbs
        rw [blsOf_ok h2 hbs] at hq
        exact ⟨a, bs, rfl, hq, q.here rp (by simp only [RD])⟩
      · exact q.elim
    · exact q.elim
  · exact q.elim
theorem cAny_ok (hc : X.calm = true) : CallD X (.builtin "any") cAny := by
  refine ⟨_, cr_any hc, fun W ι S H xs dxs Q rp rx q => ?_⟩
  unfold cAny cBls at q
  split at q
  · obtain ⟨v, e, r⟩ := rds_one rx
    subst e
    split at q
    · rename_i es hes
      obtain ⟨a, vs, e, hq, h2, z⟩ := rdL_ok rp r hes
      subst e
      split at q
      · rename_i bs hbs
        rw [blsOf_ok h2 hbs] at hq
        exact ⟨a, bs, rfl, hq, q.here rp (by simp only [RD])⟩
      · exact q.elim
    · exact q.elim
  · exact q.elim
theorem cSum_ok (hc : X.calm = true) : CallD X (.builtin "sum") cSum := by
  refine ⟨_, cr_sum hc, fun W ι S H xs dxs Q rp rx q => ?_⟩
  unfold cSum at q
  split at q
  · obtain ⟨v, e, r⟩ := rds_one rx
    subst e
    split at q
    · rename_i es hes
      obtain ⟨a, vs, e, hq, h2, z⟩ := rdL_ok rp r hes
      subst e
      split at q
      · rename_i bs hbs
        rw [intsOf_ok h2 hbs] at hq
        exact ⟨a, bs, rfl, hq, q.here rp (by simp only [RD])⟩
      · exact q.elim
    · exact q.elim
  · exact q.elim
/-! ### -n, a module's constants -/
def opNeg (x : D) (S : Sto) : R D := match x with
  | .int i => .ok (.int (-i)) S
  | _ => .stuck
theorem de_neg (ha : DE X W a ma) : DE X W (.UnaryOp .USub a pos) (mU opNeg ma) :=
  pe_imp (pe_un un_neg ha) fun σ H Q h => t_bind h fun ι S δ d v H1 rp rs rd g => by
    unfold opNeg at g
    split at g
    · simp only [RD] at rd
      exact ⟨_, rd, g.here rp (by simp only [RD])⟩
    · exact g.elim
theorem de_gint {x : Str} {i : Int} (hg : Gl X x) (hm : ∃ t, X.mg x = some (.int i t)) (hd : (x == ("__debug__" : Str)) = false := by decide) : DE X W (.Name x pos) (mC (.int i)) := by
  obtain ⟨t, hm⟩ := hm
  exact de_const (v := V.int i) (pe_glob hg hm ⟨t, rfl⟩ hd) fun _ _ => by simp only [RD]
theorem de_gstr {x i : Str} (hg : Gl X x) (hm : ∃ t, X.mg x = some (.str i t)) (hi : i.length ≤ sizeLine) (hd : (x == ("__debug__" : Str)) = false := by decide) : DE X W (.Name x pos) (mC (.str i)) := by
  obtain ⟨t, hm⟩ := hm
  exact de_const (v := V.str i) (pe_glob hg hm ⟨t, rfl⟩ hd) fun _ _ => by simp only [RD]; exact ⟨trivial, hi⟩
end
/-! ### a law's end -/
def spLaw (K : PySem.W.Frag) : Sp := fun vs H Q _ => ∃ (a : Addr) (ns : List Int), vs = [.ref a] ∧ Only H ∧ SqL K H a (ns.map V.int) ∧ ns.length ≤ 63 ∧ ∀ H', Q (.bl true) H'
theorem rds_ints {H : Hp} {ι : Z} : ∀ ns : List Int, RDs H ι (ns.map D.int) (ns.map V.int)
  | [] => .nil
  | n :: ns => .cons (by simp only [RD]) (rds_ints ns)
theorem law_fn {P : Program} {w : World} {K : PySem.W.Frag} {mg : Str → Option Value} {base : Heap} {k : Nat} {f : Addr} {fd : FuncData} {ps : List Str} {c : List D → Sto → R D} (F : FnOk P w K mg base (L2N.CX P w) k f fd ps (spD ⟨mg, K⟩ 1 c))
    (h : ∀ ns : List Int, ns.length ≤ 63 → ∃ S', c [.scr (ns.map D.int)] [] = .ok (.bl true) S') : FnOk P w K mg base (L2N.CX P w) k f fd ps (spLaw K) :=
  F.imp fun vs H Q E ⟨a, ns, e, ho, hs, hl, q⟩ => by
    subst e
    have hz : ns.length ≤ sizeLine := Nat.le_trans hl (by decide)
    have hr : (∃ o, H a = some (.frz o (.lst (ns.map V.int)))) ∨ KL K a (ns.map V.int) := by
      rcases hs with (hs | ⟨o, hs⟩) | hs
      · rcases ho a with n | ⟨o, xs, n⟩
        · rw [n] at hs; cases hs
        · rw [n] at hs; cases hs
      · exact .inl ⟨o, hs⟩
      · exact .inr hs
    obtain ⟨S', e⟩ := h ns hl
    refine ⟨rfl, ⟨[], [], K⟩, [], [.scr (ns.map D.int)], ⟨rfl, rfl, List.nodup_nil, (fun _ h => by cases h), (fun _ _ _ h => by cases h)⟩, .cons ?_ .nil, ?_⟩
    · simp only [RD]
      exact ⟨a, _, rfl, hr, by simpa using hz, rds_ints ns⟩
    · rw [e]
      intro ι' H' v st rp r
      have : v = .bl true := by simpa only [RD] using r
      subst this
      exact q H'
theorem walk {l : PySem.W.OpenLaw} {N : Nat} {x : Str} {q : Program} {loose : List Str} {XP : (Str → Option Value) → Heap → Prop} {YP : World → Heap → Prop} {d : DefRec} {K : Params → PySem.W.Frag} (hn : l.most = some 63) (hdf : d.params.defaults = []) (hr : Room N callerA)
    (hY : ∀ (w : World) (h : Heap), YP w h → (K w.params).In h)
    (F : ∀ (w : World) (mg : Str → Option Value) (fa : Addr) (h : Heap), (K w.params).In h → h.Ns mainGlobals mg → mg d.name = some (.ref fa) →
      ∃ fd : FuncData, (∀ (s : Shared) (u : Value), BindsTo s fd ⟨[u], []⟩ [(x, u)]) ∧ ∀ base : Heap, (K w.params).In base → base.Ns mainGlobals mg → FnOk l.prog w (K w.params) mg base (L2N.CX l.prog w) N fa fd [x] (spLaw (K w.params))) :
    PySem.W.WalkO q loose XP YP l.row.toRowW d [] (fun f vs => PySem.call f vs) :=
  L2.walk_of (n := 63) (k := N) (x := x) (CX := fun w => L2N.CX l.prog w) (sp := fun w => spLaw (K w.params)) hn (by decide) hdf hr hY F (fun _ _ a ns hl ho hS => ⟨a, ns, rfl, ho, hS, hl, fun _ => rfl⟩) fun _ _ _ _ _ z => by
    obtain ⟨_, _, _, _, _, _, _, _, _, _, _, _, z⟩ := z
    exact z.elim
end PM

/-! PM, part 11: the functions unfolded; loops and comprehensions by lemmas -/
namespace PM
open PySem L2
section
variable {δ : Loc} {S : Sto} {a b c o : Em} {t u : Tm} {r : Am} {s1 s2 : Sm} {d : D} {ds : List D}
@[simp] theorem mV_eq {i : Nat} : mV i δ S = match δ[i]? with | some (some d) => .ok d S | _ => .stuck := (rfl)
@[simp] theorem mC_eq : mC d δ S = .ok d S := (rfl)
@[simp] theorem mB_eq {op} : mB op a b δ S = (a δ S).bind fun x S1 => (b δ S1).bind fun y S2 => op x y S2 := (rfl)
@[simp] theorem mU_eq {op} : mU op a δ S = (a δ S).bind fun x S1 => op x S1 := (rfl)
@[simp] theorem mNil_eq : mNil δ S = .ok [] S := (rfl)
@[simp] theorem mCons_eq : mCons a r δ S = (a δ S).bind fun x S1 => (r δ S1).bind fun xs S2 => .ok (x :: xs) S2 := (rfl)
@[simp] theorem mApp_eq {f} : mApp f r δ S = (r δ S).bind fun xs S1 => f xs S1 := (rfl)
@[simp] theorem mIfE_eq : mIfE t a b δ S = (t δ S).bind fun k S1 => if k = true then a δ S1 else b δ S1 := (rfl)
@[simp] theorem mT_eq : mT a δ S = (a δ S).bind fun x S1 => match x with | .bl k => .ok k S1 | _ => .stuck := (rfl)
@[simp] theorem mAnd_eq : mAnd t u δ S = (t δ S).bind fun k S1 => if k = true then u δ S1 else .ok false S1 := (rfl)
@[simp] theorem mOr_eq : mOr t u δ S = (t δ S).bind fun k S1 => if k = true then .ok true S1 else u δ S1 := (rfl)
@[simp] theorem mNot_eq : mNot t δ S = (t δ S).bind fun k S1 => .ok (!k) S1 := (rfl)
@[simp] theorem mYes_eq : mYes δ S = .ok true S := (rfl)
@[simp] theorem mAndV_eq : mAndV a b δ S = (a δ S).bind fun x S1 => match x with | .bl true => b δ S1 | .bl false => .ok (.bl false) S1 | _ => .stuck := (rfl)
@[simp] theorem mOrV_eq : mOrV a b δ S = (a δ S).bind fun x S1 => match x with | .bl true => .ok (.bl true) S1 | .bl false => b δ S1 | _ => .stuck := (rfl)
@[simp] theorem mNotV_eq : mNotV a δ S = (a δ S).bind fun x S1 => match x with | .bl k => .ok (.bl (!k)) S1 | _ => .stuck := (rfl)
@[simp] theorem mChain_eq {f g} : mChain f g a b c δ S = (a δ S).bind fun x S1 => (b δ S1).bind fun y S2 => (f x y S2).bind fun k S3 => match k with
  | .bl true => (c δ S3).bind fun z S4 => g y z S4
  | .bl false => .ok (.bl false) S3
  | _ => .stuck := (rfl)
@[simp] theorem sSeq_eq : sSeq s1 s2 δ S = (s1 δ S).seq s2 := (rfl)
@[simp] theorem sPass_eq : sPass δ S = .nx δ S := (rfl)
@[simp] theorem sExpr_eq : sExpr a δ S = (a δ S).into δ fun _ S1 => .nx δ S1 := (rfl)
@[simp] theorem sRet_eq : sRet a δ S = (a δ S).into δ fun d S1 => .rt d S1 := (rfl)
@[simp] theorem sRetN_eq : sRetN δ S = .rt .non S := (rfl)
@[simp] theorem sIf_eq : sIf t s1 s2 δ S = (t δ S).into δ fun k S1 => if k = true then s1 δ S1 else s2 δ S1 := (rfl)
@[simp] theorem sAsg_eq {g} : sAsg a g δ S = (a δ S).into δ fun d S1 => (g d δ S1).into δ fun δ' S2 => .nx δ' S2 := (rfl)
@[simp] theorem gmName_eq {i : Nat} : gmName i d δ S = .ok (δ.set i (some d)) S := (rfl)
@[simp] theorem gmTup_eq {is : List Nat} : gmTup is (.tup ds) δ S = gmNames is ds δ S := (rfl)
@[simp] theorem gmNames_nil : gmNames [] [] δ S = .ok δ S := (rfl)
@[simp] theorem gmNames_cons {i : Nat} {is : List Nat} : gmNames (i :: is) (d :: ds) δ S = gmNames is ds (δ.set i (some d)) S := (rfl)
@[simp] theorem gmSub_eq {f} : gmSub a b f d δ S = (a δ S).bind fun x S1 => (b δ S1).bind fun y S2 => (f x y d S2).bind fun _ S3 => .ok δ S3 := (rfl)
@[simp] theorem mNo_eq : mNo δ S = .ok none S := (rfl)
@[simp] theorem mPt_eq : mPt a δ S = (a δ S).bind fun x S1 => match x with | .int i => .ok (some i) S1 | _ => .stuck := (rfl)
@[simp] theorem mSl_eq {f} {lo hi : Om} : mSl f a lo hi δ S = (a δ S).bind fun x S1 => (lo δ S1).bind fun l S2 => (hi δ S2).bind fun u S3 => f x l u S3 := (rfl)
@[simp] theorem mMt_eq {chk c} : mMt chk c o r δ S = (o δ S).bind fun x S1 => if chk S1 x = true then (r δ S1).bind fun xs S2 => c x xs S2 else .stuck := (rfl)
@[simp] theorem mJoin_eq : mJoin a b δ S = (a δ S).bind fun x S1 => match x with | .str _ => (b δ S1).bind fun y S2 => opJoin x y S2 | _ => .stuck := (rfl)
@[simp] theorem sItems_eq : sItems a δ S = (a δ S).bind (β := List D × (Sto → Prop)) fun d S1 => match d with
  | .lst ds => .ok (ds, fun _ => True) S1
  | .scr ds => .ok (ds, fun _ => True) S1
  | .tup ds => .ok (ds, fun _ => True) S1
  | .str s => .ok (s.cps.toList.map (fun c => .str ⟨#[c]⟩), fun _ => True) S1
  | .ref n => match S1[n]? with
    | some (.lst ds) => .ok (ds, fun S => S[n]? = some (.lst ds)) S1
    | _ => .stuck
  | _ => .stuck := (rfl)
@[simp] theorem sRange1_eq : sRange1 a δ S = (a δ S).bind (β := List D × (Sto → Prop)) fun d S1 => match d with
  | .int j => if limR 0 j = true then .ok (rangeD 0 j.toNat, fun _ => True) S1 else .stuck
  | _ => .stuck := (rfl)
@[simp] theorem sRangeLen_eq : sRangeLen a δ S = (a δ S).bind (β := List D × (Sto → Prop)) fun d S1 => match lenOf d S1 with
  | some n => .ok (rangeD 0 n, fun _ => True) S1
  | none => .stuck := (rfl)
def loopB (g : Gm) (s : Sm) : D → Sm := fun x δ S => (g x δ S).into δ s
theorem loopB_eq {g s} {x : D} : loopB g s x δ S = (g x δ S).into δ s := rfl
@[simp] theorem sFor_eq {src g s} : sFor src g s δ S = (src δ S).into δ fun p S1 => loopM p.2 (loopB g s) p.1 δ S1 := (rfl)
@[simp] theorem mComp_eq {src g vs} : mComp src g t a vs δ S = (src δ S).bind fun p S1 => compM p.2 g t a (wipeD δ vs) [] p.1 S1 := (rfl)
@[simp] theorem lenOf_lst : lenOf (.lst ds) S = some ds.length := (rfl)
@[simp] theorem lenOf_tup : lenOf (.tup ds) S = some ds.length := (rfl)
@[simp] theorem lenOf_scr : lenOf (.scr ds) S = some ds.length := (rfl)
@[simp] theorem lenOf_str {s} : lenOf (.str s) S = some s.length := (rfl)
@[simp] theorem cLen_eq : cLen [d] S = match lenOf d S with | some n => .ok (.int n) S | none => .stuck := (rfl)
end
/-! ### loops that leave the objects -/
section
variable {grd : Sto → Prop} {g : Gm} {t : Tm} {e : Em} {δ : Loc} {S : Sto}
theorem compM_nil {acc : List D} (h : grd S) : compM grd g t e δ acc [] S = .ok (.lst acc) S := by
  rw [compM, if_pos h]
theorem compM_cons {acc xs : List D} {x : D} (h : grd S) : compM grd g t e δ acc (x :: xs) S = (g x δ S).quiet.bind fun δ' S1 => (t δ' S1).quiet.bind fun k S2 =>
    if k = true then (e δ' S2).quiet.bind fun y S3 => compM grd g t e δ (acc ++ [y]) xs S3 else compM grd g t e δ acc xs S2 := by
  rw [compM, if_pos h]
theorem comp_pure (f : D → D) (hg : grd S) : ∀ (ds acc : List D), (∀ x ∈ ds, ∃ δ', g x δ S = .ok δ' S ∧ t δ' S = .ok true S ∧ e δ' S = .ok (f x) S) → compM grd g t e δ acc ds S = .ok (.lst (acc ++ ds.map f)) S
  | [], acc, _ => by rw [compM_nil hg]; simp
  | x :: ds, acc, h => by
    obtain ⟨δ', h1, h2, h3⟩ := h x (by simp)
    rw [compM_cons hg, h1]
    simp only [R.quiet_ok, R.bind_ok, h2, h3, if_pos]
    rw [comp_pure f hg ds _ fun y hy => h y (by simp [hy])]
    simp
theorem comp_filt (p : D → Bool) (f : D → D) (hg : grd S) : ∀ (ds acc : List D), (∀ x ∈ ds, ∃ δ', g x δ S = .ok δ' S ∧ t δ' S = .ok (p x) S ∧ (p x = true → e δ' S = .ok (f x) S)) → compM grd g t e δ acc ds S = .ok (.lst (acc ++ (ds.filter p).map f)) S
  | [], acc, _ => by rw [compM_nil hg]; simp
  | x :: ds, acc, h => by
    obtain ⟨δ', h1, h2, h3⟩ := h x (by simp)
    rw [compM_cons hg, h1]
    simp only [R.quiet_ok, R.bind_ok, h2]
    by_cases hp : p x = true
    · rw [if_pos hp, h3 hp]
      simp only [R.quiet_ok, R.bind_ok]
      rw [comp_filt p f hg ds _ fun y hy => h y (by simp [hy]), List.filter_cons_of_pos hp]
      simp
    · rw [if_neg hp, comp_filt p f hg ds _ fun y hy => h y (by simp [hy]), List.filter_cons_of_neg hp]
/-- a comprehension over a mapped list -/
theorem comp_map {α : Type} (i : α → D) (f : α → D) (hg : grd S) (xs : List α) (acc : List D) (h : ∀ x ∈ xs, ∃ δ', g (i x) δ S = .ok δ' S ∧ t δ' S = .ok true S ∧ e δ' S = .ok (f x) S) :
    compM grd g t e δ acc (xs.map i) S = .ok (.lst (acc ++ xs.map f)) S := by
  induction xs generalizing acc with
  | nil => rw [List.map_nil, compM_nil hg]; simp
  | cons x xs ih =>
    obtain ⟨δ', h1, h2, h3⟩ := h x (by simp)
    rw [List.map_cons, compM_cons hg, h1]
    simp only [R.quiet_ok, R.bind_ok, h2, h3, if_pos]
    rw [ih _ fun y hy => h y (by simp [hy])]
    simp
end
/-- a loop by what holds behind each turn -/
theorem loop_inv {b : D → Sm} (I : Nat → Loc → Sto → Prop) : ∀ (ds : List D) (n : Nat) (δ : Loc) (S : Sto), I n δ S →
    (∀ i x δ S, ds[i]? = some x → I (n + i) δ S → ∃ δ' S', (b x δ S = .nx δ' S' ∨ b x δ S = .ct δ' S') ∧ I (n + i + 1) δ' S') → ∃ δ' S', loopM (fun _ => True) b ds δ S = .nx δ' S' ∧ I (n + ds.length) δ' S'
  | [], n, δ, S, h0, _ => ⟨δ, S, by rw [loopM, if_pos trivial], h0⟩
  | x :: ds, n, δ, S, h0, hs => by
    obtain ⟨δ1, S1, h1, h2⟩ := hs 0 x δ S rfl h0
    have e : loopM (fun _ => True) b (x :: ds) δ S = loopM (fun _ => True) b ds δ1 S1 := by
      rw [loopM, if_pos trivial]
      rcases h1 with h1 | h1 <;> rw [h1]
    obtain ⟨δ2, S2, h3, h4⟩ := loop_inv I ds (n + 1) δ1 S1 h2 fun i y δ S hy hI => by
      have := hs (i + 1) y δ S (by simpa using hy) (by rw [show n + (i + 1) = n + 1 + i by omega]; exact hI)
      rwa [show n + (i + 1) + 1 = n + 1 + i + 1 by omega] at this
    exact ⟨δ2, S2, by rw [e]; exact h3, by rw [List.length_cons, show n + (ds.length + 1) = n + 1 + ds.length by omega]; exact h4⟩
/-- the same, the loop's end given a name: «generalize hL : loopM _ _ _ _ _ = r» -/
theorem loop_of {b : D → Sm} {ds : List D} {δ : Loc} {S : Sto} {r : RS} (hL : loopM (fun _ => True) b ds δ S = r) (I : Nat → Loc → Sto → Prop) (h0 : I 0 δ S)
    (hs : ∀ i x δ S, ds[i]? = some x → I i δ S → ∃ δ' S', (b x δ S = .nx δ' S' ∨ b x δ S = .ct δ' S') ∧ I (i + 1) δ' S') : ∃ δ' S', r = .nx δ' S' ∧ I ds.length δ' S' := by
  obtain ⟨δ', S', h1, h2⟩ := loop_inv I ds 0 δ S h0 fun i x δ S hx hI => by
    have := hs i x δ S hx (by rwa [Nat.zero_add] at hI)
    rwa [Nat.zero_add]
  exact ⟨δ', S', hL.symm.trans h1, by rwa [Nat.zero_add] at h2⟩
/-- .. where a turn may also return -/
theorem loop_ret {b : D → Sm} {ds : List D} {δ : Loc} {S : Sto} {r : RS} (hL : loopM (fun _ => True) b ds δ S = r) (I : Nat → Loc → Sto → Prop) (E : RS → Prop) (h0 : I 0 δ S)
    (hs : ∀ i x δ S, ds[i]? = some x → I i δ S → (∃ δ' S', (b x δ S = .nx δ' S' ∨ b x δ S = .ct δ' S') ∧ I (i + 1) δ' S') ∨ (∃ d S', b x δ S = .rt d S' ∧ E (.rt d S')) ∨ (∃ δ' S', b x δ S = .bk δ' S' ∧ E (.nx δ' S')) ∨ (∃ c δ' S', b x δ S = .exc c δ' S' ∧ E (.exc c δ' S'))) : (∃ δ' S', r = .nx δ' S' ∧ I ds.length δ' S') ∨ E r := by
  subst hL
  suffices H : ∀ (ds : List D) (n : Nat) (δ : Loc) (S : Sto), I n δ S → (∀ i x δ S, ds[i]? = some x → I (n + i) δ S → (∃ δ' S', (b x δ S = .nx δ' S' ∨ b x δ S = .ct δ' S') ∧ I (n + i + 1) δ' S') ∨ (∃ d S', b x δ S = .rt d S' ∧ E (.rt d S')) ∨ (∃ δ' S', b x δ S = .bk δ' S' ∧ E (.nx δ' S')) ∨ (∃ c δ' S', b x δ S = .exc c δ' S' ∧ E (.exc c δ' S'))) →
      (∃ δ' S', loopM (fun _ => True) b ds δ S = .nx δ' S' ∧ I (n + ds.length) δ' S') ∨ E (loopM (fun _ => True) b ds δ S) by
    have := H ds 0 δ S h0 fun i x δ S hx hI => by
      have := hs i x δ S hx (by rwa [Nat.zero_add] at hI)
      rwa [Nat.zero_add]
    rwa [Nat.zero_add] at this
  intro ds
  induction ds with
  | nil => intro n δ S h0 _; exact .inl ⟨δ, S, by rw [loopM, if_pos trivial], h0⟩
  | cons x ds ih =>
    intro n δ S h0 hs
    rcases hs 0 x δ S rfl h0 with ⟨δ1, S1, h1, h2⟩ | ⟨d, S1, h1, h2⟩ | ⟨δ1, S1, h1, h2⟩ | ⟨c, δ1, S1, h1, h2⟩
    · have e : loopM (fun _ => True) b (x :: ds) δ S = loopM (fun _ => True) b ds δ1 S1 := by
        rw [loopM, if_pos trivial]
        rcases h1 with h1 | h1 <;> rw [h1]
      rw [e, List.length_cons, show n + (ds.length + 1) = n + 1 + ds.length by omega]
      refine ih (n + 1) δ1 S1 h2 fun i y δ S hy hI => ?_
      have := hs (i + 1) y δ S (by simpa using hy) (by rw [show n + (i + 1) = n + 1 + i by omega]; exact hI)
      rwa [show n + (i + 1) + 1 = n + 1 + i + 1 by omega] at this
    · exact .inr (by rw [loopM, if_pos trivial, h1]; exact h2)
    · exact .inr (by rw [loopM, if_pos trivial, h1]; exact h2)
    · exact .inr (by rw [loopM, if_pos trivial, h1]; exact h2)
/-- a comprehension whose elements change objects, by what holds behind each turn: out i is the i-th element -/
theorem comp_of {g : Gm} {t : Tm} {e : Em} {δ : Loc} {S : Sto} {ds : List D} {r : R D} (hL : compM (fun _ => True) g t e δ [] ds S = r) (I : List D → Sto → Prop) (h0 : I [] S)
    (hs : ∀ (i : Nat) x acc S, ds[i]? = some x → I acc S → ∃ δ' S1 k S2, g x δ S = .ok δ' S1 ∧ t δ' S1 = .ok k S2 ∧ (k = true → ∃ y S3, e δ' S2 = .ok y S3 ∧ I (acc ++ [y]) S3) ∧ (k = false → I acc S2)) : ∃ acc S', r = .ok (.lst acc) S' ∧ I acc S' := by
  subst hL
  suffices H : ∀ (ds acc : List D) (S : Sto), I acc S → (∀ (i : Nat) x acc S, ds[i]? = some x → I acc S → ∃ δ' S1 k S2, g x δ S = .ok δ' S1 ∧ t δ' S1 = .ok k S2 ∧ (k = true → ∃ y S3, e δ' S2 = .ok y S3 ∧ I (acc ++ [y]) S3) ∧ (k = false → I acc S2)) →
      ∃ acc' S', compM (fun _ => True) g t e δ acc ds S = .ok (.lst acc') S' ∧ I acc' S' from H ds [] S h0 hs
  intro ds
  induction ds with
  | nil => intro acc S h0 _; exact ⟨acc, S, compM_nil trivial, h0⟩
  | cons x ds ih =>
    intro acc S h0 hs
    obtain ⟨δ', S1, k, S2, h1, h2, h3, h4⟩ := hs 0 x acc S rfl h0
    rw [compM_cons trivial, h1]
    simp only [R.quiet_ok, R.bind_ok, h2]
    have hs' : ∀ (i : Nat) x acc S, ds[i]? = some x → I acc S → ∃ δ' S1 k S2, g x δ S = .ok δ' S1 ∧ t δ' S1 = .ok k S2 ∧ (k = true → ∃ y S3, e δ' S2 = .ok y S3 ∧ I (acc ++ [y]) S3) ∧ (k = false → I acc S2) := fun i y acc S hy hI => hs (i + 1) y acc S (by simpa using hy) hI
    cases k with
    | true =>
      obtain ⟨y, S3, h5, h6⟩ := h3 rfl
      rw [if_pos rfl, h5]
      simp only [R.quiet_ok, R.bind_ok]
      exact ih _ S3 h6 hs'
    | false =>
      rw [if_neg Bool.false_ne_true]
      exact ih _ S2 (h4 rfl) hs'
theorem rangeD_get' {lo : Int} {n i : Nat} {x : D} (h : (rangeD lo n)[i]? = some x) : i < n ∧ x = .int (lo + i) := by
  unfold rangeD at h
  rw [List.getElem?_map] at h
  have hi : i < n := by
    rcases Nat.lt_or_ge i n with h' | h'
    · exact h'
    · rw [List.getElem?_eq_none (by simpa using h')] at h; cases h
  rw [List.getElem?_range hi] at h
  exact ⟨hi, by simpa using h.symm⟩
@[simp] theorem rangeD_length {lo : Int} {n : Nat} : (rangeD lo n).length = n := by simp [rangeD]
theorem rangeD_map {n : Nat} : rangeD 0 n = (List.range n).map fun i => D.int ((i : Nat) : Int) := by simp [rangeD]
theorem limR_ok {i j : Int} (h : 0 ≤ i ∧ i ≤ 1000000 ∧ 0 ≤ j ∧ j ≤ 1000000) : limR i j = true := by
  have : (1000000 : Nat) ≤ sizeLine := by decide
  unfold limR lim62
  simp only [Bool.and_eq_true, decide_eq_true_eq]
  refine ⟨⟨⟨by omega, by omega⟩, by omega, by omega⟩, by omega⟩
/-! ### data without objects -/
mutual
theorem cl_mono {n m : Nat} (h : n ≤ m) : ∀ d : D, D.cl n d = true → D.cl m d = true
  | .non, _ => rfl
  | .bl _, _ => rfl
  | .int _, _ => rfl
  | .str _, _ => rfl
  | .tup ds, q => by simp only [D.cl] at q ⊢; exact cls_mono h ds q
  | .lst ds, q => by simp only [D.cl] at q ⊢; exact cls_mono h ds q
  | .scr ds, q => by simp only [D.cl] at q ⊢; exact cls_mono h ds q
  | .dct _ ds, q => by simp only [D.cl] at q ⊢; exact cls_mono h ds q
  | .ref k, q => by simp only [D.cl, decide_eq_true_eq] at q ⊢; omega
  | .exn _, _ => rfl
theorem cls_mono {n m : Nat} (h : n ≤ m) : ∀ ds : List D, D.cls n ds = true → D.cls m ds = true
  | [], _ => rfl
  | d :: ds, q => by
    simp only [D.cls, Bool.and_eq_true] at q ⊢
    exact ⟨cl_mono h d q.1, cls_mono h ds q.2⟩
end
mutual
theorem fz_cl {rc : List D → Option (List D)} {S : Sto} {n : Nat} : ∀ d : D, D.cl n d = true → fz rc S n d = some d
  | .non, _ => rfl
  | .bl _, _ => rfl
  | .int _, _ => rfl
  | .str _, _ => rfl
  | .tup ds, q => by simp only [D.cl] at q; simp only [fz, fzs_cl ds q]; rfl
  | .lst ds, q => by simp only [D.cl] at q; simp only [fz, fzs_cl ds q]; rfl
  | .scr ds, q => by simp only [D.cl] at q; simp only [fz, fzs_cl ds q]; rfl
  | .dct _ ds, q => by simp only [D.cl] at q; simp only [fz, fzs_cl ds q]; rfl
  | .ref k, q => by simp only [D.cl, decide_eq_true_eq] at q; simp only [fz, if_pos q]
  | .exn _, _ => rfl
theorem fzs_cl {rc : List D → Option (List D)} {S : Sto} {n : Nat} : ∀ ds : List D, D.cls n ds = true → fzs rc S n ds = some ds
  | [], _ => rfl
  | d :: ds, q => by
    simp only [D.cls, Bool.and_eq_true] at q
    simp only [fzs, fz_cl d q.1, fzs_cl ds q.2]; rfl
end
theorem frz_cl {S : Sto} {n k : Nat} {ds : List D} (h : D.cls n ds = true) : frz S n k ds = some ds := by
  cases k <;> exact fzs_cl ds h
theorem cls_all {n : Nat} {ds : List D} (h : ∀ d ∈ ds, D.cl n d = true) : D.cls n ds = true := by
  induction ds with
  | nil => rfl
  | cons d ds ih => simp only [D.cls, Bool.and_eq_true]; exact ⟨h d (by simp), ih fun x hx => h x (by simp [hx])⟩
theorem cls_map {α : Type} {n : Nat} {f : α → D} {xs : List α} (h : ∀ x ∈ xs, D.cl n (f x) = true) : D.cls n (xs.map f) = true :=
  cls_all fun d hd => by
    obtain ⟨x, hx, e⟩ := List.mem_map.mp hd
    rw [← e]; exact h x hx
theorem cls_app {n : Nat} {ds es : List D} (h : D.cls n ds = true) (g : D.cls n es = true) : D.cls n (ds ++ es) = true := by
  induction ds with
  | nil => exact g
  | cons d ds ih =>
    simp only [D.cls, List.cons_append, Bool.and_eq_true] at h ⊢
    exact ⟨h.1, ih h.2⟩
/-- a def whose new objects stand behind the old ones, and whose answer holds none -/
theorem finFrz_app {k : Nat} {S T : Sto} {d : D} (h : D.cl S.length d = true) : finFrz k S (.ok d (S ++ T)) = .ok d S := by
  unfold finFrz
  have e : frz (S ++ T) S.length k [d] = some [d] := frz_cl (by simp only [D.cls, h]; rfl)
  simp only [if_pos (ClS.app (S := S) (T := T)), e]
  rw [List.take_left]
/-- .. whose answer is its own new list -/
theorem finFrz_ref {k m : Nat} {S T : Sto} {ds : List D} (hm : S.length ≤ m) (hd : (S ++ T)[m]? = some (.lst ds)) (h : D.cls S.length ds = true) : finFrz (k + 1) S (.ok (.ref m) (S ++ T)) = .ok (.lst ds) S := by
  unfold finFrz
  have e : frz (S ++ T) S.length (k + 1) [.ref m] = some [.lst ds] := by
    show fzs (frz (S ++ T) S.length k) (S ++ T) S.length [.ref m] = _
    simp only [fzs, fz, if_neg (Nat.not_lt.mpr hm), hd, frz_cl h]; rfl
  simp only [if_pos (ClS.app (S := S) (T := T)), e]
  rw [List.take_left]
end PM

/-! PM, part 12: operators at their values -/
namespace PM
open PySem L2
@[simp] theorem ofString_inj {s t : String} : (Str.ofString s = Str.ofString t) ↔ s = t := by
  constructor
  · intro h
    rw [Str.ofString_eq_toList, Str.ofString_eq_toList] at h
    have h1 : (s.toList.map Char.toNat).toArray = (t.toList.map Char.toNat).toArray := by injection h
    have h2 : s.toList.map Char.toNat = t.toList.map Char.toNat := by simpa using h1
    have h3 : ∀ l r : List Char, l.map Char.toNat = r.map Char.toNat → l = r := by
      intro l
      induction l with
      | nil => intro r h; cases r with
        | nil => rfl
        | cons c r => simp at h
      | cons c l ih =>
        intro r h
        cases r with
        | nil => simp at h
        | cons d r =>
          simp only [List.map_cons, List.cons.injEq] at h
          have : c = d := by
            have h4 : c.val.toNat = d.val.toNat := h.1
            exact Char.ext (UInt32.toNat_inj.mp h4)
          rw [this, ih r h.2]
    exact String.toList_inj.mp (h3 _ _ h2)
  · intro h; rw [h]
section
variable {S : Sto} {i j : Int} {a b : Str} {ds es : List D} {d e : D} {n : Nat}
@[simp] theorem opAdd_int : opAdd (.int i) (.int j) S = .ok (.int (i + j)) S := (rfl)
@[simp] theorem opSub_int : opSub (.int i) (.int j) S = .ok (.int (i - j)) S := (rfl)
@[simp] theorem opLt_int : opLt (.int i) (.int j) S = .ok (.bl (decide (i < j))) S := (rfl)
@[simp] theorem opLe_int : opLe (.int i) (.int j) S = .ok (.bl (decide (i ≤ j))) S := (rfl)
@[simp] theorem opGt_int : opGt (.int i) (.int j) S = .ok (.bl (decide (j < i))) S := (rfl)
@[simp] theorem opGe_int : opGe (.int i) (.int j) S = .ok (.bl (decide (j ≤ i))) S := (rfl)
@[simp] theorem opNeg_int : opNeg (.int i) S = .ok (.int (-i)) S := (rfl)
theorem opMul_r (h : -18446744073709551616 < j ∧ j < 18446744073709551616) : opMul (.int i) (.int j) S = .ok (.int (i * j)) S := by
  show (if CMul i j then _ else _) = _
  rw [if_pos (.inr (by simpa using h))]
theorem opMul_l (h : -18446744073709551616 < i ∧ i < 18446744073709551616) : opMul (.int i) (.int j) S = .ok (.int (i * j)) S := by
  show (if CMul i j then _ else _) = _
  rw [if_pos (.inl (by simpa using h))]
theorem opMod_pos (h : 0 < j) : opMod (.int i) (.int j) S = .ok (.int (i % j)) S := by
  show (if 0 < j then _ else _) = _
  rw [if_pos h]
theorem opDiv_pos (h : 0 < j ∧ j < 1073741824) : opDiv (.int i) (.int j) S = .ok (.int (i / j)) S := by
  show (if CDiv i j then _ else _) = _
  rw [if_pos (show CDiv i j from h)]
theorem opPow_int (h : 0 ≤ j ∧ j ≤ 1000000 ∧ i.natAbs < 18446744073709551616) : opPow (.int i) (.int j) S = .ok (.int (i ^ j.toNat)) S := by
  show (if CPow i j then _ else _) = _
  rw [if_pos (by unfold CPow; simpa using h)]
theorem opAdd_str (h : a.length + b.length ≤ sizeLine) : opAdd (.str a) (.str b) S = .ok (.str (a ++ b)) S := by
  show (if _ then _ else _) = _
  rw [if_pos h]
theorem opAdd_tup (h : ds.length + es.length ≤ sizeLine) : opAdd (.tup ds) (.tup es) S = .ok (.tup (ds ++ es)) S := by
  show newTup _ _ = _
  unfold newTup
  rw [if_pos (by simpa using h)]
theorem opAdd_lst (h : ds.length + es.length ≤ sizeLine) : opAdd (.lst ds) (.lst es) S = .ok (.lst (ds ++ es)) S := by
  show newLst _ _ = _
  unfold newLst
  rw [if_pos (by simpa using h)]
theorem opAdd_refl (hn : S[n]? = some (.lst ds)) (h : ds.length + es.length ≤ sizeLine) : opAdd (.ref n) (.lst es) S = .ok (.lst (ds ++ es)) S := by
  simp only [opAdd, asL, hn]
  unfold newLst
  rw [if_pos (by simpa using h)]
theorem opAddR_refl (hn : S[n]? = some (.lst ds)) (h : ds.length + es.length ≤ sizeLine) : opAddR (.ref n) (.lst es) S = .ok (.ref S.length) (S ++ [.lst (ds ++ es)]) := by
  simp only [opAddR, asL, hn]
  unfold newRef
  rw [if_pos (by simpa using h)]
@[simp] theorem opEq_str : opEq (.str a) (.str b) S = .ok (.bl (decide (a = b))) S := (rfl)
@[simp] theorem opEq_int : opEq (.int i) (.int j) S = .ok (.bl (decide (i = j))) S := (rfl)
@[simp] theorem opNe_str : opNe (.str a) (.str b) S = .ok (.bl (!decide (a = b))) S := (rfl)
@[simp] theorem opNe_int : opNe (.int i) (.int j) S = .ok (.bl (!decide (i = j))) S := (rfl)
@[simp] theorem opEq_bl {x y : Bool} : opEq (.bl x) (.bl y) S = .ok (.bl (decide (x = y))) S := (rfl)
@[simp] theorem opNe_bl {x y : Bool} : opNe (.bl x) (.bl y) S = .ok (.bl (!decide (x = y))) S := (rfl)
@[simp] theorem opIsN_non : opIsN d .non S = .ok (.bl (isNon d)) S := (rfl)
@[simp] theorem opNotN_non : opNotN d .non S = .ok (.bl (!isNon d)) S := (rfl)
theorem opEq_of {k : Bool} (h : eqD S d e = some k) : opEq d e S = .ok (.bl k) S := by unfold opEq; rw [h]
theorem opNe_of {k : Bool} (h : eqD S d e = some k) : opNe d e S = .ok (.bl (!k)) S := by unfold opNe; rw [h]
/-! subscripts -/
@[simp] theorem atI_cast {α : Type} (xs : List α) (k : Nat) : atI xs (k : Int) = xs[k]? := by
  unfold atI ixN
  rw [if_pos (by omega)]
  by_cases h : k < xs.length
  · rw [if_pos (by omega)]; simp
  · rw [if_neg (by omega), List.getElem?_eq_none (by omega)]; rfl
@[simp] theorem atI_0 {α : Type} (xs : List α) : atI xs 0 = xs[0]? := atI_cast xs 0
@[simp] theorem atI_1 {α : Type} (xs : List α) : atI xs 1 = xs[1]? := atI_cast xs 1
@[simp] theorem atI_2 {α : Type} (xs : List α) : atI xs 2 = xs[2]? := atI_cast xs 2
@[simp] theorem atI_3 {α : Type} (xs : List α) : atI xs 3 = xs[3]? := atI_cast xs 3
theorem atI_of {α : Type} (xs : List α) (h : 0 ≤ i) : atI xs i = xs[i.toNat]? := by
  obtain ⟨k, rfl⟩ : ∃ k : Nat, i = k := ⟨i.toNat, by omega⟩
  rw [atI_cast]; rfl
def at1 (o : Option D) (S : Sto) : R D := match o with
  | some d => .ok d S
  | none => .stuck
@[simp] theorem at1_some : at1 (some d) S = .ok d S := (rfl)
@[simp] theorem at1_none : at1 none S = .stuck := (rfl)
@[simp] theorem opIx_lst : opIx (.lst ds) (.int i) S = at1 (atI ds i) S := (rfl)
@[simp] theorem opIx_tup : opIx (.tup ds) (.int i) S = at1 (atI ds i) S := (rfl)
@[simp] theorem opIx_scr : opIx (.scr ds) (.int i) S = at1 (atI ds i) S := (rfl)
theorem opIx_ref (h : S[n]? = some (.lst ds)) : opIx (.ref n) (.int i) S = at1 (atI ds i) S := by
  simp only [opIx, dget, dkOf, dtOf, h, rdS, rdL, asL]; rfl
theorem opIx_str : opIx (.str a) (.int i) S = match atI a.cps.toList i with | some c => .ok (.str ⟨#[c]⟩) S | none => .stuck := rfl
@[simp] theorem ixN_0 (m : Nat) : ixN (m + 1) 0 = some 0 := by
  unfold ixN; rw [if_pos (by omega), if_pos (by omega)]; rfl
@[simp] theorem ixN_1 (m : Nat) : ixN (m + 2) 1 = some 1 := by
  unfold ixN; rw [if_pos (by omega), if_pos (by omega)]; rfl
theorem opSet_lst {z : D} {k : Nat} (h : S[n]? = some (.lst ds)) (hi : ixN ds.length i = some k) : opSet (.ref n) (.int i) z S = .ok () (S.set n (.lst (ds.set k z))) := by
  simp only [opSet, h, hi]
@[simp] theorem opSl_str {lo hi} : opSl (.str a) lo hi S = .ok (.str (cutS a lo hi)) S := (rfl)
@[simp] theorem opSl_tup {lo hi} : opSl (.tup ds) lo hi S = .ok (.tup (cutD ds lo hi)) S := (rfl)
@[simp] theorem opSl_lst {lo hi} : opSl (.lst ds) lo hi S = .ok (.lst (cutD ds lo hi)) S := (rfl)
@[simp] theorem opSl_scr {lo hi} : opSl (.scr ds) lo hi S = .ok (.lst (cutD ds lo hi)) S := (rfl)
/-! displays, calls -/
theorem newTup_ok (h : ds.length ≤ sizeLine) : newTup ds S = .ok (.tup ds) S := by unfold newTup; rw [if_pos h]
theorem newLst_ok (h : ds.length ≤ sizeLine) : newLst ds S = .ok (.lst ds) S := by unfold newLst; rw [if_pos h]
theorem newRef_ok (h : ds.length ≤ sizeLine) : newRef ds S = .ok (.ref S.length) (S ++ [.lst ds]) := by unfold newRef; rw [if_pos h]
theorem szl : (1000000 : Nat) ≤ sizeLine := by decide
@[simp] theorem newTup_0 : newTup [] S = .ok (.tup []) S := newTup_ok (by show 0 ≤ sizeLine; decide)
@[simp] theorem newTup_1 {a : D} : newTup [a] S = .ok (.tup [a]) S := newTup_ok (by show 1 ≤ sizeLine; decide)
@[simp] theorem newTup_2 {a b : D} : newTup [a, b] S = .ok (.tup [a, b]) S := newTup_ok (by show 2 ≤ sizeLine; decide)
@[simp] theorem newTup_3 {a b c : D} : newTup [a, b, c] S = .ok (.tup [a, b, c]) S := newTup_ok (by show 3 ≤ sizeLine; decide)
@[simp] theorem newTup_4 {a b c e : D} : newTup [a, b, c, e] S = .ok (.tup [a, b, c, e]) S := newTup_ok (by show 4 ≤ sizeLine; decide)
@[simp] theorem newLst_0 : newLst [] S = .ok (.lst []) S := newLst_ok (by show 0 ≤ sizeLine; decide)
@[simp] theorem newLst_1 {a : D} : newLst [a] S = .ok (.lst [a]) S := newLst_ok (by show 1 ≤ sizeLine; decide)
@[simp] theorem newLst_2 {a b : D} : newLst [a, b] S = .ok (.lst [a, b]) S := newLst_ok (by show 2 ≤ sizeLine; decide)
@[simp] theorem newLst_3 {a b c : D} : newLst [a, b, c] S = .ok (.lst [a, b, c]) S := newLst_ok (by show 3 ≤ sizeLine; decide)
@[simp] theorem newLst_4 {a b c e : D} : newLst [a, b, c, e] S = .ok (.lst [a, b, c, e]) S := newLst_ok (by show 4 ≤ sizeLine; decide)
@[simp] theorem newRef_0 : newRef [] S = .ok (.ref S.length) (S ++ [.lst []]) := newRef_ok (by show 0 ≤ sizeLine; decide)
@[simp] theorem newRef_1 {a : D} : newRef [a] S = .ok (.ref S.length) (S ++ [.lst [a]]) := newRef_ok (by show 1 ≤ sizeLine; decide)
@[simp] theorem newRef_2 {a b : D} : newRef [a, b] S = .ok (.ref S.length) (S ++ [.lst [a, b]]) := newRef_ok (by show 2 ≤ sizeLine; decide)
@[simp] theorem cList_lst : cList [.lst ds] S = .ok (.lst ds) S := (rfl)
@[simp] theorem cList_tup : cList [.tup ds] S = .ok (.lst ds) S := (rfl)
@[simp] theorem cTuple_lst : cTuple [.lst ds] S = .ok (.tup ds) S := (rfl)
@[simp] theorem cTuple_tup : cTuple [.tup ds] S = .ok (.tup ds) S := (rfl)
theorem cTuple_ref (h : S[n]? = some (.lst ds)) : cTuple [.ref n] S = .ok (.tup ds) S := by simp only [cTuple, rdS, rdL, asL, h]
@[simp] theorem isLst_lst : isLst S (.lst ds) = true := (rfl)
theorem isLst_ref (h : S[n]? = some (.lst ds)) : isLst S (.ref n) = true := by simp only [isLst, rdL, asL, h]; rfl
theorem cAppend_ref (h : S[n]? = some (.lst ds)) (hl : ds.length < sizeLine) : cAppend (.ref n) [d] S = .ok .non (S.set n (.lst (ds ++ [d]))) := by simp only [cAppend, h, if_pos hl]
theorem cExtend_ref (h : S[n]? = some (.lst ds)) (hl : ds.length + es.length ≤ sizeLine) : cExtend (.ref n) [.lst es] S = .ok .non (S.set n (.lst (ds ++ es))) := by simp only [cExtend, h, asL, if_pos hl]
/-! isinstance -/
def opIsiK (t T : String) (S : Sto) : R D := match kitB t T with
  | some k => .ok (.bl k) S
  | none => .stuck
@[simp] theorem isi_non {T} : opIsi T .non S = opIsiK "NoneType" T S := (rfl)
@[simp] theorem isi_bl {T b} : opIsi T (.bl b) S = opIsiK "bool" T S := (rfl)
@[simp] theorem isi_int {T} : opIsi T (.int i) S = opIsiK "int" T S := (rfl)
@[simp] theorem isi_str {T} : opIsi T (.str a) S = opIsiK "str" T S := (rfl)
@[simp] theorem isi_tup {T} : opIsi T (.tup ds) S = opIsiK "tuple" T S := (rfl)
@[simp] theorem isi_lst {T} : opIsi T (.lst ds) S = opIsiK "list" T S := (rfl)
@[simp] theorem isi_dct {T ks} : opIsi T (.dct ks ds) S = opIsiK "dict" T S := (rfl)
theorem isi_ref {T} (h : S[n]? = some (.lst ds)) : opIsi T (.ref n) S = opIsiK "list" T S := by simp only [opIsi, tyN, h]; rfl
theorem isiK_of {t T : String} {k : Bool} (h : kitB t T = some k) : opIsiK t T S = .ok (.bl k) S := by unfold opIsiK; rw [h]
@[simp] theorem isiK_tt : opIsiK "tuple" "tuple" S = .ok (.bl true) S := isiK_of (by decide +kernel)
@[simp] theorem isiK_it : opIsiK "int" "tuple" S = .ok (.bl false) S := isiK_of (by decide +kernel)
@[simp] theorem isiK_st : opIsiK "str" "tuple" S = .ok (.bl false) S := isiK_of (by decide +kernel)
@[simp] theorem isiK_nt : opIsiK "NoneType" "tuple" S = .ok (.bl false) S := isiK_of (by decide +kernel)
@[simp] theorem isiK_bt : opIsiK "bool" "tuple" S = .ok (.bl false) S := isiK_of (by decide +kernel)
@[simp] theorem isiK_lt : opIsiK "list" "tuple" S = .ok (.bl false) S := isiK_of (by decide +kernel)
@[simp] theorem isiK_ii : opIsiK "int" "int" S = .ok (.bl true) S := isiK_of (by decide +kernel)
@[simp] theorem isiK_bi : opIsiK "bool" "int" S = .ok (.bl true) S := isiK_of (by decide +kernel)
@[simp] theorem isiK_ti : opIsiK "tuple" "int" S = .ok (.bl false) S := isiK_of (by decide +kernel)
@[simp] theorem isiK_si : opIsiK "str" "int" S = .ok (.bl false) S := isiK_of (by decide +kernel)
@[simp] theorem isiK_ni : opIsiK "NoneType" "int" S = .ok (.bl false) S := isiK_of (by decide +kernel)
@[simp] theorem isiK_li : opIsiK "list" "int" S = .ok (.bl false) S := isiK_of (by decide +kernel)
@[simp] theorem isiK_ib : opIsiK "int" "bool" S = .ok (.bl false) S := isiK_of (by decide +kernel)
@[simp] theorem isiK_bb : opIsiK "bool" "bool" S = .ok (.bl true) S := isiK_of (by decide +kernel)
@[simp] theorem isiK_tb : opIsiK "tuple" "bool" S = .ok (.bl false) S := isiK_of (by decide +kernel)
@[simp] theorem isiK_sb : opIsiK "str" "bool" S = .ok (.bl false) S := isiK_of (by decide +kernel)
@[simp] theorem isiK_nb : opIsiK "NoneType" "bool" S = .ok (.bl false) S := isiK_of (by decide +kernel)
@[simp] theorem isiK_lb : opIsiK "list" "bool" S = .ok (.bl false) S := isiK_of (by decide +kernel)
@[simp] theorem isiK_ss : opIsiK "str" "str" S = .ok (.bl true) S := isiK_of (by decide +kernel)
@[simp] theorem isiK_is : opIsiK "int" "str" S = .ok (.bl false) S := isiK_of (by decide +kernel)
@[simp] theorem isiK_ns : opIsiK "NoneType" "str" S = .ok (.bl false) S := isiK_of (by decide +kernel)
@[simp] theorem isiK_bs : opIsiK "bool" "str" S = .ok (.bl false) S := isiK_of (by decide +kernel)
@[simp] theorem isiK_ts : opIsiK "tuple" "str" S = .ok (.bl false) S := isiK_of (by decide +kernel)
@[simp] theorem isiK_ls : opIsiK "list" "str" S = .ok (.bl false) S := isiK_of (by decide +kernel)
@[simp] theorem isiK_ll : opIsiK "list" "list" S = .ok (.bl true) S := isiK_of (by decide +kernel)
@[simp] theorem isiK_tl : opIsiK "tuple" "list" S = .ok (.bl false) S := isiK_of (by decide +kernel)
@[simp] theorem isiK_dd : opIsiK "dict" "dict" S = .ok (.bl true) S := isiK_of (by decide +kernel)
@[simp] theorem isiK_nd : opIsiK "NoneType" "dict" S = .ok (.bl false) S := isiK_of (by decide +kernel)
end
/-! objects -/
@[simp] theorem sto_snoc {S : Sto} {o : MO} : (S ++ [o])[S.length]? = some o := by simp
theorem sto_set {S : Sto} {n : Nat} {o u : MO} (h : S[n]? = some u) : (S.set n o)[n]? = some o := by
  rw [List.getElem?_set_self (List.getElem?_eq_some_iff.mp h).1]
@[simp] theorem sto_snoc_set {S : Sto} {o u : MO} : (S ++ [o]).set S.length u = S ++ [u] := by simp
@[simp] theorem set_set' {α : Type} {S : List α} {n : Nat} {a b : α} : (S.set n a).set n b = S.set n b := List.set_set _
end PM

/-! PM, part 13: labels (plain) -/
namespace PM
open PySem L2
def alpha : Str := Str.ofString "abcdefghijklmnopqrstuvwxyz"
theorem alpha_cps : alpha.cps.toList = List.range' 97 26 := by decide +kernel
theorem alpha_at {i : Int} (h0 : 0 ≤ i) (h : i < 26) : atI alpha.cps.toList i = some (97 + i.toNat) := by
  rw [atI_of _ h0, alpha_cps, List.getElem?_range' (by omega)]
  simp
theorem opIx_alpha {S : Sto} {i : Int} (h0 : 0 ≤ i) (h : i < 26) : opIx (.str (Str.ofString "abcdefghijklmnopqrstuvwxyz")) (.int i) S = .ok (.str ⟨#[97 + i.toNat]⟩) S := by
  show opIx (.str alpha) _ _ = _
  rw [opIx_str, alpha_at h0 h]
/-- a sign of a label -/
def sg (i : Int) : Nat := 97 + (i % 26).toNat
theorem sg_lo (i : Int) : 97 ≤ sg i := Nat.le_add_right _ _
theorem sg_hi (i : Int) : sg i < 123 := by unfold sg; omega
def labB (c : Int) : List Nat := (List.range (c % 7).toNat).map fun (k : Nat) => sg (c / 49 % 26 + c / 1274 * (k : Int))
def labA (c : Int) : Nat := (c / 7 % (c % 7 + 1)).toNat
def labL (c : Int) (k : Nat) : List Nat := (labB c).take (labA c) ++ [sg (c / 49 + 3 * (k : Int))] ++ (labB c).drop (labA c)
/-- the k-th label -/
def lab (c : Int) (k : Nat) : Str := ⟨(labL c k).toArray⟩
theorem labB_len (c : Int) : (labB c).length = (c % 7).toNat := by simp [labB]
theorem labA_le {c : Int} (h : 0 ≤ c) : labA c ≤ (labB c).length := by
  rw [labB_len]; unfold labA
  have h1 : 0 < c % 7 + 1 := by omega
  have h2 := Int.emod_lt_of_pos (c / 7) h1
  have h3 := Int.emod_nonneg (c / 7) (show c % 7 + 1 ≠ 0 by omega)
  generalize c / 7 % (c % 7 + 1) = z at *
  omega
theorem lab_len {c : Int} (h : 0 ≤ c) (k : Nat) : (lab c k).length = (c % 7).toNat + 1 := by
  show (labL c k).toArray.size = _
  have := labA_le h
  rw [List.size_toArray, labL, List.length_append, List.length_append, List.length_take, List.length_drop, labB_len] at *
  simp; omega
theorem lab_le {c : Int} (h : 0 ≤ c) (k : Nat) : (lab c k).length ≤ 7 := by rw [lab_len h]; omega
theorem labL_az (c : Int) (k : Nat) : ∀ x ∈ labL c k, 97 ≤ x ∧ x < 123 := by
  intro x hx
  have hb : ∀ y ∈ labB c, 97 ≤ y ∧ y < 123 := fun y hy => by
    obtain ⟨j, _, e⟩ := List.mem_map.mp hy
    rw [← e]; exact ⟨sg_lo _, sg_hi _⟩
  simp only [labL, List.mem_append, List.mem_singleton] at hx
  rcases hx with (hx | hx) | hx
  · exact hb x (List.mem_of_mem_take hx)
  · rw [hx]; exact ⟨sg_lo _, sg_hi _⟩
  · exact hb x (List.mem_of_mem_drop hx)
theorem lab_inj {c : Int} {i j : Nat} (hi : i < 8) (hj : j < 8) (h : lab c i = lab c j) : i = j := by
  have h1 : labL c i = labL c j := by
    have : (labL c i).toArray = (labL c j).toArray := by injection h
    simpa using this
  unfold labL at h1
  simp only [List.append_assoc] at h1
  have h2 := List.append_cancel_left h1
  simp only [List.cons_append, List.cons.injEq] at h2
  have h3 := h2.1
  unfold sg at h3
  omega
def labs (c : Int) (m : Nat) : List Str := (List.range m).map (lab c)
theorem labs_len (c : Int) (m : Nat) : (labs c m).length = m := by simp [labs]
theorem labs_nodup (c : Int) {m : Nat} (hm : m ≤ 8) : (labs c m).Nodup := by
  unfold labs List.Nodup
  rw [List.pairwise_map]
  refine List.Pairwise.imp_of_mem (fun {i j} hi hj h => ?_) List.nodup_range
  intro e
  simp at hi hj
  exact h (lab_inj (by omega) (by omega) e)
theorem mem_labs {c : Int} {m : Nat} {s : Str} (h : s ∈ labs c m) : ∃ k, k < m ∧ s = lab c k := by
  obtain ⟨k, hk, e⟩ := List.mem_map.mp h
  exact ⟨k, by simpa using hk, e.symm⟩
/-- texts of letters a to z, of one to seven -/
def IsLab (s : Str) : Prop := (∀ x ∈ s.cps.toList, 97 ≤ x ∧ x < 123) ∧ 1 ≤ s.length ∧ s.length ≤ 8
theorem lab_is {c : Int} (h : 0 ≤ c) (k : Nat) : IsLab (lab c k) := by
  refine ⟨fun x hx => labL_az c k x (by simpa [lab] using hx), ?_, ?_⟩
  · rw [lab_len h]; omega
  · have := lab_le h k; omega
theorem labs_is {c : Int} (h : 0 ≤ c) {m : Nat} : ∀ s ∈ labs c m, IsLab s := fun s hs => by
  obtain ⟨k, _, e⟩ := mem_labs hs
  rw [e]; exact lab_is h k
theorem IsLab.ok {s : Str} (h : IsLab s) : PyData.strOk s = true := by
  unfold PyData.strOk
  rw [Array.all_eq_true']
  intro x hx
  have := h.1 x (by simpa using hx)
  simp; omega
/-! joining the base -/
theorem strsOf_map {α : Type} (f : α → Str) : ∀ xs : List α, strsOf (xs.map fun x => D.str (f x)) = some (xs.map f)
  | [] => rfl
  | x :: xs => by simp only [List.map_cons, strsOf, strsOf_map f xs]; rfl
theorem joinL_nil : ∀ ps : List (List Nat), TL.joinL [] ps = ps.flatten
  | [] => rfl
  | [p] => by simp [TL.joinL]
  | p :: q :: r => by simp only [TL.joinL, List.nil_append, joinL_nil (q :: r), List.flatten_cons]
theorem join_map {α : Type} {S : Sto} (f : α → Nat) (xs : List α) (h : xs.length ≤ 1000) : opJoin (.str (Str.ofString "")) (.lst (xs.map fun x => .str ⟨#[f x]⟩)) S = .ok (.str ⟨(xs.map f).toArray⟩) S := by
  have e : (Txt.join (Str.ofString "") (xs.map fun x => (⟨#[f x]⟩ : Str))).cps.toList = xs.map f := by
    rw [TL.join_eq]
    show TL.tl _ = _
    rw [TL.tl_join, show TL.tl (Str.ofString "") = [] from rfl, joinL_nil, List.map_map]
    induction xs with
    | nil => rfl
    | cons x xs ih => simp only [List.map_cons, List.flatten_cons, ih (by simp at h; omega)]; rfl
  have e2 : Txt.join (Str.ofString "") (xs.map fun x => (⟨#[f x]⟩ : Str)) = ⟨(xs.map f).toArray⟩ := by
    rw [← e]
  have sz : (1000 : Nat) ≤ 16777216 := by decide
  have sl : (1000 : Nat) ≤ sizeLine := by decide
  simp only [opJoin, rdS, rdL, asL, strsOf_map]
  rw [if_pos, e2]
  refine ⟨?_, ?_⟩
  · rw [show (Str.ofString "").length = 0 from rfl, Nat.mul_zero, Nat.add_zero, List.map_map]
    have : ((xs.map ((fun s : Str => s.length) ∘ fun x => (⟨#[f x]⟩ : Str)))).sum = xs.length := by
      clear e e2 h
      induction xs with
      | nil => rfl
      | cons x xs ih => simp only [List.map_cons, List.sum_cons, ih, List.length_cons]; show 1 + _ = _; omega
    rw [this]; omega
  · rw [e2]
    show (xs.map f).toArray.size ≤ _
    simp; omega
theorem cutS_to {z : Str} {i : Int} (h : 0 ≤ i) (h2 : i.toNat ≤ z.length) : cutS z none (some i) = ⟨(z.cps.toList.take i.toNat).toArray⟩ := by
  obtain ⟨k, rfl⟩ : ∃ k : Nat, i = k := ⟨i.toNat, by omega⟩
  have h2 : k ≤ z.length := h2
  unfold cutS
  rw [HT.sIx_none, HT.sIx_nat, List.drop_zero, Nat.sub_zero, Nat.min_eq_left h2]; rfl
theorem cutS_from {z : Str} {i : Int} (h : 0 ≤ i) (h2 : i.toNat ≤ z.length) : cutS z (some i) none = ⟨(z.cps.toList.drop i.toNat).toArray⟩ := by
  obtain ⟨k, rfl⟩ : ∃ k : Nat, i = k := ⟨i.toNat, by omega⟩
  have h2 : k ≤ z.length := h2
  unfold cutS
  rw [HT.sIx_none, HT.sIx_nat, Nat.min_eq_left h2]
  have : (z.cps.toList.drop k).take (z.length - k) = z.cps.toList.drop k := by
    rw [List.take_of_length_le]; simp [Str.length]
  rw [this]; rfl
theorem str_app (a b : List Nat) : (⟨a.toArray⟩ : Str) ++ ⟨b.toArray⟩ = ⟨(a ++ b).toArray⟩ := by
  show (⟨a.toArray ++ b.toArray⟩ : Str) = _
  simp
end PM

/-! PM, part 14: bodies (plain) -/
namespace PM
open PySem L2
inductive B where
  | num (n : Int) | inp (k : Int) | make (ls : List Str) (bs : List B) | get (b : B) (l : Str) | put (b : B) (l : Str) (c : B) | sum (b c : B) | ite (b c d : B) | call (f : Str) (bs : List B)
def fldD (ls : List Str) (ds : List D) : List D := List.zipWith (fun l d => .tup [.str l, d]) ls ds
mutual
def bd : B → D
  | .num n => .tup [.str "number", .int n]
  | .inp k => .tup [.str "input", .int k]
  | .make ls bs => .tup [.str "make", .tup (fldD ls (bds bs))]
  | .get b l => .tup [.str "get", bd b, .str l]
  | .put b l c => .tup [.str "put", bd b, .str l, bd c]
  | .sum b c => .tup [.str "sum", bd b, bd c]
  | .ite b c d => .tup [.str "if", bd b, bd c, bd d]
  | .call f bs => .tup [.str "call", .str f, .tup (bds bs)]
def bds : List B → List D
  | [] => []
  | b :: bs => bd b :: bds bs
end
theorem bds_map : ∀ bs : List B, bds bs = bs.map bd
  | [] => rfl
  | b :: bs => by rw [bds, bds_map bs]; rfl
def kidsB : B → List B
  | .num _ => [] | .inp _ => []
  | .make _ bs => bs
  | .get b _ => [b]
  | .put b _ c => [b, c]
  | .sum b c => [b, c]
  | .ite b c d => [b, c, d]
  | .call _ bs => bs
/-- bodies of a depth, of few parts, of labels -/
inductive WB : Nat → B → Prop where
  | num {d n} : WB (d + 1) (.num n)
  | inp {d k} : WB (d + 1) (.inp k)
  | make {d ls bs} : ls.length = bs.length → bs.length ≤ 4 → (∀ l ∈ ls, IsLab l) → (∀ b ∈ bs, WB d b) → WB (d + 1) (.make ls bs)
  | get {d b l} : WB d b → IsLab l → WB (d + 1) (.get b l)
  | put {d b l c} : WB d b → IsLab l → WB d c → WB (d + 1) (.put b l c)
  | sum {d b c} : WB d b → WB d c → WB (d + 1) (.sum b c)
  | ite {d b c e} : WB d b → WB d c → WB d e → WB (d + 1) (.ite b c e)
  | call {d f bs} : IsLab f → bs.length ≤ 4 → (∀ b ∈ bs, WB d b) → WB (d + 1) (.call f bs)
theorem WB.kids {d : Nat} {b : B} (h : WB (d + 1) b) : ∀ c ∈ kidsB b, WB d c := by
  cases h with
  | num => intro c h; cases h
  | inp => intro c h; cases h
  | make _ _ _ h => exact h
  | get h _ => intro c hc; simp only [kidsB, List.mem_singleton] at hc; rw [hc]; exact h
  | put h _ h2 => intro c hc; simp only [kidsB, List.mem_cons, List.not_mem_nil, or_false] at hc; rcases hc with rfl | rfl <;> assumption
  | sum h h2 => intro c hc; simp only [kidsB, List.mem_cons, List.not_mem_nil, or_false] at hc; rcases hc with rfl | rfl <;> assumption
  | ite h h2 h3 => intro c hc; simp only [kidsB, List.mem_cons, List.not_mem_nil, or_false] at hc; rcases hc with rfl | rfl | rfl <;> assumption
  | call _ _ h => exact h
theorem WB.few {d : Nat} {b : B} (h : WB d b) : (kidsB b).length ≤ 4 := by
  cases h <;> simp [kidsB] <;> assumption
theorem WB.pos {d : Nat} {b : B} (h : WB d b) : ∃ e, d = e + 1 := by
  cases h <;> exact ⟨_, rfl⟩
theorem WB.mono {d e : Nat} {b : B} (h : WB d b) : d ≤ e → WB e b := by
  induction h generalizing e with
  | num => intro he; obtain ⟨e, rfl⟩ : ∃ f, e = f + 1 := ⟨e - 1, by omega⟩; exact .num
  | inp => intro he; obtain ⟨e, rfl⟩ : ∃ f, e = f + 1 := ⟨e - 1, by omega⟩; exact .inp
  | make h1 h2 h3 h4 ih => intro he; obtain ⟨e, rfl⟩ : ∃ f, e = f + 1 := ⟨e - 1, by omega⟩; exact .make h1 h2 h3 fun b hb => ih b hb (by omega)
  | get h1 h2 ih => intro he; obtain ⟨e, rfl⟩ : ∃ f, e = f + 1 := ⟨e - 1, by omega⟩; exact .get (ih (by omega)) h2
  | put h1 h2 h3 ih1 ih3 => intro he; obtain ⟨e, rfl⟩ : ∃ f, e = f + 1 := ⟨e - 1, by omega⟩; exact .put (ih1 (by omega)) h2 (ih3 (by omega))
  | sum h1 h3 ih1 ih3 => intro he; obtain ⟨e, rfl⟩ : ∃ f, e = f + 1 := ⟨e - 1, by omega⟩; exact .sum (ih1 (by omega)) (ih3 (by omega))
  | ite h1 h2 h3 ih1 ih2 ih3 => intro he; obtain ⟨e, rfl⟩ : ∃ f, e = f + 1 := ⟨e - 1, by omega⟩; exact .ite (ih1 (by omega)) (ih2 (by omega)) (ih3 (by omega))
  | call h1 h2 h3 ih => intro he; obtain ⟨e, rfl⟩ : ∃ f, e = f + 1 := ⟨e - 1, by omega⟩; exact .call h1 h2 fun b hb => ih b hb (by omega)
/-- no objects in a body -/
theorem bd_cl (n : Nat) {d : Nat} {b : B} (h : WB d b) : D.cl n (bd b) = true := by
  induction h with
  | num => rfl
  | inp => rfl
  | make h1 h2 h3 h4 ih =>
    rename_i d ls bs
    simp only [bd, D.cl, D.cls, Bool.true_and, Bool.and_true]
    rw [bds_map]
    clear h1 h2 h3 h4
    induction bs generalizing ls with
    | nil => cases ls <;> rfl
    | cons b bs ih2 =>
      cases ls with
      | nil => rfl
      | cons l ls =>
        simp only [fldD, List.map_cons, List.zipWith_cons_cons, D.cls, D.cl, Bool.true_and, Bool.and_true, Bool.and_eq_true]
        exact ⟨ih b (by simp), ih2 fun c hc => ih c (by simp [hc])⟩
  | get h1 h2 ih => simp only [bd, D.cl, D.cls, ih]; rfl
  | put h1 h2 h3 ih1 ih3 => simp only [bd, D.cl, D.cls, ih1, ih3]; rfl
  | sum h1 h3 ih1 ih3 => simp only [bd, D.cl, D.cls, ih1, ih3]; rfl
  | ite h1 h2 h3 ih1 ih2 ih3 => simp only [bd, D.cl, D.cls, ih1, ih2, ih3]; rfl
  | call h1 h2 h3 ih =>
    simp only [bd, D.cl, D.cls, Bool.true_and, Bool.and_true]
    rw [bds_map]
    exact cls_map ih
/-! places -/
abbrev P := List Nat
def pd (p : P) : D := .tup (p.map fun (i : Nat) => .int (i : Int))
def enumFrom {α : Type} : Nat → List α → List (Nat × α)
  | _, [] => []
  | i, x :: xs => (i, x) :: enumFrom (i + 1) xs
def lpl : Nat → B → List (P × B)
  | 0, _ => []
  | d + 1, b => (enumFrom 0 (kidsB b)).flatMap (fun q => (lpl d q.2).map fun r => (q.1 :: r.1, r.2)) ++ [([], b)]
def plc (d : Nat) (b : B) : List P := (lpl d b).map (·.1)
def atB : B → P → Option B
  | b, [] => some b
  | b, i :: p => (kidsB b)[i]?.bind fun c => atB c p
theorem enumFrom_mem {α : Type} {i j : Nat} {x : α} : ∀ {n : Nat} {xs : List α}, (j, x) ∈ enumFrom n xs → n ≤ j ∧ xs[j - n]? = some x
  | n, [], h => by cases h
  | n, y :: ys, h => by
    simp only [enumFrom, List.mem_cons, Prod.mk.injEq] at h
    rcases h with ⟨e1, e2⟩ | h
    · subst e1 e2; simp
    · obtain ⟨h1, h2⟩ := enumFrom_mem (i := i) h
      refine ⟨by omega, ?_⟩
      rw [show j - n = (j - (n + 1)) + 1 by omega]
      simpa using h2
theorem lpl_at : ∀ {d : Nat} {b x : B} {p : P}, (p, x) ∈ lpl d b → atB b p = some x
  | 0, _, _, _, h => by cases h
  | d + 1, b, x, p, h => by
    simp only [lpl, List.mem_append, List.mem_flatMap, List.mem_map, List.mem_singleton, Prod.mk.injEq] at h
    rcases h with ⟨⟨j, c⟩, hq, ⟨r, y⟩, hr, e1, e2⟩ | ⟨e1, e2⟩
    · subst e1 e2
      obtain ⟨_, hj⟩ := enumFrom_mem (i := 0) hq
      simp only [atB]
      rw [show j - 0 = j from rfl] at hj
      rw [hj]
      exact lpl_at hr
    · subst e1 e2; rfl
theorem enumFrom_length {α : Type} : ∀ (n : Nat) (xs : List α), (enumFrom n xs).length = xs.length
  | _, [] => rfl
  | n, x :: xs => by simp [enumFrom, enumFrom_length (n + 1) xs]
theorem enumFrom_snd {α : Type} : ∀ (n : Nat) (xs : List α), (enumFrom n xs).map (·.2) = xs
  | _, [] => rfl
  | n, x :: xs => by simp [enumFrom, enumFrom_snd (n + 1) xs]
theorem sum_le {l : List Nat} {m : Nat} (h : ∀ x ∈ l, x ≤ m) : l.sum ≤ l.length * m := by
  induction l with
  | nil => simp
  | cons x xs ih =>
    rw [List.sum_cons, List.length_cons, Nat.add_mul]
    have := h x (by simp)
    have := ih fun y hy => h y (by simp [hy])
    omega
theorem lpl_len : ∀ {d : Nat} {b : B}, WB d b → (lpl d b).length ≤ 5 ^ d
  | 0, _, h => by obtain ⟨e, h⟩ := h.pos; omega
  | d + 1, b, h => by
    simp only [lpl, List.length_append, List.length_flatMap, List.length_map, List.length_singleton]
    have h1 : ∀ x ∈ (enumFrom 0 (kidsB b)).map (fun q => (lpl d q.2).length), x ≤ 5 ^ d := by
      intro x hx
      obtain ⟨⟨j, c⟩, hq, e⟩ := List.mem_map.mp hx
      subst e
      refine lpl_len (h.kids c ?_)
      have := List.mem_map_of_mem (f := (·.2)) hq
      rwa [enumFrom_snd] at this
    have h2 := sum_le h1
    rw [List.length_map, enumFrom_length] at h2
    have h3 := h.few
    have h4 : (kidsB b).length * 5 ^ d ≤ 4 * 5 ^ d := Nat.mul_le_mul_right _ h3
    have h5 : 1 ≤ 5 ^ d := Nat.one_le_pow _ _ (by decide)
    rw [Nat.pow_succ]; omega
theorem lpl_wb : ∀ {d : Nat} {b x : B} {p : P}, WB d b → (p, x) ∈ lpl d b → WB d x ∧ p.length ≤ d
  | 0, _, _, _, _, h => by cases h
  | d + 1, b, x, p, hb, h => by
    simp only [lpl, List.mem_append, List.mem_flatMap, List.mem_map, List.mem_singleton, Prod.mk.injEq] at h
    rcases h with ⟨⟨j, c⟩, hq, ⟨r, y⟩, hr, e1, e2⟩ | ⟨e1, e2⟩
    · subst e1 e2
      have := List.mem_map_of_mem (f := (·.2)) hq
      rw [enumFrom_snd] at this
      obtain ⟨h1, h2⟩ := lpl_wb (hb.kids c this) hr
      exact ⟨h1.mono (by omega), by simp; exact h2⟩
    · subst e1 e2; exact ⟨hb, by simp⟩
theorem pd_cl (n : Nat) (p : P) : D.cl n (pd p) = true := by
  simp only [pd, D.cl]; exact cls_map fun _ _ => rfl
theorem zip_snd {ls : List Str} {ds : List D} (h : ls.length = ds.length) (f : D → D) (hf : ∀ l d, f (.tup [.str l, d]) = d) : (fldD ls ds).map f = ds := by
  induction ls generalizing ds with
  | nil => cases ds with
    | nil => rfl
    | cons d ds => cases h
  | cons l ls ih =>
    cases ds with
    | nil => cases h
    | cons d ds => simp only [fldD, List.zipWith_cons_cons, List.map_cons, hf]; exact congrArg _ (ih (by simpa using h))
theorem mem_fldD {ls : List Str} {ds : List D} {x : D} (h : x ∈ fldD ls ds) : ∃ l d, x = .tup [.str l, d] ∧ l ∈ ls ∧ d ∈ ds := by
  induction ls generalizing ds with
  | nil => cases h
  | cons l ls ih =>
    cases ds with
    | nil => cases h
    | cons d ds =>
      simp only [fldD, List.zipWith_cons_cons, List.mem_cons] at h
      rcases h with h | h
      · exact ⟨l, d, h, by simp, by simp⟩
      · obtain ⟨l', d', e, h1, h2⟩ := ih h
        exact ⟨l', d', e, by simp [h1], by simp [h2]⟩
end PM

/-! PM, part 15: equality of plain data -/
namespace PM
open PySem L2
/-- no objects, no dicts, of a depth -/
def pl : Nat → D → Bool
  | _, .non => true
  | _, .bl _ => true
  | _, .int _ => true
  | _, .str s => PyData.strOk s
  | n + 1, .tup ds => ds.all (pl n)
  | n + 1, .lst ds => ds.all (pl n)
  | n + 1, .scr ds => ds.all (pl n)
  | _, _ => false
def TpL (n : Nat) (ds : List D) : Prop := ∃ es, (∀ rc S, tps rc S ds = some es) ∧ PyData.canLayAll0 es = true ∧ PyData.depthAll es ≤ n
theorem tpl_of {n : Nat} (ih : ∀ d, pl n d = true → ∃ e, (∀ rc S, tp rc S d = some e) ∧ PyData.canLay0 e = true ∧ e.depth ≤ n) : ∀ ds : List D, ds.all (pl n) = true → TpL n ds
  | [], _ => ⟨[], fun _ _ => rfl, rfl, Nat.zero_le _⟩
  | d :: ds, h => by
    rw [List.all_cons, Bool.and_eq_true] at h
    obtain ⟨e, h1, h2, h3⟩ := ih d h.1
    obtain ⟨es, k1, k2, k3⟩ := tpl_of ih ds h.2
    refine ⟨e :: es, fun rc S => ?_, ?_, ?_⟩
    · simp only [tps, h1, k1, Option.bind_some, Option.map_some]
    · simp only [PyData.canLayAll0, h2, k2]; rfl
    · simp only [PyData.depthAll]; omega
theorem pl_tp : ∀ {n : Nat} (d : D), pl n d = true → ∃ e, (∀ rc S, tp rc S d = some e) ∧ PyData.canLay0 e = true ∧ e.depth ≤ n
  | n, .non, _ => ⟨.none, fun _ _ => rfl, rfl, Nat.zero_le _⟩
  | n, .bl b, _ => ⟨.bool b, fun _ _ => rfl, rfl, Nat.zero_le _⟩
  | n, .int b, _ => ⟨.int b, fun _ _ => rfl, rfl, Nat.zero_le _⟩
  | n, .str b, h => ⟨.str b, fun _ _ => rfl, by cases n <;> exact h, Nat.zero_le _⟩
  | n + 1, .tup ds, h => by
    obtain ⟨es, h1, h2, h3⟩ := tpl_of (fun d => pl_tp d) ds h
    exact ⟨.tuple es, fun rc S => by simp only [tp, h1]; rfl, h2, by simp only [PyData.depth]; omega⟩
  | n + 1, .lst ds, h => by
    obtain ⟨es, h1, h2, h3⟩ := tpl_of (fun d => pl_tp d) ds h
    exact ⟨.list es, fun rc S => by simp only [tp, h1]; rfl, h2, by simp only [PyData.depth]; omega⟩
  | n + 1, .scr ds, h => by
    obtain ⟨es, h1, h2, h3⟩ := tpl_of (fun d => pl_tp d) ds h
    exact ⟨.list es, fun rc S => by simp only [tp, h1]; rfl, h2, by simp only [PyData.depth]; omega⟩
  | 0, .tup ds, h => by cases h
  | 0, .lst ds, h => by cases h
  | 0, .scr ds, h => by cases h
  | 0, .dct _ _, h => by cases h
  | 0, .ref _, h => by cases h
  | n + 1, .dct _ _, h => by cases h
  | 0, .exn _, h => by cases h
  | n + 1, .exn _, h => by cases h
  | n + 1, .ref _, h => by cases h
theorem pl_mono : ∀ {n m : Nat} (d : D), n ≤ m → pl n d = true → pl m d = true
  | n, m, .non, _, _ => by cases m <;> rfl
  | n, m, .bl _, _, _ => by cases m <;> rfl
  | n, m, .int _, _, _ => by cases m <;> rfl
  | n, m, .str _, _, h => by cases n <;> cases m <;> exact h
  | n + 1, m + 1, .tup ds, l, h => by
    simp only [pl, List.all_eq_true] at h ⊢
    exact fun d hd => pl_mono d (by omega) (h d hd)
  | n + 1, m + 1, .lst ds, l, h => by
    simp only [pl, List.all_eq_true] at h ⊢
    exact fun d hd => pl_mono d (by omega) (h d hd)
  | n + 1, m + 1, .scr ds, l, h => by
    simp only [pl, List.all_eq_true] at h ⊢
    exact fun d hd => pl_mono d (by omega) (h d hd)
  | n + 1, 0, .tup ds, l, h => by omega
  | n + 1, 0, .lst ds, l, h => by omega
  | n + 1, 0, .scr ds, l, h => by omega
  | 0, _, .tup ds, _, h => by cases h
  | 0, _, .lst ds, _, h => by cases h
  | 0, _, .scr ds, _, h => by cases h
  | 0, _, .dct _ _, _, h => by cases h
  | 0, _, .ref _, _, h => by cases h
  | n + 1, _, .dct _ _, _, h => by cases h
  | 0, _, .exn _, _, h => by cases h
  | n + 1, _, .exn _, _, h => by cases h
  | n + 1, _, .ref _, _, h => by cases h
theorem shaped_of {n : Nat} {e : PyData} (h : PyData.canLay0 e = true) (l : e.depth ≤ n) (hn : n ≤ 64) : SeqAt.shaped e = true := by
  unfold SeqAt.shaped
  rw [h, decide_eq_true (Nat.le_trans l hn)]; rfl
theorem eqD_self {S : Sto} {n : Nat} {d : D} (h : pl n d = true) (hn : n ≤ 64) : eqD S d d = some true := by
  unfold eqD
  cases hs : scalD d d with
  | some k =>
    simp only
    cases d <;> simp only [scalD, decide_true] at hs <;> first | exact hs.symm | cases hs
  | none =>
    obtain ⟨e, h1, h2, h3⟩ := pl_tp d h
    have e1 : tpd S d = some e := h1 _ _
    simp only [e1]
    rw [if_pos ⟨shaped_of h2 h3 hn, shaped_of h2 h3 hn⟩, SeqAt.eqv_refl _ h2]
theorem eqD_lr {S : Sto} {n k : Nat} {ds : List D} (hs : S[k]? = some (.lst ds)) (h : pl (n + 1) (.lst ds) = true) (hn : n + 1 ≤ 64) : eqD S (.ref k) (.lst ds) = some true := by
  obtain ⟨es, h1, h2, h3⟩ := tpl_of (fun d => pl_tp d) ds h
  have e1 : tpd S (.lst ds) = some (.list es) := by simp only [tpd, tp, h1]; rfl
  have e2 : tpd S (.ref k) = some (.list es) := by simp only [tpd, tp, hs, tpk, h1]; rfl
  have h4 : PyData.canLay0 (.list es) = true := h2
  have h5 : (PyData.list es).depth ≤ n + 1 := by simp only [PyData.depth]; omega
  unfold eqD
  simp only [scalD, e1, e2]
  rw [if_pos ⟨shaped_of h4 h5 hn, shaped_of h4 h5 hn⟩, SeqAt.eqv_refl _ h4]
theorem eqD_lst_nil {S : Sto} {n : Nat} {ds : List D} (h : pl n (.lst ds) = true) (hn : n ≤ 64) : eqD S (.lst ds) (.lst []) = some (decide (ds = [])) := by
  obtain ⟨n, rfl⟩ : ∃ m, n = m + 1 := by cases n with
    | zero => cases h
    | succ n => exact ⟨n, rfl⟩
  obtain ⟨es, h1, h2, h3⟩ := tpl_of (fun d => pl_tp d) ds h
  have e1 : tpd S (.lst ds) = some (.list es) := by simp only [tpd, tp, h1]; rfl
  have e2 : tpd S (.lst []) = some (.list []) := rfl
  have h4 : PyData.canLay0 (.list es) = true := h2
  have h5 : (PyData.list es).depth ≤ n + 1 := by simp only [PyData.depth]; omega
  unfold eqD
  simp only [scalD, e1, e2]
  rw [if_pos ⟨shaped_of h4 h5 hn, by decide⟩]
  cases ds with
  | nil =>
    have := h1 (fun _ => none) S
    simp only [tps, Option.some.injEq] at this
    subst this; rfl
  | cons d ds =>
    have := h1 (fun _ => none) S
    simp only [tps] at this
    cases h6 : tp (fun _ => none) S d with
    | none => rw [h6] at this; cases this
    | some e =>
      rw [h6, Option.bind_some, Option.map_eq_some_iff] at this
      obtain ⟨es', _, e'⟩ := this
      subst e'
      rfl
theorem pl_lit {n : Nat} {s : Str} (h : PyData.strOk s = true) : pl n (.str s) = true := by cases n <;> exact h
theorem pl_all {n : Nat} {ds : List D} (h : ∀ d ∈ ds, pl n d = true) : ds.all (pl n) = true := List.all_eq_true.mpr h
/-- bodies -/
theorem pl_bd {d : Nat} {b : B} (h : WB d b) : pl (3 * d) (bd b) = true := by
  have hs : ∀ {s : Str}, IsLab s → PyData.strOk s = true := fun h => h.ok
  induction h with
  | num => rename_i d n; rw [show 3 * (d + 1) = (3 * d + 2) + 1 by omega]; simp only [bd, pl, List.all_cons, List.all_nil]; decide +kernel
  | inp => rename_i d n; rw [show 3 * (d + 1) = (3 * d + 2) + 1 by omega]; simp only [bd, pl, List.all_cons, List.all_nil]; decide +kernel
  | make h1 h2 h3 h4 ih =>
    rename_i d ls bs
    rw [show 3 * (d + 1) = (3 * d + 2) + 1 by omega]
    simp only [bd, pl, List.all_cons, List.all_nil]
    refine Bool.and_eq_true_iff.mpr ⟨by decide +kernel, Bool.and_eq_true_iff.mpr ⟨pl_all fun x hx => ?_, rfl⟩⟩
    obtain ⟨l, y, e, hl, hy⟩ := mem_fldD hx
    subst e
    rw [bds_map] at hy
    obtain ⟨b, hb, e⟩ := List.mem_map.mp hy
    subst e
    simp only [pl, List.all_cons, List.all_nil, Bool.and_true, Bool.and_eq_true]
    exact ⟨(h3 l hl).ok, ih b hb⟩
  | get h1 h2 ih =>
    rename_i d b l
    rw [show 3 * (d + 1) = (3 * d + 2) + 1 by omega]
    simp only [bd, pl, List.all_cons, List.all_nil, Bool.and_true, Bool.and_eq_true]
    exact ⟨by decide +kernel, pl_mono _ (by omega) ih, hs h2⟩
  | put h1 h2 h3 ih1 ih3 =>
    rename_i d b l c
    rw [show 3 * (d + 1) = (3 * d + 2) + 1 by omega]
    simp only [bd, pl, List.all_cons, List.all_nil, Bool.and_true, Bool.and_eq_true]
    exact ⟨by decide +kernel, pl_mono _ (by omega) ih1, hs h2, pl_mono _ (by omega) ih3⟩
  | sum h1 h3 ih1 ih3 =>
    rename_i d b c
    rw [show 3 * (d + 1) = (3 * d + 2) + 1 by omega]
    simp only [bd, pl, List.all_cons, List.all_nil, Bool.and_true, Bool.and_eq_true]
    exact ⟨by decide +kernel, pl_mono _ (by omega) ih1, pl_mono _ (by omega) ih3⟩
  | ite h1 h2 h3 ih1 ih2 ih3 =>
    rename_i d b c e
    rw [show 3 * (d + 1) = (3 * d + 2) + 1 by omega]
    simp only [bd, pl, List.all_cons, List.all_nil, Bool.and_true, Bool.and_eq_true]
    exact ⟨by decide +kernel, pl_mono _ (by omega) ih1, pl_mono _ (by omega) ih2, pl_mono _ (by omega) ih3⟩
  | call h1 h2 h3 ih =>
    rename_i d f bs
    rw [show 3 * (d + 1) = (3 * d + 2) + 1 by omega]
    simp only [bd, pl, List.all_cons, List.all_nil, Bool.and_true, Bool.and_eq_true]
    refine ⟨by decide +kernel, hs h1, pl_all fun x hx => ?_⟩
    rw [bds_map] at hx
    obtain ⟨b, hb, e⟩ := List.mem_map.mp hx
    subst e
    exact pl_mono _ (by omega) (ih b hb)
end PM

/-! PM, part 16: for the makers of bodies -/
namespace PM
open PySem L2
theorem scalAny_strs (l : Str) : ∀ xs : List Str, scalAny (.str l) (xs.map D.str) = some (decide (l ∈ xs))
  | [] => rfl
  | x :: xs => by
    simp only [List.map_cons, scalAny, scalD, scalAny_strs l xs, Option.bind_some, Option.map_some, List.mem_cons, Bool.decide_or, Option.some.injEq]
    rw [show decide (x = l) = decide (l = x) from by simp only [eq_comm]]
theorem opNotIn_strs {S : Sto} (l : Str) (xs : List Str) : opNotIn (.str l) (.lst (xs.map D.str)) S = .ok (.bl (!decide (l ∈ xs))) S := by
  have : inDa S (.str l) (.lst (xs.map D.str)) = some (decide (l ∈ xs)) := by
    simp only [inDa, dget, dkOf, dtOf, rdS, rdL, asL, isFlat, if_pos, scalAny_strs]
  unfold opNotIn; rw [this]
theorem opIn_strs {S : Sto} (l : Str) (xs : List Str) : opIn (.str l) (.lst (xs.map D.str)) S = .ok (.bl (decide (l ∈ xs))) S := by
  have : inDa S (.str l) (.lst (xs.map D.str)) = some (decide (l ∈ xs)) := by
    simp only [inDa, dget, dkOf, dtOf, rdS, rdL, asL, isFlat, if_pos, scalAny_strs]
  unfold opIn; rw [this]
theorem opIx_map {α : Type} {f : α → D} {xs : List α} {j : Int} (h0 : 0 ≤ j) (h : j < xs.length) : ∃ x ∈ xs, ∀ S, opIx (.lst (xs.map f)) (.int j) S = .ok (f x) S := by
  have hj : j.toNat < xs.length := by omega
  refine ⟨xs[j.toNat], List.getElem_mem _, fun S => ?_⟩
  rw [opIx_lst, atI_of _ h0, List.getElem?_map, List.getElem?_eq_getElem hj]; rfl
theorem finFrz_set {k n : Nat} {S T : Sto} {o : MO} {d : D} (hn : n < S.length) (ho : o.cl S.length = true) (h : D.cl S.length d = true) : finFrz k S (.ok d (S.set n o ++ T)) = .ok d (S.set n o) := by
  unfold finFrz
  have e : frz (S.set n o ++ T) S.length k [d] = some [d] := frz_cl (by simp only [D.cls, h]; rfl)
  have c : ClS S (S.set n o ++ T) := fun m u hm hu => by
    rw [List.getElem?_append_left (by simpa using hm), List.getElem?_set] at hu
    split at hu
    · cases hu; exact .inr ho
    · exact .inl hu
  simp only [if_pos c, e]
  rw [List.take_left' (by simp)]
/-- a state: two ints -/
def IsSt (S : Sto) (n : Nat) : Prop := ∃ a b : Int, 0 ≤ a ∧ S[n]? = some (.lst [.int a, .int b])
def NxSt (S : Sto) (n : Nat) (T : Sto) : Prop := ∃ a b : Int, 0 ≤ a ∧ T = S.set n (.lst [.int a, .int b])
theorem IsSt.lt {S : Sto} {n : Nat} (h : IsSt S n) : n < S.length := by
  obtain ⟨a, b, _, h⟩ := h
  exact (List.getElem?_eq_some_iff.mp h).1
theorem NxSt.is {S T : Sto} {n : Nat} (h : NxSt S n T) (hn : n < S.length) : IsSt T n := by
  obtain ⟨a, b, h0, e⟩ := h
  subst e
  exact ⟨a, b, h0, by rw [List.getElem?_set_self hn]⟩
theorem set_get {α : Type} {l : List α} {n : Nat} {x : α} (h : l[n]? = some x) : l.set n x = l := by
  apply List.ext_getElem?
  intro i
  rw [List.getElem?_set]
  split
  · rename_i e; subst e
    rw [if_pos (List.getElem?_eq_some_iff.mp h).1, h]
  · rfl
theorem NxSt.refl {S : Sto} {n : Nat} (h : IsSt S n) : NxSt S n S := by
  obtain ⟨a, b, h0, h⟩ := h
  exact ⟨a, b, h0, (set_get h).symm⟩
theorem NxSt.len {S T : Sto} {n : Nat} (h : NxSt S n T) : T.length = S.length := by
  obtain ⟨a, b, h0, e⟩ := h
  subst e; simp
theorem NxSt.trans {S T U : Sto} {n : Nat} (h : NxSt S n T) (g : NxSt T n U) : NxSt S n U := by
  obtain ⟨a, b, h0, e⟩ := h
  obtain ⟨a', b', h0', e'⟩ := g
  subst e e'
  exact ⟨a', b', h0', by rw [List.set_set]⟩
theorem IsSt.app {S T : Sto} {n : Nat} (h : IsSt S n) : IsSt (S ++ T) n := by
  have hl := h.lt
  obtain ⟨a, b, h0, h⟩ := h
  exact ⟨a, b, h0, by rw [List.getElem?_append_left hl]; exact h⟩
theorem NxSt.app {S T U : Sto} {n : Nat} (hn : n < S.length) (h : NxSt (S ++ T) n U) : ∃ S', U = S' ++ T ∧ NxSt S n S' := by
  obtain ⟨a, b, h0, e⟩ := h
  exact ⟨_, by rw [e, List.set_append_left _ _ hn], a, b, h0, rfl⟩
theorem NxSt.frz {k n : Nat} {S S' T : Sto} {d : D} (hn : n < S.length) (h : NxSt S n S') (hd : D.cl S.length d = true) : finFrz k S (.ok d (S' ++ T)) = .ok d S' := by
  obtain ⟨a, b, h0, e⟩ := h
  subst e
  exact finFrz_set hn rfl hd
def knD (kn : List (Str × Nat)) : D := .lst (kn.map fun p => .tup [.str p.1, .int (p.2 : Int)])
def KnOk (kn : List (Str × Nat)) : Prop := ∀ p ∈ kn, IsLab p.1 ∧ p.2 ≤ 4
theorem pl_kn {kn : List (Str × Nat)} (h : KnOk kn) : pl 2 (knD kn) = true := by
  refine pl_all fun d hd => ?_
  obtain ⟨p, hp, e⟩ := List.mem_map.mp hd
  subst e
  simp only [pl, List.all_cons, List.all_nil, Bool.and_true]
  exact (h p hp).1.ok
theorem opNe_kn {S : Sto} {kn : List (Str × Nat)} (h : KnOk kn) : opNe (knD kn) (.lst []) S = .ok (.bl (!decide (kn = []))) S := by
  have := eqD_lst_nil (S := S) (pl_kn h) (by decide)
  unfold knD
  rw [opNe_of this]
  simp
theorem bds_len (bs : List B) : (bds bs).length = bs.length := by rw [bds_map]; simp
theorem bds_app (bs : List B) (b : B) : bds (bs ++ [b]) = bds bs ++ [bd b] := by simp [bds_map]
theorem fldD_app {ls : List Str} {bs : List B} (h : ls.length = bs.length) (l : Str) (b : B) : fldD (ls ++ [l]) (bds (bs ++ [b])) = fldD ls (bds bs) ++ [.tup [.str l, bd b]] := by
  rw [bds_app, fldD, List.zipWith_append (by rw [h, bds_len])]; rfl
theorem fldD_len {ls : List Str} {bs : List B} (h : ls.length = bs.length) : (fldD ls (bds bs)).length = bs.length := by
  rw [fldD, List.length_zipWith, bds_len, h, Nat.min_self]
theorem fldD_names {ls : List Str} {bs : List B} (h : ls.length = bs.length) {grd : Sto → Prop} {S : Sto} {g : Gm} {t : Tm} {e : Em} {δ : Loc} (hg : grd S) (hh : ∀ l d, ∃ δ', g (.tup [.str l, d]) δ S = .ok δ' S ∧ t δ' S = .ok true S ∧ e δ' S = .ok (.str l) S) :
    compM grd g t e δ [] (fldD ls (bds bs)) S = .ok (.lst (ls.map .str)) S := by
  have e1 : fldD ls (bds bs) = (ls.zip bs).map fun p => .tup [.str p.1, bd p.2] := by
    rw [fldD, bds_map, List.zipWith_map_right, List.zip, List.map_zipWith]
  rw [e1, comp_map _ (fun p : Str × B => D.str p.1) hg _ _ fun p _ => hh p.1 _, List.nil_append]
  rw [show (fun p : Str × B => D.str p.1) = D.str ∘ Prod.fst from rfl, ← List.map_map, List.map_fst_zip (by omega)]
theorem fldD_cl {n d : Nat} {ls : List Str} {bs : List B} (h : ∀ b ∈ bs, WB d b) : D.cls n (fldD ls (bds bs)) = true := by
  refine cls_all fun x hx => ?_
  obtain ⟨l, y, e, _, hy⟩ := mem_fldD hx
  rw [bds_map] at hy
  obtain ⟨b, hb, e'⟩ := List.mem_map.mp hy
  subst e e'
  simp only [D.cl, D.cls, bd_cl n (h b hb)]; rfl
/-- a comprehension without a test, by what holds behind each turn -/
theorem comp_ofN {g : Gm} {e : Em} {δ : Loc} {S : Sto} {ds : List D} {r : R D} (hL : compM (fun _ => True) g mYes e δ [] ds S = r) (I : Nat → List D → Sto → Prop) (h0 : I 0 [] S)
    (hs : ∀ (i : Nat) x acc S, ds[i]? = some x → I i acc S → ∃ δ' S1 y S2, g x δ S = .ok δ' S1 ∧ e δ' S1 = .ok y S2 ∧ I (i + 1) (acc ++ [y]) S2) : ∃ acc S', r = .ok (.lst acc) S' ∧ I ds.length acc S' := by
  subst hL
  suffices H : ∀ (ds acc : List D) (n : Nat) (S : Sto), I n acc S → (∀ (i : Nat) x acc S, ds[i]? = some x → I (n + i) acc S → ∃ δ' S1 y S2, g x δ S = .ok δ' S1 ∧ e δ' S1 = .ok y S2 ∧ I (n + i + 1) (acc ++ [y]) S2) →
      ∃ acc' S', compM (fun _ => True) g mYes e δ acc ds S = .ok (.lst acc') S' ∧ I (n + ds.length) acc' S' by
    have := H ds [] 0 S h0 (fun i x acc S hx hI => by
      have := hs i x acc S hx (by rwa [Nat.zero_add] at hI)
      rwa [Nat.zero_add])
    rwa [Nat.zero_add] at this
  intro ds
  induction ds with
  | nil => intro acc n S h0 _; exact ⟨acc, S, compM_nil trivial, h0⟩
  | cons x ds ih =>
    intro acc n S h0 hs
    obtain ⟨δ', S1, y, S2, h1, h2, h3⟩ := hs 0 x acc S rfl h0
    rw [compM_cons trivial, h1]
    simp only [R.quiet_ok, R.bind_ok, mYes_eq, h2, if_pos]
    rw [List.length_cons, show n + (ds.length + 1) = n + 1 + ds.length by omega]
    refine ih _ (n + 1) S2 h3 fun i y acc S hy hI => ?_
    have := hs (i + 1) y acc S (by simpa using hy) (by rwa [show n + (i + 1) = n + 1 + i by omega])
    rwa [show n + (i + 1) + 1 = n + 1 + i + 1 by omega] at this
end PM

/-! PM, part 17: for kids and places -/
namespace PM
open PySem L2
section
variable {g : Gm} {t : Tm} {e : Em} {δ : Loc} {S : Sto} {acc xs : List D} {x : D}
@[simp] theorem compT_nil : compM (fun _ => True) g t e δ acc [] S = .ok (.lst acc) S := compM_nil trivial
theorem compT_cons : compM (fun _ => True) g t e δ acc (x :: xs) S = (g x δ S).quiet.bind fun δ' S1 => (t δ' S1).quiet.bind fun k S2 =>
    if k = true then (e δ' S2).quiet.bind fun y S3 => compM (fun _ => True) g t e δ (acc ++ [y]) xs S3 else compM (fun _ => True) g t e δ acc xs S2 := compM_cons trivial
end
@[simp] theorem cutD_1 {a : D} {ds : List D} : cutD (a :: ds) (some 1) none = ds := by
  unfold cutD
  rw [show (1 : Int) = ((1 : Nat) : Int) from rfl, HT.sIx_none, HT.sIx_nat]
  simp
theorem fldD_vals {ls : List Str} {bs : List B} (h : ls.length = bs.length) {grd : Sto → Prop} {S : Sto} {g : Gm} {t : Tm} {e : Em} {δ : Loc} (hg : grd S) (hh : ∀ l d, ∃ δ', g (.tup [.str l, d]) δ S = .ok δ' S ∧ t δ' S = .ok true S ∧ e δ' S = .ok d S) :
    compM grd g t e δ [] (fldD ls (bds bs)) S = .ok (.lst (bds bs)) S := by
  have e1 : fldD ls (bds bs) = (ls.zip bs).map fun p => .tup [.str p.1, bd p.2] := by
    rw [fldD, bds_map, List.zipWith_map_right, List.zip, List.map_zipWith]
  rw [e1, comp_map _ (fun p : Str × B => bd p.2) hg _ _ fun p _ => hh p.1 _, List.nil_append]
  rw [show (fun p : Str × B => bd p.2) = bd ∘ Prod.snd from rfl, ← List.map_map, List.map_snd_zip (by omega), bds_map]
/-- is it a tuple? -/
theorem isi_bd {S : Sto} (b : B) : opIsi "tuple" (bd b) S = .ok (.bl true) S := by cases b <;> simp [bd]
def lplK (d i : Nat) (ks : List B) : List (P × B) := (enumFrom i ks).flatMap (fun q => (lpl d q.2).map fun r => (q.1 :: r.1, r.2))
theorem lpl_succ (d : Nat) (b : B) : lpl (d + 1) b = lplK d 0 (kidsB b) ++ [([], b)] := rfl
theorem lplK_nil (d i : Nat) : lplK d i [] = [] := rfl
theorem lplK_cons (d i : Nat) (c : B) (ks : List B) : lplK d i (c :: ks) = ((lpl d c).map fun r => (i :: r.1, r.2)) ++ lplK d (i + 1) ks := rfl
theorem drop_get {α : Type} {l : List α} {i : Nat} {x : α} (h : l[i]? = some x) : l.drop i = x :: l.drop (i + 1) := by
  obtain ⟨hl, e⟩ := List.getElem?_eq_some_iff.mp h
  rw [List.drop_eq_getElem_cons hl, e]
/-- a loop that leaves the objects -/
theorem loop_same {grd : Sto → Prop} {b : D → Sm} {S : Sto} {r : RS} (hg : grd S) (I : Loc → Prop) : ∀ {ds : List D} {δ : Loc}, loopM grd b ds δ S = r → I δ → (∀ x ∈ ds, ∀ δ, I δ → ∃ δ', (b x δ S = .nx δ' S ∨ b x δ S = .ct δ' S) ∧ I δ') → ∃ δ', r = .nx δ' S ∧ I δ'
  | [], δ, hL, h0, _ => ⟨δ, by rw [← hL, loopM, if_pos hg], h0⟩
  | x :: ds, δ, hL, h0, hs => by
    obtain ⟨δ1, h1, h2⟩ := hs x (by simp) δ h0
    have e : loopM grd b ds δ1 S = r := by
      rw [loopM, if_pos hg] at hL
      rcases h1 with h1 | h1 <;> rw [h1] at hL <;> exact hL
    exact loop_same hg I e h2 fun y hy => hs y (by simp [hy])
theorem pd_cons (i : Nat) (p : P) : (D.tup (.int (i : Int) :: p.map fun (i : Nat) => .int (i : Int))) = pd (i :: p) := rfl
def rD (r : P × B) : D := .tup [pd r.1, bd r.2]
theorem rD_cl {d n : Nat} {b : B} (h : WB d b) : D.cls n ((lpl d b).map rD) = true := by
  refine cls_map fun r hr => ?_
  obtain ⟨h1, _⟩ := lpl_wb (p := r.1) (x := r.2) h hr
  simp only [rD, D.cl, D.cls, pd_cl, bd_cl n h1]; rfl
theorem pd_cls (n : Nat) (ps : List P) : D.cls n (ps.map pd) = true := cls_map fun p _ => pd_cl n p
theorem pl_pds (ps : List P) : pl 3 (.lst (ps.map pd)) = true := by
  refine pl_all fun d hd => ?_
  obtain ⟨p, hp, e⟩ := List.mem_map.mp hd
  subst e
  refine pl_all fun d hd => ?_
  obtain ⟨i, hi, e⟩ := List.mem_map.mp hd
  subst e; rfl
theorem finKeep_app {S T : Sto} {ds : List D} {m : Nat} (hm : S.length ≤ m) (hd : (S ++ T)[m]? = some (.lst ds)) (h : D.cls S.length ds = true) : finKeep S (.ok (.ref m) (S ++ T)) = .ok (.ref S.length) (S ++ [.lst ds]) := by
  unfold finKeep
  simp only [hd, List.take_left]
  rw [if_pos ⟨ClS.app, hm, h⟩]
end PM

/-! PM, part 18: for the laws -/
namespace PM
open PySem L2
theorem lab_known {s : Str} (h : s.cps.toList.all (fun x => decide (97 ≤ x ∧ x < 123)) = true) (h1 : 1 ≤ s.length) (h2 : s.length ≤ 8) : IsLab s :=
  ⟨fun x hx => by have := List.all_eq_true.mp h x hx; simpa using this, h1, h2⟩
theorem isLab_f : IsLab (Str.ofString "f") := lab_known (by decide +kernel) (by decide +kernel) (by decide +kernel)
theorem isLab_g : IsLab (Str.ofString "g") := lab_known (by decide +kernel) (by decide +kernel) (by decide +kernel)
theorem isLab_h : IsLab (Str.ofString "h") := lab_known (by decide +kernel) (by decide +kernel) (by decide +kernel)
theorem labs_ne {c : Int} {m : Nat} (h : 0 < m) : labs c m ≠ [] := by
  intro e
  have := congrArg List.length e
  rw [labs_len] at this; simp at this; omega
theorem pl_bds {α : Type} {xs : List α} {f : α → B} {d : Nat} (h : ∀ x ∈ xs, WB d (f x)) : pl (3 * d + 1) (.lst (xs.map fun x => bd (f x))) = true := by
  refine pl_all fun y hy => ?_
  obtain ⟨x, hx, e⟩ := List.mem_map.mp hy
  subst e
  exact pl_bd (h x hx)
theorem isi_lt (p : P) {S : Sto} : opIsi "tuple" (pd p) S = .ok (.bl true) S := by simp [pd]
/-- a cell of a script -/
def cellv (ns : List Int) (j : Nat) : Int := if h : j < ns.length then ns[j] * 48271 % 2147483647 else 0
theorem cellv_lo (ns : List Int) (j : Nat) : 0 ≤ cellv ns j := by unfold cellv; split <;> omega
theorem cellv_hi (ns : List Int) (j : Nat) : cellv ns j < 2147483647 := by unfold cellv; split <;> omega
end PM

/-! PM, part 19: dicts made, texts sorted, is of truths, index -/
namespace PM
open PySem PySem.Spec L2 PyProof.Rows
/-! ### the order of texts -/
def leS (a b : Str) : Bool := !ltCps b.cps.toList a.cps.toList
theorem lt_irr : ∀ a : List Nat, ltCps a a = false
  | [] => rfl
  | x :: a => by simp only [ltCps, lt_irr a, Bool.and_false, Bool.or_false]; exact decide_eq_false (Nat.lt_irrefl x)
theorem lt_tri : ∀ a b : List Nat, ltCps a b = false → ltCps b a = false → a = b
  | [], [], _, _ => rfl
  | [], y :: b, h, _ => by cases h
  | x :: a, [], _, h => by cases h
  | x :: a, y :: b, h1, h2 => by
    simp only [ltCps, Bool.or_eq_false_iff, Bool.and_eq_false_iff, decide_eq_false_iff_not] at h1 h2
    have e : x = y := by omega
    subst e
    simp only [beq_self_eq_true, Bool.true_eq_false, false_or] at h1 h2
    rw [lt_tri a b h1.2 h2.2]
theorem lt_cot : ∀ a b c : List Nat, ltCps c a = true → ltCps c b = true ∨ ltCps b a = true
  | [], _, [], h => by cases h
  | [], _, _ :: _, h => by cases h
  | x :: a, [], [], _ => .inr rfl
  | x :: a, y :: b, [], _ => .inl rfl
  | x :: a, [], z :: c, _ => .inr rfl
  | x :: a, y :: b, z :: c, h => by
    simp only [ltCps, Bool.or_eq_true, Bool.and_eq_true, decide_eq_true_eq, beq_iff_eq] at h ⊢
    rcases h with h | ⟨e, h⟩
    · by_cases h1 : z < y
      · exact .inl (.inl h1)
      · exact .inr (.inl (by omega))
    · subst e
      rcases Nat.lt_trichotomy z y with h1 | h1 | h1
      · exact .inl (.inl h1)
      · subst h1
        rcases lt_cot a b c h with h2 | h2
        · exact .inl (.inr ⟨rfl, h2⟩)
        · exact .inr (.inr ⟨rfl, h2⟩)
      · exact .inr (.inl h1)
theorem str_ext {a b : Str} (h : a.cps.toList = b.cps.toList) : a = b := by
  obtain ⟨a⟩ := a
  obtain ⟨b⟩ := b
  have : a = b := by simpa using congrArg List.toArray h
  rw [this]
theorem leS_anti {a b : Str} (h1 : leS a b = true) (h2 : leS b a = true) : a = b := by
  unfold leS at h1 h2
  simp only [Bool.not_eq_true'] at h1 h2
  exact str_ext (lt_tri _ _ h2 h1)
theorem leS_trans {a b c : Str} (h1 : leS a b = true) (h2 : leS b c = true) : leS a c = true := by
  unfold leS at *
  simp only [Bool.not_eq_true'] at *
  cases h : ltCps c.cps.toList a.cps.toList with
  | false => rfl
  | true =>
    rcases lt_cot _ b.cps.toList _ h with h3 | h3
    · rw [h3] at h2; cases h2
    · rw [h3] at h1; cases h1
theorem lt_asym : ∀ a b : List Nat, ltCps a b = true → ltCps b a = false
  | [], [], h => by cases h
  | [], _ :: _, _ => rfl
  | _ :: _, [], h => by cases h
  | x :: a, y :: b, h => by
    simp only [ltCps, Bool.or_eq_true, Bool.and_eq_true, decide_eq_true_eq, beq_iff_eq] at h
    simp only [ltCps, Bool.or_eq_false_iff, Bool.and_eq_false_iff, decide_eq_false_iff_not]
    rcases h with h | ⟨e, h⟩
    · exact ⟨by omega, .inl (by simp; omega)⟩
    · subst e
      exact ⟨Nat.lt_irrefl _, .inr (lt_asym a b h)⟩
theorem leS_total (a b : Str) : leS a b = true ∨ leS b a = true := by
  unfold leS
  cases h : ltCps b.cps.toList a.cps.toList with
  | false => exact .inl rfl
  | true => exact .inr (by rw [lt_asym _ _ h]; rfl)
def sortStr (xs : List Str) : List Str := xs.mergeSort leS
theorem sortStr_perm (xs : List Str) : (sortStr xs).Perm xs := List.mergeSort_perm xs leS
theorem sortStr_sorted (xs : List Str) : (sortStr xs).Pairwise fun a b => leS a b = true :=
  List.pairwise_mergeSort (le := leS) (fun a b c h1 h2 => leS_trans h1 h2) (fun a b => by rw [Bool.or_eq_true]; exact leS_total a b) xs
theorem pw_of_sortedS : ∀ {ys : List Str}, sortedS ys = true → ys.Pairwise fun a b => leS a b = true
  | [], _ => .nil
  | [x], _ => .cons (by simp) .nil
  | x :: y :: r, h => by
    have h' : leS x y = true ∧ sortedS (y :: r) = true := by
      simp only [sortedS, risingS, Bool.and_eq_true] at h
      exact ⟨h.1, h.2⟩
    have ih := pw_of_sortedS h'.2
    refine .cons (fun z hz => ?_) ih
    rcases List.mem_cons.mp hz with e | hz
    · rw [e]; exact h'.1
    · exact leS_trans h'.1 (List.rel_of_pairwise_cons ih hz)
theorem sorted_uniq : ∀ {l m : List Str}, l.Perm m → l.Pairwise (fun a b => leS a b = true) → m.Pairwise (fun a b => leS a b = true) → l = m
  | [], m, p, _, _ => p.nil_eq
  | x :: l, [], p, _, _ => by have := p.length_eq; simp at this
  | x :: l, y :: m, p, hl, hm => by
    have e : x = y := by
      have h1 : x ∈ y :: m := p.mem_iff.mp (by simp)
      have h2 : y ∈ x :: l := p.mem_iff.mpr (by simp)
      rcases List.mem_cons.mp h1 with e | h1
      · exact e
      rcases List.mem_cons.mp h2 with e | h2
      · exact e.symm
      · exact leS_anti (List.rel_of_pairwise_cons hl h2) (List.rel_of_pairwise_cons hm h1)
    subst e
    rw [sorted_uniq p.cons_inv hl.tail hm.tail]
theorem sortStr_eq {xs ys : List Str} (p : ys.Perm xs) (h : sortedS ys = true) : ys = sortStr xs :=
  sorted_uniq (p.trans (sortStr_perm xs).symm) (pw_of_sortedS h) (sortStr_sorted xs)
section
variable {X : Cx}
/-- sorted(xs), texts, any number of them -/
theorem cr_sortedT : CallR X (.builtin "sorted") (fun vs H Q => ∃ (a : Addr) (zs : List Str), vs = [V.ref a] ∧ SqL X.K H a (zs.map V.str) ∧ ∀ p : Addr, H p = none → Q (.ref p) (upd H p (.lst ((sortStr zs).map V.str)))) := by
  intro pins s σ H vs us Q I r ⟨a, zs, e, hs, q⟩
  subst e
  obtain ⟨is, rv, hl, hz⟩ := I.list hs
  rw [Vals.ref1 r]
  refine PyProof.Rows.sorted_strsAny hl.isList rv.strs (by rw [← rv.length]; exact hz) fun out ys h1 h2 h3 => ?_
  obtain ⟨ep, he⟩ := PyProof.Rows.sortedAll_at s.heap is out
  have e := sortStr_eq h2 h3
  subst e
  have hl2 : ((sortStr zs).map V.str).length ≤ sizeLine := by rw [List.length_map, h2.length_eq]; rw [List.length_map] at hz; exact hz
  exact ⟨.ref _, upd H (s.heap.objs.size + 1) (.lst ((sortStr zs).map V.str)), I.laid (t' := s.toks) (fun _ _ => PyProof.Rows.sortedAll_old) (Nat.le_succ _) ⟨hl2, out.toList, ep, vals_of_strs h1, he⟩, rfl, q _ (I.hok.fresh (Nat.le_succ _))⟩
def cSorted (ds : List D) (S : Sto) : R D := match ds with
  | [d] => match rdL S d with
    | some es => match strsOf es with
      | some zs => .ok (.lst ((sortStr zs).map .str)) S
      | none => .stuck
    | none => .stuck
  | _ => .stuck
theorem rds_strs {H : Hp} {ι : Z} : ∀ {ds : List D} {vs : List V} {ys : List Str}, RDs H ι ds vs → strsOf ds = some ys → ∀ z ∈ ys, z.length ≤ sizeLine
  | [], vs, ys, r, h => by simp only [strsOf, Option.some.injEq] at h; subst h; simp
  | d :: ds, vs, ys, r, h => by
    simp only [RDs] at r
    obtain ⟨v, w, e, r1, r2⟩ := r
    cases d with
    | str s =>
      simp only [strsOf, Option.map_eq_some_iff] at h
      obtain ⟨zs, h2, e⟩ := h
      subst e
      simp only [RD] at r1
      intro z hz
      rcases List.mem_cons.mp hz with e | hz
      · rw [e]; exact r1.2
      · exact rds_strs r2 h2 z hz
    | _ => simp only [strsOf] at h; cases h
theorem rds_mapstr {H : Hp} {ι : Z} : ∀ {ys : List Str}, (∀ z ∈ ys, z.length ≤ sizeLine) → RDs H ι (ys.map .str) (ys.map V.str)
  | [], _ => .nil
  | y :: ys, h => .cons (by simp only [RD]; exact ⟨trivial, h y (by simp)⟩) (rds_mapstr fun z hz => h z (by simp [hz]))
theorem cSorted_ok : CallD X (.builtin "sorted") cSorted := by
  refine ⟨_, cr_sortedT, fun W ι S H xs dxs Q rp rx q => ?_⟩
  unfold cSorted at q
  split at q
  · rename_i d
    obtain ⟨v, e, r⟩ := rds_one rx
    subst e
    split at q
    · rename_i es hes
      obtain ⟨a, vs, e, hq, h2, z⟩ := rdL_ok rp r hes
      subst e
      split at q
      · rename_i zs hzs
        have ev := strsOf_ok h2 hzs
        subst ev
        refine ⟨a, zs, rfl, hq, fun p hp => q.at (Step.new hp) (rp.new hp) (rd_newLst rp (rds_mapstr fun x hx => rds_strs h2 hzs x ((sortStr_perm zs).mem_iff.mp hx)) ?_ hp)⟩
        have := h2.length
        rw [List.length_map] at this ⊢
        rw [(sortStr_perm zs).length_eq, ← this]; exact z
      · exact q.elim
    · exact q.elim
  · exact q.elim
/-! ### is True, is not True -/
def opIsB (x y : D) (S : Sto) : R D := match x, y with
  | .bl a, .bl b => .ok (.bl (decide (a = b))) S
  | _, _ => .stuck
def opNotB (x y : D) (S : Sto) : R D := match x, y with
  | .bl a, .bl b => .ok (.bl (!decide (a = b))) S
  | _, _ => .stuck
theorem opIsB_ok : OpD X (compareOp .Is) opIsB := by
  refine ⟨_, op_isBl, fun W ι S H x y dx dy Q rp rx ry q => ?_⟩
  unfold opIsB at q
  split at q
  · simp only [RD] at rx ry
    exact ⟨_, _, rx, ry, q.here rp (by simp only [RD])⟩
  · exact q.elim
theorem opNotB_ok : OpD X (compareOp .IsNot) opNotB := by
  refine ⟨_, op_notBl, fun W ι S H x y dx dy Q rp rx ry q => ?_⟩
  unfold opNotB at q
  split at q
  · simp only [RD] at rx ry
    exact ⟨_, _, rx, ry, q.here rp (by simp only [RD])⟩
  · exact q.elim
/-! ### l.index(x) -/
def cIndex (d : D) (xs : List D) (S : Sto) : R D := match xs with
  | [x] => match tpd S d, tpd S x with
    | some (.list ps), some p => if SeqAt.shaped (.list ps) = true ∧ SeqAt.shaped p = true then (match ps.findIdx? fun z => PyData.eqv z p with
      | some j => .ok (.int (j : Nat)) S
      | none => .stuck) else .stuck
    | _, _ => .stuck
  | _ => .stuck
theorem cIndex_ok (hr : Ru X.A) : MtD X "list.index" cIndex := by
  refine ⟨_, mt_indexD (by have := hr.un; omega), fun W ι S H x xs dx dxs Q rp rx rs q => ?_⟩
  unfold cIndex at q
  split at q
  · rename_i d
    obtain ⟨v, e, r⟩ := rds_one rs
    subst e
    split at q
    · rename_i ps p hps hp
      split at q
      · rename_i hs
        split at q
        · rename_i j hj
          have h1 := tpd_ok rp hps rx
          have h2 := tpd_ok rp hp r
          rw [List.findIdx?_eq_some_iff_getElem] at hj
          obtain ⟨hl, h3, h4⟩ := hj
          obtain ⟨a, ea⟩ : ∃ a, x = .ref a := by cases h1; exact ⟨_, rfl⟩
          subst ea
          refine ⟨a, v, p, ps, j, ps[j], rfl, rfl, h1, h2, hs.1, hs.2, List.getElem?_eq_getElem hl, h3, fun m z hm hz => ?_, q.here rp (by simp only [RD])⟩
          obtain ⟨hm2, e⟩ := List.getElem?_eq_some_iff.mp hz
          have := h4 m hm
          rw [e] at this
          simpa using this
        · exact q.elim
      · exact q.elim
    · exact q.elim
  · exact q.elim
end
end PM

/-! PM, part 20: dicts made -/
namespace PM
open PySem PySem.Spec L2 PyProof.Rows
section
variable {X : Cx} {W : WX} {pos : Pos}
/-! ### {} -/
def mNewK : Em := fun _ S => .ok (.ref S.length) (S ++ [.dK [] []])
@[simp] theorem mNewK_eq {δ : PM.Loc} {S : Sto} : mNewK δ S = .ok (.ref S.length) (S ++ [.dK [] []]) := (rfl)
theorem de_newK : DE X W (.Dict [] [] pos) mNewK := pe_imp pe_dnewK fun σ H Q ⟨ι, S, δ, rp, rs, g⟩ p hp => by
  have q2 := rep_newRef (m := .dK [] []) (u := .dK []) rp hp ⟨[], upd_same, rfl, Nat.zero_le _, .nil⟩
  exact G.at g (Step.newRef hp) q2.1 q2.2
/-! ### list(d) -/
def keyD : Key → D
  | .inl i => .int i
  | .inr s => .str s
def keyFit : Key → Bool
  | .inr s => decide (s.length ≤ sizeLine)
  | .inl _ => true
def cListK (ds : List D) (S : Sto) : R D := match ds with
  | [.ref n] => match S[n]? with
    | some (.dK ks _) => if ks.all keyFit = true then .ok (.lst (ks.map keyD)) S else .stuck
    | _ => .stuck
  | _ => .stuck
theorem rds_keys {H : Hp} {ι : Z} : ∀ {ks : List Key}, ks.all keyFit = true → RDs H ι (ks.map keyD) (ks.map kV)
  | [], _ => .nil
  | .inl i :: ks, h => .cons (by simp only [keyD, RD]; rfl) (rds_keys (by simpa [keyFit] using h))
  | .inr s :: ks, h => by
    simp only [List.all_cons, Bool.and_eq_true, keyFit, decide_eq_true_eq] at h
    exact .cons (by simp only [keyD, RD]; exact ⟨rfl, h.1⟩) (rds_keys h.2)
theorem cListK_ok (hc : X.calm = true) : CallD X (.type "list") cListK := by
  refine ⟨_, call_list_dK hc, fun W ι S H xs dxs Q rp rx q => ?_⟩
  unfold cListK at q
  split at q
  · rename_i n
    obtain ⟨v, e, r⟩ := rds_one rx
    subst e
    simp only [RD] at r
    obtain ⟨a, e, h1⟩ := r
    subst e
    obtain ⟨o, e2, ro⟩ := rp.has h1
    rw [e2] at q
    cases o with
    | dK ks ds =>
      dsimp only at q
      split at q
      · rename_i hk
        obtain ⟨vs, h3, hz, hl, h4⟩ := ro
        refine ⟨a, _, rfl, h3, fun p hp => ?_⟩
        have e3 : (ks.zip vs).map (fun kv => kV kv.1) = ks.map kV := by
          rw [show (fun kv : Key × V => kV kv.1) = kV ∘ Prod.fst from rfl, ← List.map_map, List.map_fst_zip (by rw [hz, h4.length]; omega)]
        rw [e3]
        exact q.at (Step.new hp) (rp.new hp) (rd_newLst rp (rds_keys hk) (by rw [List.length_map]; exact hl) hp)
      · exact q.elim
    | _ => exact q.elim
  · exact q.elim
/-! ### dict(pairs) -/
def pairOf : D → Option (Key × D)
  | .tup [k, d] => (keyOf k).map fun k => (k, d)
  | _ => none
def pairsD : List D → Option (List (Key × D))
  | [] => some []
  | d :: ds => (pairOf d).bind fun p => (pairsD ds).map (p :: ·)
def mergeD : List Key → List D → List (Key × D) → List Key × List D
  | ks, ds, [] => (ks, ds)
  | ks, ds, p :: ps => mergeD (insK ks p.1) (insD ks ds p.1 p.2) ps
theorem mergeD_ok {H : Hp} {ι : Z} : ∀ {ps : List (Key × D)} {kvs : List (Key × V)} {ks : List Key} {ds : List D} {vs : List V}, Paired (fun (p : Key × D) (kv : Key × V) => p.1 = kv.1 ∧ RD H ι p.2 kv.2) ps kvs →
    ks.length = ds.length → RDs H ι ds vs → ∃ ws, mergeK (ks.zip vs) kvs = (mergeD ks ds ps).1.zip ws ∧ (mergeD ks ds ps).1.length = (mergeD ks ds ps).2.length ∧ RDs H ι (mergeD ks ds ps).2 ws
  | _, _, ks, ds, vs, .nil, hl, r => ⟨vs, rfl, hl, r⟩
  | p :: ps, kv :: kvs, ks, ds, vs, .cons h t, hl, r => by
    obtain ⟨ws, e, hl2, r2⟩ := insK_put (k := p.1) hl r h.2
    obtain ⟨us, e2, hl3, r3⟩ := mergeD_ok t hl2 r2
    refine ⟨us, ?_, hl3, r3⟩
    show mergeK (putK (ks.zip vs) kv.1 kv.2) kvs = _
    rw [← h.1, e]; exact e2
theorem pairsD_ok {H : Hp} {ι : Z} : ∀ {es : List D} {vs : List V} {ps : List (Key × D)}, RDs H ι es vs → pairsD es = some ps → ∃ (as : List Addr) (kvs : List (Key × V)), vs = as.map V.ref ∧ Paired (fun a kv => Tp H a [kV kv.1, kv.2]) as kvs ∧ Paired (fun (p : Key × D) (kv : Key × V) => p.1 = kv.1 ∧ RD H ι p.2 kv.2) ps kvs
  | [], vs, ps, r, h => by
    simp only [pairsD, Option.some.injEq] at h
    simp only [RDs] at r
    subst h r
    exact ⟨[], [], rfl, .nil, .nil⟩
  | d :: es, vs, ps, r, h => by
    simp only [RDs] at r
    obtain ⟨v, w, e, r1, r2⟩ := r
    subst e
    simp only [pairsD] at h
    cases h1 : pairOf d with
    | none => rw [h1] at h; cases h
    | some p =>
      rw [h1] at h
      simp only [Option.bind_some, Option.map_eq_some_iff] at h
      obtain ⟨ps', h2, e⟩ := h
      subst e
      obtain ⟨as, kvs, e1, q1, q2⟩ := pairsD_ok r2 h2
      subst e1
      unfold pairOf at h1
      split at h1
      · rename_i k x
        rw [Option.map_eq_some_iff] at h1
        obtain ⟨kk, hk, e⟩ := h1
        subst e
        simp only [RD] at r1
        obtain ⟨a, us, e, t, z, r3⟩ := r1
        subst e
        obtain ⟨u1, u2, e, r4, r5⟩ := rds_two r3
        subst e
        rw [keyOf_ok r4 hk] at t
        exact ⟨a :: as, (kk, u2) :: kvs, rfl, .cons t q1, .cons ⟨rfl, r5⟩ q2⟩
      · cases h1
theorem pairsD_len : ∀ {es : List D} {ps : List (Key × D)}, pairsD es = some ps → ps.length = es.length
  | [], ps, h => by simp only [pairsD, Option.some.injEq] at h; subst h; rfl
  | d :: es, ps, h => by
    simp only [pairsD] at h
    cases h1 : pairOf d with
    | none => rw [h1] at h; cases h
    | some p =>
      rw [h1] at h
      simp only [Option.bind_some, Option.map_eq_some_iff] at h
      obtain ⟨ps', h2, e⟩ := h
      subst e
      simp [pairsD_len h2]
theorem mergeD_len : ∀ (ps : List (Key × D)) (ks : List Key) (ds : List D), (mergeD ks ds ps).1.length ≤ ks.length + ps.length
  | [], ks, ds => Nat.le_refl _
  | p :: ps, ks, ds => by
    have := mergeD_len ps (insK ks p.1) (insD ks ds p.1 p.2)
    have := insK_len ks p.1
    simp only [mergeD, List.length_cons]; omega
end
section
variable {X : Cx} {pins : List (Addr × Obj)} {σ : L2.St} {H : Hp} {s : Shared}
/-- the pairs, at the level of the library -/
theorem pairs_at (I : Inv X pins σ H s) : ∀ {as : List Addr} {kvs : List (Key × V)}, Paired (fun a kv => Tp H a [kV kv.1, kv.2]) as kvs →
    ∃ (vs : List (Value × Value)) (prs : List (Key × Value)), KV kvs prs ∧ vs.length = as.length ∧ prs.length = as.length ∧ ∀ (j : Nat) (k v : Value), vs[j]? = some (k, v) → ∃ (b : Addr) (kk : Key), as[j]? = some b ∧ PySem.PairAt s.heap b k v ∧ prs[j]? = some (kk, v) ∧ (mixKind X.prog X.w).is kk k = true
  | _, _, .nil => ⟨[], [], .nil, rfl, rfl, fun j k v h => by simp at h⟩
  | a :: as, kv :: kvs, .cons h t => by
    obtain ⟨vs, prs, h1, h2, h3, h4⟩ := pairs_at I t
    obtain ⟨is, rv, ht, _⟩ := I.tuple (h.sq (K := X.K))
    obtain ⟨u, y, ei, ru, ry⟩ := vals2 rv
    subst ei
    refine ⟨(u, y) :: vs, (kv.1, y) :: prs, .cons ⟨rfl, ry⟩ h1, by simp [h2], by simp [h3], fun j k v hj => ?_⟩
    cases j with
    | zero =>
      simp only [List.getElem?_cons_zero, Option.some.injEq, Prod.mk.injEq] at hj
      obtain ⟨e1, e2⟩ := hj
      subst e1 e2
      exact ⟨a, kv.1, rfl, .inl ht, rfl, kV_is ru⟩
    | succ j =>
      obtain ⟨b, kk, q1, q2, q3, q4⟩ := h4 j k v (by simpa using hj)
      exact ⟨b, kk, by simpa using q1, q2, by simpa using q3, q4⟩
theorem cr_dictT (hcalm : X.calm = true) : CallR X (.type "dict") (fun xs H Q => ∃ (a : Addr) (as : List Addr) (kvs : List (Key × V)), xs = [.ref a] ∧ Tp H a (as.map V.ref) ∧ Paired (fun a kv => Tp H a [kV kv.1, kv.2]) as kvs ∧
    ∀ p, H p = none → Q (.ref p) (upd H p (.dK (mergeK [] kvs)))) := by
  intro pins s σ H xs us Q I r ⟨a, as, kvs, e, ⟨o, ho, hd⟩, hp, q⟩
  subst e
  obtain ⟨u, eu, rx⟩ := vals1 r
  subst eu
  cases rx
  obtain ⟨hg, hz, is, rv, o2, hg2, hc, n, hdat⟩ := (show ObjOk X.prog X.w H s.heap a (.frz o (.tup (as.map V.ref))) from I.hok a _ ho)
  rw [hg] at hg2
  cases hg2
  have ei := refs_at rv
  subst ei
  rw [List.length_map] at hz
  obtain ⟨vs, prs, rel, h2, h3, h4⟩ := pairs_at I hp
  refine PySem.call_dict_pairs (knd := mixKind X.prog X.w) (kvs := prs) (PySem.PairArg.tuple a _ (fun j => as[j]?.getD 0) vs) (I.ok.hd hcalm) ⟨⟨o, n, hg, hc, hd, hdat⟩, by simp [h2], fun j k v hj => ?_⟩ ⟨by rw [h3, h2], fun j k v hj => ?_⟩ (by rw [h2]; exact hz) fun h' tk hd' hk => ?_
  · obtain ⟨b, kk, q1, q2, q3, q4⟩ := h4 j k v hj
    refine ⟨?_, ?_⟩
    · simp [q1]
    · simp only [q1, Option.getD_some]; exact q2
  · obtain ⟨b, kk, q1, q2, q3, q4⟩ := h4 j k v hj
    exact ⟨kk, q3, q4⟩
  · have hm : (s.heap.objs.size == sysModules) = false := beq_eq_false_iff_ne.mpr (Nat.ne_of_gt I.big)
    have hlen : (mergeK [] kvs).length ≤ sizeLine := by
      refine Nat.le_trans (length_mergeK kvs []) ?_
      rw [List.length_nil, Nat.zero_add, rel.length, h3]
      exact hz
    exact ⟨.ref s.heap.objs.size, upd H s.heap.objs.size (.dK (mergeK [] kvs)), I.laid (t' := tk) (fun b o e => hk b o (by simp) e) (Nat.le_refl _) (show ObjOk X.prog X.w _ _ _ (.dK (mergeK [] kvs)) from ⟨hlen, hm, PySem.merged [] prs, KV.merge rel .nil, hd'⟩), rfl, q _ (I.hok.fresh (Nat.le_refl _))⟩
theorem dict_fin {W : XK} {ι : Z} {S : Sto} {Q : VK} (rp : Rep H ι X.ek S) {es : List D} {vs : List V} {ps : List (Key × D)} (r : RDs H ι es vs) (hz : es.length ≤ sizeLine) (hp : pairsD es = some ps)
    (q : ∀ p ws, H p = none → (mergeD [] [] ps).1.length = (mergeD [] [] ps).2.length → (mergeD [] [] ps).1.length ≤ sizeLine → RDs H ι (mergeD [] [] ps).2 ws → Q (.ref p) (upd H p (.dK ((mergeD [] [] ps).1.zip ws)))) :
    ∃ (as : List Addr) (kvs : List (Key × V)), vs = as.map V.ref ∧ Paired (fun a kv => Tp H a [kV kv.1, kv.2]) as kvs ∧ ∀ p, H p = none → Q (.ref p) (upd H p (.dK (mergeK [] kvs))) := by
  obtain ⟨as, kvs, e, h1, h2⟩ := pairsD_ok r hp
  refine ⟨as, kvs, e, h1, fun p hpn => ?_⟩
  obtain ⟨ws, e2, hl, r2⟩ := mergeD_ok (ks := []) (ds := []) (vs := []) h2 rfl .nil
  have e3 : mergeK [] kvs = (mergeD [] [] ps).1.zip ws := e2
  rw [e3]
  refine q p ws hpn hl ?_ r2
  refine Nat.le_trans (mergeD_len _ [] []) ?_
  rw [List.length_nil, Nat.zero_add, pairsD_len hp]; exact hz
/-- the pairs of a tuple or list -/
def itP (S : Sto) : D → Option (List (Key × D))
  | .tup es => pairsD es
  | d => (rdL S d).bind pairsD
theorem dict_call {W : XK} {ι : Z} {S : Sto} {Q : VK} (rp : Rep H ι X.ek S) {d : D} {xs : List V} {ps : List (Key × D)} (rx : RDs H ι [d] xs) (h : itP S d = some ps)
    (q : ∀ p ws, H p = none → (mergeD [] [] ps).1.length = (mergeD [] [] ps).2.length → (mergeD [] [] ps).1.length ≤ sizeLine → RDs H ι (mergeD [] [] ps).2 ws → Q (.ref p) (upd H p (.dK ((mergeD [] [] ps).1.zip ws)))) :
    (∃ (a : Addr) (as : List Addr) (kvs : List (Key × V)), xs = [.ref a] ∧ Tp H a (as.map V.ref) ∧ Paired (fun a kv => Tp H a [kV kv.1, kv.2]) as kvs ∧ ∀ p, H p = none → Q (.ref p) (upd H p (.dK (mergeK [] kvs)))) ∨
    (∃ (a : Addr) (ps : List Addr) (kvs : List (Key × V)), xs = [.ref a] ∧ SqL X.K H a (ps.map V.ref) ∧ Paired (fun p kv => SqT X.K H p [kV kv.1, kv.2]) ps kvs ∧ ∀ p, H p = none → Q (.ref p) (upd H p (.dK (mergeK [] kvs)))) := by
  obtain ⟨v, e, r⟩ := rds_one rx
  subst e
  unfold itP at h
  split at h
  · rename_i es
    simp only [RD] at r
    obtain ⟨a, vs, e, t, z, r2⟩ := r
    subst e
    obtain ⟨as, kvs, e, h1, h2⟩ := dict_fin (W := W) rp r2 z h q
    subst e
    exact .inl ⟨a, as, kvs, rfl, t, h1, h2⟩
  · rename_i d _
    rw [Option.bind_eq_some_iff] at h
    obtain ⟨es, hes, hps⟩ := h
    obtain ⟨a, vs, e, hq, r2, z⟩ := rdL_ok rp r hes
    subst e
    obtain ⟨as, kvs, e, h1, h2⟩ := dict_fin (W := W) rp r2 z hps q
    subst e
    exact .inr ⟨a, as, kvs, rfl, hq, L2.Paired.mapP h1 fun _ _ h => h.sq, h2⟩
def cDict (ds : List D) (S : Sto) : R D := match ds with
  | [d] => match itP S d with
    | some ps => .ok (.dct (mergeD [] [] ps).1 (mergeD [] [] ps).2) S
    | none => .stuck
  | _ => .stuck
theorem cDict_ok (hc : X.calm = true) : CallD X (.type "dict") cDict := by
  refine ⟨_, CallR.or (cr_dictT hc) (call_dictP hc), fun W ι S H xs dxs Q rp rx q => ?_⟩
  unfold cDict at q
  split at q
  · split at q
    · rename_i ps hps
      refine dict_call (W := W) rp rx hps fun p ws hpn hl hz r2 => q.at (Step.new hpn) (rp.new hpn) ?_
      simp only [RD]
      exact ⟨p, ws, rfl, .inl upd_same, rp.fresh hpn, hl, hz, r2.mono (Step.new hpn).up⟩
    · exact q.elim
  · exact q.elim
/-- .. a dict that may be changed -/
def cDictR (ds : List D) (S : Sto) : R D := match ds with
  | [d] => match itP S d with
    | some ps => .ok (.ref S.length) (S ++ [.dK (mergeD [] [] ps).1 (mergeD [] [] ps).2])
    | none => .stuck
  | _ => .stuck
theorem cDictR_ok (hc : X.calm = true) : CallD X (.type "dict") cDictR := by
  refine ⟨_, CallR.or (cr_dictT hc) (call_dictP hc), fun W ι S H xs dxs Q rp rx q => ?_⟩
  unfold cDictR at q
  split at q
  · split at q
    · rename_i ps hps
      refine dict_call (W := W) rp rx hps fun p ws hpn hl hz r2 => ?_
      have q2 := rep_newRef (m := .dK (mergeD [] [] ps).1 (mergeD [] [] ps).2) (u := .dK ((mergeD [] [] ps).1.zip ws)) rp hpn ⟨ws, upd_same, hl, hz, r2.mono (Step.newRef hpn).up⟩
      exact q.at (Step.newRef hpn) q2.1 q2.2
    · exact q.elim
  · exact q.elim
end
end PM

/-! PM, part 21: kinds and values (plain) -/
namespace PM
open PySem L2
inductive K where
  | num | blk (n : Int) | rc (ls : List Str) (ks : List K) (r : Option Int)
inductive Vl where
  | num (n : Int) | rc (ls : List Str) (vs : List Vl)
def rD0 : Option Int → D
  | none => .non
  | some n => .int n
mutual
def kd : K → D
  | .num => .tup [.str "number"]
  | .blk n => .tup [.str "blank", .int n]
  | .rc ls ks r => .tup [.str "record", .tup (fldD ls (kds ks)), rD0 r]
def kds : List K → List D
  | [] => []
  | k :: ks => kd k :: kds ks
end
mutual
def vd : Vl → D
  | .num n => .int n
  | .rc ls vs => .tup (fldD ls (vds vs))
def vds : List Vl → List D
  | [] => []
  | v :: vs => vd v :: vds vs
end
theorem kds_map : ∀ ks : List K, kds ks = ks.map kd
  | [] => rfl
  | k :: ks => by rw [kds, kds_map ks]; rfl
theorem vds_map : ∀ vs : List Vl, vds vs = vs.map vd
  | [] => rfl
  | v :: vs => by rw [vds, vds_map vs]; rfl
def lkp : List Str → List Vl → Str → Option Vl
  | l :: ls, v :: vs, x => if l = x then some v else lkp ls vs x
  | _, _, _ => none
mutual
def isB : K → Vl → Bool
  | .blk _, _ => true
  | .num, .num _ => true
  | .num, .rc _ _ => false
  | .rc _ _ _, .num _ => false
  | .rc ls ks r, .rc ls' vs => isBs ls ks ls' vs && (r.isSome || decide (ls'.length = ls.length))
def isBs : List Str → List K → List Str → List Vl → Bool
  | l :: ls, k :: ks, ls', vs => (match lkp ls' vs l with | some v => isB k v | none => false) && isBs ls ks ls' vs
  | _, _, _, _ => true
end
/-- kinds of labels, of a depth -/
inductive WK : Nat → K → Prop where
  | num {d} : WK (d + 1) .num
  | blk {d n} : WK (d + 1) (.blk n)
  | rc {d ls ks r} : ls.length = ks.length → ks.length ≤ 4 → ls.Nodup → (∀ l ∈ ls, IsLab l) → (∀ k ∈ ks, WK d k) → WK (d + 1) (.rc ls ks r)
/-- values of labels, of a depth, of so many fields -/
inductive WV (m : Nat) : Nat → Vl → Prop where
  | num {d n} : WV m (d + 1) (.num n)
  | rc {d ls vs} : ls.length = vs.length → vs.length ≤ m → ls.Nodup → (∀ l ∈ ls, IsLab l) → (∀ v ∈ vs, WV m d v) → WV m (d + 1) (.rc ls vs)
theorem WV.mono {m d e : Nat} {v : Vl} (h : WV m d v) : d ≤ e → WV m e v := by
  induction h generalizing e with
  | num => intro he; obtain ⟨e, rfl⟩ : ∃ f, e = f + 1 := ⟨e - 1, by omega⟩; exact .num
  | rc h1 h2 h3 h4 h5 ih => intro he; obtain ⟨e, rfl⟩ : ∃ f, e = f + 1 := ⟨e - 1, by omega⟩; exact .rc h1 h2 h3 h4 fun v hv => ih v hv (by omega)
theorem WK.mono {d e : Nat} {k : K} (h : WK d k) : d ≤ e → WK e k := by
  induction h generalizing e with
  | num => intro he; obtain ⟨e, rfl⟩ : ∃ f, e = f + 1 := ⟨e - 1, by omega⟩; exact .num
  | blk => intro he; obtain ⟨e, rfl⟩ : ∃ f, e = f + 1 := ⟨e - 1, by omega⟩; exact .blk
  | rc h1 h2 h3 h4 h5 ih => intro he; obtain ⟨e, rfl⟩ : ∃ f, e = f + 1 := ⟨e - 1, by omega⟩; exact .rc h1 h2 h3 h4 fun v hv => ih v hv (by omega)
/-! dicts of them -/
theorem fldD_cons (l : Str) (ls : List Str) (d : D) (ds : List D) : fldD (l :: ls) (d :: ds) = .tup [.str l, d] :: fldD ls ds := rfl
theorem pairsD_fld : ∀ {ls : List Str} {ds : List D}, ls.length = ds.length → pairsD (fldD ls ds) = some ((ls.map Sum.inr).zip ds)
  | [], [], _ => rfl
  | l :: ls, d :: ds, h => by
    rw [fldD_cons, pairsD, pairsD_fld (by simpa using h)]; rfl
theorem insK_new {ks : List Key} {k : Key} (h : k ∉ ks) : insK ks k = ks ++ [k] := by unfold insK; rw [if_neg h]
theorem insD_new {ks : List Key} {ds : List D} {k : Key} {d : D} (h : k ∉ ks) : insD ks ds k d = ds ++ [d] := by unfold insD; rw [if_neg h]
theorem mergeD_new : ∀ {ks2 ks : List Key} {ds2 ds : List D}, (ks ++ ks2).Nodup → ks2.length = ds2.length → mergeD ks ds (ks2.zip ds2) = (ks ++ ks2, ds ++ ds2)
  | [], ks, [], ds, _, _ => by simp [mergeD]
  | k :: ks2, ks, d :: ds2, ds, h, hl => by
    have hk : k ∉ ks := fun hk => by
      rw [List.nodup_append] at h
      exact h.2.2 k hk k (by simp) rfl
    rw [List.zip_cons_cons, mergeD, insK_new hk, insD_new hk, mergeD_new (by simpa using h) (by simpa using hl)]
    simp
theorem nodup_inr {ls : List Str} (h : ls.Nodup) : (ls.map (Sum.inr : Str → Key)).Nodup := by
  unfold List.Nodup at *
  rw [List.pairwise_map]
  exact h.imp fun {a b} n e => n (Sum.inr.inj e)
theorem cDict_fld {S : Sto} {ls : List Str} {ds : List D} (h : ls.length = ds.length) (hn : ls.Nodup) : cDict [.tup (fldD ls ds)] S = .ok (.dct (ls.map .inr) ds) S := by
  have e : itP S (.tup (fldD ls ds)) = some ((ls.map Sum.inr).zip ds) := pairsD_fld h
  have e2 := mergeD_new (ks := []) (ks2 := ls.map Sum.inr) (ds := []) (ds2 := ds) (by simpa using nodup_inr hn) (by simpa using h)
  simp only [cDict, e, e2, List.nil_append]
theorem getK_lkp : ∀ {ls : List Str} {vs : List Vl} (l : Str), ls.length = vs.length → getK (ls.map (Sum.inr : Str → Key)) (vds vs) (.inr l) = (lkp ls vs l).map vd
  | [], [], l, _ => rfl
  | x :: ls, v :: vs, l, h => by
    simp only [List.map_cons, vds, getK, lkp, Sum.inr.injEq]
    split
    · rfl
    · exact getK_lkp l (by simpa using h)
@[simp] theorem dget_dct {S : Sto} {ks : List Key} {ds : List D} {l : Str} : dget S (.dct ks ds) (.str l) = some (getK ks ds (.inr l)) := rfl
theorem opIx_dct {S : Sto} {ks : List Key} {ds : List D} {l : Str} {d : D} (h : getK ks ds (.inr l) = some d) : opIx (.dct ks ds) (.str l) S = .ok d S := by
  simp only [opIx, dget_dct, h]
theorem opNotIn_dct {S : Sto} {ks : List Key} {ds : List D} {l : Str} : opNotIn (.str l) (.dct ks ds) S = .ok (.bl (!(getK ks ds (.inr l)).isSome)) S := by
  simp only [opNotIn, inDa, dget_dct]
theorem isi_vd {S : Sto} (v : Vl) : opIsi "tuple" (vd v) S = .ok (.bl (match v with | .rc _ _ => true | .num _ => false)) S := by cases v <;> simp [vd]
theorem vds_len (vs : List Vl) : (vds vs).length = vs.length := by rw [vds_map]; simp
theorem kds_len (vs : List K) : (kds vs).length = vs.length := by rw [kds_map]; simp
theorem lkp_mem : ∀ {ls : List Str} {vs : List Vl} {l : Str} {v : Vl}, lkp ls vs l = some v → v ∈ vs
  | l :: ls, v :: vs, x, w, h => by
    simp only [lkp] at h
    split at h
    · cases h; simp
    · simp [lkp_mem h]
  | [], _, _, _, h => by cases h
  | _ :: _, [], _, _, h => by cases h
end PM

/-! PM, part 22: for the makers of kinds and values -/
namespace PM
open PySem L2
theorem comp_filtm {α : Type} {grd : Sto → Prop} {g : Gm} {t : Tm} {e : Em} {δ : Loc} {S : Sto} (i : α → D) (p : α → Bool) (f : α → D) (hg : grd S) (xs : List α) (acc : List D)
    (h : ∀ x ∈ xs, ∃ δ', g (i x) δ S = .ok δ' S ∧ t δ' S = .ok (p x) S ∧ (p x = true → e δ' S = .ok (f x) S)) : compM grd g t e δ acc (xs.map i) S = .ok (.lst (acc ++ (xs.filter p).map f)) S := by
  induction xs generalizing acc with
  | nil => rw [List.map_nil, compM_nil hg]; simp
  | cons x xs ih =>
    obtain ⟨δ', h1, h2, h3⟩ := h x (by simp)
    rw [List.map_cons, compM_cons hg, h1]
    simp only [R.quiet_ok, R.bind_ok, h2]
    cases hp : p x with
    | true =>
      rw [if_pos rfl, h3 hp]
      simp only [R.quiet_ok, R.bind_ok]
      rw [ih _ fun y hy => h y (by simp [hy]), List.filter_cons_of_pos hp]
      simp
    | false =>
      rw [if_neg (by simp), ih _ fun y hy => h y (by simp [hy]), List.filter_cons_of_neg (by simp [hp])]
theorem fldD_snoc {ls : List Str} {ds : List D} (h : ls.length = ds.length) (l : Str) (d : D) : fldD (ls ++ [l]) (ds ++ [d]) = fldD ls ds ++ [.tup [.str l, d]] := by
  rw [fldD, List.zipWith_append h]; rfl
theorem cutD_to {α : Type} {xs : List α} {i : Int} (h : 0 ≤ i) : cutD xs none (some i) = xs.take i.toNat := by
  obtain ⟨k, rfl⟩ : ∃ k : Nat, i = k := ⟨i.toNat, by omega⟩
  unfold cutD
  rw [HT.sIx_none, HT.sIx_nat, List.drop_zero, Nat.sub_zero]
  show xs.take (min k xs.length) = xs.take k
  rcases Nat.le_total k xs.length with h | h
  · rw [Nat.min_eq_left h]
  · rw [Nat.min_eq_right h, List.take_length, List.take_of_length_le h]
theorem cutD_from {α : Type} {xs : List α} {i : Int} (h : 0 ≤ i) : cutD xs (some i) none = xs.drop i.toNat := by
  obtain ⟨k, rfl⟩ : ∃ k : Nat, i = k := ⟨i.toNat, by omega⟩
  unfold cutD
  rw [HT.sIx_none, HT.sIx_nat]
  show (xs.drop (min k xs.length)).take (xs.length - min k xs.length) = xs.drop k
  rcases Nat.le_total k xs.length with h | h
  · rw [Nat.min_eq_left h, List.take_of_length_le (by simp)]
  · rw [Nat.min_eq_right h, Nat.sub_self, List.take_zero, List.drop_eq_nil_of_le h]
/-! lists of texts, lists of these -/
def wD (w : List Str) : D := .lst (w.map .str)
def WOk (w : List Str) : Prop := ∀ l ∈ w, IsLab l
theorem tps_strs {rc : List D → Option (List PyData)} {S : Sto} : ∀ w : List Str, tps rc S (w.map .str) = some (w.map .str)
  | [] => rfl
  | l :: w => by simp only [List.map_cons, tps, tp, tps_strs w, Option.bind_some, Option.map_some]
theorem tps_ws {rc : List D → Option (List PyData)} {S : Sto} : ∀ ws : List (List Str), tps rc S (ws.map wD) = some (ws.map fun w => .list (w.map .str))
  | [] => rfl
  | w :: ws => by simp only [List.map_cons, tps, wD, tp, tps_strs, Option.map_some, Option.bind_some]; simp only [tps_ws ws, Option.map_some]
theorem lay_strs : ∀ {w : List Str}, WOk w → PyData.canLayAll0 (w.map .str) = true ∧ PyData.depthAll (w.map .str) = 0
  | [], _ => ⟨rfl, rfl⟩
  | l :: w, h => by
    obtain ⟨h1, h2⟩ := lay_strs (w := w) fun x hx => h x (by simp [hx])
    simp only [List.map_cons, PyData.canLayAll0, PyData.depthAll, PyData.canLay0, PyData.depth, h1, h2]
    exact ⟨by rw [(h l (by simp)).ok]; rfl, rfl⟩
theorem lay_ws : ∀ {ws : List (List Str)}, (∀ w ∈ ws, WOk w) → PyData.canLayAll0 (ws.map fun w => .list (w.map .str)) = true ∧ PyData.depthAll (ws.map fun w => .list (w.map .str)) ≤ 1
  | [], _ => ⟨rfl, by decide⟩
  | w :: ws, h => by
    obtain ⟨h1, h2⟩ := lay_ws (ws := ws) fun x hx => h x (by simp [hx])
    obtain ⟨h3, h4⟩ := lay_strs (h w (by simp))
    simp only [List.map_cons, PyData.canLayAll0, PyData.depthAll, PyData.canLay0, PyData.depth, h1, h3, h4]
    exact ⟨rfl, by omega⟩
theorem eqv_strs : ∀ a b : List Str, PyData.eqvAll (a.map .str) (b.map .str) = decide (a = b)
  | [], [] => by simp [PyData.eqvAll]
  | [], y :: b => by simp [PyData.eqvAll]
  | x :: a, [] => by simp [PyData.eqvAll]
  | x :: a, y :: b => by
    simp only [List.map_cons, PyData.eqvAll, PyData.eqv, eqv_strs a b, List.cons.injEq, Bool.decide_and]
    congr 1
theorem sh_w {w : List Str} (h : WOk w) : SeqAt.shaped (.list (w.map .str)) = true := by
  obtain ⟨h1, h2⟩ := lay_strs h
  exact shaped_of (n := 1) h1 (by simp only [PyData.depth, h2]; decide) (by decide)
theorem sh_ws {ws : List (List Str)} (h : ∀ w ∈ ws, WOk w) : SeqAt.shaped (.list (ws.map fun w => .list (w.map .str))) = true := by
  obtain ⟨h1, h2⟩ := lay_ws h
  exact shaped_of (n := 2) h1 (by simp only [PyData.depth]; omega) (by decide)
theorem tpd_w {S : Sto} (w : List Str) : tpd S (wD w) = some (.list (w.map .str)) := by
  simp only [tpd, wD, tp, tps_strs]; rfl
theorem tpd_ws {S : Sto} {q : Nat} {ws : List (List Str)} (h : S[q]? = some (.lst (ws.map wD))) : tpd S (.ref q) = some (.list (ws.map fun w => .list (w.map .str))) := by
  simp only [tpd, tp, h, tpk, tps_ws]; rfl
theorem any_ws (w : List Str) : ∀ ws : List (List Str), ((ws.map fun w => PyData.list (w.map .str)).any fun z => PyData.eqv z (.list (w.map .str))) = decide (w ∈ ws)
  | [] => by simp
  | x :: ws => by
    simp only [List.map_cons, List.any_cons, any_ws w ws, PyData.eqv, eqv_strs, List.mem_cons, Bool.decide_or]
    rw [show decide (x = w) = decide (w = x) from by simp only [eq_comm]]
theorem opNotIn_ws {S : Sto} {q : Nat} {ws : List (List Str)} {w : List Str} (h : S[q]? = some (.lst (ws.map wD))) (hw : WOk w) (hs : ∀ w ∈ ws, WOk w) : opNotIn (wD w) (.ref q) S = .ok (.bl (!decide (w ∈ ws))) S := by
  have e : inDa S (wD w) (.ref q) = some (decide (w ∈ ws)) := by
    have h1 := tpd_w (S := S) w
    have h2 := tpd_ws h
    unfold wD at h1
    simp only [inDa, wD, dget, dkOf, dtOf, h, rdS, rdL, asL, isFlat, h1, h2]
    simp only [Bool.false_eq_true, if_false, sh_w hw, sh_ws hs, and_self, if_true, any_ws]
  simp only [opNotIn, e]
theorem cIndex_ws {S : Sto} {q : Nat} {ws : List (List Str)} {w : List Str} (h : S[q]? = some (.lst (ws.map wD))) (hw : WOk w) (hs : ∀ w ∈ ws, WOk w) (hm : w ∈ ws) : ∃ j : Nat, j < ws.length ∧ cIndex (.ref q) [wD w] S = .ok (.int j) S := by
  have h1 := any_ws w ws
  rw [decide_eq_true hm] at h1
  cases hf : (ws.map fun w => PyData.list (w.map .str)).findIdx? (fun z => PyData.eqv z (.list (w.map .str))) with
  | none =>
    rw [List.findIdx?_eq_none_iff] at hf
    rw [List.any_eq_true] at h1
    obtain ⟨x, hx, e⟩ := h1
    rw [hf x hx] at e; cases e
  | some j =>
    refine ⟨j, ?_, ?_⟩
    · rw [List.findIdx?_eq_some_iff_getElem] at hf
      obtain ⟨hl, _⟩ := hf
      simpa using hl
    · simp only [cIndex, tpd_w, tpd_ws h, sh_w hw, sh_ws hs, and_self, if_true, hf]
/-! a state beside a list of lists of texts -/
def KSt (S : Sto) (n q M : Nat) : Prop := ∃ (a b : Int) (ws : List (List Str)), 0 ≤ a ∧ S[n]? = some (.lst [.int a, .int b]) ∧ S[q]? = some (.lst (ws.map wD)) ∧ (∀ w ∈ ws, WOk w) ∧ ws.length + b.toNat ≤ M
/-- only n and q changed -/
def KNx (S T : Sto) (n q : Nat) : Prop := T.length = S.length ∧ ∀ i, i ≠ n → i ≠ q → T[i]? = S[i]?
theorem KNx.refl {S : Sto} {n q : Nat} : KNx S S n q := ⟨rfl, fun _ _ _ => rfl⟩
theorem KNx.trans {S T U : Sto} {n q : Nat} (a : KNx S T n q) (b : KNx T U n q) : KNx S U n q := ⟨b.1.trans a.1, fun i h1 h2 => (b.2 i h1 h2).trans (a.2 i h1 h2)⟩
theorem KNx.set1 {S : Sto} {n q : Nat} {o : MO} : KNx S (S.set n o) n q := ⟨by simp, fun i h1 _ => by rw [List.getElem?_set_ne (Ne.symm h1)]⟩
theorem KNx.set2 {S : Sto} {n q : Nat} {o : MO} : KNx S (S.set q o) n q := ⟨by simp, fun i _ h2 => by rw [List.getElem?_set_ne (Ne.symm h2)]⟩
theorem strsOf_id : ∀ xs : List Str, strsOf (xs.map D.str) = some xs
  | [] => rfl
  | x :: xs => by simp only [List.map_cons, strsOf, strsOf_id xs]; rfl
/-- a comprehension, indexed, with tests that may change objects -/
theorem comp_ofI {g : Gm} {t : Tm} {e : Em} {δ : Loc} {S : Sto} {ds : List D} {r : R D} (hL : compM (fun _ => True) g t e δ [] ds S = r) (I : Nat → List D → Sto → Prop) (h0 : I 0 [] S)
    (hs : ∀ (i : Nat) x acc S, ds[i]? = some x → I i acc S → ∃ δ' S1 k S2, g x δ S = .ok δ' S1 ∧ t δ' S1 = .ok k S2 ∧ (k = true → ∃ y S3, e δ' S2 = .ok y S3 ∧ I (i + 1) (acc ++ [y]) S3) ∧ (k = false → I (i + 1) acc S2)) : ∃ acc S', r = .ok (.lst acc) S' ∧ I ds.length acc S' := by
  subst hL
  suffices H : ∀ (ds acc : List D) (n : Nat) (S : Sto), I n acc S → (∀ (i : Nat) x acc S, ds[i]? = some x → I (n + i) acc S → ∃ δ' S1 k S2, g x δ S = .ok δ' S1 ∧ t δ' S1 = .ok k S2 ∧ (k = true → ∃ y S3, e δ' S2 = .ok y S3 ∧ I (n + i + 1) (acc ++ [y]) S3) ∧ (k = false → I (n + i + 1) acc S2)) →
      ∃ acc' S', compM (fun _ => True) g t e δ acc ds S = .ok (.lst acc') S' ∧ I (n + ds.length) acc' S' by
    have := H ds [] 0 S h0 (fun i x acc S hx hI => by
      have := hs i x acc S hx (by rwa [Nat.zero_add] at hI)
      rwa [Nat.zero_add])
    rwa [Nat.zero_add] at this
  intro ds
  induction ds with
  | nil => intro acc n S h0 _; exact ⟨acc, S, compM_nil trivial, h0⟩
  | cons x ds ih =>
    intro acc n S h0 hs
    obtain ⟨δ', S1, k, S2, h1, h2, h3, h4⟩ := hs 0 x acc S rfl h0
    rw [compM_cons trivial, h1]
    simp only [R.quiet_ok, R.bind_ok, h2]
    rw [List.length_cons, show n + (ds.length + 1) = n + 1 + ds.length by omega]
    have hs' : ∀ (i : Nat) x acc S, ds[i]? = some x → I (n + 1 + i) acc S → ∃ δ' S1 k S2, g x δ S = .ok δ' S1 ∧ t δ' S1 = .ok k S2 ∧ (k = true → ∃ y S3, e δ' S2 = .ok y S3 ∧ I (n + 1 + i + 1) (acc ++ [y]) S3) ∧ (k = false → I (n + 1 + i + 1) acc S2) := fun i y acc S hy hI => by
      have := hs (i + 1) y acc S (by simpa using hy) (by rwa [show n + (i + 1) = n + 1 + i by omega])
      rwa [show n + (i + 1) + 1 = n + 1 + i + 1 by omega] at this
    cases k with
    | true =>
      obtain ⟨y, S3, h5, h6⟩ := h3 rfl
      rw [if_pos rfl, h5]
      simp only [R.quiet_ok, R.bind_ok]
      exact ih _ (n + 1) S3 h6 hs'
    | false =>
      rw [if_neg Bool.false_ne_true]
      exact ih _ (n + 1) S2 (h4 rfl) hs'
theorem labs_at {ls : List Str} (h : ls.length = 4) {i : Int} (h0 : 0 ≤ i) (h1 : i < 4) : ∃ l ∈ ls, ∀ S, opIx (.lst (ls.map .str)) (.int i) S = .ok (.str l) S := opIx_map h0 (by omega)
end PM

/-! PM, part 23: dicts that are filled, the values of kinds -/
namespace PM
open PySem L2
section
variable {S : Sto} {m : Nat} {ks : List Key} {ds : List D} {l : Str} {d : D}
theorem opSet_new (h : S[m]? = some (.dK ks ds)) (hl : ks.length < sizeLine) (hn : Sum.inr l ∉ ks) : opSet (.ref m) (.str l) d S = .ok () (S.set m (.dK (ks ++ [.inr l]) (ds ++ [d]))) := by
  simp only [opSet, h, keyOf, if_pos hl, insK_new hn, insD_new hn]
theorem dget_ref (h : S[m]? = some (.dK ks ds)) : dget S (.ref m) (.str l) = some (getK ks ds (.inr l)) := by
  simp only [dget, dkOf, h, keyOf]
theorem opIx_dK (h : S[m]? = some (.dK ks ds)) (hg : getK ks ds (.inr l) = some d) : opIx (.ref m) (.str l) S = .ok d S := by
  simp only [opIx, dget_ref h, hg]
theorem opNotIn_dK (h : S[m]? = some (.dK ks ds)) : opNotIn (.str l) (.ref m) S = .ok (.bl (!(getK ks ds (.inr l)).isSome)) S := by
  simp only [opNotIn, inDa, dget_ref h]
theorem cListK_inr {ls : List Str} (h : S[m]? = some (.dK (ls.map .inr) ds)) (hl : ∀ l ∈ ls, IsLab l) : cListK [.ref m] S = .ok (.lst (ls.map .str)) S := by
  have hc : (ls.map (Sum.inr : Str → Key)).all keyFit = true := by
    rw [List.all_map, List.all_eq_true]
    intro x hx
    have := (hl x hx).2.2
    exact decide_eq_true (Nat.le_trans (Nat.le_trans this (by decide)) szl)
  simp only [cListK, h, hc, if_pos, List.map_map]
  rfl
end
theorem lkp_none : ∀ {ls : List Str} {vs : List Vl} {l : Str}, ls.length = vs.length → (lkp ls vs l = none ↔ l ∉ ls)
  | [], [], l, _ => by simp [lkp]
  | x :: ls, v :: vs, l, h => by
    simp only [lkp]
    split
    · rename_i e; simp [e]
    · rename_i e
      rw [lkp_none (by simpa using h)]
      have : ¬ l = x := fun q => e q.symm
      simp [this]
theorem lkp_map (f : Str → Vl) : ∀ {ls : List Str} {l : Str}, l ∈ ls → lkp ls (ls.map f) l = some (f l)
  | x :: ls, l, h => by
    simp only [List.map_cons, lkp]
    split
    · rename_i e; rw [e]
    · rename_i e
      rcases List.mem_cons.mp h with h | h
      · exact absurd h.symm e
      · exact lkp_map f h
theorem lkp_get : ∀ {ls : List Str} {vs : List Vl} {j : Nat} {l : Str} {v : Vl}, ls.Nodup → ls[j]? = some l → vs[j]? = some v → lkp ls vs l = some v
  | x :: ls, w :: vs, 0, l, v, _, h1, h2 => by
    simp only [List.getElem?_cons_zero, Option.some.injEq] at h1 h2
    simp only [lkp, h1, h2, if_pos]
  | x :: ls, w :: vs, j + 1, l, v, hn, h1, h2 => by
    simp only [List.getElem?_cons_succ] at h1 h2
    have hx : x ≠ l := fun e => by
      have := (List.nodup_cons.mp hn).1
      rw [e] at this
      exact this (List.mem_of_getElem? h1)
    simp only [lkp, if_neg hx]
    exact lkp_get (List.nodup_cons.mp hn).2 h1 h2
  | [], _, j, _, _, _, h1, _ => by simp at h1
  | _ :: _, [], j, _, _, _, _, h2 => by simp at h2
theorem isBs_of {ls' : List Str} {vs' : List Vl} : ∀ {ls : List Str} {ks : List K}, (∀ (j : Nat) l k, ls[j]? = some l → ks[j]? = some k → ∃ v, lkp ls' vs' l = some v ∧ isB k v = true) → isBs ls ks ls' vs' = true
  | [], _, _ => by rw [isBs]; intros; contradiction
  | _ :: _, [], _ => by rw [isBs]; intros; contradiction
  | l :: ls, k :: ks, h => by
    obtain ⟨v, h1, h2⟩ := h 0 l k rfl rfl
    rw [isBs, h1]
    simp only [h2, Bool.true_and]
    exact isBs_of fun j l k h1 h2 => h (j + 1) l k (by simpa using h1) (by simpa using h2)
theorem WV.more {m m' d : Nat} {v : Vl} (hm : m ≤ m') (h : WV m d v) : WV m' d v := by
  induction h with
  | num => exact .num
  | rc h1 h2 h3 h4 h5 ih => exact .rc h1 (by omega) h3 h4 ih
theorem vds_app (a b : List Vl) : vds (a ++ b) = vds a ++ vds b := by simp [vds_map]
theorem isLab_z : IsLab (Str.ofString "zzzzzzzz") := lab_known (by decide +kernel) (by decide +kernel) (by decide +kernel)
theorem isLab_a : IsLab (Str.ofString "a") := lab_known (by decide +kernel) (by decide +kernel) (by decide +kernel)
theorem vd_cl {m d n : Nat} {v : Vl} (h : WV m d v) : D.cl n (vd v) = true := by
  induction h with
  | num => rfl
  | rc h1 h2 h3 h4 h5 ih =>
    rename_i d ls vs
    simp only [vd, D.cl]
    refine cls_all fun x hx => ?_
    obtain ⟨l, y, e, _, hy⟩ := mem_fldD hx
    rw [vds_map] at hy
    obtain ⟨b, hb, e'⟩ := List.mem_map.mp hy
    subst e e'
    simp only [D.cl, D.cls, ih b hb]; rfl
/-- the values by the sorted labels -/
def valOf (fl : List Str) (fv : List Vl) (l : Str) : Vl := (lkp fl fv l).getD (.num 0)
def sortV (fl : List Str) (fv : List Vl) : Vl := .rc (sortStr fl) ((sortStr fl).map (valOf fl fv))
theorem lkp_some {fl : List Str} {fv : List Vl} {l : Str} (h : fl.length = fv.length) (hl : l ∈ fl) : lkp fl fv l = some (valOf fl fv l) := by
  unfold valOf
  cases e : lkp fl fv l with
  | none => exact absurd hl ((lkp_none h).mp e)
  | some v => rfl
theorem sortV_wv {m d : Nat} {fl : List Str} {fv : List Vl} (h : fl.length = fv.length) (hm : fv.length ≤ m) (hn : fl.Nodup) (hl : ∀ l ∈ fl, IsLab l) (hv : ∀ v ∈ fv, WV m d v) : WV m (d + 1) (sortV fl fv) := by
  refine .rc (by simp) ?_ ((sortStr_perm fl).nodup_iff.mpr hn) (fun l hx => hl l ((sortStr_perm fl).mem_iff.mp hx)) fun v hx => ?_
  · rw [List.length_map, (sortStr_perm fl).length_eq, h]; exact hm
  · obtain ⟨l, hl, e⟩ := List.mem_map.mp hx
    subst e
    exact hv _ (lkp_mem (lkp_some h ((sortStr_perm fl).mem_iff.mp hl)))
theorem sortV_vd (fl : List Str) (fv : List Vl) : vd (sortV fl fv) = .tup ((sortStr fl).map fun l => .tup [.str l, vd (valOf fl fv l)]) := by
  simp only [sortV, vd, vds_map, List.map_map, fldD]
  congr 1
  generalize sortStr fl = xs
  induction xs with
  | nil => rfl
  | cons x xs ih => simp only [List.map_cons, List.zipWith_cons_cons, ih]; rfl
theorem sortV_lkp {fl : List Str} {fv : List Vl} {l : Str} (h : fl.length = fv.length) (hl : l ∈ fl) : lkp (sortStr fl) ((sortStr fl).map (valOf fl fv)) l = lkp fl fv l := by
  rw [lkp_map _ ((sortStr_perm fl).mem_iff.mpr hl), lkp_some h hl]
end PM

/-! PM, part 24: values bent -/
namespace PM
open PySem L2
@[simp] theorem newLst_5 {S : Sto} {a b c d e : D} : newLst [a, b, c, d, e] S = .ok (.lst [a, b, c, d, e]) S := newLst_ok (by show 5 ≤ sizeLine; exact Nat.le_trans (by decide) szl)
theorem pl_vd {m d : Nat} {v : Vl} (h : WV m d v) : pl (2 * d) (vd v) = true := by
  induction h with
  | num => rename_i d n; cases h : 2 * (d + 1) <;> rfl
  | rc h1 h2 h3 h4 h5 ih =>
    rename_i d ls vs
    rw [show 2 * (d + 1) = (2 * d + 1) + 1 by omega]
    simp only [vd, pl]
    refine pl_all fun x hx => ?_
    obtain ⟨l, y, e, hl, hy⟩ := mem_fldD hx
    rw [vds_map] at hy
    obtain ⟨b, hb, e'⟩ := List.mem_map.mp hy
    subst e e'
    simp only [pl, List.all_cons, List.all_nil, Bool.and_true, Bool.and_eq_true]
    exact ⟨(h4 l hl).ok, ih b hb⟩
theorem eqD_tup_nil {S : Sto} {n : Nat} {ds : List D} (h : pl n (.tup ds) = true) (hn : n ≤ 64) : eqD S (.tup ds) (.tup []) = some (decide (ds = [])) := by
  obtain ⟨n, rfl⟩ : ∃ m, n = m + 1 := by cases n with
    | zero => cases h
    | succ n => exact ⟨n, rfl⟩
  obtain ⟨es, h1, h2, h3⟩ := tpl_of (fun d => pl_tp d) ds h
  have e1 : tpd S (.tup ds) = some (.tuple es) := by simp only [tpd, tp, h1]; rfl
  have e2 : tpd S (.tup []) = some (.tuple []) := rfl
  have h4 : PyData.canLay0 (.tuple es) = true := h2
  have h5 : (PyData.tuple es).depth ≤ n + 1 := by simp only [PyData.depth]; omega
  unfold eqD
  simp only [scalD, e1, e2]
  rw [if_pos ⟨shaped_of h4 h5 hn, by decide⟩]
  cases ds with
  | nil =>
    have := h1 (fun _ => none) S
    simp only [tps, Option.some.injEq] at this
    subst this; rfl
  | cons d ds =>
    have := h1 (fun _ => none) S
    simp only [tps] at this
    cases h6 : tp (fun _ => none) S d with
    | none => rw [h6] at this; cases this
    | some e =>
      rw [h6, Option.bind_some, Option.map_eq_some_iff] at this
      obtain ⟨es', _, e'⟩ := this
      subst e'
      rfl
theorem cDictR_lst {S : Sto} {ls : List Str} {ds : List D} (h : ls.length = ds.length) (hn : ls.Nodup) : cDictR [.lst (fldD ls ds)] S = .ok (.ref S.length) (S ++ [.dK (ls.map .inr) ds]) := by
  have e : itP S (.lst (fldD ls ds)) = some ((ls.map Sum.inr).zip ds) := by
    simp only [itP, rdL, asL, Option.bind_some]; exact pairsD_fld h
  have e2 := mergeD_new (ks := []) (ks2 := ls.map Sum.inr) (ds := []) (ds2 := ds) (by simpa using nodup_inr hn) (by simpa using h)
  simp only [cDictR, e, e2, List.nil_append]
theorem fld_zip {ls : List Str} {vs : List Vl} (h : ls.length = vs.length) : fldD ls (vds vs) = (ls.zip vs).map fun p => .tup [.str p.1, vd p.2] := by
  rw [fldD, vds_map, List.zipWith_map_right, List.zip, List.map_zipWith]
theorem fld_of_zip (ps : List (Str × Vl)) : ps.map (fun p => D.tup [.str p.1, vd p.2]) = fldD (ps.map (·.1)) (vds (ps.map (·.2))) := by
  induction ps with
  | nil => rfl
  | cons p ps ih => simp only [List.map_cons, vds, fldD_cons, ih]
theorem fldD_cut {ls : List Str} {vs : List Vl} {i : Nat} {l : Str} {v w : Vl} (h : ls.length = vs.length) (h1 : ls[i]? = some l) (h2 : vs[i]? = some v) :
    (fldD ls (vds vs)).take i ++ [.tup [.str l, vd w]] ++ (fldD ls (vds vs)).drop (i + 1) = fldD ls (vds (vs.set i w)) := by
  induction ls generalizing vs i with
  | nil => cases h1
  | cons x ls ih =>
    cases vs with
    | nil => cases h2
    | cons y vs =>
      cases i with
      | zero =>
        simp only [List.getElem?_cons_zero, Option.some.injEq] at h1 h2
        subst h1 h2
        simp [vds, fldD_cons]
      | succ i =>
        simp only [List.getElem?_cons_succ] at h1 h2
        have := ih (by simpa using h) h1 h2
        simp only [vds, fldD_cons, List.take_succ_cons, List.cons_append, List.drop_succ_cons, List.set_cons_succ, this]
theorem loopT_nil {b : D → Sm} {δ : Loc} {S : Sto} : loopM (fun _ => True) b [] δ S = .nx δ S := by rw [loopM, if_pos trivial]
theorem loopT_cons {b : D → Sm} {x : D} {xs : List D} {δ : Loc} {S : Sto} : loopM (fun _ => True) b (x :: xs) δ S = match b x δ S with
    | .nx δ' S' => loopM (fun _ => True) b xs δ' S'
    | .ct δ' S' => loopM (fun _ => True) b xs δ' S'
    | .bk δ' S' => .nx δ' S'
    | r => r := by rw [loopM, if_pos trivial] <;> rfl
end PM

/-! PM, part 25: len(set(texts)) -/
namespace PM
open PySem PySem.Spec L2 PyProof.Rows
/-- how many different ones among the first i -/
def ndist (zs : List Str) : Nat → Nat
  | 0 => 0
  | i + 1 => if (zs.take i).any (· == zs.getD i Str.empty) then ndist zs i else ndist zs i + 1
theorem ndist_le (zs : List Str) : ∀ i, ndist zs i ≤ i
  | 0 => Nat.le_refl _
  | i + 1 => by
    have := ndist_le zs i
    unfold ndist; split <;> omega
def memT (zs : List Str) (i : Nat) : Str → Bool := fun z => (zs.take i).any (· == z)
theorem memT_succ (zs : List Str) {i : Nat} (h : i < zs.length) (z : Str) : (memT zs i z || decide (z = zs.getD i Str.empty)) = memT zs (i + 1) z := by
  have e : zs.take (i + 1) = zs.take i ++ [zs.getD i Str.empty] := by
    rw [List.take_add_one, List.getElem?_eq_getElem h, List.getD_eq_getElem?_getD, List.getElem?_eq_getElem h]; rfl
  unfold memT
  rw [e, List.any_append]
  simp only [List.any_cons, List.any_nil, Bool.or_false]
  congr 1
  by_cases q : z = zs.getD i Str.empty
  · rw [q]; simp
  · rw [decide_eq_false q]
    exact (beq_eq_false_iff_ne.mpr fun e => q e.symm).symm
section
variable {pr : Program} {wd : World} {B : Around} {R : Result → Shared → Prop} {it : Addr} {fp wr : List Addr} {Gn : Array GenState → Array GenState → Prop} {m : Nat} {Pi : Nat → Value → Prop} {Si : Nat → Shared → Prop}
theorem set_loop (W : WalksS pr wd B.in1 it fp wr Gn m Pi Si) {d : Addr} (hd : d ∉ fp) {zs : List Str} (hz : zs.length = m) (hb : m + 1 < scanBound) (hv : ∀ i v, Pi i v → ∃ t, v = .str (zs.getD i Str.empty) t) :
    ∀ (j i : Nat) (u : Shared), i + j = m → Si i u → u.heap.SetOf (PySem.strKind pr wd) d (memT zs i) (ndist zs i) →
      (∀ u', Moved (d :: wr) Gn u u' → u'.heap.SetOf (PySem.strKind pr wd) d (memT zs m) (ndist zs m) → R (.ok (.ret .none)) u') → codeAny (model pr wd) B (.builtin "set.update.loop" ⟨[.ref d, .ref it], []⟩) R u := by
  have nw : d ∉ wr := fun z => hd (W.sub _ z)
  have le : ∀ b ∈ wr, b ∈ d :: wr := fun b z => List.mem_cons_of_mem _ z
  have mv : ∀ {u u' : Shared} {S n}, u.heap.SetOf (PySem.strKind pr wd) d S n → Moved wr Gn u u' → u'.heap.SetOf (PySem.strKind pr wd) d S n := fun k q => let ⟨o, es, ep, t, ho, r⟩ := k; ⟨o, es, ep, t, q.heap d _ nw ho, r⟩
  intro j
  induction j with
  | zero =>
    intro i u hi st k fin
    obtain rfl : i = m := hi
    refine codeAny_builtin PyProof.Rows.F.entry_set_update_loop (by
      rw [Around.under_plainId PyProof.Rows.F.plain_set_update_loop _]
      exact wpAny_bind (W.done u _ _ st fun u' q => wpAny_pure (fin u' (q.mono le) (mv k q))))
  | succ j ih =>
    intro i u hi st k fin
    have lt : i < m := by omega
    refine codeAny_builtin PyProof.Rows.F.entry_set_update_loop ?_
    rw [Around.under_plainId PyProof.Rows.F.plain_set_update_loop _]
    refine wpAny_bind (m := pyNext (.ref it)) (W.item i u _ _ lt st fun v u' hP st' q => ?_)
    obtain ⟨t, rfl⟩ := hv i v hP
    refine wpAny_bind (m := holding [Value.str (zs.getD i Str.empty) t] (setAdd d (.str (zs.getD i Str.empty) t))) (wpAny_holding ?_)
    unfold setAdd
    refine wpAny_holding (wpAny_bind ((PySem.strKind pr wd).pyHash (k := zs.getD i Str.empty) (strKind_is _ _ _ _) ?_))
    have := ndist_le zs i
    refine wpAny_setAddHashed_of (knd := PySem.strKind pr wd) (s := { u' with toks := u'.toks + 1 }) (strKind_is _ _ _ _) rfl (show u'.heap.SetOf _ _ _ _ from mv k q) (by omega) fun h' sb k2 => ?_
    have k3 : h'.SetOf (PySem.strKind pr wd) d (memT zs (i + 1)) (ndist zs (i + 1)) := PyProof.Rows.SetOf_congr k2 (memT_succ zs (by omega)) rfl
    refine wpAny_pure ⟨plainId_quiet PyProof.Rows.F.plain_set_update_loop _, ih (i + 1) _ (by omega) (W.frame _ u' _ _ st' (Nat.le_succ _) fun b z o e => (sb.2 b fun y => hd (y ▸ z)).trans e) k3 fun u'' q2 k4 => fin u'' ?_ k4⟩
    exact Moved.trans W.gtrans ((q.mono le).then_heap (Nat.le_succ _) fun b o z e => (sb.2 b fun y => z (y ▸ List.mem_cons_self)).trans e) q2
end
section
variable {prog : Program} {w : World} {A : Around} {E : Value → Shared → Prop} {s : Shared}
set_option maxHeartbeats 3200000 in
theorem set_of_texts {l : Addr} {its : Array Value} {zs : List Str} {Q : Value → Shared → Prop} (hA : A.handled = none) (hl : s.heap.IsList l its) (hi : StrsAre its.toList zs) (hb : zs.length + 1 < scanBound)
    (fin : ∀ (h' : Heap) (tk : Nat), h'.SetOf (PySem.strKind prog w) s.heap.objs.size (memT zs zs.length) (ndist zs zs.length) → (∀ b o, b < s.heap.objs.size → s.heap.get? b = some o → h'.get? b = some o) → Q (.ref s.heap.objs.size) { s with heap := h', toks := tk }) :
    wpAny (model prog w) A (call (.type "set") [.ref l]) Q E s := by
  have mro := PySem.F.called_set.mro
  obtain ⟨_, _, mro⟩ := mro
  have made := PySem.F.called_set.made
  have sub := PySem.F.called_set.sub
  refine wpAny_call (codeAny_of_tree (show wpAny _ _ (callAny (.type "set") _) _ _ _ from wpAny_pure ⟨Code.quiet_builtin _ (by decide +kernel), codeAny_builtin PySem.F.entry_type_call ?_⟩))
  rw [Around.under_plain (weight_type_call_type "set" [.ref l] []) rfl]
  have nt := PySem.F.called_set.notType
  have cc := PySem.F.called_set.canCreate
  have tc := PySem.F.typeCall_set_1 (.ref l)
  repeat any_goals (first | assumption | wp_step)
  refine codeAny_mono (code_set_new_1 (.ref l) (E := E) (Q₁ := fun ob s1 => ∃ f : Bool, ob = .ref s.heap.objs.size ∧ s1 = { s with heap := s.heap.push { cls := .type "set", dict := none, data := .set #[] 0 (.fresh 0 0 f) } }) fun f => ⟨f, rfl, rfl⟩) fun r s1 hr => ?_
  rcases r with ⟨e⟩ | ⟨fl⟩
  · exact hr
  cases fl
  case ret ob =>
    obtain ⟨f, e1, e2⟩ := hr
    subst e1 e2
    generalize hN : s.heap.push { cls := .type "set", dict := none, data := .set #[] 0 (.fresh 0 0 f) } = N
    have gN : N.get? s.heap.objs.size = some { cls := .type "set", dict := none, data := .set #[] 0 (.fresh 0 0 f) } := by rw [← hN]; exact Heap.get?_push_size _ rfl
    have old : ∀ b o, s.heap.get? b = some o → N.get? b = some o := fun b o e => by rw [← hN]; exact Heap.get?_push_of_some _ e
    have sN : N.objs.size = s.heap.objs.size + 1 := by rw [← hN, Heap.size_push]
    have ty : Shared.TypeIs { s with heap := N } (.ref s.heap.objs.size) "set" := ⟨_, gN, rfl⟩
    have il := PySem.F.called_set.init.lookup
    have ib := PySem.F.called_set.init.bind (.ref s.heap.objs.size)
    repeat any_goals (first | assumption | wp_step)
    refine codeAny_mono (codeAny_call_builtin (R := wants (fun r s2 => r = .none ∧ ∃ h' tk, s2 = { s with heap := h', toks := tk } ∧ h'.SetOf (PySem.strKind prog w) s.heap.objs.size (memT zs zs.length) (ndist zs zs.length) ∧
      (∀ b o, b < s.heap.objs.size → s.heap.get? b = some o → h'.get? b = some o)) E) PySem.F.called_set.init.plain PySem.F.entry_set_init (check_set_init_1 ty ?_)) fun r2 s2 hr2 => ?_
    · obtain ⟨⟨cl, dd, dat, sl⟩, ho, hc, n, hdat⟩ := id hl
      simp only at hc hdat
      subst hc hdat
      have ho2 := old _ _ ho
      have sb1 := PySem.F.sub_list_set
      have sb2 := PySem.F.sub_list_frozenset
      have nd : (Value.type "list" == Value.type "dict") = false := by decide
      have hl2 : N.IsList l its := ⟨_, ho2, rfl, n, rfl⟩
      unfold Builtin.«set.__init__» noKeywords Builtin.Frozenset.updateFrom
      generalize hPI : pyIter = PI
      wp_walk
      subst hPI
      refine wpAny_pyIter_list hl2 (wpAny_bind (wpAny_runValue ?_))
      have lt : l < s.heap.objs.size := Heap.lt_size ho
      have ne : l ≠ N.objs.size := fun e => Nat.ne_of_lt (Nat.lt_succ_of_lt lt) (e.trans sN)
      have hz : zs.length = its.size := by rw [← StrsAre.len_eq hi, Array.length_toList]
      refine set_loop ((Walks.list (by simp [hA]) _ l ne its).toS) (d := s.heap.objs.size) (by simp only [List.mem_cons, List.mem_singleton, List.not_mem_nil, or_false, not_or]; exact ⟨fun e => Nat.ne_of_lt (Nat.lt_succ_self _) (e.trans sN), Nat.ne_of_gt lt⟩) hz (by rw [← hz]; exact hb)
        (fun i v hv => SS.strs_at hi i v (by rw [Array.getElem?_toList]; exact hv)) its.size 0 _ (by omega) ⟨⟨_, Heap.get?_push_size _ rfl, rfl, rfl⟩, hl2.push _⟩ ?beginS ?endS
      case beginS => exact PyProof.Rows.SetOf_congr ((PyProof.Rows.setObjOf_fresh (knd := PySem.strKind prog w) f).setOf (Heap.get?_push_of_some _ gN) (by unfold scanBound; omega)) (fun _ => rfl) rfl
      case endS =>
        intro u mv k
        rw [← hz] at k
        obtain ⟨h', g', d', tk', os'⟩ := u
        have eg : g' = s.gens := mv.gens
        have ed : d' = s.drawn := mv.drawn
        have eo : os' = s.os := mv.os
        subst eg ed eo
        refine wpAny_pure (wpAny_pure ⟨rfl, h', tk', rfl, k, fun b o hb e => mv.heap b o ?_ (Heap.get?_push_of_some _ (old b o e))⟩)
        simp only [List.mem_cons, List.mem_singleton, List.not_mem_nil, or_false, not_or]
        exact ⟨Nat.ne_of_lt hb, fun e => Nat.ne_of_lt (Nat.lt_succ_of_lt hb) (e.trans sN)⟩
    · rcases r2 with ⟨e⟩ | ⟨fl⟩
      · exact hr2
      cases fl
      case ret r =>
        obtain ⟨e1, h', tk, e2, k, old2⟩ := hr2
        subst e1 e2
        repeat any_goals (first | assumption | wp_step)
        exact fin _ _ k old2
      all_goals exact hr2.elim
  all_goals exact hr.elim
end
section
variable {X : Cx}
theorem pe_lenSetT {a : Expr} {ta : TE} {p p2 q pos : Pos} (hc : X.calm = true) (hg : Gl X "len") (hm : X.mg "len" = none) (hg2 : Gl X "set") (hm2 : X.mg "set" = none) (ha : PE X a ta)
    (na : starEach [a] X.env = (false, eval a X.env) :: starEach [] X.env := by rfl) : PE X (.Call (.Name "len" p) [.Call (.Name "set" p2) [a] [] q] [] pos)
      (fun σ H Q => ta σ H fun x H1 => ∃ (l : Addr) (zs : List Str), x = .ref l ∧ SqL X.K H1 l (zs.map V.str) ∧ zs.length ≤ 4000 ∧ Q (.int (ndist zs zs.length : Nat)) H1) := .mk fun pins s σ H Q I h => by
  refine Call_ (ld_blt I hg hm boot_len (PyProof.Rows.callWith_builtin1 (PyProof.Rows.args_cons ?_ rfl) rfl rfl))
  refine Call_ (ld_blt I hg2 hm2 boot_set (PyProof.Rows.callWith_type1 (PyProof.Rows.args_cons (thn (ha.run pins s σ H _ I h) fun v s1 ⟨x, H1, I1, r1, l, zs, e, hq, hl, q1⟩ => PyProof.Rows.args_nil ?_) na) na rfl))
  subst e
  cases r1
  obtain ⟨is, r, pl, hz⟩ := I1.list hq
  refine set_of_texts (I1.ok.hd hc) pl.isList (zs := zs) (by simpa using strsAre_of r) (by unfold scanBound; omega) fun h' tk k old => PyProof.Rows.args_nil ?_
  obtain ⟨o, es, ep, t, ho, hex, hd, _, _, _, hf, hn⟩ := k
  have I2 : Inv X pins σ H1 { s1 with heap := h', toks := tk } := I1.kept fun b o e => old b o (Heap.lt_size e) e
  have := ndist_le zs zs.length
  exact call_len_set ho hex hd hf (by rw [hn]; omega) ⟨.int (ndist zs zs.length : Nat), H1, I2.tok _, ⟨_, by rw [hn]⟩, q1⟩
end
/-- len(set(e)) of texts -/
def mLenSet (a : Em) : Em := fun δ S => (a δ S).bind fun d S1 => match rdL S1 d with
  | some es => match strsOf es with
    | some zs => if zs.length ≤ 4000 then .ok (.int (ndist zs zs.length : Nat)) S1 else .stuck
    | none => .stuck
  | none => .stuck
theorem de_lenSet {X : Cx} {W : WX} {a : Expr} {ma : Em} {p p2 q pos : Pos} (hc : X.calm = true) (hg : Gl X "len") (hm : X.mg "len" = none) (hg2 : Gl X "set") (hm2 : X.mg "set" = none) (ha : DE X W a ma)
    (na : starEach [a] X.env = (false, eval a X.env) :: starEach [] X.env := by rfl) : DE X W (.Call (.Name "len" p) [.Call (.Name "set" p2) [a] [] q] [] pos) (mLenSet ma) :=
  pe_imp (pe_lenSetT hc hg hm hg2 hm2 ha na) fun σ H Q h => t_bind h fun ι S δ d v H1 rp rs rd g => by
    split at g
    · rename_i es hes
      obtain ⟨a, vs, e, hq, h2, z⟩ := rdL_ok rp rd hes
      subst e
      split at g
      · rename_i zs hzs
        split at g
        · rename_i hl
          have ev := strsOf_ok h2 hzs
          subst ev
          exact ⟨a, zs, rfl, hq, hl, g.here rp (by simp only [RD])⟩
        · exact g.elim
      · exact g.elim
    · exact g.elim
end PM

/-! PM, part 26: {i: j} -/
namespace PM
open PySem PySem.Spec L2 PyProof.Rows
section
variable {X : Cx} {W : WX} {pos : Pos}
def mDispI (i j : Int) : Em := fun _ S => .ok (.ref S.length) (S ++ [.dK [.inl i] [.int j]])
@[simp] theorem mDispI_eq {i j : Int} {δ : PM.Loc} {S : Sto} : mDispI i j δ S = .ok (.ref S.length) (S ++ [.dK [.inl i] [.int j]]) := (rfl)
theorem pe_negC {a : Expr} {i : Int} (h : PE X a (tC (.int i))) : PE X (.UnaryOp .USub a pos) (tC (.int (-i))) := pe_imp (pe_un un_neg h) fun σ H Q q => ⟨i, rfl, q⟩
theorem de_dispI {k v : Expr} {i j : Int} (hk : PE X k (tC (.int i))) (hv : PE X v (tC (.int j))) : DE X W (.Dict [some k] [v] pos) (mDispI i j) :=
  pe_imp (pe_disp (pps_cons hk hv pps_nil) rfl rfl (by simp) (by simp)) fun σ H Q ⟨ι, S, δ, rp, rs, g⟩ p hp => by
    have q2 := rep_newRef (m := .dK [.inl i] [.int j]) (u := .dK [(.inl i, .int j)]) rp hp ⟨[.int j], upd_same, rfl, by show 1 ≤ sizeLine; exact Nat.le_trans (by decide) szl, .cons (by simp only [RD]) .nil⟩
    refine ⟨upd_same, [(.inl i, .int j)], rfl, by simp, ?_⟩
    rw [upd_upd]
    exact G.at g (Step.newRef hp) q2.1 q2.2
end
end PM

/-! PM, part 27: things, and what a kind is (plain) -/
namespace PM
open PySem L2
/-- plain things of a depth, of bounded width -/
def th : Nat → D → Bool
  | _, .non => true
  | _, .bl _ => true
  | _, .int _ => true
  | _, .str s => PyData.strOk s && decide (s.length ≤ 1000)
  | n + 1, .tup ds => decide (ds.length ≤ 1000) && ds.all (th n)
  | n + 1, .lst ds => decide (ds.length ≤ 1000) && ds.all (th n)
  | _, _ => false
theorem blsOf_map {α : Type} (f : α → Bool) : ∀ xs : List α, blsOf (xs.map fun x => D.bl (f x)) = some (xs.map f)
  | [] => rfl
  | x :: xs => by simp only [List.map_cons, blsOf, blsOf_map f xs]; rfl
theorem cAll_map {α : Type} {S : Sto} (f : α → Bool) (xs : List α) : cAll [.lst (xs.map fun x => D.bl (f x))] S = .ok (.bl (xs.all f)) S := by
  simp only [cAll, cBls, rdL, asL, blsOf_map, List.all_map]
  rfl
def alphaS : Str := Str.ofString "abcdefghijklmnopqrstuvwxyz"
def azS (s : Str) : Bool := s.cps.toList.all fun c => decide (c ∈ alphaS.cps.toList)
def isWordD : D → Bool
  | .str s => decide (1 ≤ s.length) && (decide (s.length ≤ 8) && azS s)
  | _ => false
theorem opIn_sign {S : Sto} {c : Nat} {z : Str} : opIn (.str ⟨#[c]⟩) (.str z) S = .ok (.bl (decide (c ∈ z.cps.toList))) S := by
  simp only [opIn, inDa]
def isPairD : D → Bool
  | .tup [a, _] => isWordD a
  | _ => false
def isWholeD : D → Bool
  | .int _ => true
  | _ => false
def isRestD : D → Bool
  | .non => true
  | .int i => decide (0 ≤ i)
  | _ => false
def labD : D → Str
  | .tup (.str s :: _) => s
  | _ => Str.empty
def sndD : D → D
  | .tup [_, b] => b
  | _ => .non
/-- rising labels, as told by sorted and set -/
def ascS (ls : List Str) : Bool := decide (ls = sortStr ls) && decide (ndist ls ls.length = ls.length)
def rowIn (f : D → Bool) : D → Bool
  | .tup ps => ps.all isPairD && (ascS (ps.map labD) && ps.all fun p => f (sndD p))
  | _ => false
def blankIn : List D → Bool
  | [.int i] => decide (0 ≤ i)
  | _ => false
def recIn (f : D → Bool) : List D → Bool
  | [fs, r] => isRestD r && rowIn f fs
  | _ => false
def kindIn : Nat → D → Bool
  | n + 1, .tup (.str s :: r) => if s = Str.ofString "number" then r.isEmpty else if s = Str.ofString "blank" then blankIn r else decide (s = Str.ofString "record") && recIn (kindIn n) r
  | _, _ => false
theorem az_iff {s : Str} : azS s = true ↔ ∀ x ∈ s.cps.toList, 97 ≤ x ∧ x < 123 := by
  unfold azS
  rw [List.all_eq_true]
  have : ∀ c, c ∈ alphaS.cps.toList ↔ 97 ≤ c ∧ c < 123 := fun c => by
    rw [show alphaS.cps.toList = List.range' 97 26 from alpha_cps, List.mem_range'_1]
  constructor
  · intro h x hx; exact (this x).mp (of_decide_eq_true (h x hx))
  · intro h x hx; exact decide_eq_true ((this x).mpr (h x hx))
theorem word_lab {s : Str} : isWordD (.str s) = true ↔ IsLab s := by
  simp only [isWordD, Bool.and_eq_true, decide_eq_true_eq, az_iff, IsLab]
  constructor
  · rintro ⟨a, b, c⟩; exact ⟨c, a, b⟩
  · rintro ⟨c, a, b⟩; exact ⟨a, b, c⟩
theorem pair_is {d : D} (h : isPairD d = true) : ∃ s b, d = .tup [.str s, b] ∧ IsLab s := by
  unfold isPairD at h
  split at h
  · rename_i a b
    cases a <;> first
      | (cases h; done)
      | exact ⟨_, b, rfl, word_lab.mp h⟩
  · cases h
theorem eqD_w {S : Sto} {a b : List Str} (ha : WOk a) (hb : WOk b) : eqD S (.lst (a.map .str)) (.lst (b.map .str)) = some (decide (a = b)) := by
  have h1 := tpd_w (S := S) a
  have h2 := tpd_w (S := S) b
  unfold wD at h1 h2
  unfold eqD
  simp only [scalD, h1, h2, sh_w ha, sh_w hb, and_self, if_true, PyData.eqv, eqv_strs]
theorem sort_wok {a : List Str} (h : WOk a) : WOk (sortStr a) := fun x hx => h x ((sortStr_perm a).mem_iff.mp hx)
theorem th_mono : ∀ {n m : Nat} (d : D), n ≤ m → th n d = true → th m d = true
  | n, m, .non, _, _ => by cases m <;> rfl
  | n, m, .bl _, _, _ => by cases m <;> rfl
  | n, m, .int _, _, _ => by cases m <;> rfl
  | n, m, .str _, _, h => by cases n <;> cases m <;> exact h
  | n + 1, m + 1, .tup ds, l, h => by
    simp only [th, Bool.and_eq_true, List.all_eq_true] at h ⊢
    exact ⟨h.1, fun d hd => th_mono d (by omega) (h.2 d hd)⟩
  | n + 1, m + 1, .lst ds, l, h => by
    simp only [th, Bool.and_eq_true, List.all_eq_true] at h ⊢
    exact ⟨h.1, fun d hd => th_mono d (by omega) (h.2 d hd)⟩
  | n + 1, 0, .tup ds, l, h => by omega
  | n + 1, 0, .lst ds, l, h => by omega
  | 0, _, .tup ds, _, h => by cases h
  | 0, _, .lst ds, _, h => by cases h
  | 0, _, .scr ds, _, h => by cases h
  | n + 1, _, .scr ds, _, h => by cases h
  | 0, _, .dct _ _, _, h => by cases h
  | 0, _, .ref _, _, h => by cases h
  | n + 1, _, .dct _ _, _, h => by cases h
  | 0, _, .exn _, _, h => by cases h
  | n + 1, _, .exn _, _, h => by cases h
  | n + 1, _, .ref _, _, h => by cases h
theorem th_pair {n : Nat} {a b : D} (h : th n (.tup [a, b]) = true) : th n a = true ∧ th n b = true := by
  cases n with
  | zero => cases h
  | succ n =>
    simp only [th, List.all_cons, List.all_nil, Bool.and_true, Bool.and_eq_true] at h
    exact ⟨th_mono _ (by omega) h.2.1, th_mono _ (by omega) h.2.2⟩
end PM

/-! PM, part 28: kinds that are kinds; their knots, their blanks (plain) -/
namespace PM
open PySem L2
inductive VK : Nat → K → Prop where
  | num {d} : VK (d + 1) .num
  | blk {d n} : 0 ≤ n → VK (d + 1) (.blk n)
  | rc {d ls ks r} : ls.length = ks.length → ascS ls = true → (∀ l ∈ ls, IsLab l) → (∀ k ∈ ks, VK d k) → (∀ i, r = some i → 0 ≤ i) → VK (d + 1) (.rc ls ks r)
theorem fld_kd {f : D → Bool} {ps : List D} (h1 : ∀ p ∈ ps, isPairD p = true) (h2 : ∀ p ∈ ps, f (sndD p) = true) {n : Nat} (h : ∀ d, f d = true → ∃ k, d = kd k ∧ VK n k) :
    ∃ ks, ps = fldD (ps.map labD) (kds ks) ∧ ks.length = ps.length ∧ (∀ k ∈ ks, VK n k) ∧ ∀ l ∈ ps.map labD, IsLab l := by
  induction ps with
  | nil => exact ⟨[], rfl, rfl, by simp, by simp⟩
  | cons p ps ih =>
    obtain ⟨ks, e, hl, hv, hw⟩ := ih (fun q hq => h1 q (by simp [hq])) (fun q hq => h2 q (by simp [hq]))
    obtain ⟨s, b, e2, hs⟩ := pair_is (h1 p (by simp))
    have h3 := h2 p (by simp)
    subst e2
    obtain ⟨k, ek, vk⟩ := h b h3
    subst ek
    refine ⟨k :: ks, ?_, by simp [hl], ?_, ?_⟩
    · rw [List.map_cons, kds, show labD (.tup [.str s, kd k]) = s from rfl, fldD_cons, ← e]
    · intro x hx
      rcases List.mem_cons.mp hx with hx | hx
      · rw [hx]; exact vk
      · exact hv x hx
    · intro x hx
      rw [List.map_cons] at hx
      rcases List.mem_cons.mp hx with hx | hx
      · rw [hx]; exact hs
      · exact hw x hx
theorem kindIn_kd : ∀ (n : Nat) {d : D}, kindIn n d = true → ∃ k, d = kd k ∧ VK n k := by
  intro n
  induction n with
  | zero => intro d h; cases d <;> cases h
  | succ n ih =>
    intro d h
    have hd : ∃ s r, d = .tup (.str s :: r) := by
      cases d with
      | tup ds =>
        cases ds with
        | nil => cases h
        | cons x r => cases x <;> first
          | (cases h; done)
          | exact ⟨_, r, rfl⟩
      | _ => cases h
    obtain ⟨s, r, e⟩ := hd
    subst e
    · rw [kindIn] at h
      split at h
      · rename_i c
        subst c
        cases r with
        | nil => exact ⟨.num, rfl, .num⟩
        | cons x r => cases h
      · split at h
        · rename_i c
          subst c
          unfold blankIn at h
          split at h
          · rename_i i
            exact ⟨.blk i, rfl, .blk (of_decide_eq_true h)⟩
          · cases h
        · rw [Bool.and_eq_true, decide_eq_true_eq] at h
          obtain ⟨c, h⟩ := h
          subst c
          unfold recIn at h
          split at h
          · rename_i fs rt
            rw [Bool.and_eq_true] at h
            obtain ⟨hr, h⟩ := h
            unfold rowIn at h
            split at h
            · rename_i ps
              rw [Bool.and_eq_true, Bool.and_eq_true] at h
              obtain ⟨h1, h2, h3⟩ := h
              obtain ⟨ks, e, hl, hv, hw⟩ := fld_kd (f := kindIn n) (List.all_eq_true.mp h1) (List.all_eq_true.mp h3) (fun d h => ih h)
              have e2 : ∃ r, rt = rD0 r ∧ ∀ i, r = some i → 0 ≤ i := by
                cases rt <;> first
                  | (cases hr; done)
                  | exact ⟨none, rfl, fun _ h => by cases h⟩
                  | exact ⟨some _, rfl, fun i h => by cases h; exact of_decide_eq_true hr⟩
              obtain ⟨r, e2, h4⟩ := e2
              subst e2
              refine ⟨.rc (ps.map labD) ks r, ?_, .rc (by rw [List.length_map, hl]) h2 hw hv h4⟩
              rw [kd, ← e]
            · cases h
          · cases h
/-! knots -/
mutual
def kn : K → Nat
  | .num => 1
  | .blk _ => 1
  | .rc _ ks _ => 1 + kns ks
def kns : List K → Nat
  | [] => 0
  | k :: ks => kn k + kns ks
end
theorem kns_sum : ∀ ks : List K, kns ks = (ks.map kn).sum
  | [] => rfl
  | k :: ks => by rw [kns, kns_sum ks, List.map_cons, List.sum_cons]
/-! blanks: their numbers, their labels -/
abbrev OL := Option (List Str)
abbrev Mp := List (Int × OL)
def restO (ls : List Str) : Option Int → Mp
  | some i => [(i, some ls)]
  | none => []
mutual
def occ : K → Mp
  | .num => []
  | .blk n => [(n, none)]
  | .rc ls ks r => occs ks ++ restO ls r
def occs : List K → Mp
  | [] => []
  | k :: ks => occ k ++ occs ks
end
def look : Mp → Int → Option OL
  | [], _ => none
  | p :: m, n => if p.1 = n then some p.2 else look m n
def putB (m : Mp) (o : Int × OL) : Mp × Bool := match look m o.1 with
  | none => (m ++ [o], true)
  | some l => (m, decide (l = o.2))
def pa : Mp → Mp → Mp × Bool
  | m, [] => (m, true)
  | m, o :: r => ((pa (putB m o).1 r).1, (putB m o).2 && (pa (putB m o).1 r).2)
theorem pa_app : ∀ (m a b : Mp), pa m (a ++ b) = ((pa (pa m a).1 b).1, (pa m a).2 && (pa (pa m a).1 b).2)
  | m, [], b => by simp [pa]
  | m, o :: a, b => by simp only [List.cons_append, pa, pa_app (putB m o).1 a b, Bool.and_assoc]
def olD : OL → D
  | none => .non
  | some w => wD w
theorem intsOf_map {α : Type} (f : α → Int) : ∀ xs : List α, intsOf (xs.map fun x => D.int (f x)) = some (xs.map f)
  | [] => rfl
  | x :: xs => by simp only [List.map_cons, intsOf, intsOf_map f xs]; rfl
theorem cSum_map {α : Type} {S : Sto} (f : α → Int) (xs : List α) : cSum [.lst (xs.map fun x => D.int (f x))] S = .ok (.int (xs.map f).sum) S := by
  simp only [cSum, rdL, asL, intsOf_map]
theorem fld_zipK {ls : List Str} {ks : List K} (h : ls.length = ks.length) : fldD ls (kds ks) = (ls.zip ks).map fun p => .tup [.str p.1, kd p.2] := by
  rw [fldD, kds_map, List.zipWith_map_right, List.zip, List.map_zipWith]
theorem sum_zip {ls : List Str} {ks : List K} (h : ls.length = ks.length) : ((ls.zip ks).map fun p => ((kn p.2 : Nat) : Int)).sum = (kns ks : Nat) := by
  induction ls generalizing ks with
  | nil => cases ks with
    | nil => rfl
    | cons k ks => cases h
  | cons l ls ih =>
    cases ks with
    | nil => cases h
    | cons k ks =>
      simp only [List.zip_cons_cons, List.map_cons, List.sum_cons, kns, ih (by simpa using h)]
      omega
theorem zip_mem {ls : List Str} {ks : List K} {p : Str × K} (h : p ∈ ls.zip ks) : p.1 ∈ ls ∧ p.2 ∈ ks := by
  obtain ⟨a, b⟩ := p
  exact ⟨(List.of_mem_zip h).1, (List.of_mem_zip h).2⟩
theorem eqD_ol {S : Sto} {a b : OL} (ha : ∀ w, a = some w → WOk w) (hb : ∀ w, b = some w → WOk w) : eqD S (olD a) (olD b) = some (decide (a = b)) := by
  cases a with
  | none =>
    cases b with
    | none => rfl
    | some b =>
      have h2 := tpd_w (S := S) b
      unfold wD at h2
      have h1 : tpd S .non = some .none := rfl
      unfold eqD
      simp only [olD, wD, scalD, h1, h2, sh_w (hb b rfl), show SeqAt.shaped PyData.none = true from by decide, and_self, if_true, PyData.eqv]
      simp
  | some a =>
    cases b with
    | none =>
      have h2 := tpd_w (S := S) a
      unfold wD at h2
      have h1 : tpd S .non = some .none := rfl
      unfold eqD
      simp only [olD, wD, scalD, h1, h2, sh_w (ha a rfl), show SeqAt.shaped PyData.none = true from by decide, and_self, if_true, PyData.eqv]
      simp
    | some b =>
      have := eqD_w (S := S) (ha a rfl) (hb b rfl)
      simp only [olD, wD, this, Option.some.injEq]
def mpO (m : Mp) : MO := .dK (m.map fun p => .inl p.1) (m.map fun p => olD p.2)
def MpOk (m : Mp) : Prop := ∀ p ∈ m, ∀ w, p.2 = some w → WOk w
theorem getK_look : ∀ (m : Mp) (n : Int), getK (m.map fun p => (Sum.inl p.1 : Key)) (m.map fun p => olD p.2) (.inl n) = (look m n).map olD
  | [], n => rfl
  | p :: m, n => by
    simp only [List.map_cons, getK, look, Sum.inl.injEq]
    split
    · rfl
    · exact getK_look m n
theorem look_mem : ∀ {m : Mp} {n : Int} {l : OL}, look m n = some l → (n, l) ∈ m
  | p :: m, n, l, h => by
    simp only [look] at h
    split at h
    · rename_i e
      cases h
      rw [← e]; simp
    · simp [look_mem h]
theorem look_none : ∀ {m : Mp} {n : Int}, look m n = none → (Sum.inl n : Key) ∉ m.map fun p => (Sum.inl p.1 : Key)
  | [], _, _ => by simp
  | p :: m, n, h => by
    simp only [look] at h
    split at h
    · cases h
    · rename_i e
      simp only [List.map_cons, List.mem_cons, Sum.inl.injEq, not_or]
      exact ⟨fun q => e q.symm, look_none h⟩
section
variable {S : Sto} {q : Nat} {m : Mp} {n : Int}
theorem dget_int {ks : List Key} {ds : List D} (h : S[q]? = some (.dK ks ds)) : dget S (.ref q) (.int n) = some (getK ks ds (.inl n)) := by
  simp only [dget, dkOf, h, keyOf]
theorem opNotIn_mp (h : S[q]? = some (mpO m)) : opNotIn (.int n) (.ref q) S = .ok (.bl (!(look m n).isSome)) S := by
  simp only [opNotIn, inDa, dget_int h, getK_look, Option.isSome_map]
theorem opIx_mp {l : OL} (h : S[q]? = some (mpO m)) (hl : look m n = some l) : opIx (.ref q) (.int n) S = .ok (olD l) S := by
  simp only [opIx, dget_int h, getK_look, hl, Option.map_some]
theorem opSet_mp {l : OL} (h : S[q]? = some (mpO m)) (hl : look m n = none) (hm : m.length < sizeLine) : opSet (.ref q) (.int n) (olD l) S = .ok () (S.set q (mpO (m ++ [(n, l)]))) := by
  have hn := look_none hl
  have h' : S[q]? = some (.dK (m.map fun p => .inl p.1) (m.map fun p => olD p.2)) := h
  simp only [opSet, h', keyOf, List.length_map, if_pos hm, insK_new hn, insD_new hn]
  simp only [mpO, List.map_append, List.map_cons, List.map_nil]
end
theorem putB_ok {m : Mp} {o : Int × OL} (h : MpOk m) (ho : ∀ w, o.2 = some w → WOk w) : MpOk (putB m o).1 := by
  unfold putB
  split
  · intro p hp
    rcases List.mem_append.mp hp with hp | hp
    · exact h p hp
    · rw [List.mem_singleton.mp hp]; exact ho
  · exact h
theorem putB_len (m : Mp) (o : Int × OL) : (putB m o).1.length ≤ m.length + 1 := by
  unfold putB; split <;> simp
theorem pa_ok : ∀ {r m : Mp}, MpOk m → MpOk r → MpOk (pa m r).1
  | [], m, h, _ => h
  | o :: r, m, h, hr => by
    rw [pa]
    exact pa_ok (r := r) (putB_ok h (hr o (by simp))) fun p hp => hr p (by simp [hp])
theorem pa_len : ∀ (r m : Mp), (pa m r).1.length ≤ m.length + r.length
  | [], m => Nat.le_refl _
  | o :: r, m => by
    have h1 := pa_len r (putB m o).1
    have h2 := putB_len m o
    simp only [pa, List.length_cons]; omega
mutual
theorem occ_len : ∀ k : K, (occ k).length ≤ kn k
  | .num => by simp [occ]
  | .blk _ => by simp [occ, kn]
  | .rc ls ks r => by
    have := occs_len ks
    simp only [occ, kn, List.length_append]
    cases r <;> simp [restO] <;> omega
theorem occs_len : ∀ ks : List K, (occs ks).length ≤ kns ks
  | [] => by simp [occs]
  | k :: ks => by
    have := occ_len k
    have := occs_len ks
    simp only [occs, kns, List.length_append]; omega
end
theorem mpOk_app {a b : Mp} (h : MpOk a) (g : MpOk b) : MpOk (a ++ b) := fun p hp => by
  rcases List.mem_append.mp hp with hp | hp
  · exact h p hp
  · exact g p hp
theorem occ_ok : ∀ (n : Nat) {k : K}, VK n k → MpOk (occ k) := by
  intro n
  induction n with
  | zero => intro k h; cases h
  | succ n ih =>
    intro k h
    cases h with
    | num => intro p hp; simp [occ] at hp
    | blk h => intro p hp w hw; simp only [occ, List.mem_singleton] at hp; subst hp; cases hw
    | rc h1 h2 h3 h4 h5 =>
      rename_i ls ks r
      rw [occ]
      refine mpOk_app ?_ ?_
      · clear h1
        induction ks with
        | nil => intro p hp; simp [occs] at hp
        | cons k ks ih2 => rw [occs]; exact mpOk_app (ih (h4 k (by simp))) (ih2 fun x hx => h4 x (by simp [hx]))
      · cases r with
        | none => intro p hp; simp [restO] at hp
        | some i =>
          intro p hp w hw
          simp only [restO, List.mem_singleton] at hp
          subst hp
          cases hw
          exact h3
theorem occs_ok {n : Nat} : ∀ {ks : List K}, (∀ k ∈ ks, VK n k) → MpOk (occs ks)
  | [], _ => fun p hp => by simp [occs] at hp
  | k :: ks, h => by rw [occs]; exact mpOk_app (occ_ok n (h k (by simp))) (occs_ok fun x hx => h x (by simp [hx]))
end PM

/-! PM, part 29: the dict of what was seen -/
namespace PM
open PySem L2
section
variable {κ : Type} [DecidableEq κ]
theorem getK_app {k j : κ} {d : D} : ∀ {ks : List κ} {ds : List D}, ks.length = ds.length → getK (ks ++ [k]) (ds ++ [d]) j = match getK ks ds j with
    | some e => some e
    | none => if k = j then some d else none
  | [], [], _ => by simp only [List.nil_append, getK]
  | x :: ks, y :: ds, h => by
    simp only [List.cons_append, getK]
    by_cases c : x = j
    · simp only [if_pos c]
    · simp only [if_neg c]; exact getK_app (by simpa using h)
theorem getK_none {j : κ} : ∀ {ks : List κ} {ds : List D}, j ∉ ks → getK ks ds j = none
  | [], _, _ => rfl
  | x :: ks, [], _ => rfl
  | x :: ks, y :: ds, h => by
    have : ¬ x = j := fun e => h (by simp [e])
    simp only [getK, if_neg this]
    exact getK_none fun q => h (by simp [q])
theorem getK_upd {k j : κ} {d : D} : ∀ {ks : List κ} {ds : List D}, ks.length = ds.length → k ∈ ks → getK ks (List.zipWith (fun i x => if i = k then d else x) ks ds) j = if k = j then some d else getK ks ds j
  | x :: ks, y :: ds, h, hk => by
    simp only [List.zipWith_cons_cons, getK]
    by_cases c : x = j
    · subst c
      by_cases c2 : x = k
      · simp [c2]
      · have : ¬ k = x := fun e => c2 e.symm
        simp [c2, this]
    · simp only [if_neg c]
      by_cases c2 : k ∈ ks
      · exact getK_upd (by simpa using h) c2
      · have e : k = x := by
          rcases List.mem_cons.mp hk with e | e
          · exact e
          · exact absurd e c2
        have hz : List.zipWith (fun i x => if i = k then d else x) ks ds = ds := by
          have hl : ks.length = ds.length := by simpa using h
          clear h hk
          induction ks generalizing ds with
          | nil => cases ds with
            | nil => rfl
            | cons y ds => cases hl
          | cons z ks ih =>
            cases ds with
            | nil => cases hl
            | cons y ds =>
              have : ¬ z = k := fun q => c2 (by simp [q])
              simp only [List.zipWith_cons_cons, if_neg this]
              rw [ih ds (fun q => c2 (by simp [q])) (by simpa using hl)]
        rw [hz]
        have : ¬ k = j := by rw [e]; exact c
        rw [if_neg this]
theorem getK_ins {k j : κ} {d : D} {ks : List κ} {ds : List D} (h : ks.length = ds.length) : getK (insK ks k) (insD ks ds k d) j = if k = j then some d else getK ks ds j := by
  unfold insK insD
  by_cases c : k ∈ ks
  · rw [if_pos c, if_pos c]; exact getK_upd h c
  · rw [if_neg c, if_neg c, getK_app h]
    by_cases e : k = j
    · subst e; rw [getK_none c]
    · rw [if_neg e, if_neg e]; cases getK ks ds j <;> rfl
theorem ins_len {k : κ} {d : D} {ks : List κ} {ds : List D} (h : ks.length = ds.length) : (insK ks k).length = (insD ks ds k d).length := by
  unfold insK insD
  split <;> simp [h]
end
/-- what stands for labels in the dict: no list that may still change (B) -/
def OLs (S : Sto) (B : Nat → Prop) : OL → D → Prop
  | none, d => d = .non
  | some w, d => ∃ i, d = .ref i ∧ ¬ B i ∧ S[i]? = some (.lst (w.map .str))
structure SR (S : Sto) (q : Nat) (B : Nat → Prop) (m : Mp) (c : Nat) : Prop where
  ok : MpOk m
  bq : B q
  dict : ∃ ks vs, S[q]? = some (.dK ks vs) ∧ ks.length = vs.length ∧ ks.length ≤ m.length + 1 ∧ getK ks vs (.inl (-1)) = some (.int c) ∧
    (∀ n : Int, 0 ≤ n → look m n = none → getK ks vs (.inl n) = none) ∧ ∀ (n : Int) l, 0 ≤ n → look m n = some l → ∃ d, getK ks vs (.inl n) = some d ∧ OLs S B l d
/-- all but B stays -/
structure Fq (S T : Sto) (B : Nat → Prop) : Prop where
  len : S.length ≤ T.length
  old : ∀ i, i < S.length → ¬ B i → T[i]? = S[i]?
theorem Fq.refl {S : Sto} {B : Nat → Prop} : Fq S S B := ⟨Nat.le_refl _, fun _ _ _ => rfl⟩
theorem Fq.trans {S T U : Sto} {B : Nat → Prop} (a : Fq S T B) (b : Fq T U B) : Fq S U B := ⟨Nat.le_trans a.len b.len, fun i h n => (b.old i (Nat.lt_of_lt_of_le h a.len) n).trans (a.old i h n)⟩
theorem Fq.mono {S T : Sto} {B B' : Nat → Prop} (h : Fq S T B) (g : ∀ i, B i → B' i) : Fq S T B' := ⟨h.len, fun i hi n => h.old i hi fun b => n (g i b)⟩
/-- what is new may be counted among B or not -/
theorem Fq.drop {S T : Sto} {B B' : Nat → Prop} (h : Fq S T B) (g : ∀ i, i < S.length → B i → B' i) : Fq S T B' := ⟨h.len, fun i hi n => h.old i hi fun b => n (g i hi b)⟩
theorem Fq.set {S : Sto} {q : Nat} {B : Nat → Prop} {o : MO} (h : B q) : Fq S (S.set q o) B := ⟨by simp, fun i _ n => by
  have : q ≠ i := fun e => n (by rw [← e]; exact h)
  rw [List.getElem?_set_ne this]⟩
theorem Fq.snoc {S : Sto} {B : Nat → Prop} {o : MO} : Fq S (S ++ [o]) B := ⟨by simp, fun i h _ => by rw [List.getElem?_append_left h]⟩
theorem OLs.keep {S T : Sto} {B : Nat → Prop} {l : OL} {d : D} (h : OLs S B l d) (f : Fq S T B) : OLs T B l d := by
  cases l with
  | none => exact h
  | some w =>
    obtain ⟨i, e, n, hi⟩ := h
    exact ⟨i, e, n, by rw [f.old i (List.getElem?_eq_some_iff.mp hi).1 n]; exact hi⟩
theorem SR.keep {S T : Sto} {q : Nat} {B : Nat → Prop} {m : Mp} {c : Nat} (h : SR S q B m c) (f : Fq S T B) (e : T[q]? = S[q]?) : SR T q B m c := by
  obtain ⟨ok, bq, ks, vs, h1, h2, h3, h4, h5, h6⟩ := h
  exact ⟨ok, bq, ks, vs, e.trans h1, h2, h3, h4, h5, fun n l hn hl => let ⟨d, g, o⟩ := h6 n l hn hl; ⟨d, g, o.keep f⟩⟩
/-- other B that agree on what stands -/
theorem SR.other {S : Sto} {q : Nat} {B B' : Nat → Prop} {m : Mp} {c : Nat} (h : SR S q B m c) (bq' : B' q) (g : ∀ i, i < S.length → B' i → B i) : SR S q B' m c := by
  obtain ⟨ok, bq, ks, vs, h1, h2, h3, h4, h5, h6⟩ := h
  refine ⟨ok, bq', ks, vs, h1, h2, h3, h4, h5, fun n l hn hl => ?_⟩
  obtain ⟨d, gd, o⟩ := h6 n l hn hl
  refine ⟨d, gd, ?_⟩
  cases l with
  | none => exact o
  | some w =>
    obtain ⟨i, e, nb, hi⟩ := o
    exact ⟨i, e, fun b => nb (g i (List.getElem?_eq_some_iff.mp hi).1 b), hi⟩
theorem eqD_ols {S : Sto} {B : Nat → Prop} {a b : OL} {d e : D} (ha : OLs S B a d) (hb : OLs S B b e) (wa : ∀ w, a = some w → WOk w) (wb : ∀ w, b = some w → WOk w) : eqD S d e = some (decide (a = b)) := by
  have tr : ∀ {i : Nat} {w : List Str}, S[i]? = some (.lst (w.map .str)) → tpd S (.ref i) = some (.list (w.map .str)) := fun h => by simp only [tpd, tp, h, tpk, tps_strs]; rfl
  have tn : tpd S .non = some .none := rfl
  have sn : SeqAt.shaped PyData.none = true := by decide
  cases a with
  | none =>
    obtain rfl : d = .non := ha
    cases b with
    | none => obtain rfl : e = .non := hb; rfl
    | some b =>
      obtain ⟨i, e1, n, hi⟩ := hb
      subst e1
      unfold eqD
      simp only [scalD, tn, tr hi, sn, sh_w (wb b rfl), and_self, if_true, PyData.eqv]
      simp
  | some a =>
    obtain ⟨i, e1, n, hi⟩ := ha
    subst e1
    cases b with
    | none =>
      obtain rfl : e = .non := hb
      unfold eqD
      simp only [scalD, tn, tr hi, sn, sh_w (wa a rfl), and_self, if_true, PyData.eqv]
      simp
    | some b =>
      obtain ⟨j, e2, n2, hj⟩ := hb
      subst e2
      unfold eqD
      simp only [scalD, tr hi, tr hj, sh_w (wa a rfl), sh_w (wb b rfl), and_self, if_true, PyData.eqv, eqv_strs, Option.some.injEq]
def numD : D → Bool
  | .int i => decide (0 ≤ i)
  | _ => false
theorem look_app {n : Int} {l : OL} : ∀ {m : Mp}, look m n = none → ∀ j, look (m ++ [(n, l)]) j = if n = j then some l else look m j
  | [], _, j => by simp [look]
  | p :: m, hk, j => by
    simp only [look] at hk
    split at hk
    · cases hk
    · rename_i e
      simp only [List.cons_append, look]
      by_cases e2 : p.1 = j
      · rw [if_pos e2, if_pos e2, if_neg (fun q => e (by rw [e2, q]))]
      · rw [if_neg e2, if_neg e2]; exact look_app hk j
end PM

/-! PM, part 30: what the law's look at a thing finds (plain) -/
namespace PM
open PySem PySem.Spec L2
/-- does s stand behind the last of lw? -/
def asc1 (lw : List Str) (s : Str) : Bool := match lw.getLast? with
  | none => true
  | some x => decide (x.cps.toList < s.cps.toList)
abbrev MC := Mp × Nat
def putC (m : MC) (o : Int × OL) : Option MC := if (putB m.1 o).2 = true then some ((putB m.1 o).1, m.2) else none
/-- the pairs of a row, one by one -/
def goodPs (f : MC → D → Option MC) : MC → List Str → List D → Option (MC × List Str)
  | m, lw, [] => some (m, lw)
  | m, lw, p :: ps => match p with
    | .tup [.str s, b] => if isWordD (.str s) = true ∧ asc1 lw s = true then (match f m b with
      | some m' => goodPs f m' (lw ++ [s]) ps
      | none => none) else none
    | _ => none
def goodB (m : MC) : List D → Option MC
  | [.int i] => if 0 ≤ i then putC m (i, none) else none
  | _ => none
def goodT (m : MC) (lw : List Str) : D → Option MC
  | .non => some m
  | .int i => if 0 ≤ i then putC m (i, some lw) else none
  | _ => none
def goodR (f : MC → D → Option MC) (m : MC) : List D → Option MC
  | [.tup ps, rt] => match goodPs f m [] ps with
    | some (m', lw) => goodT m' lw rt
    | none => none
  | _ => none
def goodD : Nat → MC → D → Option MC
  | n + 1, m, .tup (.str s :: r) => if s = Str.ofString "number" then (if r.isEmpty = true then some (m.1, m.2 + 1) else none)
    else if s = Str.ofString "blank" then goodB (m.1, m.2 + 1) r
    else if s = Str.ofString "record" then goodR (goodD n) (m.1, m.2 + 1) r else none
  | _, _, _ => none
theorem ltC_iff : ∀ a b : List Nat, ltCps a b = decide (a < b)
  | [], [] => by simp [ltCps]
  | [], y :: b => by simp [ltCps]
  | x :: a, [] => by simp [ltCps]
  | x :: a, y :: b => by
    simp only [ltCps, ltC_iff a b]
    rw [Bool.eq_iff_iff]
    simp only [Bool.or_eq_true, Bool.and_eq_true, decide_eq_true_eq, beq_iff_eq, List.cons_lt_cons_iff]
/-- rising, one by one -/
def chain : List Str → List Str → Bool
  | _, [] => true
  | lw, s :: r => asc1 lw s && chain (lw ++ [s]) r
def ltS (a b : Str) : Prop := ltCps a.cps.toList b.cps.toList = true
theorem asc1_some {lw : List Str} {x s : Str} (h : lw.getLast? = some x) : asc1 lw s = true ↔ ltS x s := by
  unfold asc1 ltS; rw [h, ltC_iff]
theorem ltS_trans {a b c : Str} (h1 : ltS a b) (h2 : ltS b c) : ltS a c := by
  unfold ltS at *
  cases h : ltCps a.cps.toList c.cps.toList with
  | true => rfl
  | false =>
    cases h3 : ltCps c.cps.toList a.cps.toList with
    | true =>
      rcases lt_cot a.cps.toList b.cps.toList c.cps.toList h3 with h4 | h4
      · rw [lt_asym _ _ h2] at h4; cases h4
      · rw [lt_asym _ _ h1] at h4; cases h4
    | false =>
      have e := lt_tri _ _ h h3
      rw [e] at h1
      rw [lt_asym _ _ h1] at h2; cases h2
theorem chain_iff : ∀ {ls lw : List Str}, chain lw ls = true ↔ (ls.Pairwise ltS ∧ ∀ x, lw.getLast? = some x → ∀ s ∈ ls, ltS x s)
  | [], lw => by simp [chain]
  | s :: r, lw => by
    have hl : (lw ++ [s]).getLast? = some s := by simp
    rw [chain, Bool.and_eq_true, chain_iff (ls := r), List.pairwise_cons]
    constructor
    · rintro ⟨h1, h2, h3⟩
      have h4 := h3 s hl
      refine ⟨⟨h4, h2⟩, fun x hx y hy => ?_⟩
      have h5 := (asc1_some hx).mp h1
      rcases List.mem_cons.mp hy with e | hy
      · rw [e]; exact h5
      · exact ltS_trans h5 (h4 y hy)
    · rintro ⟨⟨h4, h2⟩, h3⟩
      refine ⟨?_, h2, fun x hx y hy => ?_⟩
      · cases hg : lw.getLast? with
        | none => unfold asc1; rw [hg]
        | some x => exact (asc1_some hg).mpr (h3 x hg s (by simp))
      · rw [hl] at hx; cases hx; exact h4 y hy
theorem ndist_iff (zs : List Str) : ∀ i, i ≤ zs.length → (ndist zs i = i ↔ (zs.take i).Nodup)
  | 0, _ => by simp [ndist]
  | i + 1, h => by
    have ih := ndist_iff zs i (by omega)
    have hl := ndist_le zs i
    have e : zs.take (i + 1) = zs.take i ++ [zs.getD i Str.empty] := by
      rw [List.take_add_one, List.getElem?_eq_getElem (by omega), List.getD_eq_getElem?_getD, List.getElem?_eq_getElem (by omega)]; rfl
    rw [e, List.nodup_append]
    unfold ndist
    by_cases c : (zs.take i).any (· == zs.getD i Str.empty) = true
    · rw [if_pos c]
      constructor
      · intro q; omega
      · rintro ⟨_, _, q⟩
        rw [List.any_eq_true] at c
        obtain ⟨x, hx, e⟩ := c
        exact absurd (beq_iff_eq.mp e) (q x hx _ (by simp))
    · rw [if_neg c]
      constructor
      · intro q
        refine ⟨ih.mp (by omega), by simp, fun a ha b hb e => ?_⟩
        rw [List.mem_singleton.mp hb] at e
        exact c (List.any_eq_true.mpr ⟨a, ha, beq_iff_eq.mpr e⟩)
      · rintro ⟨q, _⟩
        have := ih.mpr q
        omega
theorem ltS_le {a b : Str} : ltS a b ↔ (leS a b = true ∧ a ≠ b) := by
  unfold ltS leS
  constructor
  · intro h
    refine ⟨by rw [lt_asym _ _ h]; rfl, fun e => ?_⟩
    subst e
    rw [lt_irr] at h; cases h
  · rintro ⟨h, n⟩
    simp only [Bool.not_eq_true'] at h
    cases c : ltCps a.cps.toList b.cps.toList with
    | true => rfl
    | false => exact absurd (str_ext (lt_tri _ _ c h)) n
theorem ascS_iff {ls : List Str} : ascS ls = true ↔ ls.Pairwise ltS := by
  unfold ascS
  rw [Bool.and_eq_true, decide_eq_true_eq, decide_eq_true_eq, ndist_iff ls ls.length (Nat.le_refl _), List.take_length]
  constructor
  · rintro ⟨h, n⟩
    have hs := sortStr_sorted ls
    rw [← h] at hs
    exact (List.pairwise_and_iff.mpr ⟨hs, n⟩).imp fun h => ltS_le.mpr h
  · intro h
    have h1 : ls.Pairwise (fun a b => leS a b = true) := h.imp fun q => (ltS_le.mp q).1
    have h2 : ls.Nodup := h.imp fun q => (ltS_le.mp q).2
    exact ⟨sorted_uniq (sortStr_perm ls).symm h1 (sortStr_sorted ls), h2⟩
theorem chain_asc {ls : List Str} : chain [] ls = ascS ls := by
  rw [Bool.eq_iff_iff, ascS_iff, chain_iff]
  simp
end PM

/-! PM, part 31: the look finds what kindIn and pa find (plain) -/
namespace PM
open PySem PySem.Spec L2
def okC (m : MC) (o : Mp) (c : Nat) : Option MC := if (pa m.1 o).2 = true then some ((pa m.1 o).1, m.2 + c) else none
theorem goodPs_yes {f : MC → D → Option MC} : ∀ {ls : List Str} {ks : List K} {m : MC} {lw : List Str}, ls.length = ks.length → (∀ l ∈ ls, IsLab l) → chain lw ls = true → (∀ k ∈ ks, ∀ m, f m (kd k) = okC m (occ k) (kn k)) →
    goodPs f m lw (fldD ls (kds ks)) = if (pa m.1 (occs ks)).2 = true then some (((pa m.1 (occs ks)).1, m.2 + kns ks), lw ++ ls) else none
  | [], [], m, lw, _, _, _, _ => by
    rw [show fldD [] (kds []) = [] from rfl, goodPs, occs, pa, kns, if_pos rfl, Nat.add_zero, List.append_nil]
  | l :: ls, k :: ks, m, lw, h, hl, hc, hf => by
    rw [chain, Bool.and_eq_true] at hc
    rw [kds, fldD_cons, goodPs, if_pos ⟨word_lab.mpr (hl l (by simp)), hc.1⟩, hf k (by simp) m, occs, pa_app, kns]
    unfold okC
    cases c1 : (pa m.1 (occ k)).2 with
    | false => simp
    | true =>
      simp only [if_true, Bool.true_and]
      rw [goodPs_yes (show ls.length = ks.length by simpa using h) (fun x hx => hl x (by simp [hx])) hc.2 fun k hk => hf k (by simp [hk])]
      simp only [List.append_assoc, List.singleton_append, Nat.add_assoc]
theorem goodPs_no {n : Nat} {f : MC → D → Option MC} (hn : ∀ d m, kindIn n d = false → f m d = none) : ∀ {ps : List D} {m : MC} {lw : List Str} {r : MC × List Str}, goodPs f m lw ps = some r →
    (∀ p ∈ ps, isPairD p = true) ∧ chain lw (ps.map labD) = true ∧ ∀ p ∈ ps, kindIn n (sndD p) = true
  | [], _, _, _, _ => ⟨by simp, rfl, by simp⟩
  | p :: ps, m, lw, r, h => by
    unfold goodPs at h
    split at h
    · rename_i s b
      split at h
      · rename_i hc
        split at h
        · rename_i m' hm
          obtain ⟨h1, h2, h3⟩ := goodPs_no hn h
          have hk : kindIn n b = true := by
            cases c : kindIn n b with
            | true => rfl
            | false => rw [hn b m c] at hm; cases hm
          refine ⟨fun q hq => ?_, ?_, fun q hq => ?_⟩
          · rcases List.mem_cons.mp hq with e | hq
            · subst e; exact hc.1
            · exact h1 q hq
          · rw [List.map_cons, chain, Bool.and_eq_true]; exact ⟨hc.2, h2⟩
          · rcases List.mem_cons.mp hq with e | hq
            · subst e; exact hk
            · exact h3 q hq
        · cases h
      · cases h
    · cases h
theorem goodD_no : ∀ (n : Nat) (d : D) (m : MC), kindIn n d = false → goodD n m d = none := by
  intro n
  induction n with
  | zero => intro d m _; unfold goodD; rfl
  | succ n ih =>
    intro d m h
    cases hg : goodD (n + 1) m d with
    | none => rfl
    | some r =>
      exfalso
      have hd : ∃ s r, d = .tup (.str s :: r) := by
        cases d with
        | tup ds =>
          cases ds with
          | nil => cases hg
          | cons x r => cases x <;> first
            | (cases hg; done)
            | exact ⟨_, r, rfl⟩
        | _ => cases hg
      obtain ⟨s, r, e⟩ := hd
      subst e
      rw [goodD] at hg
      rw [kindIn] at h
      split at hg
      · rename_i c
        rw [if_pos c] at h
        split at hg
        · rename_i c2; rw [c2] at h; cases h
        · cases hg
      · rename_i c
        rw [if_neg c] at h
        split at hg
        · rename_i c2
          rw [if_pos c2] at h
          unfold goodB at hg
          split at hg
          · split at hg
            · rename_i i hi
              simp only [blankIn] at h
              rw [decide_eq_true hi] at h; cases h
            · cases hg
          · cases hg
        · rename_i c2
          rw [if_neg c2] at h
          split at hg
          · rename_i c3
            rw [decide_eq_true c3, Bool.true_and] at h
            unfold goodR at hg
            split at hg
            · rename_i ps rt
              split at hg
              · rename_i m' lw hp
                obtain ⟨h1, h2, h3⟩ := goodPs_no (n := n) (fun d m => ih d m) hp
                have hr : isRestD rt = true := by
                  unfold goodT at hg
                  split at hg
                  · rfl
                  · split at hg
                    · rename_i i hi; exact decide_eq_true hi
                    · cases hg
                  · cases hg
                simp only [recIn, rowIn, hr, Bool.true_and] at h
                rw [chain_asc] at h2
                rw [List.all_eq_true.mpr h1, h2, List.all_eq_true.mpr h3] at h
                cases h
              · cases hg
            · cases hg
          · cases hg
theorem goodD_yes : ∀ (n : Nat) {k : K} (m : MC), VK n k → goodD n m (kd k) = okC m (occ k) (kn k) := by
  intro n
  induction n with
  | zero => intro k m h; cases h
  | succ n ih =>
    intro k m h
    have n1 : ¬ Str.ofString "blank" = Str.ofString "number" := by simp
    have n2 : ¬ Str.ofString "record" = Str.ofString "number" := by simp
    have n3 : ¬ Str.ofString "record" = Str.ofString "blank" := by simp
    cases h with
    | num => simp only [kd, goodD, if_pos, List.isEmpty_nil, okC, occ, pa, kn]
    | blk h =>
      rename_i i
      simp only [kd, goodD, if_neg n1, if_pos, goodB, if_pos h, putC, okC, occ, pa, kn, Bool.and_true]
    | rc h1 h2 h3 h4 h5 =>
      rename_i ls ks r
      rw [kd, goodD, if_neg n2, if_neg n3, if_pos rfl, goodR, goodPs_yes h1 h3 (by rw [chain_asc]; exact h2) (fun k hk m => ih m (h4 k hk))]
      unfold okC
      rw [occ, pa_app]
      simp only [List.nil_append, kn]
      cases c1 : (pa m.1 (occs ks)).2 with
      | false => simp
      | true =>
        cases r with
        | none => simp [goodT, rD0, restO, pa, Nat.add_assoc]
        | some i =>
          have hi := h5 i rfl
          simp [goodT, rD0, restO, pa, hi, putC, Nat.add_assoc]
mutual
def sz : D → Nat
  | .tup ds => 1 + szs ds
  | .lst ds => 1 + szs ds
  | _ => 1
def szs : List D → Nat
  | [] => 0
  | d :: ds => sz d + szs ds
end
theorem eqD_ref_nil {S : Sto} {f : Nat} {w : List Str} (h : S[f]? = some (.lst (w.map .str))) (hw : WOk w) : eqD S (.ref f) (.lst []) = some (decide (w = [])) := by
  have h1 : tpd S (.ref f) = some (.list (w.map .str)) := by simp only [tpd, tp, h, tpk, tps_strs]; rfl
  have h2 := tpd_w (S := S) []
  unfold wD at h2
  simp only [List.map_nil] at h2
  unfold eqD
  simp only [scalD, h1, h2, sh_w hw, show SeqAt.shaped (.list []) = true from by decide, and_self, if_true, PyData.eqv]
  have := eqv_strs w []
  simp only [List.map_nil] at this
  rw [this]
theorem opIx_last {S : Sto} {f : Nat} {w : List Str} {x : Str} (h : S[f]? = some (.lst (w.map .str))) (hx : w.getLast? = some x) : opIx (.ref f) (.int (-1)) S = .ok (.str x) S := by
  have hne : 0 < w.length := by
    cases w with
    | nil => cases hx
    | cons a w => simp
  rw [opIx_ref h]
  have : atI (w.map D.str) (-1) = some (.str x) := by
    unfold atI ixN
    rw [if_neg (by omega), if_pos (by rw [List.length_map]; omega)]
    rw [List.getLast?_eq_getElem?] at hx
    simp only [Option.bind_some, List.length_map, List.getElem?_map]
    rw [show (-1 + (w.length : Int)).toNat = w.length - 1 by omega, hx]; rfl
  rw [this]; rfl
theorem sr_inc {S : Sto} {q : Nat} {B : Nat → Prop} {m : Mp} {c : Nat} (h : SR S q B m c) (hz : m.length < 200000) :
    opIx (.ref q) (.int (-1)) S = .ok (.int c) S ∧ ∃ S1, opSet (.ref q) (.int (-1)) (.int ((c : Int) + 1)) S = .ok () S1 ∧ SR S1 q B m (c + 1) ∧ Fq S S1 (· = q) := by
  obtain ⟨ok, bq, ks, vs, h1, h2, h3, h4, h5, h6⟩ := h
  have hl : ks.length < sizeLine := Nat.lt_of_lt_of_le (by omega) szl
  have hm : (Sum.inl (-1) : Key) ∈ ks := by
    by_cases q : (Sum.inl (-1) : Key) ∈ ks
    · exact q
    · rw [getK_none q] at h4; cases h4
  refine ⟨by simp only [opIx, dget_int h1, h4], S.set q (.dK (insK ks (.inl (-1))) (insD ks vs (.inl (-1)) (.int ((c : Int) + 1)))), by simp only [opSet, h1, keyOf, if_pos hl], ⟨ok, bq, _, _, sto_set h1, ins_len h2, ?_, ?_, ?_, ?_⟩, .set rfl⟩
  · unfold insK; rw [if_pos hm]; exact h3
  · rw [getK_ins h2, if_pos rfl]; rfl
  · intro n hn hk
    rw [getK_ins h2, if_neg (fun e => by have := Sum.inl.inj e; omega)]
    exact h5 n hn hk
  · intro n l hn hk
    obtain ⟨d, g, o⟩ := h6 n l hn hk
    refine ⟨d, ?_, o.keep (.set bq)⟩
    rw [getK_ins h2, if_neg (fun e => by have := Sum.inl.inj e; omega)]
    exact g
end PM

/-! PM, part 32: kinds as things; their size -/
namespace PM
open PySem L2
theorem th_str {n : Nat} {s : Str} : th n (.str s) = (PyData.strOk s && decide (s.length ≤ 1000)) := by cases n <;> rfl
theorem th_int {n : Nat} {i : Int} : th n (.int i) = true := by cases n <;> rfl
theorem th_non {n : Nat} : th n .non = true := by cases n <;> rfl
theorem th_lab {n : Nat} {s : Str} (h : IsLab s) : th n (.str s) = true := by
  rw [th_str, h.ok, decide_eq_true (by have := h.2.2; omega)]; rfl
theorem th_tup {n : Nat} {ds : List D} (h : ds.length ≤ 1000) (g : ∀ d ∈ ds, th n d = true) : th (n + 1) (.tup ds) = true := by
  simp only [th, Bool.and_eq_true, List.all_eq_true]
  exact ⟨decide_eq_true h, g⟩
theorem th_tup_inv {n : Nat} {ds : List D} (h : th (n + 1) (.tup ds) = true) : ds.length ≤ 1000 ∧ ∀ d ∈ ds, th n d = true := by
  simp only [th, Bool.and_eq_true, List.all_eq_true, decide_eq_true_eq] at h; exact h
theorem th_rec {n : Nat} {fs r : D} (h : th n fs = true) (g : th n r = true) : th (n + 1) (.tup [.str "record", fs, r]) = true :=
  th_tup (by simp) (by simp [h, g, th_str]; decide +kernel)
theorem th_fld {n : Nat} {l : Str} {d : D} (hl : PyData.strOk l = true ∧ l.length ≤ 1000) (h : th n d = true) : th (n + 1) (.tup [.str l, d]) = true :=
  th_tup (by simp) (by simp [h, th_str, hl])
theorem th_kd {d : Nat} {k : K} (h : WK d k) : th (3 * d) (kd k) = true := by
  induction h with
  | num => rename_i d; exact th_tup (n := 3 * d + 2) (by simp) (by simp [th_str]; decide +kernel)
  | blk => rename_i d n; exact th_tup (n := 3 * d + 2) (by simp) (by simp [th_str, th_int]; decide +kernel)
  | rc h1 h2 h3 h4 h5 ih =>
    rename_i d ls ks r
    refine th_rec (n := 3 * d + 2) (th_tup ?_ fun x hx => ?_) (by cases r <;> simp [rD0, th_int, th_non])
    · rw [fldD, List.length_zipWith, kds_len]; omega
    · obtain ⟨l, y, e, hl, hy⟩ := mem_fldD hx
      rw [kds_map] at hy
      obtain ⟨b, hb, e'⟩ := List.mem_map.mp hy
      subst e e'
      exact th_fld ⟨(h4 l hl).ok, by have := (h4 l hl).2.2; omega⟩ (ih b hb)
theorem szs_app : ∀ a b : List D, szs (a ++ b) = szs a + szs b
  | [], b => by simp [szs]
  | x :: a, b => by simp only [List.cons_append, szs, szs_app a b]; omega
theorem szs_fld : ∀ {ls : List Str} {ks : List K}, ls.length = ks.length → (∀ k ∈ ks, sz (kd k) + 2 ≤ 6 * kn k) → szs (fldD ls (kds ks)) ≤ 6 * kns ks
  | [], [], _, _ => by simp [fldD, kds, szs]
  | l :: ls, k :: ks, h, g => by
    have := szs_fld (ls := ls) (ks := ks) (by simpa using h) fun k hk => g k (by simp [hk])
    have := g k (by simp)
    rw [kds, fldD_cons, szs, kns]
    simp only [sz, szs]; omega
theorem sz_kd {d : Nat} {k : K} (h : WK d k) : sz (kd k) + 2 ≤ 6 * kn k := by
  induction h with
  | num => simp [kd, sz, szs, kn]
  | blk => simp [kd, sz, szs, kn]
  | rc h1 h2 h3 h4 h5 ih =>
    rename_i d ls ks r
    have := szs_fld h1 ih
    have e : sz (rD0 r) = 1 := by cases r <;> simp [rD0, sz]
    simp only [kd, sz, szs, kn, e]; omega
theorem kns_app : ∀ a b : List K, kns (a ++ b) = kns a + kns b
  | [], b => by simp [kns]
  | x :: a, b => by simp only [List.cons_append, kns, kns_app a b]; omega
/-- a state with its budget beside a list of lists of texts -/
def KS2 (S : Sto) (n q M : Nat) (b : Int) : Prop := ∃ (a : Int) (ws : List (List Str)), 0 ≤ a ∧ S[n]? = some (.lst [.int a, .int b]) ∧ S[q]? = some (.lst (ws.map wD)) ∧ (∀ w ∈ ws, WOk w) ∧ ws.length + b.toNat ≤ M
/-- and what is left of the budget behind a kind -/
def KE2 (S : Sto) (n q M B : Nat) (k : K) : Prop := ∃ b, KS2 S n q M b ∧ kn k + 4 * b.toNat ≤ B
theorem pl_kd {d : Nat} {k : K} (h : WK d k) : pl (3 * d) (kd k) = true := by
  induction h with
  | num => rename_i d; rw [show 3 * (d + 1) = (3 * d + 2) + 1 by omega]; simp only [kd, pl, List.all_cons, List.all_nil]; decide +kernel
  | blk => rename_i d n; rw [show 3 * (d + 1) = (3 * d + 2) + 1 by omega]; simp only [kd, pl, List.all_cons, List.all_nil]; decide +kernel
  | rc h1 h2 h3 h4 h5 ih =>
    rename_i d ls ks r
    rw [show 3 * (d + 1) = (3 * d + 2) + 1 by omega]
    simp only [kd, pl, List.all_cons, List.all_nil, Bool.and_true, Bool.and_eq_true]
    refine ⟨by decide +kernel, pl_all fun x hx => ?_, by cases r <;> rfl⟩
    obtain ⟨l, y, e, hl, hy⟩ := mem_fldD hx
    rw [kds_map] at hy
    obtain ⟨b, hb, e'⟩ := List.mem_map.mp hy
    subst e e'
    simp only [pl, List.all_cons, List.all_nil, Bool.and_true, Bool.and_eq_true]
    exact ⟨(h4 l hl).ok, ih b hb⟩
end PM

set_option maxHeartbeats 1000000
/-! PM, part 33: exceptions of the program's own classes -/
namespace PM
open PySem PySem.Spec L2 PyProof.Rows
/-- nothing is let out -/
theorem takesN0 {X : Cx} : L2N.Takes X (fun _ _ _ _ => False) := fun _ _ x => by
  obtain ⟨_, _, _, _, _, _, _, _, _, _, _, _, _, _, _, _, z⟩ := x
  exact z.elim
/-- is an exception of the class x one of t? (classes right below FieldError) -/
def isx (x t : Str) : Bool := decide (t = x) || (decide (t = Str.ofString "FieldError") || decide (t = Str.ofString "ValueError"))
/-- what is known of the class x, at C: it may be raised and asked -/
structure XC (K : PySem.W.Frag) (mg : Str → Option Value) (x : Str) (C : Addr) : Prop where
  g : mg x = some (.ref C)
  x : PySem.W.excIn K C [.type "ValueError", .type "Exception", .type "BaseException", .type "object"] "ValueError.__new__" = true
  k : PySem.W.keepIn K (.ref C) = true
  b : PySem.W.subIn K (.ref C) (.type "BaseException") = some true
  t : PySem.W.typeIn K (.ref C) = some (.type "type")
  i : ExcC K C
/-- raise X('..') -/
def sRaise (x : Str) : Sm := fun δ S => .exc ⟨x, [], []⟩ δ S
section
variable {X : Cx} {W : WX} {x m : Str} {j : Nat} {p p2 pos pos' : Pos} {C : Addr}
theorem ds_raise (hc : X.calm = true) (tk : L2N.Takes X W) (F : XC X.K X.mg x C) (hg : Gl X x) (hdb : (x == ("__debug__" : Str)) = false := by decide) :
    DS X W (.Raise (some (.Call (.Name x p) [.Constant (.str m) j p2] [] pos)) none pos') (sRaise x) :=
  ps_imp (L2N.ps_raise hc tk (L2N.pmk_own PySem.F.excBase_ValueError F.x F.g F.k (raises_own F.b F.t) hg hdb)) fun D σ H ⟨ι, S, δ, rp, rs, g⟩ => g ι H σ _ none .refl rp rs ⟨⟨C, F.g, rfl⟩, .inl ⟨rfl, rfl, rfl⟩⟩
end
/-! ### isinstance of a caught exception -/
def opIsE (a : Addr) (b : Bool) (d : D) (S : Sto) : R D := match d with
  | .exn c => if c = a then .ok (.bl b) S else .stuck
  | _ => .stuck
/-- the pinned object of an exception of the class at C -/
def ObE (C : Addr) (o : Obj) : Prop := o.cls = .ref C ∧ o.dict = none ∧ ∃ vs : Array Value, o.data = .fields vs ∧ vs[2]? = some .none
theorem call_isP {X : Cx} {a C : Addr} {oe : Obj} (hp : (a, oe) ∈ X.pn) (E : ExcC X.K C) (ho : ObE C oe) : CallR X (.builtin "isinstance") (rIsE X.K C a) := by
  rintro pins s σ H xs us Q I r ⟨c, cv, b, rfl, hcv, e, q⟩
  obtain ⟨u1, u2, rfl, r1, r2⟩ := vals2 r
  obtain rfl : u1 = Value.ref a := r1
  obtain rfl := hcv _ r2
  have hget := (I.pin (a, oe) (List.mem_append_left _ hp)).1
  have J : PySem.W.InstAt s.heap a oe C none := by
    obtain ⟨h1, h2, vs, hv, _⟩ := ho
    cases oe
    simp only at h1 h2 hv
    subst h1 h2 hv
    exact ⟨hget, rfl, rfl, trivial⟩
  refine PySem.W.kia_one (PySem.W.handS_kitx_exc E.hg E.hk E.hs E.hd E.ha E.hn E.ht E.hm) I.kIn J e (fun z => nomatch z) fun tk => ?_
  exact ⟨.bl b, H, I.tok tk, rfl, q⟩
section
variable {X : Cx} {W : WX} {a C : Addr} {oe : Obj} {b : Bool} {c : V} {cv : Value} {e : Expr} {me : Em} {y : Str} {p q pos : Pos}
theorem de_isE (hp : (a, oe) ∈ X.pn) (E : ExcC X.K C) (ho : ObE C oe) (hg : Gl X "isinstance") (hm : X.mg "isinstance" = none) (ha : DE X W e me) (hT : PE X (.Name y q) (tC c)) (hcv : ∀ u, RelV c u → u = cv) (hk : PySem.W.kitOne X.K (.ref C) cv = some b)
    (hs : starEach [e, .Name y q] X.env = (false, eval e X.env) :: starEach [.Name y q] X.env := by rfl) (hs2 : starEach [.Name y q] X.env = [(false, eval (.Name y q) X.env)] := by rfl)
    (hpl : (backTo pos (starEach [.Name y q] X.env)).any (·.1) = false := by rfl) : DE X W (.Call (.Name "isinstance" p) [e, .Name y q] [] pos) (mU (opIsE a b) me) :=
  pe_imp (pe_callB (call_isP hp E ho) hg hm (by decide +kernel) (pa_cons ha (pa_cons hT pa_nil hs2) hs) (he := hs) (hpl := hpl)) fun σ H Q h => t_bind h fun ι S δ d v H1 rp rs rd g => by
    unfold opIsE at g
    split at g
    · split at g
      · rename_i ec
        simp only [RD] at rd
        subst ec rd
        exact ⟨c, cv, b, rfl, hcv, hk, g.here rp (by simp only [RD])⟩
      · exact g.elim
    · exact g.elim
/-- int(k) of a truth, int(i) -/
def cIntB (ds : List D) (S : Sto) : R D := match ds with
  | [.bl k] => .ok (.int (if k then 1 else 0)) S
  | [.int i] => .ok (.int i) S
  | _ => .stuck
theorem cIntB_ok : CallD X (.type "int") cIntB := by
  refine ⟨_, call_int1, fun W ι S H xs dxs Q rp rx g => ?_⟩
  unfold cIntB at g
  split at g
  · obtain ⟨v, e, r⟩ := rds_one rx
    simp only [RD] at r
    subst e r
    exact .inr ⟨_, rfl, g.here rp (by simp only [RD])⟩
  · obtain ⟨v, e, r⟩ := rds_one rx
    simp only [RD] at r
    subst e r
    exact .inl ⟨_, rfl, g.here rp (by simp only [RD])⟩
  · exact g.elim
end
/-! ### try: body, except T as n: suite, where the suite returns -/
open Classical in
noncomputable def sTryAs (i : Nat) (ok : Str → Bool) (body : Sm) (suite : Addr → Str → Sm) : Sm := fun δ S => match body δ S with
  | .exc x δ' S' => if h : ok x.cls = true ∧ x.fs = [] ∧ ∃ r : D × Sto, ∀ a, suite a x.cls (δ'.set i (some (.exn a))) S' = .rt r.1 r.2 then .rt (Classical.choose h.2.2).1 (Classical.choose h.2.2).2 else .stuck
  | r => r
theorem sTryAs_nx {i ok body suite δ S δ' S'} (h : body δ S = .nx δ' S') : sTryAs i ok body suite δ S = .nx δ' S' := by unfold sTryAs; rw [h]
theorem sTryAs_rt {i ok body suite δ S d S'} (h : body δ S = .rt d S') : sTryAs i ok body suite δ S = .rt d S' := by unfold sTryAs; rw [h]
theorem sTryAs_exc {i : Nat} {ok : Str → Bool} {body : Sm} {suite : Addr → Str → Sm} {δ δ' : PM.Loc} {S S' S2 : Sto} {y : Str} {d : D} (h : body δ S = .exc ⟨y, [], []⟩ δ' S') (ho : ok y = true) (hs : ∀ a, suite a y (δ'.set i (some (.exn a))) S' = .rt d S2) :
    sTryAs i ok body suite δ S = .rt d S2 := by
  have H : ok y = true ∧ ([] : List Str) = [] ∧ ∃ r : D × Sto, ∀ a, suite a y (δ'.set i (some (.exn a))) S' = .rt r.1 r.2 := ⟨ho, rfl, (d, S2), hs⟩
  unfold sTryAs
  rw [h]
  simp only [dif_pos H]
  have e := (Classical.choose_spec H.2.2 0).symm.trans (hs 0)
  exact e
section
variable {X : Cx} {W : WX} {x n : Str} {c : Value} {i : Nat} {body suite : List Stmt} {b₀ : Stmt} {np pos pos' : Pos} {m : Sm} {ms : Addr → Str → Sm} {ok : Str → Bool}
theorem ds_tryAs (hs : X.stack = X.env :: X.outer) (hf : X.env.frame = some X.env.locals) (hN : X.N.Nodup) (hi : X.N[i]? = some n) (hln : X.env.kindOf n = some .local) (hc : Names X x c) (tk : L2N.Takes X W)
    (hok : ∀ y, ok y = true → ∃ C, XC X.K X.mg y C ∧ PySem.W.exmOne X.K (.ref C) c = some true)
    (hb : ∀ (W' : WX) (pn : List (Addr × Obj)) (xe : Value → Shared → Prop), L2N.Takes (X.tr pn xe) W' → PassesOwn (model X.prog X.w) X.A X.env xe → DSs (X.tr pn xe) W' body m)
    (hsu : ∀ (a : Addr) (oe : Obj) (y : Str) (C : Addr) (pn : List (Addr × Obj)), ok y = true → XC X.K X.mg y C → ObE C oe → DSs (X.suite a ((a, oe) :: pn)) w0 (b₀ :: suite) (ms a y)) :
    DS X W (.Try body [.ExceptHandler (some (.Name x np)) (some n) (b₀ :: suite) pos'] [] [] pos) (sTryAs i ok m ms) := by
  refine ps_imp (L2N.ps_try_as (tb := fun W' => tDS X.ek W' m) (ts := fun a cls d D σ H => ∃ y C, ok y = true ∧ XC X.K X.mg y C ∧ cls = .ref C ∧ d = none ∧ tDS X.ek w0 (ms a y) D σ H)
    hs hf hN hi hln hc tk hb fun a oe cls d pn hz hfd => ⟨fun pins s σ H D I h => ?_⟩) fun D σ H ⟨ι, S, δ, rp, rs, g⟩ => ⟨ι, S, δ, rp, rs, ?_⟩
  · obtain ⟨y, C, h1, h2, rfl, rfl, h3⟩ := h
    obtain ⟨vs, hv⟩ := hfd
    exact (hsu a oe y C pn h1 h2 ⟨hz.1, hz.2.1, vs, hv, hz.2.2 vs hv⟩).run pins s σ H D I h3
  · unfold sTryAs at g
    revert g
    cases m δ S with
    | exc z δ' S' =>
      intro g
      simp only at g
      split at g
      · rename_i h
        intro ι' H' σ' cls dx st rp' rs' rx
        obtain ⟨C, k1, k2⟩ := hok z.cls h.1
        obtain ⟨⟨C', g1, e1⟩, g2⟩ := rx
        have eC : C' = C := by
          have := (show X.mg z.cls = some (.ref C') from g1).symm.trans k1.g
          cases this; rfl
        subst eC e1
        have ed : dx = none := by
          rcases g2 with g2 | ⟨g2, _⟩
          · exact g2.2.2
          · exact absurd h.2.1 g2
        subst ed
        refine ⟨true, k2, fun _ a ha => ⟨z.cls, C', h.1, k1, rfl, rfl, ι', S', _, rp', rs_set (d := .exn a) rs' (by simp only [RD]) i, ?_⟩, fun q => Bool.noConfusion q⟩
        rw [Classical.choose_spec h.2.2 a]
        exact fun ι2 H2 v s2 rp2 r2 => g ι2 H2 v (st.trans s2) rp2 r2
      · exact g.elim
    | _ => exact fun g => g
end
end PM

set_option maxHeartbeats 1000000
/-! PM, part 34: defs that are handed a caught exception, called in the except suite -/
namespace PM
open PySem PySem.Spec L2 PyProof.Rows
abbrev xk0 : XK := fun _ _ _ => False
/-- such a def's promise: c's answer, at the exception of the class at C that is handled -/
def FnE (P : Program) (w : World) (K : PySem.W.Frag) (mg : Str → Option Value) (base : Heap) (k : Nat) (f : Addr) (fd : FuncData) (ps : List Str) (C : Addr) (c : Addr → List D → Sto → R D) : Prop :=
  ∀ (A : Around) (outer : List Env) (s : Shared) (H : Hp) (args : Args) (us : List Value) (vs : List V) (ι : Z) (S : Sto) (ds : List D) (Q : L2.VK) (p : Addr × Obj), L2H.RoomH k A → L2H.Hot1 A p → ObE C p.2 → L2H.PinOk outer H s p →
    Env0 P w K mg base A outer s H → BindsTo s fd args (ps.zip us) → Vals vs us → vs.length = ps.length → Rep H ι ⟨mg, K⟩ S → RDs H ι ds vs → G ⟨mg, K⟩ xk0 ι H RD (c p.1 ds S) Q →
    codeAny (model P w) A (.call (.ref f) args) (CR (L2N.CX P w) outer P w H s Q xk0) s
section
variable {P : Program} {w : World} {K : PySem.W.Frag} {mg : Str → Option Value} {base : Heap}
theorem fnE_of {x qual : Str} {st : Stmt} {f : Addr} {fd : FuncData} {N ps : List Str} {k : Nat} {C : Addr} {body : Addr → Sm} {fin : Fin} (F : Fun K x qual st f fd) (Sc : FnScope N ps (defScope st)) (hf : FinOk fin)
    (h : ∀ (cdv : Value) (A : Around) (outer : List Env) (s : Shared) (H : Hp) (p : Addr × Obj), L2H.Hot1 A p → ObE C p.2 → L2H.RoomH k (A.deeper (envOfC qual (defScope st) s.heap.objs.size f cdv)) →
      DSs (L2H.cxH (L2N.CX P w) P w K mg base N qual (defScope st) f cdv A outer s H xk0 p) w0 (defBody st) (body p.1)) :
    FnE P w K mg base (k + 1) f fd ps C (fun a ds S => fin S (runB (body a) N.length ds S)) := by
  obtain ⟨oc, od, kV, doc, pm, an, cdv, ct, osl, rfl, lk, hcd⟩ := F.ex
  intro A outer s H args us vs ι S ds Q p hr hot hob hpin e0 hb r hl rp rd g
  -- the callee's frame
  have inK : K.In s.heap := e0.mod.kin.keeps fun b o e => (e0.bs b o e).1
  have noLim : s.heap.NoLimit := e0.mod.nolimit.keeps fun b o e => (e0.bs b o e).1
  have kinds : ∀ y ∈ ps.zip us, (defScope st).names.lookup y.1 = some .local ∨ ((defScope st).names.lookup y.1 = some .cell ∧ ((cellsFrom (s.heap.objs.size + 1) (defScope st).names []).lookup y.1).isSome = true) := by
    rintro ⟨n, v⟩ hy
    have hn := (List.of_mem_zip hy).1
    exact (Sc.par n hn).imp id fun q => ⟨q, PySem.W.cellsFrom_some _ _ _ (.inl q)⟩
  refine codeAny_call_function hr.depth (inK _ _ lk) rfl Sc.co Sc.gen rfl (PySem.W.codeRec_of inK hcd) (hb _ _ _ _ ?_)
  refine wpAny_newFunctionEnv_cells Sc.kind kinds fun env he s1 x => ?_
  subst he
  have I := L2H.inv_startH (CX := L2N.CX P w) (qual := qual) (E := xk0) Sc hpin e0 hl r x
  have D := h cdv A outer s H p hot hob (hr.deeper _)
  refine ⟨noLim.keeps x.toInCall.keep, codeAny_func ?_⟩
  have g := hf _ _ _ _ _ _ _ rp g
  have t : tDS ⟨mg, K⟩ w0 (body p.1) { nx := fun _ H' => Q .non H', rt := Q } (L2.start N vs) H := by
    refine ⟨ι, S, _, rp, rst_start rd, ?_⟩
    unfold runB at g
    revert g
    cases body p.1 (ds.map some ++ List.replicate (N.length - ds.length) none) S with
    | nx δ S' => exact fun g ι' H' σ' st rp rs => g ι' H' .non st rp (by simp only [RD])
    | rt d S' => exact fun g ι' H' v st rp r => g ι' H' v st rp r
    | exc c δ S' => exact fun g ι' H' σ' cls dx st rp rs rx => g ι' H' cls dx st rp rx
    | bk δ S' => exact fun g => g.elim
    | ct δ S' => exact fun g => g.elim
    | stuck => exact fun g => g.elim
  refine wpAny_mono (D.run [] s1 (L2.start N vs) H _ I t) (fun fl s' hs => ?_) fun e s' hs => hs
  cases fl with
  | ret u =>
    obtain ⟨v, σ', H', J, rv, q⟩ := hs
    exact ⟨v, H', J.os, J.bare, J.base, J.hok, rv, q⟩
  | next =>
    obtain ⟨σ', H', J, q⟩ := hs
    exact ⟨V.non, H', J.os, J.bare, J.base, J.hok, rfl, q⟩
  | brk =>
    obtain ⟨_, _, _, q⟩ := hs
    exact q.elim
  | cont =>
    obtain ⟨_, _, _, q⟩ := hs
    exact q.elim
end
structure HasE (P : Program) (w : World) (K : PySem.W.Frag) (mg : Str → Option Value) (base : Heap) (k : Nat) (x : Str) (n : Nat) (C : Addr) (c : Addr → List D → Sto → R D) : Prop where
  ex : ∃ (f : Addr) (fd : FuncData) (ps : List Str), FnE P w K mg base k f fd ps C c ∧ mg x = some (.ref f) ∧ PySem.W.keepIn K (.ref f) = true ∧ Binds K fd ps [] ∧ ps.length = n
section
variable {X : Cx} {a C : Addr} {oe : Obj} {pn : List (Addr × Obj)} {x : Str} {e : Expr} {es : List Expr} {am : Am} {k n : Nat} {p pos : Pos} {cf : Addr → List D → Sto → R D}
theorem de_callE (F : HasE X.prog X.w X.K X.mg X.base k x n C cf) (hr : L2H.RoomH k X.A) (ho : ObE C oe) (hg : Gl (X.suite a ((a, oe) :: pn)) x) (ha : DAL (X.suite a ((a, oe) :: pn)) w0 (e :: es) am n)
    (hdb : (x == ("__debug__" : Str)) = false := by decide) (he : starEach (e :: es) X.env = (false, eval e X.env) :: starEach es X.env := by rfl) (hpl : (backTo pos (starEach es X.env)).any (·.1) = false := by rfl) :
    DE (X.suite a ((a, oe) :: pn)) w0 (.Call (.Name x p) (e :: es) [] pos) (mApp (cf a) am) := by
  obtain ⟨f, fd, ps, Fe, hm, hk, hb, hps⟩ := F.ex
  refine ⟨fun pins s σ H Q I ⟨ι, S, δ, rp, rs, g⟩ => ?_⟩
  refine wpAny_Call_Name_kw (ld_glob I hg hm ?_ hdb)
  -- the arguments
  have ta : tD X.ek w0 RDs am σ H fun vs H1 => ∃ ι1 S1 ds, vs.length = ps.length ∧ Rep H1 ι1 X.ek S1 ∧ RDs H1 ι1 ds vs ∧ G X.ek xk0 ι1 H1 RD (cf a ds S1) Q := by
    refine ⟨ι, S, δ, rp, rs, ?_⟩
    have q := G.bind (Rl := RDs) g
    cases e1 : am δ S with
    | ok ds S1 =>
      rw [e1] at q
      intro ι' H' vs st rp' rd'
      obtain ⟨ι1, S2, ds2, st1, rp1, rd1, g1⟩ := q ι' H' vs st rp' rd'
      exact ⟨ι1, S2, ds2, by rw [← rd'.length, hps]; exact ha.2 _ _ _ _ e1, rp1, rd1, g1⟩
    | exc c S1 => rw [e1] at q; exact q
    | stuck => rw [e1] at q; exact q
  refine PySem.W.callWith_K (h₀ := X.base) I.ok.mod.kin hk (thn (ha.1.run pos pins s σ H _ I ta) fun us s1 ⟨vs, H1, I1, r, ι1, S1, ds, hlen, rp1, rd1, g1⟩ => ⟨I1.kIn, ?_⟩) he hpl
  -- the call
  have hot : L2H.Hot1 (X.suite a ((a, oe) :: pn)).A (a, oe) := ⟨rfl, ho.2.2⟩
  have hpn : (a, oe) ∈ (X.suite a ((a, oe) :: pn)).pn ++ pins := List.mem_append_left _ List.mem_cons_self
  have P1 := I1.pin (a, oe) hpn
  have hpin : L2H.PinOk (X.suite a ((a, oe) :: pn)).stack H1 s1 (a, oe) := ⟨P1.1, P1.2.1, fun hm => by
    rcases List.mem_cons.mp (I1.stkSub a hm) with z | z
    · exact P1.2.2.1 z
    · exact P1.2.2.2.1 z, P1.2.2.2.2⟩
  have bb := hb s1 us I1.kIn (by rw [List.append_nil, ← r.length]; exact hlen)
  rw [List.append_nil] at bb
  have hr' : L2H.RoomH k (X.suite a ((a, oe) :: pn)).A := ⟨hr.dp, hr.un⟩
  refine wpAny_call (codeAny_mono (Fe _ _ s1 H1 ⟨us, []⟩ us vs ι1 S1 ds Q (a, oe) hr' hot ho hpin I1.env0 bb r hlen rp1 rd1 g1) fun rr s' hq => ?_)
  cases rr with
  | error u =>
    obtain ⟨_, _, _, _, _, _, _, _, _, _, _, _, z⟩ := hq
    exact z.elim
  | ok fl =>
    cases fl with
    | ret u => exact I1.after hq
    | _ => exact hq.elim
end
end PM

set_option maxHeartbeats 1000000
/-! PM, part 35: dicts walked by their keys (locked meanwhile) -/
namespace PM
open PySem PySem.Spec L2
theorem RSt.mono0 {ι ι' : Z} {H H' : Hp} (s : L0 ι H ι' H') {δ : PM.Loc} {σ : L2.St} (h : RSt H ι δ σ) : RSt H' ι' δ σ :=
  ⟨h.len, fun i d e => let ⟨v, e2, r⟩ := h.at' i d e; ⟨v, e2, RD.mono0 s d v r⟩⟩
section
variable {ι ι' : Z} {H H' : Hp} {mg : EnvK} {S S' : Sto} {n : Nat} {a : Addr} {ks : List Key} {ds : List D}
theorem lock_rep (rp : Rep H ι mg S) (hn : ι.a[n]? = some a) (hS : S[n]? = some (.dK ks ds)) :
    ∃ vs, H a = some (.dK (ks.zip vs)) ∧ ∀ od, Rep (upd H a (.frz od (.dK (ks.zip vs)))) ι mg (S.set n (.dKL ks ds)) ∧ Step ι H ι (upd H a (.frz od (.dK (ks.zip vs)))) := by
  obtain ⟨vs, h3, hz, hl, h4⟩ := rp.obj n a _ hn hS
  have hm : ∀ u, H a = some u → Mk u := fun u e => by rw [h3] at e; cases e; exact .intro (fun _ _ q => nomatch q) (fun _ _ q => nomatch q)
  refine ⟨vs, h3, fun od => rp.write (m := .dKL ks ds) (o := .frz od (.dK (ks.zip vs))) hn hm ⟨od, vs, upd_same, hz, hl, h4.mono (Lift.write (.inl (List.mem_of_getElem? hn)) hm)⟩⟩
theorem unlock_l0 {od : Obj} {kvs : List (Key × V)} (ha : a ∈ ι'.a) (hH : H' a = some (.frz od (.dK kvs))) : L0 ι' H' ι' (upd H' a (.dK kvs)) := by
  have ne : ∀ {b : Addr}, ι'.no b → b ≠ a := fun h e => h.1 (e ▸ ha)
  refine ⟨fun _ _ h => h, fun b xs h => h.keep ?_, fun b xs h e => ⟨by rw [upd_ne (ne h)]; exact e, h⟩, fun b o xs e => ?_, fun b xs h e => ⟨rd_upd_ne e (ne h), h⟩, rfl⟩
  · rintro rfl
    obtain ⟨o, h, _⟩ := h
    rw [hH] at h; cases h
  · rw [upd_ne (by rintro rfl; rw [hH] at e; cases e)]; exact e
theorem unlock_rep {od : Obj} {kvs : List (Key × V)} (rp : Rep H' ι' mg S') (hn : ι'.a[n]? = some a) (hS : S'[n]? = some (.dKL ks ds)) (hH : H' a = some (.frz od (.dK kvs))) :
    Rep (upd H' a (.dK kvs)) ι' mg (S'.set n (.dK ks ds)) := by
  have ha := List.mem_of_getElem? hn
  have s0 := unlock_l0 (ι' := ι') ha hH
  obtain ⟨o, vs, h3, hz, hl, h4⟩ := rp.obj n a _ hn hS
  rw [hH] at h3
  cases h3
  refine ⟨rp.kk, by simpa using rp.len, rp.nd, fun x hx => ?_, fun k b m h1 h2 => ?_⟩
  · obtain ⟨h1, u, e, q⟩ := rp.bt x hx
    exact ⟨h1, u, by rw [upd_ne (by rintro rfl; exact h1 ha)]; exact e, q⟩
  · by_cases hk : n = k
    · subst hk
      rw [hn] at h1; cases h1
      have hlt : n < S'.length := by rw [← rp.len]; exact (List.getElem?_eq_some_iff.mp hn).1
      rw [List.getElem?_set_self hlt] at h2; cases h2
      exact ⟨vs, upd_same, hz, hl, RDs.mono0 s0 _ _ h4⟩
    · rw [List.getElem?_set_ne hk] at h2
      refine RO.mono0 s0 (upd_ne ?_) (rp.obj k b m h1 h2)
      rintro rfl
      obtain ⟨l1, e1⟩ := List.getElem?_eq_some_iff.mp hn
      obtain ⟨l2, e2⟩ := List.getElem?_eq_some_iff.mp h1
      exact hk ((List.getElem_inj rp.nd).mp (e1.trans e2.symm))
theorem unlock_step {u v : HO} (rp : Rep H ι mg S) (ha : a ∈ ι.a) (hH : H a = some (.dK ks')) (st : Step ι (upd H a u) ι' H') : Step ι H ι' (upd H' a v) := by
  have ne : ∀ {b : Addr}, ι.no b → b ≠ a := fun h e => h.1 (e ▸ ha)
  have nf : ∀ {b : Addr} {o : Obj} {x : HO}, H b = some (.frz o x) → b ≠ a := fun h e => by rw [e, hH] at h; cases h
  refine ⟨⟨st.up.pre, fun b xs h => ?_, fun b xs h e => ?_, fun b o xs e => ?_, fun b xs h e => ?_, st.up.kk, fun b o x e => ?_⟩, st.bb, fun x hx o e => ?_⟩
  · have nb : b ≠ a := by
      rintro rfl
      obtain ⟨o, h, _⟩ := h
      rw [hH] at h; cases h
    exact (st.up.tup b xs (h.keep nb)).keep nb
  · obtain ⟨h1, h2⟩ := st.up.lst b xs h (by rw [upd_ne (ne h)]; exact e)
    exact ⟨by rw [upd_ne (ne h)]; exact h1, h2⟩
  · rw [upd_ne (nf e)]
    exact st.up.scr b o xs (by rw [upd_ne (nf e)]; exact e)
  · obtain ⟨h1, h2⟩ := st.up.dct b xs h (rd_upd_ne e (ne h))
    exact ⟨rd_upd_ne h1 (ne h), h2⟩
  · rw [upd_ne (nf e)]
    exact st.up.frz b o x (by rw [upd_ne (nf e)]; exact e)
  · have nb : x ≠ a := fun z => (rp.bt x hx).1 (z ▸ ha)
    rw [upd_ne nb]
    exact st.hid x hx o (by rw [upd_ne nb]; exact e)
end
/-! ### statements, expressions under a lock -/
def unlk (n : Nat) (S : Sto) (k : Sto → RS) : RS := match S[n]? with
  | some (.dKL ks ds) => k (S.set n (.dK ks ds))
  | _ => .stuck
def lockS (i : Nat) (m : Sm) : Sm := fun δ S => match δ[i]? with
  | some (some (.ref n)) => match S[n]? with
    | some (.dK ks ds) => match m δ (S.set n (.dKL ks ds)) with
      | .nx δ' S' => unlk n S' (.nx δ')
      | .rt d S' => unlk n S' (.rt d)
      | .bk δ' S' => unlk n S' (.bk δ')
      | .ct δ' S' => unlk n S' (.ct δ')
      | .exc c δ' S' => .exc c δ' S'
      | .stuck => .stuck
    | _ => .stuck
  | _ => .stuck
def lockE (i : Nat) (m : Em) : Em := fun δ S => match δ[i]? with
  | some (some (.ref n)) => match S[n]? with
    | some (.dK ks ds) => (m δ (S.set n (.dKL ks ds))).bind fun d S' => match S'[n]? with
      | some (.dKL ks ds) => .ok d (S'.set n (.dK ks ds))
      | _ => .stuck
    | _ => .stuck
  | _ => .stuck
section
variable {X : Cx} {W : WX} {st : Stmt} {e : Expr} {m : Sm} {me : Em} {i : Nat}
theorem ds_lock (h : DS X W st m) : DS X W st (lockS i m) := ps_imp (ps_lock h) fun D σ H ⟨ι, S, δ, rp, rs, g⟩ => by
  unfold lockS at g
  split at g
  · rename_i n hd
    obtain ⟨v, ev, rv⟩ := rs.at' i _ hd
    simp only [RD] at rv
    obtain ⟨a, e, hn⟩ := rv
    split at g
    · rename_i ks ds hS
      obtain ⟨vs, hH, hl⟩ := lock_rep rp hn hS
      refine ⟨a, _, hH, trivial, fun od => ?_⟩
      obtain ⟨rp1, st1⟩ := hl od
      refine ⟨ι, _, δ, rp1, rs.mono st1.up, ?_⟩
      have ha := List.mem_of_getElem? hn
      have hf : ∀ {ι' : Z} {H' : Hp}, Step ι (upd H a (.frz od (.dK (ks.zip vs)))) ι' H' → H' a = some (.frz od (.dK (ks.zip vs))) ∧ ι'.a[n]? = some a ∧ Step ι H ι' (upd H' a (.dK (ks.zip vs))) := fun s2 =>
        ⟨s2.up.frz a _ _ upd_same, s2.up.pre n a hn, unlock_step rp ha hH s2⟩
      revert g
      cases m δ (S.set n (.dKL ks ds)) with
      | nx δ' S' =>
        intro g ι' H' σ' s2 rp2 rs2
        obtain ⟨q1, q2, q3⟩ := hf s2
        simp only [unlk] at g
        split at g
        · rename_i hS2
          exact ⟨q1, g ι' _ σ' q3 (unlock_rep rp2 q2 hS2 q1) (rs2.mono0 (unlock_l0 (List.mem_of_getElem? q2) q1))⟩
        · exact g.elim
      | bk δ' S' =>
        intro g ι' H' σ' s2 rp2 rs2
        obtain ⟨q1, q2, q3⟩ := hf s2
        simp only [unlk] at g
        split at g
        · rename_i hS2
          exact ⟨q1, g ι' _ σ' q3 (unlock_rep rp2 q2 hS2 q1) (rs2.mono0 (unlock_l0 (List.mem_of_getElem? q2) q1))⟩
        · exact g.elim
      | ct δ' S' =>
        intro g ι' H' σ' s2 rp2 rs2
        obtain ⟨q1, q2, q3⟩ := hf s2
        simp only [unlk] at g
        split at g
        · rename_i hS2
          exact ⟨q1, g ι' _ σ' q3 (unlock_rep rp2 q2 hS2 q1) (rs2.mono0 (unlock_l0 (List.mem_of_getElem? q2) q1))⟩
        · exact g.elim
      | rt d S' =>
        intro g ι' H' v s2 rp2 r2
        obtain ⟨q1, q2, q3⟩ := hf s2
        simp only [unlk] at g
        split at g
        · rename_i hS2
          exact ⟨q1, g ι' _ v q3 (unlock_rep rp2 q2 hS2 q1) (RD.mono0 (unlock_l0 (List.mem_of_getElem? q2) q1) d v r2)⟩
        · exact g.elim
      | exc c δ' S' => exact fun g ι' H' σ' cls dx s2 rp2 rs2 rx => g ι' H' σ' cls dx (st1.trans s2) rp2 rs2 rx
      | stuck => exact fun g => g.elim
    · exact g.elim
  · exact g.elim
theorem de_lock (h : DE X W e me) : DE X W e (lockE i me) := pe_imp (pe_lock h) fun σ H Q ⟨ι, S, δ, rp, rs, g⟩ => by
  unfold lockE at g
  split at g
  · rename_i n hd
    obtain ⟨v, ev, rv⟩ := rs.at' i _ hd
    simp only [RD] at rv
    obtain ⟨a, e, hn⟩ := rv
    split at g
    · rename_i ks ds hS
      obtain ⟨vs, hH, hl⟩ := lock_rep rp hn hS
      refine ⟨a, _, hH, trivial, fun od => ?_⟩
      obtain ⟨rp1, st1⟩ := hl od
      refine ⟨ι, _, δ, rp1, rs.mono st1.up, ?_⟩
      have ha := List.mem_of_getElem? hn
      revert g
      cases me δ (S.set n (.dKL ks ds)) with
      | ok d S' =>
        intro g ι' H' v s2 rp2 r2
        have q1 := s2.up.frz a _ _ (upd_same (o := .frz od (.dK (ks.zip vs))))
        have q2 := s2.up.pre n a hn
        simp only [R.bind_ok] at g
        split at g
        · rename_i hS2
          exact ⟨q1, g ι' _ v (unlock_step rp ha hH s2) (unlock_rep rp2 q2 hS2 q1) (RD.mono0 (unlock_l0 (List.mem_of_getElem? q2) q1) d v r2)⟩
        · exact g.elim
      | exc c S' => exact fun g ι' H' cls dx s2 rp2 rx => g ι' H' cls dx (st1.trans s2) rp2 rx
      | stuck => exact fun g => g.elim
    · exact g.elim
  · exact g.elim
/-- the keys of a locked dict -/
def sKeys (e : Em) : Src := fun δ S => (e δ S).bind fun d S1 => match d with
  | .ref n => match S1[n]? with
    | some (.dKL ks ds) => if ks.all keyFit = true then .ok (ks.map keyD, fun S => S[n]? = some (.dKL ks ds)) S1 else .stuck
    | _ => .stuck
  | _ => .stuck
theorem rd_keyD {H : Hp} {ι : Z} {k : Key} (h : keyFit k = true) : RD H ι (keyD k) (kV k) := by
  cases k with
  | inl i => simp only [keyD, RD]; rfl
  | inr s => simp only [keyD, RD]; exact ⟨rfl, of_decide_eq_true h⟩
theorem di_keys {tg : Expr} (he : DE X W e me) : DI X W tg e (sKeys me) :=
  pi_imp (pi_keys he) fun σ H R h => t_bind h fun ι S δ d v H1 rp rs rd g => by
    cases d with
    | ref n =>
      simp only [RD] at rd
      obtain ⟨a, e, hn⟩ := rd
      dsimp only at g
      split at g
      · rename_i ks ds hS
        split at g
        · rename_i hk
          obtain ⟨o, vs, h3, hz, hl, h4⟩ := rp.obj n a _ hn hS
          have hlen : (ks.zip vs).length = ks.length := by rw [List.length_zip, ← h4.length, hz]; simp
          refine ⟨a, o, e, .inl ⟨ks.zip vs, h3, g.here rp ⟨by rw [List.length_map]; exact hl, fun j H2 ι2 S2 lf rp2 gr => ?_⟩⟩⟩
          have hf := lf.frz a _ _ h3
          rw [List.length_map]
          refine ⟨fun hj => ⟨⟨hf, by rw [hlen]; exact hj⟩, fun x H3 ⟨e3, k, v, e4, e5⟩ => ?_⟩, fun hj => ⟨hf, by rw [hlen]; exact hj⟩⟩
          subst e3 e5
          have hkj : ks[j]? = some k := by
            have := List.getElem?_zip_eq_some.mp e4
            exact this.1
          refine ⟨keyD k, by rw [List.getElem?_map, hkj]; rfl, .refl, rp2, rd_keyD (List.all_eq_true.mp hk k (List.mem_of_getElem? hkj))⟩
        · exact g.elim
      · exact g.elim
    | _ => exact g.elim
end
end PM

set_option maxHeartbeats 1000000
/-! PM, part 36: get, setdefault, pop, clear of dicts; copies -/
namespace PM
open PySem PySem.Spec L2
section
variable {X : Cx} {W : WX} {o e f : Expr} {mo me mf : Em} {apos cpos : Pos}
def isDct (S : Sto) (x : D) : Bool := (dkOf S x).isSome
theorem isDct_ok {H : Hp} {ι : Z} {mg : EnvK} {S : Sto} {d : D} {v : V} (rp : Rep H ι mg S) (r : RD H ι d v) (h : isDct S d = true) : ∃ a, v = .ref a ∧ IsD H a := by
  unfold isDct at h
  obtain ⟨p, hp⟩ := Option.isSome_iff_exists.mp h
  obtain ⟨a, vs, e, h1, _⟩ := dkOf_ok rp r hp
  exact ⟨a, e, .inl ⟨_, h1⟩⟩
def mD3 (k : D → D → D → Sto → R D) (o e f : Em) : Em := fun δ S => (o δ S).bind fun x S1 => if isDct S1 x = true then (e δ S1).bind fun y S2 => (f δ S2).bind fun z S3 => k x y z S3 else .stuck
/-- the three are worked out, the first a dict -/
theorem d3_bind {k : D → D → D → Sto → R D} {T : Addr → V → V → L2.VK → Hp → Prop} {σ : L2.St} {H : Hp} {Q : L2.VK} (h : tDE X.ek W (mD3 k mo me mf) σ H Q)
    (hk : ∀ (W' : XK) (ι : Z) (S : Sto) (H : Hp) (a : Addr) (y z : V) (dx dy dz : D), Rep H ι X.ek S → RD H ι dx (.ref a) → RD H ι dy y → RD H ι dz z → G X.ek W' ι H RD (k dx dy dz S) Q → T a y z Q H) :
    tDE X.ek W mo σ H fun x H1 => ∃ a, x = .ref a ∧ IsD H1 a ∧ tDE X.ek W me σ H1 fun y H2 => tDE X.ek W mf σ H2 fun z H3 => T a y z Q H3 := by
  obtain ⟨ι, S, δ, rp, rs, g⟩ := h
  refine ⟨ι, S, δ, rp, rs, (G.bind g).imp fun v H1 ⟨ι1, S1, d, st, rp1, rd, g1⟩ => ?_⟩
  split at g1
  · rename_i hd
    obtain ⟨a, e, hi⟩ := isDct_ok rp1 rd hd
    subst e
    refine ⟨a, rfl, hi, ι1, S1, δ, rp1, rs.mono st.up, (G.bind g1).imp fun y H2 ⟨ι2, S2, dy, st2, rp2, ry, g2⟩ => ?_⟩
    exact ⟨ι2, S2, δ, rp2, rs.mono (st.trans st2).up, (G.bind g2).imp fun z H3 ⟨ι3, S3, dz, st3, rp3, rz, g3⟩ => hk _ ι3 S3 H3 a y z d dy dz rp3 (rd.mono (st2.trans st3).up) (ry.mono st3.up) rz g3⟩
  · exact g1.elim
def kGet (x y z : D) (S : Sto) : R D := match dget S x y with
  | some (some v) => .ok v S
  | some none => .ok z S
  | none => .stuck
theorem de_dget2 (hr : Ru X.A) (ho : DE X W o mo) (he : DE X W e me) (hf : DE X W f mf) (m : M2 X o "get" apos e f cpos) : DE X W (.Call (.Attribute o "get" apos) [e, f] [] cpos) (mD3 kGet mo me mf) :=
  pe_imp (pe_dget2 hr.hu ho he hf m) fun σ H Q h => d3_bind (T := fun a y z Q H => ∃ o, DGet H a y o ∧ Q (o.getD z) H) h fun W' ι S H a y z dx dy dz rp rx ry rz g => by
    unfold kGet at g
    split at g
    · rename_i v hv
      obtain ⟨b, ov, e1, g1, w, e2, r2⟩ := dget_ok rp rx ry hv
      cases e1
      exact ⟨ov, g1, by rw [e2]; exact g.here rp r2⟩
    · rename_i hv
      obtain ⟨b, ov, e1, g1, e2⟩ := dget_ok rp rx ry hv
      cases e1
      have e2 : ov = none := e2
      exact ⟨ov, g1, by rw [e2]; exact g.here rp rz⟩
    · exact g.elim
/-- setdefault of an object's dict -/
def kSetd (x y z : D) (S : Sto) : R D := match x with
  | .ref n => match S[n]? with
    | some (.dK ks ds) => match keyOf y with
      | some k => if ks.length < sizeLine then (match getK ks ds k with
        | some v => .ok v S
        | none => .ok z (S.set n (.dK (insK ks k) (insD ks ds k z)))) else .stuck
      | none => .stuck
    | _ => .stuck
  | _ => .stuck
theorem de_dsetd (ho : DE X W o mo) (he : DE X W e me) (hf : DE X W f mf) (m : M2 X o "setdefault" apos e f cpos) : DE X W (.Call (.Attribute o "setdefault" apos) [e, f] [] cpos) (mD3 kSetd mo me mf) :=
  pe_imp (pe_dsetd ho he hf m) fun σ H Q h => d3_bind (T := fun a y z Q H => ∃ (kvs : List (Key × V)) (k : Key), H a = some (.dK kvs) ∧ y = kV k ∧ kvs.length < sizeLine ∧ (∀ v, valV kvs k = some v → Q v H) ∧ (valV kvs k = none → Q z (upd H a (.dK (putK kvs k z))))) h fun W' ι S H a y z dx dy dz rp rx ry rz g => by
    unfold kSetd at g
    split at g
    · rename_i n
      simp only [RD] at rx
      obtain ⟨b, eb, h1⟩ := rx
      cases eb
      split at g
      · rename_i ks ds hS
        obtain ⟨vs, h3, hl, hz, h4⟩ := rp.obj n a _ h1 hS
        split at g
        · rename_i k hk
          split at g
          · rename_i hlt
            have lv : (ks.zip vs).length = ks.length := by rw [List.length_zip, ← h4.length, hl]; simp
            have ov := getK_val (k := k) hl h4
            refine ⟨ks.zip vs, k, h3, keyOf_ok ry hk, by rw [lv]; exact hlt, fun v hv => ?_, fun hv => ?_⟩
            · rw [hv] at ov
              split at g
              · rename_i d hd
                rw [hd] at ov
                obtain ⟨w, e2, r2⟩ := ov
                cases e2
                exact g.here rp r2
              · rename_i hd
                rw [hd] at ov
                cases ov
            · rw [hv] at ov
              split at g
              · rename_i d hd
                rw [hd] at ov
                obtain ⟨w, e2, r2⟩ := ov
                cases e2
              · obtain ⟨ws0, p1, p2, p3⟩ := insK_put (k := k) hl h4 rz
                have hm : ∀ u, H a = some u → Mk u := fun _ e' => by rw [h3] at e'; cases e'; exact .intro (fun _ _ q => nomatch q) (fun _ _ q => nomatch q)
                have st : Lift ι H ι (upd H a (.dK ((insK ks k).zip ws0))) := Lift.write (.inl (List.mem_of_getElem? h1)) hm
                obtain ⟨rp2, st2⟩ := rp.write (m := .dK (insK ks k) (insD ks ds k dz)) (o := .dK ((insK ks k).zip ws0)) h1 hm ⟨_, upd_same, p2, by have := insK_len ks k; omega, p3.mono st⟩
                rw [p1]
                exact g.at st2 rp2 (rz.mono st)
          · exact g.elim
        · exact g.elim
      · exact g.elim
    · exact g.elim
def delK (ks : List Key) (k : Key) : List Key := ks.filter fun j => decide (j ≠ k)
def delD : List Key → List D → Key → List D
  | j :: ks, d :: ds, k => if j = k then delD ks ds k else d :: delD ks ds k
  | _, _, _ => []
theorem del_drop {H : Hp} {ι : Z} {k : Key} : ∀ {ks : List Key} {ds : List D} {vs : List V}, ks.length = ds.length → RDs H ι ds vs →
    ∃ ws, dropK (ks.zip vs) k = (delK ks k).zip ws ∧ (delK ks k).length = (delD ks ds k).length ∧ (delK ks k).length ≤ ks.length ∧ RDs H ι (delD ks ds k) ws
  | [], [], vs, _, r => by
    simp only [RDs] at r
    subst r
    exact ⟨[], rfl, rfl, Nat.le_refl _, .nil⟩
  | j :: ks, d :: ds, vs, h, r => by
    simp only [RDs] at r
    obtain ⟨v, w, e, r1, r2⟩ := r
    subst e
    obtain ⟨ws, h1, h2, h3, h4⟩ := del_drop (k := k) (by simpa using h) r2
    by_cases c : j = k
    · refine ⟨ws, ?_, ?_, ?_, ?_⟩
      · rw [List.zip_cons_cons, dropK, List.filter_cons_of_neg (by simp [c]), delK, List.filter_cons_of_neg (by simp [c])]; exact h1
      · rw [delK, List.filter_cons_of_neg (by simp [c]), delD, if_pos c]; exact h2
      · rw [delK, List.filter_cons_of_neg (by simp [c])]; exact Nat.le_succ_of_le h3
      · rw [delD, if_pos c]; exact h4
    · refine ⟨v :: ws, ?_, ?_, ?_, ?_⟩
      · rw [List.zip_cons_cons, dropK, List.filter_cons_of_pos (by simp [c]), delK, List.filter_cons_of_pos (by simp [c]), List.zip_cons_cons]
        exact congrArg _ h1
      · rw [delK, List.filter_cons_of_pos (by simp [c]), delD, if_neg c, List.length_cons, List.length_cons]; exact congrArg _ h2
      · rw [delK, List.filter_cons_of_pos (by simp [c]), List.length_cons, List.length_cons]; exact Nat.succ_le_succ h3
      · rw [delD, if_neg c]; exact .cons r1 h4
/-- pop with a default -/
def kPop (x y z : D) (S : Sto) : R D := match x with
  | .ref n => match S[n]? with
    | some (.dK ks ds) => match keyOf y with
      | some k => match getK ks ds k with
        | some v => .ok v (S.set n (.dK (delK ks k) (delD ks ds k)))
        | none => .ok z S
      | none => .stuck
    | _ => .stuck
  | _ => .stuck
theorem de_dpop2 (ho : DE X W o mo) (he : DE X W e me) (hf : DE X W f mf) (m : M2 X o "pop" apos e f cpos) : DE X W (.Call (.Attribute o "pop" apos) [e, f] [] cpos) (mD3 kPop mo me mf) :=
  pe_imp (pe_dpop2 ho he hf m) fun σ H Q h => d3_bind (T := fun a y z Q H => ∃ kvs k, H a = some (.dK kvs) ∧ y = kV k ∧ (∀ v, valV kvs k = some v → Q v (upd H a (.dK (dropK kvs k)))) ∧ (valV kvs k = none → Q z H)) h fun W' ι S H a y z dx dy dz rp rx ry rz g => by
    unfold kPop at g
    split at g
    · rename_i n
      simp only [RD] at rx
      obtain ⟨b, eb, h1⟩ := rx
      cases eb
      split at g
      · rename_i ks ds hS
        obtain ⟨vs, h3, hl, hz, h4⟩ := rp.obj n a _ h1 hS
        split at g
        · rename_i k hk
          have ov := getK_val (k := k) hl h4
          refine ⟨ks.zip vs, k, h3, keyOf_ok ry hk, fun v hv => ?_, fun hv => ?_⟩
          · rw [hv] at ov
            split at g
            · rename_i d hd
              rw [hd] at ov
              obtain ⟨w, e2, r2⟩ := ov
              cases e2
              obtain ⟨ws0, p1, p2, p3, p4⟩ := del_drop (k := k) hl h4
              have hm : ∀ u, H a = some u → Mk u := fun _ e' => by rw [h3] at e'; cases e'; exact .intro (fun _ _ q => nomatch q) (fun _ _ q => nomatch q)
              have st : Lift ι H ι (upd H a (.dK ((delK ks k).zip ws0))) := Lift.write (.inl (List.mem_of_getElem? h1)) hm
              obtain ⟨rp2, st2⟩ := rp.write (m := .dK (delK ks k) (delD ks ds k)) (o := .dK ((delK ks k).zip ws0)) h1 hm ⟨_, upd_same, p2, Nat.le_trans p3 hz, p4.mono st⟩
              rw [p1]
              exact g.at st2 rp2 (r2.mono st)
            · rename_i hd
              rw [hd] at ov
              cases ov
          · rw [hv] at ov
            split at g
            · rename_i d hd
              rw [hd] at ov
              obtain ⟨w, e2, r2⟩ := ov
              cases e2
            · exact g.here rp rz
        · exact g.elim
      · exact g.elim
    · exact g.elim
/-- dict(d), d a dict: a copy that may be changed -/
def cDictC (ds : List D) (S : Sto) : R D := match ds with
  | [d] => match dkOf S d with
    | some p => .ok (.ref S.length) (S ++ [.dK p.1 p.2])
    | none => .stuck
  | _ => .stuck
theorem call_dcopy : CallR X (.type "dict") (fun xs H Q => ∃ a kvs, xs = [V.ref a] ∧ Rd H a (.dK kvs) ∧ kvs.length ≤ sizeLine ∧ ∀ p, H p = none → Q (.ref p) (upd H p (.dK kvs))) := by
  rintro pins s σ H xs us Q I r ⟨a, kvs, rfl, h1, hz, q⟩
  obtain ⟨u, rfl, ru⟩ := vals1 r
  obtain rfl : u = Value.ref a := ru
  exact d_copyOf I h1 fun p s' hp I' => ⟨.ref p, _, I', rfl, q p hp⟩
theorem cDictC_ok : CallD X (.type "dict") cDictC := by
  refine ⟨_, call_dcopy, fun W ι S H xs dxs Q rp rx q => ?_⟩
  unfold cDictC at q
  split at q
  · rename_i d
    obtain ⟨v, e, r⟩ := rds_one rx
    subst e
    split at q
    · rename_i p hp
      obtain ⟨a, vs, e, h1, hl, h2⟩ := dkOf_ok rp r hp
      subst e
      have hz : p.1.length ≤ sizeLine := by
        cases d with
        | dct ks ds =>
          simp only [dkOf, Option.some.injEq] at hp; subst hp
          simp only [RD] at r
          obtain ⟨_, _, _, _, _, _, y, _⟩ := r
          exact y
        | ref n =>
          simp only [RD] at r
          obtain ⟨a, e, hn⟩ := r
          obtain ⟨o, e2, ro⟩ := rp.has hn
          simp only [dkOf, e2] at hp
          cases o with
          | dK ks ds =>
            simp only [Option.some.injEq] at hp; subst hp
            obtain ⟨_, _, _, y, _⟩ := ro
            exact y
          | dKL ks ds =>
            simp only [Option.some.injEq] at hp; subst hp
            obtain ⟨_, _, _, _, y, _⟩ := ro
            exact y
          | _ => cases hp
        | _ => cases hp
      have lv : (p.1.zip vs).length = p.1.length := by rw [List.length_zip, ← h2.length, hl]; simp
      refine ⟨a, _, rfl, h1, by rw [lv]; exact hz, fun c hc => ?_⟩
      have q2 := rep_newRef (m := .dK p.1 p.2) (u := .dK (p.1.zip vs)) rp hc ⟨vs, upd_same, hl, hz, h2.mono (Step.newRef hc).up⟩
      exact q.at (Step.newRef hc) q2.1 q2.2
    · exact q.elim
  · exact q.elim
/-- clear, of an object's dict -/
def mDClear (o : Em) : Em := fun δ S => (o δ S).bind fun x S1 => match x with
  | .ref n => match S1[n]? with
    | some (.dK _ _) => .ok .non (S1.set n (.dK [] []))
    | _ => .stuck
  | _ => .stuck
theorem de_dclear (ho : DE X W o mo) (hbase : attributeBase o "clear" X.env (eval o X.env) = eval o X.env := by rfl) (hline : (apos.endLine == cpos.line) = true := by rfl) : DE X W (.Call (.Attribute o "clear" apos) [] [] cpos) (mDClear mo) :=
  pe_imp (pe_dclear ho hbase hline) fun σ H Q h => t_bind h fun ι S δ d v H1 rp rs rd g => by
    cases d with
    | ref n =>
      simp only [RD] at rd
      obtain ⟨a, e, h1⟩ := rd
      subst e
      dsimp only at g
      split at g
      · rename_i ks ds hS
        obtain ⟨vs, h3, hl, hz, h4⟩ := rp.obj n a _ h1 hS
        have hm : ∀ u, H1 a = some u → Mk u := fun _ e' => by rw [h3] at e'; cases e'; exact .intro (fun _ _ q => nomatch q) (fun _ _ q => nomatch q)
        obtain ⟨rp2, st2⟩ := rp.write (m := .dK [] []) (o := .dK []) h1 hm ⟨[], upd_same, rfl, Nat.zero_le _, .nil⟩
        exact ⟨.inr (.inr (.inl ⟨rfl, .inl ⟨_, h3⟩⟩)), a, _, rfl, rfl, h3, g.at st2 rp2 (by simp only [RD])⟩
      · exact g.elim
    | _ => exact g.elim
end
end PM

set_option maxHeartbeats 1000000
/-! PM, part 37: sorted(pairs of a text and anything), no two of one text -/
namespace PM
open PySem PySem.Spec L2 PyProof.Rows
def ltT (a b : Str) : Bool := decide (a.cps.toList < b.cps.toList)
theorem ltT_eq (a b : Str) : ltT a b = ltCps a.cps.toList b.cps.toList := (ltC_iff _ _).symm
theorem leS_ltT {a b : Str} : leS a b = !ltT b a := by rw [ltT_eq]; rfl
/-- v is a tuple of the text l and one thing -/
def LPair (h : Heap) (v : Value) (l : Str) : Prop := ∃ a o t u n, v = .ref a ∧ h.get? a = some o ∧ o.cls = .type "tuple" ∧ o.data = .seq #[.str l t, u] n
theorem LPair.keeps {h h' : Heap} {v : Value} {l : Str} (p : LPair h v l) (k : ∀ b o, h.get? b = some o → o.cls = .type "tuple" → h'.get? b = some o) : LPair h' v l := by
  obtain ⟨a, o, t, u, n, e, ho, hc, hd⟩ := p
  exact ⟨a, o, t, u, n, e, k _ _ ho hc, hc, hd⟩
section
variable {prog : Program} {w : World} {A : Around} {E : Value → Shared → Prop} {s : Shared}
theorem swo_lab (k : Value → Str) : SrtO.Swo fun v u => ltT (k v) (k u) := by
  refine ⟨fun x y h => ?_, fun x y z h1 h2 => ?_⟩
  · rw [ltT_eq] at h ⊢
    exact lt_asym _ _ h
  · rw [ltT_eq] at h1 h2 ⊢
    cases h : ltCps (k z).cps.toList (k x).cps.toList with
    | false => rfl
    | true =>
      rcases lt_cot _ (k y).cps.toList _ h with h3 | h3
      · rw [h3] at h2; cases h2
      · rw [h3] at h1; cases h1
theorem lab_cmp {vs : List Value} {k : Value → Str} (hp : ∀ v ∈ vs, LPair s.heap v (k v)) (hk : ∀ v ∈ vs, ∀ u ∈ vs, k v = k u → v = u) : SrtO.Cmp prog w A s (tuples' true) (fun p => p.1 ∈ vs) (SrtO.lt2 fun v u => ltT (k v) (k u)) := by
  intro p q hm hm'
  show wpAny (model prog w) A (keyLt' (tuples' true) p.1 q.1) (fun r s' => s' = s ∧ r = ltT (k p.1) (k q.1)) (fun _ _ => False) s
  by_cases e : k p.1 = k q.1
  · have e2 := hk _ hm _ hm' e
    rw [← e2]
    obtain ⟨a, o, t, u, n, e3, ho, hc, hd⟩ := hp _ hm
    rw [e3]
    refine PySem.W.kat_lt ho hd ho hd ?_
    refine PySem.W.kat_cons (SeqAt.EqAt.same _ prog w _ _ ?_)
    refine PySem.W.kat_yes (PySem.W.kat_cons (SeqAt.EqAt.same _ prog w _ _ ?_))
    refine PySem.W.kat_yes (PySem.W.kat_nil ⟨rfl, ?_⟩)
    rw [ltT_eq, lt_irr]; rfl
  · obtain ⟨a, o, t, u, n, e3, ho, hc, hd⟩ := hp _ hm
    obtain ⟨a', o', t', u', n', e4, ho', hc', hd'⟩ := hp _ hm'
    generalize k p.1 = x at *
    generalize k q.1 = y at *
    rw [e3, e4]
    refine PySem.W.kat_lt ho hd ho' hd' ?_
    refine PySem.W.kat_cons (SeqAt.EqAt.str_str x t y t' prog w _ _ ?_)
    refine PySem.W.kat_go (fun e1 => absurd (by simpa using e1) e) fun _ => PySem.W.kat_no (oneLt_str ⟨rfl, rfl⟩)
theorem lab_firsts {h : Heap} {k : Value → Str} : ∀ {vs : List Value}, (∀ v ∈ vs, LPair h v (k v)) → ∃ fs : List Value, PySem.W.KatTups h vs fs ∧ fs.length = vs.length ∧ ∀ f ∈ fs, ∃ x t, f = Value.str x t
  | [], _ => ⟨[], PySem.W.KatTups.nil, rfl, fun _ hm => by simp at hm⟩
  | v :: vs, hp => by
    obtain ⟨fs, h1, h2, h3⟩ := lab_firsts (vs := vs) fun v' hm => hp v' (List.mem_cons_of_mem _ hm)
    obtain ⟨a, o, t, u, n, e, ho, hc, hd⟩ := hp v List.mem_cons_self
    refine ⟨.str (k v) t :: fs, ?_, by rw [List.length_cons, List.length_cons, h2], fun f hm => ?_⟩
    · generalize k v = z at *
      subst e
      exact PySem.W.KatTups.cons ho hc hd rfl h1
    rcases List.mem_cons.mp hm with rfl | hm
    · exact ⟨_, _, rfl⟩
    · exact h3 f hm
theorem lab_sortable {a : Addr} {vs : List Value} {k : Value → Str} (h0 : 0 < vs.length) (hp : ∀ v ∈ vs, LPair s.heap v (k v)) (hk : ∀ v ∈ vs, ∀ u ∈ vs, k v = k u → v = u) (ha : ∀ o, s.heap.get? a = some o → o.cls ≠ .type "tuple") :
    SrtO.SortableO prog w A s a vs fun v u => ltT (k v) (k u) := by
  intro h' keep
  have hp' : ∀ v ∈ vs, LPair h' v (k v) := fun v hm => (hp v hm).keeps fun b o e c => keep b o (fun z => by subst z; exact ha o e c) e
  obtain ⟨fs, h1, h2, h3⟩ := lab_firsts hp'
  refine ⟨tuples' true, fun Q E hq => ?_, lab_cmp hp' hk⟩
  refine PySem.W.kat_kind (T := .type "str") h1 (by omega) (fun f hm => ?_) (by rfl) ?_
  · obtain ⟨x, t, rfl⟩ := h3 f hm
    exact PySem.W.Looks.now
  · rw [show (Value.type "str" != Value.type "tuple") = true from by decide +kernel]
    exact hq
end
/-- sorted(xs), xs a list of pairs, k their texts, no two alike -/
def rSortedL (K : PySem.W.Frag) : List V → Hp → L2.VK → Prop := fun vs H Q => ∃ (a : Addr) (xs : List V) (k : V → Str), vs = [V.ref a] ∧ SqL K H a xs ∧ (∀ x ∈ xs, ∃ t y, x = V.ref t ∧ Tp H t [.str (k x), y]) ∧ (∀ x ∈ xs, ∀ y ∈ xs, k x = k y → x = y) ∧
  ∀ ys p, ys.Perm xs → ys.Pairwise (fun x y => leS (k x) (k y) = true) → H p = none → Q (.ref p) (upd H p (.lst ys))
section
variable {X : Cx}
theorem cr_sortedL : CallR X (.builtin "sorted") (rSortedL X.K) := by
  rintro pins s σ H vs us Q I r ⟨a, xs, k, rfl, hs, hx, hk, q⟩
  obtain ⟨its, rv, hl, hz⟩ := I.list hs
  obtain ⟨u, rfl, ru⟩ := vals1 r
  obtain rfl : u = Value.ref a := ru
  obtain ⟨e1, e2⟩ := refs_back rv fun x m => by
    obtain ⟨t, _, e, _⟩ := hx x m
    exact ⟨t, e⟩
  have mem : ∀ v ∈ its, backV v ∈ xs := fun v hv => by rw [e1]; exact List.mem_map.mpr ⟨v, hv, rfl⟩
  have back : ∀ v ∈ its, ∀ u ∈ its, backV v = backV u → v = u := fun v hv u hu e => by
    obtain ⟨t, rfl⟩ := e2 v hv
    obtain ⟨t', rfl⟩ := e2 u hu
    cases e; rfl
  have hp : ∀ v ∈ its, LPair s.heap v (k (backV v)) := fun v hv => by
    obtain ⟨t, rfl⟩ := e2 v hv
    obtain ⟨t', y, e, ob, ht, _⟩ := hx _ (mem _ hv)
    cases e
    obtain ⟨hg, _, its2, r2, o, ho, hc, n, hd⟩ := (show ObjOk X.prog X.w H s.heap t (.frz ob (.tup [.str (k (V.ref t)), y])) from I.hok t _ ht)
    obtain ⟨u1, u2, rfl, ri, rj⟩ := vals2 r2
    obtain ⟨t1, rfl⟩ := ri
    exact ⟨t, o, t1, u2, n, rfl, ho, hc, hd⟩
  have hk2 : ∀ v ∈ its, ∀ u ∈ its, k (backV v) = k (backV u) → v = u := fun v hv u hu e => back v hv u hu (hk _ (mem v hv) _ (mem u hu) e)
  refine SrtO.sorted_ord (swo_lab fun u => k (backV u)) hl.isList (by rw [← rv.length]; exact hz) (fun h2 h₁ b ha kk => ?_) fun out hs2 hb => ?_
  · refine lab_sortable (s := { s with heap := h₁ }) (by omega) (fun v hv => (hp v hv).keeps fun b o e _ => (kk b o e).2) hk2 fun o e => ?_
    have e' : some o = some (seqObj "list" its.toArray 0) := e.symm.trans ha
    cases e'
    exact fun c => absurd (Value.type.inj c) (by decide)
  · have h3 : ∀ u ∈ out, ∃ a, u = Value.ref a := fun u hu => e2 u (hb.perm.mem_iff.mp hu)
    obtain ⟨n, hn⟩ := sortedAll_at s.heap its out.toArray
    have hperm : (out.map backV).Perm xs := by
      rw [e1]
      exact hb.perm.map _
    refine ⟨.ref _, upd H (s.heap.objs.size + 1) (.lst (out.map backV)), I.laid (t' := s.toks) (fun _ _ => sortedAll_old) (Nat.le_succ _) ⟨by rw [hperm.length_eq]; exact hz, out, n, vals_back h3, hn⟩, rfl, q _ _ hperm ?_ (I.hok.fresh (Nat.le_succ _))⟩
    rw [List.pairwise_map]
    exact hs2.imp fun {x y} h => by
      have h : ltT (k (backV y)) (k (backV x)) = false := h
      rw [leS_ltT, h]; rfl
end
/-! ### in the data -/
def isFld : D → Bool
  | .tup [.str _, _] => true
  | _ => false
/-- the pairs by their texts -/
def sortF (ds : List D) : List D := (sortStr (ds.map labD)).map fun l => (ds.find? fun d => decide (labD d = l)).getD .non
def cSortedF (ds : List D) (S : Sto) : R D := match ds with
  | [d] => match rdL S d with
    | some es => if es.all isFld = true ∧ (es.map labD).Nodup then .ok (.lst (sortF es)) S else .stuck
    | none => .stuck
  | _ => .stuck
theorem rds_of_all {H : Hp} {ι : Z} {f : V → D} : ∀ {ys : List V}, (∀ y ∈ ys, RD H ι (f y) y) → RDs H ι (ys.map f) ys
  | [], _ => .nil
  | y :: ys, h => .cons (h y (by simp)) (rds_of_all fun z hz => h z (by simp [hz]))
open Classical in
noncomputable def labV (H : Hp) (x : V) : Str := if h : ∃ l t y, x = V.ref t ∧ Tp H t [.str l, y] then Classical.choose h else Str.empty
theorem labV_eq {H : Hp} {x y : V} {t : Addr} {l : Str} (e : x = V.ref t) (h : Tp H t [.str l, y]) : labV H x = l := by
  have hx : ∃ l t y, x = V.ref t ∧ Tp H t [.str l, y] := ⟨l, t, y, e, h⟩
  unfold labV
  rw [dif_pos hx]
  obtain ⟨t', y', e2, h2⟩ := Classical.choose_spec hx
  rw [e] at e2
  cases e2
  obtain ⟨o, h, _⟩ := h
  obtain ⟨o', h2, _⟩ := h2
  rw [h] at h2
  cases h2
  rfl
theorem fld_v {H : Hp} {ι : Z} {d : D} {v : V} (r : RD H ι d v) (h : isFld d = true) : ∃ t y, v = V.ref t ∧ Tp H t [.str (labD d), y] := by
  unfold isFld at h
  split at h
  · rename_i l e
    simp only [RD] at r
    obtain ⟨a, vs, e1, h1, z, h2⟩ := r
    simp only [RDs, RD] at h2
    obtain ⟨v1, r1, e2, ⟨e3, _⟩, v2, r2, e4, _, e5⟩ := h2
    subst e2 e3 e4 e5
    exact ⟨a, v2, e1, h1⟩
  · cases h
theorem cSortedF_rel {X : Cx} : ∀ (W : XK) (ι : Z) (S : Sto) (H : Hp) (xs : List V) (dxs : List D) (Q : L2.VK), Rep H ι X.ek S → RDs H ι dxs xs → G X.ek W ι H RD (cSortedF dxs S) Q → rSortedL X.K xs H Q := by
  intro W ι S H xs dxs Q rp rx q
  unfold cSortedF at q
  split at q
  · rename_i d
    obtain ⟨v, e, r⟩ := rds_one rx
    subst e
    split at q
    · rename_i es hes
      split at q
      · rename_i hc
        obtain ⟨a, vs, e, hq, r2, z⟩ := rdL_ok rp r hes
        subst e
        have hlen := r2.length
        have at1 : ∀ x ∈ vs, ∃ d ∈ es, RD H ι d x ∧ labV H x = labD d := fun x hx => by
          obtain ⟨i, hi⟩ := List.getElem?_of_mem hx
          obtain ⟨d, hd, rd⟩ := get_rds r2 hi
          have hm := List.mem_of_getElem? hd
          obtain ⟨t, y, e, h⟩ := fld_v rd (List.all_eq_true.mp hc.1 d hm)
          exact ⟨d, hm, rd, labV_eq e h⟩
        have labs : vs.map (labV H) = es.map labD := by
          apply List.ext_getElem?
          intro i
          rw [List.getElem?_map, List.getElem?_map]
          cases hv : vs[i]? with
          | none =>
            have : es[i]? = none := by rw [List.getElem?_eq_none_iff] at hv ⊢; omega
            rw [this]; rfl
          | some x =>
            obtain ⟨d, hd, rd⟩ := get_rds r2 hv
            obtain ⟨t, y, e, h⟩ := fld_v rd (List.all_eq_true.mp hc.1 d (List.mem_of_getElem? hd))
            rw [hd]
            show some (labV H x) = some (labD d)
            rw [labV_eq e h]
        have inj : ∀ x ∈ vs, ∀ y ∈ vs, labV H x = labV H y → x = y := by
          have nd : (vs.map (labV H)).Nodup := by rw [labs]; exact hc.2
          intro x hx y hy e
          obtain ⟨i, hi⟩ := List.getElem?_of_mem hx
          obtain ⟨j, hj⟩ := List.getElem?_of_mem hy
          have h1 : (vs.map (labV H))[i]? = some (labV H x) := by rw [List.getElem?_map, hi]; rfl
          have h2 : (vs.map (labV H))[j]? = some (labV H x) := by rw [List.getElem?_map, hj, e]; rfl
          obtain ⟨l1, e1⟩ := List.getElem?_eq_some_iff.mp h1
          obtain ⟨l2, e2⟩ := List.getElem?_eq_some_iff.mp h2
          have := (List.getElem_inj nd).mp (e1.trans e2.symm)
          subst this
          rw [hi] at hj
          exact Option.some.inj hj
        refine ⟨a, vs, labV H, rfl, hq, fun x hx => ?_, inj, fun ys p hp hs hpn => ?_⟩
        · obtain ⟨d, hm, rd, e⟩ := at1 x hx
          obtain ⟨t, y, e2, h⟩ := fld_v rd (List.all_eq_true.mp hc.1 d hm)
          exact ⟨t, y, e2, by rw [e]; exact h⟩
        · have hys : ys.map (labV H) = sortStr (es.map labD) := by
            refine sorted_uniq ?_ (List.pairwise_map.mpr hs) (sortStr_sorted _)
            exact ((hp.map _).trans (List.Perm.of_eq labs)).trans (sortStr_perm _).symm
          have hr : RDs H ι (sortF es) ys := by
            unfold sortF
            rw [← hys, List.map_map]
            refine rds_of_all fun y hy => ?_
            obtain ⟨d, hm, rd, e⟩ := at1 y (hp.mem_iff.mp hy)
            have hf : es.find? (fun d' => decide (labD d' = labV H y)) = some d := by
              cases hff : es.find? (fun d' => decide (labD d' = labV H y)) with
              | none =>
                rw [List.find?_eq_none] at hff
                exact absurd (decide_eq_true e.symm) (hff d hm)
              | some d' =>
                have h1 : labD d' = labV H y := of_decide_eq_true (List.find?_some (p := fun d' => decide (labD d' = labV H y)) hff)
                have h2 := List.mem_of_find?_eq_some hff
                congr 1
                obtain ⟨i, hi⟩ := List.getElem?_of_mem hm
                obtain ⟨j, hj⟩ := List.getElem?_of_mem h2
                have k1 : (es.map labD)[i]? = some (labD d) := by rw [List.getElem?_map, hi]; rfl
                have k2 : (es.map labD)[j]? = some (labD d) := by rw [List.getElem?_map, hj, ← e, ← h1]; rfl
                obtain ⟨l1, e1⟩ := List.getElem?_eq_some_iff.mp k1
                obtain ⟨l2, e2⟩ := List.getElem?_eq_some_iff.mp k2
                have := (List.getElem_inj hc.2).mp (e1.trans e2.symm)
                subst this
                rw [hi] at hj
                exact (Option.some.inj hj).symm
            show RD H ι (((es.find? fun d' => decide (labD d' = labV H y))).getD .non) y
            rw [hf]
            exact rd
          have hz : (sortF es).length ≤ sizeLine := by
            rw [hr.length, hp.length_eq, ← hlen]; exact z
          exact q.at (Step.new hpn) (rp.new hpn) (rd_newLst rp hr hz hpn)
      · exact q.elim
    · exact q.elim
  · exact q.elim
theorem cSortedF_ok {X : Cx} : CallD X (.builtin "sorted") cSortedF := ⟨_, cr_sortedL, cSortedF_rel⟩
end PM

set_option maxHeartbeats 1000000
/-! PM, part 38: max(whole numbers, default=d) -/
namespace PM
open PySem PySem.Spec L2 PyProof.Rows
def maxDef (d : Int) : List Int → Int
  | [] => d
  | n :: ns => ns.foldl max n
def rMaxD (K : PySem.W.Frag) : List V → List V → Hp → L2.VK → Prop := fun vs zs H Q => ∃ (a : Addr) (ns : List Int) (d : Int), vs = [V.ref a] ∧ zs = [V.int d] ∧ SqL K H a (ns.map V.int) ∧ Q (.int (maxDef d ns)) H
theorem reads_ints {h : Heap} : ∀ {ns : List Int} {us : List Value}, Vals (ns.map V.int) us → ReadsAll h us (ns.map .int) []
  | [], _, .nil => .nil
  | n :: ns, _ :: _, .cons r t => by
    obtain ⟨t', rfl⟩ := r
    exact .cons (as := []) (bs := []) (.int n t') (reads_ints t)
theorem alike_ints (ns : List Int) : PySem.W.AlikeAll (ns.map PyData.int) := by
  refine ⟨fun x hx y hy => ?_, fun x hx => ?_⟩
  · obtain ⟨i, _, e⟩ := List.mem_map.mp hx
    obtain ⟨j, _, e2⟩ := List.mem_map.mp hy
    subst e e2
    simp only [PySem.W.alike]
  · obtain ⟨i, _, e⟩ := List.mem_map.mp hx
    subst e
    exact fun z => nomatch z
theorem depth_ints : ∀ ns : List Int, PyData.depthAll (ns.map PyData.int) = 0
  | [] => rfl
  | n :: ns => by simp only [List.map_cons, PyData.depthAll, PyData.depth, depth_ints ns]; rfl
theorem cr_maxD {X : Cx} (hc : X.calm = true) (hr : Ru X.A) : CallRK X (.builtin "max") [Str.ofString "default"] (rMaxD X.K) := by
  rintro pins s σ H vs zs us ws Q I r rz ⟨a, ns, d, rfl, rfl, hs, q⟩
  obtain ⟨u, rfl, ru⟩ := vals1 r
  obtain rfl : u = Value.ref a := ru
  obtain ⟨w1, rfl, t, rfl⟩ := vals1 rz
  obtain ⟨its, rv, hl, hz⟩ := I.list hs
  have hu : X.A.units + 1 + PyData.depthAll (ns.map PyData.int) < cLine := by
    rw [depth_ints]; exact hr.hu
  refine PySem.W.max_list_default (I.ok.hd hc) hl.isList (reads_ints rv) (alike_ints ns) hu (fun e h' tk k => ?_) fun y ys i v h' tk bs e hv rd k => ?_
  · have e : ns = [] := List.map_eq_nil_iff.mp e
    subst e
    exact ⟨.int d, H, I.kept (t' := tk) k, ⟨t, rfl⟩, q⟩
  · cases ns with
    | nil => cases e
    | cons n ns =>
      simp only [List.map_cons, List.cons.injEq] at e
      obtain ⟨e1, e2⟩ := e
      subst e1 e2
      rw [PySem.W.maxD_ints] at rd
      cases rd
      rename_i t2
      exact ⟨.int _, H, I.kept (t' := tk) k, ⟨t2, rfl⟩, q⟩
/-- max(xs, default=d) -/
def mMaxD (a z : Em) : Em := fun δ S => (a δ S).bind fun x S1 => (z δ S1).bind fun y S2 => match y, (rdL S2 x).bind intsOf with
  | .int d, some ns => .ok (.int (maxDef d ns)) S2
  | _, _ => .stuck
section
variable {X : Cx} {W : WX} {e z : Expr} {ma mz : Em} {p pos kpos : Pos}
theorem de_maxD (hc : X.calm = true) (hr : Ru X.A) (hg : Gl X "max") (hm : X.mg "max" = none) (ha : DE X W e ma) (hz : DE X W z mz)
    (he : backTo pos (starEach [e] X.env) = (false, eval e X.env) :: backTo pos (starEach [] X.env) := by rfl) (hpl : (backTo pos (starEach [e] X.env)).any (·.1) = false := by rfl)
    (hs : starEach [e] X.env = (false, eval e X.env) :: starEach [] X.env := by rfl)
    (hall : (backToKw pos (keywordEach [⟨some "default", z, kpos⟩] X.env)).all (·.1.isSome) = true := by rfl) (hnone : (backToKw pos (keywordEach [⟨some "default", z, kpos⟩] X.env)).any (·.1.isNone) = false := by rfl)
    (hks : (backToKw pos (keywordEach [⟨some "default", z, kpos⟩] X.env)).filterMap (·.1) = [Str.ofString "default"] := by rfl) :
    DE X W (.Call (.Name "max" p) [e] [⟨some "default", z, kpos⟩] pos) (mMaxD ma mz) :=
  pe_imp (pe_callBK (cr_maxD hc hr) hg hm (by decide +kernel) (pa_cons ha pa_nil hs) (pk_cons (nm := some "default") (kpos := kpos) hz pk_nil) (by decide) (by decide) he hpl hall hnone hks) fun σ H Q h =>
    t_bind h fun ι S δ x v H1 rp rs rd g => by
      refine ⟨ι, S, δ, rp, rs, (G.bind g).imp fun v2 H2 ⟨ι2, S2, y, st, rp2, r2, g2⟩ => ?_⟩
      split at g2
      · rename_i d ns hns
        rw [Option.bind_eq_some_iff] at hns
        obtain ⟨es, hes, hi⟩ := hns
        obtain ⟨a, vs, e, hq, h2, hz⟩ := rdL_ok rp2 (rd.mono st.up) hes
        subst e
        rw [intsOf_ok h2 hi] at hq
        simp only [RD] at r2
        subst r2
        exact ⟨a, ns, d, rfl, rfl, hq, g2.here rp2 (by simp only [RD])⟩
      · exact g2.elim
end
end PM

set_option maxHeartbeats 1000000
/-! PM, part 39: what the written part tells of the exceptions' classes -/
namespace PM
open PySem PySem.Spec L2 PyProof.Rows
theorem kit_self {K : PySem.W.Frag} {t : Value} : PySem.W.kitOne K t t = some true := by
  unfold PySem.W.kitOne
  rw [if_pos (beq_self_eq_true t)]
theorem kit_own {K : PySem.W.Frag} {D C : Addr} {b : Bool} (h1 : PySem.W.isClsIn K C = true) (h2 : PySem.W.typeIn K (.ref C) = some (.type "type")) (h3 : PySem.W.subIn K (.ref D) (.ref C) = some b) (h4 : PySem.W.subIn K (.ref C) (.ref C) = some true) :
    PySem.W.kitOne K (.ref D) (.ref C) = some b := by
  unfold PySem.W.kitOne
  by_cases e : (Value.ref D == Value.ref C) = true
  · rw [if_pos e]
    have e' : D = C := Value.ref.inj (beq_iff_eq.mp e)
    subst e'
    rw [h3] at h4
    rw [h4]
  · rw [if_neg e]
    show (if ((PySem.W.clsIn K C).isSome && PySem.W.typeIn K (.ref C) == some (.type "type")) = true then PySem.W.subIn K (.ref D) (.ref C) else none) = some b
    have e2 : (PySem.W.clsIn K C).isSome = true := h1
    rw [e2, h2, if_pos (by rfl), h3]
theorem kit_val {K : PySem.W.Frag} {D : Addr} {b : Bool} (h : PySem.W.subIn K (.ref D) (.type "ValueError") = some b) : PySem.W.kitOne K (.ref D) (.type "ValueError") = some b := by
  unfold PySem.W.kitOne
  rw [if_neg (by simp)]
  show (if PySem.W.kitMeta "ValueError" = true then PySem.W.subIn K (.ref D) (.type "ValueError") else none) = some b
  rw [if_pos (by decide +kernel), h]
section
variable {X : Cx} {W : WX} {a C : Addr} {oe : Obj} {b : Bool} {e : Expr} {me : Em} {y x : Str} {p q pos pos' p2 : Pos} {m : Str} {j : Nat}
theorem de_isEo (hp : (a, oe) ∈ X.pn) (E : ExcC X.K C) (ho : ObE C oe) (hg : Gl X "isinstance") (hm : X.mg "isinstance" = none) (ha : DE X W e me) (hT : ∃ CT, X.mg y = some (.ref CT) ∧ PySem.W.kitOne X.K (.ref C) (.ref CT) = some b) (hgy : Gl X y)
    (hd : (y == ("__debug__" : Str)) = false := by decide)
    (hs : starEach [e, .Name y q] X.env = (false, eval e X.env) :: starEach [.Name y q] X.env := by rfl) (hs2 : starEach [.Name y q] X.env = [(false, eval (.Name y q) X.env)] := by rfl)
    (hpl : (backTo pos (starEach [.Name y q] X.env)).any (·.1) = false := by rfl) : DE X W (.Call (.Name "isinstance" p) [e, .Name y q] [] pos) (mU (opIsE a b) me) := by
  obtain ⟨CT, h1, h2⟩ := hT
  exact de_isE (c := V.ref CT) hp E ho hg hm ha (pe_glob hgy h1 rfl hd) (fun _ h => h) h2 hs hs2 hpl
theorem ds_raiseX (hc : X.calm = true) (tk : L2N.Takes X W) (F : ∃ C, XC X.K X.mg x C) (hg : Gl X x) (hdb : (x == ("__debug__" : Str)) = false := by decide) :
    DS X W (.Raise (some (.Call (.Name x p) [.Constant (.str m) j p2] [] pos)) none pos') (sRaise x) := by
  obtain ⟨C, F⟩ := F
  exact ds_raise hc tk F hg hdb
end
end PM

/-! PM, part 40: kinds' depth; blanks that stand together; fills (plain) -/
namespace PM
open PySem L2
mutual
def dp : K → Nat
  | .num => 1
  | .blk _ => 1
  | .rc _ ks _ => 1 + dps ks
def dps : List K → Nat
  | [] => 0
  | k :: ks => max (dp k) (dps ks)
end
theorem dps_le {m : Nat} : ∀ {ks : List K}, dps ks ≤ m ↔ ∀ k ∈ ks, dp k ≤ m
  | [] => by simp [dps]
  | k :: ks => by
    rw [dps, Nat.max_le, dps_le (ks := ks)]
    simp
theorem VK.dple {n : Nat} {k : K} (h : VK n k) : dp k ≤ n := by
  induction h with
  | num => rw [dp]; omega
  | blk h => rw [dp]; omega
  | rc h1 h2 h3 h4 h5 ih =>
    rename_i d ls ks r
    have := (dps_le (m := d) (ks := ks)).mpr ih
    rw [dp]; omega
theorem VK.to {n m : Nat} {k : K} (h : VK n k) (g : dp k ≤ m) : VK m k := by
  induction h generalizing m with
  | num => rw [dp] at g; obtain ⟨m, rfl⟩ : ∃ j, m = j + 1 := ⟨m - 1, by omega⟩; exact .num
  | blk h => rw [dp] at g; obtain ⟨m, rfl⟩ : ∃ j, m = j + 1 := ⟨m - 1, by omega⟩; exact .blk h
  | rc h1 h2 h3 h4 h5 ih =>
    rw [dp] at g
    obtain ⟨m, rfl⟩ : ∃ j, m = j + 1 := ⟨m - 1, by omega⟩
    exact .rc h1 h2 h3 (fun k hk => ih k hk (dps_le.mp (show dps _ ≤ m by omega) k hk)) h5
theorem VK.mono {n m : Nat} {k : K} (h : VK n k) (g : n ≤ m) : VK m k := h.to (Nat.le_trans h.dple g)
theorem fld_labs {ls : List Str} {ks : List K} (h : ls.length = ks.length) : (fldD ls (kds ks)).map labD = ls := by
  rw [fld_zipK h, List.map_map]
  show (ls.zip ks).map Prod.fst = ls
  exact List.map_fst_zip (by omega)
theorem fld_all {ls : List Str} {ks : List K} (h : ls.length = ks.length) (f : D → Bool) : (fldD ls (kds ks)).all (fun p => f (sndD p)) = ks.all fun k => f (kd k) := by
  rw [fld_zipK h, List.all_map]
  have e : ks.all (fun k => f (kd k)) = ((ls.zip ks).map Prod.snd).all fun k => f (kd k) := by rw [List.map_snd_zip (by omega)]
  rw [e, List.all_map]
  rfl
theorem fld_pairs {ls : List Str} {ks : List K} (h : ∀ l ∈ ls, IsLab l) : (fldD ls (kds ks)).all isPairD = true := by
  rw [List.all_eq_true]
  intro x hx
  obtain ⟨l, y, e, hl, _⟩ := mem_fldD hx
  subst e
  exact word_lab.mpr (h l hl)
theorem row_fld {f : D → Bool} {ls : List Str} {ks : List K} (h1 : ls.length = ks.length) (h2 : ascS ls = true) (h3 : ∀ l ∈ ls, IsLab l) : rowIn f (.tup (fldD ls (kds ks))) = ks.all fun k => f (kd k) := by
  simp only [rowIn, fld_pairs h3, fld_labs h1, h2, fld_all h1 f, Bool.true_and]
theorem rest_rD {r : Option Int} (h : ∀ i, r = some i → 0 ≤ i) : isRestD (rD0 r) = true := by
  cases r with
  | none => rfl
  | some i => exact decide_eq_true (h i rfl)
theorem kindIn_dp : ∀ (m : Nat) {n : Nat} {k : K}, VK n k → kindIn m (kd k) = decide (dp k ≤ m) := by
  have b1 : ¬ Str.ofString "blank" = Str.ofString "number" := by decide +kernel
  have b2 : ¬ Str.ofString "record" = Str.ofString "number" := by decide +kernel
  have b3 : ¬ Str.ofString "record" = Str.ofString "blank" := by decide +kernel
  intro m
  induction m with
  | zero =>
    intro n k h
    have : ¬ dp k ≤ 0 := by cases h <;> rw [dp] <;> omega
    rw [decide_eq_false this]
    cases h <;> rfl
  | succ m ih =>
    intro n k h
    cases h with
    | num => rw [dp, kd, kindIn, if_pos rfl, decide_eq_true (by omega)]; rfl
    | blk h =>
      rw [dp, kd, kindIn, if_neg b1, if_pos rfl, decide_eq_true (by omega)]
      exact decide_eq_true h
    | rc h1 h2 h3 h4 h5 =>
      rename_i d ls ks r
      rw [dp, kd, kindIn, if_neg b2, if_neg b3, decide_eq_true (rfl : Str.ofString "record" = Str.ofString "record"), Bool.true_and, recIn, rest_rD h5, Bool.true_and, row_fld h1 h2 h3]
      rw [show decide (1 + dps ks ≤ m + 1) = decide (dps ks ≤ m) from decide_eq_decide.mpr (by omega), Bool.eq_iff_iff, List.all_eq_true, decide_eq_true_eq, dps_le]
      constructor
      · intro g k hk
        have := g k hk
        rw [ih (h4 k hk)] at this
        exact of_decide_eq_true this
      · intro g k hk
        rw [ih (h4 k hk)]
        exact decide_eq_true (g k hk)
theorem foldl_dp : ∀ (ks : List K) (a : Nat), (ks.map fun k => ((dp k : Nat) : Int)).foldl max (a : Int) = ((max a (dps ks) : Nat) : Int)
  | [], a => by rw [dps, List.map_nil, List.foldl_nil]; omega
  | k :: ks, a => by
    rw [List.map_cons, List.foldl_cons, show max (a : Int) (dp k : Nat) = ((max a (dp k) : Nat) : Int) by omega, foldl_dp ks, dps]
    omega
theorem maxDef_dp (ks : List K) : maxDef 0 (ks.map fun k => ((dp k : Nat) : Int)) = (dps ks : Nat) := by
  cases ks with
  | nil => rfl
  | cons k ks => rw [List.map_cons, maxDef, foldl_dp, dps]
theorem zip_sndK {β : Type} (g : K → β) {ls : List Str} {ks : List K} (h : ls.length = ks.length) : (ls.zip ks).map (fun p => g p.2) = ks.map g := by
  have : ks.map g = ((ls.zip ks).map Prod.snd).map g := by rw [List.map_snd_zip (by omega)]
  rw [this, List.map_map]; rfl
theorem kn_pos : ∀ k : K, 1 ≤ kn k
  | .num => by rw [kn]; omega
  | .blk _ => by rw [kn]; omega
  | .rc _ _ _ => by rw [kn]; omega
theorem kns_len : ∀ ks : List K, ks.length ≤ kns ks
  | [] => by simp [kns]
  | k :: ks => by have := kns_len ks; have := kn_pos k; rw [kns, List.length_cons]; omega
theorem kns_mem : ∀ {ks : List K} {k : K}, k ∈ ks → kn k ≤ kns ks
  | x :: ks, k, h => by
    rw [kns]
    rcases List.mem_cons.mp h with h | h
    · rw [h]; omega
    · have := kns_mem h; omega
theorem kns_perm {a b : List K} (h : a.Perm b) : kns a = kns b := by rw [kns_sum, kns_sum]; exact (h.map kn).sum_nat
theorem vk_cl {d n : Nat} {k : K} (h : VK d k) : D.cl n (kd k) = true := by
  induction h with
  | num => rfl
  | blk => rfl
  | rc h1 h2 h3 h4 h5 ih =>
    rename_i d ls ks r
    have e : D.cls n (fldD ls (kds ks)) = true := cls_all fun x hx => by
      obtain ⟨l, y, e, _, hy⟩ := mem_fldD hx
      rw [kds_map] at hy
      obtain ⟨b, hb, e'⟩ := List.mem_map.mp hy
      subst e e'
      simp only [D.cl, D.cls, ih b hb]; rfl
    simp only [kd, D.cl, D.cls, e]
    cases r <;> rfl
theorem vk_pl {d : Nat} {k : K} (h : VK d k) : pl (3 * d) (kd k) = true := by
  induction h with
  | num => rename_i d; rw [show 3 * (d + 1) = (3 * d + 2) + 1 by omega]; simp only [kd, pl, List.all_cons, List.all_nil]; decide +kernel
  | blk => rename_i d n _; rw [show 3 * (d + 1) = (3 * d + 2) + 1 by omega]; simp only [kd, pl, List.all_cons, List.all_nil]; decide +kernel
  | rc h1 h2 h3 h4 h5 ih =>
    rename_i d ls ks r
    rw [show 3 * (d + 1) = (3 * d + 2) + 1 by omega]
    simp only [kd, pl, List.all_cons, List.all_nil, Bool.and_true, Bool.and_eq_true]
    refine ⟨by decide +kernel, pl_all fun x hx => ?_, by cases r <;> rfl⟩
    obtain ⟨l, y, e, hl, hy⟩ := mem_fldD hx
    rw [kds_map] at hy
    obtain ⟨b, hb, e'⟩ := List.mem_map.mp hy
    subst e e'
    simp only [pl, List.all_cons, List.all_nil, Bool.and_true, Bool.and_eq_true]
    exact ⟨(h3 l hl).ok, ih b hb⟩
theorem th_fields {d : Nat} {ls : List Str} {ks : List K} (h1 : ls.length = ks.length) (h3 : ∀ l ∈ ls, IsLab l) (hz : ks.length ≤ 1000) (ih : ∀ k ∈ ks, th (3 * d) (kd k) = true) : th (3 * d + 2) (.tup (fldD ls (kds ks))) = true := by
  refine th_tup ?_ fun x hx => ?_
  · rw [fldD, List.length_zipWith, kds_len]; omega
  · obtain ⟨l, y, e, hl, hy⟩ := mem_fldD hx
    rw [kds_map] at hy
    obtain ⟨b, hb, e'⟩ := List.mem_map.mp hy
    subst e e'
    exact th_fld ⟨(h3 l hl).ok, by have := (h3 l hl).2.2; omega⟩ (ih b hb)
theorem vk_th {d : Nat} {k : K} (h : VK d k) (hz : kn k ≤ 1000) : th (3 * d) (kd k) = true := by
  induction h with
  | num => rename_i d; exact th_tup (n := 3 * d + 2) (by simp) (by simp [th_str]; decide +kernel)
  | blk => rename_i d n _; exact th_tup (n := 3 * d + 2) (by simp) (by simp [th_str, th_int]; decide +kernel)
  | rc h1 h2 h3 h4 h5 ih =>
    rename_i d ls ks r
    rw [kn] at hz
    exact th_rec (n := 3 * d + 2) (th_fields h1 h3 (by have := kns_len ks; omega) fun k hk => ih k hk (by have := kns_mem hk; omega)) (by cases r <;> simp [rD0, th_int, th_non])
/-! blanks that stand together -/
def Con (m : Mp) : Prop := ∀ o ∈ m, ∀ u ∈ m, o.1 = u.1 → o.2 = u.2
theorem look_con : ∀ {m : Mp}, Con m → ∀ o ∈ m, look m o.1 = some o.2
  | p :: m, h, o, ho => by
    simp only [look]
    split
    · rename_i e
      rw [h p (by simp) o ho e]
    · rename_i e
      rcases List.mem_cons.mp ho with q | q
      · exact absurd (by rw [q]) e
      · exact look_con (fun a ha b hb => h a (by simp [ha]) b (by simp [hb])) o q
theorem pa_con : ∀ (r m : Mp), Con (m ++ r) → (pa m r).2 = true ∧ (∀ o ∈ (pa m r).1, o ∈ m ++ r) ∧ Con (pa m r).1 ∧ ∀ o ∈ m ++ r, o ∈ (pa m r).1
  | [], m, h => by
    rw [List.append_nil] at h ⊢
    exact ⟨rfl, fun _ h => h, h, fun o ho => ho⟩
  | o :: r, m, h => by
    rw [pa]
    cases hk : look m o.1 with
    | none =>
      have hp : putB m o = (m ++ [o], true) := by simp only [putB, hk]
      rw [hp]
      have e : m ++ o :: r = (m ++ [o]) ++ r := by simp
      rw [e] at h ⊢
      obtain ⟨h1, h2, h3, h4⟩ := pa_con r (m ++ [o]) h
      exact ⟨by rw [h1]; rfl, h2, h3, h4⟩
    | some l =>
      have hm := look_mem hk
      have hl : l = o.2 := h (o.1, l) (by simp [hm]) o (by simp) rfl
      have hp : putB m o = (m, true) := by simp only [putB, hk, hl, decide_true]
      rw [hp]
      obtain ⟨h1, h2, h3, h4⟩ := pa_con r m fun a ha b hb => h a (by simp at ha ⊢; rcases ha with q | q <;> simp [q]) b (by simp at hb ⊢; rcases hb with q | q <;> simp [q])
      refine ⟨by rw [h1]; rfl, fun x hx => ?_, h3, fun x hx => ?_⟩
      · have := h2 x hx
        simp at this ⊢; rcases this with q | q <;> simp [q]
      · simp at hx
        rcases hx with q | q | q
        · exact h4 x (by simp [q])
        · have : x = (o.1, l) := by rw [q, hl]
          rw [this]; exact h4 _ (by simp [hm])
        · exact h4 x (by simp [q])
/-! fills -/
def GF : OL → D → Prop
  | none, d => ∃ k, d = kd k ∧ VK 20 k ∧ kn k ≤ 900
  | some w, d => ∃ ls ks r, d = .tup [.tup (fldD ls (kds ks)), rD0 r] ∧ VK 11 (.rc ls ks r) ∧ kns ks ≤ 900 ∧ ∀ l ∈ ls, l ∉ w
/-- what is_fill computes -/
def disD (w : List Str) : D → Bool
  | .tup ps => ps.all fun p => !decide (labD p ∈ w)
  | _ => false
def restFill (w : List Str) : D → Bool
  | .tup [a, b] => kindIn 12 (.tup [.str "record", a, b]) && disD w a
  | _ => false
def isFillD : OL → D → Bool
  | none, d => kindIn 12 d
  | some w, d => restFill w d
theorem gf_th {l : OL} {d : D} (h : GF l d) : th 70 d = true := by
  cases l with
  | none =>
    obtain ⟨k, e, h1, h2⟩ := h
    subst e
    exact th_mono _ (by omega) (vk_th h1 (by omega))
  | some w =>
    obtain ⟨ls, ks, r, e, h1, h2, _⟩ := h
    subst e
    cases h1 with
    | rc g1 g2 g3 g4 g5 =>
      have := th_fields (d := 10) g1 g3 (by have := kns_len ks; omega) fun k hk => vk_th (g4 k hk) (by have := kns_mem hk; omega)
      exact th_mono _ (by omega) (th_tup (n := 32) (by simp) (by simp [this]; cases r <;> simp [rD0, th_int, th_non]))
theorem isFill_rest {w : List Str} {d : D} (h : GF (some w) d) : isFillD (some w) d = true := by
  obtain ⟨ls, ks, r, e, h1, h2, h3⟩ := h
  subst e
  have h4 : kindIn 12 (kd (.rc ls ks r)) = true := by
    rw [kindIn_dp 12 h1]; exact decide_eq_true (by have := h1.dple; omega)
  rw [kd] at h4
  show (kindIn 12 _ && disD w _) = true
  rw [h4, Bool.true_and, disD]
  cases h1 with
  | rc g1 g2 g3 g4 g5 =>
    rw [List.all_eq_true]
    intro x hx
    obtain ⟨l, y, e, hl, _⟩ := mem_fldD hx
    subst e
    simp only [labD, Bool.not_eq_true', decide_eq_false_iff_not]
    exact decide_eq_false (h3 l hl)
end PM

/-! PM, part 41: fields by their labels (plain) -/
namespace PM
open PySem L2
def fd (p : Str × K) : D := .tup [.str p.1, kd p.2]
def fk (ys : List (Str × K)) (l : Str) : K := ((ys.find? fun p => decide (p.1 = l)).map (·.2)).getD .num
theorem fk_find {ys : List (Str × K)} {l : Str} (h : l ∈ ys.map (·.1)) : ys.find? (fun p => decide (p.1 = l)) = some (l, fk ys l) := by
  cases hf : ys.find? (fun p => decide (p.1 = l)) with
  | none =>
    rw [List.find?_eq_none] at hf
    obtain ⟨p, hp, e⟩ := List.mem_map.mp h
    exact absurd (decide_eq_true e) (hf p hp)
  | some p =>
    have h1 : p.1 = l := of_decide_eq_true (List.find?_some (p := fun p : Str × K => decide (p.1 = l)) hf)
    rw [fk, hf, ← h1]; rfl
theorem fk_mem {ys : List (Str × K)} {l : Str} (h : l ∈ ys.map (·.1)) : (l, fk ys l) ∈ ys := List.mem_of_find?_eq_some (fk_find h)
theorem fd_fld (ys : List (Str × K)) : ys.map fd = fldD (ys.map (·.1)) (kds (ys.map (·.2))) := by
  induction ys with
  | nil => rfl
  | cons y ys ih => rw [List.map_cons, List.map_cons, List.map_cons, kds, fldD_cons, ih]; rfl
theorem fld_map (f : Str → K) : ∀ ls : List Str, fldD ls (kds (ls.map f)) = ls.map fun l => .tup [.str l, kd (f l)]
  | [] => rfl
  | l :: ls => by rw [List.map_cons, List.map_cons, kds, fldD_cons, fld_map f ls]
theorem sortF_fd (ys : List (Str × K)) : sortF (ys.map fd) = fldD (sortStr (ys.map (·.1))) (kds ((sortStr (ys.map (·.1))).map (fk ys))) := by
  have e : (ys.map fd).map labD = ys.map (·.1) := by rw [List.map_map]; rfl
  rw [sortF, e, fld_map]
  refine List.map_congr_left fun l hl => ?_
  have hm := (sortStr_perm _).mem_iff.mp hl
  rw [List.find?_map]
  show ((ys.find? fun p => decide (p.1 = l)).map fd).getD .non = _
  rw [fk_find hm]; rfl
theorem asc_sort {ls : List Str} (h : ls.Nodup) : ascS (sortStr ls) = true := by
  unfold ascS
  rw [Bool.and_eq_true, decide_eq_true_eq, decide_eq_true_eq, ndist_iff _ _ (Nat.le_refl _), List.take_length]
  exact ⟨sorted_uniq (sortStr_perm _).symm (sortStr_sorted _) (sortStr_sorted _), (sortStr_perm ls).nodup_iff.mpr h⟩
theorem asc_nodup {ls : List Str} (h : ascS ls = true) : ls.Nodup := by
  unfold ascS at h
  rw [Bool.and_eq_true, decide_eq_true_eq, decide_eq_true_eq, ndist_iff _ _ (Nat.le_refl _), List.take_length] at h
  exact h.2
theorem cDictR_fd {S : Sto} {ys : List (Str × K)} (hn : (ys.map (·.1)).Nodup) : cDictR [.lst (ys.map fd)] S = .ok (.ref S.length) (S ++ [.dK ((ys.map (·.1)).map .inr) (kds (ys.map (·.2)))]) := by
  have h1 : itP S (.lst (ys.map fd)) = some (((ys.map (·.1)).map Sum.inr).zip (kds (ys.map (·.2)))) := by
    show pairsD (ys.map fd) = _
    rw [fd_fld, pairsD_fld (by rw [kds_len]; simp)]
  simp only [cDictR, h1]
  rw [mergeD_new (by simpa using nodup_inr hn) (by rw [kds_len]; simp)]
  rfl
theorem getK_fd : ∀ {ys : List (Str × K)} {l : Str}, l ∈ ys.map (·.1) → getK ((ys.map (·.1)).map (Sum.inr : Str → Key)) (kds (ys.map (·.2))) (.inr l) = some (kd (fk ys l))
  | y :: ys, l, h => by
    simp only [List.map_cons, kds, getK]
    by_cases e : y.1 = l
    · rw [if_pos (by rw [e])]
      have : fk (y :: ys) l = y.2 := by rw [fk, List.find?_cons_of_pos (by simpa using e)]; rfl
      rw [this]
    · rw [if_neg (fun q => e (Sum.inr.inj q))]
      have h2 : l ∈ ys.map (·.1) := by
        rw [List.map_cons] at h
        rcases List.mem_cons.mp h with q | q
        · exact absurd q.symm e
        · exact q
      have : fk (y :: ys) l = fk ys l := by rw [fk, List.find?_cons_of_neg (by simpa using e)]; rfl
      rw [this]; exact getK_fd h2
/-- the record of fields by labels -/
def recK (ys : List (Str × K)) (r : Option Int) : K := .rc (sortStr (ys.map (·.1))) ((sortStr (ys.map (·.1))).map (fk ys)) r
theorem recK_vk {d : Nat} {ys : List (Str × K)} {r : Option Int} (hn : (ys.map (·.1)).Nodup) (hl : ∀ p ∈ ys, IsLab p.1 ∧ VK d p.2) (hr : ∀ i, r = some i → 0 ≤ i) : VK (d + 1) (recK ys r) := by
  refine .rc (by simp) (asc_sort hn) (fun l h => ?_) (fun k h => ?_) hr
  · obtain ⟨p, hp, e⟩ := List.mem_map.mp ((sortStr_perm _).mem_iff.mp h)
    rw [← e]; exact (hl p hp).1
  · obtain ⟨l, h2, e⟩ := List.mem_map.mp h
    rw [← e]; exact (hl _ (fk_mem ((sortStr_perm _).mem_iff.mp h2))).2
theorem list_all {α β : Type} {P : α → β → Prop} : ∀ {ls : List Str} {ks : List α}, ls.length = ks.length → (∀ k ∈ ks, ∃ b, P k b) → ∃ xs : List (Str × α × β), xs.map (·.1) = ls ∧ xs.map (·.2.1) = ks ∧ ∀ p ∈ xs, P p.2.1 p.2.2
  | [], [], _, _ => ⟨[], rfl, rfl, by simp⟩
  | l :: ls, k :: ks, h, g => by
    obtain ⟨xs, h1, h2, h3⟩ := list_all (P := P) (ls := ls) (ks := ks) (by simpa using h) fun k hk => g k (by simp [hk])
    obtain ⟨b, hb⟩ := g k (by simp)
    exact ⟨(l, k, b) :: xs, by simp [h1], by simp [h2], fun p hp => by
      rcases List.mem_cons.mp hp with hp | hp
      · rw [hp]; exact hb
      · exact h3 p hp⟩
theorem fld_xs {β : Type} : ∀ xs : List (Str × K × β), fldD (xs.map (·.1)) (kds (xs.map (·.2.1))) = xs.map fun p => .tup [.str p.1, kd p.2.1]
  | [] => rfl
  | x :: xs => by rw [List.map_cons, List.map_cons, List.map_cons, kds, fldD_cons, fld_xs xs]
/-! lookups of whole numbers in a dict's object -/
section
variable {S : Sto} {f : Nat} {ks : List Key} {ds : List D} {n : Int}
theorem opIn_dI (h : S[f]? = some (.dK ks ds)) : opIn (.int n) (.ref f) S = .ok (.bl (getK ks ds (.inl n)).isSome) S := by simp only [opIn, inDa, dget_int h]
theorem opNotIn_dI (h : S[f]? = some (.dK ks ds)) : opNotIn (.int n) (.ref f) S = .ok (.bl (!(getK ks ds (.inl n)).isSome)) S := by simp only [opNotIn, inDa, dget_int h]
theorem opIx_dI {d : D} (h : S[f]? = some (.dK ks ds)) (hg : getK ks ds (.inl n) = some d) : opIx (.ref f) (.int n) S = .ok d S := by simp only [opIx, dget_int h, hg]
theorem kGet_dI {z : D} (h : S[f]? = some (.dK ks ds)) : kGet (.ref f) (.int n) z S = .ok ((getK ks ds (.inl n)).getD z) S := by
  simp only [kGet, dget_int h]
  cases getK ks ds (.inl n) <;> rfl
theorem isDct_dI (h : S[f]? = some (.dK ks ds)) : isDct S (.ref f) = true := by simp only [isDct, dkOf, h]; rfl
end
end PM

/-! PM, part 42: loops with a guard; a dict's object while it is locked (plain) -/
namespace PM
open PySem L2
theorem loop_retG {grd : Sto → Prop} {b : D → Sm} {ds : List D} {δ : Loc} {S : Sto} {r : RS} (hL : loopM grd b ds δ S = r) (I : Nat → Loc → Sto → Prop) (E : RS → Prop) (hI : ∀ i δ S, I i δ S → grd S) (h0 : I 0 δ S)
    (hs : ∀ i x δ S, ds[i]? = some x → I i δ S → (∃ δ' S', (b x δ S = .nx δ' S' ∨ b x δ S = .ct δ' S') ∧ I (i + 1) δ' S') ∨ (∃ d S', b x δ S = .rt d S' ∧ E (.rt d S')) ∨ (∃ c δ' S', b x δ S = .exc c δ' S' ∧ E (.exc c δ' S'))) : (∃ δ' S', r = .nx δ' S' ∧ I ds.length δ' S') ∨ E r := by
  subst hL
  suffices H : ∀ (ds : List D) (n : Nat) (δ : Loc) (S : Sto), I n δ S → (∀ i x δ S, ds[i]? = some x → I (n + i) δ S → (∃ δ' S', (b x δ S = .nx δ' S' ∨ b x δ S = .ct δ' S') ∧ I (n + i + 1) δ' S') ∨ (∃ d S', b x δ S = .rt d S' ∧ E (.rt d S')) ∨ (∃ c δ' S', b x δ S = .exc c δ' S' ∧ E (.exc c δ' S'))) →
      (∃ δ' S', loopM grd b ds δ S = .nx δ' S' ∧ I (n + ds.length) δ' S') ∨ E (loopM grd b ds δ S) by
    have := H ds 0 δ S h0 fun i x δ S hx hI => by
      have := hs i x δ S hx (by rwa [Nat.zero_add] at hI)
      rwa [Nat.zero_add]
    rwa [Nat.zero_add] at this
  intro ds
  induction ds with
  | nil => intro n δ S h0 _; exact .inl ⟨δ, S, by rw [loopM, if_pos (hI _ _ _ h0)], h0⟩
  | cons x ds ih =>
    intro n δ S h0 hs
    rcases hs 0 x δ S rfl h0 with ⟨δ1, S1, h1, h2⟩ | ⟨d, S1, h1, h2⟩ | ⟨c, δ1, S1, h1, h2⟩
    · have e : loopM grd b (x :: ds) δ S = loopM grd b ds δ1 S1 := by
        rw [loopM, if_pos (hI _ _ _ h0)]
        rcases h1 with h1 | h1 <;> rw [h1]
      rw [e, List.length_cons, show n + (ds.length + 1) = n + 1 + ds.length by omega]
      refine ih (n + 1) δ1 S1 h2 fun i y δ S hy hI => ?_
      have := hs (i + 1) y δ S (by simpa using hy) (by rw [show n + (i + 1) = n + 1 + i by omega]; exact hI)
      rwa [show n + (i + 1) + 1 = n + 1 + i + 1 by omega] at this
    · exact .inr (by rw [loopM, if_pos (hI _ _ _ h0), h1]; exact h2)
    · exact .inr (by rw [loopM, if_pos (hI _ _ _ h0), h1]; exact h2)
theorem loop_ofG {grd : Sto → Prop} {b : D → Sm} {ds : List D} {δ : Loc} {S : Sto} {r : RS} (hL : loopM grd b ds δ S = r) (I : Nat → Loc → Sto → Prop) (hI : ∀ i δ S, I i δ S → grd S) (h0 : I 0 δ S)
    (hs : ∀ i x δ S, ds[i]? = some x → I i δ S → ∃ δ' S', (b x δ S = .nx δ' S' ∨ b x δ S = .ct δ' S') ∧ I (i + 1) δ' S') : ∃ δ' S', r = .nx δ' S' ∧ I ds.length δ' S' := by
  rcases loop_retG hL I (fun _ => False) hI h0 (fun i x δ S hx h => .inl (hs i x δ S hx h)) with h | h
  · exact h
  · exact h.elim
section
variable {S : Sto} {f : Nat} {ks : List Key} {ds : List D} {n : Int}
theorem dget_intL (h : S[f]? = some (.dKL ks ds)) : dget S (.ref f) (.int n) = some (getK ks ds (.inl n)) := by simp only [dget, dkOf, h, keyOf]
theorem opIx_dL {d : D} (h : S[f]? = some (.dKL ks ds)) (hg : getK ks ds (.inl n) = some d) : opIx (.ref f) (.int n) S = .ok d S := by simp only [opIx, dget_intL h, hg]
end
/-- the object of the blanks, locked -/
def mpL (m : Mp) : MO := .dKL (m.map fun p => .inl p.1) (m.map fun p => olD p.2)
theorem lock_mp {i q : Nat} {m : Sm} {δ : Loc} {S : Sto} {mp : Mp} (h1 : δ[i]? = some (some (.ref q))) (h2 : S[q]? = some (mpO mp)) : lockS i m δ S = match m δ (S.set q (mpL mp)) with
    | .nx δ' S' => unlk q S' (.nx δ')
    | .rt d S' => unlk q S' (.rt d)
    | .bk δ' S' => unlk q S' (.bk δ')
    | .ct δ' S' => unlk q S' (.ct δ')
    | .exc c δ' S' => .exc c δ' S'
    | .stuck => .stuck := by
  unfold lockS
  rw [h1]
  simp only
  rw [h2]
  rfl
theorem unlk_mp {q : Nat} {S : Sto} {mp : Mp} {k : Sto → RS} (h : S[q]? = some (mpL mp)) : unlk q S k = k (S.set q (mpO mp)) := by
  unfold unlk
  rw [h]; rfl
theorem keys_mp {q : Nat} {S : Sto} {mp : Mp} {δ : Loc} {e : Em} (he : e δ S = .ok (.ref q) S) (h : S[q]? = some (mpL mp)) : sKeys e δ S = .ok (mp.map fun p => .int p.1, fun S => S[q]? = some (mpL mp)) S := by
  unfold sKeys
  rw [he]
  simp only [R.bind_ok]
  rw [h]
  simp only [mpL]
  have e : (mp.map fun p => (Sum.inl p.1 : Key)).all keyFit = true := by rw [List.all_map, List.all_eq_true]; exact fun _ _ => rfl
  rw [if_pos e, List.map_map]; rfl
theorem opIx_mpL {q : Nat} {S : Sto} {mp : Mp} {n : Int} {l : OL} (h : S[q]? = some (mpL mp)) (hl : look mp n = some l) : opIx (.ref q) (.int n) S = .ok (olD l) S :=
  opIx_dL h (by rw [getK_look, hl]; rfl)
theorem opIsE_self {a : Addr} {b : Bool} {S : Sto} : opIsE a b (.exn a) S = .ok (.bl b) S := by simp only [opIsE, if_pos]
end PM

/-! PM, part 43: kinds made, with the numbers of their blanks (plain) -/
namespace PM
open PySem L2
theorem cIndex_ws2 {S : Sto} {q : Nat} {ws : List (List Str)} {w : List Str} (h : S[q]? = some (.lst (ws.map wD))) (hw : WOk w) (hs : ∀ w ∈ ws, WOk w) (hm : w ∈ ws) : ∃ j : Nat, ws[j]? = some w ∧ cIndex (.ref q) [wD w] S = .ok (.int j) S := by
  have h1 := any_ws w ws
  rw [decide_eq_true hm] at h1
  cases hf : (ws.map fun w => PyData.list (w.map .str)).findIdx? (fun z => PyData.eqv z (.list (w.map .str))) with
  | none =>
    rw [List.findIdx?_eq_none_iff] at hf
    rw [List.any_eq_true] at h1
    obtain ⟨x, hx, e⟩ := h1
    rw [hf x hx] at e; cases e
  | some j =>
    refine ⟨j, ?_, ?_⟩
    · rw [List.findIdx?_eq_some_iff_getElem] at hf
      obtain ⟨hl, he, _⟩ := hf
      rw [List.length_map] at hl
      rw [List.getElem_map] at he
      simp only [PyData.eqv, eqv_strs, decide_eq_true_eq] at he
      rw [List.getElem?_eq_getElem hl, he]
    · simp only [cIndex, tpd_w, tpd_ws h, sh_w hw, sh_ws hs, and_self, if_true, hf]
theorem asc_filter {ls : List Str} (p : Str → Bool) (h : ls.Nodup) : ascS ((sortStr ls).filter p) = true := by
  rw [ascS_iff]
  exact (ascS_iff.mp (asc_sort h)).sublist List.filter_sublist
theorem occs_app : ∀ a b : List K, occs (a ++ b) = occs a ++ occs b
  | [], b => rfl
  | x :: a, b => by simp only [List.cons_append, occs, occs_app a b, List.append_assoc]
/-- the blanks of a kind made: even numbers, or odd ones behind the labels that stand there -/
def OkO (w : Int) (ws : List (List Str)) (o : Int × OL) : Prop := (∃ i : Nat, i ≤ 2 ∧ o = (w * 2 * (i : Int), none)) ∨ ∃ (j : Nat) (l : List Str), ws[j]? = some l ∧ o = (w * (1 + 2 * (j : Int)), some l)
theorem OkO.pre {w : Int} {ws ws' : List (List Str)} {o : Int × OL} (h : OkO w ws o) (p : ws <+: ws') : OkO w ws' o := by
  rcases h with h | ⟨j, l, h1, h2⟩
  · exact .inl h
  · obtain ⟨t, rfl⟩ := p
    exact .inr ⟨j, l, by rw [List.getElem?_append_left (List.getElem?_eq_some_iff.mp h1).1]; exact h1, h2⟩
theorem con_oko {w : Int} {ws : List (List Str)} {m : Mp} (hw : 1 ≤ w) (h : ∀ o ∈ m, OkO w ws o) : Con m := by
  intro a ha b hb e
  rcases h a ha with ⟨i, _, ea⟩ | ⟨i, l, hi, ea⟩ <;> rcases h b hb with ⟨j, _, eb⟩ | ⟨j, l', hj, eb⟩
  · rw [ea, eb]
  · rw [ea, eb] at e
    simp only at e
    rw [show w * 2 * (i : Int) = w * (2 * i) by rw [Int.mul_assoc]] at e
    have := Int.eq_of_mul_eq_mul_left (show w ≠ 0 by omega) e
    omega
  · rw [ea, eb] at e
    simp only at e
    rw [show w * 2 * (j : Int) = w * (2 * j) by rw [Int.mul_assoc]] at e
    have := Int.eq_of_mul_eq_mul_left (show w ≠ 0 by omega) e
    omega
  · rw [ea, eb] at e
    simp only at e
    have := Int.eq_of_mul_eq_mul_left (show w ≠ 0 by omega) e
    have : i = j := by omega
    subst this
    rw [hi] at hj
    cases hj
    rw [ea, eb]
/-- a state with its budget beside a list of lists of texts -/
def KS3 (S : Sto) (n q M : Nat) (ws : List (List Str)) (b : Int) : Prop := ∃ a : Int, 0 ≤ a ∧ S[n]? = some (.lst [.int a, .int b]) ∧ S[q]? = some (.lst (ws.map wD)) ∧ (∀ w ∈ ws, WOk w) ∧ ws.length + b.toNat ≤ M
/-- .. behind something made with the blanks os, c knots -/
def KE3 (T : Sto) (n q M : Nat) (w : Int) (ws : List (List Str)) (B : Nat) (os : Mp) (c : Nat) : Prop :=
  ∃ (b : Int) (ws' : List (List Str)), KS3 T n q M ws' b ∧ ws <+: ws' ∧ (∀ o ∈ os, OkO w ws' o) ∧ c + 4 * b.toNat ≤ B
end PM

/-! PM, part 44: the objects of a round (plain) -/
namespace PM
open PySem L2
/-- fills that fit by themselves; kinds up to a deep -/
def GFa (a : Nat) : OL → D → Prop
  | none, d => ∃ k, d = kd k ∧ VK a k ∧ kn k ≤ 200 + a
  | some w, d => GF (some w) d
theorem GFa.gf {a : Nat} {o : OL} {d : D} (h : GFa a o d) (ha : a ≤ 20) : GF o d := by
  cases o with
  | none => obtain ⟨k, e, h1, h2⟩ := h; exact ⟨k, e, h1.mono ha, by omega⟩
  | some w => exact h
theorem GFa.mono {a b : Nat} {o : OL} {d : D} (h : GFa a o d) (ha : a ≤ b) : GFa b o d := by
  cases o with
  | none => obtain ⟨k, e, h1, h2⟩ := h; exact ⟨k, e, h1.mono ha, by omega⟩
  | some w => exact h
theorem GFa.isf {a : Nat} {o : OL} {d : D} (h : GFa a o d) (ha : a ≤ 12) : isFillD o d = true := by
  cases o with
  | none =>
    obtain ⟨k, e, h1, h2⟩ := h
    subst e
    show kindIn 12 (kd k) = true
    rw [kindIn_dp 12 h1]
    exact decide_eq_true (Nat.le_trans h1.dple ha)
  | some w => exact isFill_rest h
def wrapK (k : K) : K := .rc [Str.ofString "a"] [k] none
theorem wrap_vk {a : Nat} {k : K} (h : VK a k) : VK (a + 1) (wrapK k) := .rc rfl (by decide +kernel) (fun l hl => by rw [List.mem_singleton.mp hl]; exact isLab_a) (fun x hx => by rw [List.mem_singleton.mp hx]; exact h) (fun i e => nomatch e)
theorem wrap_kd (k : K) : kd (wrapK k) = .tup [.str "record", .tup [.tup [.str "a", kd k]], .non] := rfl
theorem wrap_kn (k : K) : kn (wrapK k) = 1 + kn k := by simp [wrapK, kn, kns]
theorem occ_wlen : ∀ {n : Nat} {k : K}, VK n k → ∀ o ∈ occ k, ∀ w, o.2 = some w → w.length ≤ kn k := by
  intro n k h
  induction h with
  | num => intro o ho; cases ho
  | blk h => intro o ho w hw; rw [List.mem_singleton.mp ho] at hw; cases hw
  | rc h1 h2 h3 h4 h5 ih =>
    rename_i d ls ks r
    intro o ho w hw
    rw [occ] at ho
    rcases List.mem_append.mp ho with ho1 | ho
    · have : w.length ≤ kns ks := by
        clear h1 h4 ho
        induction ks with
        | nil => cases ho1
        | cons k ks ih2 =>
          rw [occs] at ho1
          rw [kns]
          rcases List.mem_append.mp ho1 with ho | ho
          · have := ih k (by simp) o ho w hw; omega
          · have := ih2 (fun k hk => ih k (by simp [hk])) ho; omega
      rw [kn]; omega
    · cases r with
      | none => cases ho
      | some i =>
        rw [List.mem_singleton.mp ho] at hw
        cases hw
        have := kns_len ks
        rw [kn, h1]; omega
theorem pa_nodup : ∀ (r m : Mp), (m.map (·.1)).Nodup → ((pa m r).1.map (·.1)).Nodup
  | [], m, h => h
  | o :: r, m, h => by
    rw [pa]
    refine pa_nodup r _ ?_
    unfold putB
    split
    · rename_i hk
      rw [List.map_append]
      refine List.nodup_append.mpr ⟨h, by simp, fun a ha b hb e => ?_⟩
      have : b = o.1 := by simpa using hb
      subst this e
      obtain ⟨p, hp, e⟩ := List.mem_map.mp ha
      have := look_none hk
      exact this (List.mem_map.mpr ⟨p, hp, by rw [e]⟩)
    · exact h
theorem getK_del {k j : Key} {d : D} : ∀ {ks : List Key} {ds : List D}, ks.length = ds.length → getK (delK ks k) (delD ks ds k) j = some d → getK ks ds j = some d
  | [], [], _, h => by simp [delK, getK] at h
  | x :: ks, y :: ds, hl, h => by
    have hl' : ks.length = ds.length := by simpa using hl
    by_cases c : x = k
    · rw [delK, List.filter_cons_of_neg (by simp [c]), delD, if_pos c] at h
      by_cases e : x = j
      · exfalso
        have hno : j ∉ delK ks k := fun q => by
          have := (List.mem_filter.mp q).2
          simp only [ne_eq, decide_not, Bool.not_eq_true', decide_eq_false_iff_not] at this
          exact this (by rw [← e, c])
        have h : getK (delK ks k) (delD ks ds k) j = some d := h
        rw [getK_none hno] at h
        cases h
      · rw [getK, if_neg e]
        exact getK_del hl' h
    · rw [delK, List.filter_cons_of_pos (by simp [c]), delD, if_neg c] at h
      rw [getK] at h ⊢
      by_cases e : x = j
      · rw [if_pos e] at h ⊢; exact h
      · rw [if_neg e] at h ⊢
        exact getK_del hl' h
theorem del_len {k : Key} : ∀ {ks : List Key} {ds : List D}, ks.length = ds.length → (delK ks k).length = (delD ks ds k).length ∧ (delK ks k).length ≤ ks.length
  | [], [], _ => ⟨rfl, Nat.le_refl _⟩
  | x :: ks, y :: ds, hl => by
    obtain ⟨h1, h2⟩ := del_len (k := k) (ks := ks) (ds := ds) (by simpa using hl)
    by_cases c : x = k
    · rw [delK, List.filter_cons_of_neg (by simp [c]), delD, if_pos c]
      exact ⟨h1, by rw [List.length_cons]; exact Nat.le_succ_of_le h2⟩
    · rw [delK, List.filter_cons_of_pos (by simp [c]), delD, if_neg c, List.length_cons, List.length_cons, List.length_cons]
      exact ⟨congrArg _ h1, Nat.succ_le_succ h2⟩
theorem KS3.set {S : Sto} {n q M i : Nat} {ws : List (List Str)} {b : Int} {o : MO} (h : KS3 S n q M ws b) (h1 : i ≠ n) (h2 : i ≠ q) : KS3 (S.set i o) n q M ws b := by
  obtain ⟨a, h0, hS, hq, hws, hb⟩ := h
  exact ⟨a, h0, by rw [List.getElem?_set_ne h1]; exact hS, by rw [List.getElem?_set_ne h2]; exact hq, hws, hb⟩
/-- the objects of a round: state, labels, blanks, fills -/
structure Rm (S0 S : Sto) (mo : MO) (M : Nat) (fks : List Key) (fds : List D) : Prop where
  len : S.length = S0.length + 4
  old : ∀ i, i < S0.length → S[i]? = S0[i]?
  ks : ∃ ws b, KS3 S S0.length (S0.length + 1) M ws b ∧ b ≤ 30
  p : S[S0.length + 2]? = some mo
  f : S[S0.length + 3]? = some (.dK fks fds)
  fl : fks.length = fds.length
section
variable {S0 S T : Sto} {mo mo' : MO} {M M' : Nat} {fks : List Key} {fds : List D}
theorem Rm.knx (h : Rm S0 S mo M fks fds) (k : KNx S T S0.length (S0.length + 1)) {ws : List (List Str)} {b : Int} (g : KS3 T S0.length (S0.length + 1) M' ws b) (hb : b ≤ 30) : Rm S0 T mo M' fks fds :=
  ⟨k.1.trans h.len, fun i hi => (k.2 i (by omega) (by omega)).trans (h.old i hi), ⟨ws, b, g, hb⟩, (k.2 _ (by omega) (by omega)).trans h.p, (k.2 _ (by omega) (by omega)).trans h.f, h.fl⟩
theorem Rm.setf (h : Rm S0 S mo M fks fds) {ks : List Key} {ds : List D} (hl : ks.length = ds.length) : Rm S0 (S.set (S0.length + 3) (.dK ks ds)) mo M ks ds := by
  obtain ⟨ws, b, g, hb⟩ := h.ks
  exact ⟨by rw [List.length_set]; exact h.len, fun i hi => by rw [List.getElem?_set_ne (by omega)]; exact h.old i hi, ⟨ws, b, g.set (by omega) (by omega), hb⟩, by rw [List.getElem?_set_ne (by omega)]; exact h.p, sto_set h.f, hl⟩
theorem Rm.setp (h : Rm S0 S mo M fks fds) : Rm S0 (S.set (S0.length + 2) mo') mo' M fks fds := by
  obtain ⟨ws, b, g, hb⟩ := h.ks
  exact ⟨by rw [List.length_set]; exact h.len, fun i hi => by rw [List.getElem?_set_ne (by omega)]; exact h.old i hi, ⟨ws, b, g.set (by omega) (by omega), hb⟩, sto_set h.p, by rw [List.getElem?_set_ne (by omega)]; exact h.f, h.fl⟩
theorem Rm.ins (h : Rm S0 S mo M fks fds) (hz : fks.length < 100000) {i : Int} {d : D} : opSet (.ref (S0.length + 3)) (.int i) d S = .ok () (S.set (S0.length + 3) (.dK (insK fks (.inl i)) (insD fks fds (.inl i) d))) ∧ Rm S0 (S.set (S0.length + 3) (.dK (insK fks (.inl i)) (insD fks fds (.inl i) d))) mo M (insK fks (.inl i)) (insD fks fds (.inl i) d) :=
  ⟨by simp only [opSet, h.f, PM.keyOf, if_pos (show fks.length < sizeLine from Nat.lt_of_lt_of_le (by omega) szl)], h.setf (ins_len h.fl)⟩
theorem Rm.pre (h : Rm S0 S mo M fks fds) : S = S0 ++ S.drop S0.length := by
  have h1 : S.take S0.length = S0 := by
    apply List.ext_getElem?
    intro i
    rw [List.getElem?_take]
    split
    · rename_i hi; exact h.old i hi
    · rename_i hi; rw [List.getElem?_eq_none (by omega)]
  conv => lhs; rw [← List.take_append_drop S0.length S, h1]
theorem lock_nx {i p : Nat} {m : Sm} {δ δ' : Loc} {S' : Sto} {m0 : Mp} (h1 : δ[i]? = some (some (.ref p))) (h2 : S[p]? = some (mpO m0)) (h3 : m δ (S.set p (mpL m0)) = .nx δ' S') (h4 : S'[p]? = some (mpL m0)) : lockS i m δ S = .nx δ' (S'.set p (mpO m0)) := by
  rw [lock_mp h1 h2, h3]
  exact unlk_mp h4
end
def Gd (S0 : Sto) (r : RS) : Prop := ∃ T, r = .rt (.bl true) (S0 ++ T)
theorem gd_seq {S0 S : Sto} {a b : Sm} {δ : Loc} (P : Loc → Sto → Prop) (h : ∃ δ' S', a δ S = .nx δ' S' ∧ P δ' S') (g : ∀ δ' S', P δ' S' → Gd S0 (b δ' S')) : Gd S0 (sSeq a b δ S) := by
  obtain ⟨δ', S', h1, h2⟩ := h
  rw [sSeq_eq, h1, RS.seq_nx]
  exact g δ' S' h2
theorem opIn_58 {i : Int} {S : Sto} : opIn (.int i) (.lst [.int 5, .int 8]) S = .ok (.bl (decide (i = 5 ∨ i = 8))) S := by
  simp only [opIn, inDa, dget, dkOf, dtOf, rdS, rdL, asL, isFlat, if_pos, scalAny, scalD, Option.bind_some, Option.map_some, Bool.or_false]
  simp [eq_comm]
end PM

set_option maxHeartbeats 1000000
/-! PM, part 45: list comprehensions whose steps may raise -/
namespace PM
open PySem PySem.Spec L2 PyProof.Rows
section
variable {M : Model} {A : Around} {E : Value → Shared → Prop} {s : Shared} {Z : Obj → Prop} {base : Heap} {env env' : Env} {outer : List Env} {L C e : Addr}
theorem noteFrame_eq {u : Value} (h : env.frame = env'.frame) : noteFrame u env = noteFrame u env' := by unfold noteFrame PySem.frameOf; rw [h]
theorem raw_ne (h : C ≠ L) : (rawInt C == rawInt L) = false := by
  cases q : (rawInt C == rawInt L) with
  | false => rfl
  | true =>
    have := eq_of_beq q
    unfold rawInt at this
    injection this with h1
    exact absurd (Int.ofNat.inj h1) h
/-- a frame notes an exception that another address holds -/
theorem looks_heldZ {Q : Unit → Shared → Prop} (hZ : PXN.Steady1 Z) (hfr : A.frames = some (env :: outer)) (hf : env.frame = some L) (hCL : C ≠ L) (hh : HandSPX.HeldZ base (env :: outer) e Z C s.heap)
    (hQ : ∀ h', HandSPX.HeldZ base (env :: outer) e Z L h' → s.heap.UpToSlots h' → Q () { s with heap := h' }) : wpAny M A (noteFrame (.ref e) env) Q E s := by
  obtain ⟨keepB, noE, stood, ob, fs, P, oP, ps, getE, len4, datE, at1, newP, apart, getP, datP, at3⟩ := hh
  have c1 : (Value.ref P != Value.none) = true := by simp
  have c2 : ¬ ((rawInt C == rawInt L) = true) := by rw [raw_ne hCL]; decide
  simp only [noteFrame, hf]
  apply wpAny_bind
  apply wpAny_field getE datE at1
  rw [if_pos c1]
  apply wpAny_bind
  apply wpAny_field getP datP at3
  rw [if_neg c2]
  apply wpAny_bind
  apply wpAny_setField getP datP (Array.getElem?_eq_some_iff.mp at3).1
  generalize hG : s.heap.update P (Obj.mapFields (·.setIfInBounds 3 Value.none)) = G
  have same : ∀ b, b ≠ P → G.get? b = s.heap.get? b := fun b q => by subst hG; exact Heap.get?_update_other _ _ (Ne.symm q)
  have plain : ∀ b o, s.heap.get? b = some o → (∀ us, o.data ≠ .fields us) → G.get? b = some o := fun b o q nf => by
    rw [same b fun r => ?_, q]
    subst r
    rw [getP, Option.some.injEq] at q
    exact nf ps (q ▸ datP)
  have old : ∀ b o, base.get? b = some o → G.get? b = some o := fun b o q => by
    rw [same b fun r => ?_, keepB b o q]
    subst r; rw [newP] at q; cases q
  refine PXN.wpAny_entryZ hZ hfr (stood.of_keeps fun b o q nf => ⟨o, plain b o q nf, rfl⟩) hf ((same e (Ne.symm apart)).trans getE) old noE datE (Array.getElem?_eq_some_iff.mp at1).1 len4 ?_
  intro t ⟨y1, y2, y3, y4⟩
  exact hQ t ⟨y1, noE, y2, y3⟩ fun b o q nf => y4 b o (plain b o q nf) nf
theorem sky_note {Q : Unit → Shared → Prop} (hZ : PXN.Steady1 Z) (hfr : A.frames = some (env :: outer)) (hf : env.frame = some L) (x : Sky base (env :: outer) e Z C s.heap)
    (hQ : ∀ h', HandSPX.HeldZ base (env :: outer) e Z L h' → s.heap.UpToSlots h' → Q () { s with heap := h' }) : wpAny M A (noteFrame (.ref e) env) Q E s := by
  rcases x with ⟨notB, noE, stood, ob, fs, getE, len4, datE, at1⟩ | fl | hh
  · exact PXN.look_newZ hZ hfr stood hf getE notB noE datE at1 len4 hQ
  · exact PXN.looks_onZ hZ hfr hf fl hQ
  · by_cases q : C = L
    · subst q
      exact HandSPX.againZ hf hh.2.2.2 (hQ s.heap hh (Heap.UpToSlots.refl _))
    · exact looks_heldZ hZ hfr hf q hh hQ
/-- what must hold behind a block's exception, its frame known -/
def compPostX (M : Model) (A : Around) (E : Value → Shared → Prop) (use : Option (Value → Sem Unit)) (Q : Value → Shared → Prop) (acc : Value) (C : Addr) (fr : Option Addr) (r : Result) (s' : Shared) : Prop :=
  match r, use with
  | .error x, _ => ∃ m, s'.heap.Ns C m ∧ ∀ g, Heap.SameBut C s'.heap g → ∀ v : Env, v.locals = C → v.frame = fr → wpAny M A (passOn "comprehension.variables-let-go" x v : Sem Value) (fun _ _ => False) E { s' with heap := g }
  | .ok _, some u => wpAny M A (u acc) (fun _ t => ∃ m, t.heap.Ns C m ∧ ∀ g, Heap.SameBut C t.heap g → Q .none { t with heap := g }) E s'
  | .ok _, none => ∃ m, s'.heap.Ns C m ∧ ∀ g, Heap.SameBut C s'.heap g → Q acc { s' with heap := g }
/-- a comprehension's own frame is let go behind its run, whatever the run's end -/
theorem comp_runs {e : Expr} {scope : Scope} {pos : Pos} {mkAcc src : Sem Value} {c : Comprehension} {cs : List Comprehension} {held : List (Str × Addr)} {use : Option (Value → Sem Unit)} {Q : Value → Shared → Prop}
    (hc : clausesOf e = c :: cs) (hset : ∀ v, foldedSetIterable c.iter env v = pure v) (hheld : closureFor scope env = pure held) (isFun : scope.kind = .function)
    (uniq : ∀ y ∈ scope.names, y.2 = .local → scope.names.lookup y.1 = some .local)
    (go : wpAny M A src (fun v t1 => wpAny M A (pyIter v) (fun i t2 => wpAny M A mkAcc (fun a t3 => wpAny M A (newFunctionEnv scope env.globals held [] env.qual none .none (some env)) (fun ie t4 =>
      codeAny M A (.compStart e 0 i a { ie with scope := relabel scope env }) (compPostX M A E use Q a ie.locals ie.frame) t4) E t3) E t2) E t1) E s) : wpAny M A (comprehension e scope env pos mkAcc false src use) Q E s := by
  unfold comprehension
  rw [hheld, hc]
  have same : ∀ (v : Value) (t : Shared), E v t → E v t := fun _ _ y => y
  refine wpAny_bind (wpAny_mono go ?_ same)
  intro v t1 g1
  refine wpAny_bind (wpAny_standAt (wpAny_bind (wpAny_of_eq (hset v) (wpAny_bind (wpAny_holding (wpAny_mono g1 ?_ same))))))
  intro i t2 g2
  refine wpAny_standIf (wpAny_bind (wpAny_mono g2 ?_ same))
  intro a t3 g3
  refine wpAny_bind (wpAny_pure (wpAny_bind (wpAny_mono g3 ?_ same)))
  intro ie t4 g4
  dsimp only
  have kinds : ∀ l : List (Str × NameKind), (∀ y ∈ l, y ∈ scope.names) → ∀ y ∈ l, y.2 = .local → Env.kindOf { ie with scope := relabel scope env } y.1 = some .local :=
    fun l q y yl yk => lookup_relabel_local (uniq y (q y yl) yk)
  have part : ∀ (p : Str × NameKind → Bool), ∀ y ∈ (scope.names.filter p).reverse, y ∈ scope.names := fun p y q => (List.mem_filter.mp (List.mem_reverse.mp q)).1
  refine wpAny_holding (wpAny_bind (wpAny_attempt (wpAny_holding (wpAny_run (codeAny_mono g4 ?_)))))
  intro r t5 g5
  match r, use, g5 with
  | .ok _, none, ⟨m, here, g6⟩ =>
    refine wpAny_bind (wpAny_holding (wpAny_comp_letGo (cenv := { ie with scope := relabel scope env }) isFun _ t5 m (kinds _ (part _)) here ?_))
    exact fun t _ _ q => wpAny_pure (g6 t q)
  | .ok _, some u, g5 =>
    refine wpAny_bind (wpAny_rule (wpAny_bind (wpAny_holding (wpAny_mono g5 ?_ same))))
    intro _ t6 ⟨m, here, g6⟩
    refine wpAny_bind (wpAny_comp_letGo (cenv := { ie with scope := relabel scope env }) isFun _ t6 m (kinds _ fun y q => ?_) here ?_)
    · exact (List.mem_append.mp q).elim (fun q => part _ y (List.mem_of_mem_drop q)) (fun q => part _ y (List.mem_of_mem_take q))
    · exact fun t _ _ q => wpAny_pure (g6 t q)
  | .error x, use, g5 =>
    obtain ⟨m, here, g6⟩ : ∃ m, t5.heap.Ns ie.locals m ∧ ∀ t, Heap.SameBut ie.locals t5.heap t → ∀ v : Env, v.locals = ie.locals → v.frame = ie.frame →
        wpAny M A (passOn "comprehension.variables-let-go" x v : Sem Value) (fun _ _ => False) E { t5 with heap := t } := by
      cases use <;> exact g5
    refine wpAny_bind (wpAny_holding (wpAny_comp_letGo (cenv := { ie with scope := relabel scope env }) isFun _ t5 m (kinds _ (part _)) here ?_))
    exact fun t _ _ q => wpAny_mono (g6 t q _ rfl rfl) (fun _ _ z => z.elim) same
end
theorem funFrames_comp {h h' B : Heap} {C : Addr} (k : ∀ b o, b ≠ C → h.get? b = some o → h'.get? b = some o) : ∀ {l : List Env}, h.FunFrames B l → (∀ b ∈ frs l, b ≠ C) → h'.FunFrames (PySem.W.hideAll B [C]) l
  | [], _, _ => trivial
  | env :: r, ⟨hk, ⟨L, o, hf, hn, ho, hd⟩, hr⟩, hc => by
    have hL : L ≠ C := hc L (List.mem_filterMap.mpr ⟨env, List.mem_cons_self, hf⟩)
    refine ⟨hk, ⟨L, o, hf, ?_, k L o hL ho, hd⟩, funFrames_comp k hr fun b hb => hc b ?_⟩
    · cases q : (PySem.W.hideAll B [C]).get? L with
      | none => rfl
      | some o' => rw [PySem.W.of_hideAll _ q] at hn; cases hn
    · obtain ⟨e, he, q⟩ := List.mem_filterMap.mp hb
      exact List.mem_filterMap.mpr ⟨e, List.mem_cons_of_mem _ he, q⟩
theorem xe_comp {X : Cx} {W : WX} {pins : List (Addr × Obj)} {σ : L2.St} {H3 : Hp} {s3 : Shared} {scope : Scope} {ce : Env} {fp : List Addr} {use : Option (Value → Sem Unit)} {Qf : Value → Shared → Prop} {D : Value} {pn : List (Addr × Obj)} {xe : Value → Shared → Prop}
    (hs : X.stack = X.env :: X.outer) (hf : X.env.frame = some X.env.locals) (tk : L2N.Takes X W) (I3 : Inv X pins σ H3 s3) (f3 : ∀ b ∈ fp, FpOk X pins H3 b ∧ b < s3.heap.objs.size)
    (cL : ce.locals = s3.heap.objs.size) (cF : ce.frame = X.env.frame) (okB : (X.blk s3 H3 scope ce fp).Ok) {u : Value} {s' : Shared}
    (x : L2N.XE ((X.blk s3 H3 scope ce fp).tr pn xe) (fun cls d _ H => W cls d σ H) u s') :
    notedBy (model X.prog X.w) X.A ce (fun e s'' => compPostX (model X.prog X.w) X.A X.xe use Qf D s3.heap.objs.size X.env.frame (.error e) s'') u s' := by
  obtain ⟨a, B, sI, pins', σ', H', cls, d, rfl, J', nb, up, sky, na, os, ag, w⟩ := x
  have J : Inv (X.blk s3 H3 scope ce fp) [] σ' H' sI := ⟨okB, J'.os, J'.bare, J'.base, J'.loc, J'.cell, J'.free, J'.freeC, fun p hp => absurd (show p ∈ ([] : List (Addr × Obj)) ++ [] from hp) (by simp), J'.hok, J'.len⟩
  have hfr : X.A.frames = some (X.env :: X.outer) := by rw [I3.ok.frames, hs]
  generalize hC : s3.heap.objs.size = C at *
  have hCf : ∀ b ∈ frs (X.env :: X.outer), b ≠ C := fun b hb => by
    rw [← hs] at hb
    obtain ⟨_, o, e, _⟩ := okB.funs.mem hb
    have := Heap.lt_size e
    have h2 : (X.blk s3 H3 scope ce fp).s_0.heap.objs.size = C := hC
    rw [h2] at this
    exact Nat.ne_of_lt this
  have sky' : Sky B (X.env :: X.outer) a (L2N.Zn cls d) C s'.heap := by
    have : Sky B X.stack a (L2N.Zn cls d) ce.locals s'.heap := sky
    rwa [hs, cL] at this
  unfold notedBy
  rw [noteFrame_eq cF]
  refine sky_note L2N.Zn.steady hfr hf sky' fun h1 held up1 => ?_
  have J1 : Inv (X.blk s3 H3 scope ce fp) [] σ' H' { s' with heap := h1 } := J.landed nb held.1 (up.trans up1) os ag
  obtain ⟨m, hn, _⟩ := J1.loc
  have hn : h1.Ns C m := by
    have : h1.Ns ce.locals m := hn
    rwa [cL] at this
  refine ⟨m, hn, fun h2 sb cenv _ cfr => ?_⟩
  have nC : H' C = none := by
    have : H' ce.locals = none := J.free
    rwa [cL] at this
  have notC : ∀ {b : Addr} {o : Obj} {vs : Array Value}, h1.get? b = some o → o.data = .fields vs → b ≠ C := fun {b o vs} e dd q => by
    obtain ⟨o', es, ep, ho, hd, _⟩ := hn
    rw [q, ho] at e
    cases e
    rw [hd] at dd; cases dd
  have kh : ∀ b o, b ≠ C → h1.get? b = some o → h2.get? b = some o := fun b o hb e => (sb.2 b hb).trans e
  have I7 : Inv X pins σ H' sI := I3.call' (ch := fp) J.os J.base J.hok J.bare fun b hb => ⟨(f3 b hb).1.2.2.2.1, (f3 b hb).1.2.1, (f3 b hb).1.2.2.2.2.1, (f3 b hb).1.2.2.2.2.2⟩
  obtain ⟨f0, f1, f2, f3', f4, f5⟩ := I3.fpOk (b := C) (Nat.le_of_eq hC) nC
  have I8 := I7.turned (t' := sI.toks) (h' := PySem.W.hideAll sI.heap [C]) (it := C) (fun b o hb e => PySem.W.hideAll_get _ e (by simpa using hb)) f0 f1 f3' f4 f5
  have ofh : ∀ {g : Heap} {b : Addr} {o : Obj}, (PySem.W.hideAll g [C]).get? b = some o → b ≠ C ∧ g.get? b = some o := fun {g b o} e => ⟨(fun q => by
    have := PySem.W.hideAll_none [C] (h := g) (b := C) (by simp)
    rw [q, this] at e; cases e), PySem.W.of_hideAll _ e⟩
  obtain ⟨st, ba, ff, oe, vs, T, oT, ts, he, hz, hd, hv1, hnT, hTe, hT, hdT, hv3⟩ := held
  have aC := notC he hd
  have TC := notC hT hdT
  have held2 : HandSPX.HeldZ (PySem.W.hideAll B [C]) (X.env :: X.outer) a (L2N.Zn cls d) X.env.locals h2 := by
    refine ⟨fun b o e => ?_, ?_, funFrames_comp kh ff hCf, oe, vs, T, oT, ts, kh _ _ aC he, hz, hd, hv1, ?_, hTe, kh _ _ TC hT, hdT, hv3⟩
    · obtain ⟨q1, q2⟩ := ofh e
      exact kh b o q1 (st b o q2)
    · cases q : (PySem.W.hideAll B [C]).get? a with
      | none => rfl
      | some o => rw [(ofh q).2] at ba; cases ba
    · cases q : (PySem.W.hideAll B [C]).get? T with
      | none => rfl
      | some o => rw [(ofh q).2] at hnT; cases hnT
  unfold PySem.passOn
  refine wpAny_bind (wpAny_field (s := { s' with heap := h2 }) (kh _ _ aC he) hd hv1 ?_)
  have hne : (Value.ref T == Value.none) = false := by simp
  rw [cfr, hf]
  simp only [hne, Bool.false_eq_true, if_false]
  refine wpAny_bind (HandSPX.setFlight_onZ (s := { s' with heap := h2 }) held2 fun h3 held3 up3 => ?_)
  refine wpAny_throw ?_
  refine tk _ _ ⟨a, PySem.W.hideAll B [C], _, pins, σ, H', cls, d, rfl, I8, fun b o e hb => ?_, fun b o e hnf => ?_, .inr (.inr (by rw [hs]; exact held3)), na, os, ag, w⟩
  · obtain ⟨q1, q2⟩ := ofh e
    exact PySem.W.hideAll_get _ (nb b o q2 hb) (by simpa using q1)
  · obtain ⟨q1, q2⟩ := ofh e
    obtain ⟨sl1, e1⟩ := (up.trans up1) b o q2 hnf
    exact up3 b { o with slots := sl1 } (kh b _ q1 e1) hnf
section
variable {X : Cx} {W : WX}
/-- what a block of X is, its exceptions to be looked at -/
abbrev bxr (X : Cx) (s : Shared) (H : Hp) (scope : Scope) (cl : List (Str × Addr)) (C : Addr) (fp : List Addr) (pn : List (Addr × Obj)) (xe : Value → Shared → Prop) : Cx := (X.blk s H scope (compEnvC scope cl C X.env) fp).tr pn xe
theorem lcX_core {pins : List (Addr × Obj)} {s : Shared} {σ : L2.St} {H : Hp} {Q : L2.VK} {elt tg iter : Expr} {ifs : List Expr} {scope : Scope} {own : List (Str × Nat)} {pos pos' : Pos} {wi : TI} {g : TG} {tt : TT} {te : WX → TE} {use : Option (Value → Sem Unit)} {Qf : Value → Shared → Prop}
    (hst : X.stack = X.env :: X.outer) (hfm : X.env.frame = some X.env.locals) (tk : L2N.Takes X W) (hc : X.calm = true) (hN : X.N.Nodup) (I : Inv X pins σ H s) (hi : PI X tg iter wi) (ok : BlkOk X.N X.env.scope scope own)
    (hg : ∀ s H C cl fp, PG (X.blk s H scope (compEnvC scope cl C X.env) fp) tg g) (ht : ∀ s H C cl fp, PTs (X.blk s H scope (compEnvC scope cl C X.env) fp) ifs tt)
    (he : ∀ s H C cl fp pn xe Wb, L2N.Takes (bxr X s H scope cl C fp pn xe) Wb → PE (bxr X s H scope cl C fp pn xe) elt (te Wb)) (hfo : ∀ x, foldedSetIterable iter X.env x = pure x)
    (h : tLc wi g tt (te fun cls d _ H => W cls d σ H) (own.map (·.2)) σ H Q)
    (hRR : ∀ D C s' m H', Inv X pins σ H' s' → Q (.ref D) H' → s'.heap.Ns C m → FpOk X pins H' C → compPostX (model X.prog X.w) X.A X.xe use Qf (.ref D) C X.env.frame (.ok .next) s') :
    wpAny (model X.prog X.w) X.A
      (comprehension (.ListComp elt [⟨tg, iter, ifs, 0⟩] scope pos) scope X.env pos'
        (newList []) false (eval iter X.env) use) Qf X.xe s := by
  have free_has : ∀ z ∈ scope.names, z.2 = .free → ∃ c, X.env.cells.lookup z.1 = some c := fun z hz e => (ok.free z hz e).elim (fun q => I.ok.has _ (.inl q)) fun q => I.ok.has _ (.inr q)
  refine comp_runs (use := use) rfl hfo (closure_ok free_has) ok.kind (fun z hz e => by rw [ok.uniq z hz, e]) (thn (hi.run pins s σ H _ I h) fun xv sa hx => thn hx fun itv sb hb => ?_)
  obtain ⟨it, fp, tn, J, Ha, e, Ia, T, sta, fa, q⟩ := hb
  subst e
  refine wpAny_newObj_type (newEnv_comp ?_) (Nat.zero_le _)
  generalize hD : sb.heap.objs.size = D
  have newD : Ha D = none := Ia.hok.fresh (Nat.le_of_eq hD)
  obtain ⟨Wm, ⟨m0, wm0⟩, turn⟩ := q D newD
  generalize hsc : ({ sb with heap := sb.heap.push { cls := .type "list", data := .seq ([] : List Value).toArray } } : Shared) = sc
  have heq : sc.heap = sb.heap.push { cls := .type "list", data := .seq ([] : List Value).toArray } := by rw [← hsc]
  have Ic : Inv X pins σ (upd Ha D (.lst [])) sc := by
    rw [← hsc]
    refine Ia.laid (t' := sb.toks) (fun b o e => Heap.get?_push_of_some _ e) (Nat.le_of_eq hD) ⟨Nat.zero_le _, [], 0, .nil, ?_⟩
    rw [← hD]; exact Heap.get?_push_size _ rfl
  have small : ∀ b ∈ fp, b < sb.heap.objs.size := fun b hb => by
    obtain ⟨o, e, _⟩ := T.obj _ _ sta b hb
    exact Heap.lt_size e
  have fc : ∀ b ∈ fp, FpOk X pins (upd Ha D (.lst [])) b ∧ b < sc.heap.objs.size := fun b hb => by
    have hlt := small b hb
    exact ⟨⟨by rw [upd_ne (by rw [← hD]; exact Nat.ne_of_lt hlt)]; exact (fa b hb).1, (fa b hb).2⟩, by rw [heq, Heap.size_push]; exact Nat.lt_succ_of_lt hlt⟩
  have stc : tn 0 sc.heap := T.keep _ _ _ sta fun b _ o e => by rw [heq]; exact Heap.get?_push_of_some _ e
  have Id := block_start Ic ok hN fc
  have okB := Id.ok
  have pg := hg sc (upd Ha D (.lst [])) sc.heap.objs.size (cellsFrom (sc.heap.objs.size + 1) scope.names (cloFrom X.env.cells scope.names [])) fp
  have pt := ht sc (upd Ha D (.lst [])) sc.heap.objs.size (cellsFrom (sc.heap.objs.size + 1) scope.names (cloFrom X.env.cells scope.names [])) fp
  have pe := he sc (upd Ha D (.lst [])) sc.heap.objs.size (cellsFrom (sc.heap.objs.size + 1) scope.names (cloFrom X.env.cells scope.names [])) fp
  unfold bxr at pe
  show codeAny _ _ (.compStart (.ListComp elt [⟨tg, iter, ifs, 0⟩] scope pos) 0 (.ref it) (.ref D) (compEnvC scope (cellsFrom (sc.heap.objs.size + 1) scope.names (cloFrom X.env.cells scope.names [])) sc.heap.objs.size X.env))
    (compPostX (model X.prog X.w) X.A X.xe use Qf (.ref D) sc.heap.objs.size X.env.frame) { sc with heap := pushCells (sc.heap.push { cls := .type "dict", data := .dict #[] }) scope.names }
  have nfp : ∀ b ∈ fp, (upd Ha D (.lst [])) b = none := fun b hb => (fc b hb).1.1
  generalize hce : compEnvC scope (cellsFrom (sc.heap.objs.size + 1) scope.names (cloFrom X.env.cells scope.names [])) sc.heap.objs.size X.env = ce at Id pg pt pe okB ⊢
  have cL : ce.locals = sc.heap.objs.size := by subst hce; rfl
  have cF : ce.frame = X.env.frame := by subst hce; rfl
  generalize hHc : upd Ha D (.lst []) = Hc at Ic Id pg pt pe wm0 nfp fc okB
  generalize hsd : ({ sc with heap := pushCells (sc.heap.push { cls := .type "dict", data := .dict #[] }) scope.names } : Shared) = sd at Id ⊢
  have std : tn 0 sd.heap := T.keep _ _ _ stc fun b _ o e => by rw [← hsd]; exact pushCells_keeps _ _ _ _ (Heap.get?_push_of_some _ e)
  have kept : ∀ {σ' : L2.St} {H' : Hp} {s' : Shared}, Inv (X.blk sc Hc scope ce fp) [] σ' H' s' → (∀ b ∈ fp, H' b = none) → ∀ b ∈ fp, FpOk (X.blk sc Hc scope ce fp) [] H' b := fun {σ' H' s'} I' hn b hb =>
    let ⟨u1, u2⟩ := I'.ok.exf b hb; ⟨hn b hb, u1, I'.ok.exfs b hb, .inl hb, u2, fun p hp => by cases (show p ∈ ([] : List (Addr × Obj)) from hp)⟩
  have whole : codeAny (model X.prog X.w) X.A (.compLoop (.ListComp elt [⟨tg, iter, ifs, 0⟩] scope pos) 0 (.ref it) (.ref D) ce) (compPostX (model X.prog X.w) X.A X.xe use Qf (.ref D) sc.heap.objs.size X.env.frame) sd := by
    refine compLoop_any (fun n s' => ∃ i H', Inv (X.blk sc Hc scope ce fp) [] (wipe σ (own.map (·.2))) H' s' ∧ tn i s'.heap ∧ (∀ b ∈ fp, H' b = none) ∧ Wm i n H') ?_ m0 ⟨0, Hc, Id, std, nfp, wm0⟩
    rintro n sh5 ⟨i, hp5, inv5, at5, free5, dec5⟩
    rcases turn i n hp5 dec5 with ⟨ends, ready⟩ | ⟨more, Nx, hNx, step⟩
    · refine thnF (T.done (X.blk sc Hc scope ce fp) rfl rfl rfl hc i [] sh5 _ hp5 (fun _ _ => False) inv5 (kept inv5 free5) at5 ends) fun r s6 ⟨hr, I6⟩ => ?_
      subst hr
      have inv7 : Inv X pins σ hp5 s6 := Ic.call' (ch := fp) I6.os I6.base I6.hok I6.bare fun b hb => ⟨(fc b hb).1.2.2.2.1, (fc b hb).1.2.1, (fc b hb).1.2.2.2.2.1, (fc b hb).1.2.2.2.2.2⟩
      have nC : hp5 sc.heap.objs.size = none := by rw [← cL]; exact I6.free
      obtain ⟨m, hn, _⟩ := I6.loc
      have hn' : s6.heap.Ns sc.heap.objs.size m := by rw [← cL]; exact hn
      exact hRR D sc.heap.objs.size s6 m hp5 inv7 ready hn' (Ic.fpOk (Nat.le_refl _) nC)
    · refine thnF (T.item (X.blk sc Hc scope ce fp) rfl rfl rfl hc i [] sh5 _ hp5 (fun _ _ => False) inv5 (kept inv5 free5) at5 more) fun r s6 ⟨u, hr, h6⟩ => ?_
      subst hr
      refine thnF h6 fun _ s7 ⟨x, hp7, inv7, rv7, yy7, st7, free7⟩ => ?_
      refine thnF (pg.run _ s7 _ hp7 x u _ (inv7.pinned (kept inv7 free7) (T.obj _ _ st7)) rv7 (step x hp7 yy7)) fun _ s8 ⟨σ8, H8, I8, hw8, q8⟩ => ?_
      refine thnF (pt.run _ s8 σ8 H8 _ I8 q8) fun yes sh9 ⟨hp9, inv9, ok9⟩ => ?_
      have fin : ∀ {s' : Shared} {H' : Hp}, Inv (X.blk sc Hc scope ce fp) ([] ++ pinsAt fp s7.heap) σ8 H' s' → Nx H' → ∃ m, m < n ∧ ∃ i H', Inv (X.blk sc Hc scope ce fp) [] (wipe σ (own.map (·.2))) H' s' ∧ tn i s'.heap ∧ (∀ b ∈ fp, H' b = none) ∧ Wm i m H' := fun {s' H'} I' on => by
        obtain ⟨m2, hm, dec2⟩ := hNx H' on
        have at7 : ∀ b ∈ fp, ∀ o, s7.heap.get? b = some o → s'.heap.get? b = some o ∧ H' b = none := fun b hb o e =>
          ⟨(I'.pin (b, o) (List.mem_append_right _ (List.mem_append_right _ (mem_pinsAt hb e)))).1, (I'.pin (b, o) (List.mem_append_right _ (List.mem_append_right _ (mem_pinsAt hb e)))).2.1⟩
        refine ⟨m2, hm, i + 1, H', (I'.unpinned (pins := [])).weak (by rw [← hw8, wipe_length]) (fun j v e => by rw [← hw8] at e; exact (wipe_some e).1), T.keep _ _ _ st7 fun b hb o e => (at7 b hb o e).1, fun b hb => ?_, dec2⟩
        let ⟨o, e, _⟩ := T.obj _ _ st7 b hb
        exact (at7 b hb o e).2
      cases yes with
      | false =>
        rw [if_neg Bool.false_ne_true] at ok9 ⊢
        exact fin inv9 ok9
      | true =>
        rw [if_pos rfl] at ok9 ⊢
        have pe' := pe ((X.blk sc Hc scope ce fp).pn ++ ([] ++ pinsAt fp s7.heap)) (notedBy (model X.prog X.w) X.A ce fun e s' => compPostX (model X.prog X.w) X.A X.xe use Qf (.ref D) sc.heap.objs.size X.env.frame (.error e) s') (fun cls d _ H => W cls d σ H)
          fun u s' x => xe_comp hst hfm tk Ic fc cL cF okB x
        refine wpAny_mono (pe'.run _ sh9 σ8 hp9 _ (inv9.toTry _) ok9) (fun z s10 ⟨yv, H10, I10, r10, acc, hD10, hz10, on⟩ => ?_) fun _ _ z => z
        exact app_ok (X := X.blk sc Hc scope ce fp) (I10.ofTry okB) hD10 hz10 r10 fun s11 I11 => fin I11 on
  exact codeAny_compStart_list whole (T.self X.A 0 _ _ _ std whole)
end
section
variable {X : Cx} {W : WX} {pos : Pos}
theorem pe_lcX {elt tg iter : Expr} {ifs : List Expr} {scope : Scope} {own : List (Str × Nat)} {wi : TI} {g : TG} {tt : TT} {te : WX → TE}
    (hst : X.stack = X.env :: X.outer) (hfm : X.env.frame = some X.env.locals) (tk : L2N.Takes X W) (hc : X.calm = true) (hN : X.N.Nodup) (hi : PI X tg iter wi) (ok : BlkOk X.N X.env.scope scope own)
    (hg : ∀ s H C cl fp, PG (X.blk s H scope (compEnvC scope cl C X.env) fp) tg g) (ht : ∀ s H C cl fp, PTs (X.blk s H scope (compEnvC scope cl C X.env) fp) ifs tt)
    (he : ∀ s H C cl fp pn xe Wb, L2N.Takes (bxr X s H scope cl C fp pn xe) Wb → PE (bxr X s H scope cl C fp pn xe) elt (te Wb)) (hfo : ∀ x, foldedSetIterable iter X.env x = pure x) :
    PE X (.ListComp elt [⟨tg, iter, ifs, 0⟩] scope pos) (fun σ H Q => tLc wi g tt (te fun cls d _ H => W cls d σ H) (own.map (·.2)) σ H Q) := by
  refine ⟨fun pins s σ H Q I h => ?_⟩
  rw [eval_ListComp]
  refine lcX_core hst hfm tk hc hN I hi ok hg ht he hfo h fun D C s' m H' I' q hn f => ⟨m, hn, fun h2 sb => ?_⟩
  exact ⟨.ref D, H', I'.turned (t' := s'.toks) (fun b o hb e => (sb.2 b hb).trans e) f.1 f.2.1 f.2.2.2.1 f.2.2.2.2.1 f.2.2.2.2.2, rfl, q⟩
theorem ps_setLcX {i : Nat} {y : Str} {py spos : Pos} {elt tg iter : Expr} {ifs : List Expr} {scope : Scope} {own : List (Str × Nat)} {wi : TI} {g : TG} {tt : TT} {te : WX → TE}
    (hst : X.stack = X.env :: X.outer) (hfm : X.env.frame = some X.env.locals) (tk : L2N.Takes X W) (hc : X.calm = true) (hN : X.N.Nodup) (hy : X.N[i]? = some y) (hyl : X.env.scope.names.lookup y = some .local)
    (hsw : swapsWith (.ListComp elt [⟨tg, iter, ifs, 0⟩] scope pos) (some (.Name y py)) spos.line X.env = pure true) (hi : PI X tg iter wi) (ok : BlkOk X.N X.env.scope scope own)
    (hg : ∀ s H C cl fp, PG (X.blk s H scope (compEnvC scope cl C X.env) fp) tg g) (ht : ∀ s H C cl fp, PTs (X.blk s H scope (compEnvC scope cl C X.env) fp) ifs tt)
    (he : ∀ s H C cl fp pn xe Wb, L2N.Takes (bxr X s H scope cl C fp pn xe) Wb → PE (bxr X s H scope cl C fp pn xe) elt (te Wb)) (hfo : ∀ x, foldedSetIterable iter X.env x = pure x) :
    PS X (.Assign [.Name y py] (.ListComp elt [⟨tg, iter, ifs, 0⟩] scope pos) spos) (tAsg (fun σ H Q => tLc wi g tt (te fun cls d _ H => W cls d σ H) (own.map (·.2)) σ H Q) (gName i)) := by
  refine ⟨fun pins s σ H D I h => ?_⟩
  rw [exec_Assign_Name_used _ _ _ _ hsw]
  refine wpAny_bind (wpAny_standAt (wpAny_bind ?_))
  have h : tLc wi g tt (te fun cls d _ H => W cls d σ H) (own.map (·.2)) σ H (fun x H1 => gName i x σ H1 D.nx) := h
  refine wpAny_bind (thn (lcX_core (use := some (assign (.Name y py) X.env)) (Qf := fun _ s' => SP X pins D .next s') hst hfm tk hc hN I hi ok hg ht he hfo h fun L C s' m H' I' q hn f => ?_) fun _ s' hq => wpAny_pure (wpAny_pure hq))
  show wpAny _ _ (assign (.Name y py) X.env (.ref L)) _ _ _
  refine wpAny_assign_Name (store_ok2 (v := V.ref L) I' hN hy (.inl hyl) rfl (fun s2 I2 ⟨a, sb, ha⟩ => ?_) (.inr hyl))
  have haC : C ≠ a := by
    rcases ha with z | z
    · rw [z]; exact f.2.1
    · exact fun e => f.2.2.2.2.1 y a z e.symm
  exact ⟨m, hn.sameBut sb haC, fun h3 sb3 => ⟨_, H', I2.turned (t' := s2.toks) (fun b o hb e => (sb3.2 b hb).trans e) f.1 f.2.1 f.2.2.2.1 f.2.2.2.2.1 f.2.2.2.2.2, q⟩⟩
end
open Classical in
/-- a comprehension whose steps may raise -/
noncomputable def compMX (grd : Sto → Prop) (g : Gm) (t : Tm) (e : Em) (δ : Loc) : List D → List D → Sto → R D
  | acc, [], S => if grd S then .ok (.lst acc) S else .stuck
  | acc, x :: xs, S => if grd S then (g x δ S).quiet.bind fun δ' S1 => (t δ' S1).quiet.bind fun k S2 =>
      if k = true then (e δ' S2).bind fun y S3 => compMX grd g t e δ (acc ++ [y]) xs S3 else compMX grd g t e δ acc xs S2 else .stuck
noncomputable def mCompX (src : Src) (g : Gm) (t : Tm) (e : Em) (vs : List Nat) : Em := fun δ S => (src δ S).bind fun p S1 => compMX p.2 g t e (wipeD δ vs) [] p.1 S1
theorem RX.lift {ι ι' : Z} {H H' : Hp} {mg : EnvK} {c : Exc} {cls : Value} {dx : Option Addr} (s : Lift ι H ι' H') (hx : ∀ d o, H d = some (.xd o) → H' d = some (.xd o)) (h : RX H ι mg c cls dx) : RX H' ι' mg c cls dx := by
  refine ⟨h.1, ?_⟩
  rcases h.2 with q | ⟨ne, d, vs, e1, e2, e3, r⟩
  · exact .inl q
  · exact .inr ⟨ne, d, vs, e1, hx _ _ e2, e3, r.mono s⟩
section
variable {mg : EnvK} {α β γ ε : Type} {W : XK} {ι ι2 : Z} {H H2 : Hp}
/-- an exception goes out over hidden objects -/
theorem G.loud {Rl : Rel α β} {Rl2 : Rel γ ε} {r : R α} {k : α → Sto → R γ} {Q : ε → Hp → Prop} (h : G mg W ι H Rl2 (r.bind k) Q)
    (hs : ∀ ι' H', Step ι2 H2 ι' H' → Rep H' ι' mg [] → True) (out : ∀ (c : Exc) (S : Sto) (ι' : Z) (H' : Hp) cls dx, G mg W ι H Rl2 (.exc c S : R γ) Q → Step ι2 H2 ι' H' → Rep H' ι' mg S → RX H' ι' mg c cls dx → W cls dx H') :
    G mg W ι2 H2 Rl r (fun b H' => ∃ ι' S' a, Step ι2 H2 ι' H' ∧ Rep H' ι' mg S' ∧ Rl H' ι' a b ∧ G mg W ι H Rl2 (k a S') Q) := by
  cases r with
  | ok a S => exact fun ι' H' b st rp rl => ⟨ι', S, a, st, rp, rl, h⟩
  | exc c S => exact fun ι' H' cls dx st rp rx => out c S ι' H' cls dx h st rp rx
  | stuck => exact h.elim
end
theorem compMX_grd {grd : Sto → Prop} {g : Gm} {t : Tm} {e : Em} {δ : Loc} {acc xs : List D} {S : Sto} {mg W ι H} {Q : V → Hp → Prop} (h : G mg W ι H RD (compMX grd g t e δ acc xs S) Q) : grd S := by
  cases xs with
  | nil =>
    rw [compMX] at h
    split at h
    · assumption
    · exact h.elim
  | cons x xs =>
    rw [compMX] at h
    split at h
    · assumption
    · exact h.elim
section
variable {X : Cx} {W : WX} {pos : Pos} {m : Em} {t : Tm} {g : Gm}
theorem compX_core {tg : Expr} {gt : TG} {src : Src} {vs : List Nat} (hr : TgR vs gt g) {σ : L2.St} {H : Hp} {Q : L2.VK} (h : tDE X.ek W (mCompX src g t m vs) σ H Q) :
    tLc (tDI X.ek W src) gt (tD X.ek w0 REq t) (tDE X.ek (fun cls d _ H => W cls d σ H) m) vs σ H Q := by
  refine t_bind h fun ι S δ p J H1 rp rs rit gs => ?_
  obtain ⟨hz, rit⟩ := rit
  intro D hD
  have hno := rp.fresh hD
  refine ⟨fun i m' H2 => m' = p.1.length - i ∧ i ≤ p.1.length ∧ ∃ ι2 S2 accD accV, Lift ι H1 ι2 H2 ∧ ι2.b = D :: ι.b ∧ Rep H2 ι2 X.ek S2 ∧ H2 D = some (.lst accV) ∧ RDs H2 ι2 accD accV ∧ accD.length ≤ i ∧
      (∀ x ∈ ι.b, ∀ o, H1 x = some o → H2 x = some o) ∧ G X.ek (wat W σ) ι H1 RD (compMX p.2 g t m (wipeD δ vs) accD (p.1.drop i) S2) Q,
    ⟨_, rfl, Nat.zero_le _, ι.hide D, S, [], [], Lift.hide hD, rfl, rp.hide hD (.intro (fun _ _ z => nomatch z) (fun _ _ z => nomatch z)), upd_same, RDs.nil, Nat.le_refl _, fun x _ o e => by rw [upd_ne (ne_of_none e hD)]; exact e, by rw [List.drop_zero]; exact gs⟩, ?_⟩
  rintro i m' H2 ⟨rfl, hi, ι2, S2, accD, accV, lf, eb, rp2, hH, ra, hl, hid, g2⟩
  have gr := compMX_grd g2
  obtain ⟨q1, q2⟩ := rit i H2 ι2 S2 lf rp2 gr
  by_cases hlt : i < p.1.length
  · obtain ⟨q3, q4⟩ := q1 hlt
    refine .inr ⟨q3, fun H' => i + 1 ≤ p.1.length ∧ ∃ ι2 S2 accD accV, Lift ι H1 ι2 H' ∧ ι2.b = D :: ι.b ∧ Rep H' ι2 X.ek S2 ∧ H' D = some (.lst accV) ∧ RDs H' ι2 accD accV ∧ accD.length ≤ i + 1 ∧
      (∀ x ∈ ι.b, ∀ o, H1 x = some o → H' x = some o) ∧ G X.ek (wat W σ) ι H1 RD (compMX p.2 g t m (wipeD δ vs) accD (p.1.drop (i + 1)) S2) Q, fun H' q => ⟨_, by omega, rfl, q⟩, fun x H3 y => ?_⟩
    obtain ⟨d, e, st3, rp3, rd⟩ := q4 x H3 y
    have e2 : p.1.drop i = d :: p.1.drop (i + 1) := by
      have := List.getElem?_eq_some_iff.mp e
      rw [List.drop_eq_getElem_cons hlt, this.2]
    rw [e2, compMX, if_pos gr] at g2
    have rs3 : RSt H3 ι2 (wipeD δ vs) (L2.wipe σ vs) := (rs.wipe vs).mono (lf.trans st3.up)
    have hDb : D ∈ ι2.b := by rw [eb]; exact List.mem_cons_self
    have sub : ∀ x ∈ ι.b, x ∈ ι2.b := fun x hx => by rw [eb]; exact List.mem_cons_of_mem _ hx
    have gq := G.quiet (ι2 := ι2) (H2 := H3) (Rl := RSt) (fun _ _ _ => False) g2
    refine hr X.ek _ ι2 S2 H3 (wipeD δ vs) (L2.wipe σ vs) d x _ _ rp3 rs3 rd gq ?_
    rw [wipe_wipe]
    · rintro σ2 H4 hw ⟨ι4, S4, δ4, st4, rp4, rs4, g4⟩
      refine ⟨hw, ι4, S4, δ4, rp4, rs4, (G.quiet (ι2 := ι4) (H2 := H4) (Rl := REq) _ g4).imp fun b H5 ⟨ι5, S5, k, st5, rp5, ek, g5⟩ => ?_⟩
      rw [show b = k from ek]
      have st35 : Step ι2 H2 ι5 H5 := (st3.trans st4).trans st5
      cases k with
      | false =>
        rw [if_neg Bool.false_ne_true] at g5 ⊢
        exact ⟨hlt, ι5, S5, accD, accV, lf.trans st35.up, st35.bb.trans eb, rp5, st35.hid D hDb _ hH, ra.mono st35.up, by omega, fun x hx o ex => st35.hid x (sub x hx) o (hid x hx o ex), g5⟩
      | true =>
        rw [if_pos rfl] at g5 ⊢
        refine ⟨ι5, S5, δ4, rp5, rs4.mono st5.up, (G.loud (ι2 := ι5) (H2 := H5) (Rl := RD) g5 (fun _ _ _ _ => trivial) fun c S ι' H' cls dx ge st rp rx => ?_).imp fun yv H6 ⟨ι6, S6, yd, st6, rp6, ry, g6⟩ => ?_⟩
        · have st3' : Step ι2 H2 ι' H' := st35.trans st
          have eb' : ι'.b = D :: ι.b := st3'.bb.trans eb
          exact ge ⟨ι'.a, ι.b, ι'.k⟩ H' cls dx ⟨(lf.trans st3'.up).trans (Lift.show eb'), rfl, fun x hx o ex => st3'.hid x (sub x hx) o (hid x hx o ex)⟩ (rp.show eb') (rx.lift (Lift.show eb') fun _ _ z => z)
        have st36 : Step ι2 H2 ι6 H6 := st35.trans st6
        have eb6 : ι6.b = D :: ι.b := st36.bb.trans eb
        have hD6 : D ∈ ι6.b := by rw [eb6]; exact List.mem_cons_self
        have hH6 := st36.hid D hDb _ hH
        have la : accV.length = accD.length := ra.length.symm
        refine ⟨accV, hH6, by omega, hlt, ?_⟩
        obtain ⟨rp7, l7⟩ := rp6.writeHid (o := .lst (accV ++ [yv])) hD6 (.intro (fun _ _ z => nomatch z) (fun _ _ z => nomatch z))
        refine ⟨ι6, S6, accD ++ [yd], accV ++ [yv], (lf.trans st36.up).trans l7, eb6, rp7, upd_same, ((ra.mono st36.up).mono l7).app (.cons (ry.mono l7) .nil), by simp; omega, fun x hx o ex => ?_, g6⟩
        have : x ≠ D := fun z => hno.2 (z ▸ hx)
        rw [upd_ne this]
        exact st36.hid x (sub x hx) o (hid x hx o ex)
  · have e : i = p.1.length := by omega
    subst e
    rw [List.drop_length, compMX, if_pos gr] at g2
    refine .inl ⟨q2 (Nat.le_refl _), ?_⟩
    have eb' : ι2.b = D :: ι.b := eb
    refine g2.at (ι' := ⟨ι2.a, ι.b, ι2.k⟩) (H' := H2) ⟨lf.trans (Lift.show eb'), rfl, hid⟩ (rp2.show eb') ?_
    simp only [RD]
    exact ⟨D, accV, rfl, hH, ⟨(rp2.bt D (by rw [eb]; exact List.mem_cons_self)).1, hno.2⟩, by omega, ra.mono (Lift.show eb')⟩
theorem de_compX {elt tg iter : Expr} {ifs : List Expr} {scope : Scope} {own : List (Str × Nat)} {gt : TG} {src : Src} (hst : X.stack = X.env :: X.outer) (hfm : X.env.frame = some X.env.locals) (tk : L2N.Takes X W) (hc : X.calm = true) (hN : X.N.Nodup)
    (hi : DI X W tg iter src) (ok : BlkOk X.N X.env.scope scope own) (hg : ∀ s H C cl fp, PG (X.blk s H scope (compEnvC scope cl C X.env) fp) tg gt) (hr : TgR (own.map (·.2)) gt g) (ht : ∀ s H C cl fp, DTs (X.blk s H scope (compEnvC scope cl C X.env) fp) w0 ifs t)
    (he : ∀ s H C cl fp pn xe Wb, L2N.Takes (bxr X s H scope cl C fp pn xe) Wb → DE (bxr X s H scope cl C fp pn xe) Wb elt m) (hfo : ∀ x, foldedSetIterable iter X.env x = pure x := by intro _; rfl) :
    DE X W (.ListComp elt [⟨tg, iter, ifs, 0⟩] scope pos) (mCompX src g t m (own.map (·.2))) :=
  pe_imp (pe_lcX (tt := tD X.ek w0 REq t) (te := fun Wb => tDE X.ek Wb m) hst hfm tk hc hN hi ok hg ht he hfo) fun σ H Q h => compX_core (tg := tg) hr h
theorem ds_setCompX {i : Nat} {y : Str} {py spos : Pos} {elt tg iter : Expr} {ifs : List Expr} {scope : Scope} {own : List (Str × Nat)} {gt : TG} {src : Src} (hst : X.stack = X.env :: X.outer) (hfm : X.env.frame = some X.env.locals) (tk : L2N.Takes X W) (hc : X.calm = true) (hN : X.N.Nodup)
    (hy : X.N[i]? = some y) (hyl : X.env.scope.names.lookup y = some .local) (hsw : swapsWith (.ListComp elt [⟨tg, iter, ifs, 0⟩] scope pos) (some (.Name y py)) spos.line X.env = pure true)
    (hi : DI X W tg iter src) (ok : BlkOk X.N X.env.scope scope own) (hg : ∀ s H C cl fp, PG (X.blk s H scope (compEnvC scope cl C X.env) fp) tg gt) (hr : TgR (own.map (·.2)) gt g) (ht : ∀ s H C cl fp, DTs (X.blk s H scope (compEnvC scope cl C X.env) fp) w0 ifs t)
    (he : ∀ s H C cl fp pn xe Wb, L2N.Takes (bxr X s H scope cl C fp pn xe) Wb → DE (bxr X s H scope cl C fp pn xe) Wb elt m) (hfo : ∀ x, foldedSetIterable iter X.env x = pure x := by intro _; rfl) :
    DS X W (.Assign [.Name y py] (.ListComp elt [⟨tg, iter, ifs, 0⟩] scope pos) spos) (sAsg (mCompX src g t m (own.map (·.2))) (gmName i)) :=
  ps_imp (ps_setLcX (tt := tD X.ek w0 REq t) (te := fun Wb => tDE X.ek Wb m) hst hfm tk hc hN hy hyl hsw hi ok hg ht he hfo) fun D σ H h =>
    compX_core (tg := tg) hr (s_bind h fun ι S δ d v H' rp rs r g => g ι H' _ .refl rp (rs_set rs r _))
end
end PM

set_option maxHeartbeats 1000000
/-! PM, part 46: sorted(pairs, key=f), f a def that gives a pair's first -/
namespace PM
open PySem PySem.Spec L2 PyProof.Rows
section
variable {X : Cx} {k : Nat} {x qual p : Str} {st : Stmt} {f : Addr} {fd : FuncData}
/-- a call of such a def keeps the heap -/
theorem first_turn {pins : List (Addr × Obj)} {σ : L2.St} {H : Hp} {s : Shared} {j : Nat} {pp cp sp rp : Pos} (I : Inv X pins σ H s) (hr : Room k X.A) (F : Fun X.K x qual st f fd) (Sc : FnScope [p] [p] (defScope st)) (hl : (defScope st).names.lookup p = some .local)
    (hbd : defBody st = [.Return (some (.Subscript (.Name p pp) (.Constant (.int 0) j cp) sp)) rp]) (hd : (p == ("__debug__" : Str)) = false) (hb : Binds X.K fd [p] []) {t : Addr} {l : Str} {y : V} (ht : SqT X.K H t [.str l, y]) (h : Heap) (tk : Nat) (kp : ∀ b o, s.heap.get? b = some o → h.get? b = some o) :
    wpAny (model X.prog X.w) X.A.in1.in1 (call (.ref f) [.ref t]) (PySem.W.KeyPure (.str l) { s with heap := h, toks := tk }) (fun _ _ => False) { s with heap := h, toks := tk } := by
  obtain ⟨oc, od, kV, doc, pm, an, cdv, ct, osl, rfl, lk, hcd⟩ := F.ex
  have I1 : Inv X pins σ H { s with heap := h, toks := tk } := I.kept kp
  refine wpAny_call ?_
  have hbind := hb { s with heap := h, toks := tk } [.ref t] I1.kIn rfl
  refine codeAny_call_function (show X.A.in1.in1.depth < _ from hr.depth) (I1.kIn _ _ lk) rfl Sc.co Sc.gen rfl (PySem.W.codeRec_of I1.kIn hcd) (hbind _ _ _ _ ?_)
  refine wpAny_newFunctionEnv_cells Sc.kind (fun y hy => .inl ?_) fun env he s1 x1 => ?_
  · have : y = (p, .ref t) := by simpa using hy
    rw [this]; exact hl
  have lim : ({ s with heap := h, toks := tk } : Shared).heap.NoLimit := I1.nolimit
  have hk : env.scope.kind = .function := by rw [he]; exact Sc.kind
  have hkl : env.kindOf p = some .local := by rw [he]; exact hl
  obtain ⟨h1, tk1, es1, kp1⟩ := x1.done
  subst es1
  have I2 : Inv X pins σ H { s with heap := h1, toks := tk1 } := I1.kept kp1
  obtain ⟨its, r, pl, hz⟩ := I2.tuple ht
  obtain ⟨u1, u2, rfl, ri, rj⟩ := vals2 r
  obtain ⟨t1, rfl⟩ := ri
  refine ⟨lim.keeps kp1, codeAny_func ?_⟩
  show wpAny _ _ (execs (defBody st) env) _ _ _
  rw [hbd]
  refine wpAny_execs_cons (wpAny_Return_some (Subscript_ (wpAny_Name (ldLC x1 hk hkl (v := .ref t) ?_ ?_) hd)))
  · have hkl2 : Env.kindOf env p = some .local := hkl
    simp [bindL, hkl2]
  refine wpAny_Constant_int ?_
  refine subscriptTail_builtinR (x := .str l t1) (s := { s with heap := h1, toks := tk1 + 1 }) pl.typeIs slot_tuple_getitem.lookup (getItem_tuple (j := 0) (s := { s with heap := h1, toks := tk1 + 1 }) pl (by decide) (by decide) (by rfl) (by rfl) ⟨rfl, ?_⟩) rfl
  exact ⟨h1, _, rfl, kp1, .str l t1⟩
end
theorem each_of_vals : ∀ {xs : List V} {us : List Value}, Vals xs us → PySem.W.EachIs (fun (u : Value) (x : V) => RelV x u) us xs
  | [], _, .nil => .nil
  | _ :: _, _ :: _, .cons r t => .cons r (each_of_vals t)
theorem vals_of_each : ∀ {us : List Value} {xs : List V}, PySem.W.EachIs (fun (u : Value) (x : V) => RelV x u) us xs → Vals xs us
  | _, _, .nil => .nil
  | _, _, .cons r t => .cons r (vals_of_each t)
theorem leS_data (k : V → Str) : PySem.W.dataLe false (fun x => PyData.str (k x)) = fun a b => leS (k a) (k b) := by
  rw [PySem.W.dataLe_str]
  funext a b
  rw [leS_ltT]
  unfold ltT
  rw [← decide_not]
  exact decide_eq_decide.mpr (by rw [List.not_lt])
def rSortedK (K : PySem.W.Frag) (f : Addr) : List V → List V → Hp → L2.VK → Prop := fun vs zs H Q => zs = [V.ref f] ∧ rSortedL K vs H Q
section
variable {X : Cx} {k : Nat} {x qual p : Str} {st : Stmt} {f : Addr} {fd : FuncData}
theorem cr_sortedK {j : Nat} {pp cp sp rp : Pos} (hr : Room k X.A) (F : Fun X.K x qual st f fd) (Sc : FnScope [p] [p] (defScope st)) (hl : (defScope st).names.lookup p = some .local)
    (hbd : defBody st = [.Return (some (.Subscript (.Name p pp) (.Constant (.int 0) j cp) sp)) rp]) (hd : (p == ("__debug__" : Str)) = false) (hb : Binds X.K fd [p] []) : CallRK X (.builtin "sorted") [Str.ofString "key"] (rSortedK X.K f) := by
  rintro pins s σ H vs zs us ws Q I r rz ⟨rfl, a, xs, kk, rfl, hs, hx, hk, q⟩
  obtain ⟨its, rv, hls, hz⟩ := I.list hs
  obtain ⟨u, rfl, ru⟩ := vals1 r
  obtain rfl : u = Value.ref a := ru
  obtain ⟨w1, rfl, rw1⟩ := vals1 rz
  obtain rfl : w1 = Value.ref f := rw1
  refine PySem.W.sorted_key_data (b := false) (fun y : V => PyData.str (kk y)) hls.isList (each_of_vals rv) (PySem.W.AllAlike.of fun _ _ => by simp [PySem.W.alike]) (PySem.W.Sortable.others fun _ => ⟨(fun z => nomatch z), fun _ z => nomatch z⟩) hz (fun y _ => ?_) (PyProof.Rows.ksk_s1 _ _) (fun _ => PyProof.Rows.ksk_l1 _ _) (fun _ => PyProof.Rows.ksk_t1 _ _)
    (fun v y hR hy h tk kp => ?_) fun out c h' tk kp _ hD _ eo => ?_
  · have : (PyData.str (kk y)).depth = 0 := rfl
    have := hr.units
    omega
  · obtain ⟨t, y2, rfl, ht⟩ := hx y hy
    obtain rfl : v = Value.ref t := hR
    exact first_turn I hr F Sc hl hbd hd hb ht.sq h tk kp
  · have vo := vals_of_each eo
    rw [leS_data] at vo
    have hp : (xs.mergeSort fun a b => leS (kk a) (kk b)).Perm xs := List.mergeSort_perm _ _
    refine ⟨.ref _, upd H (s.heap.objs.size + 1) (.lst (xs.mergeSort fun a b => leS (kk a) (kk b))), I.laid (t' := tk) kp (Nat.le_succ _) ⟨by rw [hp.length_eq]; exact hz, out, c, vo, hD⟩, rfl, q _ _ hp ?_ (I.hok.fresh (Nat.le_succ _))⟩
    exact List.pairwise_mergeSort (le := fun a b => leS (kk a) (kk b)) (fun a b c h1 h2 => leS_trans h1 h2) (fun a b => by rw [Bool.or_eq_true]; exact leS_total _ _) xs
variable {W : WX}
def mSortK (a : Em) : Em := fun δ S => (a δ S).bind fun d S1 => cSortedF [d] S1
/-- sorted(e, key=fx) -/
theorem de_sortK {j : Nat} {pp cp sp rp q q2 pos kpos : Pos} {fx : Str} {e : Expr} {ma : Em} (hr : Room k X.A) (HF : ∃ f fd, Fun X.K x qual st f fd ∧ X.mg fx = some (.ref f) ∧ Binds X.K fd [p] []) (Sc : FnScope [p] [p] (defScope st)) (hl : (defScope st).names.lookup p = some .local)
    (hbd : defBody st = [.Return (some (.Subscript (.Name p pp) (.Constant (.int 0) j cp) sp)) rp]) (hd : (p == ("__debug__" : Str)) = false) (hg : Gl X "sorted") (hm : X.mg "sorted" = none) (hgf : Gl X fx) (ha : DE X W e ma)
    (hdf : (fx == ("__debug__" : Str)) = false := by decide)
    (he : backTo pos (starEach [e] X.env) = (false, eval e X.env) :: backTo pos (starEach [] X.env) := by rfl) (hpl : (backTo pos (starEach [e] X.env)).any (·.1) = false := by rfl)
    (hs : starEach [e] X.env = (false, eval e X.env) :: starEach [] X.env := by rfl)
    (hall : (backToKw pos (keywordEach [⟨some "key", .Name fx q2, kpos⟩] X.env)).all (·.1.isSome) = true := by rfl) (hnone : (backToKw pos (keywordEach [⟨some "key", .Name fx q2, kpos⟩] X.env)).any (·.1.isNone) = false := by rfl)
    (hks : (backToKw pos (keywordEach [⟨some "key", .Name fx q2, kpos⟩] X.env)).filterMap (·.1) = [Str.ofString "key"] := by rfl) :
    DE X W (.Call (.Name "sorted" q) [e] [⟨some "key", .Name fx q2, kpos⟩] pos) (mSortK ma) := by
  obtain ⟨f, fd, F, hmf, hb⟩ := HF
  refine pe_imp (pe_callBK (cr_sortedK hr F Sc hl hbd hd hb) hg hm (by decide +kernel) (pa_cons ha pa_nil hs) (pk_cons (nm := some "key") (kpos := kpos) (pe_glob (v := V.ref f) hgf hmf rfl hdf) pk_nil) (by decide) (by decide) he hpl hall hnone hks) fun σ H Q h => ?_
  exact t_bind h fun ι S δ v u H1 rp rs rd g => ⟨rfl, cSortedF_rel _ ι S H1 [u] [v] Q rp (.cons rd .nil) g⟩
end
end PM

/-! PM, part 47: a text times a whole number -/
namespace PM
open PySem PySem.Spec L2 PyProof.Rows
theorem op_mulS {X : Cx} : OpR X (binaryOp .Mult) (fun x y H Q => ∃ (z : Str) (i : Int), x = .str z ∧ y = .int i ∧ z.length ≤ 16 ∧ 0 ≤ i ∧ i ≤ 1000 ∧ Q (.str (Txt.mul z i)) H) := by
  intro pins s σ H x y v u Q I rx ry h
  obtain ⟨z, i, rfl, rfl, h1, h2, h3, q⟩ := h
  obtain ⟨t, rfl⟩ := rx
  obtain ⟨t', rfl⟩ := ry
  exact SB.mul (mulOk_of 16 1000 h1 h3 (by omega) (by decide) (by decide)) fun t' k => ⟨.str _, H, I.tok _, ⟨t', rfl⟩, q⟩
def opMulS (x y : D) (S : Sto) : R D := match x, y with
  | .str z, .int i => if z.length ≤ 16 ∧ 0 ≤ i ∧ i ≤ 1000 then .ok (.str (Txt.mul z i)) S else .stuck
  | _, _ => .stuck
theorem opMulS_ok {X : Cx} : OpD X (binaryOp .Mult) opMulS := by
  refine ⟨_, op_mulS, fun W ι S H x y dx dy Q rp rx ry q => ?_⟩
  unfold opMulS at q
  split at q
  · rename_i z i
    split at q
    · rename_i h
      simp only [RD] at rx ry
      refine ⟨z, i, rx.1, ry, h.1, h.2.1, h.2.2, q.here rp ?_⟩
      simp only [RD]
      refine ⟨trivial, ?_⟩
      have e := len_mul z i
      rw [if_neg (fun c => absurd (of_decide_eq_true c) (by omega))] at e
      have : ((Txt.mul z i).length : Int) ≤ 16000 := by
        rw [e]
        have h16 : (z.length : Int) ≤ 16 := by have := h.1; omega
        calc (z.length : Int) * i ≤ 16 * i := Int.mul_le_mul_of_nonneg_right h16 h.2.1
          _ ≤ 16000 := by have := h.2.2; omega
      have h2 : (Txt.mul z i).length ≤ 16000 := by omega
      exact Nat.le_trans h2 (by decide)
    · exact q.elim
  · exact q.elim
theorem mul_one {c : Nat} {n : Int} (h : 1 ≤ n) : (Txt.mul ⟨#[c]⟩ n) = ⟨(List.replicate n.toNat c).toArray⟩ := by
  unfold Txt.mul
  rw [if_neg (by omega)]
  split
  · rename_i q
    have : n = 1 := by
      rcases Bool.or_eq_true _ _ |>.mp q with q | q
      · exact eq_of_beq q
      · exact absurd (eq_of_beq q) (by intro h; simp [Str.length] at h)
    subst this; rfl
  · congr 1
    generalize n.toNat = m
    have : ∀ (m : Nat) (a : Array Nat), (List.replicate m (#[c] : Array Nat)).foldl (· ++ ·) a = a ++ (List.replicate m c).toArray := by
      intro m
      induction m with
      | zero => intro a; simp
      | succ m ih =>
        intro a
        rw [List.replicate_succ, List.foldl_cons, ih, List.replicate_succ]
        apply Array.ext'
        simp
    show (List.replicate m (#[c] : Array Nat)).foldl (· ++ ·) #[] = _
    rw [this]; simp
end PM

/-! PM, part 48: what running gives: a value or a refusal (plain) -/
namespace PM
open PySem L2
inductive Er where
  | lacks | nonum | norec
def erS : Er → Str
  | .lacks => "Lacks"
  | .nonum => "NoNumber"
  | .norec => "NoRecord"
inductive Ev (α : Type) where
  | yes (a : α) | no (e : Er)
def Ev.map {α β : Type} (f : α → β) : Ev α → Ev β
  | .yes a => .yes (f a)
  | .no e => .no e
def evL {α : Type} : List (Ev α) → Ev (List α)
  | [] => .yes []
  | .no e :: _ => .no e
  | .yes a :: r => match evL r with
    | .yes as => .yes (a :: as)
    | .no e => .no e
/-- the program's end, the law's tuple -/
def evR (S : Sto) : Ev Vl → R D
  | .yes v => .ok (vd v) S
  | .no e => .exc ⟨erS e, [], []⟩ S
def evT : Ev Vl → D
  | .yes v => .tup [.str "yes", vd v]
  | .no e => .tup [.str "no", .str (erS e)]
theorem compMX_nil {grd : Sto → Prop} {g : Gm} {t : Tm} {e : Em} {δ : Loc} {S : Sto} {acc : List D} (h : grd S) : compMX grd g t e δ acc [] S = .ok (.lst acc) S := by rw [compMX, if_pos h]
theorem compMX_cons {grd : Sto → Prop} {g : Gm} {t : Tm} {e : Em} {δ : Loc} {S : Sto} {acc xs : List D} {x : D} (h : grd S) : compMX grd g t e δ acc (x :: xs) S = (g x δ S).quiet.bind fun δ' S1 => (t δ' S1).quiet.bind fun k S2 =>
    if k = true then (e δ' S2).bind fun y S3 => compMX grd g t e δ (acc ++ [y]) xs S3 else compMX grd g t e δ acc xs S2 := by
  rw [compMX, if_pos h]
/-- a comprehension whose steps give values or refusals -/
theorem compMX_ev {α : Type} (i : α → D) (f : α → Ev Vl) (out : α → Vl → D) {grd : Sto → Prop} {g : Gm} {t : Tm} {e : Em} {δ : Loc} {S : Sto} (hg : grd S) (xs : List α) (acc : List D)
    (h : ∀ x ∈ xs, ∃ δ', g (i x) δ S = .ok δ' S ∧ t δ' S = .ok true S ∧ e δ' S = (match f x with | .yes v => .ok (out x v) S | .no c => .exc ⟨erS c, [], []⟩ S)) :
    compMX grd g t e δ acc (xs.map i) S = match evL (xs.map f) with
      | .yes vs => .ok (.lst (acc ++ List.zipWith out xs vs)) S
      | .no c => .exc ⟨erS c, [], []⟩ S := by
  induction xs generalizing acc with
  | nil => rw [List.map_nil, compMX_nil hg]; simp [evL]
  | cons x xs ih =>
    obtain ⟨δ', h1, h2, h3⟩ := h x (by simp)
    rw [List.map_cons, compMX_cons hg, h1]
    simp only [R.quiet_ok, R.bind_ok, h2, h3, if_pos, List.map_cons]
    cases hf : f x with
    | no c => simp only [R.bind_exc, evL]
    | yes v =>
      simp only [R.bind_ok, evL]
      rw [ih _ fun y hy => h y (by simp [hy])]
      cases evL (xs.map f) with
      | yes vs => simp
      | no c => rfl
theorem evL_yes {α : Type} : ∀ {rs : List (Ev α)} {as : List α}, evL rs = .yes as → rs = as.map .yes
  | [], as, h => by simp only [evL, Ev.yes.injEq] at h; rw [← h]; rfl
  | .no e :: r, as, h => by simp only [evL] at h; cases h
  | .yes a :: r, as, h => by
    simp only [evL] at h
    cases hr : evL r with
    | no e => rw [hr] at h; cases h
    | yes bs =>
      rw [hr] at h
      simp only [Ev.yes.injEq] at h
      rw [← h, List.map_cons, evL_yes hr]
/-- bodies whose names and inputs are there -/
inductive WR (m : Nat) : List (Str × Nat) → Nat → B → Prop where
  | num {kn d n} : WR m kn (d + 1) (.num n)
  | inp {kn d k} : 0 ≤ k → k < (m : Int) → WR m kn (d + 1) (.inp k)
  | make {kn d ls bs} : ls.length = bs.length → bs.length ≤ 4 → ls.Nodup → (∀ l ∈ ls, IsLab l) → (∀ b ∈ bs, WR m kn d b) → WR m kn (d + 1) (.make ls bs)
  | get {kn d b l} : WR m kn d b → IsLab l → WR m kn (d + 1) (.get b l)
  | put {kn d b l c} : WR m kn d b → IsLab l → WR m kn d c → WR m kn (d + 1) (.put b l c)
  | sum {kn d b c} : WR m kn d b → WR m kn d c → WR m kn (d + 1) (.sum b c)
  | ite {kn d b c e} : WR m kn d b → WR m kn d c → WR m kn d e → WR m kn (d + 1) (.ite b c e)
  | call {kn d f bs} : (f, bs.length) ∈ kn → IsLab f → bs.length ≤ 4 → (∀ b ∈ bs, WR m [] d b) → WR m kn (d + 1) (.call f bs)
theorem WR.wb {m : Nat} {kn : List (Str × Nat)} {d : Nat} {b : B} (h : WR m kn d b) : WB d b := by
  induction h with
  | num => exact .num
  | inp _ _ => exact .inp
  | make h1 h2 h3 h4 h5 ih => exact .make h1 h2 h4 ih
  | get h1 h2 ih => exact .get ih h2
  | put h1 h2 h3 ih1 ih2 => exact .put ih1 h2 ih2
  | sum h1 h2 ih1 ih2 => exact .sum ih1 ih2
  | ite h1 h2 h3 ih1 ih2 ih3 => exact .ite ih1 ih2 ih3
  | call h1 h2 h3 h4 ih => exact .call h2 h3 ih
theorem WR.mono {m : Nat} {kn : List (Str × Nat)} {d e : Nat} {b : B} (h : WR m kn d b) : d ≤ e → WR m kn e b := by
  have suc : ∀ {e d : Nat}, d + 1 ≤ e → ∃ f, e = f + 1 := fun h => ⟨_, (Nat.sub_add_cancel (Nat.le_trans (Nat.le_add_left 1 _) h)).symm⟩
  induction h generalizing e with
  | num => intro he; obtain ⟨e, rfl⟩ := suc he; exact .num
  | inp a b => intro he; obtain ⟨e, rfl⟩ := suc he; exact .inp a b
  | make h1 h2 h3 h4 h5 ih => intro he; obtain ⟨e, rfl⟩ := suc he; exact .make h1 h2 h3 h4 fun b hb => ih b hb (by omega)
  | get h1 h2 ih => intro he; obtain ⟨e, rfl⟩ := suc he; exact .get (ih (by omega)) h2
  | put h1 h2 h3 ih1 ih2 => intro he; obtain ⟨e, rfl⟩ := suc he; exact .put (ih1 (by omega)) h2 (ih2 (by omega))
  | sum h1 h2 ih1 ih2 => intro he; obtain ⟨e, rfl⟩ := suc he; exact .sum (ih1 (by omega)) (ih2 (by omega))
  | ite h1 h2 h3 ih1 ih2 ih3 => intro he; obtain ⟨e, rfl⟩ := suc he; exact .ite (ih1 (by omega)) (ih2 (by omega)) (ih3 (by omega))
  | call h1 h2 h3 h4 ih => intro he; obtain ⟨e, rfl⟩ := suc he; exact .call h1 h2 h3 fun b hb => ih b hb (by omega)
theorem WR.known {m : Nat} {kn kn' : List (Str × Nat)} {d : Nat} {b : B} (h : WR m kn d b) (hk : ∀ p ∈ kn, p ∈ kn') : WR m kn' d b := by
  induction h with
  | num => exact .num
  | inp a b => exact .inp a b
  | make h1 h2 h3 h4 h5 ih => exact .make h1 h2 h3 h4 fun b hb => ih b hb hk
  | get h1 h2 ih => exact .get (ih hk) h2
  | put h1 h2 h3 ih1 ih2 => exact .put (ih1 hk) h2 (ih2 hk)
  | sum h1 h2 ih1 ih2 => exact .sum (ih1 hk) (ih2 hk)
  | ite h1 h2 h3 ih1 ih2 ih3 => exact .ite (ih1 hk) (ih2 hk) (ih3 hk)
  | call h1 h2 h3 h4 ih => exact .call (hk _ h1) h2 h3 h4
/-! records by label -/
theorem find_fld {l : Str} : ∀ {ls : List Str} {vs : List Vl}, ls.length = vs.length → ((fldD ls (vds vs)).find? fun d => decide (labD d = l)) = (lkp ls vs l).map fun v => .tup [.str l, vd v]
  | [], [], _ => rfl
  | x :: ls, v :: vs, h => by
    rw [vds, fldD_cons]
    by_cases e : x = l
    · rw [List.find?_cons_of_pos (by simp [labD, e])]
      simp [lkp, e]
    · rw [List.find?_cons_of_neg (by simp [labD, e]), find_fld (by simpa using h)]
      simp [lkp, e]
theorem labs_fld {ls : List Str} {vs : List Vl} (h : ls.length = vs.length) : (fldD ls (vds vs)).map labD = ls := by
  rw [fld_zip h, List.map_map]
  show (ls.zip vs).map Prod.fst = ls
  exact List.map_fst_zip (by omega)
theorem sortF_vl {ls : List Str} {vs : List Vl} (h : ls.length = vs.length) : D.tup (sortF (fldD ls (vds vs))) = vd (sortV ls vs) := by
  rw [sortV_vd, sortF, labs_fld h]
  congr 1
  refine List.map_congr_left fun l hl => ?_
  rw [find_fld h, lkp_some h ((sortStr_perm _).mem_iff.mp hl)]
  rfl
theorem cSortedF_vl {S : Sto} {ls : List Str} {vs : List Vl} (h : ls.length = vs.length) (hn : ls.Nodup) : ∃ ds, cSortedF [.lst (fldD ls (vds vs))] S = .ok (.lst ds) S ∧ D.tup ds = vd (sortV ls vs) := by
  refine ⟨_, ?_, sortF_vl h⟩
  have e1 : (fldD ls (vds vs)).all isFld = true := by
    rw [List.all_eq_true]
    intro x hx
    obtain ⟨l, y, e, _, _⟩ := mem_fldD hx
    subst e; rfl
  simp only [cSortedF, rdL, asL, e1, labs_fld h, true_and, if_pos hn]
/-- the index of a text in a list -/
theorem cIndex_str {S : Sto} {ls : List Str} {l : Str} (hl : ∀ x ∈ ls, IsLab x) (hm : l ∈ ls) : ∃ j : Nat, ls[j]? = some l ∧ cIndex (.lst (ls.map .str)) [.str l] S = .ok (.int j) S := by
  have e1 : tpd S (.lst (ls.map .str)) = some (.list (ls.map .str)) := tpd_w ls
  have e2 : tpd S (.str l) = some (.str l) := rfl
  have s1 : SeqAt.shaped (.list (ls.map .str)) = true := sh_w hl
  have s2 : SeqAt.shaped (.str l) = true := shaped_of (n := 0) (hl l hm).ok (Nat.le_refl _) (by decide)
  cases hf : (ls.map PyData.str).findIdx? (fun z => PyData.eqv z (.str l)) with
  | none =>
    rw [List.findIdx?_eq_none_iff] at hf
    have := hf (.str l) (List.mem_map.mpr ⟨l, hm, rfl⟩)
    simp [PyData.eqv] at this
  | some j =>
    refine ⟨j, ?_, ?_⟩
    · rw [List.findIdx?_eq_some_iff_getElem] at hf
      obtain ⟨hlt, he, _⟩ := hf
      rw [List.length_map] at hlt
      rw [List.getElem_map] at he
      simp only [PyData.eqv, decide_eq_true_eq, beq_iff_eq] at he
      rw [List.getElem?_eq_getElem hlt, he]
    · simp only [cIndex, e1, e2, s1, s2, and_self, if_true, hf]
theorem getK_inr {ls : List Str} {vs : List Vl} (l : Str) (h : ls.length = vs.length) : getK (ls.map (Sum.inr : Str → Key)) (vds vs) (.inr l) = (lkp ls vs l).map vd := getK_lkp l h
theorem lkp_ix : ∀ {ls : List Str} {vs : List Vl} {l : Str} {v : Vl}, lkp ls vs l = some v → ∃ j : Nat, ls[j]? = some l ∧ vs[j]? = some v ∧ ∀ i, i < j → ls[i]? ≠ some l
  | x :: ls, y :: vs, l, v, h => by
    simp only [lkp] at h
    split at h
    · rename_i e
      cases h
      exact ⟨0, by simp [e], rfl, fun i hi => by omega⟩
    · rename_i e
      obtain ⟨j, h1, h2, h3⟩ := lkp_ix h
      refine ⟨j + 1, by simpa using h1, by simpa using h2, fun i hi => ?_⟩
      cases i with
      | zero => simpa using e
      | succ i => simpa using h3 i (by omega)
/-- a field put anew in a dict -/
theorem ins_set : ∀ {ls : List Str} {vs : List Vl} {l : Str} {w : Vl} {j : Nat}, ls.Nodup → ls.length = vs.length → ls[j]? = some l →
    insK (ls.map (Sum.inr : Str → Key)) (.inr l) = ls.map .inr ∧ insD (ls.map (Sum.inr : Str → Key)) (vds vs) (.inr l) (vd w) = vds (vs.set j w) := by
  intro ls vs l w j hn h hj
  have hm : (Sum.inr l : Key) ∈ ls.map (Sum.inr : Str → Key) := List.mem_map.mpr ⟨l, List.mem_of_getElem? hj, rfl⟩
  unfold insK insD
  rw [if_pos hm, if_pos hm]
  refine ⟨rfl, ?_⟩
  clear hm
  induction ls generalizing vs j with
  | nil => cases hj
  | cons x ls ih =>
    cases vs with
    | nil => cases h
    | cons v vs =>
      have hn' := List.nodup_cons.mp hn
      cases j with
      | zero =>
        simp only [List.getElem?_cons_zero, Option.some.injEq] at hj
        subst hj
        have hrest : ∀ {ks : List Str} {us : List Vl}, ks.length = us.length → x ∉ ks → List.zipWith (fun k d => if k = (Sum.inr x : Key) then vd w else d) (ks.map (Sum.inr : Str → Key)) (vds us) = vds us := by
          intro ks us hl hx
          induction ks generalizing us with
          | nil => cases us with
            | nil => rfl
            | cons u us => cases hl
          | cons k ks ih2 =>
            cases us with
            | nil => cases hl
            | cons u us =>
              have : ¬ (Sum.inr k : Key) = .inr x := fun e => hx (by simp [Sum.inr.inj e])
              simp only [List.map_cons, vds, List.zipWith_cons_cons, if_neg this]
              rw [ih2 (by simpa using hl) fun q => hx (by simp [q])]
        simp only [List.map_cons, vds, List.zipWith_cons_cons, if_pos, List.set_cons_zero, hrest (by simpa using h) hn'.1]
      | succ j =>
        simp only [List.getElem?_cons_succ] at hj
        have hx : ¬ (Sum.inr x : Key) = .inr l := fun e => hn'.1 (by rw [Sum.inr.inj e]; exact List.mem_of_getElem? hj)
        simp only [List.map_cons, vds, List.zipWith_cons_cons, if_neg hx, List.set_cons_succ]
        rw [ih hn'.2 (by simpa using h) hj]
end PM

/-! PM, part 49: a comprehension's list as a changeable object; calls of no argument -/
namespace PM
open PySem PySem.Spec L2 PyProof.Rows
theorem R.bind_assoc {α β γ : Type} {r : R α} {f : α → Sto → R β} {g : β → Sto → R γ} : (r.bind f).bind g = r.bind fun a S => (f a S).bind g := by cases r <;> rfl
section
variable {ι : Z} {H : Hp} {mg : EnvK}
/-- a hidden list becomes an object of the store -/
theorem Lift.own {p : Addr} {l : List Addr} (h : ι.b = p :: l) : Lift ι H ⟨ι.a ++ [p], l, ι.k⟩ H := by
  have no : ∀ a, ι.no a → Z.no ⟨ι.a ++ [p], l, ι.k⟩ a := fun a q => by
    refine ⟨fun m => ?_, fun m => q.2 (by rw [h]; exact List.mem_cons_of_mem _ m)⟩
    rcases List.mem_append.mp m with m | m
    · exact q.1 m
    · rw [List.mem_singleton.mp m] at q
      exact q.2 (by rw [h]; exact List.mem_cons_self)
  exact ⟨fun n a q => by show (ι.a ++ [p])[n]? = _; rw [List.getElem?_append_left (List.getElem?_eq_some_iff.mp q).1]; exact q, fun _ _ q => q, fun a xs q e => ⟨e, no a q⟩, fun _ _ _ e => e, fun a xs q e => ⟨e, no a q⟩, rfl, fun _ _ _ e => e⟩
theorem Rep.own {S : Sto} (r : Rep H ι mg S) {p : Addr} {l : List Addr} {m : MO} (h : ι.b = p :: l) (hp : p ∉ l) (ho : RO H ⟨ι.a ++ [p], l, ι.k⟩ mg p m) : Rep H ⟨ι.a ++ [p], l, ι.k⟩ mg (S ++ [m]) := by
  have hpa : p ∉ ι.a := (r.bt p (by rw [h]; exact List.mem_cons_self)).1
  refine ⟨r.kk, by show (ι.a ++ [p]).length = _; simp [r.len], ?_, fun x hx => ?_, fun n a m' h1 h2 => ?_⟩
  · show (ι.a ++ [p]).Nodup
    rw [List.nodup_append]
    exact ⟨r.nd, by simp, fun a ha b hb e => hpa (by rw [List.mem_singleton.mp hb] at e; exact e ▸ ha)⟩
  · obtain ⟨n, u, e, q⟩ := r.bt x (by rw [h]; exact List.mem_cons_of_mem _ hx)
    refine ⟨fun m => ?_, u, e, q⟩
    rcases List.mem_append.mp m with m | m
    · exact n m
    · exact hp (List.mem_singleton.mp m ▸ hx)
  · have k1 : (ι.a ++ [p])[n]? = some a := h1
    by_cases hn : n < ι.a.length
    · rw [List.getElem?_append_left hn] at k1
      rw [List.getElem?_append_left (by rw [← r.len]; exact hn)] at h2
      exact (r.obj n a m' k1 h2).mono (Lift.own h) rfl
    · rw [List.getElem?_append_right (Nat.le_of_not_lt hn)] at k1
      rw [List.getElem?_append_right (by rw [← r.len]; exact Nat.le_of_not_lt hn)] at h2
      obtain ⟨e1, _⟩ := List.getElem?_eq_some_iff.mp k1
      have e : n - ι.a.length = 0 := by simp at e1; omega
      rw [e] at k1; rw [← r.len, e] at h2
      simp at k1 h2; subst k1 h2
      exact ho
end
/-- the list as an object -/
def kR : D → Sto → R D := fun d S => match d with
  | .lst ds => if ds.length ≤ sizeLine then .ok (.ref S.length) (S ++ [.lst ds]) else .stuck
  | _ => .stuck
noncomputable def mCompR (src : Src) (g : Gm) (t : Tm) (e : Em) (vs : List Nat) : Em := fun δ S => (src δ S).bind fun p S1 => (compM p.2 g t e (wipeD δ vs) [] p.1 S1).bind kR
theorem mCompR_eq {src : Src} {g : Gm} {t : Tm} {e : Em} {vs : List Nat} {δ : Loc} {S : Sto} : mCompR src g t e vs δ S = (src δ S).bind fun p S1 => (compM p.2 g t e (wipeD δ vs) [] p.1 S1).bind kR := (rfl)
theorem compM_grdR {grd : Sto → Prop} {g : Gm} {t : Tm} {e : Em} {δ : Loc} {acc xs : List D} {S : Sto} {mg W ι H} {Q : V → Hp → Prop} (h : G mg W ι H RD ((compM grd g t e δ acc xs S).bind kR) Q) : grd S := by
  by_cases q : grd S
  · exact q
  · cases xs with
    | nil => rw [compM, if_neg q] at h; exact h.elim
    | cons x xs => rw [compM, if_neg q] at h; exact h.elim
section
variable {X : Cx} {W : WX} {pos : Pos} {m : Em} {t : Tm} {g : Gm}
theorem comp_coreR {tg : Expr} {gt : TG} {src : Src} {vs : List Nat} (hr : TgR vs gt g) {σ : L2.St} {H : Hp} {Q : L2.VK} (h : tDE X.ek W (mCompR src g t m vs) σ H Q) :
    tLc (tDI X.ek W src) gt (tD X.ek w0 REq t) (tDE X.ek w0 m) vs σ H Q := by
  refine t_bind h fun ι S δ p J H1 rp rs rit gs => ?_
  obtain ⟨hz, rit⟩ := rit
  intro D hD
  have hno := rp.fresh hD
  refine ⟨fun i m' H2 => m' = p.1.length - i ∧ i ≤ p.1.length ∧ ∃ ι2 S2 accD accV, Lift ι H1 ι2 H2 ∧ ι2.b = D :: ι.b ∧ Rep H2 ι2 X.ek S2 ∧ H2 D = some (.lst accV) ∧ RDs H2 ι2 accD accV ∧ accD.length ≤ i ∧
      (∀ x ∈ ι.b, ∀ o, H1 x = some o → H2 x = some o) ∧ G X.ek (wat W σ) ι H1 RD ((compM p.2 g t m (wipeD δ vs) accD (p.1.drop i) S2).bind kR) Q,
    ⟨_, rfl, Nat.zero_le _, ι.hide D, S, [], [], Lift.hide hD, rfl, rp.hide hD (.intro (fun _ _ z => nomatch z) (fun _ _ z => nomatch z)), upd_same, RDs.nil, Nat.le_refl _, fun x _ o e => by rw [upd_ne (ne_of_none e hD)]; exact e, by rw [List.drop_zero]; exact gs⟩, ?_⟩
  rintro i m' H2 ⟨rfl, hi, ι2, S2, accD, accV, lf, eb, rp2, hH, ra, hl, hid, g2⟩
  have gr := compM_grdR g2
  obtain ⟨q1, q2⟩ := rit i H2 ι2 S2 lf rp2 gr
  by_cases hlt : i < p.1.length
  · obtain ⟨q3, q4⟩ := q1 hlt
    refine .inr ⟨q3, fun H' => i + 1 ≤ p.1.length ∧ ∃ ι2 S2 accD accV, Lift ι H1 ι2 H' ∧ ι2.b = D :: ι.b ∧ Rep H' ι2 X.ek S2 ∧ H' D = some (.lst accV) ∧ RDs H' ι2 accD accV ∧ accD.length ≤ i + 1 ∧
      (∀ x ∈ ι.b, ∀ o, H1 x = some o → H' x = some o) ∧ G X.ek (wat W σ) ι H1 RD ((compM p.2 g t m (wipeD δ vs) accD (p.1.drop (i + 1)) S2).bind kR) Q, fun H' q => ⟨_, by omega, rfl, q⟩, fun x H3 y => ?_⟩
    obtain ⟨d, e, st3, rp3, rd⟩ := q4 x H3 y
    have e2 : p.1.drop i = d :: p.1.drop (i + 1) := by
      have := List.getElem?_eq_some_iff.mp e
      rw [List.drop_eq_getElem_cons hlt, this.2]
    rw [e2, compM, if_pos gr, R.bind_assoc] at g2
    have rs3 : RSt H3 ι2 (wipeD δ vs) (L2.wipe σ vs) := (rs.wipe vs).mono (lf.trans st3.up)
    have hDb : D ∈ ι2.b := by rw [eb]; exact List.mem_cons_self
    have sub : ∀ x ∈ ι.b, x ∈ ι2.b := fun x hx => by rw [eb]; exact List.mem_cons_of_mem _ hx
    have gq := G.quiet (ι2 := ι2) (H2 := H3) (Rl := RSt) (fun _ _ _ => False) g2
    refine hr X.ek _ ι2 S2 H3 (wipeD δ vs) (L2.wipe σ vs) d x _ _ rp3 rs3 rd gq ?_
    rw [wipe_wipe]
    · rintro σ2 H4 hw ⟨ι4, S4, δ4, st4, rp4, rs4, g4⟩
      rw [R.bind_assoc] at g4
      refine ⟨hw, ι4, S4, δ4, rp4, rs4, (G.quiet (ι2 := ι4) (H2 := H4) (Rl := REq) _ g4).imp fun b H5 ⟨ι5, S5, k, st5, rp5, ek, g5⟩ => ?_⟩
      rw [show b = k from ek]
      have st35 : Step ι2 H2 ι5 H5 := (st3.trans st4).trans st5
      cases k with
      | false =>
        rw [if_neg Bool.false_ne_true] at g5 ⊢
        exact ⟨hlt, ι5, S5, accD, accV, lf.trans st35.up, st35.bb.trans eb, rp5, st35.hid D hDb _ hH, ra.mono st35.up, by omega, fun x hx o ex => st35.hid x (sub x hx) o (hid x hx o ex), g5⟩
      | true =>
        rw [if_pos rfl] at g5 ⊢
        rw [R.bind_assoc] at g5
        refine ⟨ι5, S5, δ4, rp5, rs4.mono st5.up, (G.quiet (ι2 := ι5) (H2 := H5) (Rl := RD) _ g5).imp fun yv H6 ⟨ι6, S6, yd, st6, rp6, ry, g6⟩ => ?_⟩
        have st36 : Step ι2 H2 ι6 H6 := st35.trans st6
        have eb6 : ι6.b = D :: ι.b := st36.bb.trans eb
        have hD6 : D ∈ ι6.b := by rw [eb6]; exact List.mem_cons_self
        have hH6 := st36.hid D hDb _ hH
        have la : accV.length = accD.length := ra.length.symm
        refine ⟨accV, hH6, by omega, hlt, ?_⟩
        obtain ⟨rp7, l7⟩ := rp6.writeHid (o := .lst (accV ++ [yv])) hD6 (.intro (fun _ _ z => nomatch z) (fun _ _ z => nomatch z))
        refine ⟨ι6, S6, accD ++ [yd], accV ++ [yv], (lf.trans st36.up).trans l7, eb6, rp7, upd_same, ((ra.mono st36.up).mono l7).app (.cons (ry.mono l7) .nil), by simp; omega, fun x hx o ex => ?_, g6⟩
        have : x ≠ D := fun z => hno.2 (z ▸ hx)
        rw [upd_ne this]
        exact st36.hid x (sub x hx) o (hid x hx o ex)
  · have e : i = p.1.length := by omega
    subst e
    rw [List.drop_length, compM, if_pos gr] at g2
    refine .inl ⟨q2 (Nat.le_refl _), ?_⟩
    have eb' : ι2.b = D :: ι.b := eb
    have hlen : accD.length ≤ sizeLine := by omega
    have g3 : G X.ek (wat W σ) ι H1 RD (R.ok (PM.D.ref S2.length) (S2 ++ [.lst accD])) Q := by
      have : (R.ok (PM.D.lst accD) S2).bind kR = R.ok (PM.D.ref S2.length) (S2 ++ [.lst accD]) := by simp only [R.bind_ok, kR, if_pos hlen]
      rw [this] at g2; exact g2
    refine g3.at (ι' := ⟨ι2.a ++ [D], ι.b, ι2.k⟩) (H' := H2) ⟨lf.trans (Lift.own eb'), rfl, hid⟩ (rp2.own eb' hno.2 ⟨accV, hH, hlen, ra.mono (Lift.own eb')⟩) ?_
    simp only [RD]
    exact ⟨D, rfl, by show (ι2.a ++ [D])[S2.length]? = some D; rw [← rp2.len]; simp⟩
theorem de_compR {elt tg iter : Expr} {ifs : List Expr} {scope : Scope} {own : List (Str × Nat)} {gt : TG} {src : Src} (hc : X.calm = true) (hN : X.N.Nodup) (hi : DI X W tg iter src) (ok : BlkOk X.N X.env.scope scope own)
    (hg : ∀ (s : Shared) (H : Hp) (C : Addr) (cl : List (Str × Addr)) (fp : List Addr), PG (X.blk s H scope (compEnvC scope cl C X.env) fp) tg gt) (hr : TgR (own.map (·.2)) gt g)
    (ht : ∀ (s : Shared) (H : Hp) (C : Addr) (cl : List (Str × Addr)) (fp : List Addr), DTs (X.blk s H scope (compEnvC scope cl C X.env) fp) w0 ifs t)
    (he : ∀ (s : Shared) (H : Hp) (C : Addr) (cl : List (Str × Addr)) (fp : List Addr), DE (X.blk s H scope (compEnvC scope cl C X.env) fp) w0 elt m) (hs : ∀ x, foldedSetIterable iter X.env x = pure x := by intro _; rfl) :
    DE X W (.ListComp elt [⟨tg, iter, ifs, 0⟩] scope pos) (mCompR src g t m (own.map (·.2))) :=
  pe_imp (pe_lc (tt := tD X.ek w0 REq t) (te := tDE X.ek w0 m) hc hN hi ok hg ht he hs) fun σ H Q h => comp_coreR (tg := tg) hr h
theorem ds_setCompR {i : Nat} {y : Str} {py spos : Pos} {elt tg iter : Expr} {ifs : List Expr} {scope : Scope} {own : List (Str × Nat)} {gt : TG} {src : Src} (hc : X.calm = true) (hN : X.N.Nodup) (hy : X.N[i]? = some y) (hyl : X.env.scope.names.lookup y = some .local)
    (hsw : swapsWith (.ListComp elt [⟨tg, iter, ifs, 0⟩] scope pos) (some (.Name y py)) spos.line X.env = pure true) (hi : DI X W tg iter src) (ok : BlkOk X.N X.env.scope scope own)
    (hg : ∀ (s : Shared) (H : Hp) (C : Addr) (cl : List (Str × Addr)) (fp : List Addr), PG (X.blk s H scope (compEnvC scope cl C X.env) fp) tg gt) (hr : TgR (own.map (·.2)) gt g)
    (ht : ∀ (s : Shared) (H : Hp) (C : Addr) (cl : List (Str × Addr)) (fp : List Addr), DTs (X.blk s H scope (compEnvC scope cl C X.env) fp) w0 ifs t)
    (he : ∀ (s : Shared) (H : Hp) (C : Addr) (cl : List (Str × Addr)) (fp : List Addr), DE (X.blk s H scope (compEnvC scope cl C X.env) fp) w0 elt m) (hs : ∀ x, foldedSetIterable iter X.env x = pure x := by intro _; rfl) :
    DS X W (.Assign [.Name y py] (.ListComp elt [⟨tg, iter, ifs, 0⟩] scope pos) spos) (sAsg (mCompR src g t m (own.map (·.2))) (gmName i)) :=
  ps_imp (ps_setLc (tt := tD X.ek w0 REq t) (te := tDE X.ek w0 m) hc hN hy hyl hsw hi ok hg ht he hs) fun D σ H h =>
    comp_coreR (tg := tg) hr (s_bind h fun ι S δ d v H' rp rs r g => g ι H' _ .refl rp (rs_set rs r _))
end
section
variable {X : Cx} {W : WX} {p pos : Pos}
/-- f() -/
theorem de_call0 {k : Nat} {x : Str} {cf : List D → Sto → R D} (F : Has X.prog X.w X.K X.mg X.base k x 0 cf) (hr : Room k X.A) (tk : L2N.Takes X W) (hg : Gl X x) (hdb : (x == ("__debug__" : Str)) = false := by decide) :
    DE X W (.Call (.Name x p) [] [] pos) (mApp cf mNil) := by
  obtain ⟨f, fd, ps, F, hm, hk, hb, hps⟩ := F.ex
  refine ⟨fun pins s σ H Q I ⟨ι, S, δ, rp, rs, g⟩ => ?_⟩
  refine wpAny_Call_Name_kw (ld_glob I hg hm ?_ hdb)
  refine PySem.W.callWith_K0 I.kIn hk (run_fnS (E := fun σ => wat W σ) (vs := []) F hr hb (L2N.passAt tk σ) I .nil ?_)
  exact ⟨rfl, ι, S, [], rp, RDs.nil, g⟩
end
end PM

/-! PM, part 50: dicts compared that are alike, a list cleared, a list unpacked -/
namespace PM
open PySem PySem.Spec L2 PyProof.Rows
/-- dicts of the same keys, whose values are the same data -/
def rEqKK (b : Bool) (K : PySem.W.Frag) : R2 := fun x y H Q => ∃ m n ks ls, x = .ref m ∧ y = .ref n ∧ H m = some (.dK ks) ∧ H n = some (.dK ls) ∧ ks.length = ls.length ∧
  (∀ p ∈ ks, ∃ u d, valV ls p.1 = some u ∧ Dp K H p.2 d ∧ Dp K H u d ∧ SeqAt.shaped d = true ∧ PyData.eqv d d = true) ∧ Q (.bl b) H
section
variable {X : Cx}
theorem hits_data {pins : List (Addr × Obj)} {σ : L2.St} {H : Hp} {s : Shared} (hu : X.A.in1.units + 64 < cLine) (I : Inv X pins σ H s) {ls : List (Key × V)} {vb : List (Key × Value)} (rb : KV ls vb) {ks : List (Key × V)} {va : List (Key × Value)} (ra : KV ks va) :
    (∀ p ∈ ks, ∃ u d, valV ls p.1 = some u ∧ Dp X.K H p.2 d ∧ Dp X.K H u d ∧ SeqAt.shaped d = true ∧ PyData.eqv d d = true) → PySem.W.KeqHits X.A.in1 s vb va true := by
  unfold KV at ra
  induction ra with
  | nil => intro _; exact .nil
  | @cons p q ps qs h t ih =>
    intro hp
    obtain ⟨h1, h2⟩ := h
    obtain ⟨u, d, e, d1, d2, sh, eq⟩ := hp p List.mem_cons_self
    have hval := rb.val p.1
    rw [e] at hval
    obtain ⟨y, hy, ry⟩ := hval.some_of
    obtain ⟨k, v⟩ := q
    have hk : p.1 = k := h1
    rw [hk] at hy
    obtain ⟨as, r1⟩ := Dp.reads I d _ v d1 h2
    obtain ⟨bs, r2⟩ := Dp.reads I d _ y d2 ry
    have hit := PySem.W.keq_at (A := X.A) r1 r2 sh sh hu
    rw [eq] at hit
    show PySem.W.KeqHits X.A.in1 s vb ((k, v) :: qs) (true && true)
    exact .hit hy hit (ih fun p' hm => hp p' (List.mem_cons_of_mem _ hm))
theorem in1_units {A : Around} (hr : Ru A) : A.in1.units + 64 < cLine := by
  have h := hr.un
  have : A.in1.units ≤ A.units + 100 := by
    show A.units + _ ≤ _
    omega
  omega
theorem op_eqKK (hr : Ru X.A) : OpR X (compareOp .Eq) (rEqKK true X.K) := by
  intro pins s σ H x y v u Q I rx ry h
  obtain ⟨m, n, k1, k2, e1, e2, hm, hn, hsame, hp, q⟩ := h
  subst e1 e2
  have hv : v = .ref m := rx
  have hu : u = .ref n := ry
  subst hv hu
  obtain ⟨_, y1, w1, r1, d1⟩ : ObjOk X.prog X.w H s.heap m (.dK k1) := I.hok m _ hm
  obtain ⟨_, y2, w2, r2, d2⟩ : ObjOk X.prog X.w H s.heap n (.dK k2) := I.hok n _ hn
  have hz : w1.length = w2.length := by rw [← r1.length, ← r2.length, hsame]
  refine PySem.W.keq_eq (knd := mixKind X.prog X.w) (r := true) y1 y2 d1 d2 (by have := hr.un; omega) (fun _ => hits_data (in1_units hr) I r2 r1 hp) ?_
  exact fin_bl I q (by simp [hz])
theorem op_neKK (hr : Ru X.A) : OpR X (compareOp .NotEq) (rEqKK false X.K) := by
  intro pins s σ H x y v u Q I rx ry h
  obtain ⟨m, n, k1, k2, e1, e2, hm, hn, hsame, hp, q⟩ := h
  subst e1 e2
  have hv : v = .ref m := rx
  have hu : u = .ref n := ry
  subst hv hu
  obtain ⟨_, y1, w1, r1, d1⟩ : ObjOk X.prog X.w H s.heap m (.dK k1) := I.hok m _ hm
  obtain ⟨_, y2, w2, r2, d2⟩ : ObjOk X.prog X.w H s.heap n (.dK k2) := I.hok n _ hn
  have hz : w1.length = w2.length := by rw [← r1.length, ← r2.length, hsame]
  refine PySem.W.keq_ne (knd := mixKind X.prog X.w) (r := true) y1 y2 d1 d2 (by have := hr.un; omega) (fun _ => hits_data (in1_units hr) I r2 r1 hp) ?_
  exact fin_bl I q (by simp [hz])
/-- two dicts of the same keys and the same data -/
def SameK (S : Sto) (x y : D) : Prop := ∃ m n ks ds, x = .ref m ∧ y = .ref n ∧ S[m]? = some (.dK ks ds) ∧ S[n]? = some (.dK ks ds) ∧ ks.Nodup ∧ ∀ d ∈ ds, ∃ p, tpd S d = some p ∧ SeqAt.shaped p = true ∧ PyData.eqv p p = true
open Classical in
noncomputable def opEqK (x y : D) (S : Sto) : R D := if SameK S x y then .ok (.bl true) S else opEq x y S
open Classical in
noncomputable def opNeK (x y : D) (S : Sto) : R D := if SameK S x y then .ok (.bl false) S else opNe x y S
theorem val_zip : ∀ {ks : List Key} {us : List V} {i : Nat} {k : Key} {u : V}, ks.Nodup → ks[i]? = some k → us[i]? = some u → valV (ks.zip us) k = some u
  | [], _, _, _, _, _, h, _ => by cases h
  | _ :: _, [], _, _, _, _, _, h => by cases h
  | c :: ks, v :: us, 0, k, u, _, h1, h2 => by
    cases h1; cases h2
    exact valV_pos rfl
  | c :: ks, v :: us, i + 1, k, u, nd, h1, h2 => by
    have n := List.nodup_cons.mp nd
    have : ¬ c = k := fun e => n.1 (by rw [e]; exact List.mem_of_getElem? h1)
    rw [List.zip_cons_cons, valV_neg this]
    exact val_zip n.2 h1 h2
theorem same_ok {S : Sto} {H : Hp} {ι : Z} {x y : V} {dx dy : D} {Q : L2.VK} {b : Bool} (rp : Rep H ι X.ek S) (rx : RD H ι dx x) (ry : RD H ι dy y) (h : SameK S dx dy) (q : Q (.bl b) H) : rEqKK b X.K x y H Q := by
  obtain ⟨m, n, ks, ds, rfl, rfl, hm, hn, nd, hd⟩ := h
  simp only [RD] at rx ry
  obtain ⟨a, rfl, ha⟩ := rx
  obtain ⟨c, rfl, hc⟩ := ry
  obtain ⟨vs, e1, l1, z1, r1⟩ := rp.obj m a _ ha hm
  obtain ⟨us, e2, l2, z2, r2⟩ := rp.obj n c _ hc hn
  have lv : vs.length = ks.length := by rw [← r1.length, l1]
  have lu : us.length = ks.length := by rw [← r2.length, l2]
  refine ⟨a, c, _, _, rfl, rfl, e1, e2, by rw [List.length_zip, List.length_zip, lv, lu], fun p hp => ?_, q⟩
  obtain ⟨i, hi⟩ := List.getElem?_of_mem hp
  obtain ⟨h1, h2⟩ := List.getElem?_zip_eq_some.mp hi
  have hlt : i < ds.length := by rw [← l1]; exact (List.getElem?_eq_some_iff.mp h1).1
  obtain ⟨d, hdi⟩ : ∃ d, ds[i]? = some d := ⟨_, List.getElem?_eq_getElem hlt⟩
  obtain ⟨v, hv, rv⟩ := r1.get hdi
  obtain ⟨u, hu, ru⟩ := r2.get hdi
  obtain ⟨p', t1, t2, t3⟩ := hd d (List.mem_of_getElem? hdi)
  have ev : p.2 = v := by rw [hv] at h2; exact (Option.some.inj h2).symm
  refine ⟨u, p', ?_, by rw [ev]; exact tpd_ok rp t1 rv, tpd_ok rp t1 ru, t2, t3⟩
  exact val_zip nd h1 hu
theorem opEqK_ok (hr : Ru X.A) : OpD X (compareOp .Eq) opEqK := by
  obtain ⟨r, h1, h2⟩ := opEq_ok (X := X) hr
  refine ⟨_, (op_eqKK hr).or h1, fun W ι S H x y dx dy Q rp rx ry q => ?_⟩
  unfold opEqK at q
  split at q
  · rename_i hs
    exact .inl (same_ok rp rx ry hs (q.here rp (by simp only [RD])))
  · exact .inr (h2 W ι S H x y dx dy Q rp rx ry q)
theorem opNeK_ok (hr : Ru X.A) : OpD X (compareOp .NotEq) opNeK := by
  obtain ⟨r, h1, h2⟩ := opNe_ok (X := X) hr
  refine ⟨_, (op_neKK hr).or h1, fun W ι S H x y dx dy Q rp rx ry q => ?_⟩
  unfold opNeK at q
  split at q
  · rename_i hs
    exact .inl (same_ok rp rx ry hs (q.here rp (by simp only [RD])))
  · exact .inr (h2 W ι S H x y dx dy Q rp rx ry q)
end
/-- clear, of an object's list -/
def mLClear (o : Em) : Em := fun δ S => (o δ S).bind fun x S1 => match x with
  | .ref n => match S1[n]? with
    | some (.lst _) => .ok .non (S1.set n (.lst []))
    | _ => .stuck
  | _ => .stuck
section
variable {X : Cx} {W : WX} {o : Expr} {mo : Em} {apos cpos pos : Pos}
theorem de_lclear (ho : DE X W o mo) (hbase : attributeBase o "clear" X.env (eval o X.env) = eval o X.env := by rfl) (hline : (apos.endLine == cpos.line) = true := by rfl) : DE X W (.Call (.Attribute o "clear" apos) [] [] cpos) (mLClear mo) :=
  pe_imp (pe_bm0 PySem.F.plainAttrs_list PySem.F.slot_list_clear PySem.F.type_list_clear mt_clear ho hbase hline) fun σ H Q h => t_bind h fun ι S δ d v H1 rp rs rd g => by
    cases d with
    | ref n =>
      simp only [RD] at rd
      obtain ⟨a, e, h1⟩ := rd
      subst e
      dsimp only at g
      split at g
      · rename_i ds hS
        obtain ⟨vs, h3, hz, h4⟩ := rp.obj n a _ h1 hS
        have hm : ∀ u, H1 a = some u → Mk u := fun _ e' => by rw [h3] at e'; cases e'; exact .intro (fun _ _ q => nomatch q) (fun _ _ q => nomatch q)
        obtain ⟨rp2, st2⟩ := rp.write (m := .lst []) (o := .lst []) h1 hm ⟨[], upd_same, Nat.zero_le _, .nil⟩
        exact ⟨.inl ⟨rfl, _, SqL.of h3⟩, a, _, rfl, rfl, h3, g.at st2 rp2 (by simp only [RD])⟩
      · exact g.elim
    | _ => exact g.elim
/-- names set from a list -/
def gmUnp (is : List Nat) : Gm := fun d δ S => match d with
  | .lst ds => gmNames is ds δ S
  | _ => .stuck
theorem dg_unp {es : List Expr} {k : Nat} {is : List Nat} {t : TGs} (hc : X.calm = true) (hp : PGs X es t) (nm : Nms X es is t) (hn : (assignEach es X.env).length = is.length := by rfl)
    (hst : (assignEach es X.env).findIdx? (·.1) = none := by rfl) : DG X W (.Tuple es k pos) (gmUnp is) :=
  ⟨fun pins s σ H v u Q I r ⟨ι, S, δ, d, rp, rs, rd, g⟩ => (pg_lst hc hp hn hst).run pins s σ H v u Q I r (by
    cases d with
    | lst ds =>
      obtain ⟨a, vs, e, h1, h2, z⟩ := rdL_ok rp rd (show rdL S (.lst ds) = some ds from rfl)
      obtain ⟨q1, q2⟩ := nms_run (K := X.K) nm rp rs h2 g
      exact ⟨a, vs, e, h1, q1, q2⟩
    | _ => exact g.elim)⟩
end
end PM

/-! PM, part 51: plain data without truth values: equal just where they are the same; what fills are found (plain) -/
namespace PM
open PySem L2
/-- no objects, no dicts, no truth values, of a depth -/
def pq : Nat → D → Bool
  | _, .non => true
  | _, .int _ => true
  | _, .str s => PyData.strOk s
  | n + 1, .tup ds => ds.all (pq n)
  | n + 1, .lst ds => ds.all (pq n)
  | _, _ => false
theorem pq_pl : ∀ {n : Nat} (d : D), pq n d = true → pl n d = true
  | 0, .non, _ => rfl
  | 0, .int _, _ => rfl
  | 0, .str s, h => h
  | n + 1, .non, _ => rfl
  | n + 1, .int _, _ => rfl
  | n + 1, .str s, h => h
  | n + 1, .tup ds, h => List.all_eq_true.mpr fun d hd => pq_pl d (List.all_eq_true.mp h d hd)
  | n + 1, .lst ds, h => List.all_eq_true.mpr fun d hd => pq_pl d (List.all_eq_true.mp h d hd)
  | 0, .tup _, h => nomatch h
  | 0, .lst _, h => nomatch h
  | 0, .bl _, h => nomatch h
  | n + 1, .bl _, h => nomatch h
  | 0, .scr _, h => nomatch h
  | n + 1, .scr _, h => nomatch h
  | 0, .dct _ _, h => nomatch h
  | n + 1, .dct _ _, h => nomatch h
  | 0, .exn _, h => nomatch h
  | n + 1, .exn _, h => nomatch h
  | 0, .ref _, h => nomatch h
  | n + 1, .ref _, h => nomatch h
theorem pq_mono : ∀ {n m : Nat} (d : D), n ≤ m → pq n d = true → pq m d = true
  | n, m, .non, _, _ => by cases m <;> rfl
  | n, m, .int _, _, _ => by cases m <;> rfl
  | n, m, .str s, _, h => by cases n <;> cases m <;> exact h
  | n + 1, m + 1, .tup ds, hn, h => List.all_eq_true.mpr fun d hd => pq_mono d (by omega) (List.all_eq_true.mp h d hd)
  | n + 1, m + 1, .lst ds, hn, h => List.all_eq_true.mpr fun d hd => pq_mono d (by omega) (List.all_eq_true.mp h d hd)
  | n + 1, 0, .tup ds, hn, h => absurd hn (by omega)
  | n + 1, 0, .lst ds, hn, h => absurd hn (by omega)
  | 0, _, .tup _, _, h => nomatch h
  | 0, _, .lst _, _, h => nomatch h
  | 0, _, .bl _, _, h => nomatch h
  | n + 1, _, .bl _, _, h => nomatch h
  | 0, _, .scr _, _, h => nomatch h
  | n + 1, _, .scr _, _, h => nomatch h
  | 0, _, .dct _ _, _, h => nomatch h
  | n + 1, _, .dct _ _, _, h => nomatch h
  | 0, _, .exn _, _, h => nomatch h
  | n + 1, _, .exn _, _, h => nomatch h
  | 0, _, .ref _, _, h => nomatch h
  | n + 1, _, .ref _, _, h => nomatch h
section
variable {rc : List D → Option (List PyData)} {S : Sto}
theorem tps_eqv {n : Nat} (ih : ∀ {a b : D} {e f : PyData}, pq n a = true → pq n b = true → tp rc S a = some e → tp rc S b = some f → (PyData.eqv e f = true ↔ a = b)) :
    ∀ {as bs : List D} {es fs : List PyData}, as.all (pq n) = true → bs.all (pq n) = true → tps rc S as = some es → tps rc S bs = some fs → (PyData.eqvAll es fs = true ↔ as = bs)
  | [], [], es, fs, _, _, h1, h2 => by simp only [tps, Option.some.injEq] at h1 h2; subst h1 h2; simp [PyData.eqvAll]
  | [], b :: bs, es, fs, _, _, h1, h2 => by
    simp only [tps, Option.some.injEq, Option.bind_eq_some_iff, Option.map_eq_some_iff] at h1 h2
    obtain ⟨e, _, fs', _, rfl⟩ := h2
    subst h1; simp [PyData.eqvAll]
  | a :: as, [], es, fs, _, _, h1, h2 => by
    simp only [tps, Option.some.injEq, Option.bind_eq_some_iff, Option.map_eq_some_iff] at h1 h2
    obtain ⟨e, _, fs', _, rfl⟩ := h1
    subst h2; simp [PyData.eqvAll]
  | a :: as, b :: bs, es, fs, p1, p2, h1, h2 => by
    simp only [tps, Option.bind_eq_some_iff, Option.map_eq_some_iff] at h1 h2
    obtain ⟨e, he, es', hes, rfl⟩ := h1
    obtain ⟨f, hf, fs', hfs, rfl⟩ := h2
    rw [List.all_cons, Bool.and_eq_true] at p1 p2
    simp only [PyData.eqvAll, Bool.and_eq_true, ih p1.1 p2.1 he hf, tps_eqv ih p1.2 p2.2 hes hfs, List.cons.injEq]
theorem tp_eqv : ∀ {n : Nat} {a b : D} {e f : PyData}, pq n a = true → pq n b = true → tp rc S a = some e → tp rc S b = some f → (PyData.eqv e f = true ↔ a = b) := by
  intro n
  induction n with
  | zero =>
    intro a b e f h1 h2 h3 h4
    cases a with
    | non => cases b <;> first | (cases h2; done) | (simp only [tp, Option.some.injEq] at h3 h4; subst h3 h4; simp [PyData.eqv])
    | int i => cases b <;> first | (cases h2; done) | (simp only [tp, Option.some.injEq] at h3 h4; subst h3 h4; simp [PyData.eqv])
    | str s => cases b <;> first | (cases h2; done) | (simp only [tp, Option.some.injEq] at h3 h4; subst h3 h4; simp [PyData.eqv])
    | _ => cases h1
  | succ n ih =>
    intro a b e f h1 h2 h3 h4
    cases a with
    | non => cases b <;> first | (cases h2; done) | (simp only [tp, Option.some.injEq, Option.map_eq_some_iff] at h3 h4; first | (subst h3 h4; simp [PyData.eqv]; done) | (obtain ⟨_, _, rfl⟩ := h4; subst h3; simp [PyData.eqv]))
    | int i => cases b <;> first | (cases h2; done) | (simp only [tp, Option.some.injEq, Option.map_eq_some_iff] at h3 h4; first | (subst h3 h4; simp [PyData.eqv]; done) | (obtain ⟨_, _, rfl⟩ := h4; subst h3; simp [PyData.eqv]))
    | str s => cases b <;> first | (cases h2; done) | (simp only [tp, Option.some.injEq, Option.map_eq_some_iff] at h3 h4; first | (subst h3 h4; simp [PyData.eqv]; done) | (obtain ⟨_, _, rfl⟩ := h4; subst h3; simp [PyData.eqv]))
    | tup as =>
      simp only [tp, Option.map_eq_some_iff] at h3
      obtain ⟨es, h3, rfl⟩ := h3
      cases b with
      | tup bs =>
        simp only [tp, Option.map_eq_some_iff] at h4
        obtain ⟨fs, h4, rfl⟩ := h4
        simp only [PyData.eqv, tps_eqv (n := n) ih h1 h2 h3 h4, D.tup.injEq]
      | lst bs => simp only [tp, Option.map_eq_some_iff] at h4; obtain ⟨fs, h4, rfl⟩ := h4; simp [PyData.eqv]
      | non => simp only [tp, Option.some.injEq] at h4; subst h4; simp [PyData.eqv]
      | int i => simp only [tp, Option.some.injEq] at h4; subst h4; simp [PyData.eqv]
      | str s => simp only [tp, Option.some.injEq] at h4; subst h4; simp [PyData.eqv]
      | _ => cases h2
    | lst as =>
      simp only [tp, Option.map_eq_some_iff] at h3
      obtain ⟨es, h3, rfl⟩ := h3
      cases b with
      | lst bs =>
        simp only [tp, Option.map_eq_some_iff] at h4
        obtain ⟨fs, h4, rfl⟩ := h4
        simp only [PyData.eqv, tps_eqv (n := n) ih h1 h2 h3 h4, D.lst.injEq]
      | tup bs => simp only [tp, Option.map_eq_some_iff] at h4; obtain ⟨fs, h4, rfl⟩ := h4; simp [PyData.eqv]
      | non => simp only [tp, Option.some.injEq] at h4; subst h4; simp [PyData.eqv]
      | int i => simp only [tp, Option.some.injEq] at h4; subst h4; simp [PyData.eqv]
      | str s => simp only [tp, Option.some.injEq] at h4; subst h4; simp [PyData.eqv]
      | _ => cases h2
    | _ => cases h1
end
open Classical in
/-- equal, of plain data -/
theorem eqD_pq {S : Sto} {n : Nat} {a b : D} (ha : pq n a = true) (hb : pq n b = true) (hn : n ≤ 64) (hs : scalD a b = none) : eqD S a b = some (decide (a = b)) := by
  obtain ⟨e, h1, h2, h3⟩ := pl_tp a (pq_pl a ha)
  obtain ⟨f, g1, g2, g3⟩ := pl_tp b (pq_pl b hb)
  have e1 : tpd S a = some e := h1 _ _
  have e2 : tpd S b = some f := g1 _ _
  unfold eqD
  simp only [hs, e1, e2]
  rw [if_pos ⟨shaped_of h2 h3 hn, shaped_of g2 g3 hn⟩]
  congr 1
  rw [Bool.eq_iff_iff, decide_eq_true_iff]
  exact tp_eqv ha hb (h1 (tpk S 1) S) (g1 (tpk S 1) S)
end PM

/-! PM, part 52: fills found by walking two kinds (plain) -/
namespace PM
open PySem L2
/-- numbers and what fills them, as they came -/
abbrev Fm := List (Int × D)
def lkF : Fm → Int → Option D
  | [], _ => none
  | p :: m, n => if p.1 = n then some p.2 else lkF m n
open Classical in
noncomputable def putFm (F : Fm) (n : Int) (d : D) : Fm × Bool := match lkF F n with
  | none => (F ++ [(n, d)], true)
  | some d' => (F, decide (d' = d))
def fO (F : Fm) : MO := .dK (F.map fun p => .inl p.1) (F.map fun p => p.2)
theorem getK_lkF : ∀ (F : Fm) (n : Int), getK (F.map fun p => (Sum.inl p.1 : Key)) (F.map fun p => p.2) (.inl n) = lkF F n
  | [], n => rfl
  | p :: F, n => by
    simp only [List.map_cons, getK, lkF]
    by_cases e : p.1 = n
    · rw [if_pos (by rw [e]), if_pos e]
    · rw [if_neg (fun q => e (Sum.inl.inj q)), if_neg e, getK_lkF F n]
theorem lkF_mem : ∀ {F : Fm} {n : Int} {d : D}, lkF F n = some d → (n, d) ∈ F
  | p :: F, n, d, h => by
    simp only [lkF] at h
    split at h
    · rename_i e; cases h; subst e; exact List.mem_cons_self
    · exact List.mem_cons_of_mem _ (lkF_mem h)
theorem lkF_none : ∀ {F : Fm} {n : Int}, lkF F n = none → (Sum.inl n : Key) ∉ F.map fun p => (Sum.inl p.1 : Key)
  | [], _, _, h => nomatch h
  | p :: F, n, h, q => by
    simp only [lkF] at h
    split at h
    · cases h
    · rename_i e
      rcases List.mem_cons.mp q with q | q
      · exact e (Sum.inl.inj q).symm
      · exact lkF_none h q
theorem lkF_app : ∀ {F G : Fm} {n : Int}, lkF (F ++ G) n = match lkF F n with | some d => some d | none => lkF G n
  | [], G, n => rfl
  | p :: F, G, n => by
    simp only [List.cons_append, lkF]
    split
    · rfl
    · exact lkF_app
def FE (F G : Fm) : Prop := ∀ n d, lkF F n = some d → lkF G n = some d
theorem FE.refl {F : Fm} : FE F F := fun _ _ h => h
theorem FE.trans {F G I : Fm} (a : FE F G) (b : FE G I) : FE F I := fun n d h => b n d (a n d h)
theorem put_ext {F : Fm} {n : Int} {d : D} : FE F (putFm F n d).1 := by
  unfold putFm
  split
  · intro m e h; rw [lkF_app, h]
  · exact .refl
open Classical in
theorem put_hit {F : Fm} {n : Int} {d : D} (h : (putFm F n d).2 = true) : lkF (putFm F n d).1 n = some d := by
  unfold putFm at h ⊢
  split
  · rename_i hk; rw [lkF_app, hk]; simp [lkF]
  · rename_i d' hk
    rw [hk] at h
    rw [hk, of_decide_eq_true h]
theorem put_mem {F : Fm} {n : Int} {d : D} {p : Int × D} (h : p ∈ (putFm F n d).1) : p ∈ F ∨ p = (n, d) := by
  unfold putFm at h
  split at h
  · rcases List.mem_append.mp h with h | h
    · exact .inl h
    · exact .inr (List.mem_singleton.mp h)
  · exact .inl h
theorem put_len {F : Fm} {n : Int} {d : D} : (putFm F n d).1.length ≤ F.length + 1 := by
  unfold putFm
  split
  · simp
  · simp
def NdF (F : Fm) : Prop := (F.map fun p => p.1).Nodup
theorem put_nd {F : Fm} {n : Int} {d : D} (h : NdF F) : NdF (putFm F n d).1 := by
  unfold putFm
  split
  · rename_i hk
    unfold NdF
    rw [List.map_append]
    refine List.nodup_append.mpr ⟨h, by simp, fun a ha b hb e => ?_⟩
    have : b = n := by simpa using hb
    subst this e
    obtain ⟨p, hp, e⟩ := List.mem_map.mp ha
    exact lkF_none hk (List.mem_map.mpr ⟨p, hp, by rw [e]⟩)
  · exact h
theorem lkF_of_mem : ∀ {F : Fm} {p : Int × D}, NdF F → p ∈ F → lkF F p.1 = some p.2
  | q :: F, p, h, hp => by
    unfold NdF at h
    rw [List.map_cons] at h
    obtain ⟨h1, h2⟩ := List.nodup_cons.mp h
    simp only [lkF]
    rcases List.mem_cons.mp hp with e | e
    · rw [if_pos (by rw [e]), e]
    · rw [if_neg (fun x => h1 (List.mem_map.mpr ⟨p, e, x.symm⟩))]
      exact lkF_of_mem h2 e
theorem kSetd_F {q : Nat} {S : Sto} {F : Fm} {n : Int} {d : D} (h : S[q]? = some (fO F)) (hz : F.length < 100000) :
    kSetd (.ref q) (.int n) d S = .ok ((lkF F n).getD d) (S.set q (fO (putFm F n d).1)) := by
  have h' : S[q]? = some (.dK (F.map fun p => .inl p.1) (F.map fun p => p.2)) := h
  have hl : F.length < sizeLine := Nat.lt_of_lt_of_le (by omega) szl
  cases hk : lkF F n with
  | none =>
    have hp : putFm F n d = (F ++ [(n, d)], true) := by simp only [putFm, hk]
    have hn := lkF_none hk
    rw [hp]
    simp only [kSetd, h', PM.keyOf, List.length_map, if_pos hl, getK_lkF, hk, insK_new hn, insD_new hn, Option.getD_none]
    simp only [fO, List.map_append, List.map_cons, List.map_nil]
  | some l' =>
    have hp : (putFm F n d).1 = F := by simp only [putFm, hk]
    rw [hp]
    simp only [kSetd, h', PM.keyOf, List.length_map, if_pos hl, getK_lkF, hk, Option.getD_some, set_get h]
/-- a label's kind -/
def lkP : List (Str × K) → Str → Option K
  | [], _ => none
  | p :: m, l => if p.1 = l then some p.2 else lkP m l
theorem lkP_mem : ∀ {m : List (Str × K)} {l : Str} {k : K}, lkP m l = some k → (l, k) ∈ m
  | p :: m, l, k, h => by
    simp only [lkP] at h
    split at h
    · rename_i e; cases h; subst e; exact List.mem_cons_self
    · exact List.mem_cons_of_mem _ (lkP_mem h)
theorem lkP_of {m : List (Str × K)} (hn : (m.map (·.1)).Nodup) : ∀ {p : Str × K}, p ∈ m → lkP m p.1 = some p.2 := by
  induction m with
  | nil => intro p h; cases h
  | cons q m ih =>
    intro p hp
    rw [List.map_cons] at hn
    obtain ⟨h1, h2⟩ := List.nodup_cons.mp hn
    simp only [lkP]
    rcases List.mem_cons.mp hp with e | e
    · rw [if_pos (by rw [e]), e]
    · rw [if_neg (fun x => h1 (List.mem_map.mpr ⟨p, e, x.symm⟩))]
      exact ih h2 e
theorem getK_lkP : ∀ (m : List (Str × K)) (l : Str), getK ((m.map (·.1)).map (Sum.inr : Str → Key)) (kds (m.map (·.2))) (.inr l) = (lkP m l).map kd
  | [], l => rfl
  | p :: m, l => by
    simp only [List.map_cons, kds, getK, lkP]
    by_cases e : p.1 = l
    · rw [if_pos (by rw [e]), if_pos e]; rfl
    · rw [if_neg (fun q => e (Sum.inr.inj q)), if_neg e, getK_lkP m l]
noncomputable def restM (r : Option Int) (more : List (Str × K)) (r' : Option Int) (F : Fm) : Fm × Bool := match r with
  | none => (F, more.isEmpty && r'.isNone)
  | some n => putFm F n (.tup [.tup (more.map fd), rD0 r'])
def moreM (ls : List Str) (th : List (Str × K)) : List (Str × K) := th.filter fun p => !decide (p.1 ∈ ls)
mutual
noncomputable def matchK : K → K → Fm → Fm × Bool
  | .num, o, F => match o with
    | .num => (F, true)
    | _ => (F, false)
  | .blk n, o, F => putFm F n (kd o)
  | .rc ls ks r, o, F => match o with
    | .rc ls' ks' r' => if (matchKs ks ls (ls'.zip ks') F).2 = true then restM r (moreM ls (ls'.zip ks')) r' (matchKs ks ls (ls'.zip ks') F).1 else ((matchKs ks ls (ls'.zip ks') F).1, false)
    | _ => (F, false)
noncomputable def matchKs : List K → List Str → List (Str × K) → Fm → Fm × Bool
  | [], _, _, F => (F, true)
  | k :: ks, ls, th, F => match ls with
    | [] => (F, true)
    | l :: ls => match lkP th l with
      | none => (F, false)
      | some o => if (matchK k o F).2 = true then matchKs ks ls th (matchK k o F).1 else ((matchK k o F).1, false)
end
theorem matchKs_cons {k : K} {ks : List K} {l : Str} {ls : List Str} {th : List (Str × K)} {F : Fm} : matchKs (k :: ks) (l :: ls) th F = match lkP th l with
      | none => (F, false)
      | some o => if (matchK k o F).2 = true then matchKs ks ls th (matchK k o F).1 else ((matchK k o F).1, false) := by rw [matchKs]
/-- what a step of the walk keeps -/
structure Kept (P : Int → D → Prop) (F G : Fm) (c : Nat) : Prop where
  ext : FE F G
  nd : NdF F → NdF G
  ok : (∀ p ∈ F, P p.1 p.2) → ∀ p ∈ G, P p.1 p.2
  len : G.length ≤ F.length + c
theorem Kept.refl {P : Int → D → Prop} {F : Fm} : Kept P F F 0 := ⟨.refl, id, id, by omega⟩
theorem Kept.trans {P : Int → D → Prop} {F G I : Fm} {a b : Nat} (x : Kept P F G a) (y : Kept P G I b) : Kept P F I (a + b) := ⟨x.ext.trans y.ext, fun h => y.nd (x.nd h), fun h => y.ok (x.ok h), by have := x.len; have := y.len; omega⟩
theorem Kept.up {P : Int → D → Prop} {F G : Fm} {a b : Nat} (x : Kept P F G a) (h : a ≤ b) : Kept P F G b := ⟨x.ext, x.nd, x.ok, by have := x.len; omega⟩
theorem Kept.put {P : Int → D → Prop} {F : Fm} {n : Int} {d : D} (h : P n d) : Kept P F (putFm F n d).1 1 := ⟨put_ext, put_nd, fun q p hp => by
  rcases put_mem hp with e | e
  · exact q p e
  · subst e; exact h, put_len⟩
theorem zip_fst {ls : List Str} {ks : List K} (h : ls.length = ks.length) : (ls.zip ks).map (·.1) = ls := List.map_fst_zip (by omega)
theorem zip_sndL {ls : List Str} {ks : List K} (h : ls.length = ks.length) : (ls.zip ks).map (·.2) = ks := List.map_snd_zip (by omega)
theorem asc_sub {a b : List Str} (h : ascS b = true) (s : a.Sublist b) : ascS a = true := by rw [ascS_iff]; exact (ascS_iff.mp h).sublist s
theorem kns_sub {a b : List K} (s : a.Sublist b) : kns a ≤ kns b := by
  induction s with
  | slnil => exact Nat.le_refl _
  | cons x s ih => rw [kns]; omega
  | cons_cons x s ih => rw [kns, kns]; omega
/-- further fields of a kind fill a rest -/
theorem more_gf {m : Nat} {ls ls' : List Str} {ks' : List K} {r' : Option Int} (h : VK m (.rc ls' ks' r')) (hm : m ≤ 11) (hk : kns ks' ≤ 200) : GFa 12 (some ls) (.tup [.tup ((moreM ls (ls'.zip ks')).map fd), rD0 r']) := by
  cases h with
  | rc h1 h2 h3 h4 h5 =>
    rename_i d
    have hs : (moreM ls (ls'.zip ks')).Sublist (ls'.zip ks') := List.filter_sublist
    have hs1 : ((moreM ls (ls'.zip ks')).map (·.1)).Sublist ls' := by have := hs.map (·.1); rwa [zip_fst h1] at this
    have hs2 : ((moreM ls (ls'.zip ks')).map (·.2)).Sublist ks' := by have := hs.map (·.2); rwa [zip_sndL h1] at this
    refine ⟨(moreM ls (ls'.zip ks')).map (·.1), (moreM ls (ls'.zip ks')).map (·.2), r', by rw [fd_fld], ?_, ?_, ?_⟩
    · exact VK.mono (.rc (d := d) (by simp) (asc_sub h2 hs1) (fun l hl => h3 l (hs1.subset hl)) (fun k hk => h4 k (hs2.subset hk)) h5) hm
    · have := kns_sub hs2; omega
    · intro l hl
      obtain ⟨p, hp, e⟩ := List.mem_map.mp hl
      have := (List.mem_filter.mp hp).2
      subst e
      simpa using this
mutual
theorem matchK_kept {P : Int → D → Prop} : ∀ (k : K) {m : Nat} {o : K} {F : Fm}, VK m o → m ≤ 11 → kn o ≤ 200 → (∀ x ∈ occ k, ∀ d, GFa 12 x.2 d → P x.1 d) → Kept P F (matchK k o F).1 (kn k)
  | .num, m, o, F, h, hm, hz, hP => by
    cases o <;> simp only [matchK] <;> exact Kept.refl.up (Nat.zero_le _)
  | .blk n, m, o, F, h, hm, hz, hP => by
    rw [matchK, kn]
    exact .put (hP (n, none) (by simp [occ]) _ ⟨o, rfl, h.mono (by omega), by omega⟩)
  | .rc ls ks r, m, o, F, h, hm, hz, hP => by
    cases o with
    | num => simp only [matchK]; exact Kept.refl.up (Nat.zero_le _)
    | blk n => simp only [matchK]; exact Kept.refl.up (Nat.zero_le _)
    | rc ls' ks' r' =>
      have hkz : kns ks' ≤ 200 := by rw [kn] at hz; omega
      have hk : Kept P F (matchKs ks ls (ls'.zip ks') F).1 (kns ks) := matchKs_kept ks ls (fun o ho => by
        cases h with
        | rc h1 h2 h3 h4 h5 => exact ⟨_, h4 _ (zip_mem ho).2, by omega, by have := kns_mem (zip_mem ho).2; omega⟩) fun x hx d hd => hP x (by rw [occ]; exact List.mem_append_left _ hx) d hd
      rw [kn]
      simp only [matchK]
      split
      · refine (hk.trans (b := 1) ?_).up (by omega)
        unfold restM
        split
        · exact Kept.refl.up (by omega)
        · exact .put (hP _ (by rw [occ, restO]; exact List.mem_append_right _ List.mem_cons_self) _ (more_gf h hm hkz))
      · exact hk.up (by omega)
theorem matchKs_kept {P : Int → D → Prop} : ∀ (ks : List K) (ls : List Str) {th : List (Str × K)} {F : Fm}, (∀ p ∈ th, ∃ m, VK m p.2 ∧ m ≤ 11 ∧ kn p.2 ≤ 200) → (∀ x ∈ occs ks, ∀ d, GFa 12 x.2 d → P x.1 d) → Kept P F (matchKs ks ls th F).1 (kns ks)
  | [], ls, th, F, h, hP => by rw [matchKs]; exact Kept.refl.up (Nat.zero_le _)
  | k :: ks, [], th, F, h, hP => by rw [matchKs]; exact Kept.refl.up (Nat.zero_le _)
  | k :: ks, l :: ls, th, F, h, hP => by
    rw [matchKs_cons, kns]
    split
    · exact Kept.refl.up (Nat.zero_le _)
    · rename_i o ho
      obtain ⟨m, h1, h2, h3⟩ := h _ (lkP_mem ho)
      have a : Kept P F (matchK k o F).1 (kn k) := matchK_kept k h1 h2 h3 fun x hx d hd => hP x (by rw [occs]; exact List.mem_append_left _ hx) d hd
      split
      · exact a.trans (matchKs_kept ks ls h fun x hx d hd => hP x (by rw [occs]; exact List.mem_append_right _ hx) d hd)
      · exact a.up (by omega)
end
/-- what was found for the fields -/
theorem matchKs_get : ∀ (ks : List K) (ls : List Str) {th : List (Str × K)} {F : Fm}, ls.length = ks.length → (∀ p ∈ th, ∃ m, VK m p.2 ∧ m ≤ 11 ∧ kn p.2 ≤ 200) → (matchKs ks ls th F).2 = true →
    ∀ p ∈ ls.zip ks, ∃ o F1, lkP th p.1 = some o ∧ (matchK p.2 o F1).2 = true ∧ FE (matchK p.2 o F1).1 (matchKs ks ls th F).1
  | [], [], th, F, _, _, _, p, hp => nomatch hp
  | k :: ks, l :: ls, th, F, hl, h, hq, p, hp => by
    rw [matchKs_cons] at hq ⊢
    cases ho : lkP th l with
    | none => rw [ho] at hq; cases hq
    | some o =>
      rw [ho] at hq
      simp only at hq ⊢
      split at hq
      · rename_i e
        rw [if_pos e]
        have a : Kept (fun _ _ => True) (matchK k o F).1 (matchKs ks ls th (matchK k o F).1).1 (kns ks) := matchKs_kept ks ls h fun _ _ _ _ => trivial
        rcases List.mem_cons.mp hp with ep | ep
        · subst ep
          exact ⟨o, F, ho, e, a.ext⟩
        · exact matchKs_get ks ls (by simpa using hl) h hq p ep
      · cases hq
/-! one text for all of a kind's data -/
theorem vk_pq {d : Nat} {k : K} (h : VK d k) : pq (3 * d) (kd k) = true := by
  induction h with
  | num => rename_i d; rw [show 3 * (d + 1) = (3 * d + 2) + 1 by omega]; simp only [kd, pq, List.all_cons, List.all_nil]; decide +kernel
  | blk => rename_i d n _; rw [show 3 * (d + 1) = (3 * d + 2) + 1 by omega]; simp only [kd, pq, List.all_cons, List.all_nil]; decide +kernel
  | rc h1 h2 h3 h4 h5 ih =>
    rename_i d ls ks r
    rw [show 3 * (d + 1) = (3 * d + 2) + 1 by omega]
    simp only [kd, pq, List.all_cons, List.all_nil, Bool.and_true, Bool.and_eq_true]
    refine ⟨by decide +kernel, List.all_eq_true.mpr fun x hx => ?_, by cases r <;> rfl⟩
    obtain ⟨l, y, e, hl, hy⟩ := mem_fldD hx
    rw [kds_map] at hy
    obtain ⟨b, hb, e'⟩ := List.mem_map.mp hy
    subst e e'
    simp only [pq, List.all_cons, List.all_nil, Bool.and_true, Bool.and_eq_true]
    exact ⟨(h3 l hl).ok, ih b hb⟩
theorem scal_tup {a : List D} {d : D} : scalD (.tup a) d = none := by cases d <;> rfl
end PM

/-! PM, part 53: lists of kinds walked; what fills make of a kind (plain) -/
namespace PM
open PySem L2
noncomputable def matchL : List K → List K → Fm → Fm × Bool
  | k :: ks, o :: os, F => if (matchK k o F).2 = true then matchL ks os (matchK k o F).1 else ((matchK k o F).1, false)
  | _, _, F => (F, true)
theorem matchL_snoc {k o : K} : ∀ {ks os : List K} {F : Fm}, ks.length = os.length → matchL (ks ++ [k]) (os ++ [o]) F = if (matchL ks os F).2 = true then matchK k o (matchL ks os F).1 else matchL ks os F
  | [], [], F, _ => by
    simp only [List.nil_append, matchL, if_true]
    cases h : (matchK k o F).2 with
    | true => rw [if_pos rfl, ← h]
    | false => rw [if_neg (by simp), ← h]
  | a :: ks, b :: os, F, h => by
    simp only [List.cons_append, matchL]
    by_cases h2 : (matchK a b F).2 = true
    · simp only [if_pos h2]; exact matchL_snoc (by simpa using h)
    · simp only [if_neg h2]; rw [if_neg (by simp)]
theorem matchL_app : ∀ {ks os ks2 os2 : List K} {F : Fm}, ks.length = os.length → (matchL ks os F).2 = false → (matchL (ks ++ ks2) (os ++ os2) F).2 = false
  | [], [], ks2, os2, F, _, h => by rw [matchL] at h; cases h; all_goals (intros; contradiction)
  | a :: ks, b :: os, ks2, os2, F, hl, h => by
    simp only [List.cons_append, matchL] at h ⊢
    split
    · rename_i e
      rw [if_pos e] at h
      exact matchL_app (by simpa using hl) h
    · rfl
theorem matchL_take {ks os : List K} {F : Fm} {i : Nat} (hl : ks.length = os.length) (h : (matchL (ks.take i) (os.take i) F).2 = false) : (matchL ks os F).2 = false := by
  have := matchL_app (ks2 := ks.drop i) (os2 := os.drop i) (by simp [hl]) h
  rwa [List.take_append_drop, List.take_append_drop] at this
theorem matchL_step {ks os : List K} {F : Fm} {i : Nat} {k o : K} (hl : ks.length = os.length) (h1 : ks[i]? = some k) (h2 : os[i]? = some o) : matchL (ks.take (i + 1)) (os.take (i + 1)) F = if (matchL (ks.take i) (os.take i) F).2 = true then matchK k o (matchL (ks.take i) (os.take i) F).1 else matchL (ks.take i) (os.take i) F := by
  rw [List.take_add_one, List.take_add_one, h1, h2]
  exact matchL_snoc (by simp [hl])
theorem matchL_kept {P : Int → D → Prop} : ∀ (ks os : List K) {F : Fm}, (∀ o ∈ os, ∃ m, VK m o ∧ m ≤ 11 ∧ kn o ≤ 200) → (∀ x ∈ occs ks, ∀ d, GFa 12 x.2 d → P x.1 d) → Kept P F (matchL ks os F).1 (kns ks)
  | [], os, F, h, hP => by rw [matchL]; exact Kept.refl.up (Nat.zero_le _); all_goals (intros; contradiction)
  | k :: ks, [], F, h, hP => by rw [matchL]; exact Kept.refl.up (Nat.zero_le _); all_goals (intros; contradiction)
  | k :: ks, o :: os, F, h, hP => by
    rw [matchL, kns]
    obtain ⟨m, h1, h2, h3⟩ := h o (by simp)
    have a : Kept P F (matchK k o F).1 (kn k) := matchK_kept k h1 h2 h3 fun x hx d hd => hP x (by rw [occs]; exact List.mem_append_left _ hx) d hd
    split
    · exact a.trans (matchL_kept ks os (fun o ho => h o (by simp [ho])) fun x hx d hd => hP x (by rw [occs]; exact List.mem_append_right _ hx) d hd)
    · exact a.up (by omega)
/-- each pair of a list that was walked to its end -/
theorem matchL_get : ∀ (ks os : List K) {F : Fm}, (∀ o ∈ os, ∃ m, VK m o ∧ m ≤ 11 ∧ kn o ≤ 200) → (matchL ks os F).2 = true → ∀ (i : Nat) k o, ks[i]? = some k → os[i]? = some o → ∃ F1, (matchK k o F1).2 = true ∧ FE (matchK k o F1).1 (matchL ks os F).1
  | a :: ks, b :: os, F, h, hq, i, k, o, h1, h2 => by
    rw [matchL] at hq ⊢
    split at hq
    · rename_i e
      rw [if_pos e]
      have kp : Kept (fun _ _ => True) (matchK a b F).1 (matchL ks os (matchK a b F).1).1 (kns ks) := matchL_kept ks os (fun o ho => h o (by simp [ho])) fun _ _ _ _ => trivial
      cases i with
      | zero =>
        simp at h1 h2; subst h1 h2
        exact ⟨F, e, kp.ext⟩
      | succ i =>
        exact matchL_get ks os (fun o ho => h o (by simp [ho])) hq i k o (by simpa using h1) (by simpa using h2)
    · cases hq
  | [], os, F, h, hq, i, k, o, h1, h2 => by simp at h1
  | a :: ks, [], F, h, hq, i, k, o, h1, h2 => by simp at h2
/-! a record's fields put together again -/
theorem lkP_nodup {th : List (Str × K)} {l : Str} (hn : (th.map (·.1)).Nodup) (hl : l ∈ th.map (·.1)) : ∃ k, lkP th l = some k := by
  obtain ⟨p, hp, e⟩ := List.mem_map.mp hl
  exact ⟨p.2, by rw [← e]; exact lkP_of hn hp⟩
theorem recK_of {ls : List Str} {ks : List K} {r : Option Int} {zs : List (Str × K)} (h1 : ls.length = ks.length) (h2 : ascS ls = true) (hn : (zs.map (·.1)).Nodup) (hm : ∀ l, l ∈ zs.map (·.1) ↔ l ∈ ls) (hz : ∀ p ∈ zs, lkP (ls.zip ks) p.1 = some p.2) : recK zs r = .rc ls ks r := by
  have hp : (zs.map (·.1)).Perm ls := (List.perm_ext_iff_of_nodup hn (asc_nodup h2)).mpr hm
  have hs : sortStr (zs.map (·.1)) = ls := by
    have e : ls = sortStr ls := by
      unfold ascS at h2
      rw [Bool.and_eq_true, decide_eq_true_eq] at h2
      exact h2.1
    have : (sortStr (zs.map (·.1))).Perm (sortStr ls) := (sortStr_perm _).trans (hp.trans (sortStr_perm ls).symm)
    rw [sorted_uniq this (sortStr_sorted _) (sortStr_sorted _), ← e]
  rw [recK, hs]
  congr 1
  apply List.ext_getElem?
  intro i
  rw [List.getElem?_map]
  cases hi : ls[i]? with
  | none =>
    rw [List.getElem?_eq_none_iff] at hi
    rw [List.getElem?_eq_none (by omega)]; rfl
  | some l =>
    have hlt : i < ks.length := by rw [← h1]; exact (List.getElem?_eq_some_iff.mp hi).1
    have hk := List.getElem?_eq_getElem hlt
    rw [hk]
    have hmem : l ∈ zs.map (·.1) := (hm l).mpr (List.mem_of_getElem? hi)
    have h3 := hz _ (fk_mem hmem)
    have h4 : (l, ks[i]) ∈ ls.zip ks := List.mem_of_getElem? (i := i) (List.getElem?_zip_eq_some.mpr ⟨hi, hk⟩)
    have h5 := lkP_of (m := ls.zip ks) (by rw [zip_fst h1]; exact asc_nodup h2) h4
    simp only at h3 h5
    rw [h5] at h3
    simp only [Option.map_some, Option.some.injEq] at h3 ⊢
    exact h3.symm
end PM

namespace K_k04
open PySem PySem.Spec L2 PM PyProof.Rows
def top (i : Nat) : Stmt := PySem.Challenge.pw_fieldrest_k04_kinds_that_fit.main.body.getD i (.Pass ⟨0, 0, 0, 0⟩)
inductive Fn where
  | is_whole
  | is_word
  | is_pair
  | is_rest
  | is_row
  | is_kind_in
  | knots
  | depth
  | blanks_in
  | put_blank
  | is_kind
  | are_kinds
  | need_kind
  | fill
  | is_fill
  | filled
  | match
  | fits
  | _law_cell
  | _law_next
  | _law_labels
  | _law_kind
  | _law_blanks
  | _law_filled
  | _law_end
  | _law_flat
  | _law_match
  | _law_bent
  | _law_knots
  | _law_kinds
  | _law_refused
  | _law_big
  | _law_agrees
  | law
inductive FnX where
  | _law_lone
def N_is_whole : List Str := ["thing"]
def N_is_word : List Str := ["thing", "sign"]
def N_is_pair : List Str := ["thing"]
def N_is_rest : List Str := ["thing"]
def N_is_row : List Str := ["fields", "deep", "pair", "labels"]
def N_is_kind_in : List Str := ["thing", "deep"]
def N_knots : List Str := ["kind", "pair"]
def N_depth : List Str := ["kind", "pair"]
def N_blanks_in : List Str := ["kind", "found", "good", "pair"]
def N_put_blank : List Str := ["found", "number", "labels"]
def N_is_kind : List Str := ["thing"]
def N_are_kinds : List Str := ["things", "found", "thing"]
def N_need_kind : List Str := ["thing"]
def N_fill : List Str := ["kind", "fills", "fields", "pair", "rest"]
def N_is_fill : List Str := ["labels", "thing", "pair"]
def N_filled : List Str := ["kind", "fills", "found", "number", "made"]
def N_match : List Str := ["kind", "other", "fills", "theirs", "pair", "mine", "more"]
def N_fits : List Str := ["kinds", "others", "fills", "k"]
def N__law_cell : List Str := ["_law_script", "_law_k"]
def N__law_next : List Str := ["_law_state"]
def N__law_labels : List Str := ["_law_cell_here", "_law_many", "_law_signs", "_law_size", "_law_at", "_law_step", "_law_base", "_law_k", "_law_found", "_law_sign"]
def N__law_kind : List Str := ["_law_state", "_law_labels_here", "_law_met", "_law_left", "_law_number", "_law_picked", "_law_words", "_law_label", "_law_fields"]
def N__law_blanks : List Str := ["_law_kind_here", "_law_found", "_law_pair"]
def N__law_filled : List Str := ["_law_kind_here", "_law_fills", "_law_fields", "_law_inner", "_law_label", "_law_rest", "_law_inside"]
def N__law_lone : List Str := ["_law_e", "_law_found"]
def N__law_end : List Str := ["_law_state", "_law_seen", "_law_words"]
def N__law_flat : List Str := ["_law_state", "_law_labels_here", "_law_ahead", "_law_seen", "_law_free", "_law_label", "_law_fields", "_law_words", "_law_inner", "_law_number"]
def N__law_match : List Str := ["_law_kind_here", "_law_other", "_law_fills", "_law_theirs", "_law_label", "_law_inner", "_law_mine", "_law_rest", "_law_pair"]
def N__law_bent : List Str := ["_law_kind_here", "_law_path", "_law_labels_here", "_law_some", "_law_fields", "_law_pair", "_law_at", "_law_inner"]
def N__law_knots : List Str := ["_law_kind_here", "_law_pair"]
def N__law_kinds : List Str := ["_law_script", "_law_labels_here", "_law_met", "_law_kinds_here", "_law_k", "_law_state"]
def N__law_refused : List Str := ["_law_kinds_here", "_law_others", "_law_e"]
def N__law_big : List Str := ["_law_signs", "_law_words", "_law_k", "_law_big_here", "_law_word"]
def N__law_agrees : List Str := ["_law_kinds_here", "_law_others", "_law_due", "_law_handed", "_law_found", "_law_kind_here"]
def N_law : List Str := ["_law_script", "_law_labels_here", "_law_met", "_law_kinds_here", "_law_state", "_law_fills", "_law_seen", "_law_blanks_here", "_law_kind_here", "_law_way", "_law_number", "_law_others", "_law_at", "_law_bad", "_law_shut", "_law_one", "_law_two", "_law_blank", "_law_inner", "_law_due", "_law_k"]
abbrev Cs := Fn → List D → Sto → R D
abbrev CsE := FnX → Addr → Str → List D → Sto → R D
def okX (y : Str) : Bool := decide (y = Str.ofString "BadKind") || decide (y = Str.ofString "BadFill") || decide (y = Str.ofString "TooGreat")
noncomputable def b__law_lone (a : Addr) (y : Str) : Sm :=
  (sSeq (sAsg (mB opAdd (mB opAdd (mApp cIntB (mCons (mU (opIsE a (isx y "BadFill")) (mV 0)) mNil)) (mApp cIntB (mCons (mU (opIsE a (isx y "BadKind")) (mV 0)) mNil))) (mApp cIntB (mCons (mU (opIsE a (isx y "Lacks")) (mV 0)) mNil))) (gmName 1)) (sSeq (sAsg (mB opAdd (mB opAdd (mB opAdd (mV 1) (mApp cIntB (mCons (mU (opIsE a (isx y "NoDefinition")) (mV 0)) mNil))) (mApp cIntB (mCons (mU (opIsE a (isx y "NoNumber")) (mV 0)) mNil))) (mApp cIntB (mCons (mU (opIsE a (isx y "NoRecord")) (mV 0)) mNil))) (gmName 1)) (sRet (mAndV (mU (opIsE a (isx y "ValueError")) (mV 0)) (mB opEq (mB opAdd (mV 1) (mApp cIntB (mCons (mU (opIsE a (isx y "TooGreat")) (mV 0)) mNil))) (mC (.int 1)))))))
noncomputable def bodyE (a : Addr) (y : Str) : FnX → Sm
  | ._law_lone => b__law_lone a y
def slotsE : FnX → Nat
  | ._law_lone => 2
def nmE : FnX → Str
  | ._law_lone => "_law_lone"
def arE : FnX → Nat
  | ._law_lone => 1
noncomputable def runE : Nat → CsE
  | 0, _ => fun _ _ _ _ => .stuck
  | k + 1, g => fun a y ds S => finRaw S (runB (bodyE a y g) (slotsE g) ds S)
noncomputable def b_is_whole (C : Cs) (CE : CsE) : Sm :=
  (sRet (mAndV (mU (opIsi "int") (mV 0)) (mNotV (mU (opIsi "bool") (mV 0)))))
noncomputable def b_is_word (C : Cs) (CE : CsE) : Sm :=
  (sRet (mAndV (mU (opIsi "str") (mV 0)) (mAndV (mChain opLe opLe (mC (.int 1)) (mApp cLen (mCons (mV 0) mNil)) (mC (.int 8))) (mApp cAll (mCons (mComp (sItems (mV 0)) (gmName 1) mYes (mB opIn (mV 1) (mC (.str "abcdefghijklmnopqrstuvwxyz"))) [1]) mNil)))))
noncomputable def b_is_pair (C : Cs) (CE : CsE) : Sm :=
  (sRet (mAndV (mU (opIsi "tuple") (mV 0)) (mAndV (mB opEq (mApp cLen (mCons (mV 0) mNil)) (mC (.int 2))) (mApp (C .is_word) (mCons (mB opIx (mV 0) (mC (.int 0))) mNil)))))
noncomputable def b_is_rest (C : Cs) (CE : CsE) : Sm :=
  (sRet (mOrV (mB opIsN (mV 0) (mC .non)) (mAndV (mApp (C .is_whole) (mCons (mV 0) mNil)) (mB opGe (mV 0) (mC (.int 0))))))
noncomputable def b_is_row (C : Cs) (CE : CsE) : Sm :=
  (sSeq (sIf (mOr (mNot (mT (mU (opIsi "tuple") (mV 0)))) (mNot (mT (mApp cAll (mCons (mComp (sItems (mV 0)) (gmName 2) mYes (mApp (C .is_pair) (mCons (mV 2) mNil)) [2]) mNil))))) (sRet (mC (.bl false))) sPass) (sSeq (sAsg (mComp (sItems (mV 0)) (gmName 2) mYes (mB opIx (mV 2) (mC (.int 0))) [2]) (gmName 3)) (sSeq (sIf (mOr (mT (mB opNe (mV 3) (mApp cSorted (mCons (mV 3) mNil)))) (mT (mB opNe (mLenSet (mV 3)) (mApp cLen (mCons (mV 3) mNil))))) (sRet (mC (.bl false))) sPass) (sRet (mApp cAll (mCons (mComp (sItems (mV 0)) (gmName 2) mYes (mApp (C .is_kind_in) (mCons (mB opIx (mV 2) (mC (.int 1))) (mCons (mV 1) mNil))) [2]) mNil))))))
noncomputable def b_is_kind_in (C : Cs) (CE : CsE) : Sm :=
  (sSeq (sIf (mOr (mT (mB opEq (mV 1) (mC (.int 0)))) (mOr (mNot (mT (mU (opIsi "tuple") (mV 0)))) (mOr (mT (mB opLt (mApp cLen (mCons (mV 0) mNil)) (mC (.int 1)))) (mNot (mT (mU (opIsi "str") (mB opIx (mV 0) (mC (.int 0))))))))) (sRet (mC (.bl false))) sPass) (sSeq (sIf (mT (mB opEq (mB opIx (mV 0) (mC (.int 0))) (mC (.str "number")))) (sRet (mB opEq (mApp cLen (mCons (mV 0) mNil)) (mC (.int 1)))) sPass) (sSeq (sIf (mT (mB opEq (mB opIx (mV 0) (mC (.int 0))) (mC (.str "blank")))) (sRet (mAndV (mB opEq (mApp cLen (mCons (mV 0) mNil)) (mC (.int 2))) (mAndV (mApp (C .is_whole) (mCons (mB opIx (mV 0) (mC (.int 1))) mNil)) (mB opGe (mB opIx (mV 0) (mC (.int 1))) (mC (.int 0)))))) sPass) (sRet (mAndV (mB opEq (mB opIx (mV 0) (mC (.int 0))) (mC (.str "record"))) (mAndV (mB opEq (mApp cLen (mCons (mV 0) mNil)) (mC (.int 3))) (mAndV (mApp (C .is_rest) (mCons (mB opIx (mV 0) (mC (.int 2))) mNil)) (mApp (C .is_row) (mCons (mB opIx (mV 0) (mC (.int 1))) (mCons (mB opSub (mV 1) (mC (.int 1))) mNil))))))))))
noncomputable def b_knots (C : Cs) (CE : CsE) : Sm :=
  (sSeq (sIf (mT (mB opNe (mB opIx (mV 0) (mC (.int 0))) (mC (.str "record")))) (sRet (mC (.int 1))) sPass) (sRet (mB opAdd (mC (.int 1)) (mApp cSum (mCons (mComp (sItems (mB opIx (mV 0) (mC (.int 1)))) (gmName 1) mYes (mApp (C .knots) (mCons (mB opIx (mV 1) (mC (.int 1))) mNil)) [1]) mNil)))))
noncomputable def b_depth (C : Cs) (CE : CsE) : Sm :=
  (sSeq (sIf (mT (mB opNe (mB opIx (mV 0) (mC (.int 0))) (mC (.str "record")))) (sRet (mC (.int 1))) sPass) (sRet (mB opAdd (mC (.int 1)) (mMaxD (mComp (sItems (mB opIx (mV 0) (mC (.int 1)))) (gmName 1) mYes (mApp (C .depth) (mCons (mB opIx (mV 1) (mC (.int 1))) mNil)) [1]) (mC (.int 0))))))
noncomputable def b_blanks_in (C : Cs) (CE : CsE) : Sm :=
  (sSeq (sIf (mT (mB opEq (mB opIx (mV 0) (mC (.int 0))) (mC (.str "blank")))) (sRet (mApp (C .put_blank) (mCons (mV 1) (mCons (mB opIx (mV 0) (mC (.int 1))) (mCons (mC .non) mNil))))) sPass) (sSeq (sAsg (mC (.bl true)) (gmName 2)) (sSeq (sIf (mT (mB opEq (mB opIx (mV 0) (mC (.int 0))) (mC (.str "record")))) (sSeq (sFor (sItems (mB opIx (mV 0) (mC (.int 1)))) (gmName 3) (sAsg (mAndV (mApp (C .blanks_in) (mCons (mB opIx (mV 3) (mC (.int 1))) (mCons (mV 1) mNil))) (mV 2)) (gmName 2))) (sIf (mT (mB opNotN (mB opIx (mV 0) (mC (.int 2))) (mC .non))) (sAsg (mAndV (mApp (C .put_blank) (mCons (mV 1) (mCons (mB opIx (mV 0) (mC (.int 2))) (mCons (mComp (sItems (mB opIx (mV 0) (mC (.int 1)))) (gmName 3) mYes (mB opIx (mV 3) (mC (.int 0))) [3]) mNil)))) (mV 2)) (gmName 2)) sPass)) sPass) (sRet (mV 2)))))
noncomputable def b_put_blank (C : Cs) (CE : CsE) : Sm :=
  (sSeq (sIf (mT (mB opNotIn (mV 1) (mV 0))) (sAsg (mV 2) (gmSub (mV 0) (mV 1) opSet)) sPass) (sRet (mB opEq (mB opIx (mV 0) (mV 1)) (mV 2))))
noncomputable def b_is_kind (C : Cs) (CE : CsE) : Sm :=
  (sRet (mAndV (mApp (C .is_kind_in) (mCons (mV 0) (mCons (mC (.int 12)) mNil))) (mAndV (mB opLe (mApp (C .knots) (mCons (mV 0) mNil)) (mC (.int 200))) (mApp (C .blanks_in) (mCons (mV 0) (mCons mNewK mNil))))))
noncomputable def b_are_kinds (C : Cs) (CE : CsE) : Sm :=
  (sSeq (sAsg mNewK (gmName 1)) (sSeq (sFor (sItems (mV 0)) (gmName 2) (sIf (mOr (mNot (mT (mApp (C .is_kind_in) (mCons (mV 2) (mCons (mC (.int 12)) mNil))))) (mNot (mT (mApp (C .blanks_in) (mCons (mV 2) (mCons (mV 1) mNil)))))) (sRet (mC (.bl false))) sPass)) (sRet (mB opLe (mApp cSum (mCons (mComp (sItems (mV 0)) (gmName 2) mYes (mApp (C .knots) (mCons (mV 2) mNil)) [2]) mNil)) (mC (.int 200))))))
noncomputable def b_need_kind (C : Cs) (CE : CsE) : Sm :=
  (sIf (mNot (mT (mApp (C .is_kind) (mCons (mV 0) mNil)))) (sRaise "BadKind") sPass)
noncomputable def b_fill (C : Cs) (CE : CsE) : Sm :=
  (sSeq (sIf (mAnd (mT (mB opEq (mB opIx (mV 0) (mC (.int 0))) (mC (.str "blank")))) (mT (mB opIn (mB opIx (mV 0) (mC (.int 1))) (mV 1)))) (sRet (mB opIx (mV 1) (mB opIx (mV 0) (mC (.int 1))))) sPass) (sSeq (sIf (mT (mB opNe (mB opIx (mV 0) (mC (.int 0))) (mC (.str "record")))) (sRet (mV 0)) sPass) (sSeq (sAsg (mComp (sItems (mB opIx (mV 0) (mC (.int 1)))) (gmName 3) mYes (mApp newTup (mCons (mB opIx (mV 3) (mC (.int 0))) (mCons (mApp (C .fill) (mCons (mB opIx (mV 3) (mC (.int 1))) (mCons (mV 1) mNil))) mNil))) [3]) (gmName 2)) (sSeq (sAsg (mB opIx (mV 0) (mC (.int 2))) (gmName 4)) (sSeq (sIf (mAnd (mT (mB opNotN (mV 4) (mC .non))) (mT (mB opIn (mV 4) (mV 1)))) (sSeq (sAsg (mB opAdd (mV 2) (mApp cList (mCons (mB opIx (mB opIx (mV 1) (mV 4)) (mC (.int 0))) mNil))) (gmName 2)) (sAsg (mB opIx (mB opIx (mV 1) (mV 4)) (mC (.int 1))) (gmName 4))) sPass) (sRet (mApp newTup (mCons (mC (.str "record")) (mCons (mApp cTuple (mCons (mApp cSortedF (mCons (mV 2) mNil)) mNil)) (mCons (mV 4) mNil))))))))))
noncomputable def b_is_fill (C : Cs) (CE : CsE) : Sm :=
  (sSeq (sIf (mT (mB opIsN (mV 0) (mC .non))) (sRet (mApp (C .is_kind_in) (mCons (mV 1) (mCons (mC (.int 12)) mNil)))) sPass) (sSeq (sIf (mOr (mNot (mT (mU (opIsi "tuple") (mV 1)))) (mOr (mT (mB opNe (mApp cLen (mCons (mV 1) mNil)) (mC (.int 2)))) (mNot (mT (mApp (C .is_kind_in) (mCons (mB opAdd (mApp newTup (mCons (mC (.str "record")) mNil)) (mV 1)) (mCons (mC (.int 12)) mNil))))))) (sRet (mC (.bl false))) sPass) (sRet (mApp cAll (mCons (mComp (sItems (mB opIx (mV 1) (mC (.int 0)))) (gmName 2) mYes (mB opNotIn (mB opIx (mV 2) (mC (.int 0))) (mV 0)) [2]) mNil)))))
noncomputable def b_filled (C : Cs) (CE : CsE) : Sm :=
  (sSeq (sExpr (mApp (C .need_kind) (mCons (mV 0) mNil))) (sSeq (sAsg mNewK (gmName 2)) (sSeq (sExpr (mApp (C .blanks_in) (mCons (mV 0) (mCons (mV 2) mNil)))) (sSeq (lockS 2 (sFor (sKeys (mV 2)) (gmName 3) (sIf (mAnd (mT (mB opIn (mV 3) (mV 1))) (mNot (mT (mApp (C .is_fill) (mCons (mB opIx (mV 2) (mV 3)) (mCons (mB opIx (mV 1) (mV 3)) mNil)))))) (sRaise "BadFill") sPass))) (sSeq (sAsg (mApp (C .fill) (mCons (mV 0) (mCons (mV 1) mNil))) (gmName 4)) (sSeq (sIf (mOr (mT (mB opGt (mApp (C .knots) (mCons (mV 4) mNil)) (mC (.int 200)))) (mT (mB opGt (mApp (C .depth) (mCons (mV 4) mNil)) (mC (.int 12))))) (sRaise "TooGreat") sPass) (sSeq (sIf (mNot (mT (mApp (C .is_kind) (mCons (mV 4) mNil)))) (sRaise "BadFill") sPass) (sRet (mV 4)))))))))
noncomputable def b_match (C : Cs) (CE : CsE) : Sm :=
  (sSeq (sIf (mT (mB opEq (mB opIx (mV 0) (mC (.int 0))) (mC (.str "blank")))) (sRet (mB opEq (mD3 kSetd (mV 2) (mB opIx (mV 0) (mC (.int 1))) (mV 1)) (mV 1))) sPass) (sSeq (sIf (mT (mB opNe (mB opIx (mV 0) (mC (.int 0))) (mB opIx (mV 1) (mC (.int 0))))) (sRet (mC (.bl false))) sPass) (sSeq (sIf (mT (mB opEq (mB opIx (mV 0) (mC (.int 0))) (mC (.str "number")))) (sRet (mC (.bl true))) sPass) (sSeq (sAsg (mApp cDict (mCons (mB opIx (mV 1) (mC (.int 1))) mNil)) (gmName 3)) (sSeq (sFor (sItems (mB opIx (mV 0) (mC (.int 1)))) (gmName 4) (sIf (mOr (mT (mB opNotIn (mB opIx (mV 4) (mC (.int 0))) (mV 3))) (mNot (mT (mApp (C .match) (mCons (mB opIx (mV 4) (mC (.int 1))) (mCons (mB opIx (mV 3) (mB opIx (mV 4) (mC (.int 0)))) (mCons (mV 2) mNil))))))) (sRet (mC (.bl false))) sPass)) (sSeq (sAsg (mComp (sItems (mB opIx (mV 0) (mC (.int 1)))) (gmName 4) mYes (mB opIx (mV 4) (mC (.int 0))) [4]) (gmName 5)) (sSeq (sAsg (mApp cTuple (mCons (mComp (sItems (mB opIx (mV 1) (mC (.int 1)))) (gmName 4) (mT (mB opNotIn (mB opIx (mV 4) (mC (.int 0))) (mV 5))) (mV 4) [4]) mNil)) (gmName 6)) (sSeq (sIf (mT (mB opIsN (mB opIx (mV 0) (mC (.int 2))) (mC .non))) (sRet (mAndV (mB opEq (mV 6) (mApp newTup mNil)) (mB opIsN (mB opIx (mV 1) (mC (.int 2))) (mC .non)))) sPass) (sRet (mB opEq (mD3 kSetd (mV 2) (mB opIx (mV 0) (mC (.int 2))) (mApp newTup (mCons (mV 6) (mCons (mB opIx (mV 1) (mC (.int 2))) mNil)))) (mApp newTup (mCons (mV 6) (mCons (mB opIx (mV 1) (mC (.int 2))) mNil)))))))))))))
noncomputable def b_fits (C : Cs) (CE : CsE) : Sm :=
  (sSeq (sIf (mOr (mNot (mT (mApp (C .are_kinds) (mCons (mV 0) mNil)))) (mNot (mT (mApp (C .are_kinds) (mCons (mV 1) mNil))))) (sRaise "BadKind") sPass) (sSeq (sAsg mNewK (gmName 2)) (sSeq (sIf (mT (mB opNe (mApp cLen (mCons (mV 0) mNil)) (mApp cLen (mCons (mV 1) mNil)))) (sRet (mC .non)) sPass) (sSeq (sFor (sRangeLen (mV 0)) (gmName 3) (sIf (mNot (mT (mApp (C .match) (mCons (mB opIx (mV 0) (mV 3)) (mCons (mB opIx (mV 1) (mV 3)) (mCons (mV 2) mNil)))))) (sRet (mC .non)) sPass)) (sRet (mV 2))))))
noncomputable def b__law_cell (C : Cs) (CE : CsE) : Sm :=
  (sSeq (sIf (mT (mB opLt (mV 1) (mApp cLen (mCons (mV 0) mNil)))) (sRet (mB opMod (mB opMul (mB opIx (mV 0) (mV 1)) (mC (.int 48271))) (mC (.int 2147483647)))) sPass) (sRet (mC (.int 0))))
noncomputable def b__law_next (C : Cs) (CE : CsE) : Sm :=
  (sSeq (sAsg (mB opMod (mB opAdd (mB opMul (mB opIx (mV 0) (mC (.int 0))) (mC (.int 48271))) (mC (.int 11))) (mC (.int 2147483647))) (gmSub (mV 0) (mC (.int 0)) opSet)) (sSeq (sAsg (mB opSub (mB opIx (mV 0) (mC (.int 1))) (mC (.int 1))) (gmSub (mV 0) (mC (.int 1)) opSet)) (sRet (mB opDiv (mB opIx (mV 0) (mC (.int 0))) (mC (.int 7))))))
noncomputable def b__law_labels (C : Cs) (CE : CsE) : Sm :=
  (sSeq (sAsg (mC (.str "abcdefghijklmnopqrstuvwxyz")) (gmName 2)) (sSeq (sAsg (mB opMod (mV 0) (mC (.int 7))) (gmName 3)) (sSeq (sAsg (mB opMod (mB opDiv (mV 0) (mC (.int 7))) (mB opAdd (mV 3) (mC (.int 1)))) (gmName 4)) (sSeq (sAsg (mB opMod (mB opDiv (mV 0) (mC (.int 49))) (mC (.int 26))) (gmName 5)) (sSeq (sAsg (mJoin (mC (.str "")) (mComp (sRange1 (mV 3)) (gmName 7) mYes (mB opIx (mV 2) (mB opMod (mB opAdd (mV 5) (mB opMul (mB opDiv (mV 0) (mC (.int 1274))) (mV 7))) (mC (.int 26)))) [7])) (gmName 6)) (sSeq (sAsg (mApp newRef mNil) (gmName 8)) (sSeq (sFor (sRange1 (mV 1)) (gmName 7) (sSeq (sAsg (mB opIx (mV 2) (mB opMod (mB opAdd (mB opDiv (mV 0) (mC (.int 49))) (mB opMul (mC (.int 3)) (mV 7))) (mC (.int 26)))) (gmName 9)) (sExpr (mMt isLst cAppend (mV 8) (mCons (mB opAdd (mB opAdd (mSl opSl (mV 6) mNo (mPt (mV 4))) (mV 9)) (mSl opSl (mV 6) (mPt (mV 4)) mNo)) mNil))))) (sRet (mV 8)))))))))
noncomputable def b__law_kind (C : Cs) (CE : CsE) : Sm :=
  (sSeq (sAsg (mApp (C ._law_next) (mCons (mV 0) mNil)) (gmName 4)) (sSeq (sIf (mOr (mT (mB opLe (mV 3) (mC (.int 1)))) (mOr (mT (mB opLe (mB opIx (mV 0) (mC (.int 1))) (mC (.int 0)))) (mT (mB opLt (mB opMod (mV 4) (mC (.int 7))) (mC (.int 2)))))) (sRet (mApp newTup (mCons (mC (.str "number")) mNil))) sPass) (sSeq (sIf (mT (mB opEq (mB opMod (mV 4) (mC (.int 7))) (mC (.int 2)))) (sRet (mApp newTup (mCons (mC (.str "blank")) (mCons (mB opMul (mB opMul (mB opIx (mV 2) (mC (.int 0))) (mC (.int 2))) (mB opMod (mB opDiv (mV 4) (mC (.int 7))) (mC (.int 3)))) mNil)))) sPass) (sSeq (sAsg (mSl opSl (mApp newLst (mCons (mB opIx (mV 1) (mB opMod (mB opDiv (mV 4) (mC (.int 7))) (mC (.int 4)))) (mCons (mB opIx (mV 1) (mB opMod (mB opDiv (mV 4) (mC (.int 28))) (mC (.int 4)))) (mCons (mB opIx (mV 1) (mB opMod (mB opDiv (mV 4) (mC (.int 112))) (mC (.int 4)))) mNil)))) mNo (mPt (mB opMod (mB opDiv (mV 4) (mC (.int 448))) (mC (.int 4))))) (gmName 5)) (sSeq (sAsg (mComp (sItems (mApp cSorted (mCons (mV 1) mNil))) (gmName 7) (mT (mB opIn (mV 7) (mV 5))) (mV 7) [7]) (gmName 6)) (sSeq (sAsg (mApp cTuple (mCons (mComp (sItems (mV 6)) (gmName 7) mYes (mApp newTup (mCons (mV 7) (mCons (mApp (C ._law_kind) (mCons (mV 0) (mCons (mV 1) (mCons (mV 2) (mCons (mB opSub (mV 3) (mC (.int 1))) mNil))))) mNil))) [7]) mNil)) (gmName 8)) (sSeq (sIf (mT (mB opEq (mB opMod (mB opDiv (mV 4) (mC (.int 1792))) (mC (.int 2))) (mC (.int 0)))) (sRet (mApp newTup (mCons (mC (.str "record")) (mCons (mV 8) (mCons (mC .non) mNil))))) sPass) (sSeq (sIf (mT (mB opNotIn (mV 6) (mB opIx (mV 2) (mC (.int 1))))) (sExpr (mMt isLst cAppend (mB opIx (mV 2) (mC (.int 1))) (mCons (mV 6) mNil))) sPass) (sRet (mApp newTup (mCons (mC (.str "record")) (mCons (mV 8) (mCons (mB opMul (mB opIx (mV 2) (mC (.int 0))) (mB opAdd (mC (.int 1)) (mB opMul (mC (.int 2)) (mMt isLst cIndex (mB opIx (mV 2) (mC (.int 1))) (mCons (mV 6) mNil))))) mNil)))))))))))))
noncomputable def b__law_blanks (C : Cs) (CE : CsE) : Sm :=
  (sSeq (sIf (mT (mB opEq (mB opIx (mV 0) (mC (.int 0))) (mC (.str "blank")))) (sAsg (mC .non) (gmSub (mV 1) (mB opIx (mV 0) (mC (.int 1))) opSet)) sPass) (sSeq (sIf (mT (mB opEq (mB opIx (mV 0) (mC (.int 0))) (mC (.str "record")))) (sSeq (sFor (sItems (mB opIx (mV 0) (mC (.int 1)))) (gmName 2) (sExpr (mApp (C ._law_blanks) (mCons (mB opIx (mV 2) (mC (.int 1))) (mCons (mV 1) mNil))))) (sIf (mT (mB opNotN (mB opIx (mV 0) (mC (.int 2))) (mC .non))) (sAsg (mComp (sItems (mB opIx (mV 0) (mC (.int 1)))) (gmName 2) mYes (mB opIx (mV 2) (mC (.int 0))) [2]) (gmSub (mV 1) (mB opIx (mV 0) (mC (.int 2))) opSet)) sPass)) sPass) (sRet (mV 1))))
noncomputable def b__law_filled (C : Cs) (CE : CsE) : Sm :=
  (sSeq (sIf (mT (mB opEq (mB opIx (mV 0) (mC (.int 0))) (mC (.str "blank")))) (sRet (mD3 kGet (mV 1) (mB opIx (mV 0) (mC (.int 1))) (mV 0))) sPass) (sSeq (sIf (mT (mB opEq (mB opIx (mV 0) (mC (.int 0))) (mC (.str "number")))) (sRet (mV 0)) sPass) (sSeq (sAsg (mComp (sItems (mB opIx (mV 0) (mC (.int 1)))) (gmTup [4, 3]) mYes (mApp newTup (mCons (mV 4) (mCons (mApp (C ._law_filled) (mCons (mV 3) (mCons (mV 1) mNil))) mNil))) [4, 3]) (gmName 2)) (sSeq (sAsg (mB opIx (mV 0) (mC (.int 2))) (gmName 5)) (sSeq (sIf (mAnd (mT (mB opNotN (mV 5) (mC .non))) (mT (mB opIn (mV 5) (mV 1)))) (sSeq (sAsg (mB opAdd (mV 2) (mApp cList (mCons (mB opIx (mB opIx (mV 1) (mV 5)) (mC (.int 0))) mNil))) (gmName 2)) (sAsg (mB opIx (mB opIx (mV 1) (mV 5)) (mC (.int 1))) (gmName 5))) sPass) (sSeq (sAsg (mApp cDictR (mCons (mV 2) mNil)) (gmName 6)) (sRet (mApp newTup (mCons (mC (.str "record")) (mCons (mApp cTuple (mCons (mComp (sItems (mApp cSorted (mCons (mApp cListK (mCons (mV 6) mNil)) mNil))) (gmName 4) mYes (mApp newTup (mCons (mV 4) (mCons (mB opIx (mV 6) (mV 4)) mNil))) [4]) mNil)) (mCons (mV 5) mNil)))))))))))
noncomputable def b__law_end (C : Cs) (CE : CsE) : Sm :=
  (sSeq (sIf (mT (mB opEq (mB opMod (mApp (C ._law_next) (mCons (mV 0) mNil)) (mC (.int 2))) (mC (.int 0)))) (sRet (mC .non)) sPass) (sSeq (sIf (mT (mB opNotIn (mApp cSorted (mCons (mV 2) mNil)) (mV 1))) (sExpr (mMt isLst cAppend (mV 1) (mCons (mApp cSorted (mCons (mV 2) mNil)) mNil))) sPass) (sRet (mB opAdd (mC (.int 2000003)) (mB opMul (mC (.int 2)) (mMt isLst cIndex (mV 1) (mCons (mApp cSorted (mCons (mV 2) mNil)) mNil)))))))
noncomputable def b__law_flat (C : Cs) (CE : CsE) : Sm :=
  (sSeq (sAsg (mComp (sItems (mApp cSorted (mCons (mB opAdd (mV 1) (mApp newLst (mCons (mC (.str "zzzzzzzz")) mNil))) mNil))) (gmName 5) (mOr (mT (mB opIsN (mV 2) (mC .non))) (mT (mB opNotIn (mV 5) (mV 2)))) (mV 5) [5]) (gmName 4)) (sSeq (sAsg (mApp cTuple (mCons (mComp (sItems (mV 4)) (gmName 5) (mT (mB opEq (mB opMod (mApp (C ._law_next) (mCons (mV 0) mNil)) (mC (.int 3))) (mC (.int 0)))) (mApp newTup (mCons (mV 5) (mCons (mApp newTup (mCons (mC (.str "number")) mNil)) mNil))) [5]) mNil)) (gmName 6)) (sSeq (sAsg (mComp (sItems (mV 6)) (gmTup [5, 8]) mYes (mV 5) [5, 8]) (gmName 7)) (sSeq (sIf (mT (mB opNotN (mV 2) (mC .non))) (sRet (mApp newTup (mCons (mV 6) (mCons (mApp (C ._law_end) (mCons (mV 0) (mCons (mV 3) (mCons (mB opAdd (mV 2) (mV 7)) mNil)))) mNil)))) sPass) (sSeq (sAsg (mApp (C ._law_next) (mCons (mV 0) mNil)) (gmName 9)) (sSeq (sIf (mT (mB opEq (mB opMod (mV 9) (mC (.int 3))) (mC (.int 0)))) (sRet (mIfE (mT (mB opEq (mB opMod (mB opDiv (mV 9) (mC (.int 3))) (mC (.int 2))) (mC (.int 0)))) (mApp newTup (mCons (mC (.str "number")) mNil)) (mApp newTup (mCons (mC (.str "blank")) (mCons (mB opMul (mB opMod (mB opDiv (mV 9) (mC (.int 6))) (mC (.int 3))) (mC (.int 1000000))) mNil))))) sPass) (sRet (mApp newTup (mCons (mC (.str "record")) (mCons (mV 6) (mCons (mApp (C ._law_end) (mCons (mV 0) (mCons (mV 3) (mCons (mV 7) mNil)))) mNil)))))))))))
noncomputable def b__law_match (C : Cs) (CE : CsE) : Sm :=
  (sSeq (sIf (mT (mB opEq (mB opIx (mV 0) (mC (.int 0))) (mC (.str "blank")))) (sRet (mB opEq (mD3 kSetd (mV 2) (mB opIx (mV 0) (mC (.int 1))) (mV 1)) (mV 1))) sPass) (sSeq (sIf (mOr (mT (mB opNe (mB opIx (mV 0) (mC (.int 0))) (mB opIx (mV 1) (mC (.int 0))))) (mT (mB opEq (mB opIx (mV 0) (mC (.int 0))) (mC (.str "number"))))) (sRet (mB opEq (mV 0) (mV 1))) sPass) (sSeq (sAsg (mApp cDict (mCons (mB opIx (mV 1) (mC (.int 1))) mNil)) (gmName 3)) (sSeq (sFor (sItems (mB opIx (mV 0) (mC (.int 1)))) (gmTup [4, 5]) (sIf (mOr (mT (mB opNotIn (mV 4) (mV 3))) (mNot (mT (mApp (C ._law_match) (mCons (mV 5) (mCons (mB opIx (mV 3) (mV 4)) (mCons (mV 2) mNil))))))) (sRet (mC (.bl false))) sPass)) (sSeq (sAsg (mApp cDict (mCons (mB opIx (mV 0) (mC (.int 1))) mNil)) (gmName 6)) (sSeq (sAsg (mApp newTup (mCons (mApp cTuple (mCons (mComp (sItems (mB opIx (mV 1) (mC (.int 1)))) (gmName 8) (mT (mB opNotIn (mB opIx (mV 8) (mC (.int 0))) (mV 6))) (mV 8) [8]) mNil)) (mCons (mB opIx (mV 1) (mC (.int 2))) mNil))) (gmName 7)) (sSeq (sIf (mT (mB opIsN (mB opIx (mV 0) (mC (.int 2))) (mC .non))) (sRet (mB opEq (mV 7) (mApp newTup (mCons (mApp newTup mNil) (mCons (mC .non) mNil))))) sPass) (sRet (mB opEq (mD3 kSetd (mV 2) (mB opIx (mV 0) (mC (.int 2))) (mV 7)) (mV 7))))))))))
noncomputable def b__law_bent (C : Cs) (CE : CsE) : Sm :=
  (sSeq (sIf (mOr (mT (mB opNe (mB opIx (mV 0) (mC (.int 0))) (mC (.str "record")))) (mT (mB opEq (mB opMod (mV 1) (mC (.int 5))) (mC (.int 0))))) (sSeq (sAsg (mApp newLst (mCons (mApp newTup (mCons (mC (.str "number")) mNil)) (mCons (mApp newTup (mCons (mC (.str "record")) (mCons (mApp newTup mNil) (mCons (mC .non) mNil)))) (mCons (mApp newTup (mCons (mC (.str "blank")) (mCons (mC (.int 3)) mNil))) mNil)))) (gmName 3)) (sRet (mB opIx (mB opAdd (mV 3) (mApp newLst (mCons (mApp newTup (mCons (mC (.str "record")) (mCons (mApp newTup (mCons (mApp newTup (mCons (mB opIx (mV 2) (mC (.int 0))) (mCons (mApp newTup (mCons (mC (.str "number")) mNil)) mNil))) mNil)) (mCons (mC .non) mNil)))) mNil))) (mB opMod (mB opDiv (mV 1) (mC (.int 5))) (mC (.int 4)))))) sPass) (sSeq (sIf (mT (mB opEq (mB opMod (mV 1) (mC (.int 5))) (mC (.int 2)))) (sRet (mApp newTup (mCons (mC (.str "record")) (mCons (mB opIx (mV 0) (mC (.int 1))) (mCons (mIfE (mT (mB opIsN (mB opIx (mV 0) (mC (.int 2))) (mC .non))) (mC (.int 9999999)) (mC .non)) mNil))))) sPass) (sSeq (sIf (mOr (mT (mB opEq (mB opIx (mV 0) (mC (.int 1))) (mApp newTup mNil))) (mT (mB opEq (mB opMod (mV 1) (mC (.int 5))) (mC (.int 1))))) (sSeq (sAsg (mComp (sItems (mB opIx (mV 0) (mC (.int 1)))) (gmName 5) (mT (mB opNe (mB opIx (mV 5) (mC (.int 0))) (mB opIx (mV 2) (mB opMod (mB opDiv (mV 1) (mC (.int 5))) (mC (.int 4)))))) (mV 5) [5]) (gmName 4)) (sSeq (sIf (mT (mB opEq (mApp cLen (mCons (mV 4) mNil)) (mApp cLen (mCons (mB opIx (mV 0) (mC (.int 1))) mNil)))) (sAsg (mApp cSortedF (mCons (mB opAdd (mV 4) (mApp newLst (mCons (mApp newTup (mCons (mB opIx (mV 2) (mB opMod (mB opDiv (mV 1) (mC (.int 5))) (mC (.int 4)))) (mCons (mApp newTup (mCons (mC (.str "number")) mNil)) mNil))) mNil))) mNil)) (gmName 4)) sPass) (sRet (mApp newTup (mCons (mC (.str "record")) (mCons (mApp cTuple (mCons (mV 4) mNil)) (mCons (mC .non) mNil))))))) sPass) (sSeq (sAsg (mB opMod (mB opDiv (mV 1) (mC (.int 5))) (mApp cLen (mCons (mB opIx (mV 0) (mC (.int 1))) mNil))) (gmName 6)) (sSeq (sAsg (mApp newTup (mCons (mB opIx (mB opIx (mB opIx (mV 0) (mC (.int 1))) (mV 6)) (mC (.int 0))) (mCons (mApp (C ._law_bent) (mCons (mB opIx (mB opIx (mB opIx (mV 0) (mC (.int 1))) (mV 6)) (mC (.int 1))) (mCons (mB opDiv (mV 1) (mC (.int 20))) (mCons (mV 2) mNil)))) mNil))) (gmName 7)) (sRet (mApp newTup (mCons (mC (.str "record")) (mCons (mB opAdd (mB opAdd (mSl opSl (mB opIx (mV 0) (mC (.int 1))) mNo (mPt (mV 6))) (mApp newTup (mCons (mV 7) mNil))) (mSl opSl (mB opIx (mV 0) (mC (.int 1))) (mPt (mB opAdd (mV 6) (mC (.int 1)))) mNo)) (mCons (mB opIx (mV 0) (mC (.int 2))) mNil))))))))))
noncomputable def b__law_knots (C : Cs) (CE : CsE) : Sm :=
  (sSeq (sIf (mT (mB opNe (mB opIx (mV 0) (mC (.int 0))) (mC (.str "record")))) (sRet (mC (.int 1))) sPass) (sRet (mB opAdd (mC (.int 1)) (mApp cSum (mCons (mComp (sItems (mB opIx (mV 0) (mC (.int 1)))) (gmName 1) mYes (mApp (C ._law_knots) (mCons (mB opIx (mV 1) (mC (.int 1))) mNil)) [1]) mNil)))))
noncomputable def b__law_kinds (C : Cs) (CE : CsE) : Sm :=
  (sSeq (sAsg (mApp newRef mNil) (gmName 3)) (sSeq (sFor (sRange1 (mB opAdd (mC (.int 1)) (mB opMod (mApp (C ._law_cell) (mCons (mV 0) (mCons (mC (.int 1)) mNil))) (mC (.int 3))))) (gmName 4) (sSeq (sAsg (mApp newRef (mCons (mB opAdd (mC (.int 1)) (mB opMod (mApp (C ._law_cell) (mCons (mV 0) (mCons (mB opAdd (mC (.int 4)) (mB opMul (mC (.int 2)) (mV 4))) mNil))) (mC (.int 2147483645)))) (mCons (mB opAdd (mC (.int 4)) (mB opMod (mApp (C ._law_cell) (mCons (mV 0) (mCons (mB opAdd (mC (.int 5)) (mB opMul (mC (.int 2)) (mV 4))) mNil))) (mC (.int 16)))) mNil))) (gmName 5)) (sExpr (mMt isLst cAppend (mV 3) (mCons (mApp (C ._law_kind) (mCons (mV 5) (mCons (mV 1) (mCons (mV 2) (mCons (mB opAdd (mC (.int 2)) (mB opMod (mB opDiv (mApp (C ._law_cell) (mCons (mV 0) (mCons (mB opAdd (mC (.int 5)) (mB opMul (mC (.int 2)) (mV 4))) mNil))) (mC (.int 16))) (mC (.int 4)))) mNil))))) mNil))))) (sRet (mV 3))))
noncomputable def b__law_refused (C : Cs) (CE : CsE) : Sm :=
  (sSeq (sTryAs 2 okX (sExpr (mApp (C .fits) (mCons (mV 0) (mCons (mV 1) mNil)))) (fun a y => (sRet (mAndV (mU (opIsE a (isx y "BadKind")) (mV 2)) (mApp (CE ._law_lone a y) (mCons (mV 2) mNil)))))) (sRet (mC (.bl false))))
noncomputable def b__law_big (C : Cs) (CE : CsE) : Sm :=
  (sSeq (sAsg (mC (.str "abcdefghij")) (gmName 0)) (sSeq (sAsg (mComp (sRange1 (mC (.int 100))) (gmName 2) mYes (mB opAdd (mB opIx (mV 0) (mB opDiv (mV 2) (mC (.int 10)))) (mB opIx (mV 0) (mB opMod (mV 2) (mC (.int 10))))) [2]) (gmName 1)) (sSeq (sAsg (mApp newTup (mCons (mC (.str "record")) (mCons (mApp cTuple (mCons (mComp (sItems (mV 1)) (gmName 4) mYes (mApp newTup (mCons (mV 4) (mCons (mApp newTup (mCons (mC (.str "number")) mNil)) mNil))) [4]) mNil)) (mCons (mC .non) mNil)))) (gmName 3)) (sSeq (sIf (mOr (mNot (mT (mApp (C ._law_refused) (mCons (mApp newLst (mCons (mV 3) (mCons (mV 3) mNil))) (mCons (mApp newLst (mCons (mV 3) (mCons (mV 3) mNil))) mNil))))) (mNot (mT (mApp (C ._law_refused) (mCons (mApp newLst (mCons (mApp newTup (mCons (mC (.str "blank")) (mCons (mC (.int 0)) mNil))) mNil)) (mCons (mApp newLst (mCons (mV 3) (mCons (mV 3) mNil))) mNil)))))) (sRet (mC (.bl false))) sPass) (sRet (mB opEqK (mApp (C .fits) (mCons (mApp newLst (mCons (mV 3) mNil)) (mCons (mApp newLst (mCons (mV 3) mNil)) mNil))) mNewK))))))
noncomputable def b__law_agrees (C : Cs) (CE : CsE) : Sm :=
  (sSeq (sAsg (mApp newLst (mCons (mApp cListR (mCons (mV 0) mNil)) (mCons (mApp cList (mCons (mV 1) mNil)) mNil))) (gmName 3)) (sSeq (sAsg (mApp (C .fits) (mCons (mB opIx (mV 3) (mC (.int 0))) (mCons (mB opIx (mV 3) (mC (.int 1))) mNil))) (gmName 4)) (sSeq (sIf (mOr (mT (mB opNe (mV 3) (mApp newLst (mCons (mV 0) (mCons (mV 1) mNil))))) (mOr (mT (mB opNeK (mV 4) (mV 2))) (mT (mB opNe (mU (opIsi "dict") (mV 4)) (mU (opIsi "dict") (mV 2)))))) (sRet (mC (.bl false))) sPass) (sSeq (sIf (mT (mB opIsN (mV 4) (mC .non))) (sRet (mC (.bl true))) sPass) (sSeq (sIf (mT (mB opNe (mComp (sItems (mV 0)) (gmName 5) mYes (mApp (C .filled) (mCons (mV 5) (mCons (mV 4) mNil))) [5]) (mV 1))) (sRet (mC (.bl false))) sPass) (sSeq (sAsg (mC (.str "more")) (gmSub (mV 4) (mU opNeg (mC (.int 1))) opSet)) (sSeq (sExpr (mLClear (mB opIx (mV 3) (mC (.int 0))))) (sRet (mB opEqK (mApp (C .fits) (mCons (mV 0) (mCons (mApp cTuple (mCons (mV 1) mNil)) mNil))) (mV 2))))))))))
noncomputable def b_law (C : Cs) (CE : CsE) : Sm :=
  (sSeq (sAsg (mApp (C ._law_labels) (mCons (mApp (C ._law_cell) (mCons (mV 0) (mCons (mC (.int 2)) mNil))) (mCons (mC (.int 4)) mNil))) (gmName 1)) (sSeq (sAsg (mApp newLst (mCons (mB opAdd (mC (.int 1)) (mB opMod (mApp (C ._law_cell) (mCons (mV 0) (mCons (mC (.int 3)) mNil))) (mB opPow (mC (.int 10)) (mC (.int 6))))) (mCons (mApp newRef mNil) mNil))) (gmName 2)) (sSeq (sAsg (mApp (C ._law_kinds) (mCons (mV 0) (mCons (mV 1) (mCons (mV 2) mNil)))) (gmName 3)) (sSeq (sAsg (mApp newRef (mCons (mB opAdd (mC (.int 1)) (mB opMod (mApp (C ._law_cell) (mCons (mV 0) (mCons (mC (.int 0)) mNil))) (mC (.int 2147483645)))) (mCons (mC (.int 20)) mNil))) (gmName 4)) (sSeq (sAsg mNewK (gmName 5)) (sSeq (sAsg (mApp newRef mNil) (gmName 6)) (sSeq (sAsg mNewK (gmName 7)) (sSeq (sFor (sItems (mV 3)) (gmName 8) (sExpr (mApp (C ._law_blanks) (mCons (mV 8) (mCons (mV 7) mNil))))) (sSeq (sAsg (mB opDiv (mApp (C ._law_cell) (mCons (mV 0) (mCons (mC (.int 1)) mNil))) (mC (.int 3))) (gmName 9)) (sSeq (lockS 7 (sFor (sKeys (mV 7)) (gmName 10) (sAsg (mApp (C ._law_flat) (mCons (mV 4) (mCons (mV 1) (mCons (mB opIx (mV 7) (mV 10)) (mCons (mV 6) mNil))))) (gmSub (mV 5) (mV 10) opSet)))) (sSeq (sAsg (mCompR (sItems (mV 3)) (gmName 8) mYes (mApp (C ._law_filled) (mCons (mV 8) (mCons (mV 5) mNil))) [8]) (gmName 11)) (sSeq (sIf (mT (mB opGt (mApp cSum (mCons (mComp (sItems (mV 11)) (gmName 8) mYes (mApp (C ._law_knots) (mCons (mV 8) mNil)) [8]) mNil)) (mC (.int 95)))) (sRet (mC (.bl true))) sPass) (sSeq (sIf (mT (mB opEq (mB opMod (mB opDiv (mV 9) (mC (.int 2))) (mC (.int 2))) (mC (.int 1)))) (sSeq (sAsg (mB opMod (mB opDiv (mV 9) (mC (.int 4))) (mApp cLen (mCons (mV 11) mNil))) (gmName 12)) (sAsg (mApp (C ._law_bent) (mCons (mB opIx (mV 11) (mV 12)) (mCons (mB opDiv (mV 9) (mC (.int 12))) (mCons (mV 1) mNil)))) (gmSub (mV 11) (mV 12) opSet))) sPass) (sSeq (sIf (mT (mB opEq (mB opMod (mB opDiv (mV 9) (mC (.int 4))) (mC (.int 6))) (mC (.int 5)))) (sSeq (sAsg (mB opIx (mApp newLst (mCons (mB opAdd (mV 11) (mApp newLst (mCons (mApp newTup (mCons (mC (.str "none")) mNil)) mNil))) (mCons (mB opAdd (mV 11) (mApp newLst (mCons (mApp newTup (mCons (mC (.str "blank")) (mCons (mC (.int 1)) mNil))) (mCons (mApp newTup (mCons (mC (.str "record")) (mCons (mApp newTup mNil) (mCons (mC (.int 1)) mNil)))) mNil)))) (mCons (mApp newLst (mCons (mApp newTup (mCons (mC (.str "record")) (mCons (mApp newTup mNil) (mCons (mU opNeg (mC (.int 1))) mNil)))) mNil)) mNil)))) (mB opMod (mB opDiv (mV 9) (mC (.int 24))) (mC (.int 3)))) (gmName 13)) (sRet (mAndV (mApp (C ._law_refused) (mCons (mV 3) (mCons (mV 13) mNil))) (mAndV (mApp (C ._law_refused) (mCons (mV 13) (mCons (mApp cTuple (mCons (mV 3) mNil)) mNil))) (mB opIsN (mApp (C .fits) (mCons (mV 3) (mCons (mB opAdd (mV 11) (mSl opSl (mV 11) mNo (mPt (mC (.int 1))))) mNil))) (mC .non)))))) sPass) (sSeq (sIf (mT (mB opEq (mB opMod (mB opDiv (mV 9) (mC (.int 3))) (mC (.int 3))) (mC (.int 1)))) (sSeq (sAsg (mApp newTup (mCons (mC (.str "record")) (mCons (mApp newTup (mCons (mApp newTup (mCons (mB opIx (mV 1) (mC (.int 0))) (mCons (mApp newTup (mCons (mC (.str "number")) mNil)) mNil))) mNil)) (mCons (mC .non) mNil)))) (gmName 14)) (sSeq (sAsg (mB opAdd (mV 3) (mApp newLst (mCons (mV 14) mNil))) (gmName 3)) (sAsg (mB opAdd (mV 11) (mApp newLst (mCons (mB opIx (mApp newLst (mCons (mV 14) (mCons (mB opAdd (mSl opSl (mV 14) mNo (mPt (mC (.int 2)))) (mApp newTup (mCons (mC (.int 8888889)) mNil))) mNil))) (mB opMod (mB opDiv (mV 9) (mC (.int 9))) (mC (.int 2)))) mNil))) (gmName 11)))) sPass) (sSeq (sIf (mT (mB opEq (mB opMod (mB opDiv (mV 9) (mC (.int 3))) (mC (.int 3))) (mC (.int 2)))) (sSeq (sAsg (mApp cSorted (mCons (mSl opSl (mV 1) mNo (mPt (mC (.int 2)))) mNil)) (gmUnp [15, 16])) (sSeq (sAsg (mApp newTup (mCons (mC (.str "blank")) (mCons (mB opMul (mB opIx (mV 2) (mC (.int 0))) (mC (.int 4))) mNil))) (gmName 17)) (sSeq (sAsg (mB opAdd (mV 3) (mApp newLst (mCons (mApp newTup (mCons (mC (.str "record")) (mCons (mApp newTup (mCons (mApp newTup (mCons (mV 15) (mCons (mV 17) mNil))) (mCons (mApp newTup (mCons (mV 16) (mCons (mV 17) mNil))) mNil))) (mCons (mC .non) mNil)))) mNil))) (gmName 3)) (sSeq (sAsg (mB opIx (mApp newLst (mCons (mApp newTup (mCons (mC (.str "number")) mNil)) (mCons (mApp newTup (mCons (mC (.str "record")) (mCons (mApp newTup mNil) (mCons (mC .non) mNil)))) mNil))) (mB opMod (mB opDiv (mV 9) (mC (.int 9))) (mC (.int 2)))) (gmName 18)) (sAsg (mB opAdd (mV 11) (mApp newLst (mCons (mApp newTup (mCons (mC (.str "record")) (mCons (mApp newTup (mCons (mApp newTup (mCons (mV 15) (mCons (mApp newTup (mCons (mC (.str "number")) mNil)) mNil))) (mCons (mApp newTup (mCons (mV 16) (mCons (mV 18) mNil))) mNil))) (mCons (mC .non) mNil)))) mNil))) (gmName 11)))))) sPass) (sSeq (sAsg mNewK (gmName 19)) (sSeq (sFor (sRangeLen (mV 3)) (gmName 20) (sIf (mAnd (mT (mB opNotN (mV 19) (mC .non))) (mNot (mT (mApp (C ._law_match) (mCons (mB opIx (mV 3) (mV 20)) (mCons (mB opIx (mV 11) (mV 20)) (mCons (mV 19) mNil))))))) (sAsg (mC .non) (gmName 19)) sPass)) (sRet (mAndV (mApp (C ._law_agrees) (mCons (mV 3) (mCons (mV 11) (mCons (mV 19) mNil)))) (mApp (C ._law_big) mNil)))))))))))))))))))))
noncomputable def body (C : Cs) (CE : CsE) : Fn → Sm
  | .is_whole => b_is_whole C CE
  | .is_word => b_is_word C CE
  | .is_pair => b_is_pair C CE
  | .is_rest => b_is_rest C CE
  | .is_row => b_is_row C CE
  | .is_kind_in => b_is_kind_in C CE
  | .knots => b_knots C CE
  | .depth => b_depth C CE
  | .blanks_in => b_blanks_in C CE
  | .put_blank => b_put_blank C CE
  | .is_kind => b_is_kind C CE
  | .are_kinds => b_are_kinds C CE
  | .need_kind => b_need_kind C CE
  | .fill => b_fill C CE
  | .is_fill => b_is_fill C CE
  | .filled => b_filled C CE
  | .match => b_match C CE
  | .fits => b_fits C CE
  | ._law_cell => b__law_cell C CE
  | ._law_next => b__law_next C CE
  | ._law_labels => b__law_labels C CE
  | ._law_kind => b__law_kind C CE
  | ._law_blanks => b__law_blanks C CE
  | ._law_filled => b__law_filled C CE
  | ._law_end => b__law_end C CE
  | ._law_flat => b__law_flat C CE
  | ._law_match => b__law_match C CE
  | ._law_bent => b__law_bent C CE
  | ._law_knots => b__law_knots C CE
  | ._law_kinds => b__law_kinds C CE
  | ._law_refused => b__law_refused C CE
  | ._law_big => b__law_big C CE
  | ._law_agrees => b__law_agrees C CE
  | .law => b_law C CE
def slots : Fn → Nat
  | .is_whole => 1
  | .is_word => 2
  | .is_pair => 1
  | .is_rest => 1
  | .is_row => 4
  | .is_kind_in => 2
  | .knots => 2
  | .depth => 2
  | .blanks_in => 4
  | .put_blank => 3
  | .is_kind => 1
  | .are_kinds => 3
  | .need_kind => 1
  | .fill => 5
  | .is_fill => 3
  | .filled => 5
  | .match => 7
  | .fits => 4
  | ._law_cell => 2
  | ._law_next => 1
  | ._law_labels => 10
  | ._law_kind => 9
  | ._law_blanks => 3
  | ._law_filled => 7
  | ._law_end => 3
  | ._law_flat => 10
  | ._law_match => 9
  | ._law_bent => 8
  | ._law_knots => 2
  | ._law_kinds => 6
  | ._law_refused => 3
  | ._law_big => 5
  | ._law_agrees => 6
  | .law => 21
def nm : Fn → Str
  | .is_whole => "is_whole"
  | .is_word => "is_word"
  | .is_pair => "is_pair"
  | .is_rest => "is_rest"
  | .is_row => "is_row"
  | .is_kind_in => "is_kind_in"
  | .knots => "knots"
  | .depth => "depth"
  | .blanks_in => "blanks_in"
  | .put_blank => "put_blank"
  | .is_kind => "is_kind"
  | .are_kinds => "are_kinds"
  | .need_kind => "need_kind"
  | .fill => "fill"
  | .is_fill => "is_fill"
  | .filled => "filled"
  | .match => "match"
  | .fits => "fits"
  | ._law_cell => "_law_cell"
  | ._law_next => "_law_next"
  | ._law_labels => "_law_labels"
  | ._law_kind => "_law_kind"
  | ._law_blanks => "_law_blanks"
  | ._law_filled => "_law_filled"
  | ._law_end => "_law_end"
  | ._law_flat => "_law_flat"
  | ._law_match => "_law_match"
  | ._law_bent => "_law_bent"
  | ._law_knots => "_law_knots"
  | ._law_kinds => "_law_kinds"
  | ._law_refused => "_law_refused"
  | ._law_big => "_law_big"
  | ._law_agrees => "_law_agrees"
  | .law => "law"
def ar : Fn → Nat
  | .is_whole => 1
  | .is_word => 1
  | .is_pair => 1
  | .is_rest => 1
  | .is_row => 2
  | .is_kind_in => 2
  | .knots => 1
  | .depth => 1
  | .blanks_in => 2
  | .put_blank => 3
  | .is_kind => 1
  | .are_kinds => 1
  | .need_kind => 1
  | .fill => 2
  | .is_fill => 2
  | .filled => 2
  | .match => 3
  | .fits => 2
  | ._law_cell => 2
  | ._law_next => 1
  | ._law_labels => 2
  | ._law_kind => 4
  | ._law_blanks => 2
  | ._law_filled => 2
  | ._law_end => 3
  | ._law_flat => 4
  | ._law_match => 3
  | ._law_bent => 3
  | ._law_knots => 1
  | ._law_kinds => 3
  | ._law_refused => 2
  | ._law_big => 0
  | ._law_agrees => 3
  | .law => 1
noncomputable def fin : Fn → PM.Fin
  | .is_whole => finRaw
  | .is_word => finRaw
  | .is_pair => finRaw
  | .is_rest => finRaw
  | .is_row => finRaw
  | .is_kind_in => finRaw
  | .knots => finRaw
  | .depth => finRaw
  | .blanks_in => finRaw
  | .put_blank => finRaw
  | .is_kind => (finFrz 0)
  | .are_kinds => (finFrz 0)
  | .need_kind => finRaw
  | .fill => finRaw
  | .is_fill => finRaw
  | .filled => (finFrz 0)
  | .match => finRaw
  | .fits => finRaw
  | ._law_cell => finRaw
  | ._law_next => finRaw
  | ._law_labels => (finFrz 1)
  | ._law_kind => finRaw
  | ._law_blanks => finRaw
  | ._law_filled => (finFrz 0)
  | ._law_end => finRaw
  | ._law_flat => finRaw
  | ._law_match => finRaw
  | ._law_bent => finRaw
  | ._law_knots => finRaw
  | ._law_kinds => (finFrz 1)
  | ._law_refused => (finFrz 0)
  | ._law_big => (finFrz 0)
  | ._law_agrees => (finFrz 0)
  | .law => finRaw
/-- what the defs answer, to a depth of calls -/
noncomputable def run : Nat → Cs
  | 0, _ => fun _ _ => .stuck
  | k + 1, f => fun ds S => fin f S (runB (body (run k) (runE k) f) (slots f) ds S)

end K_k04
section
namespace K_k04
open PySem L2 PM
theorem run_succ (k : Nat) (f : Fn) (ds : List D) (S : Sto) : run (k + 1) f ds S = fin f S (runB (body (run k) (runE k) f) (slots f) ds S) := rfl
theorem next_ok {k n : Nat} {S : Sto} {a b : Int} (h : S[n]? = some (.lst [.int a, .int b])) :
    run (k + 1) ._law_next [.ref n] S = .ok (.int ((a * 48271 + 11) % 2147483647 / 7)) (S.set n (.lst [.int ((a * 48271 + 11) % 2147483647), .int (b - 1)])) := by
  have e : ∀ o : MO, (S.set n o)[n]? = some o := fun o => sto_set h
  rw [run_succ]
  simp only [body, fin, slots, runB, b__law_next]
  simp [opIx_ref h, opMul_r, opMod_pos, opDiv_pos, opSet_lst h, opIx_ref (e _), opSet_lst (e _), finRaw]
theorem cell_ok {k : Nat} {S : Sto} {ns : List Int} {j : Nat} : run (k + 1) ._law_cell [.scr (ns.map .int), .int j] S = .ok (.int (cellv ns j)) S := by
  rw [run_succ]
  simp only [body, fin, slots, runB, b__law_cell]
  by_cases h : j < ns.length
  · simp [h, opMul_r, opMod_pos, finRaw, cellv]
  · simp [h, finRaw, cellv]

end K_k04
end
section
namespace K_k04
open PySem L2 PM
theorem labels_ok {k : Nat} {S : Sto} {c : Int} {m : Nat} (h0 : 0 ≤ c) (hm : m ≤ 8) : run (k + 1) ._law_labels [.int c, .int m] S = .ok (.lst ((labs c m).map .str)) S := by
  rw [run_succ]
  simp only [body, fin, slots, runB, b__law_labels]
  have h7 : 0 ≤ c % 7 ∧ c % 7 < 7 := ⟨by omega, by omega⟩
  have hA : 0 ≤ c / 7 % (c % 7 + 1) := Int.emod_nonneg _ (by omega)
  have l1 : limR 0 (c % 7) = true := limR_ok (by omega)
  have l2 : limR 0 (m : Int) = true := limR_ok (by omega)
  simp [opMod_pos, opDiv_pos, l1, l2, show (0 : Int) < c % 7 + 1 by omega, wipeD, rangeD_map]
  rw [comp_map (f := fun (k : Nat) => D.str ⟨#[sg (c / 49 % 26 + c / 1274 * (k : Int))]⟩) (hg := trivial) (h := fun x hx => by
    have hx : x < (c % 7).toNat := by simpa using hx
    refine ⟨_, rfl, rfl, ?_⟩
    have b0 := Int.emod_nonneg (c / 49 + c / 1274 * (x : Int)) (show (26 : Int) ≠ 0 by decide)
    have b1 := Int.emod_lt_of_pos (c / 49 + c / 1274 * (x : Int)) (show (0 : Int) < 26 by decide)
    simp [opDiv_pos, opMul_r (show -18446744073709551616 < (x : Int) ∧ (x : Int) < 18446744073709551616 by omega), opMod_pos, opIx_alpha b0 b1, sg])]
  simp only [R.bind_ok, List.nil_append]
  rw [join_map (fun k : Nat => sg (c / 49 % 26 + c / 1274 * (k : Int))) _ (by simp; omega)]
  have hle : (c / 7 % (c % 7 + 1)).toNat ≤ (⟨(labB c).toArray⟩ : Str).length := by
    have := labA_le h0
    simpa [labA, Str.length] using this
  have hlen : (labB c).length ≤ 7 := by rw [labB_len]; omega
  rw [show (List.range (c % 7).toNat).map (fun k : Nat => sg (c / 49 % 26 + c / 1274 * (k : Int))) = labB c from rfl]
  simp [l2, rangeD_map]
  generalize hL : loopM _ _ _ _ _ = r
  obtain ⟨δ', S', e, ⟨a, b, eδ⟩, eS⟩ := loop_of hL (fun i δ S' => (∃ a b, δ = [some (.int c), some (.int m), some (.str (Str.ofString "abcdefghijklmnopqrstuvwxyz")), some (.int (c % 7)), some (.int (c / 7 % (c % 7 + 1))), some (.int (c / 49 % 26)), some (.str ⟨(labB c).toArray⟩), a, some (.ref S.length), b]) ∧ S' = S ++ [.lst ((labs c i).map .str)])
    ⟨⟨_, _, rfl⟩, by simp [labs]⟩ (fun i x δ S1 hx ⟨⟨a, b, hδ⟩, hS⟩ => by
      rw [List.getElem?_map] at hx
      have hi : i < m := by
        rcases Nat.lt_or_ge i m with h | h
        · exact h
        · rw [List.getElem?_eq_none (by simpa using h)] at hx; cases hx
      rw [List.getElem?_range hi] at hx
      have ex : x = .int (i : Int) := by simpa using hx.symm
      subst hδ hS ex
      have b0 := Int.emod_nonneg (c / 49 + 3 * (i : Int)) (show (26 : Int) ≠ 0 by decide)
      have b1 := Int.emod_lt_of_pos (c / 49 + 3 * (i : Int)) (show (0 : Int) < 26 by decide)
      have hl : ((labs c i).map D.str).length < sizeLine := by rw [List.length_map, labs_len]; exact Nat.lt_of_lt_of_le (by omega) szl
      have z1 : (⟨((labB c).take (c / 7 % (c % 7 + 1)).toNat).toArray⟩ : Str).length + (⟨#[sg (c / 49 + 3 * (i : Int))]⟩ : Str).length ≤ sizeLine := by
        refine Nat.le_trans ?_ szl
        show _ + 1 ≤ _
        simp [Str.length]; omega
      have z2 : (⟨((labB c).take (c / 7 % (c % 7 + 1)).toNat ++ [sg (c / 49 + 3 * (i : Int))]).toArray⟩ : Str).length + (⟨((labB c).drop (c / 7 % (c % 7 + 1)).toNat).toArray⟩ : Str).length ≤ sizeLine := by
        refine Nat.le_trans ?_ szl
        simp [Str.length]; omega
      refine ⟨_, _, .inl ?_, ⟨some (.int i), some (.str ⟨#[sg (c / 49 + 3 * (i : Int))]⟩), rfl⟩, rfl⟩
      have hs : (⟨#[97 + ((c / 49 + 3 * (i : Int)) % 26).toNat]⟩ : Str) = ⟨#[sg (c / 49 + 3 * (i : Int))]⟩ := rfl
      have e1 : (⟨((labB c).take (c / 7 % (c % 7 + 1)).toNat).toArray⟩ : Str) ++ ⟨#[sg (c / 49 + 3 * (i : Int))]⟩ = ⟨((labB c).take (c / 7 % (c % 7 + 1)).toNat ++ [sg (c / 49 + 3 * (i : Int))]).toArray⟩ := str_app _ [sg (c / 49 + 3 * (i : Int))]
      have e2 := str_app ((labB c).take (c / 7 % (c % 7 + 1)).toNat ++ [sg (c / 49 + 3 * (i : Int))]) ((labB c).drop (c / 7 % (c % 7 + 1)).toNat)
      simp [loopB_eq, opDiv_pos, opMul_l, opMod_pos, opIx_alpha b0 b1, isLst_ref, cutS_to hA hle, cutS_from hA hle, hs]
      rw [opAdd_str z1, e1]
      simp only [R.bind_ok]
      rw [opAdd_str z2, e2]
      simp only [R.bind_ok]
      rw [cAppend_ref sto_snoc hl]
      simp
      rw [labs, labs, List.range_succ]
      simp [lab, labL, labA])
  subst e eδ eS
  simp
  exact finFrz_ref (Nat.le_refl _) sto_snoc (cls_map fun _ _ => rfl)

end K_k04
end
section
namespace K_k04
open PySem L2 PM
theorem whole_ok {k n : Nat} {S : Sto} {d : D} (h : th n d = true) : run (k + 1) .is_whole [d] S = .ok (.bl (isWholeD d)) S := by
  rw [run_succ]
  simp only [body, fin, slots, runB, b_is_whole]
  cases d <;> first
    | (cases n <;> cases h; done)
    | simp [finRaw, isWholeD]
theorem word_ok {k n : Nat} {S : Sto} {d : D} (h : th n d = true) : run (k + 1) .is_word [d] S = .ok (.bl (isWordD d)) S := by
  rw [run_succ]
  simp only [body, fin, slots, runB, b_is_word]
  cases d with
  | str s =>
    simp [wipeD]
    by_cases h1 : 1 ≤ s.length
    · have h1' : (1 : Int) ≤ (s.length : Int) := by omega
      by_cases h2 : s.length ≤ 8
      · have h2' : (s.length : Int) ≤ 8 := by omega
        simp [h1', h2']
        rw [comp_map (i := fun c : Nat => D.str ⟨#[c]⟩) (f := fun c => .bl (decide (c ∈ alphaS.cps.toList))) (hg := trivial) (h := fun c _ => ⟨_, rfl, rfl, by simp [opIn_sign, alphaS]⟩)]
        simp [cAll_map, finRaw, isWordD, h1, h2, azS]
      · have h2' : ¬ (s.length : Int) ≤ 8 := by omega
        simp [h1', h2', finRaw, isWordD, h1, h2]
    · have h1' : ¬ (1 : Int) ≤ (s.length : Int) := by omega
      simp [h1', finRaw, isWordD, h1]
  | _ => first
    | (cases n <;> cases h; done)
    | simp [finRaw, isWordD]
theorem rest_ok {k n : Nat} {S : Sto} {d : D} (h : th n d = true) : run (k + 2) .is_rest [d] S = .ok (.bl (isRestD d)) S := by
  have hw := whole_ok (k := k) (S := S) h
  rw [run_succ]
  simp only [body, fin, slots, runB, b_is_rest]
  cases d <;> first
    | (cases n <;> cases h; done)
    | simp [finRaw, isRestD, isNon, hw, isWholeD]
theorem pair_ok {k n : Nat} {S : Sto} {d : D} (h : th n d = true) : run (k + 2) .is_pair [d] S = .ok (.bl (isPairD d)) S := by
  rw [run_succ]
  simp only [body, fin, slots, runB, b_is_pair]
  cases d with
  | tup ds =>
    cases n with
    | zero => cases h
    | succ n =>
    match ds, h with
    | [], _ => simp [finRaw, isPairD]
    | [a], _ => simp [finRaw, isPairD]
    | [a, b], h =>
      have ha : th n a = true := by simp [th] at h; exact h.1
      simp [finRaw, isPairD, word_ok (k := k) ha]
    | a :: b :: c :: r, _ =>
      have : ¬ ((r.length : Int) + 1 + 1 + 1 = 2) := by omega
      simp [finRaw, isPairD, this]
  | _ => first
    | (cases n <;> cases h; done)
    | simp [finRaw, isPairD]

end K_k04
end
section
namespace K_k04
open PySem L2 PM
theorem row_ok {k n m : Nat} {S : Sto} {d : D} (hd : th (m + 1) d = true) (hC : ∀ x, th m x = true → run (k + 2) .is_kind_in [x, .int n] S = .ok (.bl (kindIn n x)) S) :
    run (k + 3) .is_row [d, .int n] S = .ok (.bl (rowIn (kindIn n) d)) S := by
  rw [run_succ]
  simp only [body, fin, slots, runB, b_is_row]
  cases d with
  | tup ps =>
    have hps : ∀ p ∈ ps, th m p = true := by
      simp only [th, Bool.and_eq_true, List.all_eq_true] at hd
      exact hd.2
    have hlen : ps.length ≤ 1000 := by
      simp only [th, Bool.and_eq_true, decide_eq_true_eq] at hd
      exact hd.1
    simp [wipeD]
    have e1 := comp_pure (grd := fun _ => True) (g := gmName 2) (t := mYes) (e := mApp (run (k + 2) .is_pair) (mCons (mV 2) mNil)) (δ := [some (.tup ps), some (.int n), none, none]) (S := S) (fun p => .bl (isPairD p)) trivial ps [] fun p hp => ⟨_, rfl, rfl, by simp [pair_ok (k := k) (hps p hp)]⟩
    obtain ⟨b1, hb1⟩ : ∃ b, b = ps.all isPairD := ⟨_, rfl⟩
    have hA : ∀ S, cAll [.lst (ps.map fun p => .bl (isPairD p))] S = .ok (.bl b1) S := fun S => by rw [cAll_map, hb1]
    rw [e1]
    simp [hA]
    cases b1 with
    | false => simp [finRaw, rowIn, ← hb1]
    | true =>
      have c1 := hb1.symm
      have hpr : ∀ p ∈ ps, ∃ s b, p = .tup [.str s, b] ∧ IsLab s := fun p hp => pair_is (List.all_eq_true.mp c1 p hp)
      have e2 := comp_pure (grd := fun _ => True) (g := gmName 2) (t := mYes) (e := mB opIx (mV 2) (mC (.int 0))) (δ := [some (.tup ps), some (.int n), none, none]) (S := S) (fun p => .str (labD p)) trivial ps [] fun p hp => by
        obtain ⟨s, b, e, _⟩ := hpr p hp
        subst e
        exact ⟨_, rfl, rfl, by simp [labD]⟩
      have hw : WOk (ps.map labD) := fun x hx => by
        obtain ⟨p, hp, e⟩ := List.mem_map.mp hx
        obtain ⟨s, b, e2, h⟩ := hpr p hp
        subst e e2
        exact h
      have e3 : ps.map (fun p => D.str (labD p)) = (ps.map labD).map .str := by rw [List.map_map]; rfl
      rw [e3, List.nil_append] at e2
      have hs : cSorted [.lst ((ps.map labD).map .str)] S = .ok (.lst ((sortStr (ps.map labD)).map .str)) S := by simp only [cSorted, rdL, asL, strsOf_id]
      have hset : mLenSet (mV 3) [some (.tup ps), some (.int n), none, some (.lst ((ps.map labD).map .str))] S = .ok (.int (ndist (ps.map labD) (ps.map labD).length : Nat)) S := by
        simp only [mLenSet, mV_eq, List.getElem?_cons_succ, List.getElem?_cons_zero, R.bind_ok, rdL, asL, strsOf_id]
        rw [if_pos (by rw [List.length_map]; omega)]
      have hne := opNe_of (eqD_w (S := S) hw (sort_wok hw))
      have hk := comp_pure (grd := fun _ => True) (g := gmName 2) (t := mYes) (e := mApp (run (k + 2) .is_kind_in) (mCons (mB opIx (mV 2) (mC (.int 1))) (mCons (mV 1) mNil))) (δ := [some (.tup ps), some (.int n), none, some (.lst ((ps.map labD).map .str))]) (S := S) (fun p => .bl (kindIn n (sndD p))) trivial ps [] fun p hp => by
        obtain ⟨s, b, e, _⟩ := hpr p hp
        have ht := hps p hp
        subst e
        have hb : th m b = true := (th_pair ht).2
        exact ⟨_, rfl, rfl, by simp [sndD, hC b hb]⟩
      obtain ⟨b2, hb2⟩ : ∃ b, b = ps.all fun p => kindIn n (sndD p) := ⟨_, rfl⟩
      have hA2 : ∀ S, cAll [.lst (ps.map fun p => .bl (kindIn n (sndD p)))] S = .ok (.bl b2) S := fun S => by rw [cAll_map, hb2]
      rw [List.nil_append] at hk
      generalize hlw : ps.map labD = lw at *
      have hrow : rowIn (kindIn n) (.tup ps) = (ascS lw && b2) := by simp only [rowIn, c1, Bool.true_and, ← hb2, hlw]
      rw [hrow]
      simp [wipeD, e2, hs, hne]
      by_cases d1 : lw = sortStr lw
      · by_cases d2 : ndist lw lw.length = lw.length
        · have d2' : ((ndist lw lw.length : Nat) : Int) = lw.length := by rw [d2]
          simp [← d1, hset, d2', wipeD, hk, hA2, finRaw, ascS, d2]
        · have d2' : ¬ ((ndist lw lw.length : Nat) : Int) = lw.length := by omega
          simp [← d1, hset, d2', finRaw, ascS, d2]
      · simp [d1, finRaw, ascS]
  | _ => first
    | (cases hd; done)
    | simp [finRaw, rowIn]
theorem kindin_ok : ∀ (n : Nat) {m j : Nat} {S : Sto} {d : D}, th m d = true → 2 * n + 4 ≤ j → run j .is_kind_in [d, .int n] S = .ok (.bl (kindIn n d)) S := by
  intro n
  induction n with
  | zero =>
    intro m j S d hd hj
    obtain ⟨j, rfl⟩ : ∃ i, j = i + 1 := ⟨j - 1, by omega⟩
    rw [run_succ]
    simp only [body, fin, slots, runB, b_is_kind_in]
    simp [finRaw, kindIn]
  | succ n ih =>
    intro m j S d hd hj
    obtain ⟨j, rfl⟩ : ∃ i, j = i + 6 := ⟨j - 6, by omega⟩
    have hn : ¬ ((n : Int) + 1 = 0) := by omega
    have ih' : ∀ {S : Sto} {x : D} {m : Nat}, th m x = true → run (j + 4) .is_kind_in [x, .int n] S = .ok (.bl (kindIn n x)) S := fun h => ih h (by omega)
    rw [run_succ]
    simp only [body, fin, slots, runB, b_is_kind_in]
    cases d with
    | tup ds =>
      cases m with
      | zero => cases hd
      | succ m =>
      have hds : ∀ x ∈ ds, th m x = true := by
        simp only [th, Bool.and_eq_true, List.all_eq_true] at hd
        exact hd.2
      cases ds with
      | nil => simp [hn, finRaw, kindIn]
      | cons x r =>
        have hx := hds x (by simp)
        have hlt : ¬ ((r.length : Int) + 1 < 1) := by omega
        cases x with
        | str s =>
          by_cases c1 : s = Str.ofString "number"
          · cases r with
            | nil => simp [hn, c1, finRaw, kindIn]
            | cons y r =>
              have : ¬ ((r.length : Int) + 1 + 1 = 1) := by omega
              have h2 : ¬ ((r.length : Int) + 1 + 1 < 1) := by omega
              simp [hn, c1, finRaw, kindIn, this, h2]
          by_cases c2 : s = Str.ofString "blank"
          · have hk0 : kindIn (n + 1) (.tup (.str s :: r)) = blankIn r := by rw [kindIn, if_neg c1, if_pos c2]
            rw [hk0]
            have c4 : ¬ Str.ofString "blank" = Str.ofString "number" := by rw [← c2]; exact c1
            match r, hds with
            | [], _ => simp [hn, c2, finRaw, blankIn]
            | [y], hds =>
              have hy := hds y (by simp)
              have hw := whole_ok (k := j + 4) (S := S) hy
              cases y <;> first
                | (cases m <;> cases hy; done)
                | simp [hn, c2, finRaw, blankIn, hw, isWholeD]
            | y :: z :: r, _ =>
              have h1 : ¬ ((r.length : Int) + 1 + 1 + 1 = 2) := by omega
              have h2 : ¬ ((r.length : Int) + 1 + 1 + 1 < 1) := by omega
              cases y <;> simp [hn, c2, finRaw, blankIn, h1, h2]
          have hk0 : kindIn (n + 1) (.tup (.str s :: r)) = (decide (s = Str.ofString "record") && recIn (kindIn n) r) := by rw [kindIn, if_neg c1, if_neg c2]
          rw [hk0]
          by_cases c3 : s = Str.ofString "record"
          · match r, hds with
            | [], _ => simp [hn, c3, finRaw, recIn]
            | [y], hds => simp [hn, c3, finRaw, recIn]
            | [y, z], hds =>
              have hy := hds y (by simp)
              have hz := hds z (by simp)
              have hr := rest_ok (k := j + 3) (S := S) hz
              have hw := row_ok (k := j + 2) (n := n) (S := S) (th_mono y (Nat.le_succ m) hy) (fun x hx => ih' hx)
              cases h5 : isRestD z with
              | true => rw [h5] at hr; simp [hn, c3, finRaw, recIn, hr, hw, h5]
              | false => rw [h5] at hr; simp [hn, c3, finRaw, recIn, hr, h5]
            | y :: z :: w :: r, _ =>
              have h1 : ¬ ((r.length : Int) + 1 + 1 + 1 + 1 = 3) := by omega
              have h2 : ¬ ((r.length : Int) + 1 + 1 + 1 + 1 < 1) := by omega
              simp [hn, c3, finRaw, recIn, h1, h2]
          · simp [hn, hlt, c1, c2, c3, finRaw]
        | _ => first
          | (cases m <;> cases hx; done)
          | simp [hn, hlt, finRaw, kindIn]
    | _ => first
      | (cases m <;> cases hd; done)
      | simp [hn, finRaw, kindIn]

end K_k04
end
section
namespace K_k04
open PySem L2 PM
theorem knots_ok : ∀ (n : Nat) {j : Nat} {S : Sto} {k : K}, VK n k → n ≤ j → run j .knots [kd k] S = .ok (.int (kn k : Nat)) S := by
  intro n
  induction n with
  | zero => intro j S k h; cases h
  | succ n ih =>
    intro j S k h hj
    obtain ⟨j, rfl⟩ : ∃ i, j = i + 1 := ⟨j - 1, by omega⟩
    rw [run_succ]
    simp only [body, fin, slots, runB, b_knots]
    cases h with
    | num => simp [kd, finRaw, kn]
    | blk h => simp [kd, finRaw, kn]
    | rc h1 h2 h3 h4 h5 =>
      rename_i ls ks r
      simp [kd, wipeD]
      rw [fld_zipK h1, comp_map (i := fun p : Str × K => .tup [.str p.1, kd p.2]) (f := fun p => .int (kn p.2 : Nat)) (hg := trivial) (h := fun p hp => ⟨_, rfl, rfl, by simp [ih (h4 p.2 (zip_mem hp).2) (show n ≤ j by omega)]⟩)]
      have hs : cSum [.lst ((ls.zip ks).map fun p => D.int ((kn p.2 : Nat) : Int))] S = .ok (.int (kns ks : Nat)) S := by rw [cSum_map, sum_zip h1]
      simp [hs, finRaw, kn]

end K_k04
end
section
namespace K_k04
open PySem L2 PM
theorem put_ok {k q : Nat} {S : Sto} {m : Mp} {n : Int} {l : OL} (h : S[q]? = some (mpO m)) (hm : MpOk m) (hl : ∀ w, l = some w → WOk w) (hz : m.length < 100000) :
    run (k + 1) .put_blank [.ref q, .int n, olD l] S = .ok (.bl (putB m (n, l)).2) (S.set q (mpO (putB m (n, l)).1)) := by
  rw [run_succ]
  simp only [body, fin, slots, runB, b_put_blank]
  have h1 := opNotIn_mp (n := n) h
  cases hk : look m n with
  | none =>
    rw [hk] at h1
    have h2 := opSet_mp (l := l) h hk (Nat.lt_of_lt_of_le (by omega) szl)
    have h3 : (S.set q (mpO (m ++ [(n, l)])))[q]? = some (mpO (m ++ [(n, l)])) := sto_set h
    have h4 : look (m ++ [(n, l)]) n = some l := by
      clear h h1 h2 h3 hm hz
      induction m with
      | nil => simp [look]
      | cons p m ih =>
        simp only [look] at hk
        split at hk
        · cases hk
        · rename_i e
          simp only [List.cons_append, look, if_neg e]
          exact ih hk
    have h5 := opIx_mp h3 h4
    have hp : putB m (n, l) = (m ++ [(n, l)], true) := by simp only [putB, hk]
    have h6 := opEq_of (eqD_ol (S := S.set q (mpO (m ++ [(n, l)]))) hl hl)
    rw [hp]
    simp [h1, h2, h5, h6, finRaw]
  | some l' =>
    rw [hk] at h1
    have h5 := opIx_mp h hk
    have hp : putB m (n, l) = (m, decide (l' = l)) := by simp only [putB, hk]
    have h6 := opEq_of (eqD_ol (S := S) (fun w e => hm _ (look_mem hk) w e) hl)
    rw [hp, set_get h]
    simp [h1, h5, h6, finRaw]

end K_k04
end
section
namespace K_k04
open PySem L2 PM
theorem bl_loop {C : Cs} {q : Nat} {k0 : Option D} : ∀ {ls : List Str} {ks : List K} {S : Sto} {m : Mp} {g : Bool} {x3 : Option D}, ls.length = ks.length → S[q]? = some (mpO m) → MpOk m → MpOk (occs ks) → m.length + (occs ks).length ≤ 1000 →
    (∀ k ∈ ks, ∀ {S : Sto} {m : Mp}, S[q]? = some (mpO m) → MpOk m → MpOk (occ k) → m.length + (occ k).length ≤ 1000 → C .blanks_in [kd k, .ref q] S = .ok (.bl (pa m (occ k)).2) (S.set q (mpO (pa m (occ k)).1))) →
    ∃ x3', loopM (fun _ => True) (loopB (gmName 3) (sAsg (mAndV (mApp (C .blanks_in) (mCons (mB opIx (mV 3) (mC (.int 1))) (mCons (mV 1) mNil))) (mV 2)) (gmName 2))) (fldD ls (kds ks)) [k0, some (.ref q), some (.bl g), x3] S =
      .nx [k0, some (.ref q), some (.bl ((pa m (occs ks)).2 && g)), x3'] (S.set q (mpO (pa m (occs ks)).1))
  | [], [], S, m, g, x3, _, hS, _, _, _, _ => ⟨x3, by rw [show fldD [] (kds []) = [] from rfl, loopT_nil, occs, pa, set_get hS]; simp⟩
  | l :: ls, k :: ks, S, m, g, x3, h, hS, hm, ho, hz, hC => by
    rw [occs] at ho hz
    rw [List.length_append] at hz
    have ho1 : MpOk (occ k) := fun p hp => ho p (by simp [hp])
    have ho2 : MpOk (occs ks) := fun p hp => ho p (by simp [hp])
    have e1 := hC k (by simp) hS hm ho1 (by omega)
    have hS2 : (S.set q (mpO (pa m (occ k)).1))[q]? = some (mpO (pa m (occ k)).1) := sto_set hS
    have hl := pa_len (occ k) m
    obtain ⟨x3', e2⟩ := bl_loop (g := (pa m (occ k)).2 && g) (x3 := some (.tup [.str l, kd k])) (show ls.length = ks.length by simpa using h) hS2 (pa_ok hm ho1) ho2 (by omega) fun k hk => hC k (by simp [hk])
    refine ⟨x3', ?_⟩
    rw [kds, fldD_cons, loopT_cons]
    rw [List.set_set] at e2
    have e3 : (pa m (occs (k :: ks))) = ((pa (pa m (occ k)).1 (occs ks)).1, (pa m (occ k)).2 && (pa (pa m (occ k)).1 (occs ks)).2) := by rw [occs, pa_app]
    rw [e3]
    have e4 : ((pa m (occ k)).2 && (pa (pa m (occ k)).1 (occs ks)).2 && g) = ((pa (pa m (occ k)).1 (occs ks)).2 && ((pa m (occ k)).2 && g)) := by
      cases (pa m (occ k)).2 <;> cases (pa (pa m (occ k)).1 (occs ks)).2 <;> rfl
    rw [e4, ← e2]
    cases h5 : (pa m (occ k)).2 with
    | true => rw [h5] at e1; simp [loopB_eq, e1]
    | false => rw [h5] at e1; simp [loopB_eq, e1]
theorem blanks_ok {q : Nat} : ∀ (n : Nat) {j : Nat} {S : Sto} {k : K} {m : Mp}, VK n k → n + 1 ≤ j → S[q]? = some (mpO m) → MpOk m → MpOk (occ k) → m.length + (occ k).length ≤ 1000 →
    run j .blanks_in [kd k, .ref q] S = .ok (.bl (pa m (occ k)).2) (S.set q (mpO (pa m (occ k)).1)) := by
  intro n
  induction n with
  | zero => intro j S k m h; cases h
  | succ n ih =>
    intro j S k m h hj hS hm ho hz
    obtain ⟨j, rfl⟩ : ∃ i, j = i + 2 := ⟨j - 2, by omega⟩
    rw [run_succ]
    simp only [body, fin, slots, runB, b_blanks_in]
    cases h with
    | num => simp [kd, finRaw, occ, pa, set_get hS]
    | blk h =>
      rename_i i
      have hp := put_ok (k := j) (l := none) (n := i) hS hm (by simp) (by omega)
      simp only [olD] at hp
      simp [kd, hp, finRaw, occ, pa]
    | rc h1 h2 h3 h4 h5 =>
      rename_i ls ks r
      rw [occ, List.length_append] at hz
      rw [occ] at ho
      have ho1 : MpOk (occs ks) := fun p hp => ho p (by simp [hp])
      simp [kd, wipeD]
      generalize hL : loopM _ _ _ _ _ = z
      obtain ⟨x3', e⟩ := bl_loop (C := run (j + 1)) (k0 := some (.tup [.str "record", .tup (fldD ls (kds ks)), rD0 r])) (g := true) (x3 := none) h1 hS hm ho1 (by omega) fun k hk {S m} a b c d => ih (h4 k hk) (by omega) a b c d
      rw [e] at hL
      subst hL
      have hS2 : (S.set q (mpO (pa m (occs ks)).1))[q]? = some (mpO (pa m (occs ks)).1) := sto_set hS
      have hl := pa_len (occs ks) m
      cases r with
      | none =>
        simp [rD0, isNon, finRaw, occ, restO]
      | some i =>
        have hp := put_ok (k := j) (l := some ls) (n := i) hS2 (pa_ok hm ho1) (fun w hw => by cases hw; exact h3) (by omega)
        have ha : (mApp (run (j + 1) .put_blank) (mCons (mV 1) (mCons (mB opIx (mV 0) (mC (.int 2))) (mCons (mComp (sItems (mB opIx (mV 0) (mC (.int 1)))) (gmName 3) mYes (mB opIx (mV 3) (mC (.int 0))) [3]) mNil)))) [some (.tup [.str "record", .tup (fldD ls (kds ks)), rD0 (some i)]), some (.ref q), some (.bl ((pa m (occs ks)).2 && true)), x3'] (S.set q (mpO (pa m (occs ks)).1)) = .ok (.bl (putB (pa m (occs ks)).1 (i, some ls)).2) (S.set q (mpO (putB (pa m (occs ks)).1 (i, some ls)).1)) := by
          have e5 : ls.map D.str = (ls.zip ks).map fun p => D.str p.1 := by
            rw [show (fun p : Str × K => D.str p.1) = D.str ∘ Prod.fst from rfl, ← List.map_map, List.map_fst_zip (by omega)]
          simp [wipeD, rD0]
          rw [fld_zipK h1, comp_map (i := fun p : Str × K => .tup [.str p.1, kd p.2]) (f := fun p => .str p.1) (hg := trivial) (h := fun p _ => ⟨_, rfl, rfl, by simp⟩), List.nil_append, ← e5]
          simp only [olD, wD] at hp
          simp [hp]
        have e6 : (pa m (occs ks ++ [(i, some ls)])) = ((putB (pa m (occs ks)).1 (i, some ls)).1, (pa m (occs ks)).2 && (putB (pa m (occs ks)).1 (i, some ls)).2) := by rw [pa_app]; simp [pa]
        have hc : ∀ U, (mT (mB opNotN (mB opIx (mV 0) (mC (.int 2))) (mC .non))) [some (.tup [.str "record", .tup (fldD ls (kds ks)), rD0 (some i)]), some (.ref q), some (.bl ((pa m (occs ks)).2 && true)), x3'] U = .ok true U := fun U => by simp [rD0, isNon]
        rw [occ, restO, e6]
        simp only [RS.seq_nx, sSeq_eq, sIf_eq, hc, R.into_ok, if_true, sAsg_eq, mAndV_eq, ha, R.bind_ok]
        cases (putB (pa m (occs ks)).1 (i, some ls)).2 with
        | true => simp [finRaw]
        | false => simp [finRaw]

end K_k04
end
section
namespace K_k04
open PySem L2 PM
theorem is_kind_no {m j : Nat} {S : Sto} {d : D} (hd : th m d = true) (h : kindIn 12 d = false) : run (j + 30) .is_kind [d] S = .ok (.bl false) S := by
  have h1 : run (j + 29) .is_kind_in [d, .int 12] S = .ok (.bl false) S := by
    have := kindin_ok 12 (j := j + 29) (S := S) hd (by omega)
    rw [h] at this; exact this
  rw [run_succ]
  simp only [body, fin, slots, runB, b_is_kind]
  have hf : finFrz 0 S (.ok (.bl false) S) = .ok (.bl false) S := by
    have := finFrz_app (k := 0) (S := S) (T := []) (d := .bl false) rfl
    simpa only [List.append_nil] using this
  simp [h1, hf]
theorem is_kind_yes {j : Nat} {S : Sto} {k : K} (hd : kindIn 12 (kd k) = true) {m : Nat} (ht : th m (kd k) = true) (h : VK 12 k) : run (j + 30) .is_kind [kd k] S = .ok (.bl (decide (kn k ≤ 200) && (pa [] (occ k)).2)) S := by
  have h1 : run (j + 29) .is_kind_in [kd k, .int 12] S = .ok (.bl true) S := by
    have := kindin_ok 12 (j := j + 29) (S := S) ht (by omega)
    rw [hd] at this; exact this
  have h2 := knots_ok 12 (j := j + 29) (S := S) h (by omega)
  rw [run_succ]
  simp only [body, fin, slots, runB, b_is_kind]
  have hf : ∀ b T, finFrz 0 S (.ok (.bl b) (S ++ T)) = .ok (.bl b) S := fun b T => finFrz_app rfl
  by_cases c : kn k ≤ 200
  · have c' : ((kn k : Nat) : Int) ≤ 200 := by omega
    have hlen := occ_len k
    have hS : (S ++ [mpO []])[S.length]? = some (mpO []) := sto_snoc
    have h3 := blanks_ok (q := S.length) 12 (j := j + 29) (S := S ++ [mpO []]) (m := []) h (by omega) hS (fun p hp => by cases hp) (occ_ok 12 h) (by simp; omega)
    rw [sto_snoc_set] at h3
    have e : (S ++ [MO.dK [] []]) = S ++ [mpO []] := rfl
    simp [h1, h2, c', c, e, h3, hf]
  · have c' : ¬ ((kn k : Nat) : Int) ≤ 200 := by omega
    have hf0 : finFrz 0 S (.ok (.bl false) S) = .ok (.bl false) S := by simpa using hf false []
    simp [h1, h2, c', c, hf0]

end K_k04
end
section
namespace K_k04
open PySem L2 PM
theorem depth_ok : ∀ (n : Nat) {j : Nat} {S : Sto} {k : K}, VK n k → n ≤ j → run j .depth [kd k] S = .ok (.int (dp k : Nat)) S := by
  intro n
  induction n with
  | zero => intro j S k h; cases h
  | succ n ih =>
    intro j S k h hj
    obtain ⟨j, rfl⟩ : ∃ i, j = i + 1 := ⟨j - 1, by omega⟩
    rw [run_succ]
    simp only [body, fin, slots, runB, b_depth]
    cases h with
    | num => simp [kd, finRaw, dp]
    | blk h => simp [kd, finRaw, dp]
    | rc h1 h2 h3 h4 h5 =>
      rename_i ls ks r
      simp [kd, wipeD, mMaxD]
      rw [fld_zipK h1, comp_map (i := fun p : Str × K => .tup [.str p.1, kd p.2]) (f := fun p => .int (dp p.2 : Nat)) (hg := trivial) (h := fun p hp => ⟨_, rfl, rfl, by simp [ih (h4 p.2 (zip_mem hp).2) (show n ≤ j by omega)]⟩)]
      simp [rdL, asL, intsOf_map, zip_sndK (fun k => ((dp k : Nat) : Int)) h1, maxDef_dp, finRaw, dp]
theorem lknots_ok : ∀ (n : Nat) {j : Nat} {S : Sto} {k : K}, VK n k → n ≤ j → run j ._law_knots [kd k] S = .ok (.int (kn k : Nat)) S := by
  intro n
  induction n with
  | zero => intro j S k h; cases h
  | succ n ih =>
    intro j S k h hj
    obtain ⟨j, rfl⟩ : ∃ i, j = i + 1 := ⟨j - 1, by omega⟩
    rw [run_succ]
    simp only [body, fin, slots, runB, b__law_knots]
    cases h with
    | num => simp [kd, finRaw, kn]
    | blk h => simp [kd, finRaw, kn]
    | rc h1 h2 h3 h4 h5 =>
      rename_i ls ks r
      simp [kd, wipeD]
      rw [fld_zipK h1, comp_map (i := fun p : Str × K => .tup [.str p.1, kd p.2]) (f := fun p => .int (kn p.2 : Nat)) (hg := trivial) (h := fun p hp => ⟨_, rfl, rfl, by simp [ih (h4 p.2 (zip_mem hp).2) (show n ≤ j by omega)]⟩)]
      have hs : cSum [.lst ((ls.zip ks).map fun p => D.int ((kn p.2 : Nat) : Int))] S = .ok (.int (kns ks : Nat)) S := by rw [cSum_map, sum_zip h1]
      simp [hs, finRaw, kn]
theorem labs_comp {grd : Sto → Prop} {S : Sto} {g : Gm} {t : Tm} {e : Em} {δ : PM.Loc} {ls : List Str} {ks : List K} (h : ls.length = ks.length) (hg : grd S)
    (hh : ∀ p ∈ ls.zip ks, ∃ δ', g (.tup [.str p.1, kd p.2]) δ S = .ok δ' S ∧ t δ' S = .ok true S ∧ e δ' S = .ok (.str p.1) S) : compM grd g t e δ [] (fldD ls (kds ks)) S = .ok (wD ls) S := by
  have e5 : ls.map D.str = (ls.zip ks).map fun p => D.str p.1 := by
    rw [show (fun p : Str × K => D.str p.1) = D.str ∘ Prod.fst from rfl, ← List.map_map, List.map_fst_zip (by omega)]
  rw [fld_zipK h, comp_map (i := fun p : Str × K => .tup [.str p.1, kd p.2]) (f := fun p => .str p.1) (hg := hg) (h := hh), List.nil_append, ← e5]; rfl
theorem setd_mp {q : Nat} {S : Sto} {m : Mp} {n : Int} {l : OL} (h : S[q]? = some (mpO m)) (hm : m.length < 100000) :
    kSetd (.ref q) (.int n) (olD l) S = .ok (olD ((look m n).getD l)) (S.set q (mpO (putB m (n, l)).1)) ∧ (putB m (n, l)).2 = decide ((look m n).getD l = l) := by
  have h' : S[q]? = some (.dK (m.map fun p => .inl p.1) (m.map fun p => olD p.2)) := h
  cases hk : look m n with
  | none =>
    have hp : putB m (n, l) = (m ++ [(n, l)], true) := by simp only [putB, hk]
    have hn := look_none hk
    rw [hp]
    simp only [kSetd, h', PM.keyOf, List.length_map, if_pos (show m.length < sizeLine from Nat.lt_of_lt_of_le (by omega) szl), getK_look, hk, Option.map_none, insK_new hn, insD_new hn, Option.getD_none, decide_true, and_true]
    simp only [mpO, List.map_append, List.map_cons, List.map_nil]
  | some l' =>
    have hp : putB m (n, l) = (m, decide (l' = l)) := by simp only [putB, hk]
    rw [hp]
    simp only [kSetd, h', PM.keyOf, List.length_map, if_pos (show m.length < sizeLine from Nat.lt_of_lt_of_le (by omega) szl), getK_look, hk, Option.map_some, Option.getD_some, set_get h, and_true]
theorem isDct_mp {q : Nat} {S : Sto} {m : Mp} (h : S[q]? = some (mpO m)) : isDct S (.ref q) = true := by
  simp only [isDct, dkOf, h, mpO]; rfl
theorem opSet_same {q : Nat} {S : Sto} {m : Mp} {n : Int} {l : OL} (h : S[q]? = some (mpO m)) (hm : m.length < 100000) (hc : Con (m ++ [(n, l)])) :
    opSet (.ref q) (.int n) (olD l) S = .ok () (S.set q (mpO (putB m (n, l)).1)) := by
  cases hk : look m n with
  | none =>
    have hp : putB m (n, l) = (m ++ [(n, l)], true) := by simp only [putB, hk]
    rw [hp]
    exact opSet_mp h hk (Nat.lt_of_lt_of_le (by omega) szl)
  | some l' =>
    have hp : (putB m (n, l)).1 = m := by simp only [putB, hk]
    rw [hp]
    have h' : S[q]? = some (.dK (m.map fun p => .inl p.1) (m.map fun p => olD p.2)) := h
    have hin : (Sum.inl n : Key) ∈ m.map fun p => (Sum.inl p.1 : Key) := List.mem_map.mpr ⟨_, look_mem hk, rfl⟩
    have hd : insD (m.map fun p => (Sum.inl p.1 : Key)) (m.map fun p => olD p.2) (.inl n) (olD l) = m.map fun p => olD p.2 := by
      unfold insD
      rw [if_pos hin]
      clear h h' hin hk hp hm
      induction m with
      | nil => rfl
      | cons p m ih =>
        simp only [List.map_cons, List.zipWith_cons_cons]
        rw [ih fun a ha b hb => hc a (by simp at ha ⊢; rcases ha with q | q <;> simp [q]) b (by simp at hb ⊢; rcases hb with q | q <;> simp [q])]
        congr 1
        by_cases e : p.1 = n
        · rw [if_pos (by rw [e]), hc p (by simp) (n, l) (by simp) e]
        · rw [if_neg (fun q => e (Sum.inl.inj q))]
    simp only [opSet, h', PM.keyOf, List.length_map, if_pos (show m.length < sizeLine from Nat.lt_of_lt_of_le (by omega) szl), hd]
    unfold insK
    rw [if_pos hin]; rfl
theorem con_sub {a b : Mp} (h : Con b) (g : ∀ x ∈ a, x ∈ b) : Con a := fun x hx y hy => h x (g x hx) y (g y hy)
theorem lbl_loop {C : Cs} {q : Nat} {k0 : Option D} : ∀ {ls : List Str} {ks : List K} {S : Sto} {m : Mp} {x2 : Option D}, ls.length = ks.length → S[q]? = some (mpO m) → Con (m ++ occs ks) → m.length + (occs ks).length ≤ 1000 →
    (∀ k ∈ ks, ∀ {S : Sto} {m : Mp}, S[q]? = some (mpO m) → Con (m ++ occ k) → m.length + (occ k).length ≤ 1000 → C ._law_blanks [kd k, .ref q] S = .ok (.ref q) (S.set q (mpO (pa m (occ k)).1))) →
    ∃ x2', loopM (fun _ => True) (loopB (gmName 2) (sExpr (mApp (C ._law_blanks) (mCons (mB opIx (mV 2) (mC (.int 1))) (mCons (mV 1) mNil))))) (fldD ls (kds ks)) [k0, some (.ref q), x2] S =
      .nx [k0, some (.ref q), x2'] (S.set q (mpO (pa m (occs ks)).1))
  | [], [], S, m, x2, _, hS, _, _, _ => ⟨x2, by rw [show fldD [] (kds []) = [] from rfl, loopT_nil, occs, pa, set_get hS]⟩
  | l :: ls, k :: ks, S, m, x2, h, hS, hc, hz, hC => by
    rw [occs] at hc hz
    rw [List.length_append] at hz
    have hc1 : Con (m ++ occ k) := con_sub hc fun x hx => by simp at hx ⊢; rcases hx with q | q <;> simp [q]
    have e1 := hC k (by simp) hS hc1 (by omega)
    have hS2 : (S.set q (mpO (pa m (occ k)).1))[q]? = some (mpO (pa m (occ k)).1) := sto_set hS
    have hl := pa_len (occ k) m
    have hp := pa_con _ _ hc1
    have hc2 : Con ((pa m (occ k)).1 ++ occs ks) := con_sub hc fun x hx => by
      rcases List.mem_append.mp hx with h | h
      · have := hp.2.1 x h
        simp at this ⊢; rcases this with q | q <;> simp [q]
      · simp [h]
    obtain ⟨x2', e2⟩ := lbl_loop (x2 := some (.tup [.str l, kd k])) (show ls.length = ks.length by simpa using h) hS2 hc2 (by omega) fun k hk => hC k (by simp [hk])
    refine ⟨x2', ?_⟩
    rw [kds, fldD_cons, loopT_cons]
    rw [List.set_set] at e2
    rw [occs, pa_app]
    rw [← e2]
    simp [loopB_eq, e1]
theorem lblanks_ok {q : Nat} : ∀ (n : Nat) {j : Nat} {S : Sto} {k : K} {m : Mp}, VK n k → n + 1 ≤ j → S[q]? = some (mpO m) → Con (m ++ occ k) → m.length + (occ k).length ≤ 1000 →
    run j ._law_blanks [kd k, .ref q] S = .ok (.ref q) (S.set q (mpO (pa m (occ k)).1)) := by
  intro n
  induction n with
  | zero => intro j S k m h; cases h
  | succ n ih =>
    intro j S k m h hj hS hc hz
    obtain ⟨j, rfl⟩ : ∃ i, j = i + 2 := ⟨j - 2, by omega⟩
    rw [run_succ]
    simp only [body, fin, slots, runB, b__law_blanks]
    cases h with
    | num => simp [kd, finRaw, occ, pa, set_get hS]
    | blk h =>
      rename_i i
      have hp : opSet (.ref q) (.int i) .non S = .ok () (S.set q (mpO (putB m (i, none)).1)) := opSet_same hS (by omega) hc
      simp [kd, hp, finRaw, occ, pa]
    | rc h1 h2 h3 h4 h5 =>
      rename_i ls ks r
      rw [occ, List.length_append] at hz
      rw [occ] at hc
      have hc1 : Con (m ++ occs ks) := con_sub hc fun x hx => by simp at hx ⊢; rcases hx with q | q <;> simp [q]
      simp [kd, wipeD]
      generalize hL : loopM _ _ _ _ _ = z
      obtain ⟨x2', e⟩ := lbl_loop (C := run (j + 1)) (k0 := some (.tup [.str "record", .tup (fldD ls (kds ks)), rD0 r])) (x2 := none) h1 hS hc1 (by omega) fun k hk {S m} a b c => ih (h4 k hk) (by omega) a b c
      rw [e] at hL
      subst hL
      have hS2 : (S.set q (mpO (pa m (occs ks)).1))[q]? = some (mpO (pa m (occs ks)).1) := sto_set hS
      have hl := pa_len (occs ks) m
      have hp := pa_con _ _ hc1
      cases r with
      | none =>
        simp [rD0, isNon, finRaw, occ, restO]
      | some i =>
        have hc2 : Con ((pa m (occs ks)).1 ++ [(i, some ls)]) := con_sub hc fun x hx => by
          rcases List.mem_append.mp hx with h | h
          · have := hp.2.1 x h
            simp at this ⊢; rcases this with q | q <;> simp [q]
          · rw [List.mem_singleton.mp h]; simp [restO]
        have hset : opSet (.ref q) (.int i) (wD ls) (S.set q (mpO (pa m (occs ks)).1)) = .ok () ((S.set q (mpO (pa m (occs ks)).1)).set q (mpO (putB (pa m (occs ks)).1 (i, some ls)).1)) := opSet_same (l := some ls) hS2 (by omega) hc2
        have e6 : (pa m (occs ks ++ [(i, some ls)])).1 = (putB (pa m (occs ks)).1 (i, some ls)).1 := by rw [pa_app]; simp [pa]
        rw [occ, restO, e6]
        simp [rD0, isNon, wipeD]
        rw [labs_comp h1 trivial (fun p _ => ⟨_, rfl, rfl, by simp⟩)]
        simp [hset, finRaw]

end K_k04
end
section
namespace K_k04
open PySem L2 PM
theorem isfill_ok {m j : Nat} {S : Sto} {l : OL} {d : D} (hd : th m d = true) : run (j + 30) .is_fill [olD l, d] S = .ok (.bl (isFillD l d)) S := by
  have hk : ∀ {m : Nat} {d : D}, th m d = true → run (j + 29) .is_kind_in [d, .int 12] S = .ok (.bl (kindIn 12 d)) S := fun h => kindin_ok 12 h (by omega)
  rw [run_succ]
  simp only [body, fin, slots, runB, b_is_fill]
  cases l with
  | none => simp [olD, isNon, hk hd, finRaw, isFillD, restFill]
  | some w =>
    cases d with
    | tup ds =>
      match ds, hd with
      | [], _ => simp [olD, wD, isNon, finRaw, isFillD, restFill]
      | [a], _ => simp [olD, wD, isNon, finRaw, isFillD, restFill]
      | [a, b], hd =>
        have hth : th (m + 1) (.tup [.str "record", a, b]) = true := th_rec (th_pair hd).1 (th_pair hd).2
        have hadd : ∀ S, opAdd (.tup [.str "record"]) (.tup [a, b]) S = .ok (.tup [.str "record", a, b]) S := fun S => opAdd_tup (by simp; exact Nat.le_trans (by decide) szl)
        have h2 := hk hth
        obtain ⟨bk, hbk⟩ : ∃ b', b' = kindIn 12 (.tup [.str "record", a, b]) := ⟨_, rfl⟩
        rw [← hbk] at h2
        rw [show isFillD (some w) (.tup [a, b]) = (kindIn 12 (.tup [.str "record", a, b]) && disD w a) from rfl, ← hbk]
        cases bk with
        | false => simp [olD, wD, isNon, hadd, h2, finRaw]
        | true =>
          have ha : ∃ ps, a = .tup ps ∧ ∀ p ∈ ps, isPairD p = true := by
            obtain ⟨k, e, hv⟩ := kindIn_kd 12 hbk.symm
            cases hv with
            | num => cases e
            | blk => cases e
            | rc h1 h2 h3 h4 h5 =>
              simp only [kd, D.tup.injEq, List.cons.injEq] at e
              exact ⟨_, e.2.1, List.all_eq_true.mp (fld_pairs h3)⟩
          obtain ⟨ps, e, hp⟩ := ha
          subst e
          have hc := comp_pure (grd := fun _ => True) (g := gmName 2) (t := mYes) (e := mB opNotIn (mB opIx (mV 2) (mC (.int 0))) (mV 0)) (δ := [some (.lst (w.map D.str)), some (.tup [.tup ps, b]), none]) (S := S) (fun p => .bl (!decide (labD p ∈ w))) trivial ps [] fun p h => by
            obtain ⟨s, b, e, _⟩ := pair_is (hp p h)
            subst e
            exact ⟨_, rfl, rfl, by simp [opNotIn_strs, labD]; exact decide_eq_decide.mpr Iff.rfl⟩
          have hA : ∀ S, cAll [.lst (ps.map fun p => .bl (!decide (labD p ∈ w)))] S = .ok (.bl (ps.all fun p => !decide (labD p ∈ w))) S := fun S => by rw [cAll_map]
          rw [List.nil_append] at hc
          simp [olD, wD, isNon, hadd, h2, wipeD]
          rw [hc]
          simp only [R.bind_ok, hA, RS.seq_nx, R.into_ok, finRaw, Bool.true_and]
          rfl
      | a :: b :: c :: r, _ =>
        have : ¬ ((r.length : Int) + 1 + 1 + 1 = 2) := by omega
        simp [olD, wD, isNon, finRaw, isFillD, restFill, this]
    | _ => first
      | (cases m <;> cases hd; done)
      | simp [olD, wD, isNon, finRaw, isFillD, restFill]
def xBF : Exc := ⟨"BadFill", [], []⟩
def xTG : Exc := ⟨"TooGreat", [], []⟩
def xBK : Exc := ⟨"BadKind", [], []⟩
theorem fin_exc {S T : Sto} {x : Str} : finFrz 0 S (.exc ⟨x, [], []⟩ (S ++ T)) = .exc ⟨x, [], []⟩ S := by
  unfold finFrz
  have : ClS S (S ++ T) ∧ D.cls S.length ([] : List D) = true := ⟨ClS.app, rfl⟩
  simp only [if_pos this]
  rw [List.take_left]
/-- what stands behind the fills -/
inductive Rz where
  | bad | great | made (k : K)
def rzK (k : K) : Rz := if kn k ≤ 200 ∧ dp k ≤ 12 then (if (pa [] (occ k)).2 = true then .made k else .bad) else .great
def rzR (S : Sto) : Rz → R D
  | .bad => .exc ⟨"BadFill", [], []⟩ S
  | .great => .exc ⟨"TooGreat", [], []⟩ S
  | .made k => .ok (kd k) S
theorem is_kind_vk {j n : Nat} {S : Sto} {k : K} (h : VK n k) (h1 : kn k ≤ 200) (h2 : dp k ≤ 12) : run (j + 30) .is_kind [kd k] S = .ok (.bl (pa [] (occ k)).2) S := by
  have h3 : VK 12 k := h.to h2
  rw [is_kind_yes (by rw [kindIn_dp 12 h3]; exact decide_eq_true h2) (vk_th h3 (by omega)) h3, decide_eq_true h1, Bool.true_and]
theorem filled_bad {j n f : Nat} {S : Sto} {k k' : K} {fks : List Key} {fds : List D} (hf : f < S.length) (hS : S[f]? = some (.dK fks fds)) (h : VK n k) (hn : n ≤ 12) (hk : kn k ≤ 200) (hc : Con (occ k))
    (hF : ∀ o ∈ occ k, ∀ d, getK fks fds (.inl o.1) = some d → th 70 d = true) {A B : Prop}
    (hA : A → ∃ o ∈ occ k, ∃ d, getK fks fds (.inl o.1) = some d ∧ isFillD o.2 d = false)
    (hB : B → (∀ o ∈ occ k, ∀ d, getK fks fds (.inl o.1) = some d → isFillD o.2 d = true) ∧ VK (n + 20) k' ∧ (∀ j S, n + 1 ≤ j → S[f]? = some (.dK fks fds) → run j .fill [kd k, .ref f] S = .ok (kd k') S)) :
    (A → run (j + 40) .filled [kd k, .ref f] S = .exc ⟨"BadFill", [], []⟩ S) ∧ (B → run (j + 40) .filled [kd k, .ref f] S = rzR S (rzK k')) := by
  have hdk : dp k ≤ 12 := Nat.le_trans h.dple hn
  have hpc := pa_con (occ k) [] hc
  have hlen := occ_len k
  have hmo : MpOk (pa [] (occ k)).1 := pa_ok (fun p hp => nomatch hp) (occ_ok n h)
  have h1 : run (j + 38) .is_kind [kd k] S = .ok (.bl true) S := by rw [is_kind_vk (j := j + 8) h hk hdk, hpc.1]
  have hneed : run (j + 39) .need_kind [kd k] S = .ok .non S := by
    rw [run_succ]
    simp only [body, fin, slots, runB, b_need_kind]
    simp [h1, finRaw]
  have hq : (S ++ [mpO []])[S.length]? = some (mpO []) := sto_snoc
  have hbl := blanks_ok (q := S.length) n (j := j + 39) (S := S ++ [mpO []]) (m := []) h (by omega) hq (fun p hp => by cases hp) (occ_ok n h) (by simp; omega)
  rw [sto_snoc_set, hpc.1] at hbl
  have e0 : (S ++ [MO.dK [] []]) = S ++ [mpO []] := rfl
  rw [run_succ]
  simp only [body, fin, slots, runB, b_filled]
  generalize (pa [] (occ k)).1 = m0 at *
  simp [hneed, e0, hbl]
  rw [lock_mp (q := S.length) (mp := m0) (by simp) (by simp)]
  have hS2 : (S ++ [mpL m0])[S.length]? = some (mpL m0) := sto_snoc
  have hSf : (S ++ [mpL m0])[f]? = some (.dK fks fds) := by rw [List.getElem?_append_left hf]; exact hS
  have hSf2 : (S ++ [mpO m0])[f]? = some (.dK fks fds) := by rw [List.getElem?_append_left hf]; exact hS
  simp only [sto_snoc_set, sFor_eq]
  rw [keys_mp (q := S.length) (mp := m0) (by simp) hS2]
  simp only [R.into_ok]
  generalize hL : loopM _ _ _ _ _ = r
  have hlp := loop_retG hL (fun i δ S' => S' = S ++ [mpL m0] ∧ (∃ x3, δ = [some (kd k), some (.ref f), some (.ref S.length), x3, none]) ∧ ∀ t, t < i → ∀ o, m0[t]? = some o → ∀ d, getK fks fds (.inl o.1) = some d → isFillD o.2 d = true)
    (fun r => (∃ δ', r = .exc ⟨"BadFill", [], []⟩ δ' (S ++ [mpL m0])) ∧ ∃ o ∈ occ k, ∃ d, getK fks fds (.inl o.1) = some d ∧ isFillD o.2 d = false)
    (fun i δ S' h => by rw [h.1]; exact hS2) ⟨rfl, ⟨_, rfl⟩, fun t ht => by omega⟩ fun i x δ S' hx hI => by
      obtain ⟨e1, ⟨x3, e2⟩, h3⟩ := hI
      subst e1 e2
      rw [List.getElem?_map] at hx
      obtain ⟨o, ho, ex⟩ := Option.map_eq_some_iff.mp hx
      subst ex
      have hom := List.mem_of_getElem? ho
      have hoc : o ∈ occ k := by have := hpc.2.1 o hom; simpa using this
      have hix := opIx_mpL (n := o.1) hS2 (look_con hpc.2.2.1 o hom)
      cases hg : getK fks fds (.inl o.1 : Key) with
      | none =>
        refine .inl ⟨[some (kd k), some (.ref f), some (.ref S.length), some (.int o.1), none], S ++ [mpL m0], .inl (by simp [loopB_eq, opIn_dI hSf, hg]), rfl, ⟨_, rfl⟩, fun t ht u hu d hd => ?_⟩
        rcases Nat.lt_or_ge t i with q | q
        · exact h3 t q u hu d hd
        · have : t = i := by omega
          subst this
          rw [ho] at hu; cases hu
          rw [hg] at hd; cases hd
      | some d =>
        have hfi := isfill_ok (j := j + 9) (S := S ++ [mpL m0]) (l := o.2) (hF o hoc d hg)
        rw [show j + 9 + 30 = j + 39 by omega] at hfi
        cases hb : isFillD o.2 d with
        | true =>
          rw [hb] at hfi
          refine .inl ⟨[some (kd k), some (.ref f), some (.ref S.length), some (.int o.1), none], S ++ [mpL m0], .inl (by simp [loopB_eq, opIn_dI hSf, hg, hix, opIx_dI hSf hg, hfi]), rfl, ⟨_, rfl⟩, fun t ht u hu d' hd => ?_⟩
          rcases Nat.lt_or_ge t i with q | q
          · exact h3 t q u hu d' hd
          · have : t = i := by omega
            subst this
            rw [ho] at hu; cases hu
            rw [hg] at hd; cases hd
            exact hb
        | false =>
          rw [hb] at hfi
          refine .inr (.inr ⟨⟨"BadFill", [], []⟩, [some (kd k), some (.ref f), some (.ref S.length), some (.int o.1), none], S ++ [mpL m0], by simp [loopB_eq, opIn_dI hSf, hg, hix, opIx_dI hSf hg, hfi, sRaise], ⟨_, rfl⟩, o, hoc, d, hg, hb⟩)
  constructor
  · intro a0
    obtain ⟨o, ho, d, hg, hb⟩ := hA a0
    rcases hlp with ⟨δ', S', e, hS', hδ, hall⟩ | ⟨⟨δ', e⟩, _⟩
    · obtain ⟨t, ht⟩ := List.getElem?_of_mem (hpc.2.2.2 o (by simpa using ho))
      have := hall t (by have := (List.getElem?_eq_some_iff.mp ht).1; simpa using this) o ht d hg
      rw [hb] at this; cases this
    · subst e
      simp only [RS.seq_exc]
      exact fin_exc
  · intro b0
    obtain ⟨hall, hv, hfill⟩ := hB b0
    rcases hlp with ⟨δ', S', e, hS', ⟨x3, hδ⟩, _⟩ | ⟨⟨δ', e⟩, o, ho, d, hg, hb⟩
    · subst e hS' hδ
      have hu : ∀ k, unlk S.length (S ++ [mpL m0]) k = k (S ++ [mpO m0]) := fun k => by rw [unlk_mp hS2, sto_snoc_set]
      have hfi := hfill (j + 39) (S ++ [mpO m0]) (by omega) hSf2
      have hkn := knots_ok (n + 20) (j := j + 39) (S := S ++ [mpO m0]) hv (by omega)
      have hdp := depth_ok (n + 20) (j := j + 39) (S := S ++ [mpO m0]) hv (by omega)
      simp only [hu, RS.seq_nx]
      simp [hfi, hkn, hdp]
      by_cases c1 : kn k' ≤ 200
      · by_cases c2 : dp k' ≤ 12
        · have c1' : ¬ (200 : Int) < (kn k' : Nat) := by omega
          have c2' : ¬ (12 : Int) < (dp k' : Nat) := by omega
          have hik := is_kind_vk (j := j + 9) (S := S ++ [mpO m0]) hv c1 c2
          rw [show j + 9 + 30 = j + 39 by omega] at hik
          cases hp : (pa [] (occ k')).2 with
          | true =>
            have hz : rzK k' = .made k' := by unfold rzK; rw [if_pos ⟨c1, c2⟩, if_pos hp]
            rw [hp] at hik
            rw [hz]
            simp [c1', c2', hik, rzR, finFrz_app (vk_cl hv)]
          | false =>
            have hz : rzK k' = .bad := by unfold rzK; rw [if_pos ⟨c1, c2⟩, if_neg (by rw [hp]; exact Bool.false_ne_true)]
            rw [hp] at hik
            rw [hz]
            simp [c1', c2', hik, rzR, sRaise]
            exact fin_exc
        · have c2' : (12 : Int) < (dp k' : Nat) := by omega
          have hz : rzK k' = .great := by unfold rzK; rw [if_neg (fun h => c2 h.2)]
          rw [hz]
          by_cases c1' : (200 : Int) < (kn k' : Nat)
          · simp [c1', rzR, sRaise]
            exact fin_exc
          · simp [c1', c2', rzR, sRaise]
            exact fin_exc
      · have c1' : (200 : Int) < (kn k' : Nat) := by omega
        have hz : rzK k' = .great := by unfold rzK; rw [if_neg (fun h => c1 h.1)]
        rw [hz]
        simp [c1', rzR, sRaise]
        exact fin_exc
    · rw [hall o ho d hg] at hb; cases hb

end K_k04
end
section
namespace K_k04
open PySem L2 PM
theorem kind3_ok {n q : Nat} (nq : n ≠ q) {w : Int} (hw : 0 ≤ w ∧ w < 1000000000) {ls : List Str} (h4 : ls.length = 4) (hn : ls.Nodup) (hl : ∀ l ∈ ls, IsLab l) : ∀ (d : Nat) {k M : Nat} {S : Sto} {l b : Int} {ws : List (List Str)}, l = d + 1 → d + 2 ≤ k → M ≤ 1000 → KS3 S n q M ws b →
    ∃ kk T, run k ._law_kind [.ref n, .lst (ls.map .str), .lst [.int w, .ref q], .int l] S = .ok (kd kk) T ∧ VK (d + 1) kk ∧ KE3 T n q M w ws (4 * b.toNat + 1) (occ kk) (kn kk) ∧ KNx S T n q := by
  intro d
  induction d with
  | zero =>
    intro k M S l b ws hd hk hM hs
    obtain ⟨k, rfl⟩ : ∃ j, k = j + 2 := ⟨k - 2, by omega⟩
    obtain ⟨a, h0, hS, hq, hws, hb⟩ := hs
    have hr := next_ok (k := k) hS
    refine ⟨.num, _, ?_, .num, ⟨b - 1, ws, ⟨(a * 48271 + 11) % 2147483647, ?_, sto_set hS, by rw [List.getElem?_set_ne nq]; exact hq, hws, by omega⟩, List.prefix_refl _, (fun o ho => nomatch ho), by rw [kn]; omega⟩, .set1⟩
    · rw [run_succ]
      simp only [body, fin, slots, runB, b__law_kind]
      simp [hr, hd, kd, finRaw]
    · omega
  | succ d ih =>
    intro k M S l b ws hd hk hM hs
    obtain ⟨k, rfl⟩ : ∃ j, k = j + 2 := ⟨k - 2, by omega⟩
    obtain ⟨a, h0, hS, hq, hws, hb⟩ := hs
    have hr := next_ok (k := k) hS
    have hT := sto_set (o := .lst [.int ((a * 48271 + 11) % 2147483647), .int (b - 1)]) hS
    have hqT : (S.set n (.lst [.int ((a * 48271 + 11) % 2147483647), .int (b - 1)]))[q]? = some (.lst (ws.map wD)) := by rw [List.getElem?_set_ne nq]; exact hq
    have hx : KNx S (S.set n (.lst [.int ((a * 48271 + 11) % 2147483647), .int (b - 1)])) n q := .set1
    have hv : 0 ≤ (a * 48271 + 11) % 2147483647 := by omega
    have hv2 : 0 ≤ (a * 48271 + 11) % 2147483647 / 7 := by omega
    generalize S.set n (.lst [.int ((a * 48271 + 11) % 2147483647), .int (b - 1)]) = T at *
    generalize (a * 48271 + 11) % 2147483647 = a' at *
    generalize a' / 7 = v at *
    rw [run_succ]
    simp only [body, fin, slots, runB, b__law_kind]
    have hl1 : ¬ l ≤ 1 := by omega
    simp [hr, hl1, opIx_ref hT, opMod_pos]
    by_cases c1 : b - 1 ≤ 0
    · refine ⟨.num, T, ?_, .num, ⟨b - 1, ws, ⟨a', hv, hT, hqT, hws, by omega⟩, List.prefix_refl _, (fun o ho => nomatch ho), by rw [kn]; omega⟩, hx⟩
      simp [c1, kd, finRaw]
    by_cases c2 : v % 7 < 2
    · refine ⟨.num, T, ?_, .num, ⟨b - 1, ws, ⟨a', hv, hT, hqT, hws, by omega⟩, List.prefix_refl _, (fun o ho => nomatch ho), by rw [kn]; omega⟩, hx⟩
      simp [c1, c2, kd, finRaw]
    by_cases c3 : v % 7 = 2
    · refine ⟨.blk (w * 2 * (v / 7 % 3)), T, ?_, .blk (Int.mul_nonneg (by omega) (by omega)), ⟨b - 1, ws, ⟨a', hv, hT, hqT, hws, by omega⟩, List.prefix_refl _, (fun o ho => .inl ⟨(v / 7 % 3).toNat, by omega, by rw [List.mem_singleton.mp ho, Int.toNat_of_nonneg (by omega)]⟩), by rw [kn]; omega⟩, hx⟩
      simp [c1, c3, kd, finRaw, opMul_l (show -18446744073709551616 < w ∧ w < 18446744073709551616 by omega), opMul_l (show -18446744073709551616 < w * 2 ∧ w * 2 < 18446744073709551616 by omega), opDiv_pos, opMod_pos]
    obtain ⟨l1, hl1', e1⟩ := labs_at h4 (show 0 ≤ v / 7 % 4 by omega) (by omega)
    obtain ⟨l2, hl2', e2⟩ := labs_at h4 (show 0 ≤ v / 28 % 4 by omega) (by omega)
    obtain ⟨l3, hl3', e3⟩ := labs_at h4 (show 0 ≤ v / 112 % 4 by omega) (by omega)
    have eS : ∀ S, cSorted [.lst (ls.map .str)] S = .ok (.lst ((sortStr ls).map .str)) S := fun S => by
      simp only [cSorted, rdL, asL, strsOf_id]
    simp [c1, c2, c3, opDiv_pos, opMod_pos, e1, e2, e3, cutD_to (show 0 ≤ v / 448 % 4 by omega), eS, wipeD]
    have ep : List.take (v / 448 % 4).toNat [D.str l1, D.str l2, D.str l3] = ([l1, l2, l3].take (v / 448 % 4).toNat).map D.str := by rw [List.map_take]; rfl
    rw [ep]
    generalize [l1, l2, l3].take (v / 448 % 4).toNat = pk
    rw [comp_filtm (i := D.str) (p := fun x => decide (x ∈ pk)) (f := D.str) trivial _ _ fun x _ => ⟨_, rfl, by simp [opIn_strs], fun _ => by simp⟩]
    have ww : ∀ x ∈ (sortStr ls).filter fun x => decide (x ∈ pk), x ∈ ls := fun x hx => (sortStr_perm ls).mem_iff.mp (List.mem_filter.mp hx).1
    have wn : ascS ((sortStr ls).filter fun x => decide (x ∈ pk)) = true := asc_filter _ hn
    have wl : ((sortStr ls).filter fun x => decide (x ∈ pk)).length ≤ 4 := Nat.le_trans (List.length_filter_le _ _) (by rw [(sortStr_perm ls).length_eq, h4]; exact Nat.le_refl _)
    generalize ((sortStr ls).filter fun x => decide (x ∈ pk)) = wds at *
    have wok : WOk wds := fun x hx => hl x (ww x hx)
    simp [wipeD]
    generalize hC : compM _ _ _ _ _ _ _ _ = r
    obtain ⟨acc, T2, e, ks, b2, ws2, e4, e5, e6, ⟨a2, k0, kS, kq, kws, kb⟩, hpre, hos, e8, e10⟩ := comp_ofN hC (fun i acc S' => ∃ ks b' ws', acc = fldD (wds.take i) (kds ks) ∧ ks.length = i ∧ (∀ k ∈ ks, VK (d + 1) k) ∧ KS3 S' n q (M - 1) ws' b' ∧ ws <+: ws' ∧ (∀ o ∈ occs ks, OkO w ws' o) ∧ KNx T S' n q ∧ kns ks + 4 * b'.toNat ≤ 4 * (b - 1).toNat + ks.length)
      ⟨[], b - 1, ws, rfl, rfl, by simp, ⟨a', hv, hT, hqT, hws, by omega⟩, List.prefix_refl _, (fun o ho => nomatch ho), .refl, by simp [kns]⟩ (fun i x acc S1 hx hI => by
        obtain ⟨ks, b1, ws1, e4, e5, e6, e7, p7, o7, e8, e9⟩ := hI
        rw [List.getElem?_map] at hx
        obtain ⟨y, hy, ex⟩ := Option.map_eq_some_iff.mp hx
        obtain ⟨kk, U, g1, g2, ⟨b3, ws3, g3, p3, o3, g5⟩, g4⟩ := ih (k := k + 1) (l := l - 1) (by omega) (by omega) (by omega) e7
        subst e4 ex
        have hi : i < wds.length := (List.getElem?_eq_some_iff.mp hy).1
        refine ⟨_, S1, .tup [.str y, kd kk], U, rfl, ?_, ks ++ [kk], b3, ws3, ?_, by simp [e5], ?_, g3, p7.trans p3, ?_, e8.trans g4, by rw [kns_app, List.length_append]; simp only [kns, List.length_cons, List.length_nil]; omega⟩
        · simp [g1]
        · have ht : wds.take (i + 1) = wds.take i ++ [y] := by rw [List.take_add_one, hy]; rfl
          rw [ht, show kds (ks ++ [kk]) = kds ks ++ [kd kk] from by simp [kds_map], fldD_snoc (by rw [kds_len, e5, List.length_take]; omega)]
        · intro x hx
          rcases List.mem_append.mp hx with hx | hx
          · exact e6 x hx
          · rw [List.mem_singleton.mp hx]; exact g2
        · intro o ho
          rw [occs_app] at ho
          simp only [occs, List.append_nil] at ho
          rcases List.mem_append.mp ho with ho | ho
          · exact (o7 o ho).pre p3
          · exact o3 o ho)
    subst e e4
    have hM1 : 1 ≤ M := by omega
    rw [List.length_map] at e5
    rw [List.length_map, List.take_length]
    have hlen : wds.length = ks.length := e5.symm
    simp
    by_cases c5 : v / 1792 % 2 = 0
    · refine ⟨.rc wds ks none, T2, ?_, .rc hlen wn wok e6 (fun i e => nomatch e), ⟨b2, ws2, ⟨a2, k0, kS, kq, kws, by omega⟩, hpre, (fun o ho => hos o (by simpa [occ, restO] using ho)), by rw [kn]; omega⟩, hx.trans e8⟩
      simp [c5, kd, finRaw, rD0, opDiv_pos, opMod_pos]
    have hni := opNotIn_ws kq wok kws
    rw [wD] at hni
    by_cases c6 : wds ∈ ws2
    · obtain ⟨j, hj, hji⟩ := cIndex_ws2 kq wok kws c6
      rw [wD] at hji
      refine ⟨.rc wds ks (some (w * (1 + 2 * (j : Int)))), T2, ?_, .rc hlen wn wok e6 (fun i e => by cases e; exact Int.mul_nonneg (by omega) (by omega)), ⟨b2, ws2, ⟨a2, k0, kS, kq, kws, by omega⟩, hpre, (fun o ho => by
        rw [occ] at ho
        rcases List.mem_append.mp ho with ho | ho
        · exact hos o ho
        · exact .inr ⟨j, wds, hj, List.mem_singleton.mp ho⟩), by rw [kn]; omega⟩, hx.trans e8⟩
      simp [c5, c6, opDiv_pos, opMod_pos, hni, hji, isLst_ref kq, kd, finRaw, rD0, opMul_l, opMul_l (show -18446744073709551616 < w ∧ w < 18446744073709551616 by omega)]
    · have hcap : (ws2.map wD).length < sizeLine := by rw [List.length_map]; exact Nat.lt_of_lt_of_le (by omega) szl
      have hq3 : (T2.set q (.lst ((ws2 ++ [wds]).map wD)))[q]? = some (.lst ((ws2 ++ [wds]).map wD)) := sto_set kq
      have kws3 : ∀ w ∈ ws2 ++ [wds], WOk w := fun x hx => by
        rcases List.mem_append.mp hx with hx | hx
        · exact kws x hx
        · rw [List.mem_singleton.mp hx]; exact wok
      obtain ⟨j, hj, hji⟩ := cIndex_ws2 hq3 wok kws3 (by simp)
      have e9 : ws2.map wD ++ [wD wds] = (ws2 ++ [wds]).map wD := by simp
      have hap : cAppend (.ref q) [.lst (wds.map .str)] T2 = .ok .non (T2.set q (.lst ((ws2 ++ [wds]).map wD))) := by rw [cAppend_ref kq hcap, ← e9]; rfl
      rw [wD] at hji
      refine ⟨.rc wds ks (some (w * (1 + 2 * (j : Int)))), T2.set q (.lst ((ws2 ++ [wds]).map wD)), ?_, .rc hlen wn wok e6 (fun i e => by cases e; exact Int.mul_nonneg (by omega) (by omega)), ⟨b2, ws2 ++ [wds], ⟨a2, k0, by rw [List.getElem?_set_ne (Ne.symm nq)]; exact kS, hq3, kws3, by simp; omega⟩, hpre.trans (List.prefix_append _ _), (fun o ho => by
        rw [occ] at ho
        rcases List.mem_append.mp ho with ho | ho
        · exact (hos o ho).pre (List.prefix_append _ _)
        · exact .inr ⟨j, wds, hj, List.mem_singleton.mp ho⟩), by rw [kn]; omega⟩, (hx.trans e8).trans .set2⟩
      generalize T2.set q (.lst ((ws2 ++ [wds]).map wD)) = T3 at *
      simp [c5, c6, opDiv_pos, opMod_pos, hni, hji, hap, isLst_ref kq, isLst_ref hq3, kd, finRaw, rD0, opMul_l, opMul_l (show -18446744073709551616 < w ∧ w < 18446744073709551616 by omega)]

end K_k04
end
section
namespace K_k04
open PySem L2 PM
theorem mt_loop {C : Cs} {q : Nat} {v0 v1 : Option D} {th : List (Str × K)} {kD : List Key} {dD : List D} {P : Fm → Prop} (hgk : ∀ l, getK kD dD (.inr l) = (lkP th l).map kd) : ∀ {ks : List K} {ls : List Str} {S : Sto} {F : Fm} {x4 : Option D}, ls.length = ks.length → S[q]? = some (fO F) → P F → F.length + kns ks ≤ 5000 →
    (∀ k ∈ ks, ∀ p ∈ th, ∀ {S : Sto} {F : Fm}, S[q]? = some (fO F) → P F → F.length + kn k ≤ 5000 → C .match [kd k, kd p.2, .ref q] S = .ok (.bl (matchK k p.2 F).2) (S.set q (fO (matchK k p.2 F).1)) ∧ (matchK k p.2 F).1.length ≤ F.length + kn k ∧ P (matchK k p.2 F).1) →
    ∃ x4', loopM (fun _ => True) (loopB (gmName 4) (sIf (mOr (mT (mB opNotIn (mB opIx (mV 4) (mC (.int 0))) (mV 3))) (mNot (mT (mApp (C .match) (mCons (mB opIx (mV 4) (mC (.int 1))) (mCons (mB opIx (mV 3) (mB opIx (mV 4) (mC (.int 0)))) (mCons (mV 2) mNil))))))) (sRet (mC (.bl false))) sPass)) (fldD ls (kds ks))
      [v0, v1, some (.ref q), some (.dct kD dD), x4, none, none] S =
      if (matchKs ks ls th F).2 = true then .nx [v0, v1, some (.ref q), some (.dct kD dD), x4', none, none] (S.set q (fO (matchKs ks ls th F).1)) else .rt (.bl false) (S.set q (fO (matchKs ks ls th F).1))
  | [], [], S, F, x4, _, hS, _, _, _ => ⟨x4, by rw [show fldD [] (kds []) = [] from rfl, loopT_nil, matchKs, if_pos rfl, set_get hS]⟩
  | k :: ks, l :: ls, S, F, x4, h, hS, hP, hz, hC => by
    rw [kns] at hz
    rw [kds, fldD_cons, loopM, if_pos trivial, matchKs_cons]
    have hg := hgk l
    cases hl : lkP th l with
    | none =>
      rw [hl] at hg
      refine ⟨x4, ?_⟩
      have hn : opNotIn (.str l) (.dct kD dD) S = .ok (.bl true) S := by rw [opNotIn_dct, hg]; rfl
      simp [loopB_eq, hn, set_get hS]
    | some o =>
      rw [hl] at hg
      have hn : opNotIn (.str l) (.dct kD dD) S = .ok (.bl false) S := by rw [opNotIn_dct, hg]; rfl
      have hi : opIx (.dct kD dD) (.str l) S = .ok (kd o) S := opIx_dct hg
      obtain ⟨hc, hlen, hP2⟩ := hC k (by simp) _ (lkP_mem hl) hS hP (by omega)
      simp only at hc hlen
      have hS2 : (S.set q (fO (matchK k o F).1))[q]? = some (fO (matchK k o F).1) := sto_set hS
      obtain ⟨x4', e⟩ := mt_loop (v0 := v0) (v1 := v1) hgk (ks := ks) (ls := ls) (x4 := some (.tup [.str l, kd k])) (by simpa using h) hS2 hP2 (by omega) fun k hk => hC k (by simp [hk])
      rw [List.set_set] at e
      cases hb : (matchK k o F).2 with
      | true =>
        refine ⟨x4', ?_⟩
        rw [hb] at hc
        simp only [hb, if_true]
        rw [← e]
        simp [loopB_eq, hn, hi, hc]
      | false =>
        refine ⟨x4', ?_⟩
        rw [hb] at hc
        simp [loopB_eq, hn, hi, hc, hb]
theorem lmt_loop {C : Cs} {q : Nat} {v0 v1 : Option D} {th : List (Str × K)} {kD : List Key} {dD : List D} {P : Fm → Prop} (hgk : ∀ l, getK kD dD (.inr l) = (lkP th l).map kd) : ∀ {ks : List K} {ls : List Str} {S : Sto} {F : Fm} {x4 x5 : Option D}, ls.length = ks.length → S[q]? = some (fO F) → P F → F.length + kns ks ≤ 5000 →
    (∀ k ∈ ks, ∀ p ∈ th, ∀ {S : Sto} {F : Fm}, S[q]? = some (fO F) → P F → F.length + kn k ≤ 5000 → C ._law_match [kd k, kd p.2, .ref q] S = .ok (.bl (matchK k p.2 F).2) (S.set q (fO (matchK k p.2 F).1)) ∧ (matchK k p.2 F).1.length ≤ F.length + kn k ∧ P (matchK k p.2 F).1) →
    ∃ x4' x5', loopM (fun _ => True) (loopB (gmTup [4, 5]) (sIf (mOr (mT (mB opNotIn (mV 4) (mV 3))) (mNot (mT (mApp (C ._law_match) (mCons (mV 5) (mCons (mB opIx (mV 3) (mV 4)) (mCons (mV 2) mNil))))))) (sRet (mC (.bl false))) sPass)) (fldD ls (kds ks))
      [v0, v1, some (.ref q), some (.dct kD dD), x4, x5, none, none, none] S =
      if (matchKs ks ls th F).2 = true then .nx [v0, v1, some (.ref q), some (.dct kD dD), x4', x5', none, none, none] (S.set q (fO (matchKs ks ls th F).1)) else .rt (.bl false) (S.set q (fO (matchKs ks ls th F).1))
  | [], [], S, F, x4, x5, _, hS, _, _, _ => ⟨x4, x5, by rw [show fldD [] (kds []) = [] from rfl, loopT_nil, matchKs, if_pos rfl, set_get hS]⟩
  | k :: ks, l :: ls, S, F, x4, x5, h, hS, hP, hz, hC => by
    rw [kns] at hz
    rw [kds, fldD_cons, loopM, if_pos trivial, matchKs_cons]
    have hg := hgk l
    cases hl : lkP th l with
    | none =>
      rw [hl] at hg
      refine ⟨x4, x5, ?_⟩
      have hn : opNotIn (.str l) (.dct kD dD) S = .ok (.bl true) S := by rw [opNotIn_dct, hg]; rfl
      simp [loopB_eq, hn, set_get hS]
    | some o =>
      rw [hl] at hg
      have hn : opNotIn (.str l) (.dct kD dD) S = .ok (.bl false) S := by rw [opNotIn_dct, hg]; rfl
      have hi : opIx (.dct kD dD) (.str l) S = .ok (kd o) S := opIx_dct hg
      obtain ⟨hc, hlen, hP2⟩ := hC k (by simp) _ (lkP_mem hl) hS hP (by omega)
      simp only at hc hlen
      have hS2 : (S.set q (fO (matchK k o F).1))[q]? = some (fO (matchK k o F).1) := sto_set hS
      obtain ⟨x4', x5', e⟩ := lmt_loop (v0 := v0) (v1 := v1) hgk (ks := ks) (ls := ls) (x4 := some (.str l)) (x5 := some (kd k)) (by simpa using h) hS2 hP2 (by omega) fun k hk => hC k (by simp [hk])
      rw [List.set_set] at e
      cases hb : (matchK k o F).2 with
      | true =>
        refine ⟨x4', x5', ?_⟩
        rw [hb] at hc
        simp only [hb, if_true]
        rw [← e]
        simp [loopB_eq, hn, hi, hc]
      | false =>
        refine ⟨x4', x5', ?_⟩
        rw [hb] at hc
        simp [loopB_eq, hn, hi, hc, hb]
open Classical in
theorem setd_eq {q : Nat} {S : Sto} {F : Fm} {n : Int} {d : D} {m : Nat} (h : S[q]? = some (fO F)) (hz : F.length < 100000) (hd : ∃ as, d = .tup as) (hq : pq m d = true) (hm : m ≤ 64) (hF : ∀ e, lkF F n = some e → pq m e = true) :
    kSetd (.ref q) (.int n) d S = .ok ((lkF F n).getD d) (S.set q (fO (putFm F n d).1)) ∧ ∀ U, opEq ((lkF F n).getD d) d U = .ok (.bl (putFm F n d).2) U := by
  refine ⟨kSetd_F h hz, fun U => ?_⟩
  obtain ⟨as, rfl⟩ := hd
  cases hk : lkF F n with
  | none =>
    have hp : (putFm F n (.tup as)).2 = true := by simp only [putFm, hk]
    rw [hp, Option.getD_none]
    rw [opEq_of (eqD_pq hq hq hm scal_tup)]
    simp
  | some e =>
    have hp : (putFm F n (.tup as)).2 = decide (e = .tup as) := by simp only [putFm, hk]
    rw [hp, Option.getD_some]
    exact opEq_of (eqD_pq (hF e hk) hq hm (by cases e <;> rfl))
theorem kd_tup (k : K) : ∃ as, kd k = .tup as := by cases k <;> exact ⟨_, rfl⟩

theorem gfa_pq {l : OL} {d : D} (h : GFa 12 l d) : pq 40 d = true := by
  cases l with
  | none => obtain ⟨k, e, h1, h2⟩ := h; subst e; exact pq_mono _ (by omega) (vk_pq h1)
  | some w =>
    obtain ⟨ls, ks, r, e, h1, h2, _⟩ := h
    subst e
    have := vk_pq h1
    rw [kd, show 3 * 11 = 32 + 1 by rfl, pq] at this
    simp only [List.all_cons, List.all_nil, Bool.and_true, Bool.and_eq_true] at this
    refine pq_mono (n := 33) _ (by omega) ?_
    rw [show 33 = 32 + 1 by rfl, pq]
    simp only [List.all_cons, List.all_nil, Bool.and_true, Bool.and_eq_true]
    exact this.2
theorem more_comp {grd : Sto → Prop} {S : Sto} {g : Gm} {t : Tm} {e : Em} {δ : PM.Loc} {ls ls' : List Str} {ks' : List K} (h : ls'.length = ks'.length) (hg : grd S)
    (hh : ∀ p ∈ ls'.zip ks', ∃ δ', g (.tup [.str p.1, kd p.2]) δ S = .ok δ' S ∧ t δ' S = .ok (!decide (p.1 ∈ ls)) S ∧ e δ' S = .ok (.tup [.str p.1, kd p.2]) S) : compM grd g t e δ [] (fldD ls' (kds ks')) S = .ok (.lst ((moreM ls (ls'.zip ks')).map fd)) S := by
  rw [fld_zipK h, comp_filtm (i := fun p : Str × K => .tup [.str p.1, kd p.2]) (p := fun p => !decide (p.1 ∈ ls)) (f := fun p => .tup [.str p.1, kd p.2]) hg _ _ fun p hp => by
    obtain ⟨δ', h1, h2, h3⟩ := hh p hp
    exact ⟨δ', h1, h2, fun _ => h3⟩]
  rfl
theorem more_len {ls ls' : List Str} {ks' : List K} : (moreM ls (ls'.zip ks')).length ≤ ks'.length := Nat.le_trans (List.length_filter_le _ _) (by rw [List.length_zip]; exact Nat.min_le_right _ _)
theorem fds_eq {S : Sto} {n : Nat} {xs : List (Str × K)} (h : pq n (.tup (xs.map fd)) = true) (hn : n ≤ 64) : opEq (.tup (xs.map fd)) (.tup []) S = .ok (.bl xs.isEmpty) S := by
  have e : pq n (.tup []) = true := by cases n with | zero => cases h | succ n => rfl
  rw [opEq_of (eqD_pq h e hn scal_tup)]
  cases xs with
  | nil => simp
  | cons x xs => simp
theorem match_ok {q : Nat} : ∀ (n : Nat) {j m : Nat} {S : Sto} {k o : K} {F : Fm}, VK n k → VK m o → m ≤ 11 → kn o ≤ 200 → n ≤ j → S[q]? = some (fO F) → F.length + kn k ≤ 5000 → (∀ p ∈ F, pq 40 p.2 = true) →
    run j .match [kd k, kd o, .ref q] S = .ok (.bl (matchK k o F).2) (S.set q (fO (matchK k o F).1)) := by
  have b1 : ¬ Str.ofString "number" = Str.ofString "blank" := by decide +kernel
  intro n
  induction n with
  | zero => intro j m S k o F h; cases h
  | succ n ih =>
    intro j m S k o F h ho hm hz hj hS hl hF
    obtain ⟨j, rfl⟩ : ∃ i, j = i + 1 := ⟨j - 1, by omega⟩
    rw [run_succ]
    simp only [body, fin, slots, runB, b_match]
    cases h with
    | num => cases ho <;> simp [kd, finRaw, matchK, set_get hS]
    | blk hi =>
      rename_i i
      have hlk : ∀ e, lkF F i = some e → pq 40 e = true := fun e he => hF _ (lkF_mem he)
      obtain ⟨h1, h2⟩ := setd_eq (n := i) hS (by omega) (kd_tup o) (pq_mono _ (show 3 * m ≤ 40 by omega) (vk_pq ho)) (by omega) hlk
      simp [kd, mD3, isDct_dI hS, h1, h2, finRaw, matchK]
    | rc h1 h2 h3 h4 h5 =>
      rename_i ls ks r
      cases ho with
      | num => simp [kd, finRaw, matchK, set_get hS]
      | blk hi => simp [kd, finRaw, matchK, set_get hS]
      | rc g1 g2 g3 g4 g5 =>
        rename_i m ls' ks' r'
        have hkz : kns ks' ≤ 200 := by rw [kn] at hz; omega
        rw [kn] at hl
        have ho : VK (m + 1) (.rc ls' ks' r') := .rc g1 g2 g3 g4 g5
        have hgk : ∀ l, getK (ls'.map (Sum.inr : Str → Key)) (kds ks') (.inr l) = (lkP (ls'.zip ks') l).map kd := fun l => by
          have := getK_lkP (ls'.zip ks') l
          rwa [zip_fst g1, zip_sndL g1] at this
        have hth : ∀ p ∈ ls'.zip ks', ∃ m, VK m p.2 ∧ m ≤ 11 ∧ kn p.2 ≤ 200 := fun p hp => ⟨m, g4 _ (zip_mem hp).2, by omega, by have := kns_mem (zip_mem hp).2; omega⟩
        have hkp : Kept (fun _ d => pq 40 d = true) F (matchKs ks ls (ls'.zip ks') F).1 (kns ks) := matchKs_kept ks ls hth fun x hx d hd => gfa_pq hd
        simp [kd, cDict_fld (show ls'.length = (kds ks').length by rw [kds_len]; exact g1) (asc_nodup g2)]
        generalize hL : loopM _ _ _ _ _ = z
        obtain ⟨x4', e⟩ := mt_loop (C := run j) (v0 := some (.tup [.str "record", .tup (fldD ls (kds ks)), rD0 r])) (v1 := some (.tup [.str "record", .tup (fldD ls' (kds ks')), rD0 r'])) (x4 := none) (P := fun F => ∀ p ∈ F, pq 40 p.2 = true) hgk h1 hS hF (by omega) fun k hk p hp {S F} a b c => by
          have kp : Kept (fun _ d => pq 40 d = true) F (matchK k p.2 F).1 (kn k) := by
            obtain ⟨m', q1, q2, q3⟩ := hth p hp
            exact matchK_kept k q1 q2 q3 fun x hx d hd => gfa_pq hd
          exact ⟨ih (h4 k hk) (g4 _ (zip_mem hp).2) (by omega) (by have := kns_mem (zip_mem hp).2; omega) (by omega) a c b, kp.len, kp.ok b⟩
        rw [e] at hL
        subst hL
        simp only [matchK]
        cases hb : (matchKs ks ls (ls'.zip ks') F).2 with
        | false => simp [finRaw]
        | true =>
          have hS2 : (S.set q (fO (matchKs ks ls (ls'.zip ks') F).1))[q]? = some (fO (matchKs ks ls (ls'.zip ks') F).1) := sto_set hS
          have hl2 := hkp.len
          have hF2 := hkp.ok hF
          generalize (matchKs ks ls (ls'.zip ks') F).1 = F2 at *
          simp [wipeD]
          rw [labs_comp h1 trivial (fun p _ => ⟨_, rfl, rfl, by simp⟩)]
          simp [wipeD]
          rw [more_comp (ls := ls) g1 trivial (fun p _ => ⟨_, rfl, by simp [wD, opNotIn_strs], by simp⟩)]
          have hgf := more_gf (ls := ls) ho (by omega) hkz
          have hpq := gfa_pq hgf
          generalize (moreM ls (ls'.zip ks')) = more at *
          have hpq2 : pq 39 (.tup (more.map fd)) = true := by
            rw [show 40 = 39 + 1 by rfl, pq] at hpq
            simp only [List.all_cons, Bool.and_eq_true] at hpq
            exact hpq.1
          cases r with
          | none =>
            have hee := fun U => fds_eq (S := U) hpq2 (by omega)
            simp [rD0, isNon, hee, restM]
            cases more.isEmpty with
            | false => simp [finRaw]
            | true => cases r' <;> simp [rD0, finRaw, isNon]
          | some i =>
            have hlk : ∀ e, lkF F2 i = some e → pq 40 e = true := fun e he => hF2 _ (lkF_mem he)
            obtain ⟨q1, q2⟩ := setd_eq (n := i) hS2 (by omega) ⟨_, rfl⟩ hpq (by omega) hlk
            simp only [List.set_set] at q1
            have e0 : rD0 (some i) = .int i := rfl
            simp [e0, isNon, mD3, isDct_dI hS2, q1, q2, restM, finRaw]

end K_k04
end
section
namespace K_k04
open PySem L2 PM
theorem mine_in {ls : List Str} {ks : List K} (h : ls.length = ks.length) (l : Str) (S : Sto) : opNotIn (.str l) (.dct (ls.map .inr) (kds ks)) S = .ok (.bl (!decide (l ∈ ls))) S := by
  have hg := getK_lkP (ls.zip ks) l
  rw [zip_fst h, zip_sndL h] at hg
  rw [opNotIn_dct, hg]
  have : (lkP (ls.zip ks) l).isSome = decide (l ∈ ls) := by
    rw [Bool.eq_iff_iff, decide_eq_true_iff]
    constructor
    · intro e
      obtain ⟨k, hk⟩ := Option.isSome_iff_exists.mp e
      exact (zip_mem (lkP_mem hk)).1
    · intro e
      cases hk : lkP (ls.zip ks) l with
      | some k => rfl
      | none =>
        exfalso
        clear hg
        induction ls generalizing ks with
        | nil => cases e
        | cons x ls ih =>
          cases ks with
          | nil => cases h
          | cons k ks =>
            simp only [List.zip_cons_cons, lkP] at hk
            split at hk
            · cases hk
            · rename_i ne
              rcases List.mem_cons.mp e with e | e
              · exact ne e.symm
              · exact ih (by simpa using h) e hk
  rw [← this]
  cases lkP (ls.zip ks) l <;> rfl
theorem kd_num_eq {n m : Nat} {o : K} (h : VK m o) (hm : m ≤ 11) (S : Sto) : opEq (kd .num) (kd o) S = .ok (.bl (match o with | .num => true | _ => false)) S := by
  have e1 : pq 33 (kd .num) = true := pq_mono (n := 3) _ (by omega) (vk_pq (d := 1) .num)
  have e2 : pq 33 (kd o) = true := pq_mono _ (by omega) (vk_pq h)
  rw [opEq_of (eqD_pq e1 e2 (by omega) (by simp only [kd]; exact scal_tup))]
  cases o with
  | num => simp
  | blk i => simp [kd]
  | rc _ _ _ => simp [kd]
theorem lmatch_ok {q : Nat} : ∀ (n : Nat) {j m : Nat} {S : Sto} {k o : K} {F : Fm}, n ≤ 13 → VK n k → VK m o → m ≤ 11 → kn o ≤ 200 → n ≤ j → S[q]? = some (fO F) → F.length + kn k ≤ 5000 → (∀ p ∈ F, pq 40 p.2 = true) →
    run j ._law_match [kd k, kd o, .ref q] S = .ok (.bl (matchK k o F).2) (S.set q (fO (matchK k o F).1)) := by
  intro n
  induction n with
  | zero => intro j m S k o F _ h; cases h
  | succ n ih =>
    intro j m S k o F hn h ho hm hz hj hS hl hF
    obtain ⟨j, rfl⟩ : ∃ i, j = i + 1 := ⟨j - 1, by omega⟩
    rw [run_succ]
    simp only [body, fin, slots, runB, b__law_match]
    cases h with
    | num =>
      have := kd_num_eq (n := 0) ho hm S
      cases ho <;> simp [kd] at this <;> simp [kd, finRaw, matchK, set_get hS, this]
    | blk hi =>
      rename_i i
      have hlk : ∀ e, lkF F i = some e → pq 40 e = true := fun e he => hF _ (lkF_mem he)
      obtain ⟨h1, h2⟩ := setd_eq (n := i) hS (by omega) (kd_tup o) (pq_mono _ (show 3 * m ≤ 40 by omega) (vk_pq ho)) (by omega) hlk
      simp [kd, mD3, isDct_dI hS, h1, h2, finRaw, matchK]
    | rc h1 h2 h3 h4 h5 =>
      rename_i ls ks r
      have hkk : VK (n + 1) (.rc ls ks r) := .rc h1 h2 h3 h4 h5
      cases ho with
      | num =>
        have e2 : pq (3 * (n + 1)) (kd .num) = true := pq_mono (n := 3) _ (by omega) (vk_pq (d := 1) .num)
        have he := opEq_of (eqD_pq (S := S) (vk_pq hkk) e2 (by omega) (by simp only [kd]; exact scal_tup))
        have : ¬ kd (.rc ls ks r) = kd .num := by simp [kd]
        simp [this] at he
        simp [kd] at he
        simp [kd, finRaw, matchK, set_get hS, he]
      | blk hi =>
        rename_i m i
        have e2 : pq (3 * (n + 1)) (kd (.blk i)) = true := pq_mono (n := 3) _ (by omega) (vk_pq (d := 1) (.blk hi))
        have he := opEq_of (eqD_pq (S := S) (vk_pq hkk) e2 (by omega) (by simp only [kd]; exact scal_tup))
        have : ¬ kd (.rc ls ks r) = kd (.blk i) := by simp [kd]
        simp [this] at he
        simp [kd] at he
        simp [kd, finRaw, matchK, set_get hS, he]
      | rc g1 g2 g3 g4 g5 =>
        rename_i m ls' ks' r'
        have hkz : kns ks' ≤ 200 := by rw [kn] at hz; omega
        rw [kn] at hl
        have ho : VK (m + 1) (.rc ls' ks' r') := .rc g1 g2 g3 g4 g5
        have hgk : ∀ l, getK (ls'.map (Sum.inr : Str → Key)) (kds ks') (.inr l) = (lkP (ls'.zip ks') l).map kd := fun l => by
          have := getK_lkP (ls'.zip ks') l
          rwa [zip_fst g1, zip_sndL g1] at this
        have hth : ∀ p ∈ ls'.zip ks', ∃ m, VK m p.2 ∧ m ≤ 11 ∧ kn p.2 ≤ 200 := fun p hp => ⟨m, g4 _ (zip_mem hp).2, by omega, by have := kns_mem (zip_mem hp).2; omega⟩
        have hkp : Kept (fun _ d => pq 40 d = true) F (matchKs ks ls (ls'.zip ks') F).1 (kns ks) := matchKs_kept ks ls hth fun x hx d hd => gfa_pq hd
        simp [kd, cDict_fld (show ls'.length = (kds ks').length by rw [kds_len]; exact g1) (asc_nodup g2)]
        generalize hL : loopM _ _ _ _ _ = z
        obtain ⟨x4', x5', e⟩ := lmt_loop (C := run j) (v0 := some (.tup [.str "record", .tup (fldD ls (kds ks)), rD0 r])) (v1 := some (.tup [.str "record", .tup (fldD ls' (kds ks')), rD0 r'])) (x4 := none) (x5 := none) (P := fun F => ∀ p ∈ F, pq 40 p.2 = true) hgk h1 hS hF (by omega) fun k hk p hp {S F} a b c => by
          have kp : Kept (fun _ d => pq 40 d = true) F (matchK k p.2 F).1 (kn k) := by
            obtain ⟨m', q1, q2, q3⟩ := hth p hp
            exact matchK_kept k q1 q2 q3 fun x hx d hd => gfa_pq hd
          exact ⟨ih (by omega) (h4 k hk) (g4 _ (zip_mem hp).2) (by omega) (by have := kns_mem (zip_mem hp).2; omega) (by omega) a c b, kp.len, kp.ok b⟩
        rw [e] at hL
        subst hL
        simp only [matchK]
        cases hb : (matchKs ks ls (ls'.zip ks') F).2 with
        | false => simp [finRaw]
        | true =>
          have hS2 : (S.set q (fO (matchKs ks ls (ls'.zip ks') F).1))[q]? = some (fO (matchKs ks ls (ls'.zip ks') F).1) := sto_set hS
          have hl2 := hkp.len
          have hF2 := hkp.ok hF
          generalize (matchKs ks ls (ls'.zip ks') F).1 = F2 at *
          simp [wipeD, cDict_fld (show ls.length = (kds ks).length by rw [kds_len]; exact h1) (asc_nodup h2)]
          rw [more_comp (ls := ls) g1 trivial (fun p _ => ⟨_, rfl, by simp [mine_in h1], by simp⟩)]
          have hgf := more_gf (ls := ls) ho (by omega) hkz
          have hpq := gfa_pq hgf
          generalize (moreM ls (ls'.zip ks')) = more at *
          cases r with
          | none =>
            have hee : ∀ U, opEq (.tup [.tup (more.map fd), rD0 r']) (.tup [.tup [], .non]) U = .ok (.bl (more.isEmpty && r'.isNone)) U := fun U => by
              rw [opEq_of (eqD_pq hpq (show pq 40 (.tup [.tup [], .non]) = true by decide +kernel) (by omega) scal_tup)]
              cases more <;> cases r' <;> simp [rD0]
            cases r' <;> simp [rD0] at hee <;> simp [rD0, isNon, hee, restM, finRaw]
          | some i =>
            have hlk : ∀ e, lkF F2 i = some e → pq 40 e = true := fun e he => hF2 _ (lkF_mem he)
            obtain ⟨q1, q2⟩ := setd_eq (n := i) hS2 (by omega) ⟨_, rfl⟩ hpq (by omega) hlk
            simp only [List.set_set] at q1
            have e0 : rD0 (some i) = .int i := rfl
            simp [e0, isNon, mD3, isDct_dI hS2, q1, q2, restM, finRaw]

end K_k04
end
section
namespace K_k04
open PySem L2 PM
def Its (S : Sto) (x : D) (ds : List D) : Prop := x = .lst ds ∨ x = .tup ds ∨ ∃ n, x = .ref n ∧ S[n]? = some (.lst ds)
theorem ar_loop {C : Cs} {q : Nat} {v0 : Option D} {grd : Sto → Prop} {tail : List D} : ∀ {os : List K} {S : Sto} {m : Mp} {x2 : Option D}, (∀ m, grd (S.set q (mpO m))) → S[q]? = some (mpO m) → MpOk m → MpOk (occs os) → m.length + (occs os).length ≤ 1000 →
    (∀ o ∈ os, ∀ U, C .is_kind_in [kd o, .int 12] U = .ok (.bl true) U) → (∀ k ∈ os, ∀ {S : Sto} {m : Mp}, S[q]? = some (mpO m) → MpOk m → MpOk (occ k) → m.length + (occ k).length ≤ 1000 → C .blanks_in [kd k, .ref q] S = .ok (.bl (pa m (occ k)).2) (S.set q (mpO (pa m (occ k)).1))) →
    ((pa m (occs os)).2 = true → ∃ x2', loopM grd (loopB (gmName 2) (sIf (mOr (mNot (mT (mApp (C .is_kind_in) (mCons (mV 2) (mCons (mC (.int 12)) mNil))))) (mNot (mT (mApp (C .blanks_in) (mCons (mV 2) (mCons (mV 1) mNil)))))) (sRet (mC (.bl false))) sPass)) (os.map kd ++ tail) [v0, some (.ref q), x2] S =
      loopM grd (loopB (gmName 2) (sIf (mOr (mNot (mT (mApp (C .is_kind_in) (mCons (mV 2) (mCons (mC (.int 12)) mNil))))) (mNot (mT (mApp (C .blanks_in) (mCons (mV 2) (mCons (mV 1) mNil)))))) (sRet (mC (.bl false))) sPass)) tail [v0, some (.ref q), x2'] (S.set q (mpO (pa m (occs os)).1))) ∧
    ((pa m (occs os)).2 = false → ∃ m', loopM grd (loopB (gmName 2) (sIf (mOr (mNot (mT (mApp (C .is_kind_in) (mCons (mV 2) (mCons (mC (.int 12)) mNil))))) (mNot (mT (mApp (C .blanks_in) (mCons (mV 2) (mCons (mV 1) mNil)))))) (sRet (mC (.bl false))) sPass)) (os.map kd ++ tail) [v0, some (.ref q), x2] S = .rt (.bl false) (S.set q (mpO m')))
  | [], S, m, x2, hg, hS, hm, ho, hz, hK, hC => by
    rw [occs, pa]
    exact ⟨fun _ => ⟨x2, by rw [set_get hS]; rfl⟩, fun h => nomatch h⟩
  | o :: os, S, m, x2, hg, hS, hm, ho, hz, hK, hC => by
    rw [occs] at ho hz
    rw [List.length_append] at hz
    have ho1 : MpOk (occ o) := fun p hp => ho p (by simp [hp])
    have ho2 : MpOk (occs os) := fun p hp => ho p (by simp [hp])
    have e1 := hC o (by simp) hS hm ho1 (by omega)
    have hS2 : (S.set q (mpO (pa m (occ o)).1))[q]? = some (mpO (pa m (occ o)).1) := sto_set hS
    have hl := pa_len (occ o) m
    have hg0 : grd S := by have := hg m; rwa [set_get hS] at this
    have hk := hK o (by simp) S
    obtain ⟨i1, i2⟩ := ar_loop (v0 := v0) (grd := grd) (tail := tail) (os := os) (x2 := some (kd o)) (fun m' => by rw [List.set_set]; exact hg m') hS2 (pa_ok hm ho1) ho2 (by omega) (fun o h => hK o (by simp [h])) (fun k h => hC k (by simp [h]))
    simp only [List.set_set] at i1 i2
    rw [occs, pa_app, List.map_cons, List.cons_append, loopM, if_pos hg0]
    simp only
    cases h5 : (pa m (occ o)).2 with
    | true =>
      rw [h5] at e1
      rw [Bool.true_and]
      refine ⟨fun h => ?_, fun h => ?_⟩
      · obtain ⟨x2', e⟩ := i1 h
        refine ⟨x2', ?_⟩
        rw [← e]
        simp [loopB_eq, hk, e1]
      · obtain ⟨m', e⟩ := i2 h
        refine ⟨m', ?_⟩
        rw [← e]
        simp [loopB_eq, hk, e1]
    | false =>
      rw [h5] at e1
      rw [Bool.false_and]
      refine ⟨fun h => (Bool.false_ne_true h).elim, fun _ => ⟨(pa m (occ o)).1, ?_⟩⟩
      simp [loopB_eq, hk, e1]
theorem kns_occs (os : List K) : (occs os).length ≤ kns os := by
  induction os with
  | nil => simp [occs, kns]
  | cons o os ih => rw [occs, kns, List.length_append]; have := occ_len o; omega
theorem occs_ok {n : Nat} {os : List K} (h : ∀ o ∈ os, VK n o) : MpOk (occs os) := by
  induction os with
  | nil => intro p hp; cases hp
  | cons o os ih =>
    intro p hp
    rw [occs] at hp
    rcases List.mem_append.mp hp with hp | hp
    · exact occ_ok n (h o (by simp)) p hp
    · exact ih (fun o ho => h o (by simp [ho])) p hp
theorem its_src {S T : Sto} {x : D} {ds : List D} {δ : PM.Loc} {e : Em} (h : Its S x ds) (he : e δ (S ++ T) = .ok x (S ++ T)) : ∃ grd : Sto → Prop, sItems e δ (S ++ T) = .ok (ds, grd) (S ++ T) ∧ ∀ U, grd (S ++ U) := by
  rw [sItems_eq, he]
  rcases h with rfl | rfl | ⟨n, rfl, hn⟩
  · exact ⟨_, rfl, fun _ => trivial⟩
  · exact ⟨_, rfl, fun _ => trivial⟩
  · have hlt := (List.getElem?_eq_some_iff.mp hn).1
    have : ∀ U : Sto, (S ++ U)[n]? = some (.lst ds) := fun U => by rw [List.getElem?_append_left hlt]; exact hn
    refine ⟨fun S => S[n]? = some (.lst ds), ?_, this⟩
    simp only [R.bind_ok, this]
theorem kns_isum : ∀ os : List K, (os.map fun o => ((kn o : Nat) : Int)).sum = ((kns os : Nat) : Int)
  | [] => rfl
  | o :: os => by rw [List.map_cons, List.sum_cons, kns_isum os, kns]; omega
theorem are_ok {j n : Nat} {S : Sto} {x : D} {os : List K} {tail : List D} (hx : Its S x (os.map kd ++ tail)) (hv : ∀ o ∈ os, VK n o) (hn : n ≤ 12) (hz : kns os ≤ 900) (ht : tail = [] ∨ ∃ d r m, tail = d :: r ∧ th m d = true ∧ kindIn 12 d = false) :
    run (j + 30) .are_kinds [x] S = .ok (.bl (tail.isEmpty && ((pa [] (occs os)).2 && decide (kns os ≤ 200)))) S := by
  have hf : ∀ b (T : Sto), finFrz 0 S (.ok (.bl b) (S ++ T)) = .ok (.bl b) S := fun b T => finFrz_app rfl
  have hS : (S ++ [mpO []])[S.length]? = some (mpO []) := sto_snoc
  have hoc := kns_occs os
  have hK : ∀ o ∈ os, ∀ U, run (j + 29) .is_kind_in [kd o, .int 12] U = .ok (.bl true) U := fun o ho U => by
    have h1 := (hv o ho).dple
    have h2 := kindin_ok 12 (j := j + 29) (S := U) (vk_th (hv o ho) (by have := kns_mem ho; omega)) (by omega)
    rw [kindIn_dp 12 (hv o ho), decide_eq_true (by omega)] at h2
    exact h2
  rw [run_succ]
  simp only [body, fin, slots, runB, b_are_kinds]
  have e0 : (S ++ [MO.dK [] []]) = S ++ [mpO []] := rfl
  obtain ⟨grd, g1, g2⟩ := its_src (T := [mpO []]) (e := mV 0) (δ := [some x, some (.ref S.length), none]) hx rfl
  have hgs : ∀ m, grd ((S ++ [mpO []]).set S.length (mpO m)) := fun m => by rw [sto_snoc_set]; exact g2 _
  obtain ⟨i1, i2⟩ := ar_loop (C := run (j + 29)) (q := S.length) (v0 := some x) (tail := tail) (os := os) (x2 := none) hgs hS (fun p hp => by cases hp) (occs_ok hv) (by simp; omega) hK fun k hk {S m} a b c d => blanks_ok n (hv k hk) (by omega) a b c d
  simp only [sto_snoc_set] at i1 i2
  simp only [List.replicate, List.length_cons, List.length_nil, List.map_cons, List.map_nil, List.cons_append, List.nil_append] at *
  simp [e0, -sItems_eq]
  rw [g1]
  simp only [R.into_ok]
  cases hp : (pa [] (occs os)).2 with
  | false =>
    obtain ⟨m', e⟩ := i2 hp
    rw [e]
    simp [hf]
  | true =>
    obtain ⟨x2', e⟩ := i1 hp
    rw [e]
    rcases ht with rfl | ⟨d, r, m, rfl, ht1, ht2⟩
    · rw [loopM, if_pos (g2 _)]
      obtain ⟨grd2, g3, g4⟩ := its_src (T := [mpO (pa [] (occs os)).1]) (e := mV 0) (δ := [some x, some (.ref S.length), x2']) hx rfl
      rw [List.append_nil] at g3
      simp only [mComp_eq, RS.seq_nx, sRet_eq, mB_eq, mApp_eq, mCons_eq, mNil_eq, g3, R.bind_ok, wipeD]
      rw [comp_map (i := kd) (f := fun o => .int (kn o : Nat)) (hg := g4 _) (h := fun o ho => ⟨_, rfl, rfl, by simp [knots_ok n (hv o ho) (show n ≤ j + 29 by omega)]⟩), List.nil_append]
      have hs : ∀ U, cSum [.lst (os.map fun o => D.int ((kn o : Nat) : Int))] U = .ok (.int (kns os : Nat)) U := fun U => by
        rw [cSum_map, kns_isum]
      simp [hs, hf]
      omega
    · rw [loopM, if_pos (g2 _)]
      have hk : ∀ U, run (j + 29) .is_kind_in [d, .int 12] U = .ok (.bl false) U := fun U => by
        have h2 := kindin_ok 12 (j := j + 29) (S := U) ht1 (by omega)
        rw [ht2] at h2
        exact h2
      simp [loopB_eq, hk, hf]

end K_k04
end
section
namespace K_k04
open PySem L2 PM
theorem fill_match {fks : List Key} {fds : List D} : ∀ (n : Nat) {m : Nat} {k o : K} {F : Fm}, VK n k → VK m o → m ≤ 11 → kn o ≤ 200 → kn k ≤ 200 → (matchK k o F).2 = true → (∀ i d, lkF (matchK k o F).1 i = some d → getK fks fds (.inl i) = some d) →
    ∀ f j S, n ≤ j → S[f]? = some (.dK fks fds) → run j .fill [kd k, .ref f] S = .ok (kd o) S := by
  intro n
  induction n with
  | zero => intro m k o F h; cases h
  | succ n ih =>
    intro m k o F h ho hm hoz hkz hq hG f j S hj hS
    obtain ⟨j, rfl⟩ : ∃ i, j = i + 1 := ⟨j - 1, by omega⟩
    rw [run_succ]
    simp only [body, fin, slots, runB, b_fill]
    cases h with
    | num =>
      cases o with
      | num => simp [kd, finRaw]
      | blk i => simp [matchK] at hq
      | rc _ _ _ => simp [matchK] at hq
    | blk hi =>
      rename_i i
      rw [matchK] at hq hG
      have hg := hG i _ (put_hit hq)
      simp [kd, opIn_dI hS, hg, opIx_dI hS hg, finRaw]
    | rc h1 h2 h3 h4 h5 =>
      rename_i ls ks r
      cases o with
      | num => simp [matchK] at hq
      | blk i => simp [matchK] at hq
      | rc ls' ks' r' =>
        cases ho with
        | rc g1 g2 g3 g4 g5 =>
        rename_i m
        simp only [matchK] at hq hG
        split at hq
        case isFalse => cases hq
        rename_i hb
        rw [if_pos hb] at hG
        have hoz' : kns ks' ≤ 200 := by rw [kn] at hoz; omega
        have hkz' : kns ks ≤ 200 := by rw [kn] at hkz; omega
        have hth : ∀ p ∈ ls'.zip ks', ∃ m, VK m p.2 ∧ m ≤ 11 ∧ kn p.2 ≤ 200 := fun p hp => ⟨m, g4 _ (zip_mem hp).2, by omega, by have := kns_mem (zip_mem hp).2; omega⟩
        have hget := matchKs_get ks ls h1 hth hb
        generalize hF2 : (matchKs ks ls (ls'.zip ks') F).1 = F2 at *
        have hext : FE F2 (restM r (moreM ls (ls'.zip ks')) r' F2).1 := by
          unfold restM
          split
          · exact .refl
          · exact put_ext
        have hrun : ∀ p ∈ ls.zip ks, ∃ o, lkP (ls'.zip ks') p.1 = some o ∧ run j .fill [kd p.2, .ref f] S = .ok (kd o) S := fun p hp => by
          obtain ⟨o, F1, q1, q2, q3⟩ := hget p hp
          obtain ⟨m', v1, v2, v3⟩ := hth _ (lkP_mem q1)
          exact ⟨o, q1, ih (h4 _ (zip_mem hp).2) v1 v2 v3 (by have := kns_mem (zip_mem hp).2; omega) q2 (fun i d e => hG i d (hext i d (q3 i d e))) f j S (by omega) hS⟩
        have hcomp : ∀ δ0 : PM.Loc, (δ0 = [some (kd (.rc ls ks r)), some (.ref f), none, none, none]) → compM (fun _ => True) (gmName 3) mYes (mApp newTup (mCons (mB opIx (mV 3) (mC (.int 0))) (mCons (mApp (run j .fill) (mCons (mB opIx (mV 3) (mC (.int 1))) (mCons (mV 1) mNil))) mNil))) δ0 [] (fldD ls (kds ks)) S = .ok (.lst (((ls.zip ks).map fun p => (p.1, (lkP (ls'.zip ks') p.1).getD .num)).map fd)) S := fun δ0 e => by
          subst e
          rw [fld_zipK h1, comp_map (i := fun p : Str × K => .tup [.str p.1, kd p.2]) (f := fun p => .tup [.str p.1, kd ((lkP (ls'.zip ks') p.1).getD .num)]) (hg := trivial) (h := fun p hp => ⟨_, rfl, rfl, by
            obtain ⟨o, q1, q2⟩ := hrun p hp
            simp [q1, q2]⟩), List.nil_append, List.map_map]; rfl
        have hin : ∀ l ∈ ls, l ∈ ls' := fun l hl => by
          have : l ∈ (ls.zip ks).map (·.1) := by rw [zip_fst h1]; exact hl
          obtain ⟨p, hp, e⟩ := List.mem_map.mp this
          obtain ⟨o, q1, _⟩ := hrun p hp
          rw [← e]; exact (zip_mem (lkP_mem q1)).1
        have hnd' : ((ls'.zip ks').map (·.1)).Nodup := by rw [zip_fst g1]; exact asc_nodup g2
        have hy1 : ((ls.zip ks).map fun p => (p.1, (lkP (ls'.zip ks') p.1).getD .num)).map (·.1) = ls := by rw [List.map_map]; exact zip_fst h1
        have hyz : ∀ p ∈ ((ls.zip ks).map fun p => (p.1, (lkP (ls'.zip ks') p.1).getD .num)), lkP (ls'.zip ks') p.1 = some p.2 := fun p hp => by
          obtain ⟨x, hx, e⟩ := List.mem_map.mp hp
          obtain ⟨o, q1, _⟩ := hrun x hx
          subst e
          simp only [q1, Option.getD_some]
        generalize ((ls.zip ks).map fun p => (p.1, (lkP (ls'.zip ks') p.1).getD .num)) = ys at hcomp hy1 hyz
        have hmz : ∀ p ∈ moreM ls (ls'.zip ks'), lkP (ls'.zip ks') p.1 = some p.2 := fun p hp => lkP_of hnd' (List.mem_filter.mp hp).1
        have hnz : ((ys ++ moreM ls (ls'.zip ks')).map (·.1)).Nodup := by
          rw [List.map_append, hy1]
          refine List.nodup_append.mpr ⟨asc_nodup h2, ?_, fun a ha b hb e => ?_⟩
          · have : ((moreM ls (ls'.zip ks')).map (·.1)).Sublist ((ls'.zip ks').map (·.1)) := List.filter_sublist.map _
            exact hnd'.sublist this
          · obtain ⟨p, hp, e2⟩ := List.mem_map.mp hb
            have := (List.mem_filter.mp hp).2
            simp only [Bool.not_eq_true', decide_eq_false_iff_not] at this
            exact this (by rw [e2, ← e]; exact ha)
        have hmem : ∀ l, l ∈ (ys ++ moreM ls (ls'.zip ks')).map (·.1) ↔ l ∈ ls' := fun l => by
          rw [List.map_append, hy1, List.mem_append]
          constructor
          · rintro (e | e)
            · exact hin l e
            · obtain ⟨p, hp, e2⟩ := List.mem_map.mp e
              rw [← e2]; exact (zip_mem (List.mem_filter.mp hp).1).1
          · intro e
            by_cases c : l ∈ ls
            · exact .inl c
            · right
              have : l ∈ (ls'.zip ks').map (·.1) := by rw [zip_fst g1]; exact e
              obtain ⟨p, hp, e2⟩ := List.mem_map.mp this
              exact List.mem_map.mpr ⟨p, List.mem_filter.mpr ⟨hp, by simp [e2, c]⟩, e2⟩
        have hrec := recK_of (r := r') g1 g2 hnz hmem fun p hp => by
          rcases List.mem_append.mp hp with e | e
          · exact hyz p e
          · exact hmz p e
        have hst : ∀ S, cSortedF [.lst ((ys ++ moreM ls (ls'.zip ks')).map fd)] S = .ok (.lst (fldD ls' (kds ks'))) S := fun S => by
          have e1 : ((ys ++ moreM ls (ls'.zip ks')).map fd).all isFld = true := by rw [List.all_map, List.all_eq_true]; exact fun _ _ => rfl
          have e2 : ((ys ++ moreM ls (ls'.zip ks')).map fd).map labD = (ys ++ moreM ls (ls'.zip ks')).map (·.1) := by rw [List.map_map]; rfl
          rw [recK] at hrec
          injection hrec with r1 r2
          simp only [cSortedF, rdL, asL, e1, e2, true_and, if_pos hnz, sortF_fd, r1]
          rw [r1] at r2
          rw [r2]
        have hlen : ys.length ≤ 200 := by have := congrArg List.length hy1; rw [List.length_map] at this; have := kns_len ks; omega
        have hlen2 : (moreM ls (ls'.zip ks')).length ≤ 200 := Nat.le_trans more_len (by have := kns_len ks'; omega)
        generalize (moreM ls (ls'.zip ks')) = more at *
        simp [kd, wipeD]
        rw [hcomp _ (by simp [kd])]
        cases r with
        | none =>
          simp only [restM, Bool.and_eq_true, List.isEmpty_iff, Option.isNone_iff_eq_none] at hq
          obtain ⟨e1, e2⟩ := hq
          subst e1 e2
          rw [List.append_nil] at hst
          simp [rD0, isNon, hst, finRaw]
        | some i =>
          simp only [restM] at hq hG
          have hg := hG i _ (put_hit hq)
          have hadd : ∀ S, opAdd (.lst (ys.map fd)) (.lst (more.map fd)) S = .ok (.lst (ys.map fd ++ more.map fd)) S := fun S => by
            rw [opAdd_lst (by rw [List.length_map, List.length_map]; exact Nat.le_trans (show _ ≤ 1000000 by omega) szl)]
          rw [List.map_append] at hst
          have e0 : rD0 (some i) = .int i := rfl
          simp [e0, isNon, opIn_dI hS, hg, opIx_dI hS hg, hadd, hst, finRaw]

end K_k04
end
section
namespace K_k04
open PySem L2 PM
theorem its_len {S T : Sto} {x : D} {ds : List D} (h : Its S x ds) : lenOf x (S ++ T) = some ds.length := by
  rcases h with rfl | rfl | ⟨n, rfl, hn⟩
  · rfl
  · rfl
  · have hlt := (List.getElem?_eq_some_iff.mp hn).1
    have : (S ++ T)[n]? = some (.lst ds) := by rw [List.getElem?_append_left hlt]; exact hn
    simp only [lenOf, this]
theorem its_ix {S T : Sto} {x d : D} {ds : List D} {i : Nat} (h : Its S x ds) (hi : ds[i]? = some d) : opIx x (.int i) (S ++ T) = .ok d (S ++ T) := by
  rcases h with rfl | rfl | ⟨n, rfl, hn⟩
  · simp [hi]
  · simp [hi]
  · have hlt := (List.getElem?_eq_some_iff.mp hn).1
    have : (S ++ T)[n]? = some (.lst ds) := by rw [List.getElem?_append_left hlt]; exact hn
    rw [opIx_ref this]
    simp [hi]
theorem Its.app {S T : Sto} {x : D} {ds : List D} (h : Its S x ds) : Its (S ++ T) x ds := by
  rcases h with h | h | ⟨n, rfl, hn⟩
  · exact .inl h
  · exact .inr (.inl h)
  · exact .inr (.inr ⟨n, rfl, by rw [List.getElem?_append_left (List.getElem?_eq_some_iff.mp hn).1]; exact hn⟩)
/-- good kinds beside one another -/
structure Gks (n : Nat) (ks : List K) : Prop where
  vk : ∀ k ∈ ks, VK n k
  sz : kns ks ≤ 200
  con : (pa [] (occs ks)).2 = true
theorem Gks.are {j n : Nat} {S : Sto} {x : D} {ks : List K} (h : Gks n ks) (hn : n ≤ 12) (hx : Its S x (ks.map kd)) : run (j + 30) .are_kinds [x] S = .ok (.bl true) S := by
  have := are_ok (j := j) (tail := []) (by rw [List.append_nil]; exact hx) h.vk hn (by have := h.sz; omega) (.inl rfl)
  rw [h.con, decide_eq_true h.sz] at this
  exact this
theorem fits_bad {j : Nat} {S : Sto} {x y : D} {a : Bool} (h1 : run (j + 39) .are_kinds [x] S = .ok (.bl a) S) (h2 : a = true → run (j + 39) .are_kinds [y] S = .ok (.bl false) S) : run (j + 40) .fits [x, y] S = .exc ⟨"BadKind", [], []⟩ S := by
  rw [run_succ]
  simp only [body, fin, slots, runB, b_fits]
  cases a with
  | true => simp [h1, h2 rfl, sRaise, finRaw]
  | false => simp [h1, sRaise, finRaw]
theorem fits_ok {j n m : Nat} {S : Sto} {x y : D} {ks os : List K} (hx : Its S x (ks.map kd)) (hy : Its S y (os.map kd)) (hk : Gks n ks) (ho : Gks m os) (hn : n ≤ 12) (hm : m ≤ 11) :
    (ks.length ≠ os.length → run (j + 40) .fits [x, y] S = .ok .non (S ++ [fO []])) ∧
    (ks.length = os.length → ((matchL ks os []).2 = true → run (j + 40) .fits [x, y] S = .ok (.ref S.length) (S ++ [fO (matchL ks os []).1])) ∧ ((matchL ks os []).2 = false → ∃ T, run (j + 40) .fits [x, y] S = .ok .non (S ++ T))) := by
  have h1 := hk.are (j := j + 9) hn hx
  have h2 := ho.are (j := j + 9) (by omega) hy
  have e0 : (S ++ [MO.dK [] []]) = S ++ [fO []] := rfl
  have l1 := its_len (T := [fO []]) hx
  have l2 := its_len (T := [fO []]) hy
  rw [List.length_map] at l1 l2
  rw [run_succ]
  simp only [body, fin, slots, runB, b_fits]
  constructor
  · intro hne
    have hne' : ¬ ((ks.length : Nat) : Int) = os.length := by omega
    simp [h1, h2, e0, l1, l2, hne', finRaw]
  · intro heq
    have heq' : ((ks.length : Nat) : Int) = os.length := by omega
    have hth : ∀ o ∈ os, ∃ m, VK m o ∧ m ≤ 11 ∧ kn o ≤ 200 := fun o h => ⟨m, ho.vk o h, hm, by have := kns_mem h; have := ho.sz; omega⟩
    simp [h1, h2, e0, l1, l2, heq']
    generalize hL : loopM _ _ _ _ _ = r
    have hlp := loop_ret hL (fun i δ S' => S' = S ++ [fO (matchL (ks.take i) (os.take i) []).1] ∧ (∃ x3, δ = [some x, some y, some (.ref S.length), x3]) ∧ (matchL (ks.take i) (os.take i) []).2 = true)
      (fun r => (∃ T, r = .rt .non (S ++ T)) ∧ (matchL ks os []).2 = false) ⟨by rw [List.take_zero, List.take_zero, matchL]; all_goals (intros; contradiction), ⟨_, rfl⟩, by rw [List.take_zero, List.take_zero, matchL]; all_goals (intros; contradiction)⟩ fun i d δ S' hd hI => by
        obtain ⟨e1, ⟨x3, e2⟩, h3⟩ := hI
        obtain ⟨hlt, ed⟩ := rangeD_get' hd
        subst e1 e2 ed
        have hi : i < os.length := by omega
        obtain ⟨k, hk1⟩ : ∃ k, ks[i]? = some k := ⟨_, List.getElem?_eq_getElem hlt⟩
        obtain ⟨o, ho1⟩ : ∃ o, os[i]? = some o := ⟨_, List.getElem?_eq_getElem hi⟩
        have hst := matchL_step (F := []) heq hk1 ho1
        rw [h3] at hst
        simp only [if_true] at hst
        have kp : Kept (fun _ d => pq 40 d = true) [] (matchL (ks.take i) (os.take i) []).1 (kns (ks.take i)) := matchL_kept _ _ (fun o h => hth o (List.mem_of_mem_take h)) fun x hx d hd => gfa_pq hd
        have hF := kp.ok (fun p hp => nomatch hp)
        have hlen := kp.len
        have hkt : kns (ks.take i) ≤ kns ks := kns_sub (List.take_sublist _ _)
        have hks := hk.sz
        have hkm := List.mem_of_getElem? hk1
        have hom := List.mem_of_getElem? ho1
        have hq : (S ++ [fO (matchL (ks.take i) (os.take i) []).1])[S.length]? = some (fO (matchL (ks.take i) (os.take i) []).1) := sto_snoc
        have hmt := match_ok (q := S.length) n (j := j + 39) (hk.vk k hkm) (ho.vk o hom) hm (by have := kns_mem hom; have := ho.sz; omega) (by omega) hq (by simp at hlen; have := kns_mem hkm; omega) hF
        rw [sto_snoc_set] at hmt
        have i1 := its_ix (T := [fO (matchL (ks.take i) (os.take i) []).1]) (i := i) hx (by rw [List.getElem?_map, hk1]; rfl)
        have i2 := its_ix (T := [fO (matchL (ks.take i) (os.take i) []).1]) (i := i) hy (by rw [List.getElem?_map, ho1]; rfl)
        generalize (matchL (ks.take i) (os.take i) []).1 = F1 at *
        cases hb : (matchK k o F1).2 with
        | true =>
          rw [hb] at hmt
          refine .inl ⟨_, _, .inl ?_, rfl, ⟨some (.int i), rfl⟩, by rw [hst, hb]⟩
          rw [hst]
          simp [loopB_eq, i1, i2, hmt]
        | false =>
          rw [hb] at hmt
          refine .inr (.inl ⟨.non, S ++ [fO (matchK k o F1).1], ?_, ⟨_, rfl⟩, matchL_take heq (by rw [hst]; exact hb)⟩)
          simp [loopB_eq, i1, i2, hmt]
    have hln : (rangeD 0 ks.length).length = ks.length := rangeD_length
    rcases hlp with ⟨δ', S', e, eS, ⟨x3, eδ⟩, hb⟩ | ⟨⟨T, e⟩, hb⟩
    · rw [hln, List.take_length, heq, List.take_length] at eS hb
      subst e eS eδ
      refine ⟨fun _ => by simp [finRaw], fun h => ?_⟩
      rw [hb] at h; cases h
    · subst e
      refine ⟨fun h => ?_, fun _ => ⟨T, by simp [finRaw]⟩⟩
      rw [hb] at h; cases h
theorem lone_ok {j : Nat} {S : Sto} {y : Str} {a : Addr} (hy : y = "BadFill" ∨ y = "TooGreat" ∨ y = "BadKind") : runE (j + 1) ._law_lone a y [.exn a] S = .ok (.bl true) S := by
  show finRaw S (runB (bodyE a y ._law_lone) (slotsE ._law_lone) [.exn a] S) = _
  simp only [bodyE, slotsE, runB, b__law_lone]
  rcases hy with rfl | rfl | rfl <;> simp [isx, opIsE, cIntB, finRaw]
theorem refused_ok {j : Nat} {S : Sto} {x y : D} (h : run (j + 5) .fits [x, y] S = .exc ⟨"BadKind", [], []⟩ S) : run (j + 6) ._law_refused [x, y] S = .ok (.bl true) S := by
  have hl : ∀ a, runE (j + 5) ._law_lone a "BadKind" [.exn a] S = .ok (.bl true) S := fun a => lone_ok (.inr (.inr rfl))
  have hf : finFrz 0 S (.ok (.bl true) S) = .ok (.bl true) S := by
    have := finFrz_app (k := 0) (S := S) (T := []) (d := .bl true) rfl
    rwa [List.append_nil] at this
  rw [run_succ]
  simp only [body, fin, slots, runB, b__law_refused]
  rw [sSeq_eq, sTryAs_exc (y := "BadKind") (δ' := [some x, some y, none]) (S' := S) (d := .bl true) (S2 := S) (by simp [h]) (by unfold okX; simp) (fun a => by
    simp [hl a]
    simp [isx, opIsE, hl a])]
  simp [hf]

end K_k04
end
section
namespace K_k04
open PySem L2 PM
theorem pa_true_look : ∀ (r m : Mp) (o : Int × OL), look m o.1 = some o.2 → look (pa m r).1 o.1 = some o.2
  | [], m, o, h => h
  | p :: r, m, o, h => by
    rw [pa]
    refine pa_true_look r _ o ?_
    unfold putB
    split
    · have : ∀ (m : Mp) (x : Int × OL), look m o.1 = some o.2 → look (m ++ [x]) o.1 = some o.2 := fun m x h => by
        induction m with
        | nil => cases h
        | cons q m ih =>
          simp only [List.cons_append, look] at h ⊢
          split
          · rename_i e; rw [if_pos e] at h; exact h
          · rename_i e; rw [if_neg e] at h; exact ih h
      exact this _ _ h
    · exact h
theorem pa_true : ∀ (r m : Mp), (pa m r).2 = true → ∀ o ∈ r, look (pa m r).1 o.1 = some o.2
  | p :: r, m, h, o, ho => by
    rw [pa] at h ⊢
    simp only [Bool.and_eq_true] at h
    rcases List.mem_cons.mp ho with e | e
    · subst e
      refine pa_true_look r _ o ?_
      have h1 := h.1
      unfold putB at h1 ⊢
      split
      · rename_i hk
        clear h h1
        induction m with
        | nil => simp [look]
        | cons q m ih =>
          simp only [look] at hk
          split at hk
          · cases hk
          · rename_i ne
            simp only [List.cons_append, look, if_neg ne]
            exact ih hk
      · rename_i l hk
        rw [hk] at h1
        rw [hk, of_decide_eq_true h1]
    · exact pa_true r _ h.2 o e
theorem pa_con' {r : Mp} (h : (pa [] r).2 = true) : Con r := fun o ho u hu e => by
  have h1 := pa_true r [] h o ho
  have h2 := pa_true r [] h u hu
  rw [e, h2] at h1
  exact (Option.some.inj h1).symm
theorem occ_occs {ks : List K} {k : K} (h : k ∈ ks) : ∀ o ∈ occ k, o ∈ occs ks := fun o ho => by
  induction ks with
  | nil => cases h
  | cons x ks ih =>
    rw [occs]
    rcases List.mem_cons.mp h with e | e
    · subst e; exact List.mem_append_left _ ho
    · exact List.mem_append_right _ (ih e)
/-- a list, or an object that is one -/
def ItL (S : Sto) (x : D) (ds : List D) : Prop := x = .lst ds ∨ ∃ n, x = .ref n ∧ S[n]? = some (.lst ds)
theorem ItL.its {S : Sto} {x : D} {ds : List D} (h : ItL S x ds) : Its S x ds := by
  rcases h with h | h
  · exact .inl h
  · exact .inr (.inr h)
theorem ItL.app {S T : Sto} {x : D} {ds : List D} (h : ItL S x ds) : ItL (S ++ T) x ds := by
  rcases h with h | ⟨n, rfl, hn⟩
  · exact .inl h
  · exact .inr ⟨n, rfl, by rw [List.getElem?_append_left (List.getElem?_eq_some_iff.mp hn).1]; exact hn⟩
theorem ItL.tp {S : Sto} {x : D} {ds : List D} {es : List PyData} (h : ItL S x ds) (he : ∀ rc S, tps rc S ds = some es) : tp (tpk S 1) S x = some (.list es) := by
  rcases h with rfl | ⟨n, rfl, hn⟩
  · simp only [PM.tp, he, Option.map_some]
  · simp only [PM.tp, hn, tpk, he, Option.map_some]
theorem kds_lay {n : Nat} {ks : List K} (h : ∀ k ∈ ks, VK n k) (hn : n ≤ 20) : ∃ es, (∀ rc S, tps rc S (ks.map kd) = some es) ∧ PyData.canLayAll0 es = true ∧ PyData.depthAll es ≤ 60 := by
  obtain ⟨es, h1, h2, h3⟩ := tpl_of (n := 3 * n) (fun d hd => pl_tp d hd) (ks.map kd) (by rw [List.all_map, List.all_eq_true]; exact fun k hk => vk_pl (h k hk))
  exact ⟨es, h1, h2, by omega⟩
theorem ne_list {S : Sto} {x y : D} {n : Nat} {ks : List K} (hx : ItL S x (ks.map kd)) (hy : ItL S y (ks.map kd)) (h : ∀ k ∈ ks, VK n k) (hn : n ≤ 20) (hs : scalD x y = none) : opNe x y S = .ok (.bl false) S := by
  obtain ⟨es, h1, h2, h3⟩ := kds_lay h hn
  have e1 : tpd S x = some (.list es) := hx.tp h1
  have e2 : tpd S y = some (.list es) := hy.tp h1
  have sh : SeqAt.shaped (.list es) = true := shaped_of (n := 61) (by simpa only [PyData.canLay0] using h2) (by simp only [PyData.depth]; omega) (by omega)
  have eq : PyData.eqv (.list es) (.list es) = true := SeqAt.eqv_refl _ (by simpa only [PyData.canLay0] using h2)
  rw [opNe_of (k := true)]; · rfl
  unfold eqD
  simp only [hs, e1, e2, sh, and_self, if_true, eq]
theorem ne_hand {S : Sto} {x1 y1 x2 y2 : D} {n : Nat} {ks os : List K} (hx : ItL S x1 (ks.map kd)) (hy : ItL S y1 (ks.map kd)) (gx : ItL S x2 (os.map kd)) (gy : ItL S y2 (os.map kd)) (h : ∀ k ∈ ks, VK n k) (g : ∀ k ∈ os, VK n k) (hn : n ≤ 20) : opNe (.lst [x1, x2]) (.lst [y1, y2]) S = .ok (.bl false) S := by
  obtain ⟨es, h1, h2, h3⟩ := kds_lay h hn
  obtain ⟨fs, g1, g2, g3⟩ := kds_lay g hn
  have e1 : tpd S (.lst [x1, x2]) = some (.list [.list es, .list fs]) := by simp only [tpd, PM.tp, PM.tps, hx.tp h1, gx.tp g1, Option.bind_some, Option.map_some]
  have e2 : tpd S (.lst [y1, y2]) = some (.list [.list es, .list fs]) := by simp only [tpd, PM.tp, PM.tps, hy.tp h1, gy.tp g1, Option.bind_some, Option.map_some]
  have lay : PyData.canLay0 (.list [.list es, .list fs]) = true := by simp only [PyData.canLay0, PyData.canLayAll0, h2, g2, Bool.and_self]
  have sh : SeqAt.shaped (.list [.list es, .list fs]) = true := shaped_of (n := 62) lay (by simp only [PyData.depth, PyData.depthAll]; omega) (by omega)
  have eq : PyData.eqv (.list [.list es, .list fs]) (.list [.list es, .list fs]) = true := SeqAt.eqv_refl _ lay
  rw [opNe_of (k := true)]; · rfl
  unfold eqD
  simp only [scalD, e1, e2, sh, and_self, if_true, eq]
theorem same_fO {S : Sto} {a b : Nat} {F : Fm} (ha : S[a]? = some (fO F)) (hb : S[b]? = some (fO F)) (hn : NdF F) (hp : ∀ p ∈ F, pq 40 p.2 = true) : SameK S (.ref a) (.ref b) := by
  refine ⟨a, b, _, _, rfl, rfl, ha, hb, ?_, fun d hd => ?_⟩
  · have : (F.map fun p => (Sum.inl p.1 : Key)) = (F.map (·.1)).map Sum.inl := by rw [List.map_map]; rfl
    rw [this]
    exact List.Pairwise.map _ (fun x y h e => h (Sum.inl.inj e)) hn
  · obtain ⟨p, h1, e⟩ := List.mem_map.mp hd
    subst e
    obtain ⟨e, h2, h3, h4⟩ := pl_tp p.2 (pq_pl _ (hp p h1))
    exact ⟨e, h2 _ _, shaped_of h3 h4 (by omega), SeqAt.eqv_refl _ h3⟩

end K_k04
end
section
namespace K_k04
open PySem L2 PM
theorem filled_ok {j n m f : Nat} {S : Sto} {ks os : List K} {k o : K} {i : Nat} (hk : ∀ k ∈ ks, VK n k) (hks : kns ks ≤ 200) (hkc : Con (occs ks)) (ho : ∀ k ∈ os, VK m k) (hos : kns os ≤ 200) (hoc : Con (occs os)) (hn : n ≤ 11) (hm : m ≤ 11)
    (hq : (matchL ks os []).2 = true) (h1 : ks[i]? = some k) (h2 : os[i]? = some o) (hf : S[f]? = some (fO (matchL ks os []).1)) : run (j + 40) .filled [kd k, .ref f] S = .ok (kd o) S := by
  have hkm := List.mem_of_getElem? h1
  have hom := List.mem_of_getElem? h2
  have hth : ∀ o ∈ os, ∃ m, VK m o ∧ m ≤ 11 ∧ kn o ≤ 200 := fun o h => ⟨m, ho o h, hm, by have := kns_mem h; omega⟩
  have hlt := (List.getElem?_eq_some_iff.mp hf).1
  obtain ⟨F1, q1, q2⟩ := matchL_get ks os hth hq i k o h1 h2
  have kp : Kept (fun i d => ∃ l, (i, l) ∈ occs ks ∧ GFa 12 l d) [] (matchL ks os []).1 (kns ks) := matchL_kept ks os hth fun x hx d hd => ⟨x.2, hx, hd⟩
  have hF := kp.ok (fun p hp => nomatch hp)
  have hG : ∀ u ∈ occ k, ∀ d, getK ((matchL ks os []).1.map fun p => (Sum.inl p.1 : Key)) ((matchL ks os []).1.map fun p => p.2) (.inl u.1) = some d → GFa 12 u.2 d := fun u hu d hd => by
    rw [getK_lkF] at hd
    obtain ⟨l, g1, g2⟩ := hF _ (lkF_mem hd)
    have := hkc u (occ_occs hkm u hu) _ g1 rfl
    rw [this]; exact g2
  have hkn : kn k ≤ 200 := by have := kns_mem hkm; omega
  have hon : kn o ≤ 200 := by have := kns_mem hom; omega
  have key := filled_bad (j := j) (k' := o) hlt hf (hk k hkm) (by omega) hkn (con_sub hkc (occ_occs hkm)) (fun u hu d hd => gf_th ((hG u hu d hd).gf (by omega))) (A := False) (B := True) (fun h => h.elim) fun _ => ⟨fun u hu d hd => (hG u hu d hd).isf (by omega), (ho o hom).mono (by omega), fun j S hj hS => fill_match n (hk k hkm) (ho o hom) hm hon hkn q1 (fun i d e => by rw [getK_lkF]; exact q2 i d e) f j S (by omega) hS⟩
  have hr := key.2 trivial
  have hdp := (ho o hom).dple
  rw [show rzK o = .made o from by unfold rzK; rw [if_pos ⟨hon, by omega⟩, if_pos (pa_con _ [] (con_sub hoc (occ_occs hom))).1]] at hr
  exact hr
theorem gks_of {n : Nat} {ks : List K} (h1 : ∀ k ∈ ks, VK n k) (h2 : kns ks ≤ 200) (h3 : Con (occs ks)) : Gks n ks := ⟨h1, h2, (pa_con _ [] h3).1⟩
theorem isi_dk {S : Sto} {f : Nat} {ks : List Key} {ds : List D} (h : S[f]? = some (.dK ks ds)) : opIsi "dict" (.ref f) S = .ok (.bl true) S := by
  simp only [opIsi, tyN, h]; exact isiK_dd
theorem its_list {S : Sto} {x : D} {ds : List D} (h : ItL S x ds) : cList [x] S = .ok (.lst ds) S ∧ cListR [x] S = .ok (.ref S.length) (S ++ [.lst ds]) ∧ cTuple [x] S = .ok (.tup ds) S := by
  rcases h with rfl | ⟨n, rfl, hn⟩
  · exact ⟨rfl, rfl, rfl⟩
  · exact ⟨by simp only [cList, rdS, rdL, asL, hn], by simp only [cListR, rdS, rdL, asL, hn], cTuple_ref hn⟩
theorem agrees_ok {j : Nat} {S : Sto} {kx ox due : D} {ks os : List K} (hx : ItL S kx (ks.map kd)) (hy : ItL S ox (os.map kd)) (hk : ∀ k ∈ ks, VK 11 k) (hks : kns ks ≤ 200) (hkc : Con (occs ks)) (ho : ∀ k ∈ os, VK 11 k) (hos : kns os ≤ 200) (hoc : Con (occs os))
    (hl : ks.length = os.length) (hd : ((matchL ks os []).2 = true ∧ ∃ d, due = .ref d ∧ S[d]? = some (fO (matchL ks os []).1)) ∨ (matchL ks os []).2 = false ∧ due = .non) : run (j + 42) ._law_agrees [kx, ox, due] S = .ok (.bl true) S := by
  have hth : ∀ o ∈ os, ∃ m, VK m o ∧ m ≤ 11 ∧ kn o ≤ 200 := fun o h => ⟨11, ho o h, by omega, by have := kns_mem h; omega⟩
  have kp : Kept (fun _ d => pq 40 d = true) [] (matchL ks os []).1 (kns ks) := matchL_kept ks os hth fun x hx d hd => gfa_pq hd
  have hF := kp.ok (fun p hp => nomatch hp)
  have hFn : NdF (matchL ks os []).1 := kp.nd (List.Pairwise.nil)
  have hFl := kp.len
  have hf : ∀ T, finFrz 0 S (.ok (.bl true) (S ++ T)) = .ok (.bl true) S := fun T => finFrz_app rfl
  have gk := gks_of hk hks hkc
  have go := gks_of ho hos hoc
  obtain ⟨a1, a2, a3⟩ := its_list hx
  obtain ⟨b1, b2, b3⟩ := its_list (hy.app (T := [.lst (ks.map kd)]))
  have hx1 : ItL (S ++ [.lst (ks.map kd)]) (.ref S.length) (ks.map kd) := .inr ⟨_, rfl, sto_snoc⟩
  obtain ⟨f1, f2⟩ := ((fits_ok (j := j + 1) (S := S ++ [.lst (ks.map kd)]) (x := .ref S.length) (y := .lst (os.map kd)) hx1.its (.inl rfl) gk go (by omega) (by omega)).2 hl)
  rw [run_succ]
  simp only [body, fin, slots, runB, b__law_agrees]
  simp [a2, b1]
  rcases hd with ⟨hq, d, rfl, hS⟩ | ⟨hq, rfl⟩
  · have r1 := f1 hq
    have hlt := (List.getElem?_eq_some_iff.mp hS).1
    have hres : ∀ i k o, ks[i]? = some k → os[i]? = some o → ∀ {T : Sto} {f : Nat}, T[f]? = some (fO (matchL ks os []).1) → run (j + 41) .filled [kd k, .ref f] T = .ok (kd o) T := fun i k o h1 h2 {T f} hT => by
      have := filled_ok (j := j + 1) hk hks hkc ho hos hoc (by omega) (by omega) hq h1 h2 hT
      exact this
    have g1 := fun T => (fits_ok (j := j + 1) (S := S ++ T) (x := kx) (y := .tup (os.map kd)) (hx.app.its) (.inr (.inl rfl)) gk go (by omega) (by omega)).2 hl
    generalize (matchL ks os []).1 = F at *
    have l1 : (S ++ [MO.lst (ks.map kd)]).length = S.length + 1 := by simp
    have hS2 : (S ++ [MO.lst (ks.map kd), fO F])[S.length + 1]? = some (fO F) := by simp
    have hS3 : (S ++ [MO.lst (ks.map kd), fO F])[d]? = some (fO F) := by rw [List.getElem?_append_left hlt]; exact hS
    have n1 := ne_hand (S := S ++ [MO.lst (ks.map kd), fO F]) (x1 := .ref S.length) (y1 := kx) (.inr ⟨_, rfl, by simp⟩) hx.app (.inl rfl) hy.app hk ho (by omega)
    have hs1 : SameK (S ++ [MO.lst (ks.map kd), fO F]) (.ref (S.length + 1)) (.ref d) := same_fO hS2 hS3 hFn hF
    have n2 : opNeK (.ref (S.length + 1)) (.ref d) (S ++ [MO.lst (ks.map kd), fO F]) = .ok (.bl false) (S ++ [MO.lst (ks.map kd), fO F]) := by unfold opNeK; rw [if_pos hs1]
    have i1 := isi_dk hS2
    have i2 := isi_dk hS3
    obtain ⟨gr1, gr2⟩ := g1 (MO.lst [] :: [MO.dK (insK (F.map fun p => (Sum.inl p.1 : Key)) (.inl (-1))) (insD (F.map fun p => (Sum.inl p.1 : Key)) (F.map fun p => p.2) (.inl (-1)) (.str "more"))])
    have r2 := gr1 hq
    rw [l1, List.append_assoc] at r1
    simp only [List.cons_append, List.nil_append] at r1
    have hcomp : ∀ (grd : Sto → Prop) (δ0 : PM.Loc), grd (S ++ [MO.lst (ks.map kd), fO F]) → (∃ a b c e, δ0 = [a, b, c, e, some (.ref (S.length + 1)), none]) → compM grd (gmName 5) mYes (mApp (run (j + 41) .filled) (mCons (mV 5) (mCons (mV 4) mNil))) δ0 [] (ks.map kd) (S ++ [MO.lst (ks.map kd), fO F]) = .ok (.lst (os.map kd)) (S ++ [MO.lst (ks.map kd), fO F]) := fun grd δ0 hg ⟨a, b, c, e, e0⟩ => by
      subst e0
      have e1 : ks.map kd = (ks.zip os).map fun p => kd p.1 := by rw [show (fun p : K × K => kd p.1) = kd ∘ Prod.fst from rfl, ← List.map_map, List.map_fst_zip (by omega)]
      have e2 : os.map kd = (ks.zip os).map fun p => kd p.2 := by rw [show (fun p : K × K => kd p.2) = kd ∘ Prod.snd from rfl, ← List.map_map, List.map_snd_zip (by omega)]
      conv => lhs; arg 7; rw [e1]
      rw [comp_map (i := fun p : K × K => kd p.1) (f := fun p => kd p.2) (hg := hg) (h := fun p hp => ⟨_, rfl, rfl, by
        obtain ⟨i, hi⟩ := List.getElem?_of_mem hp
        obtain ⟨h1, h2⟩ := List.getElem?_zip_eq_some.mp hi
        simp [hres i p.1 p.2 h1 h2 hS2]⟩), List.nil_append, ← e2]
    have n3 := ne_list (S := S ++ [MO.lst (ks.map kd), fO F]) (x := .lst (os.map kd)) (y := ox) (.inl rfl) hy.app ho (by omega) (by rcases hy with rfl | ⟨n, rfl, _⟩ <;> rfl)
    have hss : opSet (.ref (S.length + 1)) (.int (-1)) (.str "more") (S ++ [MO.lst (ks.map kd), fO F]) = .ok () (S ++ [MO.lst (ks.map kd), MO.dK (insK (F.map fun p => (Sum.inl p.1 : Key)) (.inl (-1))) (insD (F.map fun p => (Sum.inl p.1 : Key)) (F.map fun p => p.2) (.inl (-1)) (.str "more"))]) := by
      have h' : (S ++ [MO.lst (ks.map kd), fO F])[S.length + 1]? = some (.dK (F.map fun p => .inl p.1) (F.map fun p => p.2)) := hS2
      have hcap : F.length < sizeLine := Nat.lt_of_lt_of_le (by simp at hFl; omega) szl
      simp only [opSet, h', PM.keyOf, List.length_map, if_pos hcap]
      simp
    obtain ⟨c1, c2, c3⟩ := its_list (hy.app (T := [MO.lst [], MO.dK (insK (F.map fun p => (Sum.inl p.1 : Key)) (.inl (-1))) (insD (F.map fun p => (Sum.inl p.1 : Key)) (F.map fun p => p.2) (.inl (-1)) (.str "more"))]))
    generalize MO.dK (insK (F.map fun p => (Sum.inl p.1 : Key)) (.inl (-1))) (insD (F.map fun p => (Sum.inl p.1 : Key)) (F.map fun p => p.2) (.inl (-1)) (.str "more")) = mm at *
    have l3 : (S ++ [MO.lst [], mm]).length = S.length + 2 := by simp
    rw [l3, List.append_assoc] at r2
    simp only [List.cons_append, List.nil_append] at r2
    have hs2 : SameK (S ++ [MO.lst [], mm, fO F]) (.ref (S.length + 2)) (.ref d) := same_fO (by simp) (by rw [List.getElem?_append_left hlt]; exact hS) hFn hF
    have n4 : opEqK (.ref (S.length + 2)) (.ref d) (S ++ [MO.lst [], mm, fO F]) = .ok (.bl true) (S ++ [MO.lst [], mm, fO F]) := by unfold opEqK; rw [if_pos hs2]
    have hcl : ∀ δ, mLClear (mB opIx (mV 3) (mC (.int 0))) [some kx, some ox, some (.ref d), some (.lst [.ref S.length, .lst (os.map kd)]), some (.ref (S.length + 1)), δ] (S ++ [MO.lst (ks.map kd), mm]) = .ok .non (S ++ [MO.lst [], mm]) := fun δ => by
      simp [mLClear]
    obtain ⟨grd, g4, g5⟩ := its_src (T := [MO.lst (ks.map kd), fO F]) (e := mV 0) (δ := [some kx, some ox, some (.ref d), some (.lst [.ref S.length, .lst (os.map kd)]), some (.ref (S.length + 1)), none]) hx.its rfl
    have hmc : mComp (sItems (mV 0)) (gmName 5) mYes (mApp (run (j + 41) .filled) (mCons (mV 5) (mCons (mV 4) mNil))) [5] [some kx, some ox, some (.ref d), some (.lst [.ref S.length, .lst (os.map kd)]), some (.ref (S.length + 1)), none] (S ++ [MO.lst (ks.map kd), fO F]) = .ok (.lst (os.map kd)) (S ++ [MO.lst (ks.map kd), fO F]) := by
      rw [mComp_eq, g4]
      simp only [R.bind_ok, wipeD]
      exact hcomp grd _ (g5 _) ⟨_, _, _, _, rfl⟩
    simp [-sItems_eq, -mComp_eq, r1, n1, n2, i1, i2, isNon, hmc, n3, hss, hcl, c3, r2, n4, hf]
  · obtain ⟨T, r1⟩ := f2 hq
    rw [List.append_assoc] at r1
    simp only [List.cons_append, List.nil_append] at r1
    have n1 := ne_hand (S := S ++ MO.lst (ks.map kd) :: T) (x1 := .ref S.length) (y1 := kx) (x2 := .lst (os.map kd)) (y2 := ox) (.inr ⟨_, rfl, by simp⟩) hx.app (.inl rfl) hy.app hk ho (by omega)
    have n2 : opNeK .non .non (S ++ MO.lst (ks.map kd) :: T) = .ok (.bl false) (S ++ MO.lst (ks.map kd) :: T) := by
      unfold opNeK
      rw [if_neg (fun h => by obtain ⟨m, n, ks, ds, h, _⟩ := h; cases h)]
      rfl
    have i1 : opIsi "dict" .non (S ++ MO.lst (ks.map kd) :: T) = .ok (.bl false) (S ++ MO.lst (ks.map kd) :: T) := by simp
    simp [-sItems_eq, -mComp_eq, r1, n1, n2, i1, isNon, hf]

end K_k04
end
section
namespace K_k04
open PySem L2 PM
def bw (k : Nat) : Str := ⟨#[97 + k / 10, 97 + k % 10]⟩
def bws : List Str := (List.range 100).map bw
theorem bw_lt {a b : Nat} (h : a < b) (hb : b < 100) : ltS (bw a) (bw b) := by
  unfold ltS
  rw [ltC_iff, decide_eq_true_iff]
  show ([97 + a / 10, 97 + a % 10] : List Nat) < [97 + b / 10, 97 + b % 10]
  rw [List.cons_lt_cons_iff]
  by_cases c : a / 10 = b / 10
  · right
    refine ⟨by rw [c], ?_⟩
    rw [List.cons_lt_cons_iff]
    left; omega
  · left; omega
theorem bws_asc : ascS bws = true := by
  rw [ascS_iff, bws, List.pairwise_map]
  refine List.Pairwise.imp_of_mem (R := fun a b => a < b) (fun {a b} ha hb h => bw_lt h (by simpa using hb)) List.pairwise_lt_range
theorem bw_lab {k : Nat} (h : k < 100) : IsLab (bw k) := ⟨fun x hx => by
  have : x ∈ [97 + k / 10, 97 + k % 10] := hx
  simp at this
  rcases this with rfl | rfl <;> omega, by show 1 ≤ 2; omega, by show 2 ≤ 8; omega⟩
def bigK : K := .rc bws (List.replicate 100 .num) none
theorem bws_len : bws.length = 100 := by simp [bws]
theorem kns_rep : ∀ n, kns (List.replicate n .num) = n
  | 0 => rfl
  | n + 1 => by rw [List.replicate_succ, kns, kns_rep n, kn]; omega
theorem occs_rep : ∀ n, occs (List.replicate n .num) = []
  | 0 => rfl
  | n + 1 => by rw [List.replicate_succ, occs, occs_rep n, occ]; rfl
theorem big_kn : kn bigK = 101 := by rw [bigK, kn, kns_rep]
theorem big_occ : occ bigK = [] := by rw [bigK, occ, occs_rep]; rfl
theorem big_vk : VK 2 bigK := .rc (by rw [bws_len, List.length_replicate]) bws_asc (fun l h => by
  obtain ⟨k, hk, e⟩ := List.mem_map.mp h
  rw [← e]; exact bw_lab (by simpa using hk)) (fun k h => by rw [List.eq_of_mem_replicate h]; exact .num) (fun i e => nomatch e)
theorem sgs10 : (Str.ofString "abcdefghij").cps.toList = List.range' 97 10 := by decide +kernel
theorem opIx_10 {S : Sto} {i : Int} (h0 : 0 ≤ i) (h : i < 10) : opIx (.str (Str.ofString "abcdefghij")) (.int i) S = .ok (.str ⟨#[97 + i.toNat]⟩) S := by
  rw [opIx_str, sgs10, atI_of _ h0, List.getElem?_range' (by omega)]
  simp
theorem fld_rep (ls : List Str) : fldD ls (kds (List.replicate ls.length .num)) = ls.map fun l => .tup [.str l, .tup [.str "number"]] := by
  induction ls with
  | nil => rfl
  | cons l ls ih => rw [List.length_cons, List.replicate_succ, kds, fldD_cons, ih]; rfl
theorem big_match : matchL [bigK] [bigK] [] = ([], true) := by
  have hks : ∀ (n : Nat) (ls : List Str) (th : List (Str × K)), ls.length = n → (∀ l ∈ ls, lkP th l = some .num) → matchKs (List.replicate n .num) ls th [] = ([], true) := by
    intro n
    induction n with
    | zero => intro ls th _ _; rw [List.replicate_zero, matchKs]
    | succ n ih =>
      intro ls th h1 h2
      cases ls with
      | nil => cases h1
      | cons l ls =>
        rw [List.replicate_succ, matchKs_cons, h2 l (by simp)]
        simp only [matchK, if_true]
        exact ih ls th (by simpa using h1) fun l hl => h2 l (by simp [hl])
  have hth : ∀ l ∈ bws, lkP (bws.zip (List.replicate 100 .num)) l = some .num := fun l hl => by
    have hlen : bws.length = (List.replicate 100 K.num).length := by rw [bws_len, List.length_replicate]
    obtain ⟨k, hk⟩ := lkP_nodup (th := bws.zip (List.replicate 100 .num)) (l := l) (by rw [zip_fst hlen]; exact asc_nodup bws_asc) (by rw [zip_fst hlen]; exact hl)
    have e : k = .num := List.eq_of_mem_replicate (zip_mem (lkP_mem hk)).2
    rw [hk, e]
  have hmore : moreM bws (bws.zip (List.replicate 100 .num)) = [] := by
    unfold moreM
    rw [List.filter_eq_nil_iff]
    intro p hp
    simp [(zip_mem hp).1]
  have hm : matchK bigK bigK [] = ([], true) := by
    simp only [bigK, matchK, hks 100 bws _ bws_len hth, if_true, hmore, restM]
    rfl
  simp only [matchL, hm, if_true]
theorem big_ok {j : Nat} {S : Sto} : run (j + 50) ._law_big [] S = .ok (.bl true) S := by
  have hf : ∀ T, finFrz 0 S (.ok (.bl true) (S ++ T)) = .ok (.bl true) S := fun T => finFrz_app rfl
  rw [run_succ]
  simp only [body, fin, slots, runB, b__law_big]
  have l1 : limR 0 100 = true := limR_ok (by omega)
  simp [l1, wipeD, rangeD_map]
  rw [comp_map (i := fun k : Nat => D.int (k : Int)) (f := fun k => .str (bw k)) (hg := trivial) (h := fun k hk => by
    have hk : k < 100 := by simpa using hk
    refine ⟨_, rfl, rfl, ?_⟩
    have z : (⟨#[97 + (((k : Nat) : Int) / 10).toNat]⟩ : Str).length + (⟨#[97 + (((k : Nat) : Int) % 10).toNat]⟩ : Str).length ≤ sizeLine := Nat.le_trans (show 1 + 1 ≤ 1000000 by omega) szl
    simp [opDiv_pos, opMod_pos, opIx_10 (show (0 : Int) ≤ (k : Int) / 10 by omega) (by omega), opIx_10 (show (0 : Int) ≤ (k : Int) % 10 by omega) (by omega)]
    rw [opAdd_str z]
    have e := str_app [97 + (((k : Nat) : Int) / 10).toNat] [97 + (((k : Nat) : Int) % 10).toNat]
    have e : (⟨#[97 + (((k : Nat) : Int) / 10).toNat]⟩ : Str) ++ ⟨#[97 + (((k : Nat) : Int) % 10).toNat]⟩ = bw k := by
      rw [show (⟨#[97 + (((k : Nat) : Int) / 10).toNat]⟩ : Str) = ⟨([97 + (((k : Nat) : Int) / 10).toNat] : List Nat).toArray⟩ from rfl, show (⟨#[97 + (((k : Nat) : Int) % 10).toNat]⟩ : Str) = ⟨([97 + (((k : Nat) : Int) % 10).toNat] : List Nat).toArray⟩ from rfl, e]
      unfold bw
      have h1 : (((k : Nat) : Int) / 10).toNat = k / 10 := by omega
      have h2 : (((k : Nat) : Int) % 10).toNat = k % 10 := by omega
      rw [h1, h2]; rfl
    rw [e])]
  simp only [R.bind_ok, R.into_ok, List.nil_append, RS.seq_nx]
  have hw : (List.range 100).map (fun k => D.str (bw k)) = bws.map D.str := by rw [bws, List.map_map]; rfl
  rw [hw]
  simp [wipeD]
  rw [comp_map (i := D.str) (f := fun l => .tup [.str l, .tup [.str "number"]]) (hg := trivial) (h := fun l _ => ⟨_, rfl, rfl, by simp⟩)]
  have hb : D.tup [.str "record", .tup (bws.map fun l => .tup [.str l, .tup [.str "number"]]), .non] = kd bigK := by
    have := fld_rep bws
    rw [bws_len] at this
    rw [bigK, kd, this]; rfl
  have hK : ∀ k ∈ [bigK, bigK], VK 2 k := fun k hk => by simp at hk; rw [hk]; exact big_vk
  have hK1 : ∀ k ∈ [bigK], VK 2 k := fun k hk => by simp at hk; rw [hk]; exact big_vk
  have hB : ∀ k ∈ [K.blk 0], VK 2 k := fun k hk => by simp at hk; rw [hk]; exact .blk (by omega)
  have hkz : kns [bigK, bigK] = 202 := by simp [kns, big_kn]
  have hkz1 : kns [bigK] = 101 := by simp [kns, big_kn]
  have hkc : (pa [] (occs [bigK, bigK])).2 = true := by simp [occs, big_occ, pa]
  have hc1 : Con (occs [bigK]) := by simp [occs, big_occ]; intro o ho; cases ho
  have hcb : Con (occs [K.blk 0]) := by
    intro o ho u hu e
    simp [occs, occ] at ho hu
    rw [ho, hu]
  have r1 : run (j + 47) .are_kinds [.lst [kd bigK, kd bigK]] S = .ok (.bl false) S := by
    have := are_ok (j := j + 17) (S := S) (x := .lst [kd bigK, kd bigK]) (os := [bigK, bigK]) (tail := []) (.inl (by simp)) hK (by omega) (by omega) (.inl rfl)
    rw [hkc, hkz] at this
    exact this
  have r2 : run (j + 47) .are_kinds [.lst [kd (.blk 0)]] S = .ok (.bl true) S :=
    (gks_of hB (by simp [kns, kn]) hcb).are (j := j + 17) (S := S) (x := .lst [kd (.blk 0)]) (by omega) (.inl rfl)
  have f1 := refused_ok (j := j + 43) (S := S) (fits_bad (j := j + 8) (x := .lst [kd bigK, kd bigK]) (y := .lst [kd bigK, kd bigK]) (a := false) r1 (fun h => nomatch h))
  have f2 := refused_ok (j := j + 43) (S := S) (fits_bad (j := j + 8) (x := .lst [kd (.blk 0)]) (y := .lst [kd bigK, kd bigK]) (a := true) r2 (fun _ => r1))
  have f3 := ((fits_ok (j := j + 9) (S := S) (x := .lst [kd bigK]) (y := .lst [kd bigK]) (.inl rfl) (.inl rfl) (gks_of hK1 (by omega) hc1) (gks_of hK1 (by omega) hc1) (by omega) (by omega)).2 rfl).1 (by rw [big_match])
  rw [big_match] at f3
  have hs : SameK (S ++ [fO [], fO []]) (.ref S.length) (.ref (S.length + 1)) := same_fO (F := []) (by simp) (by simp) List.Pairwise.nil (fun p hp => nomatch hp)
  have n4 : opEqK (.ref S.length) (.ref (S.length + 1)) (S ++ [fO [], fO []]) = .ok (.bl true) (S ++ [fO [], fO []]) := by unfold opEqK; rw [if_pos hs]
  have e0 : MO.dK [] [] = fO [] := rfl
  have e1 : D.tup [.str "blank", .int 0] = kd (.blk 0) := rfl
  simp only [R.bind_ok, R.into_ok, List.nil_append, RS.seq_nx, cTuple_lst, newTup_3, hb]
  simp [hb, e1, f1, f2, f3, mNewK, e0, n4, hf]

end K_k04
end
section
namespace K_k04
open PySem L2 PM
theorem fldK_cut {ls : List Str} {vs : List K} {i : Nat} {l : Str} {v w : K} (h : ls.length = vs.length) (h1 : ls[i]? = some l) (h2 : vs[i]? = some v) :
    (fldD ls (kds vs)).take i ++ [.tup [.str l, kd w]] ++ (fldD ls (kds vs)).drop (i + 1) = fldD ls (kds (vs.set i w)) := by
  induction ls generalizing vs i with
  | nil => cases h1
  | cons x ls ih =>
    cases vs with
    | nil => cases h2
    | cons y vs =>
      cases i with
      | zero =>
        simp only [List.getElem?_cons_zero, Option.some.injEq] at h1 h2
        subst h1 h2
        simp [kds, fldD_cons]
      | succ i =>
        simp only [List.getElem?_cons_succ] at h1 h2
        have := ih (by simpa using h) h1 h2
        simp only [kds, fldD_cons, List.take_succ_cons, List.cons_append, List.drop_succ_cons, List.set_cons_succ, this]
def Bn (o o' : K) : Prop := kn o' ≤ kn o + 1 ∧ ∃ x0 : Int × OL, (x0 = (3, none) ∨ ∃ w, x0 = (9999999, some w)) ∧ ∀ u ∈ occ o', u ∈ occ o ∨ u = x0
theorem Bn.small {o o' : K} (h : kn o' ≤ 2) (g : ∀ u ∈ occ o', u = (3, none)) : Bn o o' := ⟨by have := kn_pos o; omega, (3, none), .inl rfl, fun u hu => .inr (g u hu)⟩
theorem occs_sub {a b : List K} (s : a.Sublist b) : ∀ u ∈ occs a, u ∈ occs b := by
  induction s with
  | slnil => exact fun u h => h
  | cons x s ih => intro u h; rw [occs]; exact List.mem_append_right _ (ih u h)
  | cons_cons x s ih =>
    intro u h
    rw [occs] at h ⊢
    rcases List.mem_append.mp h with h | h
    · exact List.mem_append_left _ h
    · exact List.mem_append_right _ (ih u h)
theorem occs_set {x0 : Int × OL} {v w : K} : ∀ {vs : List K} {i : Nat}, vs[i]? = some v → (∀ u ∈ occ w, u ∈ occ v ∨ u = x0) → ∀ u ∈ occs (vs.set i w), u ∈ occs vs ∨ u = x0
  | y :: vs, 0, h, g, u, hu => by
    simp at h; subst h
    rw [List.set_cons_zero, occs] at hu
    rw [occs]
    rcases List.mem_append.mp hu with h | h
    · rcases g u h with h | h
      · exact .inl (List.mem_append_left _ h)
      · exact .inr h
    · exact .inl (List.mem_append_right _ h)
  | y :: vs, i + 1, h, g, u, hu => by
    rw [List.set_cons_succ, occs] at hu
    rw [occs]
    rcases List.mem_append.mp hu with h1 | h1
    · exact .inl (List.mem_append_left _ h1)
    · rcases occs_set (by simpa using h) g u h1 with h | h
      · exact .inl (List.mem_append_right _ h)
      · exact .inr h
theorem kns_set {v w : K} {c : Nat} : ∀ {vs : List K} {i : Nat}, vs[i]? = some v → kn w ≤ kn v + c → kns (vs.set i w) ≤ kns vs + c
  | y :: vs, 0, h, g => by simp at h; subst h; rw [List.set_cons_zero, kns, kns]; omega
  | y :: vs, i + 1, h, g => by
    have := kns_set (vs := vs) (i := i) (by simpa using h) g
    rw [List.set_cons_succ, kns, kns]; omega
theorem occs_perm {a b : List K} (h : a.Perm b) : ∀ u, u ∈ occs a ↔ u ∈ occs b := by
  intro u
  have : ∀ c : List K, u ∈ occs c ↔ ∃ k ∈ c, u ∈ occ k := fun c => by
    induction c with
    | nil => simp [occs]
    | cons k c ih => rw [occs, List.mem_append, ih]; simp
  rw [this, this]
  exact ⟨fun ⟨k, h1, h2⟩ => ⟨k, h.mem_iff.mp h1, h2⟩, fun ⟨k, h1, h2⟩ => ⟨k, h.mem_iff.mpr h1, h2⟩⟩
theorem fk_perm {zs : List (Str × K)} (hn : (zs.map (·.1)).Nodup) : ((sortStr (zs.map (·.1))).map (fk zs)).Perm (zs.map (·.2)) := by
  have h1 : ((sortStr (zs.map (·.1))).map (fk zs)).Perm ((zs.map (·.1)).map (fk zs)) := (sortStr_perm _).map _
  refine h1.trans (List.Perm.of_eq ?_)
  rw [List.map_map]
  refine List.map_congr_left fun p hp => ?_
  have h2 : (p.1, fk zs p.1) ∈ zs := fk_mem (List.mem_map_of_mem hp)
  have h3 := lkP_of hn hp
  have h4 := lkP_of hn h2
  rw [h3] at h4
  exact (Option.some.inj h4).symm
theorem bent_ok {ls : List Str} (h4 : ls.length = 4) (hl : ∀ l ∈ ls, IsLab l) : ∀ (n : Nat) {j : Nat} {S : Sto} {p : Int} {o : K}, n ≤ 12 → VK n o → kn o ≤ 200 → n ≤ j → ∃ o', run j ._law_bent [kd o, .int p, .lst (ls.map .str)] S = .ok (kd o') S ∧ VK (n + 2) o' ∧ Bn o o' := by
  intro n
  induction n with
  | zero => intro j S p o _ h; cases h
  | succ n ih =>
    intro j S p o hn ho hz hj
    obtain ⟨j, rfl⟩ : ∃ i, j = i + 1 := ⟨j - 1, by omega⟩
    rw [run_succ]
    simp only [body, fin, slots, runB, b__law_bent]
    obtain ⟨l0, hl0, e0⟩ := labs_at h4 (show (0 : Int) ≤ 0 by omega) (by omega)
    obtain ⟨lw, hlw, ew⟩ := labs_at h4 (show 0 ≤ p / 5 % 4 by omega) (by omega)
    have hz4 : ∀ a b c d : D, [a, b, c].length + [d].length ≤ sizeLine := fun a b c d => by simp; exact Nat.le_trans (by omega) szl
    have hsm : ∃ o', at1 (atI [kd .num, kd (.rc [] [] none), kd (.blk 3), kd (.rc [l0] [.num] none)] (p / 5 % 4)) S = .ok (kd o') S ∧ VK (n + 1 + 2) o' ∧ Bn o o' := by
      have h3 : p / 5 % 4 = 0 ∨ p / 5 % 4 = 1 ∨ p / 5 % 4 = 2 ∨ p / 5 % 4 = 3 := by omega
      rcases h3 with h | h | h | h <;> rw [h]
      · exact ⟨.num, rfl, .num, .small (by simp [kn]) (fun u hu => nomatch hu)⟩
      · exact ⟨.rc [] [] none, rfl, .rc rfl (by rw [ascS_iff]; exact .nil) (fun l h => nomatch h) (fun k h => nomatch h) (fun i e => nomatch e), .small (by simp [kn, kns]) (fun u hu => nomatch hu)⟩
      · exact ⟨.blk 3, rfl, .blk (by omega), .small (by simp [kn]) (fun u hu => by simpa [occ] using hu)⟩
      · refine ⟨.rc [l0] [.num] none, rfl, .rc rfl ?_ (fun l h => by rw [List.mem_singleton.mp h]; exact hl l0 hl0) (fun k h => by rw [List.mem_singleton.mp h]; exact .num) (fun i e => nomatch e), .small (by simp [kn, kns]) (fun u hu => by simp [occ, occs, restO] at hu)⟩
        rw [ascS_iff]; exact List.pairwise_singleton _ _
    have k1 : kd .num = .tup [.str "number"] := rfl
    have k2 : kd (.rc [] [] none) = .tup [.str "record", .tup [], .non] := rfl
    have k3 : kd (.blk 3) = .tup [.str "blank", .int 3] := rfl
    have k4 : kd (.rc [l0] [.num] none) = .tup [.str "record", .tup [.tup [.str l0, .tup [.str "number"]]], .non] := rfl
    rw [k1, k2, k3, k4] at hsm
    obtain ⟨o0, q1, q2, q3⟩ := hsm
    cases ho with
    | num =>
      refine ⟨o0, ?_, q2, q3⟩
      simp [kd, e0, opAdd_lst (hz4 _ _ _ _), opDiv_pos, opMod_pos, q1, finRaw]
    | blk hi =>
      refine ⟨o0, ?_, q2, q3⟩
      simp [kd, e0, opAdd_lst (hz4 _ _ _ _), opDiv_pos, opMod_pos, q1, finRaw]
    | rc g1 g2 g3 g4 g5 =>
      rename_i fl fs r
      have ho : VK (n + 1) (.rc fl fs r) := .rc g1 g2 g3 g4 g5
      have hfz : kns fs ≤ 199 := by rw [kn] at hz; omega
      have hfl : fs.length ≤ 199 := by have := kns_len fs; omega
      by_cases c1 : p % 5 = 0
      · refine ⟨o0, ?_, q2, q3⟩
        simp [kd, c1, e0, opAdd_lst (hz4 _ _ _ _), opDiv_pos, opMod_pos, q1, finRaw]
      by_cases c2 : p % 5 = 2
      · have hocc : ∀ (r : Option Int), ∀ u ∈ occ (.rc fl fs none), u ∈ occ (.rc fl fs r) := fun r u hu => by
          rw [occ] at hu ⊢
          rcases List.mem_append.mp hu with h | h
          · exact List.mem_append_left _ h
          · cases h
        cases r with
        | none =>
          refine ⟨.rc fl fs (some 9999999), ?_, (VK.rc g1 g2 g3 g4 (fun i e => by cases e; omega) : VK (n + 1) _).mono (by omega), by simp only [kn]; omega, (9999999, some fl), .inr ⟨fl, rfl⟩, fun u hu => ?_⟩
          · simp [kd, c2, rD0, isNon, opMod_pos, finRaw]
          · rw [occ] at hu
            rcases List.mem_append.mp hu with h | h
            · left; rw [occ]; exact List.mem_append_left _ h
            · right; simpa [restO] using h
        | some i =>
          refine ⟨.rc fl fs none, ?_, (VK.rc g1 g2 g3 g4 (fun i e => nomatch e) : VK (n + 1) (.rc fl fs none)).mono (by omega), by simp only [kn]; omega, (3, none), .inl rfl, fun u hu => .inl (hocc _ u hu)⟩
          simp [kd, c2, rD0, isNon, opMod_pos, finRaw]
      have hpq : pq 64 (.tup ((fl.zip fs).map fd)) = true := by
        have := vk_pq ho
        have e : 3 * (n + 1) = (3 * n + 2) + 1 := by omega
        rw [kd, e, pq] at this
        simp only [List.all_cons, List.all_nil, Bool.and_true, Bool.and_eq_true] at this
        rw [fld_zipK g1] at this
        exact pq_mono (n := 3 * n + 2) _ (by omega) this.2.1
      have hemp := fds_eq (S := S) hpq (by omega)
      have hff : fldD fl (kds fs) = (fl.zip fs).map fd := fld_zipK g1
      have hze : (fl.zip fs).length = fl.length := by rw [List.length_zip]; omega
      by_cases c3 : (fl.zip fs).isEmpty = true ∨ p % 5 = 1
      · have c3' : (fl.zip fs).isEmpty = true ∨ (fl.zip fs).isEmpty = false ∧ p % 5 = 1 := by
          rcases Bool.eq_false_or_eq_true (fl.zip fs).isEmpty with h | h
          · exact .inl h
          · rcases c3 with c | c
            · rw [h] at c; cases c
            · exact .inr ⟨h, c⟩
        -- the fields but for the label
        have hsub : ((fl.zip fs).filter fun q => !decide (q.1 = lw)).Sublist (fl.zip fs) := List.filter_sublist
        have hs1 : (((fl.zip fs).filter fun q => !decide (q.1 = lw)).map (·.1)).Sublist fl := by have := hsub.map (·.1); rwa [zip_fst g1] at this
        have hs2 : (((fl.zip fs).filter fun q => !decide (q.1 = lw)).map (·.2)).Sublist fs := by have := hsub.map (·.2); rwa [zip_sndL g1] at this
        have hcomp : ∀ (δ0 : PM.Loc), (∃ t, δ0 = some (.tup [.str "record", .tup ((fl.zip fs).map fd), rD0 r]) :: some (.int p) :: some (.lst (ls.map .str)) :: none :: none :: none :: t) → compM (fun _ => True) (gmName 5) (mT (mB opNe (mB opIx (mV 5) (mC (.int 0))) (mB opIx (mV 2) (mB opMod (mB opDiv (mV 1) (mC (.int 5))) (mC (.int 4)))))) (mV 5) δ0 [] ((fl.zip fs).map fd) S = .ok (.lst (((fl.zip fs).filter fun q => !decide (q.1 = lw)).map fd)) S := fun δ0 ⟨t, e⟩ => by
          subst e
          rw [comp_filtm (i := fd) (p := fun q => !decide (q.1 = lw)) (f := fd) trivial _ _ fun q _ => ⟨_, rfl, by simp [fd, opDiv_pos, opMod_pos, ew], fun _ => by simp⟩, List.nil_append]
        have hnw : lw ∉ ((fl.zip fs).filter fun q => !decide (q.1 = lw)).map (·.1) := fun hm => by
          obtain ⟨q, hq, e⟩ := List.mem_map.mp hm
          have := (List.mem_filter.mp hq).2
          simp [e] at this
        generalize ((fl.zip fs).filter fun q => !decide (q.1 = lw)) = ps at *
        have hpn : (ps.map (·.1)).Nodup := (asc_nodup g2).sublist hs1
        have hlab : ∀ q ∈ ps, IsLab q.1 ∧ VK n q.2 := fun q hq => ⟨g3 _ (hs1.subset (List.mem_map_of_mem hq)), g4 _ (hs2.subset (List.mem_map_of_mem hq))⟩
        have hpk : kns (ps.map (·.2)) ≤ kns fs := kns_sub hs2
        have hpl : ps.length ≤ 199 := by have := hs2.length_le; simp at this; omega
        by_cases c4 : ps.length = fl.length
        · have hzn : ((ps ++ [(lw, K.num)]).map (·.1)).Nodup := by
            rw [List.map_append]
            exact List.nodup_append.mpr ⟨hpn, by simp, fun a ha b hb e => hnw (by simp at hb; rw [← hb, ← e]; exact ha)⟩
          have hv : VK (n + 1 + 1) (recK (ps ++ [(lw, K.num)]) none) := recK_vk hzn (fun q hq => by
            rcases List.mem_append.mp hq with h | h
            · exact ⟨(hlab q h).1, (hlab q h).2.mono (by omega)⟩
            · rw [List.mem_singleton.mp h]; exact ⟨hl lw hlw, .num⟩) (fun i e => nomatch e)
          have hst : ∀ S, cSortedF [.lst (ps.map fd ++ [.tup [.str lw, .tup [.str "number"]]])] S = .ok (.lst (fldD (sortStr ((ps ++ [(lw, K.num)]).map (·.1))) (kds ((sortStr ((ps ++ [(lw, K.num)]).map (·.1))).map (fk (ps ++ [(lw, K.num)])))))) S := fun S => by
            have e9 : ps.map fd ++ [.tup [.str lw, .tup [.str "number"]]] = (ps ++ [(lw, K.num)]).map fd := by rw [List.map_append]; rfl
            have e1 : ((ps ++ [(lw, K.num)]).map fd).all isFld = true := by rw [List.all_map, List.all_eq_true]; exact fun _ _ => rfl
            have e2 : ((ps ++ [(lw, K.num)]).map fd).map labD = (ps ++ [(lw, K.num)]).map (·.1) := by rw [List.map_map]; rfl
            rw [e9]
            simp only [cSortedF, rdL, asL, e1, e2, true_and, if_pos hzn, sortF_fd]
          have hpm := fk_perm hzn
          refine ⟨recK (ps ++ [(lw, K.num)]) none, ?_, hv.mono (by omega), ?_, (3, none), .inl rfl, fun u hu => .inl ?_⟩
          · have hsz2 : (ps.map fd).length + [D.tup [.str lw, .tup [.str "number"]]].length ≤ sizeLine := by simp; exact Nat.le_trans (by omega) szl
            have hlen2 : ((ps.length : Nat) : Int) = ((fl.zip fs).length : Nat) := by rw [c4, hze]
            have hrd : kd (recK (ps ++ [(lw, K.num)]) none) = .tup [.str "record", .tup (fldD (sortStr ((ps ++ [(lw, K.num)]).map (·.1))) (kds ((sortStr ((ps ++ [(lw, K.num)]).map (·.1))).map (fk (ps ++ [(lw, K.num)]))))), .non] := by rw [recK, kd]; rfl
            rw [hrd]
            generalize fldD (sortStr ((ps ++ [(lw, K.num)]).map (·.1))) (kds ((sortStr ((ps ++ [(lw, K.num)]).map (·.1))).map (fk (ps ++ [(lw, K.num)])))) = FF at *
            have hlen3 : ((ps.length : Nat) : Int) = ((min fl.length fs.length : Nat) : Int) := by rw [List.length_zip] at hlen2; omega
            simp only [kd, hff]
            rcases c3' with c | ⟨c, c'⟩
            · simp [hemp, c, wipeD, c1, c2, opMod_pos]
              rw [hcomp _ ⟨_, rfl⟩]
              simp [hlen3, opDiv_pos, opMod_pos, ew, opAdd_lst hsz2, hst, finRaw, rD0]
            · simp [hemp, c, c', wipeD, opMod_pos]
              rw [hcomp _ ⟨_, rfl⟩]
              simp [hlen3, opDiv_pos, opMod_pos, ew, opAdd_lst hsz2, hst, finRaw, rD0]
          · rw [recK, kn, kn, kns_perm hpm, List.map_append, kns_app]
            simp only [List.map_cons, List.map_nil, kns, kn]; omega
          · rw [recK, occ] at hu
            rcases List.mem_append.mp hu with h | h
            · rw [occs_perm hpm, List.map_append, occs_app] at h
              rcases List.mem_append.mp h with h | h
              · rw [occ]; exact List.mem_append_left _ (occs_sub hs2 u h)
              · simp [occs, occ] at h
            · cases h
        · have hlen2 : ¬ ((ps.length : Nat) : Int) = ((fl.zip fs).length : Nat) := by rw [hze]; omega
          have hasc : ascS (ps.map (·.1)) = true := asc_sub g2 hs1
          refine ⟨.rc (ps.map (·.1)) (ps.map (·.2)) none, ?_, (VK.rc (by simp) hasc (fun l hl => g3 l (hs1.subset hl)) (fun k hk => g4 k (hs2.subset hk)) (fun i e => nomatch e) : VK (n + 1) (.rc (ps.map (·.1)) (ps.map (·.2)) none)).mono (by omega), by simp only [kn]; omega, (3, none), .inl rfl, fun u hu => .inl ?_⟩
          · have e9 : fldD (ps.map (·.1)) (kds (ps.map (·.2))) = ps.map fd := (fd_fld ps).symm
            simp only [kd, hff, e9]
            have hlen3 : ¬ ((ps.length : Nat) : Int) = ((min fl.length fs.length : Nat) : Int) := by rw [List.length_zip] at hlen2; omega
            rcases c3' with c | ⟨c, c'⟩
            · simp [hemp, c, wipeD, c1, c2, opMod_pos]
              rw [hcomp _ ⟨_, rfl⟩]
              simp [hlen3, finRaw, rD0]
            · simp [hemp, c, c', wipeD, opMod_pos]
              rw [hcomp _ ⟨_, rfl⟩]
              simp [hlen3, finRaw, rD0]
          · rw [occ] at hu
            rcases List.mem_append.mp hu with h | h
            · rw [occ]; exact List.mem_append_left _ (occs_sub hs2 u h)
            · cases h
      · have c5 : (fl.zip fs).isEmpty = false := by cases h : (fl.zip fs).isEmpty with | true => exact absurd (.inl h) c3 | false => rfl
        have c6 : ¬ p % 5 = 1 := fun h => c3 (.inr h)
        have hne : 0 < fl.length := by
          rcases Nat.eq_zero_or_pos fl.length with h | h
          · rw [← hze] at h
            rw [List.eq_nil_of_length_eq_zero h] at c5; cases c5
          · exact h
        have j0 := Int.emod_nonneg (p / 5) (show (fl.length : Int) ≠ 0 by omega)
        have j1 := Int.emod_lt_of_pos (p / 5) (show (0 : Int) < fl.length by omega)
        obtain ⟨l, hlj⟩ : ∃ l, fl[(p / 5 % fl.length).toNat]? = some l := ⟨_, List.getElem?_eq_getElem (by omega)⟩
        obtain ⟨v, hvj⟩ : ∃ v, fs[(p / 5 % fl.length).toNat]? = some v := ⟨_, List.getElem?_eq_getElem (by omega)⟩
        have hat : ∀ S, at1 (atI (fldD fl (kds fs)) (p / 5 % fl.length)) S = .ok (.tup [.str l, kd v]) S := fun S => by
          rw [atI_of _ j0, fldD, List.getElem?_zipWith, hlj, kds_map, List.getElem?_map, hvj]; rfl
        have hvm := List.mem_of_getElem? hvj
        obtain ⟨w, hw, ww, wk, x0, wx, wo⟩ := ih (j := j) (S := S) (p := p / 20) (by omega) (g4 v hvm) (by have := kns_mem hvm; omega) (by omega)
        have hlf : (fldD fl (kds fs)).length = fl.length := by rw [fldD, List.length_zipWith, kds_len, g1, Nat.min_self]
        have hz1 : ((fldD fl (kds fs)).take (p / 5 % (fl.length : Int)).toNat).length + [D.tup [.str l, kd w]].length ≤ sizeLine := by
          have := List.length_take_le (p / 5 % (fl.length : Int)).toNat (fldD fl (kds fs))
          simp; exact Nat.le_trans (by omega) szl
        have hz2 : ((fldD fl (kds fs)).take (p / 5 % (fl.length : Int)).toNat ++ [D.tup [.str l, kd w]]).length + ((fldD fl (kds fs)).drop (p / 5 % (fl.length : Int) + 1).toNat).length ≤ sizeLine := by
          simp; exact Nat.le_trans (by omega) szl
        rw [← hff] at hemp
        refine ⟨.rc fl (fs.set (p / 5 % (fl.length : Int)).toNat w) r, ?_, .rc (by simp [g1]) g2 g3 (fun x hx => ?_) g5, ?_, x0, wx, fun u hu => ?_⟩
        · have hcut := fldK_cut (w := w) g1 hlj hvj
          rw [kd, kd, ← hcut]
          simp [hemp, c5, c1, c2, c6, wipeD, opDiv_pos, hlf, opMod_pos, opMod_pos (show (0 : Int) < fl.length by omega), hat, hw, cutD_to j0, cutD_from (show 0 ≤ p / 5 % (fl.length : Int) + 1 by omega)]
          rw [opAdd_tup hz1]
          simp only [R.bind_ok]
          rw [opAdd_tup hz2, show (p / 5 % (fl.length : Int) + 1).toNat = (p / 5 % (fl.length : Int)).toNat + 1 by omega]
          simp [finRaw]
        · rcases List.mem_or_eq_of_mem_set hx with hx | hx
          · exact (g4 x hx).mono (by omega)
          · rw [hx]; exact ww
        · have := kns_set hvj wk
          simp only [kn]; omega
        · rw [occ] at hu
          rcases List.mem_append.mp hu with h | h
          · rcases occs_set hvj wo u h with h | h
            · left; rw [occ]; exact List.mem_append_left _ h
            · exact .inr h
          · left; rw [occ]; exact List.mem_append_right _ h

end K_k04
end
section
namespace K_k04
open PySem L2 PM
theorem asc_self {ls : List Str} (h : ascS ls = true) : sortStr ls = ls := by
  unfold ascS at h
  rw [Bool.and_eq_true, decide_eq_true_eq] at h
  exact h.1.symm
/-- a state beside the lists of labels that rests stand behind -/
def FS (S : Sto) (n q M : Nat) (ws : List (List Str)) : Prop := ∃ a b : Int, 0 ≤ a ∧ S[n]? = some (.lst [.int a, .int b]) ∧ S[q]? = some (.lst (ws.map wD)) ∧ (∀ w ∈ ws, WOk w) ∧ ws.length ≤ M
theorem nextF {k n q M : Nat} (nq : n ≠ q) {S : Sto} {ws : List (List Str)} (h : FS S n q M ws) : ∃ (v : Int) (T : Sto), 0 ≤ v ∧ run (k + 1) ._law_next [.ref n] S = .ok (.int v) T ∧ FS T n q M ws ∧ KNx S T n q := by
  obtain ⟨a, b, h0, hS, hq, hws, hb⟩ := h
  exact ⟨_, _, by omega, next_ok hS, ⟨_, _, by omega, sto_set hS, by rw [List.getElem?_set_ne nq]; exact hq, hws, hb⟩, .set1⟩
/-- the blanks of the others -/
def OkE (ws : List (List Str)) (o : Int × OL) : Prop := (∃ i : Nat, i ≤ 2 ∧ o = (1000000 * (i : Int), none)) ∨ ∃ (j : Nat) (l : List Str), ws[j]? = some l ∧ o = (2000003 + 2 * (j : Int), some l)
theorem OkE.pre {ws ws' : List (List Str)} {o : Int × OL} (h : OkE ws o) (p : ws <+: ws') : OkE ws' o := by
  rcases h with h | ⟨j, l, h1, h2⟩
  · exact .inl h
  · obtain ⟨t, rfl⟩ := p
    exact .inr ⟨j, l, by rw [List.getElem?_append_left (List.getElem?_eq_some_iff.mp h1).1]; exact h1, h2⟩
theorem con_oke {ws : List (List Str)} {m : Mp} {x0 : Int × OL} (hx : x0 = (3, none) ∨ (∃ w, x0 = (9999999, some w)) ∨ ∃ w, x0 = (8888889, some w)) {x1 : Int × OL} (hx1 : x1 = (3, none) ∨ ∃ w, x1 = (9999999, some w)) (hne : x0 = x1 ∨ ∃ w, x0 = (8888889, some w)) (hM : ws.length ≤ 1000) (h : ∀ o ∈ m, OkE ws o ∨ o = x0 ∨ o = x1) : Con m := by
  have ok : ∀ (j : Nat) (l : List Str), ws[j]? = some l → (2000003 : Int) + 2 * (j : Int) < 3000000 := fun j l h => by
    have := (List.getElem?_eq_some_iff.mp h).1
    omega
  have key : ∀ a b : Int × OL, OkE ws a → OkE ws b → a.1 = b.1 → a.2 = b.2 := fun a b ha hb e => by
    rcases ha with ⟨i, hi, ea⟩ | ⟨i, l, hi, ea⟩ <;> rcases hb with ⟨j, hj, eb⟩ | ⟨j, l', hj, eb⟩
    · rw [ea, eb]
    · have := ok j l' hj; rw [ea, eb] at e; simp only at e; omega
    · have := ok i l hi; rw [ea, eb] at e; simp only at e; omega
    · rw [ea, eb] at e
      simp only at e
      have : i = j := by omega
      subst this
      rw [hi] at hj
      cases hj
      rw [ea, eb]
  have no : ∀ a : Int × OL, OkE ws a → a.1 ≠ 3 ∧ a.1 ≠ 9999999 ∧ a.1 ≠ 8888889 := fun a ha => by
    rcases ha with ⟨i, hi, ea⟩ | ⟨i, l, hi, ea⟩
    · rw [ea]; simp only; omega
    · have := ok i l hi; rw [ea]; simp only; omega
  have n0 : ∀ a : Int × OL, OkE ws a → a.1 ≠ x0.1 := fun a ha e => by
    have := no a ha
    rcases hx with h | ⟨w, h⟩ | ⟨w, h⟩ <;> (rw [h] at e; simp only at e; omega)
  have n1 : ∀ a : Int × OL, OkE ws a → a.1 ≠ x1.1 := fun a ha e => by
    have := no a ha
    rcases hx1 with h | ⟨w, h⟩ <;> (rw [h] at e; simp only at e; omega)
  have n2 : x0.1 = x1.1 → x0 = x1 := fun e => by
    rcases hne with h | ⟨w, h⟩
    · exact h
    · rcases hx1 with h1 | ⟨w1, h1⟩ <;> (rw [h, h1] at e; simp only at e; omega)
  intro a ha b hb e
  rcases h a ha with h1 | h1 | h1 <;> rcases h b hb with h2 | h2 | h2
  · exact key a b h1 h2 e
  · exact absurd (by rw [e, h2]) (n0 a h1)
  · exact absurd (by rw [e, h2]) (n1 a h1)
  · exact absurd (by rw [← e, h1]) (n0 b h2)
  · rw [h1, h2]
  · rw [h1, h2] at e ⊢; rw [n2 e]
  · exact absurd (by rw [← e, h1]) (n1 b h2)
  · rw [h1, h2] at e ⊢; rw [n2 e.symm]
  · rw [h1, h2]
theorem end_ok {k n q M : Nat} (nq : n ≠ q) {S : Sto} {ws : List (List Str)} {w : List Str} (h : FS S n q M ws) (hw : WOk w) (hM : M < 100000) : ∃ (r : Option Int) (T : Sto), run (k + 2) ._law_end [.ref n, .ref q, .lst (w.map .str)] S = .ok (rD0 r) T ∧ ∃ ws' : List (List Str), FS T n q (M + 1) ws' ∧ ws <+: ws' ∧ KNx S T n q ∧ ∀ i, r = some i → 0 ≤ i ∧ OkE ws' (i, some (sortStr w)) := by
  obtain ⟨v, T, hv, g1, g2, g3⟩ := nextF (k := k) nq h
  rw [run_succ]
  simp only [body, fin, slots, runB, b__law_end]
  have hsrt : ∀ S, cSorted [.lst (w.map .str)] S = .ok (.lst ((sortStr w).map .str)) S := fun S => by simp only [cSorted, rdL, asL, strsOf_id]
  simp [g1, opMod_pos]
  by_cases c : v % 2 = 0
  · refine ⟨none, T, by simp [c, finRaw, rD0], ws, ?_, List.prefix_refl _, g3, fun i e => nomatch e⟩
    obtain ⟨a, b, h0, hS, hq, hws, hb⟩ := g2
    exact ⟨a, b, h0, hS, hq, hws, by omega⟩
  obtain ⟨a, b, h0, hS, hq, hws, hb⟩ := g2
  have hsw := sort_wok hw
  have hni := opNotIn_ws hq hsw hws
  generalize sortStr w = sw at *
  rw [wD] at hni
  by_cases c6 : sw ∈ ws
  · obtain ⟨j, hj, hji⟩ := cIndex_ws2 hq hsw hws c6
    rw [wD] at hji
    refine ⟨some (2000003 + 2 * (j : Int)), T, ?_, ws, ⟨a, b, h0, hS, hq, hws, by omega⟩, List.prefix_refl _, g3, fun i e => by cases e; exact ⟨by omega, .inr ⟨j, _, hj, rfl⟩⟩⟩
    simp [c, hsrt, hni, c6, hji, isLst_ref hq, finRaw, rD0, opMul_l]
  · have hcap : (ws.map wD).length < sizeLine := by rw [List.length_map]; exact Nat.lt_of_lt_of_le (by omega) szl
    have hq3 : (T.set q (.lst ((ws ++ [sw]).map wD)))[q]? = some (.lst ((ws ++ [sw]).map wD)) := sto_set hq
    have hws3 : ∀ w ∈ ws ++ [sw], WOk w := fun x hx => by
      rcases List.mem_append.mp hx with hx | hx
      · exact hws x hx
      · rw [List.mem_singleton.mp hx]; exact hsw
    obtain ⟨j, hj, hji⟩ := cIndex_ws2 hq3 hsw hws3 (by simp)
    have e9 : ws.map wD ++ [wD sw] = (ws ++ [sw]).map wD := by simp
    have hap : cAppend (.ref q) [.lst (sw.map .str)] T = .ok .non (T.set q (.lst ((ws ++ [sw]).map wD))) := by rw [cAppend_ref hq hcap, ← e9]; rfl
    rw [wD] at hji
    refine ⟨some (2000003 + 2 * (j : Int)), T.set q (.lst ((ws ++ [sw]).map wD)), ?_, ws ++ [sw], ⟨a, b, h0, by rw [List.getElem?_set_ne (Ne.symm nq)]; exact hS, hq3, hws3, by simp; omega⟩, List.prefix_append _ _, g3.trans .set2, fun i e => by cases e; exact ⟨by omega, .inr ⟨j, _, hj, rfl⟩⟩⟩
    generalize T.set q (.lst ((ws ++ [sw]).map wD)) = T3 at *
    simp [c, hsrt, hni, c6, hap, hji, isLst_ref hq, isLst_ref hq3, finRaw, rD0, opMul_l]
def Flat (ws : List (List Str)) : OL → D → Prop
  | none, d => ∃ k, d = kd k ∧ VK 2 k ∧ kn k ≤ 6 ∧ ∀ o ∈ occ k, OkE ws o
  | some w, d => ∃ fl r, d = .tup [.tup (fldD fl (kds (List.replicate fl.length .num))), rD0 r] ∧ ascS fl = true ∧ (∀ l ∈ fl, IsLab l ∧ l ∉ w) ∧ fl.length ≤ 5 ∧ ∀ i, r = some i → 0 ≤ i ∧ OkE ws (i, some (sortStr (w ++ fl)))
theorem Flat.pre {ws ws' : List (List Str)} {o : OL} {d : D} (h : Flat ws o d) (p : ws <+: ws') : Flat ws' o d := by
  cases o with
  | none => obtain ⟨k, h1, h2, h3, h4⟩ := h; exact ⟨k, h1, h2, h3, fun o ho => (h4 o ho).pre p⟩
  | some w => obtain ⟨fl, r, h1, h2, h3, h4, h5⟩ := h; exact ⟨fl, r, h1, h2, h3, h4, fun i e => ⟨(h5 i e).1, (h5 i e).2.pre p⟩⟩
theorem flat_ok {k n q M : Nat} (nq : n ≠ q) {ls : List Str} (h4 : ls.length = 4) (hn : (ls ++ [Str.ofString "zzzzzzzz"]).Nodup) (hl : ∀ l ∈ ls, IsLab l) {S : Sto} {ws : List (List Str)} (h : FS S n q M ws) (hM : M < 10000) {o : OL} (ho : ∀ w, o = some w → WOk w ∧ w.length ≤ 500) :
    ∃ d T, run (k + 3) ._law_flat [.ref n, .lst (ls.map .str), olD o, .ref q] S = .ok d T ∧ ∃ ws', Flat ws' o d ∧ FS T n q (M + 1) ws' ∧ ws <+: ws' ∧ KNx S T n q := by
  rw [run_succ]
  simp only [body, fin, slots, runB, b__law_flat]
  have hsz : (ls.map D.str).length + [D.str "zzzzzzzz"].length ≤ sizeLine := by simp; exact Nat.le_trans (by omega) szl
  have hadd : ∀ S, opAdd (.lst (ls.map .str)) (.lst [.str "zzzzzzzz"]) S = .ok (.lst ((ls ++ [Str.ofString "zzzzzzzz"]).map .str)) S := fun S => by rw [opAdd_lst hsz, List.map_append]; rfl
  have hsrt : ∀ S, cSorted [.lst ((ls ++ [Str.ofString "zzzzzzzz"]).map .str)] S = .ok (.lst ((sortStr (ls ++ [Str.ofString "zzzzzzzz"])).map .str)) S := fun S => by simp only [cSorted, rdL, asL, strsOf_id]
  have hlx : ∀ l ∈ ls ++ [Str.ofString "zzzzzzzz"], IsLab l := fun l hx => by
    rcases List.mem_append.mp hx with e | e
    · exact hl l e
    · rw [List.mem_singleton.mp e]; exact isLab_z
  have hlen5 : (ls ++ [Str.ofString "zzzzzzzz"]).length = 5 := by simp [h4]
  generalize (ls ++ [Str.ofString "zzzzzzzz"]) = lx at *
  obtain ⟨w0, hw0⟩ : ∃ w0 : List Str, w0 = o.getD [] := ⟨_, rfl⟩
  have hfree : ∀ (δ0 : PM.Loc), (∃ a b c, δ0 = [a, b, some (olD o), c, none, none, none, none, none, none]) → compM (fun _ => True) (gmName 5) (mOr (mT (mB opIsN (mV 2) (mC .non))) (mT (mB opNotIn (mV 5) (mV 2)))) (mV 5) δ0 [] ((sortStr lx).map .str) S = .ok (.lst (((sortStr lx).filter fun x => !decide (x ∈ w0)).map .str)) S := fun δ0 ⟨a, b, c, e⟩ => by
    subst e
    rw [comp_filtm (i := D.str) (p := fun x => !decide (x ∈ w0)) (f := D.str) trivial _ _ fun x _ => ⟨_, rfl, by
      cases o with
      | none => simp [olD, isNon, hw0]
      | some w => simp [olD, wD, isNon, hw0, opNotIn_strs], fun _ => by simp⟩, List.nil_append]
  have frA : ascS ((sortStr lx).filter fun x => !decide (x ∈ w0)) = true := asc_filter _ hn
  have frM : ∀ x ∈ (sortStr lx).filter (fun x => !decide (x ∈ w0)), IsLab x ∧ x ∉ w0 := fun x hx => by
    have := List.mem_filter.mp hx
    exact ⟨hlx x ((sortStr_perm lx).mem_iff.mp this.1), by simpa using this.2⟩
  have frL : ((sortStr lx).filter fun x => !decide (x ∈ w0)).length ≤ 5 := Nat.le_trans (List.length_filter_le _ _) (by rw [(sortStr_perm lx).length_eq, hlen5]; exact Nat.le_refl _)
  generalize ((sortStr lx).filter fun x => !decide (x ∈ w0)) = fr at *
  simp [hadd, hsrt, wipeD]
  rw [hfree _ ⟨_, _, _, rfl⟩]
  simp [wipeD]
  generalize hC : compM _ _ _ _ _ _ _ _ = r
  obtain ⟨acc, T2, e, fl, e1, e3, e5, e6⟩ := comp_ofI hC (fun i acc S' => ∃ fl, acc = fldD fl (kds (List.replicate fl.length .num)) ∧ fl.Sublist (fr.take i) ∧ FS S' n q M ws ∧ KNx S S' n q)
    ⟨[], rfl, List.nil_sublist _, h, .refl⟩ (fun i x acc S1 hx hI => by
      obtain ⟨fl, e1, e3, e5, e6⟩ := hI
      rw [List.getElem?_map] at hx
      obtain ⟨y, hy, ex⟩ := Option.map_eq_some_iff.mp hx
      subst ex
      have ht : fr.take (i + 1) = fr.take i ++ [y] := by rw [List.take_add_one, hy]; rfl
      obtain ⟨v, U, hv, g1, g2, g3⟩ := nextF (k := k + 1) nq e5
      refine ⟨_, S1, decide (v % 3 = 0), U, rfl, by simp [g1, opMod_pos], fun _ => ?_, fun _ => ⟨fl, e1, by rw [ht]; exact e3.trans (List.sublist_append_left _ _), g2, e6.trans g3⟩⟩
      refine ⟨.tup [.str y, kd .num], U, by simp [kd], fl ++ [y], ?_, by rw [ht]; exact e3.append (List.Sublist.refl _), g2, e6.trans g3⟩
      rw [e1, List.length_append, List.length_singleton, List.replicate_succ', show kds (List.replicate fl.length .num ++ [.num]) = kds (List.replicate fl.length .num) ++ [kd .num] from by simp [kds_map], fldD_snoc (by rw [kds_len]; simp)])
  subst e e1
  have e3' : fl.Sublist fr := e3.trans (List.take_sublist _ _)
  have flM : ∀ x ∈ fl, IsLab x ∧ x ∉ w0 := fun x hx => frM x (e3'.subset hx)
  have flA : ascS fl = true := by rw [ascS_iff]; exact (ascS_iff.mp frA).sublist e3'
  have flL : fl.length ≤ 5 := Nat.le_trans e3'.length_le frL
  have flW : WOk fl := fun l h => (flM l h).1
  have hlc : ∀ (δ0 : PM.Loc), (∃ a b c d e f, δ0 = [a, b, c, d, e, none, f, none, none, none]) → compM (fun _ => True) (gmTup [5, 8]) mYes (mV 5) δ0 [] (fldD fl (kds (List.replicate fl.length .num))) T2 = .ok (.lst (fl.map .str)) T2 := fun δ0 ⟨a, b, c, d, e, f, e0⟩ => by
    subst e0
    exact labs_comp (by simp) trivial (fun p _ => ⟨_, rfl, rfl, by simp⟩)
  simp [wipeD]
  rw [hlc _ ⟨_, _, _, _, _, _, rfl⟩]
  cases o with
  | some w =>
    have e0 : w0 = w := hw0
    subst e0
    obtain ⟨hw1, hw2⟩ := ho w0 rfl
    have hww : WOk (w0 ++ fl) := fun l hx => by
      rcases List.mem_append.mp hx with h | h
      · exact hw1 l h
      · exact flW l h
    obtain ⟨r, T3, q1, ws', q2, q3, q4, q5⟩ := end_ok (k := k) nq e5 hww (by omega)
    have hsz2 : (w0.map D.str).length + (fl.map D.str).length ≤ sizeLine := by simp; exact Nat.le_trans (by omega) szl
    have hadd2 : ∀ S, opAdd (.lst (w0.map .str)) (.lst (fl.map .str)) S = .ok (.lst ((w0 ++ fl).map .str)) S := fun S => by rw [opAdd_lst hsz2, List.map_append]
    refine ⟨_, T3, ?_, ws', ⟨fl, r, rfl, flA, flM, flL, q5⟩, q2, q3, e6.trans q4⟩
    generalize w0 ++ fl = wf at *
    simp [olD, wD, isNon, hadd2, q1, finRaw]
  | none =>
    obtain ⟨v, U, hv, g1, g2, g3⟩ := nextF (k := k + 1) nq e5
    have hM1 : FS U n q (M + 1) ws := by
      obtain ⟨a, b, h0, hS, hq, hws, hb⟩ := g2
      exact ⟨a, b, h0, hS, hq, hws, by omega⟩
    simp [olD, isNon, g1, opMod_pos]
    by_cases c1 : v % 3 = 0
    · by_cases c2 : v / 3 % 2 = 0
      · refine ⟨kd .num, U, by simp [c1, c2, opDiv_pos, opMod_pos, finRaw, kd], ws, ⟨.num, rfl, .num, by simp [kn], fun o ho => nomatch ho⟩, hM1, List.prefix_refl _, e6.trans g3⟩
      · refine ⟨kd (.blk (v / 6 % 3 * 1000000)), U, by simp [c1, c2, opDiv_pos, opMod_pos, finRaw, kd, opMul_r], ws, ⟨_, rfl, .blk (by omega), by simp [kn], fun o ho => ?_⟩, hM1, List.prefix_refl _, e6.trans g3⟩
        rw [List.mem_singleton.mp ho]
        exact .inl ⟨(v / 6 % 3).toNat, by omega, by rw [Prod.mk.injEq]; exact ⟨by omega, rfl⟩⟩
    · obtain ⟨r, T3, q1, ws', q2, q3, q4, q5⟩ := end_ok (k := k) nq g2 flW (by omega)
      rw [asc_self flA] at q5
      refine ⟨kd (.rc fl (List.replicate fl.length .num) r), T3, by simp [c1, q1, finRaw, kd], ws', ⟨_, rfl, .rc (by simp) flA (fun l h => (flM l h).1) (fun k h => by rw [List.eq_of_mem_replicate h]; exact .num) (fun i e => (q5 i e).1), by rw [kn, kns_rep]; omega, fun o ho => ?_⟩, q2, q3, (e6.trans g3).trans q4⟩
      rw [occ, occs_rep] at ho
      cases r with
      | none => cases ho
      | some i =>
        have : o = (i, some fl) := by simpa [restO] using ho
        rw [this]; exact (q5 i rfl).2

end K_k04
end
section
namespace K_k04
open PySem L2 PM
theorem lfill_ok {fks : List Key} {fds : List D} {ws : List (List Str)} : ∀ (n : Nat) {k : K}, VK n k → kn k ≤ 200 → (∀ o ∈ occ k, ∃ d, getK fks fds (.inl o.1) = some d ∧ Flat ws o.2 d) →
    ∃ k', VK (n + 1) k' ∧ kn k ≤ kn k' ∧ kn k' ≤ 6 * kn k ∧ (∀ o ∈ occ k', OkE ws o) ∧ ∀ f j S, n + 1 ≤ j → S[f]? = some (.dK fks fds) → run j ._law_filled [kd k, .ref f] S = .ok (kd k') S := by
  have hfin : ∀ {d : Nat} {k : K} (S T : Sto), VK d k → finFrz 0 S (.ok (kd k) (S ++ T)) = .ok (kd k) S := fun S T h => finFrz_app (vk_cl h)
  have hfin0 : ∀ {d : Nat} {k : K} (S : Sto), VK d k → finFrz 0 S (.ok (kd k) S) = .ok (kd k) S := fun S h => by have := hfin S [] h; rwa [List.append_nil] at this
  intro n
  induction n with
  | zero => intro k h; cases h
  | succ n ih =>
    intro k h hkn hg
    cases h with
    | num =>
      refine ⟨.num, .num, Nat.le_refl _, by simp [kn], (fun o ho => nomatch ho), fun f j S hj hS => ?_⟩
      obtain ⟨j, rfl⟩ : ∃ i, j = i + 1 := ⟨j - 1, by omega⟩
      rw [run_succ]
      simp only [body, fin, slots, runB, b__law_filled]
      have := hfin0 (k := .num) (d := 1) S .num
      simp [kd] at this ⊢
      exact this
    | blk hi =>
      rename_i i
      obtain ⟨d, hk, k', e, hv, hz, ho⟩ := hg (i, none) (by simp [occ])
      subst e
      refine ⟨k', hv.mono (by omega), by have := kn_pos k'; simp only [kn]; omega, by simp only [kn]; omega, ho, fun f j S hj hS => ?_⟩
      obtain ⟨j, rfl⟩ : ∃ i, j = i + 1 := ⟨j - 1, by omega⟩
      rw [run_succ]
      simp only [body, fin, slots, runB, b__law_filled]
      simp [kd, mD3, isDct_dI hS, kGet_dI hS, hk, hfin0 S hv]
    | rc h1 h2 h3 h4 h5 =>
      rename_i ls ks r
      have hg1 : ∀ k ∈ ks, ∀ o ∈ occ k, o ∈ occ (.rc ls ks r) := fun k hk o ho => by
        rw [occ]; exact List.mem_append_left _ (occ_occs hk o ho)
      obtain ⟨xs, x1, x2, x3⟩ := list_all (P := fun k k' => VK (n + 1) k' ∧ kn k ≤ kn k' ∧ kn k' ≤ 6 * kn k ∧ (∀ o ∈ occ k', OkE ws o) ∧ ∀ f j S, n + 1 ≤ j → S[f]? = some (.dK fks fds) → run j ._law_filled [kd k, .ref f] S = .ok (kd k') S) h1 fun k hk => ih (h4 k hk) (by rw [kn] at hkn; have := kns_mem hk; omega) fun o ho => hg o (hg1 k hk o ho)
      have hfl : fldD ls (kds ks) = xs.map fun p => .tup [.str p.1, kd p.2.1] := by rw [← x1, ← x2, fld_xs]
      have hls : ∀ p ∈ xs, p.1 ∈ ls := fun p hp => by rw [← x1]; exact List.mem_map_of_mem hp
      have hnd := asc_nodup h2
      have hys : (xs.map fun p => D.tup [.str p.1, kd p.2.2]) = (xs.map fun p => (p.1, p.2.2)).map fd := by rw [List.map_map]; rfl
      have hy1 : (xs.map fun p => (p.1, p.2.2)).map (·.1) = ls := by rw [List.map_map]; exact x1
      have hy2 : ∀ p ∈ xs.map (fun p => (p.1, p.2.2)), IsLab p.1 ∧ VK (n + 1) p.2 ∧ ∀ o ∈ occ p.2, OkE ws o := fun p hp => by
        obtain ⟨x, hx, e⟩ := List.mem_map.mp hp
        subst e
        exact ⟨h3 _ (hls x hx), (x3 x hx).1, (x3 x hx).2.2.2.1⟩
      have hyk : kns ks ≤ kns ((xs.map fun p => (p.1, p.2.2)).map (·.2)) ∧ kns ((xs.map fun p => (p.1, p.2.2)).map (·.2)) ≤ 6 * kns ks := by
        rw [List.map_map]
        have : ∀ xs : List (Str × K × K), (∀ p ∈ xs, kn p.2.1 ≤ kn p.2.2 ∧ kn p.2.2 ≤ 6 * kn p.2.1) → kns (xs.map (·.2.1)) ≤ kns (xs.map ((·.2) ∘ fun p : Str × K × K => (p.1, p.2.2))) ∧ kns (xs.map ((·.2) ∘ fun p : Str × K × K => (p.1, p.2.2))) ≤ 6 * kns (xs.map (·.2.1)) := fun xs hx => by
          induction xs with
          | nil => simp [kns]
          | cons x xs ih2 =>
            obtain ⟨a, b⟩ := ih2 fun p hp => hx p (by simp [hp])
            obtain ⟨c, d⟩ := hx x (by simp)
            simp only [List.map_cons, kns, Function.comp] at a b ⊢
            omega
        have := this xs fun p hp => ⟨(x3 p hp).2.1, (x3 p hp).2.2.1⟩
        rw [x2] at this
        exact this
      have hcl : ∀ f j S, n + 1 ≤ j → S[f]? = some (.dK fks fds) → ∀ δ0 : PM.Loc, (δ0 = [some (kd (.rc ls ks r)), some (.ref f), none, none, none, none, none]) → compM (fun _ => True) (gmTup [4, 3]) mYes (mApp newTup (mCons (mV 4) (mCons (mApp (run j ._law_filled) (mCons (mV 3) (mCons (mV 1) mNil))) mNil))) δ0 [] (fldD ls (kds ks)) S = .ok (.lst ((xs.map fun p => (p.1, p.2.2)).map fd)) S := fun f j S hj hS δ0 e => by
        subst e
        rw [hfl, comp_map (i := fun p : Str × K × K => .tup [.str p.1, kd p.2.1]) (f := fun p => .tup [.str p.1, kd p.2.2]) (hg := trivial) (h := fun p hp => ⟨_, rfl, rfl, by simp [(x3 p hp).2.2.2.2 f j S hj hS]⟩), List.nil_append, hys]
      generalize (xs.map fun p => (p.1, p.2.2)) = ys at hy1 hy2 hcl hys hyk
      have hend : ∃ z r', (∀ p ∈ z, p.2 = K.num ∧ IsLab p.1 ∧ p.1 ∉ ls) ∧ (z.map (·.1)).Nodup ∧ z.length ≤ 5 ∧ (∀ i, r' = some i → 0 ≤ i ∧ OkE ws (i, some (sortStr (ls ++ z.map (·.1))))) ∧ ((z = [] ∧ r' = none ∧ r = none) ∨ ∃ i, r = some i ∧ getK fks fds (.inl i : Key) = some (.tup [.tup (z.map fd), rD0 r'])) := by
        cases r with
        | none => exact ⟨[], none, (fun p hp => nomatch hp), List.Pairwise.nil, by simp, (fun i e => nomatch e), .inl ⟨rfl, rfl, rfl⟩⟩
        | some i =>
          obtain ⟨d, hk, fl, r2, e, f1, f2, f3, f4⟩ := hg (i, some ls) (by simp [occ, restO])
          subst e
          have e1 : (fl.map fun l => (l, K.num)).map (·.1) = fl := by rw [List.map_map]; exact List.map_id fl
          have e2 : (fl.map fun l => (l, K.num)).map fd = fldD fl (kds (List.replicate fl.length .num)) := by rw [fld_rep, List.map_map]; rfl
          refine ⟨fl.map fun l => (l, .num), r2, fun p hp => ?_, by rw [e1]; exact asc_nodup f1, by simpa using f3, by rw [e1]; exact f4, .inr ⟨i, rfl, by rw [hk, e2]⟩⟩
          obtain ⟨l, hl, e⟩ := List.mem_map.mp hp
          subst e
          exact ⟨rfl, (f2 l hl).1, (f2 l hl).2⟩
      obtain ⟨z, r', z1, z2, z3, z4, hend⟩ := hend
      have hn : ((ys ++ z).map (·.1)).Nodup := by
        rw [List.map_append, hy1]
        refine List.nodup_append.mpr ⟨hnd, z2, fun a ha b hb e => ?_⟩
        obtain ⟨p, hp, e2⟩ := List.mem_map.mp hb
        exact (z1 p hp).2.2 (by rw [e2, ← e]; exact ha)
      have hv : VK (n + 1 + 1) (recK (ys ++ z) r') := recK_vk hn (fun p hp => by
        rcases List.mem_append.mp hp with h | h
        · exact ⟨(hy2 p h).1, (hy2 p h).2.1⟩
        · rw [(z1 p h).1]; exact ⟨(z1 p h).2.1, .num⟩) (fun i e => (z4 i e).1)
      have hpm := fk_perm hn
      have hzk : kns (z.map (·.2)) = z.length ∧ occs (z.map (·.2)) = [] := by
        have : z.map (·.2) = List.replicate z.length K.num := by
          rw [List.eq_replicate_iff]
          exact ⟨by simp, fun k hk => by obtain ⟨p, hp, e⟩ := List.mem_map.mp hk; rw [← e]; exact (z1 p hp).1⟩
        rw [this]; exact ⟨kns_rep _, occs_rep _⟩
      have hylen : ys.length ≤ 200 := by have := congrArg List.length hy1; rw [List.length_map] at this; have := kns_len ks; rw [kn] at hkn; omega
      refine ⟨recK (ys ++ z) r', hv, ?_, ?_, fun o ho => ?_, fun f j S hj hS => ?_⟩
      · rw [recK, kn, kn, kns_perm hpm, List.map_append, kns_app]; omega
      · rw [recK, kn, kn, kns_perm hpm, List.map_append, kns_app, hzk.1]; omega
      · rw [recK, occ] at ho
        rcases List.mem_append.mp ho with h | h
        · rw [occs_perm hpm, List.map_append, occs_app, hzk.2, List.append_nil] at h
          have : ∀ c : List K, o ∈ occs c ↔ ∃ k ∈ c, o ∈ occ k := fun c => by
            induction c with
            | nil => simp [occs]
            | cons k c ih => rw [occs, List.mem_append, ih]; simp
          obtain ⟨k, h1, h2⟩ := (this _).mp h
          obtain ⟨p, hp, e⟩ := List.mem_map.mp h1
          subst e
          exact (hy2 p hp).2.2 o h2
        · cases r' with
          | none => cases h
          | some i =>
            have e : o = (i, some (sortStr ((ys ++ z).map (·.1)))) := by simpa [restO] using h
            rw [e, List.map_append, hy1]; exact (z4 i rfl).2
      · obtain ⟨j, rfl⟩ : ∃ i, j = i + 1 := ⟨j - 1, by omega⟩
        rw [run_succ]
        simp only [body, fin, slots, runB, b__law_filled]
        simp [kd, wipeD]
        rw [hcl f j S (by omega) hS _ (by simp [kd])]
        have hlab : ∀ l ∈ sortStr ((ys ++ z).map (·.1)), IsLab l := by
          cases hv with
          | rc _ _ g3 _ _ => exact g3
        have hS2 : (S ++ [MO.dK (((ys ++ z).map (·.1)).map .inr) (kds ((ys ++ z).map (·.2)))])[S.length]? = some (.dK (((ys ++ z).map (·.1)).map .inr) (kds ((ys ++ z).map (·.2)))) := sto_snoc
        have hdict := cDictR_fd (S := S) hn
        have hlist := cListK_inr hS2 (fun l hl => hlab l ((sortStr_perm _).mem_iff.mpr hl))
        have hsort : ∀ S, cSorted [.lst (((ys ++ z).map (·.1)).map .str)] S = .ok (.lst ((sortStr ((ys ++ z).map (·.1))).map .str)) S := fun S => by simp only [cSorted, rdL, asL, strsOf_id]
        have hgk : ∀ l ∈ sortStr ((ys ++ z).map (·.1)), getK (((ys ++ z).map (·.1)).map (Sum.inr : Str → Key)) (kds ((ys ++ z).map (·.2))) (.inr l) = some (kd (fk (ys ++ z) l)) := fun l hl => getK_fd ((sortStr_perm _).mem_iff.mp hl)
        have hres := hfin S [MO.dK (((ys ++ z).map (·.1)).map .inr) (kds ((ys ++ z).map (·.2)))] hv
        have hadd : ∀ S, opAdd (.lst (ys.map fd)) (.lst (z.map fd)) S = .ok (.lst ((ys ++ z).map fd)) S := fun S => by rw [opAdd_lst (by rw [List.length_map, List.length_map]; exact Nat.le_trans (show _ ≤ 1000000 by omega) szl), List.map_append]
        have hys2 : z = [] → ys = ys ++ z := fun e => by rw [e, List.append_nil]
        rw [recK, kd] at hres
        rw [recK, kd]
        clear hv hlab hcl hy1 hyk hpm
        generalize (ys ++ z) = zs at *
        generalize hL : zs.map (·.1) = L at *
        generalize hV : kds (zs.map (·.2)) = V at *
        have hcomp : ∀ δ0 : PM.Loc, (∃ a b c d e, δ0 = [a, b, c, d, none, e, some (.ref S.length)]) → compM (fun _ => True) (gmName 4) mYes (mApp newTup (mCons (mV 4) (mCons (mB opIx (mV 6) (mV 4)) mNil))) δ0 [] ((sortStr L).map .str) (S ++ [MO.dK (L.map .inr) V]) = .ok (.lst (fldD (sortStr L) (kds ((sortStr L).map (fk zs))))) (S ++ [MO.dK (L.map .inr) V]) := fun δ0 ⟨a, b, c, d, e, e0⟩ => by
          subst e0
          rw [comp_map (i := D.str) (f := fun l => .tup [.str l, kd (fk zs l)]) (hg := trivial) (h := fun l hl => ⟨_, rfl, rfl, by simp [opIx_dK hS2 (hgk l hl)]⟩), List.nil_append, fld_map]
        generalize hT : S ++ [MO.dK (L.map .inr) V] = T at *
        generalize fldD (sortStr L) (kds ((sortStr L).map (fk zs))) = FF at *
        rcases hend with ⟨e1, e2, e3⟩ | ⟨i, e1, hk⟩
        · have e4 := hys2 e1
          subst e2 e3
          rw [e4]
          simp [rD0, isNon, hdict, hlist, hsort, wipeD] at hres ⊢
          rw [hcomp _ ⟨_, _, _, _, _, rfl⟩]
          simp [hres]
        · subst e1
          simp [rD0, isNon, opIn_dI hS, hk, opIx_dI hS hk, hadd, hdict, hlist, hsort, wipeD] at hres ⊢
          rw [hcomp _ ⟨_, _, _, _, _, rfl⟩]
          simp [hres]

end K_k04
end
section
namespace K_k04
open PySem L2 PM
theorem finFrz_one {k m : Nat} {S S' : Sto} {ds : List D} (hc : ClS S S') (hm : S.length ≤ m) (hd : S'[m]? = some (.lst ds)) (h : D.cls S.length ds = true) : finFrz (k + 1) S (.ok (.ref m) S') = .ok (.lst ds) (S'.take S.length) := by
  unfold finFrz
  have e : frz S' S.length (k + 1) [.ref m] = some [.lst ds] := by
    show fzs (frz S' S.length k) S' S.length [.ref m] = _
    simp only [fzs, fz, if_neg (Nat.not_lt.mpr hm), hd, frz_cl h]; rfl
  simp only [if_pos hc, e]
theorem kinds_ok {ns : List Int} {j : Nat} {w : Int} (hw : 1 ≤ w ∧ w < 1000000000) {ls : List Str} (h4 : ls.length = 4) (hn : ls.Nodup) (hl : ∀ l ∈ ls, IsLab l) :
    ∃ ks ws, run (j + 20) ._law_kinds [.scr (ns.map D.int), .lst (ls.map .str), .lst [.int w, .ref 0]] [.lst []] = .ok (.lst (ks.map kd)) [.lst (ws.map wD)] ∧ (∀ k ∈ ks, VK 5 k) ∧ 1 ≤ ks.length ∧ ks.length ≤ 3 ∧ (∀ o ∈ occs ks, OkO w ws o) ∧ (∀ w ∈ ws, WOk w) ∧ ws.length ≤ 57 ∧ kns ks ≤ 231 ∧ ∀ k ∈ ks, kn k ≤ 77 := by
  have ec : ∀ (i : Nat) S, run (j + 19) ._law_cell [.scr (ns.map D.int), .int i] S = .ok (.int (cellv ns i)) S := fun i S => cell_ok (k := j + 18) (j := i)
  have e1 : ∀ S, run (j + 19) ._law_cell [.scr (ns.map D.int), .int 1] S = .ok (.int (cellv ns 1)) S := ec 1
  have z1 := cellv_lo ns 1
  obtain ⟨r0, hr0⟩ : ∃ r, run (j + 20) ._law_kinds [.scr (ns.map D.int), .lst (ls.map .str), .lst [.int w, .ref 0]] [.lst []] = r := ⟨_, rfl⟩
  rw [hr0]
  rw [run_succ] at hr0
  simp only [body, fin, slots, runB, b__law_kinds] at hr0
  have hlim : limR 0 (1 + cellv ns 1 % 3) = true := limR_ok (by omega)
  simp [e1, opMod_pos, hlim, rangeD_map] at hr0
  have hcap : ∀ n : Nat, n ≤ 3 → n < sizeLine := fun n h => Nat.lt_of_lt_of_le (by omega) szl
  generalize hL : loopM _ _ _ _ _ = r at hr0
  obtain ⟨δ', S', e, ⟨x4, x5, eδ⟩, ks, ws, b1, b2, b3, b4, b5, b6, b7, b8, b9, b10⟩ := loop_of hL (fun i δ S' => (∃ x4 x5, δ = [some (.scr (ns.map D.int)), some (.lst (ls.map .str)), some (.lst [.int w, .ref 0]), some (.ref 1), x4, x5]) ∧
      ∃ ks ws, S'[0]? = some (.lst (ws.map wD)) ∧ S'[1]? = some (.lst (ks.map kd)) ∧ 2 ≤ S'.length ∧ ks.length = i ∧ (∀ k ∈ ks, VK 5 k) ∧ (∀ o ∈ occs ks, OkO w ws o) ∧ (∀ w ∈ ws, WOk w) ∧ ws.length ≤ 19 * i ∧ kns ks ≤ 77 * i ∧ ∀ k ∈ ks, kn k ≤ 77)
    ⟨⟨_, _, rfl⟩, [], [], rfl, rfl, by simp, rfl, by simp, (fun o ho => nomatch ho), by simp, by simp, by simp [kns], by simp⟩ (fun i x δ S1 hx ⟨⟨x4, x5, hδ⟩, ks, ws, b1, b2, b3, b4, b5, b6, b7, b8, b9, b10⟩ => by
      have hlt := (List.getElem?_eq_some_iff.mp hx).1
      rw [List.length_map, List.length_range] at hlt
      have hi : i < 3 := by omega
      rw [List.getElem?_map, List.getElem?_range hlt] at hx
      have ex : x = .int (i : Int) := by simpa using hx.symm
      subst hδ ex
      have c4 : ∀ S, run (j + 19) ._law_cell [.scr (ns.map D.int), .int (4 + 2 * (i : Int))] S = .ok (.int (cellv ns (4 + 2 * i))) S := fun S => by
        have := ec (4 + 2 * i) S
        rwa [show (((4 + 2 * i : Nat) : Nat) : Int) = 4 + 2 * (i : Int) by omega] at this
      have c5 : ∀ S, run (j + 19) ._law_cell [.scr (ns.map D.int), .int (5 + 2 * (i : Int))] S = .ok (.int (cellv ns (5 + 2 * i))) S := fun S => by
        have := ec (5 + 2 * i) S
        rwa [show (((5 + 2 * i : Nat) : Nat) : Int) = 5 + 2 * (i : Int) by omega] at this
      have p4 := cellv_lo ns (4 + 2 * i)
      have p5 := cellv_lo ns (5 + 2 * i)
      generalize cellv ns (4 + 2 * i) = c4' at *
      generalize cellv ns (5 + 2 * i) = c5' at *
      have s0 : (S1 ++ [.lst [.int (1 + c4' % 2147483645), .int (4 + c5' % 16)]])[0]? = some (.lst (ws.map wD)) := by rw [List.getElem?_append_left (by omega)]; exact b1
      obtain ⟨d, hd⟩ : ∃ d : Nat, 2 + c5' / 16 % 4 = (d : Int) + 1 ∧ d ≤ 4 := ⟨(1 + c5' / 16 % 4).toNat, by omega, by omega⟩
      obtain ⟨kk, T, g1, g2, ⟨b', ws', ⟨a', k0, kS, kq, kws, kb⟩, kp, ko, kz⟩, gx⟩ := kind3_ok (n := S1.length) (q := 0) (by omega) (w := w) (by omega) h4 hn hl d (k := j + 19) (M := ws.length + 19) (S := S1 ++ [.lst [.int (1 + c4' % 2147483645), .int (4 + c5' % 16)]]) (ws := ws) (b := 4 + c5' % 16) (l := 2 + c5' / 16 % 4) (by omega) (by omega) (by omega) ⟨1 + c4' % 2147483645, by omega, sto_snoc, s0, b7, by omega⟩
      have t1 : T[1]? = some (.lst (ks.map kd)) := by rw [gx.2 1 (by omega) (by omega), List.getElem?_append_left (by omega)]; exact b2
      have tl : T.length = S1.length + 1 := by rw [gx.1]; simp
      have hap : cAppend (.ref 1) [kd kk] T = .ok .non (T.set 1 (.lst (ks.map kd ++ [kd kk]))) := cAppend_ref t1 (hcap _ (by rw [List.length_map]; omega))
      refine ⟨_, T.set 1 (.lst (ks.map kd ++ [kd kk])), .inl ?_, ⟨some (.int i), some (.ref S1.length), rfl⟩, ks ++ [kk], ws', ?_, ?_, ?_, by simp [b4], ?_, ?_, kws, by omega, ?_, ?_⟩
      · have hI : isLst (S1 ++ [.lst [.int (1 + c4' % 2147483645), .int (4 + c5' % 16)]]) (.ref 1) = true := isLst_ref (ds := ks.map kd) (by rw [List.getElem?_append_left (by omega)]; exact b2)
        simp [loopB_eq, opMul_l, c4, c5, opMod_pos, opDiv_pos, hI, g1, hap]
      · rw [List.getElem?_set_ne (by omega)]; exact kq
      · rw [sto_set t1]; simp
      · simp; omega
      · intro k hk
        rcases List.mem_append.mp hk with hk | hk
        · exact b5 k hk
        · rw [List.mem_singleton.mp hk]; exact g2.mono (by omega)
      · intro o ho
        rw [occs_app] at ho
        simp only [occs, List.append_nil] at ho
        rcases List.mem_append.mp ho with ho | ho
        · exact (b6 o ho).pre kp
        · exact ko o ho
      · rw [kns_app]; simp only [kns]; omega
      · intro k hk
        rcases List.mem_append.mp hk with hk | hk
        · exact b10 k hk
        · rw [List.mem_singleton.mp hk]; omega)
  subst e eδ
  have hlen : ((List.range (1 + cellv ns 1 % 3).toNat).map fun i => D.int ((i : Nat) : Int)).length = (1 + cellv ns 1 % 3).toNat := by simp
  rw [hlen] at b4 b8 b9
  refine ⟨ks, ws, ?_, b5, by omega, by omega, b6, b7, by omega, by omega, b10⟩
  have hcl : ∀ n, D.cls n (ks.map kd) = true := fun n => cls_map fun k hk => vk_cl (b5 k hk)
  have hws : ∀ n, D.cls n (ws.map wD) = true := fun n => cls_map fun w hw => by simp only [wD, D.cl]; exact cls_map fun _ _ => rfl
  have hc : ClS [.lst []] S' := fun m o hm ho => by
    have : m = 0 := by simpa using hm
    subst this
    rw [b1] at ho; cases ho
    exact .inr (hws _)
  have ht : S'.take 1 = [.lst (ws.map wD)] := by
    cases S' with
    | nil => simp at b3
    | cons o S' => simp at b1; subst b1; simp
  rw [← hr0]
  simp only [RS.seq_nx]
  simp
  rw [finFrz_one (k := 0) hc (by simp) b2 (hcl _)]
  simp [ht]

end K_k04
end
section
namespace K_k04
open PySem L2 PM
noncomputable def l0 (C : Cs) (CE : CsE) : Sm :=
  (sAsg (mApp (C ._law_labels) (mCons (mApp (C ._law_cell) (mCons (mV 0) (mCons (mC (.int 2)) mNil))) (mCons (mC (.int 4)) mNil))) (gmName 1))
noncomputable def l1 (C : Cs) (CE : CsE) : Sm :=
  (sAsg (mApp newLst (mCons (mB opAdd (mC (.int 1)) (mB opMod (mApp (C ._law_cell) (mCons (mV 0) (mCons (mC (.int 3)) mNil))) (mB opPow (mC (.int 10)) (mC (.int 6))))) (mCons (mApp newRef mNil) mNil))) (gmName 2))
noncomputable def l2 (C : Cs) (CE : CsE) : Sm :=
  (sAsg (mApp (C ._law_kinds) (mCons (mV 0) (mCons (mV 1) (mCons (mV 2) mNil)))) (gmName 3))
noncomputable def l3 (C : Cs) (CE : CsE) : Sm :=
  (sAsg (mApp newRef (mCons (mB opAdd (mC (.int 1)) (mB opMod (mApp (C ._law_cell) (mCons (mV 0) (mCons (mC (.int 0)) mNil))) (mC (.int 2147483645)))) (mCons (mC (.int 20)) mNil))) (gmName 4))
noncomputable def l4 (C : Cs) (CE : CsE) : Sm :=
  (sAsg mNewK (gmName 5))
noncomputable def l5 (C : Cs) (CE : CsE) : Sm :=
  (sAsg (mApp newRef mNil) (gmName 6))
noncomputable def l6 (C : Cs) (CE : CsE) : Sm :=
  (sAsg mNewK (gmName 7))
noncomputable def l7 (C : Cs) (CE : CsE) : Sm :=
  (sFor (sItems (mV 3)) (gmName 8) (sExpr (mApp (C ._law_blanks) (mCons (mV 8) (mCons (mV 7) mNil)))))
noncomputable def l8 (C : Cs) (CE : CsE) : Sm :=
  (sAsg (mB opDiv (mApp (C ._law_cell) (mCons (mV 0) (mCons (mC (.int 1)) mNil))) (mC (.int 3))) (gmName 9))
noncomputable def l9 (C : Cs) (CE : CsE) : Sm :=
  (lockS 7 (sFor (sKeys (mV 7)) (gmName 10) (sAsg (mApp (C ._law_flat) (mCons (mV 4) (mCons (mV 1) (mCons (mB opIx (mV 7) (mV 10)) (mCons (mV 6) mNil))))) (gmSub (mV 5) (mV 10) opSet))))
noncomputable def l10 (C : Cs) (CE : CsE) : Sm :=
  (sAsg (mCompR (sItems (mV 3)) (gmName 8) mYes (mApp (C ._law_filled) (mCons (mV 8) (mCons (mV 5) mNil))) [8]) (gmName 11))
noncomputable def l11 (C : Cs) (CE : CsE) : Sm :=
  (sIf (mT (mB opGt (mApp cSum (mCons (mComp (sItems (mV 11)) (gmName 8) mYes (mApp (C ._law_knots) (mCons (mV 8) mNil)) [8]) mNil)) (mC (.int 95)))) (sRet (mC (.bl true))) sPass)
noncomputable def l12 (C : Cs) (CE : CsE) : Sm :=
  (sIf (mT (mB opEq (mB opMod (mB opDiv (mV 9) (mC (.int 2))) (mC (.int 2))) (mC (.int 1)))) (sSeq (sAsg (mB opMod (mB opDiv (mV 9) (mC (.int 4))) (mApp cLen (mCons (mV 11) mNil))) (gmName 12)) (sAsg (mApp (C ._law_bent) (mCons (mB opIx (mV 11) (mV 12)) (mCons (mB opDiv (mV 9) (mC (.int 12))) (mCons (mV 1) mNil)))) (gmSub (mV 11) (mV 12) opSet))) sPass)
noncomputable def l13 (C : Cs) (CE : CsE) : Sm :=
  (sIf (mT (mB opEq (mB opMod (mB opDiv (mV 9) (mC (.int 4))) (mC (.int 6))) (mC (.int 5)))) (sSeq (sAsg (mB opIx (mApp newLst (mCons (mB opAdd (mV 11) (mApp newLst (mCons (mApp newTup (mCons (mC (.str "none")) mNil)) mNil))) (mCons (mB opAdd (mV 11) (mApp newLst (mCons (mApp newTup (mCons (mC (.str "blank")) (mCons (mC (.int 1)) mNil))) (mCons (mApp newTup (mCons (mC (.str "record")) (mCons (mApp newTup mNil) (mCons (mC (.int 1)) mNil)))) mNil)))) (mCons (mApp newLst (mCons (mApp newTup (mCons (mC (.str "record")) (mCons (mApp newTup mNil) (mCons (mU opNeg (mC (.int 1))) mNil)))) mNil)) mNil)))) (mB opMod (mB opDiv (mV 9) (mC (.int 24))) (mC (.int 3)))) (gmName 13)) (sRet (mAndV (mApp (C ._law_refused) (mCons (mV 3) (mCons (mV 13) mNil))) (mAndV (mApp (C ._law_refused) (mCons (mV 13) (mCons (mApp cTuple (mCons (mV 3) mNil)) mNil))) (mB opIsN (mApp (C .fits) (mCons (mV 3) (mCons (mB opAdd (mV 11) (mSl opSl (mV 11) mNo (mPt (mC (.int 1))))) mNil))) (mC .non)))))) sPass)
noncomputable def l14 (C : Cs) (CE : CsE) : Sm :=
  (sIf (mT (mB opEq (mB opMod (mB opDiv (mV 9) (mC (.int 3))) (mC (.int 3))) (mC (.int 1)))) (sSeq (sAsg (mApp newTup (mCons (mC (.str "record")) (mCons (mApp newTup (mCons (mApp newTup (mCons (mB opIx (mV 1) (mC (.int 0))) (mCons (mApp newTup (mCons (mC (.str "number")) mNil)) mNil))) mNil)) (mCons (mC .non) mNil)))) (gmName 14)) (sSeq (sAsg (mB opAdd (mV 3) (mApp newLst (mCons (mV 14) mNil))) (gmName 3)) (sAsg (mB opAdd (mV 11) (mApp newLst (mCons (mB opIx (mApp newLst (mCons (mV 14) (mCons (mB opAdd (mSl opSl (mV 14) mNo (mPt (mC (.int 2)))) (mApp newTup (mCons (mC (.int 8888889)) mNil))) mNil))) (mB opMod (mB opDiv (mV 9) (mC (.int 9))) (mC (.int 2)))) mNil))) (gmName 11)))) sPass)
noncomputable def l15 (C : Cs) (CE : CsE) : Sm :=
  (sIf (mT (mB opEq (mB opMod (mB opDiv (mV 9) (mC (.int 3))) (mC (.int 3))) (mC (.int 2)))) (sSeq (sAsg (mApp cSorted (mCons (mSl opSl (mV 1) mNo (mPt (mC (.int 2)))) mNil)) (gmUnp [15, 16])) (sSeq (sAsg (mApp newTup (mCons (mC (.str "blank")) (mCons (mB opMul (mB opIx (mV 2) (mC (.int 0))) (mC (.int 4))) mNil))) (gmName 17)) (sSeq (sAsg (mB opAdd (mV 3) (mApp newLst (mCons (mApp newTup (mCons (mC (.str "record")) (mCons (mApp newTup (mCons (mApp newTup (mCons (mV 15) (mCons (mV 17) mNil))) (mCons (mApp newTup (mCons (mV 16) (mCons (mV 17) mNil))) mNil))) (mCons (mC .non) mNil)))) mNil))) (gmName 3)) (sSeq (sAsg (mB opIx (mApp newLst (mCons (mApp newTup (mCons (mC (.str "number")) mNil)) (mCons (mApp newTup (mCons (mC (.str "record")) (mCons (mApp newTup mNil) (mCons (mC .non) mNil)))) mNil))) (mB opMod (mB opDiv (mV 9) (mC (.int 9))) (mC (.int 2)))) (gmName 18)) (sAsg (mB opAdd (mV 11) (mApp newLst (mCons (mApp newTup (mCons (mC (.str "record")) (mCons (mApp newTup (mCons (mApp newTup (mCons (mV 15) (mCons (mApp newTup (mCons (mC (.str "number")) mNil)) mNil))) (mCons (mApp newTup (mCons (mV 16) (mCons (mV 18) mNil))) mNil))) (mCons (mC .non) mNil)))) mNil))) (gmName 11)))))) sPass)
noncomputable def l16 (C : Cs) (CE : CsE) : Sm :=
  (sAsg mNewK (gmName 19))
noncomputable def l17 (C : Cs) (CE : CsE) : Sm :=
  (sFor (sRangeLen (mV 3)) (gmName 20) (sIf (mAnd (mT (mB opNotN (mV 19) (mC .non))) (mNot (mT (mApp (C ._law_match) (mCons (mB opIx (mV 3) (mV 20)) (mCons (mB opIx (mV 11) (mV 20)) (mCons (mV 19) mNil))))))) (sAsg (mC .non) (gmName 19)) sPass))
noncomputable def l18 (C : Cs) (CE : CsE) : Sm :=
  (sRet (mAndV (mApp (C ._law_agrees) (mCons (mV 3) (mCons (mV 11) (mCons (mV 19) mNil)))) (mApp (C ._law_big) mNil)))
theorem l_eq (C : Cs) (CE : CsE) : b_law C CE = sSeq (l0 C CE) (sSeq (l1 C CE) (sSeq (l2 C CE) (sSeq (l3 C CE) (sSeq (l4 C CE) (sSeq (l5 C CE) (sSeq (l6 C CE) (sSeq (l7 C CE) (sSeq (l8 C CE) (sSeq (l9 C CE) (sSeq (l10 C CE) (sSeq (l11 C CE) (sSeq (l12 C CE) (sSeq (l13 C CE) (sSeq (l14 C CE) (sSeq (l15 C CE) (sSeq (l16 C CE) (sSeq (l17 C CE) (l18 C CE)))))))))))))))))) := rfl

end K_k04
end
section
namespace K_k04
open PySem L2 PM
def Dn (r : RS) : Prop := ∃ T, r = .rt (.bl true) T
theorem dn_seq {a b : Sm} {δ δ' : PM.Loc} {S S' : Sto} (h : a δ S = .nx δ' S') (g : Dn (b δ' S')) : Dn (sSeq a b δ S) := by rw [sSeq_eq, h, RS.seq_nx]; exact g
theorem dn_rt {a b : Sm} {δ : PM.Loc} {S T : Sto} (h : a δ S = .rt (.bl true) T) : Dn (sSeq a b δ S) := ⟨T, by rw [sSeq_eq, h]; rfl⟩
/-- the others as they stand at first -/
structure Ot (we : List (List Str)) (n : Nat) (os : List K) : Prop where
  len : os.length = n
  vk : ∀ o ∈ os, VK 6 o
  oc : ∀ o ∈ occs os, OkE we o
  sz : kns os ≤ 95
  we : we.length ≤ 1000
/-- .. and with a part bent -/
structure Ob (we : List (List Str)) (n : Nat) (os : List K) : Prop where
  len : os.length = n
  vk : ∀ o ∈ os, VK 8 o
  oc : ∃ x1 : Int × OL, (x1 = (3, none) ∨ ∃ w, x1 = (9999999, some w)) ∧ ∀ o ∈ occs os, OkE we o ∨ o = x1
  sz : kns os ≤ 96
  we : we.length ≤ 1000
theorem Ot.ob {we : List (List Str)} {n : Nat} {os : List K} (h : Ot we n os) : Ob we n os := ⟨h.len, fun o ho => (h.vk o ho).mono (by omega), ⟨(3, none), .inl rfl, fun o ho => .inl (h.oc o ho)⟩, by have := h.sz; omega, h.we⟩
theorem Ob.con {we : List (List Str)} {n : Nat} {os : List K} (h : Ob we n os) : ∀ (m : Mp), (∀ o ∈ m, o ∈ occs os ∨ ∃ w, o = (8888889, some w) ∧ ∀ u ∈ m, u ∈ occs os ∨ u = (8888889, some w)) → Con m := fun m hm => by
  obtain ⟨x1, h1, h2⟩ := h.oc
  by_cases c : ∃ w : List Str, ((8888889 : Int), some w) ∈ m ∧ ∀ u ∈ m, u ∈ occs os ∨ u = (8888889, some w)
  · obtain ⟨w, hw, hu⟩ := c
    refine con_oke (ws := we) (x0 := (8888889, some w)) (x1 := x1) (.inr (.inr ⟨w, rfl⟩)) h1 (.inr ⟨w, rfl⟩) h.we fun o ho => ?_
    rcases hu o ho with h | h
    · rcases h2 o h with h | h
      · exact .inl h
      · exact .inr (.inr h)
    · exact .inr (.inl h)
  · refine con_oke (ws := we) (x0 := x1) (x1 := x1) (h1.elim .inl (fun h => .inr (.inl h))) h1 (.inl rfl) h.we fun o ho => ?_
    rcases hm o ho with h | ⟨w, e, hu⟩
    · rcases h2 o h with h | h
      · exact .inl h
      · exact .inr (.inl h)
    · exact absurd ⟨w, by rw [← e]; exact ho, hu⟩ c
theorem Ob.con0 {we : List (List Str)} {n : Nat} {os : List K} (h : Ob we n os) {m : Mp} (hm : ∀ o ∈ m, o ∈ occs os) : Con m := h.con m fun o ho => .inl (hm o ho)
theorem s11 {S : Sto} {os : List K} {a0 a1 a2 a3 a4 a5 a6 a7 a8 a9 a10 a12 a13 a14 a15 a16 a17 a18 a19 a20 : Option D} {q : Nat} (hv : ∀ o ∈ os, VK 6 o) (h : S[q]? = some (.lst (os.map kd))) :
    l11 (run 59) (runE 59) [a0, a1, a2, a3, a4, a5, a6, a7, a8, a9, a10, some (.ref q), a12, a13, a14, a15, a16, a17, a18, a19, a20] S =
      if 95 < kns os then .rt (.bl true) S else .nx [a0, a1, a2, a3, a4, a5, a6, a7, a8, a9, a10, some (.ref q), a12, a13, a14, a15, a16, a17, a18, a19, a20] S := by
  have hs : ∀ U, cSum [.lst (os.map fun o => D.int ((kn o : Nat) : Int))] U = .ok (.int (kns os : Nat)) U := fun U => by rw [cSum_map, kns_isum]
  simp [l11, h, wipeD]
  rw [comp_map (i := kd) (f := fun o => .int (kn o : Nat)) (hg := h) (h := fun o ho => ⟨_, rfl, rfl, by simp [lknots_ok 6 (hv o ho) (show 6 ≤ 59 by omega)]⟩)]
  by_cases c : 95 < kns os
  · have c' : (95 : Int) < (kns os : Nat) := by omega
    simp [hs, c, c']
  · have c' : ¬ (95 : Int) < (kns os : Nat) := by omega
    simp [hs, c, c']
theorem s12 {S : Sto} {we : List (List Str)} {n : Nat} {os : List K} {ls : List Str} (h4 : ls.length = 4) (hl : ∀ l ∈ ls, IsLab l) {wy : Int} {a0 a2 a3 a4 a5 a6 a7 a8 a10 a12 a13 a14 a15 a16 a17 a18 a19 a20 : Option D} {q : Nat} (hn : 1 ≤ n) (ho : Ot we n os) (h : S[q]? = some (.lst (os.map kd))) :
    ∃ x12 S' os', l12 (run 59) (runE 59) [a0, some (.lst (ls.map .str)), a2, a3, a4, a5, a6, a7, a8, some (.int wy), a10, some (.ref q), a12, a13, a14, a15, a16, a17, a18, a19, a20] S =
      .nx [a0, some (.lst (ls.map .str)), a2, a3, a4, a5, a6, a7, a8, some (.int wy), a10, some (.ref q), x12, a13, a14, a15, a16, a17, a18, a19, a20] S' ∧ Ob we n os' ∧ S'[q]? = some (.lst (os'.map kd)) := by
  by_cases c : wy / 2 % 2 = 1
  · have j0 := Int.emod_nonneg (wy / 4) (show (os.length : Int) ≠ 0 by have := ho.len; omega)
    have j1 := Int.emod_lt_of_pos (wy / 4) (show (0 : Int) < os.length by have := ho.len; omega)
    obtain ⟨i, hi⟩ : ∃ i : Nat, wy / 4 % (os.length : Int) = i := ⟨(wy / 4 % (os.length : Int)).toNat, by omega⟩
    have hlt : i < os.length := by omega
    obtain ⟨o, hoi⟩ : ∃ o, os[i]? = some o := ⟨_, List.getElem?_eq_getElem hlt⟩
    have hom := List.mem_of_getElem? hoi
    obtain ⟨o', b1, b2, b3, x0, b4, b5⟩ := bent_ok h4 hl 6 (j := 59) (S := S) (p := wy / 12) (by omega) (ho.vk o hom) (by have := kns_mem hom; have := ho.sz; omega) (by omega)
    have hix : opIx (.ref q) (.int i) S = .ok (kd o) S := by rw [opIx_ref h]; simp [hoi]
    have hset : opSet (.ref q) (.int i) (kd o') S = .ok () (S.set q (.lst ((os.set i o').map kd))) := by
      rw [opSet_lst (k := i) h]
      · rw [List.map_set]
      · rw [List.length_map]
        unfold ixN
        rw [if_pos (by omega)]
        simp; omega
    have hlo : lenOf (.ref q) S = some os.length := by simp only [lenOf, h, List.length_map]
    refine ⟨some (.int i), S.set q (.lst ((os.set i o').map kd)), os.set i o', ?_, ⟨by rw [List.length_set]; exact ho.len, fun x hx => ?_, ⟨x0, b4, fun u hu => ?_⟩, ?_, ho.we⟩, sto_set h⟩
    · simp [l12, c, opDiv_pos, opMod_pos, hlo, opMod_pos (show (0 : Int) < os.length by omega), hi, hix, b1, hset]
    · rcases List.mem_or_eq_of_mem_set hx with hx | hx
      · exact (ho.vk x hx).mono (by omega)
      · rw [hx]; exact b2
    · rcases occs_set hoi b5 u hu with h | h
      · exact .inl (ho.oc u h)
      · exact .inr h
    · have := kns_set hoi b3; have := ho.sz; omega
  · exact ⟨a12, S, os, by simp [l12, c, opDiv_pos, opMod_pos], ho.ob, h⟩

theorem ksz_one {n : Nat} {ks : List K} (h : kns ks ≤ n) : kns (ks.take 1) ≤ n := Nat.le_trans (kns_sub (List.take_sublist _ _)) h
theorem oko_con {w : Int} {ws : List (List Str)} {ks : List K} (hw : 1 ≤ w) (h : ∀ o ∈ occs ks, OkO w ws o) : Con (occs ks) := con_oko hw h
theorem no_con {m : Mp} {a b : Int × OL} (ha : a ∈ m) (hb : b ∈ m) (e : a.1 = b.1) (ne : a.2 ≠ b.2) : (pa [] m).2 = false := by
  cases h : (pa [] m).2 with
  | false => rfl
  | true => exact absurd (pa_con' h a ha b hb e) ne
theorem s13 {S : Sto} {we : List (List Str)} {ks os : List K} {wy : Int} {a0 a1 a2 a4 a5 a6 a7 a8 a10 a12 a13 a14 a15 a16 a17 a18 a19 a20 : Option D} {q : Nat} (hk : ∀ k ∈ ks, VK 5 k) (hks : kns ks ≤ 200) (hkc : Con (occs ks)) (hn : 1 ≤ ks.length) (ho : Ob we ks.length os) (h : S[q]? = some (.lst (os.map kd))) :
    (∃ T, l13 (run 59) (runE 59) [a0, a1, a2, some (.lst (ks.map kd)), a4, a5, a6, a7, a8, some (.int wy), a10, some (.ref q), a12, a13, a14, a15, a16, a17, a18, a19, a20] S = .rt (.bl true) T) ∨
      l13 (run 59) (runE 59) [a0, a1, a2, some (.lst (ks.map kd)), a4, a5, a6, a7, a8, some (.int wy), a10, some (.ref q), a12, a13, a14, a15, a16, a17, a18, a19, a20] S = .nx [a0, a1, a2, some (.lst (ks.map kd)), a4, a5, a6, a7, a8, some (.int wy), a10, some (.ref q), a12, a13, a14, a15, a16, a17, a18, a19, a20] S := by
  by_cases c : wy / 4 % 6 = 5
  · left
    have gk := gks_of hk hks hkc
    have hol : os.length ≤ 96 := by have := kns_len os; have := ho.sz; omega
    have hsz1 : ∀ a : D, (os.map kd).length + [a].length ≤ sizeLine := fun a => by simp; exact Nat.le_trans (by omega) szl
    have hsz2 : ∀ a b : D, (os.map kd).length + [a, b].length ≤ sizeLine := fun a b => by simp; exact Nat.le_trans (by omega) szl
    -- the list of the others and the first one more
    have gf : Gks 8 (os ++ os.take 1) := gks_of (fun o hx => by
      rcases List.mem_append.mp hx with hx | hx
      · exact ho.vk o hx
      · exact ho.vk o (List.mem_of_mem_take hx)) (by rw [kns_app]; have := ho.sz; have := ksz_one ho.sz; omega) (ho.con0 fun u hu => by
      rw [occs_app] at hu
      rcases List.mem_append.mp hu with h | h
      · exact h
      · exact occs_sub (List.take_sublist _ _) u h)
    have hlen2 : ks.length ≠ (os ++ os.take 1).length := by rw [List.length_append, List.length_take, ho.len]; omega
    have f3 := (fits_ok (j := 19) (S := S) (x := .lst (ks.map kd)) (y := .lst ((os ++ os.take 1).map kd)) (.inl rfl) (.inl rfl) gk gf (by omega) (by omega)).1 hlen2
    rw [List.map_append, List.map_take] at f3
    have hadd3 : opAdd (.ref q) (.lst ((os.map kd).take 1)) S = .ok (.lst (os.map kd ++ (os.map kd).take 1)) S := by
      rw [opAdd_refl h (by simp; exact Nat.le_trans (by omega) szl)]
    have hsl : opSl (.ref q) none (some 1) S = .ok (.lst ((os.map kd).take 1)) S := by
      have : cutD (os.map kd) none (some 1) = (os.map kd).take 1 := cutD_to (by omega)
      simp only [opSl, rdL, asL, h, this]
    have a1' : run 57 .are_kinds [.lst (ks.map kd)] S = .ok (.bl true) S := gk.are (j := 27) (by omega) (.inl rfl)
    have bad : ∃ b : D, (∃ T3 : D, True) ∧ at1 (atI [.lst (os.map kd ++ [.tup [.str "none"]]), .lst (os.map kd ++ [.tup [.str "blank", .int 1], .tup [.str "record", .tup [], .int 1]]), .lst [.tup [.str "record", .tup [], .int (-1)]]] (wy / 24 % 3)) S = .ok b S ∧ run 57 .are_kinds [b] S = .ok (.bl false) S := by
      have h3 : wy / 24 % 3 = 0 ∨ wy / 24 % 3 = 1 ∨ wy / 24 % 3 = 2 := by omega
      rcases h3 with e | e | e <;> rw [e]
      · refine ⟨_, ⟨.non, trivial⟩, rfl, ?_⟩
        have := are_ok (j := 27) (S := S) (x := .lst (os.map kd ++ [.tup [.str "none"]])) (os := os) (tail := [.tup [.str "none"]]) (.inl rfl) ho.vk (by omega) (by have := ho.sz; omega) (.inr ⟨_, [], 1, rfl, by decide +kernel, by decide +kernel⟩)
        exact this
      · refine ⟨_, ⟨.non, trivial⟩, rfl, ?_⟩
        have := are_ok (j := 27) (n := 8) (S := S) (x := .lst (os.map kd ++ [.tup [.str "blank", .int 1], .tup [.str "record", .tup [], .int 1]])) (os := os ++ [.blk 1, .rc [] [] (some 1)]) (tail := []) (.inl (by simp [kd, kds, fldD, rD0])) (fun o hx => by
          rcases List.mem_append.mp hx with hx | hx
          · exact ho.vk o hx
          · simp at hx
            rcases hx with rfl | rfl
            · exact .blk (by omega)
            · exact .rc rfl (by rw [ascS_iff]; exact .nil) (fun l h => nomatch h) (fun k h => nomatch h) (fun i e => by cases e; omega)) (by omega) (by rw [kns_app]; have := ho.sz; simp [kns, kn]; omega) (.inl rfl)
        rw [no_con (a := (1, none)) (b := (1, some [])) (by rw [occs_app]; simp [occs, occ]) (by rw [occs_app]; simp [occs, occ, restO]) rfl (by simp)] at this
        exact this
      · refine ⟨_, ⟨.non, trivial⟩, rfl, ?_⟩
        have := are_ok (j := 27) (n := 8) (S := S) (x := .lst [.tup [.str "record", .tup [], .int (-1)]]) (os := []) (tail := [.tup [.str "record", .tup [], .int (-1)]]) (.inl rfl) (fun o hx => nomatch hx) (by omega) (by simp [kns]) (.inr ⟨_, [], 2, rfl, by decide +kernel, by decide +kernel⟩)
        exact this
    obtain ⟨b, _, e1, e2⟩ := bad
    have f1 := refused_ok (j := 53) (S := S) (fits_bad (j := 18) (x := .lst (ks.map kd)) (y := b) (a := true) a1' (fun _ => e2))
    have f2 := refused_ok (j := 53) (S := S) (fits_bad (j := 18) (x := b) (y := .tup (ks.map kd)) (a := false) e2 (fun h => nomatch h))
    refine ⟨S ++ [fO []], ?_⟩
    simp [l13, c, opDiv_pos, opMod_pos, opAdd_refl h (hsz1 _), opAdd_refl h (hsz2 _ _), e1, f1, f2, hsl, hadd3]
    simp [f3, isNon]
  · right
    simp [l13, c, opDiv_pos, opMod_pos]

/-- the kinds and the others at last -/
structure Fi (S : Sto) (ks os : List K) (kx ox : D) : Prop where
  kx : ItL S kx (ks.map kd)
  ox : ItL S ox (os.map kd)
  kv : ∀ k ∈ ks, VK 5 k
  ov : ∀ k ∈ os, VK 8 k
  kz : kns ks ≤ 200
  oz : kns os ≤ 200
  kc : Con (occs ks)
  oc : Con (occs os)
  len : ks.length = os.length
theorem s1415 {S : Sto} {ws we : List (List Str)} {ks os : List K} {ls : List Str} {w wy : Int} (h4 : ls.length = 4) (hnd : ls.Nodup) (hl : ∀ l ∈ ls, IsLab l) (hw : 1 ≤ w ∧ w < 1000000000) {a0 a4 a5 a6 a7 a8 a10 a12 a13 a14 a15 a16 a17 a18 a19 a20 : Option D} {q r : Nat}
    (hk : ∀ k ∈ ks, VK 5 k) (hks : kns ks ≤ 96) (hko : ∀ o ∈ occs ks, OkO w ws o) (hkl : ks.length ≤ 3) (ho : Ob we ks.length os) (h : S[q]? = some (.lst (os.map kd))) {rest : Sm} (hd : ∀ ks' os' kx ox b14 b15 b16 b17 b18, Fi S ks' os' kx ox →
      Dn (rest [a0, some (.lst (ls.map .str)), some (.lst [.int w, .ref r]), some kx, a4, a5, a6, a7, a8, some (.int wy), a10, some ox, a12, a13, b14, b15, b16, b17, b18, a19, a20] S)) :
    Dn (sSeq (l14 (run 59) (runE 59)) (sSeq (l15 (run 59) (runE 59)) rest) [a0, some (.lst (ls.map .str)), some (.lst [.int w, .ref r]), some (.lst (ks.map kd)), a4, a5, a6, a7, a8, some (.int wy), a10, some (.ref q), a12, a13, a14, a15, a16, a17, a18, a19, a20] S) := by
  obtain ⟨l0, hl0, e0⟩ := labs_at h4 (show (0 : Int) ≤ 0 by omega) (by omega)
  have hol : os.length ≤ 3 := by have := ho.len; omega
  have hkc : Con (occs ks) := con_oko hw.1 hko
  have hsz1 : ∀ a : D, (os.map kd).length + [a].length ≤ sizeLine := fun a => by simp; exact Nat.le_trans (by omega) szl
  have hsz2 : ∀ a : D, (ks.map kd).length + [a].length ≤ sizeLine := fun a => by simp; exact Nat.le_trans (by omega) szl
  have n14 : ¬ wy / 3 % 3 = 1 → l14 (run 59) (runE 59) [a0, some (.lst (ls.map .str)), some (.lst [.int w, .ref r]), some (.lst (ks.map kd)), a4, a5, a6, a7, a8, some (.int wy), a10, some (.ref q), a12, a13, a14, a15, a16, a17, a18, a19, a20] S =
      .nx [a0, some (.lst (ls.map .str)), some (.lst [.int w, .ref r]), some (.lst (ks.map kd)), a4, a5, a6, a7, a8, some (.int wy), a10, some (.ref q), a12, a13, a14, a15, a16, a17, a18, a19, a20] S := fun c => by simp [l14, c, opDiv_pos, opMod_pos]
  have n15 : ∀ b3 b11 b14 b15 b16 b17 b18, ¬ wy / 3 % 3 = 2 → l15 (run 59) (runE 59) [a0, some (.lst (ls.map .str)), some (.lst [.int w, .ref r]), b3, a4, a5, a6, a7, a8, some (.int wy), a10, b11, a12, a13, b14, b15, b16, b17, b18, a19, a20] S =
      .nx [a0, some (.lst (ls.map .str)), some (.lst [.int w, .ref r]), b3, a4, a5, a6, a7, a8, some (.int wy), a10, b11, a12, a13, b14, b15, b16, b17, b18, a19, a20] S := fun b3 b11 b14 b15 b16 b17 b18 c => by simp [l15, c, opDiv_pos, opMod_pos]
  have h3 : wy / 3 % 3 = 0 ∨ wy / 3 % 3 = 1 ∨ wy / 3 % 3 = 2 := by omega
  rcases h3 with c | c | c
  · exact dn_seq (n14 (by omega)) (dn_seq (n15 _ _ _ _ _ _ _ (by omega)) (hd ks os _ _ _ _ _ _ _ ⟨.inl rfl, .inr ⟨q, rfl, h⟩, hk, ho.vk, by omega, by have := ho.sz; omega, hkc, ho.con0 fun o h => h, by rw [ho.len]⟩))
  · have hv1 : ∀ r : Option Int, (∀ i, r = some i → 0 ≤ i) → VK 2 (.rc [l0] [.num] r) := fun r hr => .rc rfl (by rw [ascS_iff]; exact List.pairwise_singleton _ _) (fun l h => by rw [List.mem_singleton.mp h]; exact hl l0 hl0) (fun k h => by rw [List.mem_singleton.mp h]; exact .num) hr
    have hx : ∃ r' : Option Int, (r' = none ∨ r' = some 8888889) ∧ at1 (atI [kd (K.rc [l0] [K.num] none), kd (K.rc [l0] [K.num] (some 8888889))] (wy / 9 % 2)) S = .ok (kd (K.rc [l0] [K.num] r')) S := by
      have h2 : wy / 9 % 2 = 0 ∨ wy / 9 % 2 = 1 := by omega
      rcases h2 with e | e <;> rw [e]
      · exact ⟨none, .inl rfl, rfl⟩
      · exact ⟨some 8888889, .inr rfl, rfl⟩
    obtain ⟨r', hr', hix⟩ := hx
    have k1 : kd (K.rc [l0] [K.num] none) = .tup [.str "record", .tup [.tup [.str l0, .tup [.str "number"]]], .non] := rfl
    have k2 : kd (K.rc [l0] [K.num] (some 8888889)) = .tup [.str "record", .tup [.tup [.str l0, .tup [.str "number"]]], .int 8888889] := rfl
    have hat : ∀ U, opAdd (.tup [.str "record", .tup [.tup [.str l0, .tup [.str "number"]]]]) (.tup [.int 8888889]) U = .ok (kd (K.rc [l0] [K.num] (some 8888889))) U := fun U => by
      rw [opAdd_tup (by simp; exact Nat.le_trans (by omega) szl)]; rfl
    have hcut : cutD [D.str "record", .tup [.tup [.str l0, .tup [.str "number"]]], .non] none (some 2) = [D.str "record", .tup [.tup [.str l0, .tup [.str "number"]]]] := by rw [cutD_to (by omega)]; rfl
    have e14 : l14 (run 59) (runE 59) [a0, some (.lst (ls.map .str)), some (.lst [.int w, .ref r]), some (.lst (ks.map kd)), a4, a5, a6, a7, a8, some (.int wy), a10, some (.ref q), a12, a13, a14, a15, a16, a17, a18, a19, a20] S =
        .nx [a0, some (.lst (ls.map .str)), some (.lst [.int w, .ref r]), some (.lst ((ks ++ [K.rc [l0] [K.num] none]).map kd)), a4, a5, a6, a7, a8, some (.int wy), a10, some (.lst ((os ++ [K.rc [l0] [K.num] r']).map kd)), a12, a13, some (kd (K.rc [l0] [K.num] none)), a15, a16, a17, a18, a19, a20] S := by
      rw [k1] at hix
      simp only [l14]
      simp [c, opDiv_pos, opMod_pos, e0, opAdd_lst (hsz2 _), hcut, hat, hix, opAdd_refl h (hsz1 _), k1]
    refine dn_seq e14 (dn_seq (n15 _ _ _ _ _ _ _ (by omega)) ?_)
    have key := hd (ks ++ [K.rc [l0] [K.num] none]) (os ++ [K.rc [l0] [K.num] r']) (.lst ((ks ++ [K.rc [l0] [K.num] none]).map kd)) (.lst ((os ++ [K.rc [l0] [K.num] r']).map kd)) (some (kd (K.rc [l0] [K.num] none))) a15 a16 a17 a18 ⟨.inl rfl, .inl rfl, fun k hx => ?_, fun k hx => ?_, ?_, ?_, ?_, ?_, by simp [ho.len]⟩
    · simpa using key
    · rcases List.mem_append.mp hx with hx | hx
      · exact hk k hx
      · rw [List.mem_singleton.mp hx]; exact (hv1 none (fun i e => nomatch e)).mono (by omega)
    · rcases List.mem_append.mp hx with hx | hx
      · exact ho.vk k hx
      · rw [List.mem_singleton.mp hx]; exact (hv1 r' (fun i e => by rcases hr' with rfl | rfl <;> cases e; omega)).mono (by omega)
    · rw [kns_app]; simp [kns, kn]; omega
    · rw [kns_app]; have := ho.sz; simp [kns, kn]; omega
    · rw [occs_app]; simpa [occs, occ, restO] using hkc
    · refine ho.con _ fun o hx => ?_
      rw [occs_app] at hx
      rcases hr' with rfl | rfl
      · left; simpa [occs, occ, restO] using hx
      · rcases List.mem_append.mp hx with hx | hx
        · exact .inl hx
        · refine .inr ⟨[l0], by simpa [occs, occ, restO] using hx, fun u hu => ?_⟩
          rw [occs_app] at hu
          simpa [occs, occ, restO] using hu
  · -- a record with one blank twice
    obtain ⟨l1, hl1, e1⟩ := labs_at h4 (show (0 : Int) ≤ 1 by omega) (by omega)
    have htk : ls.take 2 = [ls[0]'(by omega), ls[1]'(by omega)] := by
      match ls, h4 with
      | [a, b, c, d], _ => rfl
    have hp2 : (sortStr (ls.take 2)).length = 2 := by rw [(sortStr_perm _).length_eq, List.length_take]; omega
    obtain ⟨x, y, hxy⟩ : ∃ x y, sortStr (ls.take 2) = [x, y] := by
      match h : sortStr (ls.take 2), hp2 with
      | [x, y], _ => exact ⟨x, y, rfl⟩
    have hasc : ascS [x, y] = true := by rw [← hxy]; exact asc_sort (hnd.sublist (List.take_sublist _ _))
    have hxl : ∀ l ∈ [x, y], IsLab l := fun l h => by
      rw [← hxy] at h
      exact hl l (List.mem_of_mem_take ((sortStr_perm _).mem_iff.mp h))
    have hsrt : ∀ U, cSorted [.lst ((ls.map D.str).take 2)] U = .ok (.lst [.str x, .str y]) U := fun U => by
      have : (ls.map D.str).take 2 = (ls.take 2).map .str := by rw [List.map_take]
      rw [this]
      simp only [cSorted, rdL, asL, strsOf_id, hxy]; rfl
    have hcut : cutD (ls.map D.str) none (some 2) = (ls.map D.str).take 2 := cutD_to (by omega)
    have hx : ∃ i : K, (i = .num ∨ i = .rc [] [] none) ∧ at1 (atI [kd .num, kd (.rc [] [] none)] (wy / 9 % 2)) S = .ok (kd i) S := by
      have h2 : wy / 9 % 2 = 0 ∨ wy / 9 % 2 = 1 := by omega
      rcases h2 with e | e <;> rw [e]
      · exact ⟨_, .inl rfl, rfl⟩
      · exact ⟨_, .inr rfl, rfl⟩
    obtain ⟨i, hi, hix⟩ := hx
    have hiv : VK 1 i ∧ kn i = 1 ∧ occ i = [] := by
      rcases hi with rfl | rfl
      · exact ⟨.num, rfl, rfl⟩
      · exact ⟨.rc rfl (by rw [ascS_iff]; exact .nil) (fun l h => nomatch h) (fun k h => nomatch h) (fun i e => nomatch e), rfl, rfl⟩
    have k1 : kd .num = .tup [.str "number"] := rfl
    have k2 : kd (.rc [] [] none) = .tup [.str "record", .tup [], .non] := rfl
    have k3 : kd (.rc [x, y] [.blk (w * 4), .blk (w * 4)] none) = .tup [.str "record", .tup [.tup [.str x, .tup [.str "blank", .int (w * 4)]], .tup [.str y, .tup [.str "blank", .int (w * 4)]]], .non] := rfl
    have k4 : kd (.rc [x, y] [.num, i] none) = .tup [.str "record", .tup [.tup [.str x, .tup [.str "number"]], .tup [.str y, kd i]], .non] := rfl
    have e15 : l15 (run 59) (runE 59) [a0, some (.lst (ls.map .str)), some (.lst [.int w, .ref r]), some (.lst (ks.map kd)), a4, a5, a6, a7, a8, some (.int wy), a10, some (.ref q), a12, a13, a14, a15, a16, a17, a18, a19, a20] S =
        .nx [a0, some (.lst (ls.map .str)), some (.lst [.int w, .ref r]), some (.lst ((ks ++ [K.rc [x, y] [K.blk (w * 4), K.blk (w * 4)] none]).map kd)), a4, a5, a6, a7, a8, some (.int wy), a10, some (.lst ((os ++ [K.rc [x, y] [K.num, i] none]).map kd)), a12, a13, a14, some (.str x), some (.str y), some (.tup [.str "blank", .int (w * 4)]), some (kd i), a19, a20] S := by
      rw [k1, k2] at hix
      simp only [l15]
      simp [c, opDiv_pos, opMod_pos, hcut, hsrt, gmUnp, opMul_r, opAdd_lst (hsz2 _), hix, opAdd_refl h (hsz1 _), k3, k4]
    refine dn_seq (n14 (by omega)) (dn_seq e15 ?_)
    have hko2 : ∀ o ∈ occs (ks ++ [K.rc [x, y] [K.blk (w * 4), K.blk (w * 4)] none]), OkO w ws o := fun o ho => by
      rw [occs_app] at ho
      rcases List.mem_append.mp ho with ho | ho
      · exact hko o ho
      · have : o = (w * 4, none) := by simpa [occs, occ, restO] using ho
        exact .inl ⟨2, by omega, by rw [this]; congr 1; omega⟩
    refine hd (ks ++ [K.rc [x, y] [K.blk (w * 4), K.blk (w * 4)] none]) (os ++ [K.rc [x, y] [K.num, i] none]) (.lst ((ks ++ [K.rc [x, y] [K.blk (w * 4), K.blk (w * 4)] none]).map kd)) (.lst ((os ++ [K.rc [x, y] [K.num, i] none]).map kd)) a14 (some (.str x)) (some (.str y)) (some (.tup [.str "blank", .int (w * 4)])) (some (kd i)) ⟨.inl rfl, .inl rfl, fun k hx => ?_, fun k hx => ?_, ?_, ?_, con_oko hw.1 hko2, ?_, by simp [ho.len]⟩
    · rcases List.mem_append.mp hx with hx | hx
      · exact hk k hx
      · rw [List.mem_singleton.mp hx]
        exact (VK.rc rfl hasc hxl (fun k h => by simp at h; rw [h]; exact .blk (by omega)) (fun i e => nomatch e) : VK 2 (K.rc [x, y] [K.blk (w * 4), K.blk (w * 4)] none)).mono (by omega)
    · rcases List.mem_append.mp hx with hx | hx
      · exact ho.vk k hx
      · rw [List.mem_singleton.mp hx]
        exact (VK.rc rfl hasc hxl (fun k h => by simp at h; rcases h with rfl | rfl; exact .num; exact hiv.1) (fun i e => nomatch e) : VK 2 (K.rc [x, y] [K.num, i] none)).mono (by omega)
    · rw [kns_app]; simp [kns, kn]; omega
    · rw [kns_app]; have := ho.sz; simp [kns, kn, hiv.2.1]; omega
    · refine ho.con0 fun o hx => ?_
      rw [occs_app] at hx
      simpa [occs, occ, restO, hiv.2.2] using hx

end K_k04
end
section
namespace K_k04
open PySem L2 PM
theorem s1618 {S : Sto} {ks os : List K} {kx ox : D} {a0 a1 a2 a4 a5 a6 a7 a8 a9 a10 a12 a13 a14 a15 a16 a17 a18 a19 a20 : Option D} (h : Fi S ks os kx ox) :
    Dn (sSeq (l16 (run 59) (runE 59)) (sSeq (l17 (run 59) (runE 59)) (l18 (run 59) (runE 59))) [a0, a1, a2, some kx, a4, a5, a6, a7, a8, a9, a10, some ox, a12, a13, a14, a15, a16, a17, a18, a19, a20] S) := by
  have hth : ∀ o ∈ os, ∃ m, VK m o ∧ m ≤ 11 ∧ kn o ≤ 200 := fun o ho => ⟨8, h.ov o ho, by omega, by have := kns_mem ho; have := h.oz; omega⟩
  have e0 : (S ++ [MO.dK [] []]) = S ++ [fO []] := rfl
  refine dn_seq (δ' := [a0, a1, a2, some kx, a4, a5, a6, a7, a8, a9, a10, some ox, a12, a13, a14, a15, a16, a17, a18, some (.ref S.length), a20]) (S' := S ++ [fO []]) (by simp [l16, mNewK, e0]) ?_
  obtain ⟨δ', S', e17, ⟨x20, eδ⟩, hcase⟩ : ∃ δ' S', l17 (run 59) (runE 59) [a0, a1, a2, some kx, a4, a5, a6, a7, a8, a9, a10, some ox, a12, a13, a14, a15, a16, a17, a18, some (.ref S.length), a20] (S ++ [fO []]) = .nx δ' S' ∧
      (∃ x20, δ' = [a0, a1, a2, some kx, a4, a5, a6, a7, a8, a9, a10, some ox, a12, a13, a14, a15, a16, a17, a18, some (if (matchL ks os []).2 = true then .ref S.length else .non), x20]) ∧
      ∃ F, S' = S ++ [fO F] ∧ ((matchL ks os []).2 = true → F = (matchL ks os []).1) := by
    have ln := its_len (T := [fO []]) h.kx.its
    rw [List.length_map] at ln
    obtain ⟨r, hr⟩ : ∃ r, l17 (run 59) (runE 59) [a0, a1, a2, some kx, a4, a5, a6, a7, a8, a9, a10, some ox, a12, a13, a14, a15, a16, a17, a18, some (.ref S.length), a20] (S ++ [fO []]) = r := ⟨_, rfl⟩
    rw [hr]
    simp only [l17] at hr
    simp [ln] at hr
    obtain ⟨δ', S', e, ⟨x20, eδ⟩, F, eS, eF⟩ := loop_of hr (fun i δ S' => (∃ x20, δ = [a0, a1, a2, some kx, a4, a5, a6, a7, a8, a9, a10, some ox, a12, a13, a14, a15, a16, a17, a18, some (if (matchL (ks.take i) (os.take i) []).2 = true then .ref S.length else .non), x20]) ∧ ∃ F, S' = S ++ [fO F] ∧ ((matchL (ks.take i) (os.take i) []).2 = true → F = (matchL (ks.take i) (os.take i) []).1))
      ⟨⟨a20, by rw [List.take_zero, List.take_zero, matchL]; · rfl
                all_goals (intros; contradiction)⟩, [], rfl, fun _ => by rw [List.take_zero, List.take_zero, matchL]; all_goals (intros; contradiction)⟩ (fun i d δ S1 hd ⟨⟨x20, hδ⟩, F, hS1, hF⟩ => by
        obtain ⟨hlt, ed⟩ := rangeD_get' hd
        subst hδ hS1 ed
        obtain ⟨k, hk1⟩ : ∃ k, ks[i]? = some k := ⟨_, List.getElem?_eq_getElem hlt⟩
        obtain ⟨o, ho1⟩ : ∃ o, os[i]? = some o := ⟨_, List.getElem?_eq_getElem (by have := h.len; omega)⟩
        have hst := matchL_step (F := []) h.len hk1 ho1
        have hkm := List.mem_of_getElem? hk1
        have hom := List.mem_of_getElem? ho1
        have i1 := its_ix (T := [fO F]) (i := i) h.kx.its (by rw [List.getElem?_map, hk1]; rfl)
        have i2 := its_ix (T := [fO F]) (i := i) h.ox.its (by rw [List.getElem?_map, ho1]; rfl)
        have kp : Kept (fun _ d => pq 40 d = true) [] (matchL (ks.take i) (os.take i) []).1 (kns (ks.take i)) := matchL_kept _ _ (fun o h => hth o (List.mem_of_mem_take h)) fun x hx d hd => gfa_pq hd
        cases hb : (matchL (ks.take i) (os.take i) []).2 with
        | false =>
          rw [hb] at hst
          simp only [Bool.false_eq_true, if_false] at hst
          refine ⟨_, S ++ [fO F], .inl ?_, ⟨some (.int i), rfl⟩, F, rfl, fun h => ?_⟩
          · rw [hst, hb]
            simp [loopB_eq, isNon]
          · rw [hst, hb] at h; cases h
        | true =>
          have hF := hF hb
          subst hF
          rw [hb] at hst
          simp only [if_true] at hst
          have hF2 := kp.ok (fun p hp => nomatch hp)
          have hlen := kp.len
          have hkt : kns (ks.take i) ≤ kns ks := kns_sub (List.take_sublist _ _)
          have hks := h.kz
          have hq : (S ++ [fO (matchL (ks.take i) (os.take i) []).1])[S.length]? = some (fO (matchL (ks.take i) (os.take i) []).1) := sto_snoc
          have hmt := lmatch_ok (q := S.length) 5 (j := 59) (by omega) (h.kv k hkm) (h.ov o hom) (by omega) (by have := kns_mem hom; have := h.oz; omega) (by omega) hq (by simp at hlen; have := kns_mem hkm; omega) hF2
          rw [sto_snoc_set] at hmt
          generalize (matchL (ks.take i) (os.take i) []).1 = F1 at *
          refine ⟨_, S ++ [fO (matchK k o F1).1], .inl ?_, ⟨some (.int i), rfl⟩, (matchK k o F1).1, rfl, fun _ => by rw [hst]⟩
          rw [hst]
          cases hc : (matchK k o F1).2 with
          | true =>
            rw [hc] at hmt
            simp [loopB_eq, i1, i2, hmt, isNon]
          | false =>
            rw [hc] at hmt
            simp [loopB_eq, i1, i2, hmt, isNon])
    have hln : (rangeD 0 ks.length).length = ks.length := rangeD_length
    rw [hln, List.take_length, h.len, List.take_length] at eδ eF
    exact ⟨δ', S', e, ⟨x20, eδ⟩, F, eS, eF⟩
  obtain ⟨F, eS, eF⟩ := hcase
  subst eδ eS
  refine dn_seq e17 ?_
  have key := agrees_ok (j := 17) (S := S ++ [fO F]) (kx := kx) (ox := ox) (due := if (matchL ks os []).2 = true then .ref S.length else .non) h.kx.app h.ox.app (fun k hk => (h.kv k hk).mono (by omega)) h.kz h.kc (fun k hk => (h.ov k hk).mono (by omega)) h.oz h.oc h.len (by
    cases hb : (matchL ks os []).2 with
    | true => exact .inl ⟨rfl, S.length, rfl, by rw [← eF hb]; exact sto_snoc⟩
    | false => exact .inr ⟨rfl, rfl⟩)
  have hbig := big_ok (j := 9) (S := S ++ [fO F])
  refine ⟨S ++ [fO F], ?_⟩
  generalize (if (matchL ks os []).2 = true then PM.D.ref S.length else .non) = du at *
  simp [l18, key, hbig]

end K_k04
end
section
namespace K_k04
open PySem L2 PM
theorem pairs_all {α β : Type} {P : α → β → Prop} : ∀ {ks : List α}, (∀ k ∈ ks, ∃ b, P k b) → ∃ xs : List (α × β), xs.map (·.1) = ks ∧ ∀ p ∈ xs, P p.1 p.2
  | [], _ => ⟨[], rfl, by simp⟩
  | k :: ks, g => by
    obtain ⟨xs, h1, h3⟩ := pairs_all (P := P) (ks := ks) fun k hk => g k (by simp [hk])
    obtain ⟨b, hb⟩ := g k (by simp)
    exact ⟨(k, b) :: xs, by simp [h1], fun p hp => by
      rcases List.mem_cons.mp hp with hp | hp
      · rw [hp]; exact hb
      · exact h3 p hp⟩
theorem occs_wlen {n : Nat} {ks : List K} (h : ∀ k ∈ ks, VK n k) {o : Int × OL} (ho : o ∈ occs ks) {w : List Str} (e : o.2 = some w) : w.length ≤ kns ks := by
  induction ks with
  | nil => cases ho
  | cons k ks ih =>
    rw [occs] at ho
    rw [kns]
    rcases List.mem_append.mp ho with h1 | h1
    · have := occ_wlen (h k (by simp)) o h1 w e; omega
    · have := ih (fun k hk => h k (by simp [hk])) h1; omega
theorem s7 {ws0 st f2 f3 : MO} {ks : List K} {a0 a1 a2 a4 a5 a6 a8 a9 a10 a11 a12 a13 a14 a15 a16 a17 a18 a19 a20 : Option D} (hk : ∀ k ∈ ks, VK 5 k) (hks : kns ks ≤ 231) (hkc : Con (occs ks)) :
    ∃ x8, l7 (run 59) (runE 59) [a0, a1, a2, some (.lst (ks.map kd)), a4, a5, a6, some (.ref 4), a8, a9, a10, a11, a12, a13, a14, a15, a16, a17, a18, a19, a20] [ws0, st, f2, f3, mpO []] =
      .nx [a0, a1, a2, some (.lst (ks.map kd)), a4, a5, a6, some (.ref 4), x8, a9, a10, a11, a12, a13, a14, a15, a16, a17, a18, a19, a20] [ws0, st, f2, f3, mpO (pa [] (occs ks)).1] := by
  obtain ⟨r, hr⟩ : ∃ r, l7 (run 59) (runE 59) [a0, a1, a2, some (.lst (ks.map kd)), a4, a5, a6, some (.ref 4), a8, a9, a10, a11, a12, a13, a14, a15, a16, a17, a18, a19, a20] [ws0, st, f2, f3, mpO []] = r := ⟨_, rfl⟩
  rw [hr]
  simp only [l7] at hr
  simp at hr
  obtain ⟨δ', S', e, ⟨x8, eδ⟩, eS⟩ := loop_of hr (fun i δ S' => (∃ x8, δ = [a0, a1, a2, some (.lst (ks.map kd)), a4, a5, a6, some (.ref 4), x8, a9, a10, a11, a12, a13, a14, a15, a16, a17, a18, a19, a20]) ∧ S' = [ws0, st, f2, f3, mpO (pa [] (occs (ks.take i))).1])
    ⟨⟨a8, rfl⟩, by rw [List.take_zero, occs, pa]⟩ (fun i d δ S1 hd ⟨⟨x8, hδ⟩, hS1⟩ => by
      rw [List.getElem?_map] at hd
      obtain ⟨k, hk1, ed⟩ := Option.map_eq_some_iff.mp hd
      subst hδ hS1 ed
      have hkm := List.mem_of_getElem? hk1
      have ht : ks.take (i + 1) = ks.take i ++ [k] := by rw [List.take_add_one, hk1]; rfl
      have ho : occs (ks.take (i + 1)) = occs (ks.take i) ++ occ k := by rw [ht, occs_app]; simp [occs]
      have hsub : ∀ x ∈ occs (ks.take i), x ∈ occs ks := occs_sub (List.take_sublist _ _)
      have hc1 : Con (occs (ks.take i)) := con_sub hkc hsub
      have hp := pa_con (occs (ks.take i)) [] hc1
      have hl := pa_len (occs (ks.take i)) []
      have hz := kns_occs (ks.take i)
      have hz2 : kns (ks.take i) ≤ kns ks := kns_sub (List.take_sublist _ _)
      have hoc := occ_len k
      have hkn := kns_mem hkm
      have e1 := lblanks_ok (q := 4) 5 (j := 59) (S := [ws0, st, f2, f3, mpO (pa [] (occs (ks.take i))).1]) (hk k hkm) (by omega) rfl (con_sub hkc fun x hx => by
        rcases List.mem_append.mp hx with h | h
        · have := hp.2.1 x h
          exact hsub x (by simpa using this)
        · exact occ_occs hkm x h) (by simp at hl; omega)
      refine ⟨_, [ws0, st, f2, f3, mpO (pa [] (occs (ks.take (i + 1)))).1], .inl ?_, ⟨some (kd k), rfl⟩, rfl⟩
      rw [ho, pa_app]
      simp [loopB_eq, e1])
  subst e eδ eS
  rw [List.length_map, List.take_length]
  exact ⟨x8, rfl⟩
theorem s9 {ws0 : MO} {a b : Int} (ha : 0 ≤ a) {m0 : Mp} (hcon : Con m0) (hmn : m0.length ≤ 231) (hok : MpOk m0) (hwl : ∀ o ∈ m0, ∀ w, o.2 = some w → w.length ≤ 231) {ls : List Str} (h4 : ls.length = 4) (hn : (ls ++ [Str.ofString "zzzzzzzz"]).Nodup) (hl : ∀ l ∈ ls, IsLab l)
    {a0 a2 a3 a8 a9 a10 a11 a12 a13 a14 a15 a16 a17 a18 a19 a20 : Option D} :
    ∃ x10 fks fds we s1 s3, l9 (run 59) (runE 59) [a0, some (.lst (ls.map .str)), a2, a3, some (.ref 1), some (.ref 2), some (.ref 3), some (.ref 4), a8, a9, a10, a11, a12, a13, a14, a15, a16, a17, a18, a19, a20] [ws0, .lst [.int a, .int b], .dK [] [], .lst [], mpO m0] =
      .nx [a0, some (.lst (ls.map .str)), a2, a3, some (.ref 1), some (.ref 2), some (.ref 3), some (.ref 4), a8, a9, x10, a11, a12, a13, a14, a15, a16, a17, a18, a19, a20] [ws0, s1, .dK fks fds, s3, mpO m0] ∧ we.length ≤ 231 ∧ ∀ o ∈ m0, ∃ d, getK fks fds (.inl o.1) = some d ∧ Flat we o.2 d := by
  have hin : ∃ δ' S', (sFor (sKeys (mV 7)) (gmName 10) (sAsg (mApp (run 59 ._law_flat) (mCons (mV 4) (mCons (mV 1) (mCons (mB opIx (mV 7) (mV 10)) (mCons (mV 6) mNil))))) (gmSub (mV 5) (mV 10) opSet))) [a0, some (.lst (ls.map .str)), a2, a3, some (.ref 1), some (.ref 2), some (.ref 3), some (.ref 4), a8, a9, a10, a11, a12, a13, a14, a15, a16, a17, a18, a19, a20] [ws0, .lst [.int a, .int b], .dK [] [], .lst [], mpL m0] = .nx δ' S' ∧
      (∃ x10, δ' = [a0, some (.lst (ls.map .str)), a2, a3, some (.ref 1), some (.ref 2), some (.ref 3), some (.ref 4), a8, a9, x10, a11, a12, a13, a14, a15, a16, a17, a18, a19, a20]) ∧ ∃ fks fds we, S'.length = 5 ∧ S'[0]? = some ws0 ∧ S'[2]? = some (.dK fks fds) ∧ S'[4]? = some (mpL m0) ∧ we.length ≤ 231 ∧ ∀ o ∈ m0, ∃ d, getK fks fds (.inl o.1) = some d ∧ Flat we o.2 d := by
    rw [sFor_eq, keys_mp (q := 4) (mp := m0) (by simp) (by simp)]
    simp only [R.into_ok]
    generalize hL : loopM _ _ _ _ _ = r
    obtain ⟨δ', S', e, ⟨x10, eδ⟩, fks, fds, we, h1, h2, h3, h5, h6, h7, h8, h9⟩ := loop_ofG hL (fun i δ S' => (∃ x10, δ = [a0, some (.lst (ls.map .str)), a2, a3, some (.ref 1), some (.ref 2), some (.ref 3), some (.ref 4), a8, a9, x10, a11, a12, a13, a14, a15, a16, a17, a18, a19, a20]) ∧
        ∃ fks fds we, S'.length = 5 ∧ S'[0]? = some ws0 ∧ S'[2]? = some (.dK fks fds) ∧ fks.length = fds.length ∧ fks.length ≤ i ∧ S'[4]? = some (mpL m0) ∧ FS S' 1 3 i we ∧ ∀ t, t < i → ∀ o, m0[t]? = some o → ∃ d, getK fks fds (.inl o.1) = some d ∧ Flat we o.2 d)
      (fun i δ S' ⟨_, fks, fds, we, _, _, _, _, _, h, _⟩ => h)
      ⟨⟨a10, rfl⟩, [], [], [], rfl, rfl, rfl, rfl, Nat.le_refl _, rfl, ⟨a, b, ha, rfl, rfl, by simp, by simp⟩, fun t ht => by omega⟩ (fun i x δ S1 hx ⟨⟨x10, hδ⟩, fks, fds, we, h1, h2, h3, h5, h6, h7, h8, h9⟩ => by
        rw [List.getElem?_map] at hx
        obtain ⟨o, ho, ex⟩ := Option.map_eq_some_iff.mp hx
        subst hδ ex
        have hom := List.mem_of_getElem? ho
        have hi : i < m0.length := (List.getElem?_eq_some_iff.mp ho).1
        have hix := opIx_mpL (n := o.1) h7 (look_con hcon o hom)
        obtain ⟨d, T, g1, we', g2, g3, g4, g5⟩ := flat_ok (k := 56) (n := 1) (q := 3) (by omega) h4 hn hl h8 (by omega) (o := o.2) (fun w e => ⟨hok o hom w e, by have := hwl o hom w e; omega⟩)
        have t0 := g5.2 0 (by omega) (by omega)
        have t2 := g5.2 2 (by omega) (by omega)
        have t4 := g5.2 4 (by omega) (by omega)
        rw [h2] at t0; rw [h3] at t2; rw [h7] at t4
        have hset : opSet (.ref 2) (.int o.1) d T = .ok () (T.set 2 (.dK (insK fks (.inl o.1)) (insD fks fds (.inl o.1) d))) := by
          simp only [opSet, t2, PM.keyOf, if_pos (show fks.length < sizeLine from Nat.lt_of_lt_of_le (by omega) szl)]
        have hle : (insK fks (Sum.inl o.1 : Key)).length ≤ fks.length + 1 := by unfold insK; split <;> simp
        refine ⟨_, T.set 2 (.dK (insK fks (.inl o.1)) (insD fks fds (.inl o.1) d)), .inl ?_, ⟨some (.int o.1), rfl⟩, insK fks (.inl o.1), insD fks fds (.inl o.1) d, we', by rw [List.length_set, g5.1, h1], by rw [List.getElem?_set_ne (by omega)]; exact t0, sto_set t2, ins_len h5, by omega, by rw [List.getElem?_set_ne (by omega)]; exact t4, ?_, fun t ht u hu => ?_⟩
        · simp [loopB_eq, hix, g1, hset]
        · obtain ⟨a, b, q0, q1, q2, q3, q4⟩ := g3
          exact ⟨a, b, q0, by rw [List.getElem?_set_ne (by omega)]; exact q1, by rw [List.getElem?_set_ne (by omega)]; exact q2, q3, q4⟩
        · rw [getK_ins h5]
          by_cases c : o.1 = u.1
          · have hum := List.mem_of_getElem? hu
            have e2 := hcon o hom u hum c
            exact ⟨d, by rw [if_pos (by rw [c])], by rw [← e2]; exact g2⟩
          · rw [if_neg (fun e => c (Sum.inl.inj e))]
            rcases Nat.lt_or_ge t i with q | q
            · obtain ⟨d', e1, e2⟩ := h9 t q u hu
              exact ⟨d', e1, e2.pre g4⟩
            · have : t = i := by omega
              subst this
              rw [ho] at hu; cases hu
              exact absurd rfl c)
    rw [List.length_map] at h9 h8
    obtain ⟨_, _, _, _, _, _, q4⟩ := h8
    refine ⟨δ', S', e, ⟨x10, eδ⟩, fks, fds, we, h1, h2, h3, h7, by omega, fun o ho => ?_⟩
    obtain ⟨t, ht⟩ := List.getElem?_of_mem ho
    exact h9 t (List.getElem?_eq_some_iff.mp ht).1 o ht
  obtain ⟨δ', S', e, ⟨x10, eδ⟩, fks, fds, we, h1, h2, h3, h7, h8, h9⟩ := hin
  subst eδ
  have hlk := lock_nx (i := 7) (p := 4) (δ := [a0, some (.lst (ls.map .str)), a2, a3, some (.ref 1), some (.ref 2), some (.ref 3), some (.ref 4), a8, a9, a10, a11, a12, a13, a14, a15, a16, a17, a18, a19, a20]) (S := [ws0, .lst [.int a, .int b], .dK [] [], .lst [], mpO m0]) rfl rfl e h7
  have hS : ∃ s1 s3, S'.set 4 (mpO m0) = [ws0, s1, .dK fks fds, s3, mpO m0] := by
    clear hlk e h7
    match S', h1, h2, h3 with
    | [x0, x1, x2, x3, x4], _, h2, h3 =>
      cases h2
      cases h3
      exact ⟨x1, x3, rfl⟩
  obtain ⟨s1, s3, hS⟩ := hS
  rw [hS] at hlk
  exact ⟨x10, fks, fds, we, s1, s3, hlk, h8, h9⟩
theorem s10 {s0 s1 s3 s4 : MO} {fks : List Key} {fds : List D} {we : List (List Str)} {ks : List K} (hk : ∀ k ∈ ks, VK 5 k) (hks : kns ks ≤ 231) (hkz : ∀ k ∈ ks, kn k ≤ 77) (hf : ∀ o ∈ occs ks, ∃ d, getK fks fds (.inl o.1) = some d ∧ Flat we o.2 d) {a0 a1 a2 a4 a6 a7 a8 a9 a10 a11 a12 a13 a14 a15 a16 a17 a18 a19 a20 : Option D} (hkl : ks.length ≤ 3) :
    ∃ os, l10 (run 59) (runE 59) [a0, a1, a2, some (.lst (ks.map kd)), a4, some (.ref 2), a6, a7, a8, a9, a10, a11, a12, a13, a14, a15, a16, a17, a18, a19, a20] [s0, s1, .dK fks fds, s3, s4] =
      .nx [a0, a1, a2, some (.lst (ks.map kd)), a4, some (.ref 2), a6, a7, a8, a9, a10, some (.ref 5), a12, a13, a14, a15, a16, a17, a18, a19, a20] [s0, s1, .dK fks fds, s3, s4, .lst (os.map kd)] ∧ os.length = ks.length ∧ (∀ o ∈ os, VK 6 o) ∧ (∀ u ∈ occs os, OkE we u) ∧ kns ks ≤ kns os := by
  obtain ⟨xs, x1, x2⟩ := pairs_all (P := fun k k' => VK 6 k' ∧ kn k ≤ kn k' ∧ kn k' ≤ 6 * kn k ∧ (∀ o ∈ occ k', OkE we o) ∧ ∀ f j S, 6 ≤ j → S[f]? = some (.dK fks fds) → run j ._law_filled [kd k, .ref f] S = .ok (kd k') S) fun k hkm => lfill_ok (fks := fks) (fds := fds) (ws := we) 5 (hk k hkm) (by have := hkz k hkm; omega) fun o ho => hf o (occ_occs hkm o ho)
  subst x1
  have hS : ([s0, s1, MO.dK fks fds, s3, s4] : Sto)[2]? = some (.dK fks fds) := rfl
  refine ⟨xs.map (·.2), ?_, by simp, fun o ho => ?_, ?_, ?_⟩
  · simp only [l10]
    simp [mCompR_eq, wipeD]
    rw [comp_map (i := kd ∘ fun p : K × K => p.1) (f := fun p => kd p.2) (hg := trivial) (h := fun p hp => ⟨_, rfl, rfl, by simp [(x2 p hp).2.2.2.2 2 59 _ (by omega) hS]⟩)]
    have hz : xs.length ≤ sizeLine := by simp at hkl; exact Nat.le_trans (by omega) szl
    simp [kR, hz]
  · obtain ⟨p, hp, e⟩ := List.mem_map.mp ho
    rw [← e]; exact (x2 p hp).1
  · intro u hu
    clear hk hks hkz hf hkl hS
    induction xs with
    | nil => cases hu
    | cons x xs ih =>
      rw [List.map_cons, occs] at hu
      rcases List.mem_append.mp hu with h | h
      · exact (x2 x (by simp)).2.2.2.1 u h
      · exact ih (fun p hp => x2 p (by simp [hp])) h
  · clear hk hks hkz hf hkl hS
    induction xs with
    | nil => simp [kns]
    | cons x xs ih =>
      have := ih fun p hp => x2 p (by simp [hp])
      have := (x2 x (by simp)).2.1
      simp only [List.map_cons, kns]; omega
theorem main_ok (ns : List Int) (hns : ns.length ≤ 63) : ∃ S', run 60 .law [.scr (ns.map D.int)] [] = .ok (.bl true) S' := by
  have ec : ∀ (j : Nat) S, run 59 ._law_cell [.scr (ns.map D.int), .int j] S = .ok (.int (cellv ns j)) S := fun j S => cell_ok (k := 58) (j := j)
  have e0 : ∀ S, run 59 ._law_cell [.scr (ns.map D.int), .int 0] S = .ok (.int (cellv ns 0)) S := ec 0
  have e1 : ∀ S, run 59 ._law_cell [.scr (ns.map D.int), .int 1] S = .ok (.int (cellv ns 1)) S := ec 1
  have e2 : ∀ S, run 59 ._law_cell [.scr (ns.map D.int), .int 2] S = .ok (.int (cellv ns 2)) S := ec 2
  have e3 : ∀ S, run 59 ._law_cell [.scr (ns.map D.int), .int 3] S = .ok (.int (cellv ns 3)) S := ec 3
  have zz := cellv_lo ns
  have z0 := zz 0
  have z1 := zz 1
  have z2 := zz 2
  have z3 := zz 3
  generalize cellv ns 0 = c0 at *
  generalize cellv ns 1 = c1 at *
  generalize cellv ns 2 = c2 at *
  generalize cellv ns 3 = c3 at *
  have hL : run 59 ._law_labels [.int c2, .int 4] [] = .ok (.lst ((labs c2 4).map .str)) [] := labels_ok (k := 58) (m := 4) z2 (by decide)
  have h4 := labs_len c2 4
  have hn := labs_nodup c2 (m := 4) (by decide)
  have hl := labs_is z2 (m := 4)
  have hz : (labs c2 4 ++ [Str.ofString "zzzzzzzz"]).Nodup := by
    refine List.nodup_append.mpr ⟨hn, by simp, fun a ha b hb e => ?_⟩
    obtain ⟨k, hk, ek⟩ := mem_labs ha
    have h1 := lab_le z2 k
    rw [← ek, e, List.mem_singleton.mp hb] at h1
    exact absurd h1 (by decide +kernel)
  generalize labs c2 4 = ls at *
  have hp : ∀ S, opPow (.int 10) (.int 6) S = .ok (.int 1000000) S := fun S => opPow_int (by decide)
  obtain ⟨ks, ws, k1, k2, k3, k4, k5, k6, k7, k8, k9⟩ := kinds_ok (ns := ns) (j := 39) (w := 1 + c3 % 1000000) (by omega) h4 hn hl
  have hkc : Con (occs ks) := con_oko (by omega) k5
  have hdn : Dn (b_law (run 59) (runE 59) [some (.scr (ns.map D.int)), none, none, none, none, none, none, none, none, none, none, none, none, none, none, none, none, none, none, none, none] []) := by
    rw [l_eq]
    refine dn_seq (δ' := [some (.scr (ns.map D.int)), some (.lst (ls.map .str)), none, none, none, none, none, none, none, none, none, none, none, none, none, none, none, none, none, none, none]) (S' := []) (by simp [l0, e2, hL]) ?_
    refine dn_seq (δ' := [some (.scr (ns.map D.int)), some (.lst (ls.map .str)), some (.lst [.int (1 + c3 % 1000000), .ref 0]), none, none, none, none, none, none, none, none, none, none, none, none, none, none, none, none, none, none]) (S' := [.lst []]) (by simp [l1, e3, hp, opMod_pos]) ?_
    refine dn_seq (δ' := [some (.scr (ns.map D.int)), some (.lst (ls.map .str)), some (.lst [.int (1 + c3 % 1000000), .ref 0]), some (.lst (ks.map kd)), none, none, none, none, none, none, none, none, none, none, none, none, none, none, none, none, none]) (S' := [.lst (ws.map wD)]) (by simp [l2, k1]) ?_
    refine dn_seq (δ' := [some (.scr (ns.map D.int)), some (.lst (ls.map .str)), some (.lst [.int (1 + c3 % 1000000), .ref 0]), some (.lst (ks.map kd)), some (.ref 1), none, none, none, none, none, none, none, none, none, none, none, none, none, none, none, none]) (S' := [.lst (ws.map wD), .lst [.int (1 + c0 % 2147483645), .int 20]]) (by simp [l3, e0, opMod_pos]) ?_
    refine dn_seq (δ' := [some (.scr (ns.map D.int)), some (.lst (ls.map .str)), some (.lst [.int (1 + c3 % 1000000), .ref 0]), some (.lst (ks.map kd)), some (.ref 1), some (.ref 2), none, none, none, none, none, none, none, none, none, none, none, none, none, none, none]) (S' := [.lst (ws.map wD), .lst [.int (1 + c0 % 2147483645), .int 20], .dK [] []]) (by simp [l4, mNewK]) ?_
    refine dn_seq (δ' := [some (.scr (ns.map D.int)), some (.lst (ls.map .str)), some (.lst [.int (1 + c3 % 1000000), .ref 0]), some (.lst (ks.map kd)), some (.ref 1), some (.ref 2), some (.ref 3), none, none, none, none, none, none, none, none, none, none, none, none, none, none]) (S' := [.lst (ws.map wD), .lst [.int (1 + c0 % 2147483645), .int 20], .dK [] [], .lst []]) (by simp [l5]) ?_
    refine dn_seq (δ' := [some (.scr (ns.map D.int)), some (.lst (ls.map .str)), some (.lst [.int (1 + c3 % 1000000), .ref 0]), some (.lst (ks.map kd)), some (.ref 1), some (.ref 2), some (.ref 3), some (.ref 4), none, none, none, none, none, none, none, none, none, none, none, none, none]) (S' := [.lst (ws.map wD), .lst [.int (1 + c0 % 2147483645), .int 20], .dK [] [], .lst [], mpO []]) (by simp [l6, mNewK, mpO]) ?_
    obtain ⟨x8, e7⟩ := s7 (ws0 := .lst (ws.map wD)) (st := .lst [.int (1 + c0 % 2147483645), .int 20]) (f2 := .dK [] []) (f3 := .lst []) (a0 := some (.scr (ns.map D.int))) (a1 := some (.lst (ls.map .str))) (a2 := some (.lst [.int (1 + c3 % 1000000), .ref 0])) (a4 := some (.ref 1)) (a5 := some (.ref 2)) (a6 := some (.ref 3)) (a8 := none) (a9 := none) (a10 := none) (a11 := none) (a12 := none) (a13 := none) (a14 := none) (a15 := none) (a16 := none) (a17 := none) (a18 := none) (a19 := none) (a20 := none) k2 (by omega) hkc
    refine dn_seq e7 ?_
    refine dn_seq (δ' := [some (.scr (ns.map D.int)), some (.lst (ls.map .str)), some (.lst [.int (1 + c3 % 1000000), .ref 0]), some (.lst (ks.map kd)), some (.ref 1), some (.ref 2), some (.ref 3), some (.ref 4), x8, some (.int (c1 / 3)), none, none, none, none, none, none, none, none, none, none, none]) (S' := [.lst (ws.map wD), .lst [.int (1 + c0 % 2147483645), .int 20], .dK [] [], .lst [], mpO (pa [] (occs ks)).1]) (by simp [l8, e1, opDiv_pos]) ?_
    have hpc := pa_con (occs ks) [] hkc
    have hpm : ∀ o ∈ (pa [] (occs ks)).1, o ∈ occs ks := fun o ho => by simpa using hpc.2.1 o ho
    have hpl := pa_len (occs ks) []
    have hol := kns_occs ks
    obtain ⟨x10, fks, fds, we, s1, s3, e9, we1, hfl⟩ := s9 (ws0 := .lst (ws.map wD)) (a := 1 + c0 % 2147483645) (b := 20) (by omega) hpc.2.2.1 (by simp at hpl; omega) (fun o ho => occs_ok k2 o (hpm o ho)) (fun o ho w e => Nat.le_trans (occs_wlen k2 (hpm o ho) e) k8) h4 hz hl (a0 := some (.scr (ns.map D.int))) (a2 := some (.lst [.int (1 + c3 % 1000000), .ref 0])) (a3 := some (.lst (ks.map kd))) (a8 := x8) (a9 := some (.int (c1 / 3))) (a10 := none) (a11 := none) (a12 := none) (a13 := none) (a14 := none) (a15 := none) (a16 := none) (a17 := none) (a18 := none) (a19 := none) (a20 := none)
    refine dn_seq e9 ?_
    obtain ⟨os, e10, o1, o2, o3, o4⟩ := s10 (s0 := .lst (ws.map wD)) (s1 := s1) (s3 := s3) (s4 := mpO (pa [] (occs ks)).1) (we := we) k2 k8 k9 (fun o ho => hfl o (hpc.2.2.2 o (by simpa using ho))) (a0 := some (.scr (ns.map D.int))) (a1 := some (.lst (ls.map .str))) (a2 := some (.lst [.int (1 + c3 % 1000000), .ref 0])) (a4 := some (.ref 1)) (a6 := some (.ref 3)) (a7 := some (.ref 4)) (a8 := x8) (a9 := some (.int (c1 / 3))) (a10 := x10) (a11 := none) (a12 := none) (a13 := none) (a14 := none) (a15 := none) (a16 := none) (a17 := none) (a18 := none) (a19 := none) (a20 := none) k4
    refine dn_seq e10 ?_
    have e11 := s11 (S := [.lst (ws.map wD), s1, .dK fks fds, s3, mpO (pa [] (occs ks)).1, .lst (os.map kd)]) (q := 5) (os := os) (a0 := some (.scr (ns.map D.int))) (a1 := some (.lst (ls.map .str))) (a2 := some (.lst [.int (1 + c3 % 1000000), .ref 0])) (a3 := some (.lst (ks.map kd))) (a4 := some (.ref 1)) (a5 := some (.ref 2)) (a6 := some (.ref 3)) (a7 := some (.ref 4)) (a8 := x8) (a9 := some (.int (c1 / 3))) (a10 := x10) (a12 := none) (a13 := none) (a14 := none) (a15 := none) (a16 := none) (a17 := none) (a18 := none) (a19 := none) (a20 := none) o2 rfl
    by_cases c : 95 < kns os
    · rw [if_pos c] at e11
      exact dn_rt e11
    rw [if_neg c] at e11
    refine dn_seq e11 ?_
    obtain ⟨x12, S2, os2, e12, ob, hS2⟩ := s12 (S := [.lst (ws.map wD), s1, .dK fks fds, s3, mpO (pa [] (occs ks)).1, .lst (os.map kd)]) (we := we) (n := ks.length) (os := os) (wy := c1 / 3) h4 hl (q := 5) k3 ⟨o1, o2, o3, by omega, by omega⟩ rfl (a0 := some (.scr (ns.map D.int))) (a2 := some (.lst [.int (1 + c3 % 1000000), .ref 0])) (a3 := some (.lst (ks.map kd))) (a4 := some (.ref 1)) (a5 := some (.ref 2)) (a6 := some (.ref 3)) (a7 := some (.ref 4)) (a8 := x8) (a10 := x10) (a12 := none) (a13 := none) (a14 := none) (a15 := none) (a16 := none) (a17 := none) (a18 := none) (a19 := none) (a20 := none)
    refine dn_seq e12 ?_
    rcases s13 (S := S2) (we := we) (ks := ks) (os := os2) (wy := c1 / 3) (q := 5) k2 (by omega) hkc k3 ob hS2 (a0 := some (.scr (ns.map D.int))) (a1 := some (.lst (ls.map .str))) (a2 := some (.lst [.int (1 + c3 % 1000000), .ref 0])) (a4 := some (.ref 1)) (a5 := some (.ref 2)) (a6 := some (.ref 3)) (a7 := some (.ref 4)) (a8 := x8) (a10 := x10) (a12 := x12) (a13 := none) (a14 := none) (a15 := none) (a16 := none) (a17 := none) (a18 := none) (a19 := none) (a20 := none) with ⟨T, e13⟩ | e13
    · exact dn_rt e13
    refine dn_seq e13 ?_
    exact s1415 (S := S2) (ws := ws) (we := we) h4 hn hl (w := 1 + c3 % 1000000) (by omega) k2 (by omega) k5 k4 ob hS2 fun ks' os' kx ox b14 b15 b16 b17 b18 hfi => s1618 hfi
  obtain ⟨T, hT⟩ := hdn
  refine ⟨T, ?_⟩
  rw [run_succ]
  simp only [body, fin, slots, runB, List.map_cons, List.map_nil, List.length_cons, List.length_nil, List.replicate, List.cons_append, List.nil_append, finRaw]
  rw [hT]

end K_k04
end
namespace K_k04
open PySem PySem.Spec L2 PM PyProof.Rows
structure Mgs (mg : Str → Option Value) : Prop where
  m_ValueError : mg "ValueError" = none
  m_all : mg "all" = none
  m_bool : mg "bool" = none
  m_dict : mg "dict" = none
  m_int : mg "int" = none
  m_isinstance : mg "isinstance" = none
  m_len : mg "len" = none
  m_list : mg "list" = none
  m_max : mg "max" = none
  m_range : mg "range" = none
  m_set : mg "set" = none
  m_sorted : mg "sorted" = none
  m_str : mg "str" = none
  m_sum : mg "sum" = none
  m_tuple : mg "tuple" = none
  g_MOST_KIND_DEEP : ∃ t, mg "MOST_KIND_DEEP" = some (.int 12 t)
  g_MOST_KNOTS : ∃ t, mg "MOST_KNOTS" = some (.int 200 t)
  g_MOST_SIGNS : ∃ t, mg "MOST_SIGNS" = some (.int 8 t)
  g_SMALL : ∃ t, mg "SMALL" = some (.str "abcdefghijklmnopqrstuvwxyz" t)
structure XT (K : PySem.W.Frag) (mg : Str → Option Value) (y : Str) (C : Addr) : Prop where
  c : XC K mg y C
  t_BadFill : ∃ CT, mg "BadFill" = some (.ref CT) ∧ PySem.W.kitOne K (.ref C) (.ref CT) = some (isx y "BadFill")
  t_BadKind : ∃ CT, mg "BadKind" = some (.ref CT) ∧ PySem.W.kitOne K (.ref C) (.ref CT) = some (isx y "BadKind")
  t_Lacks : ∃ CT, mg "Lacks" = some (.ref CT) ∧ PySem.W.kitOne K (.ref C) (.ref CT) = some (isx y "Lacks")
  t_NoDefinition : ∃ CT, mg "NoDefinition" = some (.ref CT) ∧ PySem.W.kitOne K (.ref C) (.ref CT) = some (isx y "NoDefinition")
  t_NoNumber : ∃ CT, mg "NoNumber" = some (.ref CT) ∧ PySem.W.kitOne K (.ref C) (.ref CT) = some (isx y "NoNumber")
  t_NoRecord : ∃ CT, mg "NoRecord" = some (.ref CT) ∧ PySem.W.kitOne K (.ref C) (.ref CT) = some (isx y "NoRecord")
  t_TooGreat : ∃ CT, mg "TooGreat" = some (.ref CT) ∧ PySem.W.kitOne K (.ref C) (.ref CT) = some (isx y "TooGreat")
  t_ValueError : PySem.W.kitOne K (.ref C) (.type "ValueError") = some (isx y "ValueError")
structure Xs (K : PySem.W.Frag) (mg : Str → Option Value) : Prop where
  f : ∃ CF, mg "FieldError" = some (.ref CF) ∧ ∀ y, okX y = true → ∃ C, XT K mg y C ∧ PySem.W.exmOne K (.ref C) (.ref CF) = some true
theorem Xs.x {K : PySem.W.Frag} {mg : Str → Option Value} (X : Xs K mg) (y : Str) (h : okX y = true) : ∃ C, XC K mg y C := let ⟨_, _, hF⟩ := X.f; let ⟨C, h, _⟩ := hF y h; ⟨C, h.c⟩
theorem xt_at {K : PySem.W.Frag} {mg : Str → Option Value} {CF C : Addr} {y : Str} (hF : ∀ y, okX y = true → ∃ C, XT K mg y C ∧ PySem.W.exmOne K (.ref C) (.ref CF) = some true) (hy : okX y = true) (hx : XC K mg y C) : XT K mg y C := by
  obtain ⟨D, h, _⟩ := hF y hy
  have e := h.c.g.symm.trans hx.g
  cases e
  exact h
section
variable {w : World} {K : PySem.W.Frag} {mg : Str → Option Value} {base : Heap} {k : Nat} {C : Cs} {CE : CsE}
theorem sc__law_lone : FnScope N__law_lone ["_law_e"] (defScope (top 40)) := ⟨rfl, rfl, rfl, by decide +kernel, rfl, by decide +kernel, by decide +kernel⟩
theorem der__law_lone (M : Mgs mg) {y : Str} {C0 : Addr} (ht : XT K mg y C0) (f : Addr) (cdv : Value) (A : Around) (outer : List Env) (s : Shared) (H : Hp) (p : Addr × Obj) (hot : L2H.Hot1 A p) (ho : ObE C0 p.2) (hr : L2H.RoomH k (A.deeper (envOfC "_law_lone" (defScope (top 40)) s.heap.objs.size f cdv))) :
    DSs (L2H.cxH (L2N.CX PySem.Challenge.rw_fieldrest_k04_kinds_that_fit.prog w) PySem.Challenge.rw_fieldrest_k04_kinds_that_fit.prog w K mg base N__law_lone "_law_lone" (defScope (top 40)) f cdv A outer s H xk0 p) w0 (defBody (top 40)) (b__law_lone p.1 y) := by
  have nd := sc__law_lone.nd
  have hu : Ru (A.deeper (envOfC "_law_lone" (defScope (top 40)) s.heap.objs.size f cdv)) := ⟨by have := hr.un; omega⟩
  obtain ⟨a, oe⟩ := p
  exact (ds_cons (ds_set (i := 1) nd rfl (Or.inl rfl) (de_bin opAdd_ok (de_bin opAdd_ok (de_callTy cIntB_ok (by rfl) M.m_int (by decide +kernel) (da_cons (de_isEo (List.mem_singleton.mpr rfl) ht.c.i ho (by rfl) M.m_isinstance (de_var (pv 0)) ht.t_BadFill (by rfl)) da_nil)) (de_callTy cIntB_ok (by rfl) M.m_int (by decide +kernel) (da_cons (de_isEo (List.mem_singleton.mpr rfl) ht.c.i ho (by rfl) M.m_isinstance (de_var (pv 0)) ht.t_BadKind (by rfl)) da_nil))) (de_callTy cIntB_ok (by rfl) M.m_int (by decide +kernel) (da_cons (de_isEo (List.mem_singleton.mpr rfl) ht.c.i ho (by rfl) M.m_isinstance (de_var (pv 0)) ht.t_Lacks (by rfl)) da_nil))))
    (ds_cons (ds_set (i := 1) nd rfl (Or.inl rfl) (de_bin opAdd_ok (de_bin opAdd_ok (de_bin opAdd_ok (de_var (pv 1)) (de_callTy cIntB_ok (by rfl) M.m_int (by decide +kernel) (da_cons (de_isEo (List.mem_singleton.mpr rfl) ht.c.i ho (by rfl) M.m_isinstance (de_var (pv 0)) ht.t_NoDefinition (by rfl)) da_nil))) (de_callTy cIntB_ok (by rfl) M.m_int (by decide +kernel) (da_cons (de_isEo (List.mem_singleton.mpr rfl) ht.c.i ho (by rfl) M.m_isinstance (de_var (pv 0)) ht.t_NoNumber (by rfl)) da_nil))) (de_callTy cIntB_ok (by rfl) M.m_int (by decide +kernel) (da_cons (de_isEo (List.mem_singleton.mpr rfl) ht.c.i ho (by rfl) M.m_isinstance (de_var (pv 0)) ht.t_NoRecord (by rfl)) da_nil))))
    (ds_one (ds_ret (de_and (de_isE (List.mem_singleton.mpr rfl) ht.c.i ho (by rfl) M.m_isinstance (de_var (pv 0)) (pe_bltn (v := .ty "ValueError") (by rfl) M.m_ValueError (by decide +kernel) rfl) (fun _ h => h) ht.t_ValueError) (de_one (de_cmp (opEq_ok hu) (de_bin opAdd_ok (de_var (pv 1)) (de_callTy cIntB_ok (by rfl) M.m_int (by decide +kernel) (da_cons (de_isEo (List.mem_singleton.mpr rfl) ht.c.i ho (by rfl) M.m_isinstance (de_var (pv 0)) ht.t_TooGreat (by rfl)) da_nil))) de_int (nomark _))))))))
theorem sc_is_whole : FnScope N_is_whole ["thing"] (defScope (top 12)) := ⟨rfl, rfl, rfl, by decide +kernel, rfl, by decide +kernel, by decide +kernel⟩
theorem der_is_whole (hC : ∀ g, Has PySem.Challenge.rw_fieldrest_k04_kinds_that_fit.prog w K mg base k (nm g) (ar g) (C g)) (M : Mgs mg) (hE : ∀ g y C, okX y = true → XT K mg y C → HasE PySem.Challenge.rw_fieldrest_k04_kinds_that_fit.prog w K mg base k (nmE g) (arE g) C (fun a => CE g a y)) (XF : Xs K mg) (f : Addr) (cdv : Value) (A : Around) (outer : List Env) (s : Shared) (H : Hp) (E : XK) (hr : Room k (A.deeper (envOfC "is_whole" (defScope (top 12)) s.heap.objs.size f cdv))) :
    DSs (cxOf (L2N.CX PySem.Challenge.rw_fieldrest_k04_kinds_that_fit.prog w) PySem.Challenge.rw_fieldrest_k04_kinds_that_fit.prog w K mg base N_is_whole "is_whole" (defScope (top 12)) f cdv A outer s H E) (fun cls d _ H => E cls d H) (defBody (top 12)) (b_is_whole C CE) := by
  have nd := sc_is_whole.nd
  have hu := Ru.of hr
  have tk : L2N.Takes (cxOf (L2N.CX PySem.Challenge.rw_fieldrest_k04_kinds_that_fit.prog w) PySem.Challenge.rw_fieldrest_k04_kinds_that_fit.prog w K mg base N_is_whole "is_whole" (defScope (top 12)) f cdv A outer s H E) (fun cls d _ H => E cls d H) := L2N.takes_of rfl rfl rfl rfl
  exact (ds_one (ds_ret (de_and (de_isi (by rfl) M.m_isinstance (de_var (pv 0)) (pe_bltn (v := .ty "int") (by rfl) M.m_int (by decide +kernel) rfl)) (de_one (de_not (de_isi (by rfl) M.m_isinstance (de_var (pv 0)) (pe_bltn (v := .ty "bool") (by rfl) M.m_bool (by decide +kernel) rfl)))))))
theorem sc_is_word : FnScope N_is_word ["thing"] (defScope (top 13)) := ⟨rfl, rfl, rfl, by decide +kernel, rfl, by decide +kernel, by decide +kernel⟩
theorem der_is_word (hC : ∀ g, Has PySem.Challenge.rw_fieldrest_k04_kinds_that_fit.prog w K mg base k (nm g) (ar g) (C g)) (M : Mgs mg) (hE : ∀ g y C, okX y = true → XT K mg y C → HasE PySem.Challenge.rw_fieldrest_k04_kinds_that_fit.prog w K mg base k (nmE g) (arE g) C (fun a => CE g a y)) (XF : Xs K mg) (f : Addr) (cdv : Value) (A : Around) (outer : List Env) (s : Shared) (H : Hp) (E : XK) (hr : Room k (A.deeper (envOfC "is_word" (defScope (top 13)) s.heap.objs.size f cdv))) :
    DSs (cxOf (L2N.CX PySem.Challenge.rw_fieldrest_k04_kinds_that_fit.prog w) PySem.Challenge.rw_fieldrest_k04_kinds_that_fit.prog w K mg base N_is_word "is_word" (defScope (top 13)) f cdv A outer s H E) (fun cls d _ H => E cls d H) (defBody (top 13)) (b_is_word C CE) := by
  have nd := sc_is_word.nd
  have hu := Ru.of hr
  have tk : L2N.Takes (cxOf (L2N.CX PySem.Challenge.rw_fieldrest_k04_kinds_that_fit.prog w) PySem.Challenge.rw_fieldrest_k04_kinds_that_fit.prog w K mg base N_is_word "is_word" (defScope (top 13)) f cdv A outer s H E) (fun cls d _ H => E cls d H) := L2N.takes_of rfl rfl rfl rfl
  exact (ds_one (ds_ret (de_and (de_isi (by rfl) M.m_isinstance (de_var (pv 0)) (pe_bltn (v := .ty "str") (by rfl) M.m_str (by decide +kernel) rfl)) (de_and (de_chain opLe_ok opLe_ok de_int (de_callB cLen_ok (by rfl) M.m_len (by decide +kernel) (da_cons (de_var (pv 0)) da_nil)) (de_gint (by rfl) M.g_MOST_SIGNS)) (de_one (de_callB (cAll_ok rfl) (by rfl) M.m_all (by decide +kernel) (da_cons (de_comp (own := [("sign", 1)]) rfl nd (di_items (de_var (pv 0))) (blkOk_by (N := N_is_word) (sc := (defScope (top 13))) (own := [("sign", 1)]) (by decide +kernel)) (fun _ _ _ _ _ => pg_name (i := 1) nd rfl (Or.inl rfl)) (tgr_name (by decide)) (fun _ _ _ _ _ => dts_nil) (fun _ _ _ _ _ => (de_cmp (opIn_ok hu) (de_var (pv 1)) (de_gstr (by rfl) M.g_SMALL (by decide +kernel)) rfl))) da_nil)))))))
theorem sc_is_pair : FnScope N_is_pair ["thing"] (defScope (top 14)) := ⟨rfl, rfl, rfl, by decide +kernel, rfl, by decide +kernel, by decide +kernel⟩
theorem der_is_pair (hC : ∀ g, Has PySem.Challenge.rw_fieldrest_k04_kinds_that_fit.prog w K mg base k (nm g) (ar g) (C g)) (M : Mgs mg) (hE : ∀ g y C, okX y = true → XT K mg y C → HasE PySem.Challenge.rw_fieldrest_k04_kinds_that_fit.prog w K mg base k (nmE g) (arE g) C (fun a => CE g a y)) (XF : Xs K mg) (f : Addr) (cdv : Value) (A : Around) (outer : List Env) (s : Shared) (H : Hp) (E : XK) (hr : Room k (A.deeper (envOfC "is_pair" (defScope (top 14)) s.heap.objs.size f cdv))) :
    DSs (cxOf (L2N.CX PySem.Challenge.rw_fieldrest_k04_kinds_that_fit.prog w) PySem.Challenge.rw_fieldrest_k04_kinds_that_fit.prog w K mg base N_is_pair "is_pair" (defScope (top 14)) f cdv A outer s H E) (fun cls d _ H => E cls d H) (defBody (top 14)) (b_is_pair C CE) := by
  have nd := sc_is_pair.nd
  have hu := Ru.of hr
  have tk : L2N.Takes (cxOf (L2N.CX PySem.Challenge.rw_fieldrest_k04_kinds_that_fit.prog w) PySem.Challenge.rw_fieldrest_k04_kinds_that_fit.prog w K mg base N_is_pair "is_pair" (defScope (top 14)) f cdv A outer s H E) (fun cls d _ H => E cls d H) := L2N.takes_of rfl rfl rfl rfl
  exact (ds_one (ds_ret (de_and (de_isi (by rfl) M.m_isinstance (de_var (pv 0)) (pe_bltn (v := .ty "tuple") (by rfl) M.m_tuple (by decide +kernel) rfl)) (de_and (de_cmp (opEq_ok hu) (de_callB cLen_ok (by rfl) M.m_len (by decide +kernel) (da_cons (de_var (pv 0)) da_nil)) de_int (nomark _)) (de_one (de_call (hC .is_word) hr tk (by rfl) (dal_cons (de_ix (opIx_ok hu) (de_var (pv 0)) de_int) dal_nil)))))))
theorem sc_is_rest : FnScope N_is_rest ["thing"] (defScope (top 18)) := ⟨rfl, rfl, rfl, by decide +kernel, rfl, by decide +kernel, by decide +kernel⟩
theorem der_is_rest (hC : ∀ g, Has PySem.Challenge.rw_fieldrest_k04_kinds_that_fit.prog w K mg base k (nm g) (ar g) (C g)) (M : Mgs mg) (hE : ∀ g y C, okX y = true → XT K mg y C → HasE PySem.Challenge.rw_fieldrest_k04_kinds_that_fit.prog w K mg base k (nmE g) (arE g) C (fun a => CE g a y)) (XF : Xs K mg) (f : Addr) (cdv : Value) (A : Around) (outer : List Env) (s : Shared) (H : Hp) (E : XK) (hr : Room k (A.deeper (envOfC "is_rest" (defScope (top 18)) s.heap.objs.size f cdv))) :
    DSs (cxOf (L2N.CX PySem.Challenge.rw_fieldrest_k04_kinds_that_fit.prog w) PySem.Challenge.rw_fieldrest_k04_kinds_that_fit.prog w K mg base N_is_rest "is_rest" (defScope (top 18)) f cdv A outer s H E) (fun cls d _ H => E cls d H) (defBody (top 18)) (b_is_rest C CE) := by
  have nd := sc_is_rest.nd
  have hu := Ru.of hr
  have tk : L2N.Takes (cxOf (L2N.CX PySem.Challenge.rw_fieldrest_k04_kinds_that_fit.prog w) PySem.Challenge.rw_fieldrest_k04_kinds_that_fit.prog w K mg base N_is_rest "is_rest" (defScope (top 18)) f cdv A outer s H E) (fun cls d _ H => E cls d H) := L2N.takes_of rfl rfl rfl rfl
  exact (ds_one (ds_ret (de_or (de_cmp opIsN_ok (de_var (pv 0)) de_non (nomark _)) (de_one (de_and (de_call (hC .is_whole) hr tk (by rfl) (dal_cons (de_var (pv 0)) dal_nil)) (de_one (de_cmp opGe_ok (de_var (pv 0)) de_int (nomark _))))))))
theorem sc_is_row : FnScope N_is_row ["fields", "deep"] (defScope (top 19)) := ⟨rfl, rfl, rfl, by decide +kernel, rfl, by decide +kernel, by decide +kernel⟩
theorem der_is_row (hC : ∀ g, Has PySem.Challenge.rw_fieldrest_k04_kinds_that_fit.prog w K mg base k (nm g) (ar g) (C g)) (M : Mgs mg) (hE : ∀ g y C, okX y = true → XT K mg y C → HasE PySem.Challenge.rw_fieldrest_k04_kinds_that_fit.prog w K mg base k (nmE g) (arE g) C (fun a => CE g a y)) (XF : Xs K mg) (f : Addr) (cdv : Value) (A : Around) (outer : List Env) (s : Shared) (H : Hp) (E : XK) (hr : Room k (A.deeper (envOfC "is_row" (defScope (top 19)) s.heap.objs.size f cdv))) :
    DSs (cxOf (L2N.CX PySem.Challenge.rw_fieldrest_k04_kinds_that_fit.prog w) PySem.Challenge.rw_fieldrest_k04_kinds_that_fit.prog w K mg base N_is_row "is_row" (defScope (top 19)) f cdv A outer s H E) (fun cls d _ H => E cls d H) (defBody (top 19)) (b_is_row C CE) := by
  have nd := sc_is_row.nd
  have hu := Ru.of hr
  have tk : L2N.Takes (cxOf (L2N.CX PySem.Challenge.rw_fieldrest_k04_kinds_that_fit.prog w) PySem.Challenge.rw_fieldrest_k04_kinds_that_fit.prog w K mg base N_is_row "is_row" (defScope (top 19)) f cdv A outer s H E) (fun cls d _ H => E cls d H) := L2N.takes_of rfl rfl rfl rfl
  exact (ds_cons (ds_if (dw_pt (dw_or (dt_not (dt_val (de_isi (by rfl) M.m_isinstance (de_var (pv 0)) (pe_bltn (v := .ty "tuple") (by rfl) M.m_tuple (by decide +kernel) rfl)))) (dw_or1 (dt_not (dt_val (de_callB (cAll_ok rfl) (by rfl) M.m_all (by decide +kernel) (da_cons (de_comp (own := [("pair", 2)]) rfl nd (di_items (de_var (pv 0))) (blkOk_by (N := N_is_row) (sc := (defScope (top 19))) (own := [("pair", 2)]) (by decide +kernel)) (fun _ _ _ _ _ => pg_name (i := 2) nd rfl (Or.inl rfl)) (tgr_name (by decide)) (fun _ _ _ _ _ => dts_nil) (fun _ _ _ _ _ => (de_call (hC .is_pair) hr takesN0 (by rfl) (dal_cons (de_var (pv 2)) dal_nil)))) da_nil))))))) (ds_one (ds_ret de_bl)) ds_nil)
    (ds_cons (ds_setComp (own := [("pair", 2)]) (i := 3) rfl nd rfl rfl (sw_true rfl rfl rfl (by decide +kernel)) (di_items (de_var (pv 0))) (blkOk_by (N := N_is_row) (sc := (defScope (top 19))) (own := [("pair", 2)]) (by decide +kernel)) (fun _ _ _ _ _ => pg_name (i := 2) nd rfl (Or.inl rfl)) (tgr_name (by decide)) (fun _ _ _ _ _ => dts_nil) (fun _ _ _ _ _ => (de_ix (opIx_ok hu) (de_var (pv 2)) de_int)))
    (ds_cons (ds_if (dw_pt (dw_or (dt_cmp (opNe_ok hu) (de_var (pv 3)) (de_callB cSorted_ok (by rfl) M.m_sorted (by decide +kernel) (da_cons (de_var (pv 3)) da_nil)) (nomark _)) (dw_or1 (dt_cmp (opNe_ok hu) (de_lenSet rfl (by rfl) M.m_len (by rfl) M.m_set (de_var (pv 3))) (de_callB cLen_ok (by rfl) M.m_len (by decide +kernel) (da_cons (de_var (pv 3)) da_nil)) (nomark _))))) (ds_one (ds_ret de_bl)) ds_nil)
    (ds_one (ds_ret (de_callB (cAll_ok rfl) (by rfl) M.m_all (by decide +kernel) (da_cons (de_comp (own := [("pair", 2)]) rfl nd (di_items (de_var (pv 0))) (blkOk_by (N := N_is_row) (sc := (defScope (top 19))) (own := [("pair", 2)]) (by decide +kernel)) (fun _ _ _ _ _ => pg_name (i := 2) nd rfl (Or.inl rfl)) (tgr_name (by decide)) (fun _ _ _ _ _ => dts_nil) (fun _ _ _ _ _ => (de_call (hC .is_kind_in) hr takesN0 (by rfl) (dal_cons (de_ix (opIx_ok hu) (de_var (pv 2)) de_int) (dal_cons (de_var (pv 1)) dal_nil))))) da_nil)))))))
theorem sc_is_kind_in : FnScope N_is_kind_in ["thing", "deep"] (defScope (top 20)) := ⟨rfl, rfl, rfl, by decide +kernel, rfl, by decide +kernel, by decide +kernel⟩
theorem der_is_kind_in (hC : ∀ g, Has PySem.Challenge.rw_fieldrest_k04_kinds_that_fit.prog w K mg base k (nm g) (ar g) (C g)) (M : Mgs mg) (hE : ∀ g y C, okX y = true → XT K mg y C → HasE PySem.Challenge.rw_fieldrest_k04_kinds_that_fit.prog w K mg base k (nmE g) (arE g) C (fun a => CE g a y)) (XF : Xs K mg) (f : Addr) (cdv : Value) (A : Around) (outer : List Env) (s : Shared) (H : Hp) (E : XK) (hr : Room k (A.deeper (envOfC "is_kind_in" (defScope (top 20)) s.heap.objs.size f cdv))) :
    DSs (cxOf (L2N.CX PySem.Challenge.rw_fieldrest_k04_kinds_that_fit.prog w) PySem.Challenge.rw_fieldrest_k04_kinds_that_fit.prog w K mg base N_is_kind_in "is_kind_in" (defScope (top 20)) f cdv A outer s H E) (fun cls d _ H => E cls d H) (defBody (top 20)) (b_is_kind_in C CE) := by
  have nd := sc_is_kind_in.nd
  have hu := Ru.of hr
  have tk : L2N.Takes (cxOf (L2N.CX PySem.Challenge.rw_fieldrest_k04_kinds_that_fit.prog w) PySem.Challenge.rw_fieldrest_k04_kinds_that_fit.prog w K mg base N_is_kind_in "is_kind_in" (defScope (top 20)) f cdv A outer s H E) (fun cls d _ H => E cls d H) := L2N.takes_of rfl rfl rfl rfl
  exact (ds_cons (ds_if (dw_pt (dw_or (dt_cmp (opEq_ok hu) (de_var (pv 1)) de_int (nomark _)) (dw_or (dt_not (dt_val (de_isi (by rfl) M.m_isinstance (de_var (pv 0)) (pe_bltn (v := .ty "tuple") (by rfl) M.m_tuple (by decide +kernel) rfl)))) (dw_or (dt_cmp opLt_ok (de_callB cLen_ok (by rfl) M.m_len (by decide +kernel) (da_cons (de_var (pv 0)) da_nil)) de_int (nomark _)) (dw_or1 (dt_not (dt_val (de_isi (by rfl) M.m_isinstance (de_ix (opIx_ok hu) (de_var (pv 0)) de_int) (pe_bltn (v := .ty "str") (by rfl) M.m_str (by decide +kernel) rfl))))))))) (ds_one (ds_ret de_bl)) ds_nil)
    (ds_cons (ds_if (dt_cmp (opEq_ok hu) (de_ix (opIx_ok hu) (de_var (pv 0)) de_int) (de_str (by decide +kernel)) (nomark _)) (ds_one (ds_ret (de_cmp (opEq_ok hu) (de_callB cLen_ok (by rfl) M.m_len (by decide +kernel) (da_cons (de_var (pv 0)) da_nil)) de_int (nomark _)))) ds_nil)
    (ds_cons (ds_if (dt_cmp (opEq_ok hu) (de_ix (opIx_ok hu) (de_var (pv 0)) de_int) (de_str (by decide +kernel)) (nomark _)) (ds_one (ds_ret (de_and (de_cmp (opEq_ok hu) (de_callB cLen_ok (by rfl) M.m_len (by decide +kernel) (da_cons (de_var (pv 0)) da_nil)) de_int (nomark _)) (de_and (de_call (hC .is_whole) hr tk (by rfl) (dal_cons (de_ix (opIx_ok hu) (de_var (pv 0)) de_int) dal_nil)) (de_one (de_cmp opGe_ok (de_ix (opIx_ok hu) (de_var (pv 0)) de_int) de_int (nomark _))))))) ds_nil)
    (ds_one (ds_ret (de_and (de_cmp (opEq_ok hu) (de_ix (opIx_ok hu) (de_var (pv 0)) de_int) (de_str (by decide +kernel)) (nomark _)) (de_and (de_cmp (opEq_ok hu) (de_callB cLen_ok (by rfl) M.m_len (by decide +kernel) (da_cons (de_var (pv 0)) da_nil)) de_int (nomark _)) (de_and (de_call (hC .is_rest) hr tk (by rfl) (dal_cons (de_ix (opIx_ok hu) (de_var (pv 0)) de_int) dal_nil)) (de_one (de_call (hC .is_row) hr tk (by rfl) (dal_cons (de_ix (opIx_ok hu) (de_var (pv 0)) de_int) (dal_cons (de_bin opSub_ok (de_var (pv 1)) de_int) dal_nil))))))))))))
theorem sc_knots : FnScope N_knots ["kind"] (defScope (top 21)) := ⟨rfl, rfl, rfl, by decide +kernel, rfl, by decide +kernel, by decide +kernel⟩
theorem der_knots (hC : ∀ g, Has PySem.Challenge.rw_fieldrest_k04_kinds_that_fit.prog w K mg base k (nm g) (ar g) (C g)) (M : Mgs mg) (hE : ∀ g y C, okX y = true → XT K mg y C → HasE PySem.Challenge.rw_fieldrest_k04_kinds_that_fit.prog w K mg base k (nmE g) (arE g) C (fun a => CE g a y)) (XF : Xs K mg) (f : Addr) (cdv : Value) (A : Around) (outer : List Env) (s : Shared) (H : Hp) (E : XK) (hr : Room k (A.deeper (envOfC "knots" (defScope (top 21)) s.heap.objs.size f cdv))) :
    DSs (cxOf (L2N.CX PySem.Challenge.rw_fieldrest_k04_kinds_that_fit.prog w) PySem.Challenge.rw_fieldrest_k04_kinds_that_fit.prog w K mg base N_knots "knots" (defScope (top 21)) f cdv A outer s H E) (fun cls d _ H => E cls d H) (defBody (top 21)) (b_knots C CE) := by
  have nd := sc_knots.nd
  have hu := Ru.of hr
  have tk : L2N.Takes (cxOf (L2N.CX PySem.Challenge.rw_fieldrest_k04_kinds_that_fit.prog w) PySem.Challenge.rw_fieldrest_k04_kinds_that_fit.prog w K mg base N_knots "knots" (defScope (top 21)) f cdv A outer s H E) (fun cls d _ H => E cls d H) := L2N.takes_of rfl rfl rfl rfl
  exact (ds_cons (ds_if (dt_cmp (opNe_ok hu) (de_ix (opIx_ok hu) (de_var (pv 0)) de_int) (de_str (by decide +kernel)) (nomark _)) (ds_one (ds_ret de_int)) ds_nil)
    (ds_one (ds_ret (de_bin opAdd_ok de_int (de_callB (cSum_ok rfl) (by rfl) M.m_sum (by decide +kernel) (da_cons (de_comp (own := [("pair", 1)]) rfl nd (di_items (de_ix (opIx_ok hu) (de_var (pv 0)) de_int)) (blkOk_by (N := N_knots) (sc := (defScope (top 21))) (own := [("pair", 1)]) (by decide +kernel)) (fun _ _ _ _ _ => pg_name (i := 1) nd rfl (Or.inl rfl)) (tgr_name (by decide)) (fun _ _ _ _ _ => dts_nil) (fun _ _ _ _ _ => (de_call (hC .knots) hr takesN0 (by rfl) (dal_cons (de_ix (opIx_ok hu) (de_var (pv 1)) de_int) dal_nil)))) da_nil))))))
theorem sc_depth : FnScope N_depth ["kind"] (defScope (top 22)) := ⟨rfl, rfl, rfl, by decide +kernel, rfl, by decide +kernel, by decide +kernel⟩
theorem der_depth (hC : ∀ g, Has PySem.Challenge.rw_fieldrest_k04_kinds_that_fit.prog w K mg base k (nm g) (ar g) (C g)) (M : Mgs mg) (hE : ∀ g y C, okX y = true → XT K mg y C → HasE PySem.Challenge.rw_fieldrest_k04_kinds_that_fit.prog w K mg base k (nmE g) (arE g) C (fun a => CE g a y)) (XF : Xs K mg) (f : Addr) (cdv : Value) (A : Around) (outer : List Env) (s : Shared) (H : Hp) (E : XK) (hr : Room k (A.deeper (envOfC "depth" (defScope (top 22)) s.heap.objs.size f cdv))) :
    DSs (cxOf (L2N.CX PySem.Challenge.rw_fieldrest_k04_kinds_that_fit.prog w) PySem.Challenge.rw_fieldrest_k04_kinds_that_fit.prog w K mg base N_depth "depth" (defScope (top 22)) f cdv A outer s H E) (fun cls d _ H => E cls d H) (defBody (top 22)) (b_depth C CE) := by
  have nd := sc_depth.nd
  have hu := Ru.of hr
  have tk : L2N.Takes (cxOf (L2N.CX PySem.Challenge.rw_fieldrest_k04_kinds_that_fit.prog w) PySem.Challenge.rw_fieldrest_k04_kinds_that_fit.prog w K mg base N_depth "depth" (defScope (top 22)) f cdv A outer s H E) (fun cls d _ H => E cls d H) := L2N.takes_of rfl rfl rfl rfl
  exact (ds_cons (ds_if (dt_cmp (opNe_ok hu) (de_ix (opIx_ok hu) (de_var (pv 0)) de_int) (de_str (by decide +kernel)) (nomark _)) (ds_one (ds_ret de_int)) ds_nil)
    (ds_one (ds_ret (de_bin opAdd_ok de_int (de_maxD rfl hu (by rfl) M.m_max (de_comp (own := [("pair", 1)]) rfl nd (di_items (de_ix (opIx_ok hu) (de_var (pv 0)) de_int)) (blkOk_by (N := N_depth) (sc := (defScope (top 22))) (own := [("pair", 1)]) (by decide +kernel)) (fun _ _ _ _ _ => pg_name (i := 1) nd rfl (Or.inl rfl)) (tgr_name (by decide)) (fun _ _ _ _ _ => dts_nil) (fun _ _ _ _ _ => (de_call (hC .depth) hr takesN0 (by rfl) (dal_cons (de_ix (opIx_ok hu) (de_var (pv 1)) de_int) dal_nil)))) de_int)))))
theorem sc_blanks_in : FnScope N_blanks_in ["kind", "found"] (defScope (top 23)) := ⟨rfl, rfl, rfl, by decide +kernel, rfl, by decide +kernel, by decide +kernel⟩
theorem der_blanks_in (hC : ∀ g, Has PySem.Challenge.rw_fieldrest_k04_kinds_that_fit.prog w K mg base k (nm g) (ar g) (C g)) (M : Mgs mg) (hE : ∀ g y C, okX y = true → XT K mg y C → HasE PySem.Challenge.rw_fieldrest_k04_kinds_that_fit.prog w K mg base k (nmE g) (arE g) C (fun a => CE g a y)) (XF : Xs K mg) (f : Addr) (cdv : Value) (A : Around) (outer : List Env) (s : Shared) (H : Hp) (E : XK) (hr : Room k (A.deeper (envOfC "blanks_in" (defScope (top 23)) s.heap.objs.size f cdv))) :
    DSs (cxOf (L2N.CX PySem.Challenge.rw_fieldrest_k04_kinds_that_fit.prog w) PySem.Challenge.rw_fieldrest_k04_kinds_that_fit.prog w K mg base N_blanks_in "blanks_in" (defScope (top 23)) f cdv A outer s H E) (fun cls d _ H => E cls d H) (defBody (top 23)) (b_blanks_in C CE) := by
  have nd := sc_blanks_in.nd
  have hu := Ru.of hr
  have tk : L2N.Takes (cxOf (L2N.CX PySem.Challenge.rw_fieldrest_k04_kinds_that_fit.prog w) PySem.Challenge.rw_fieldrest_k04_kinds_that_fit.prog w K mg base N_blanks_in "blanks_in" (defScope (top 23)) f cdv A outer s H E) (fun cls d _ H => E cls d H) := L2N.takes_of rfl rfl rfl rfl
  exact (ds_cons (ds_if (dt_cmp (opEq_ok hu) (de_ix (opIx_ok hu) (de_var (pv 0)) de_int) (de_str (by decide +kernel)) (nomark _)) (ds_one (ds_ret (de_call (hC .put_blank) hr tk (by rfl) (dal_cons (de_var (pv 1)) (dal_cons (de_ix (opIx_ok hu) (de_var (pv 0)) de_int) (dal_cons de_non dal_nil)))))) ds_nil)
    (ds_cons (ds_set (i := 2) nd rfl (Or.inl rfl) de_bl)
    (ds_cons (ds_if (dt_cmp (opEq_ok hu) (de_ix (opIx_ok hu) (de_var (pv 0)) de_int) (de_str (by decide +kernel)) (nomark _)) (ds_cons (ds_for (passes_of rfl) rfl (di_items (de_ix (opIx_ok hu) (de_var (pv 0)) de_int)) (dg_name (pg_name (i := 3) nd rfl (Or.inl rfl))) (ds_one (ds_set (i := 2) nd rfl (Or.inl rfl) (de_and (de_call (hC .blanks_in) hr tk (by rfl) (dal_cons (de_ix (opIx_ok hu) (de_var (pv 3)) de_int) (dal_cons (de_var (pv 1)) dal_nil))) (de_one (de_var (pv 2)))))))
    (ds_one (ds_if (dt_cmp opNotN_ok (de_ix (opIx_ok hu) (de_var (pv 0)) de_int) de_non (nomark _)) (ds_one (ds_set (i := 2) nd rfl (Or.inl rfl) (de_and (de_call (hC .put_blank) hr tk (by rfl) (dal_cons (de_var (pv 1)) (dal_cons (de_ix (opIx_ok hu) (de_var (pv 0)) de_int) (dal_cons (de_comp (own := [("pair", 3)]) rfl nd (di_items (de_ix (opIx_ok hu) (de_var (pv 0)) de_int)) (blkOk_by (N := N_blanks_in) (sc := (defScope (top 23))) (own := [("pair", 3)]) (by decide +kernel)) (fun _ _ _ _ _ => pg_name (i := 3) nd rfl (Or.inl rfl)) (tgr_name (by decide)) (fun _ _ _ _ _ => dts_nil) (fun _ _ _ _ _ => (de_ix (opIx_ok hu) (de_var (pv 3)) de_int))) dal_nil)))) (de_one (de_var (pv 2)))))) ds_nil))) ds_nil)
    (ds_one (ds_ret (de_var (pv 2)))))))
theorem sc_put_blank : FnScope N_put_blank ["found", "number", "labels"] (defScope (top 24)) := ⟨rfl, rfl, rfl, by decide +kernel, rfl, by decide +kernel, by decide +kernel⟩
theorem der_put_blank (hC : ∀ g, Has PySem.Challenge.rw_fieldrest_k04_kinds_that_fit.prog w K mg base k (nm g) (ar g) (C g)) (M : Mgs mg) (hE : ∀ g y C, okX y = true → XT K mg y C → HasE PySem.Challenge.rw_fieldrest_k04_kinds_that_fit.prog w K mg base k (nmE g) (arE g) C (fun a => CE g a y)) (XF : Xs K mg) (f : Addr) (cdv : Value) (A : Around) (outer : List Env) (s : Shared) (H : Hp) (E : XK) (hr : Room k (A.deeper (envOfC "put_blank" (defScope (top 24)) s.heap.objs.size f cdv))) :
    DSs (cxOf (L2N.CX PySem.Challenge.rw_fieldrest_k04_kinds_that_fit.prog w) PySem.Challenge.rw_fieldrest_k04_kinds_that_fit.prog w K mg base N_put_blank "put_blank" (defScope (top 24)) f cdv A outer s H E) (fun cls d _ H => E cls d H) (defBody (top 24)) (b_put_blank C CE) := by
  have nd := sc_put_blank.nd
  have hu := Ru.of hr
  have tk : L2N.Takes (cxOf (L2N.CX PySem.Challenge.rw_fieldrest_k04_kinds_that_fit.prog w) PySem.Challenge.rw_fieldrest_k04_kinds_that_fit.prog w K mg base N_put_blank "put_blank" (defScope (top 24)) f cdv A outer s H E) (fun cls d _ H => E cls d H) := L2N.takes_of rfl rfl rfl rfl
  exact (ds_cons (ds_if (dt_cmp (opNotIn_ok hu) (de_var (pv 1)) (de_var (pv 0)) rfl) (ds_one (ds_asg (de_var (pv 2)) (dg_sub (de_var (pv 0)) (de_var (pv 1)) (opSet_ok hu)))) ds_nil)
    (ds_one (ds_ret (de_cmp (opEq_ok hu) (de_ix (opIx_ok hu) (de_var (pv 0)) (de_var (pv 1))) (de_var (pv 2)) (nomark _)))))
theorem sc_is_kind : FnScope N_is_kind ["thing"] (defScope (top 25)) := ⟨rfl, rfl, rfl, by decide +kernel, rfl, by decide +kernel, by decide +kernel⟩
theorem der_is_kind (hC : ∀ g, Has PySem.Challenge.rw_fieldrest_k04_kinds_that_fit.prog w K mg base k (nm g) (ar g) (C g)) (M : Mgs mg) (hE : ∀ g y C, okX y = true → XT K mg y C → HasE PySem.Challenge.rw_fieldrest_k04_kinds_that_fit.prog w K mg base k (nmE g) (arE g) C (fun a => CE g a y)) (XF : Xs K mg) (f : Addr) (cdv : Value) (A : Around) (outer : List Env) (s : Shared) (H : Hp) (E : XK) (hr : Room k (A.deeper (envOfC "is_kind" (defScope (top 25)) s.heap.objs.size f cdv))) :
    DSs (cxOf (L2N.CX PySem.Challenge.rw_fieldrest_k04_kinds_that_fit.prog w) PySem.Challenge.rw_fieldrest_k04_kinds_that_fit.prog w K mg base N_is_kind "is_kind" (defScope (top 25)) f cdv A outer s H E) (fun cls d _ H => E cls d H) (defBody (top 25)) (b_is_kind C CE) := by
  have nd := sc_is_kind.nd
  have hu := Ru.of hr
  have tk : L2N.Takes (cxOf (L2N.CX PySem.Challenge.rw_fieldrest_k04_kinds_that_fit.prog w) PySem.Challenge.rw_fieldrest_k04_kinds_that_fit.prog w K mg base N_is_kind "is_kind" (defScope (top 25)) f cdv A outer s H E) (fun cls d _ H => E cls d H) := L2N.takes_of rfl rfl rfl rfl
  exact (ds_one (ds_ret (de_and (de_call (hC .is_kind_in) hr tk (by rfl) (dal_cons (de_var (pv 0)) (dal_cons (de_gint (by rfl) M.g_MOST_KIND_DEEP) dal_nil))) (de_and (de_cmp opLe_ok (de_call (hC .knots) hr tk (by rfl) (dal_cons (de_var (pv 0)) dal_nil)) (de_gint (by rfl) M.g_MOST_KNOTS) (nomark _)) (de_one (de_call (hC .blanks_in) hr tk (by rfl) (dal_cons (de_var (pv 0)) (dal_cons de_newK dal_nil))))))))
theorem sc_are_kinds : FnScope N_are_kinds ["things"] (defScope (top 26)) := ⟨rfl, rfl, rfl, by decide +kernel, rfl, by decide +kernel, by decide +kernel⟩
theorem der_are_kinds (hC : ∀ g, Has PySem.Challenge.rw_fieldrest_k04_kinds_that_fit.prog w K mg base k (nm g) (ar g) (C g)) (M : Mgs mg) (hE : ∀ g y C, okX y = true → XT K mg y C → HasE PySem.Challenge.rw_fieldrest_k04_kinds_that_fit.prog w K mg base k (nmE g) (arE g) C (fun a => CE g a y)) (XF : Xs K mg) (f : Addr) (cdv : Value) (A : Around) (outer : List Env) (s : Shared) (H : Hp) (E : XK) (hr : Room k (A.deeper (envOfC "are_kinds" (defScope (top 26)) s.heap.objs.size f cdv))) :
    DSs (cxOf (L2N.CX PySem.Challenge.rw_fieldrest_k04_kinds_that_fit.prog w) PySem.Challenge.rw_fieldrest_k04_kinds_that_fit.prog w K mg base N_are_kinds "are_kinds" (defScope (top 26)) f cdv A outer s H E) (fun cls d _ H => E cls d H) (defBody (top 26)) (b_are_kinds C CE) := by
  have nd := sc_are_kinds.nd
  have hu := Ru.of hr
  have tk : L2N.Takes (cxOf (L2N.CX PySem.Challenge.rw_fieldrest_k04_kinds_that_fit.prog w) PySem.Challenge.rw_fieldrest_k04_kinds_that_fit.prog w K mg base N_are_kinds "are_kinds" (defScope (top 26)) f cdv A outer s H E) (fun cls d _ H => E cls d H) := L2N.takes_of rfl rfl rfl rfl
  exact (ds_cons (ds_set (i := 1) nd rfl (Or.inl rfl) de_newK)
    (ds_cons (ds_for (passes_of rfl) rfl (di_items (de_var (pv 0))) (dg_name (pg_name (i := 2) nd rfl (Or.inl rfl))) (ds_one (ds_if (dw_pt (dw_or (dt_not (dt_val (de_call (hC .is_kind_in) hr tk (by rfl) (dal_cons (de_var (pv 2)) (dal_cons (de_gint (by rfl) M.g_MOST_KIND_DEEP) dal_nil))))) (dw_or1 (dt_not (dt_val (de_call (hC .blanks_in) hr tk (by rfl) (dal_cons (de_var (pv 2)) (dal_cons (de_var (pv 1)) dal_nil)))))))) (ds_one (ds_ret de_bl)) ds_nil)))
    (ds_one (ds_ret (de_cmp opLe_ok (de_callB (cSum_ok rfl) (by rfl) M.m_sum (by decide +kernel) (da_cons (de_comp (own := [("thing", 2)]) rfl nd (di_items (de_var (pv 0))) (blkOk_by (N := N_are_kinds) (sc := (defScope (top 26))) (own := [("thing", 2)]) (by decide +kernel)) (fun _ _ _ _ _ => pg_name (i := 2) nd rfl (Or.inl rfl)) (tgr_name (by decide)) (fun _ _ _ _ _ => dts_nil) (fun _ _ _ _ _ => (de_call (hC .knots) hr takesN0 (by rfl) (dal_cons (de_var (pv 2)) dal_nil)))) da_nil)) (de_gint (by rfl) M.g_MOST_KNOTS) (nomark _))))))
theorem sc_need_kind : FnScope N_need_kind ["thing"] (defScope (top 27)) := ⟨rfl, rfl, rfl, by decide +kernel, rfl, by decide +kernel, by decide +kernel⟩
theorem der_need_kind (hC : ∀ g, Has PySem.Challenge.rw_fieldrest_k04_kinds_that_fit.prog w K mg base k (nm g) (ar g) (C g)) (M : Mgs mg) (hE : ∀ g y C, okX y = true → XT K mg y C → HasE PySem.Challenge.rw_fieldrest_k04_kinds_that_fit.prog w K mg base k (nmE g) (arE g) C (fun a => CE g a y)) (XF : Xs K mg) (f : Addr) (cdv : Value) (A : Around) (outer : List Env) (s : Shared) (H : Hp) (E : XK) (hr : Room k (A.deeper (envOfC "need_kind" (defScope (top 27)) s.heap.objs.size f cdv))) :
    DSs (cxOf (L2N.CX PySem.Challenge.rw_fieldrest_k04_kinds_that_fit.prog w) PySem.Challenge.rw_fieldrest_k04_kinds_that_fit.prog w K mg base N_need_kind "need_kind" (defScope (top 27)) f cdv A outer s H E) (fun cls d _ H => E cls d H) (defBody (top 27)) (b_need_kind C CE) := by
  have nd := sc_need_kind.nd
  have hu := Ru.of hr
  have tk : L2N.Takes (cxOf (L2N.CX PySem.Challenge.rw_fieldrest_k04_kinds_that_fit.prog w) PySem.Challenge.rw_fieldrest_k04_kinds_that_fit.prog w K mg base N_need_kind "need_kind" (defScope (top 27)) f cdv A outer s H E) (fun cls d _ H => E cls d H) := L2N.takes_of rfl rfl rfl rfl
  exact (ds_one (ds_if (dt_not (dt_val (de_call (hC .is_kind) hr tk (by rfl) (dal_cons (de_var (pv 0)) dal_nil)))) (ds_one (ds_raiseX rfl tk (XF.x "BadKind" rfl) (by rfl))) ds_nil))
theorem sc_fill : FnScope N_fill ["kind", "fills"] (defScope (top 28)) := ⟨rfl, rfl, rfl, by decide +kernel, rfl, by decide +kernel, by decide +kernel⟩
theorem der_fill (hC : ∀ g, Has PySem.Challenge.rw_fieldrest_k04_kinds_that_fit.prog w K mg base k (nm g) (ar g) (C g)) (M : Mgs mg) (hE : ∀ g y C, okX y = true → XT K mg y C → HasE PySem.Challenge.rw_fieldrest_k04_kinds_that_fit.prog w K mg base k (nmE g) (arE g) C (fun a => CE g a y)) (XF : Xs K mg) (f : Addr) (cdv : Value) (A : Around) (outer : List Env) (s : Shared) (H : Hp) (E : XK) (hr : Room k (A.deeper (envOfC "fill" (defScope (top 28)) s.heap.objs.size f cdv))) :
    DSs (cxOf (L2N.CX PySem.Challenge.rw_fieldrest_k04_kinds_that_fit.prog w) PySem.Challenge.rw_fieldrest_k04_kinds_that_fit.prog w K mg base N_fill "fill" (defScope (top 28)) f cdv A outer s H E) (fun cls d _ H => E cls d H) (defBody (top 28)) (b_fill C CE) := by
  have nd := sc_fill.nd
  have hu := Ru.of hr
  have tk : L2N.Takes (cxOf (L2N.CX PySem.Challenge.rw_fieldrest_k04_kinds_that_fit.prog w) PySem.Challenge.rw_fieldrest_k04_kinds_that_fit.prog w K mg base N_fill "fill" (defScope (top 28)) f cdv A outer s H E) (fun cls d _ H => E cls d H) := L2N.takes_of rfl rfl rfl rfl
  exact (ds_cons (ds_if (dw_pt (dw_and (dt_cmp (opEq_ok hu) (de_ix (opIx_ok hu) (de_var (pv 0)) de_int) (de_str (by decide +kernel)) (nomark _)) (dw_and1 (dt_cmp (opIn_ok hu) (de_ix (opIx_ok hu) (de_var (pv 0)) de_int) (de_var (pv 1)) rfl)))) (ds_one (ds_ret (de_ix (opIx_ok hu) (de_var (pv 1)) (de_ix (opIx_ok hu) (de_var (pv 0)) de_int)))) ds_nil)
    (ds_cons (ds_if (dt_cmp (opNe_ok hu) (de_ix (opIx_ok hu) (de_var (pv 0)) de_int) (de_str (by decide +kernel)) (nomark _)) (ds_one (ds_ret (de_var (pv 0)))) ds_nil)
    (ds_cons (ds_setComp (own := [("pair", 3)]) (i := 2) rfl nd rfl rfl (sw_true rfl rfl rfl (by decide +kernel)) (di_items (de_ix (opIx_ok hu) (de_var (pv 0)) de_int)) (blkOk_by (N := N_fill) (sc := (defScope (top 28))) (own := [("pair", 3)]) (by decide +kernel)) (fun _ _ _ _ _ => pg_name (i := 3) nd rfl (Or.inl rfl)) (tgr_name (by decide)) (fun _ _ _ _ _ => dts_nil) (fun _ _ _ _ _ => (de_tup (da_cons (de_ix (opIx_ok hu) (de_var (pv 3)) de_int) (da_cons (de_call (hC .fill) hr takesN0 (by rfl) (dal_cons (de_ix (opIx_ok hu) (de_var (pv 3)) de_int) (dal_cons (de_var (pv 1)) dal_nil))) da_nil)))))
    (ds_cons (ds_set (i := 4) nd rfl (Or.inl rfl) (de_ix (opIx_ok hu) (de_var (pv 0)) de_int))
    (ds_cons (ds_if (dw_pt (dw_and (dt_cmp opNotN_ok (de_var (pv 4)) de_non (nomark _)) (dw_and1 (dt_cmp (opIn_ok hu) (de_var (pv 4)) (de_var (pv 1)) rfl)))) (ds_cons (ds_set (i := 2) nd rfl (Or.inl rfl) (de_bin opAdd_ok (de_var (pv 2)) (de_callTy cList_ok (by rfl) M.m_list (by decide +kernel) (da_cons (de_ix (opIx_ok hu) (de_ix (opIx_ok hu) (de_var (pv 1)) (de_var (pv 4))) de_int) da_nil))))
    (ds_one (ds_set (i := 4) nd rfl (Or.inl rfl) (de_ix (opIx_ok hu) (de_ix (opIx_ok hu) (de_var (pv 1)) (de_var (pv 4))) de_int)))) ds_nil)
    (ds_one (ds_ret (de_tup (da_cons (de_str (by decide +kernel)) (da_cons (de_callTy cTuple_ok (by rfl) M.m_tuple (by decide +kernel) (da_cons (de_callB cSortedF_ok (by rfl) M.m_sorted (by decide +kernel) (da_cons (de_var (pv 2)) da_nil)) da_nil)) (da_cons (de_var (pv 4)) da_nil)))))))))))
theorem sc_is_fill : FnScope N_is_fill ["labels", "thing"] (defScope (top 29)) := ⟨rfl, rfl, rfl, by decide +kernel, rfl, by decide +kernel, by decide +kernel⟩
theorem der_is_fill (hC : ∀ g, Has PySem.Challenge.rw_fieldrest_k04_kinds_that_fit.prog w K mg base k (nm g) (ar g) (C g)) (M : Mgs mg) (hE : ∀ g y C, okX y = true → XT K mg y C → HasE PySem.Challenge.rw_fieldrest_k04_kinds_that_fit.prog w K mg base k (nmE g) (arE g) C (fun a => CE g a y)) (XF : Xs K mg) (f : Addr) (cdv : Value) (A : Around) (outer : List Env) (s : Shared) (H : Hp) (E : XK) (hr : Room k (A.deeper (envOfC "is_fill" (defScope (top 29)) s.heap.objs.size f cdv))) :
    DSs (cxOf (L2N.CX PySem.Challenge.rw_fieldrest_k04_kinds_that_fit.prog w) PySem.Challenge.rw_fieldrest_k04_kinds_that_fit.prog w K mg base N_is_fill "is_fill" (defScope (top 29)) f cdv A outer s H E) (fun cls d _ H => E cls d H) (defBody (top 29)) (b_is_fill C CE) := by
  have nd := sc_is_fill.nd
  have hu := Ru.of hr
  have tk : L2N.Takes (cxOf (L2N.CX PySem.Challenge.rw_fieldrest_k04_kinds_that_fit.prog w) PySem.Challenge.rw_fieldrest_k04_kinds_that_fit.prog w K mg base N_is_fill "is_fill" (defScope (top 29)) f cdv A outer s H E) (fun cls d _ H => E cls d H) := L2N.takes_of rfl rfl rfl rfl
  exact (ds_cons (ds_if (dt_cmp opIsN_ok (de_var (pv 0)) de_non (nomark _)) (ds_one (ds_ret (de_call (hC .is_kind_in) hr tk (by rfl) (dal_cons (de_var (pv 1)) (dal_cons (de_gint (by rfl) M.g_MOST_KIND_DEEP) dal_nil))))) ds_nil)
    (ds_cons (ds_if (dw_pt (dw_or (dt_not (dt_val (de_isi (by rfl) M.m_isinstance (de_var (pv 1)) (pe_bltn (v := .ty "tuple") (by rfl) M.m_tuple (by decide +kernel) rfl)))) (dw_or (dt_cmp (opNe_ok hu) (de_callB cLen_ok (by rfl) M.m_len (by decide +kernel) (da_cons (de_var (pv 1)) da_nil)) de_int (nomark _)) (dw_or1 (dt_not (dt_val (de_call (hC .is_kind_in) hr tk (by rfl) (dal_cons (de_bin opAdd_ok (de_tup (da_cons (de_str (by decide +kernel)) da_nil)) (de_var (pv 1))) (dal_cons (de_gint (by rfl) M.g_MOST_KIND_DEEP) dal_nil))))))))) (ds_one (ds_ret de_bl)) ds_nil)
    (ds_one (ds_ret (de_callB (cAll_ok rfl) (by rfl) M.m_all (by decide +kernel) (da_cons (de_comp (own := [("pair", 2)]) rfl nd (di_items (de_ix (opIx_ok hu) (de_var (pv 1)) de_int)) (blkOk_by (N := N_is_fill) (sc := (defScope (top 29))) (own := [("pair", 2)]) (by decide +kernel)) (fun _ _ _ _ _ => pg_name (i := 2) nd rfl (Or.inl rfl)) (tgr_name (by decide)) (fun _ _ _ _ _ => dts_nil) (fun _ _ _ _ _ => (de_cmp (opNotIn_ok hu) (de_ix (opIx_ok hu) (de_var (pv 2)) de_int) (de_var (pv 0)) rfl))) da_nil))))))
theorem sc_filled : FnScope N_filled ["kind", "fills"] (defScope (top 30)) := ⟨rfl, rfl, rfl, by decide +kernel, rfl, by decide +kernel, by decide +kernel⟩
theorem der_filled (hC : ∀ g, Has PySem.Challenge.rw_fieldrest_k04_kinds_that_fit.prog w K mg base k (nm g) (ar g) (C g)) (M : Mgs mg) (hE : ∀ g y C, okX y = true → XT K mg y C → HasE PySem.Challenge.rw_fieldrest_k04_kinds_that_fit.prog w K mg base k (nmE g) (arE g) C (fun a => CE g a y)) (XF : Xs K mg) (f : Addr) (cdv : Value) (A : Around) (outer : List Env) (s : Shared) (H : Hp) (E : XK) (hr : Room k (A.deeper (envOfC "filled" (defScope (top 30)) s.heap.objs.size f cdv))) :
    DSs (cxOf (L2N.CX PySem.Challenge.rw_fieldrest_k04_kinds_that_fit.prog w) PySem.Challenge.rw_fieldrest_k04_kinds_that_fit.prog w K mg base N_filled "filled" (defScope (top 30)) f cdv A outer s H E) (fun cls d _ H => E cls d H) (defBody (top 30)) (b_filled C CE) := by
  have nd := sc_filled.nd
  have hu := Ru.of hr
  have tk : L2N.Takes (cxOf (L2N.CX PySem.Challenge.rw_fieldrest_k04_kinds_that_fit.prog w) PySem.Challenge.rw_fieldrest_k04_kinds_that_fit.prog w K mg base N_filled "filled" (defScope (top 30)) f cdv A outer s H E) (fun cls d _ H => E cls d H) := L2N.takes_of rfl rfl rfl rfl
  exact (ds_cons (ds_expr (de_call (hC .need_kind) hr tk (by rfl) (dal_cons (de_var (pv 0)) dal_nil)))
    (ds_cons (ds_set (i := 2) nd rfl (Or.inl rfl) de_newK)
    (ds_cons (ds_expr (de_call (hC .blanks_in) hr tk (by rfl) (dal_cons (de_var (pv 0)) (dal_cons (de_var (pv 2)) dal_nil))))
    (ds_cons (ds_lock (i := 2) (ds_for (passes_of rfl) rfl (di_keys (de_var (pv 2))) (dg_name (pg_name (i := 3) nd rfl (Or.inl rfl))) (ds_one (ds_if (dw_pt (dw_and (dt_cmp (opIn_ok hu) (de_var (pv 3)) (de_var (pv 1)) rfl) (dw_and1 (dt_not (dt_val (de_call (hC .is_fill) hr tk (by rfl) (dal_cons (de_ix (opIx_ok hu) (de_var (pv 2)) (de_var (pv 3))) (dal_cons (de_ix (opIx_ok hu) (de_var (pv 1)) (de_var (pv 3))) dal_nil)))))))) (ds_one (ds_raiseX rfl tk (XF.x "BadFill" rfl) (by rfl))) ds_nil))))
    (ds_cons (ds_set (i := 4) nd rfl (Or.inl rfl) (de_call (hC .fill) hr tk (by rfl) (dal_cons (de_var (pv 0)) (dal_cons (de_var (pv 1)) dal_nil))))
    (ds_cons (ds_if (dw_pt (dw_or (dt_cmp opGt_ok (de_call (hC .knots) hr tk (by rfl) (dal_cons (de_var (pv 4)) dal_nil)) (de_gint (by rfl) M.g_MOST_KNOTS) (nomark _)) (dw_or1 (dt_cmp opGt_ok (de_call (hC .depth) hr tk (by rfl) (dal_cons (de_var (pv 4)) dal_nil)) (de_gint (by rfl) M.g_MOST_KIND_DEEP) (nomark _))))) (ds_one (ds_raiseX rfl tk (XF.x "TooGreat" rfl) (by rfl))) ds_nil)
    (ds_cons (ds_if (dt_not (dt_val (de_call (hC .is_kind) hr tk (by rfl) (dal_cons (de_var (pv 4)) dal_nil)))) (ds_one (ds_raiseX rfl tk (XF.x "BadFill" rfl) (by rfl))) ds_nil)
    (ds_one (ds_ret (de_var (pv 4)))))))))))
theorem sc_match : FnScope N_match ["kind", "other", "fills"] (defScope (top 31)) := ⟨rfl, rfl, rfl, by decide +kernel, rfl, by decide +kernel, by decide +kernel⟩
theorem der_match (hC : ∀ g, Has PySem.Challenge.rw_fieldrest_k04_kinds_that_fit.prog w K mg base k (nm g) (ar g) (C g)) (M : Mgs mg) (hE : ∀ g y C, okX y = true → XT K mg y C → HasE PySem.Challenge.rw_fieldrest_k04_kinds_that_fit.prog w K mg base k (nmE g) (arE g) C (fun a => CE g a y)) (XF : Xs K mg) (f : Addr) (cdv : Value) (A : Around) (outer : List Env) (s : Shared) (H : Hp) (E : XK) (hr : Room k (A.deeper (envOfC "match" (defScope (top 31)) s.heap.objs.size f cdv))) :
    DSs (cxOf (L2N.CX PySem.Challenge.rw_fieldrest_k04_kinds_that_fit.prog w) PySem.Challenge.rw_fieldrest_k04_kinds_that_fit.prog w K mg base N_match "match" (defScope (top 31)) f cdv A outer s H E) (fun cls d _ H => E cls d H) (defBody (top 31)) (b_match C CE) := by
  have nd := sc_match.nd
  have hu := Ru.of hr
  have tk : L2N.Takes (cxOf (L2N.CX PySem.Challenge.rw_fieldrest_k04_kinds_that_fit.prog w) PySem.Challenge.rw_fieldrest_k04_kinds_that_fit.prog w K mg base N_match "match" (defScope (top 31)) f cdv A outer s H E) (fun cls d _ H => E cls d H) := L2N.takes_of rfl rfl rfl rfl
  exact (ds_cons (ds_if (dt_cmp (opEq_ok hu) (de_ix (opIx_ok hu) (de_var (pv 0)) de_int) (de_str (by decide +kernel)) (nomark _)) (ds_one (ds_ret (de_cmp (opEq_ok hu) (de_dsetd (de_var (pv 2)) (de_ix (opIx_ok hu) (de_var (pv 0)) de_int) (de_var (pv 1)) ⟨rfl, rfl, rfl, rfl⟩) (de_var (pv 1)) (nomark _)))) ds_nil)
    (ds_cons (ds_if (dt_cmp (opNe_ok hu) (de_ix (opIx_ok hu) (de_var (pv 0)) de_int) (de_ix (opIx_ok hu) (de_var (pv 1)) de_int) (nomark _)) (ds_one (ds_ret de_bl)) ds_nil)
    (ds_cons (ds_if (dt_cmp (opEq_ok hu) (de_ix (opIx_ok hu) (de_var (pv 0)) de_int) (de_str (by decide +kernel)) (nomark _)) (ds_one (ds_ret de_bl)) ds_nil)
    (ds_cons (ds_set (i := 3) nd rfl (Or.inl rfl) (de_callTy (cDict_ok rfl) (by rfl) M.m_dict (by decide +kernel) (da_cons (de_ix (opIx_ok hu) (de_var (pv 1)) de_int) da_nil)))
    (ds_cons (ds_for (passes_of rfl) rfl (di_items (de_ix (opIx_ok hu) (de_var (pv 0)) de_int)) (dg_name (pg_name (i := 4) nd rfl (Or.inl rfl))) (ds_one (ds_if (dw_pt (dw_or (dt_cmp (opNotIn_ok hu) (de_ix (opIx_ok hu) (de_var (pv 4)) de_int) (de_var (pv 3)) rfl) (dw_or1 (dt_not (dt_val (de_call (hC .match) hr tk (by rfl) (dal_cons (de_ix (opIx_ok hu) (de_var (pv 4)) de_int) (dal_cons (de_ix (opIx_ok hu) (de_var (pv 3)) (de_ix (opIx_ok hu) (de_var (pv 4)) de_int)) (dal_cons (de_var (pv 2)) dal_nil))))))))) (ds_one (ds_ret de_bl)) ds_nil)))
    (ds_cons (ds_set (i := 5) nd rfl (Or.inr rfl) (de_comp (own := [("pair", 4)]) rfl nd (di_items (de_ix (opIx_ok hu) (de_var (pv 0)) de_int)) (blkOk_by (N := N_match) (sc := (defScope (top 31))) (own := [("pair", 4)]) (by decide +kernel)) (fun _ _ _ _ _ => pg_name (i := 4) nd rfl (Or.inl rfl)) (tgr_name (by decide)) (fun _ _ _ _ _ => dts_nil) (fun _ _ _ _ _ => (de_ix (opIx_ok hu) (de_var (pv 4)) de_int))))
    (ds_cons (ds_set (i := 6) nd rfl (Or.inl rfl) (de_callTy cTuple_ok (by rfl) M.m_tuple (by decide +kernel) (da_cons (de_comp (own := [("pair", 4)]) rfl nd (di_items (de_ix (opIx_ok hu) (de_var (pv 1)) de_int)) (blkOk_by (N := N_match) (sc := (defScope (top 31))) (own := [("pair", 4)]) (by decide +kernel)) (fun _ _ _ _ _ => pg_name (i := 4) nd rfl (Or.inl rfl)) (tgr_name (by decide)) (fun _ _ _ _ _ => dts_one (dt_cmp (opNotIn_ok hu) (de_ix (opIx_ok hu) (de_var (pv 4)) de_int) (de_var (pv 5)) rfl)) (fun _ _ _ _ _ => (de_var (pv 4)))) da_nil)))
    (ds_cons (ds_if (dt_cmp opIsN_ok (de_ix (opIx_ok hu) (de_var (pv 0)) de_int) de_non (nomark _)) (ds_one (ds_ret (de_and (de_cmp (opEq_ok hu) (de_var (pv 6)) (de_tup da_nil) (nomark _)) (de_one (de_cmp opIsN_ok (de_ix (opIx_ok hu) (de_var (pv 1)) de_int) de_non (nomark _)))))) ds_nil)
    (ds_one (ds_ret (de_cmp (opEq_ok hu) (de_dsetd (de_var (pv 2)) (de_ix (opIx_ok hu) (de_var (pv 0)) de_int) (de_tup (da_cons (de_var (pv 6)) (da_cons (de_ix (opIx_ok hu) (de_var (pv 1)) de_int) da_nil))) ⟨rfl, rfl, rfl, rfl⟩) (de_tup (da_cons (de_var (pv 6)) (da_cons (de_ix (opIx_ok hu) (de_var (pv 1)) de_int) da_nil))) (nomark _))))))))))))
theorem sc_fits : FnScope N_fits ["kinds", "others"] (defScope (top 32)) := ⟨rfl, rfl, rfl, by decide +kernel, rfl, by decide +kernel, by decide +kernel⟩
theorem der_fits (hC : ∀ g, Has PySem.Challenge.rw_fieldrest_k04_kinds_that_fit.prog w K mg base k (nm g) (ar g) (C g)) (M : Mgs mg) (hE : ∀ g y C, okX y = true → XT K mg y C → HasE PySem.Challenge.rw_fieldrest_k04_kinds_that_fit.prog w K mg base k (nmE g) (arE g) C (fun a => CE g a y)) (XF : Xs K mg) (f : Addr) (cdv : Value) (A : Around) (outer : List Env) (s : Shared) (H : Hp) (E : XK) (hr : Room k (A.deeper (envOfC "fits" (defScope (top 32)) s.heap.objs.size f cdv))) :
    DSs (cxOf (L2N.CX PySem.Challenge.rw_fieldrest_k04_kinds_that_fit.prog w) PySem.Challenge.rw_fieldrest_k04_kinds_that_fit.prog w K mg base N_fits "fits" (defScope (top 32)) f cdv A outer s H E) (fun cls d _ H => E cls d H) (defBody (top 32)) (b_fits C CE) := by
  have nd := sc_fits.nd
  have hu := Ru.of hr
  have tk : L2N.Takes (cxOf (L2N.CX PySem.Challenge.rw_fieldrest_k04_kinds_that_fit.prog w) PySem.Challenge.rw_fieldrest_k04_kinds_that_fit.prog w K mg base N_fits "fits" (defScope (top 32)) f cdv A outer s H E) (fun cls d _ H => E cls d H) := L2N.takes_of rfl rfl rfl rfl
  exact (ds_cons (ds_if (dw_pt (dw_or (dt_not (dt_val (de_call (hC .are_kinds) hr tk (by rfl) (dal_cons (de_var (pv 0)) dal_nil)))) (dw_or1 (dt_not (dt_val (de_call (hC .are_kinds) hr tk (by rfl) (dal_cons (de_var (pv 1)) dal_nil))))))) (ds_one (ds_raiseX rfl tk (XF.x "BadKind" rfl) (by rfl))) ds_nil)
    (ds_cons (ds_set (i := 2) nd rfl (Or.inl rfl) de_newK)
    (ds_cons (ds_if (dt_cmp (opNe_ok hu) (de_callB cLen_ok (by rfl) M.m_len (by decide +kernel) (da_cons (de_var (pv 0)) da_nil)) (de_callB cLen_ok (by rfl) M.m_len (by decide +kernel) (da_cons (de_var (pv 1)) da_nil)) (nomark _)) (ds_one (ds_ret de_non)) ds_nil)
    (ds_cons (ds_for (passes_of rfl) rfl (di_rangeLen (by rfl) M.m_range (by rfl) M.m_len (de_var (pv 0))) (dg_name (pg_name (i := 3) nd rfl (Or.inl rfl))) (ds_one (ds_if (dt_not (dt_val (de_call (hC .match) hr tk (by rfl) (dal_cons (de_ix (opIx_ok hu) (de_var (pv 0)) (de_var (pv 3))) (dal_cons (de_ix (opIx_ok hu) (de_var (pv 1)) (de_var (pv 3))) (dal_cons (de_var (pv 2)) dal_nil)))))) (ds_one (ds_ret de_non)) ds_nil)))
    (ds_one (ds_ret (de_var (pv 2))))))))
theorem sc__law_cell : FnScope N__law_cell ["_law_script", "_law_k"] (defScope (top 34)) := ⟨rfl, rfl, rfl, by decide +kernel, rfl, by decide +kernel, by decide +kernel⟩
theorem der__law_cell (hC : ∀ g, Has PySem.Challenge.rw_fieldrest_k04_kinds_that_fit.prog w K mg base k (nm g) (ar g) (C g)) (M : Mgs mg) (hE : ∀ g y C, okX y = true → XT K mg y C → HasE PySem.Challenge.rw_fieldrest_k04_kinds_that_fit.prog w K mg base k (nmE g) (arE g) C (fun a => CE g a y)) (XF : Xs K mg) (f : Addr) (cdv : Value) (A : Around) (outer : List Env) (s : Shared) (H : Hp) (E : XK) (hr : Room k (A.deeper (envOfC "_law_cell" (defScope (top 34)) s.heap.objs.size f cdv))) :
    DSs (cxOf (L2N.CX PySem.Challenge.rw_fieldrest_k04_kinds_that_fit.prog w) PySem.Challenge.rw_fieldrest_k04_kinds_that_fit.prog w K mg base N__law_cell "_law_cell" (defScope (top 34)) f cdv A outer s H E) (fun cls d _ H => E cls d H) (defBody (top 34)) (b__law_cell C CE) := by
  have nd := sc__law_cell.nd
  have hu := Ru.of hr
  have tk : L2N.Takes (cxOf (L2N.CX PySem.Challenge.rw_fieldrest_k04_kinds_that_fit.prog w) PySem.Challenge.rw_fieldrest_k04_kinds_that_fit.prog w K mg base N__law_cell "_law_cell" (defScope (top 34)) f cdv A outer s H E) (fun cls d _ H => E cls d H) := L2N.takes_of rfl rfl rfl rfl
  exact (ds_cons (ds_if (dt_cmp opLt_ok (de_var (pv 1)) (de_callB cLen_ok (by rfl) M.m_len (by decide +kernel) (da_cons (de_var (pv 0)) da_nil)) (nomark _)) (ds_one (ds_ret (de_bin opMod_ok (de_bin opMul_ok (de_ix (opIx_ok hu) (de_var (pv 0)) (de_var (pv 1))) de_int) de_int))) ds_nil)
    (ds_one (ds_ret de_int)))
theorem sc__law_next : FnScope N__law_next ["_law_state"] (defScope (top 35)) := ⟨rfl, rfl, rfl, by decide +kernel, rfl, by decide +kernel, by decide +kernel⟩
theorem der__law_next (hC : ∀ g, Has PySem.Challenge.rw_fieldrest_k04_kinds_that_fit.prog w K mg base k (nm g) (ar g) (C g)) (M : Mgs mg) (hE : ∀ g y C, okX y = true → XT K mg y C → HasE PySem.Challenge.rw_fieldrest_k04_kinds_that_fit.prog w K mg base k (nmE g) (arE g) C (fun a => CE g a y)) (XF : Xs K mg) (f : Addr) (cdv : Value) (A : Around) (outer : List Env) (s : Shared) (H : Hp) (E : XK) (hr : Room k (A.deeper (envOfC "_law_next" (defScope (top 35)) s.heap.objs.size f cdv))) :
    DSs (cxOf (L2N.CX PySem.Challenge.rw_fieldrest_k04_kinds_that_fit.prog w) PySem.Challenge.rw_fieldrest_k04_kinds_that_fit.prog w K mg base N__law_next "_law_next" (defScope (top 35)) f cdv A outer s H E) (fun cls d _ H => E cls d H) (defBody (top 35)) (b__law_next C CE) := by
  have nd := sc__law_next.nd
  have hu := Ru.of hr
  have tk : L2N.Takes (cxOf (L2N.CX PySem.Challenge.rw_fieldrest_k04_kinds_that_fit.prog w) PySem.Challenge.rw_fieldrest_k04_kinds_that_fit.prog w K mg base N__law_next "_law_next" (defScope (top 35)) f cdv A outer s H E) (fun cls d _ H => E cls d H) := L2N.takes_of rfl rfl rfl rfl
  exact (ds_cons (ds_asg (de_bin opMod_ok (de_bin opAdd_ok (de_bin opMul_ok (de_ix (opIx_ok hu) (de_var (pv 0)) de_int) de_int) de_int) de_int) (dg_sub (de_var (pv 0)) de_int (opSet_ok hu)))
    (ds_cons (ds_asg (de_bin opSub_ok (de_ix (opIx_ok hu) (de_var (pv 0)) de_int) de_int) (dg_sub (de_var (pv 0)) de_int (opSet_ok hu)))
    (ds_one (ds_ret (de_bin opDiv_ok (de_ix (opIx_ok hu) (de_var (pv 0)) de_int) de_int)))))
theorem sc__law_labels : FnScope N__law_labels ["_law_cell_here", "_law_many"] (defScope (top 36)) := ⟨rfl, rfl, rfl, by decide +kernel, rfl, by decide +kernel, by decide +kernel⟩
theorem der__law_labels (hC : ∀ g, Has PySem.Challenge.rw_fieldrest_k04_kinds_that_fit.prog w K mg base k (nm g) (ar g) (C g)) (M : Mgs mg) (hE : ∀ g y C, okX y = true → XT K mg y C → HasE PySem.Challenge.rw_fieldrest_k04_kinds_that_fit.prog w K mg base k (nmE g) (arE g) C (fun a => CE g a y)) (XF : Xs K mg) (f : Addr) (cdv : Value) (A : Around) (outer : List Env) (s : Shared) (H : Hp) (E : XK) (hr : Room k (A.deeper (envOfC "_law_labels" (defScope (top 36)) s.heap.objs.size f cdv))) :
    DSs (cxOf (L2N.CX PySem.Challenge.rw_fieldrest_k04_kinds_that_fit.prog w) PySem.Challenge.rw_fieldrest_k04_kinds_that_fit.prog w K mg base N__law_labels "_law_labels" (defScope (top 36)) f cdv A outer s H E) (fun cls d _ H => E cls d H) (defBody (top 36)) (b__law_labels C CE) := by
  have nd := sc__law_labels.nd
  have hu := Ru.of hr
  have tk : L2N.Takes (cxOf (L2N.CX PySem.Challenge.rw_fieldrest_k04_kinds_that_fit.prog w) PySem.Challenge.rw_fieldrest_k04_kinds_that_fit.prog w K mg base N__law_labels "_law_labels" (defScope (top 36)) f cdv A outer s H E) (fun cls d _ H => E cls d H) := L2N.takes_of rfl rfl rfl rfl
  exact (ds_cons (ds_set (i := 2) nd rfl (Or.inr rfl) (de_str (by decide +kernel)))
    (ds_cons (ds_set (i := 3) nd rfl (Or.inl rfl) (de_bin opMod_ok (de_var (pv 0)) de_int))
    (ds_cons (ds_set (i := 4) nd rfl (Or.inl rfl) (de_bin opMod_ok (de_bin opDiv_ok (de_var (pv 0)) de_int) (de_bin opAdd_ok (de_var (pv 3)) de_int)))
    (ds_cons (ds_set (i := 5) nd rfl (Or.inr rfl) (de_bin opMod_ok (de_bin opDiv_ok (de_var (pv 0)) de_int) de_int))
    (ds_cons (ds_set (i := 6) nd rfl (Or.inl rfl) (de_join (de_str (by decide +kernel)) (de_comp (own := [("_law_k", 7)]) rfl nd (di_range1 (by rfl) M.m_range (de_var (pv 3))) (blkOk_by (N := N__law_labels) (sc := (defScope (top 36))) (own := [("_law_k", 7)]) (by decide +kernel)) (fun _ _ _ _ _ => pg_name (i := 7) nd rfl (Or.inl rfl)) (tgr_name (by decide)) (fun _ _ _ _ _ => dts_nil) (fun _ _ _ _ _ => (de_ix (opIx_ok hu) (de_var (pv 2)) (de_bin opMod_ok (de_bin opAdd_ok (de_var (pv 5)) (de_bin opMul_ok (de_bin opDiv_ok (de_var (pv 0)) de_int) (de_var (pv 7)))) de_int))))))
    (ds_cons (ds_set (i := 8) nd rfl (Or.inl rfl) (de_lstR da_nil))
    (ds_cons (ds_for (passes_of rfl) rfl (di_range1 (by rfl) M.m_range (de_var (pv 1))) (dg_name (pg_name (i := 7) nd rfl (Or.inl rfl))) (ds_cons (ds_set (i := 9) nd rfl (Or.inl rfl) (de_ix (opIx_ok hu) (de_var (pv 2)) (de_bin opMod_ok (de_bin opAdd_ok (de_bin opDiv_ok (de_var (pv 0)) de_int) (de_bin opMul_ok de_int (de_var (pv 7)))) de_int)))
    (ds_one (ds_expr (de_mlist PySem.F.slot_list_append PySem.F.type_list_append cAppend_ok (de_var (pv 8)) (da_cons (de_bin opAdd_ok (de_bin opAdd_ok (de_slice (de_var (pv 6)) do_none (do_some (de_var (pv 4)))) (de_var (pv 9))) (de_slice (de_var (pv 6)) (do_some (de_var (pv 4))) do_none)) da_nil))))))
    (ds_one (ds_ret (de_var (pv 8)))))))))))
theorem sc__law_kind : FnScope N__law_kind ["_law_state", "_law_labels_here", "_law_met", "_law_left"] (defScope (top 37)) := ⟨rfl, rfl, rfl, by decide +kernel, rfl, by decide +kernel, by decide +kernel⟩
theorem der__law_kind (hC : ∀ g, Has PySem.Challenge.rw_fieldrest_k04_kinds_that_fit.prog w K mg base k (nm g) (ar g) (C g)) (M : Mgs mg) (hE : ∀ g y C, okX y = true → XT K mg y C → HasE PySem.Challenge.rw_fieldrest_k04_kinds_that_fit.prog w K mg base k (nmE g) (arE g) C (fun a => CE g a y)) (XF : Xs K mg) (f : Addr) (cdv : Value) (A : Around) (outer : List Env) (s : Shared) (H : Hp) (E : XK) (hr : Room k (A.deeper (envOfC "_law_kind" (defScope (top 37)) s.heap.objs.size f cdv))) :
    DSs (cxOf (L2N.CX PySem.Challenge.rw_fieldrest_k04_kinds_that_fit.prog w) PySem.Challenge.rw_fieldrest_k04_kinds_that_fit.prog w K mg base N__law_kind "_law_kind" (defScope (top 37)) f cdv A outer s H E) (fun cls d _ H => E cls d H) (defBody (top 37)) (b__law_kind C CE) := by
  have nd := sc__law_kind.nd
  have hu := Ru.of hr
  have tk : L2N.Takes (cxOf (L2N.CX PySem.Challenge.rw_fieldrest_k04_kinds_that_fit.prog w) PySem.Challenge.rw_fieldrest_k04_kinds_that_fit.prog w K mg base N__law_kind "_law_kind" (defScope (top 37)) f cdv A outer s H E) (fun cls d _ H => E cls d H) := L2N.takes_of rfl rfl rfl rfl
  exact (ds_cons (ds_set (i := 4) nd rfl (Or.inl rfl) (de_call (hC ._law_next) hr tk (by rfl) (dal_cons (de_var (pv 0)) dal_nil)))
    (ds_cons (ds_if (dw_pt (dw_or (dt_cmp opLe_ok (de_var (pv 3)) de_int (nomark _)) (dw_or (dt_cmp opLe_ok (de_ix (opIx_ok hu) (de_var (pv 0)) de_int) de_int (nomark _)) (dw_or1 (dt_cmp opLt_ok (de_bin opMod_ok (de_var (pv 4)) de_int) de_int (nomark _)))))) (ds_one (ds_ret (de_tup (da_cons (de_str (by decide +kernel)) da_nil)))) ds_nil)
    (ds_cons (ds_if (dt_cmp (opEq_ok hu) (de_bin opMod_ok (de_var (pv 4)) de_int) de_int (nomark _)) (ds_one (ds_ret (de_tup (da_cons (de_str (by decide +kernel)) (da_cons (de_bin opMul_ok (de_bin opMul_ok (de_ix (opIx_ok hu) (de_var (pv 2)) de_int) de_int) (de_bin opMod_ok (de_bin opDiv_ok (de_var (pv 4)) de_int) de_int)) da_nil))))) ds_nil)
    (ds_cons (ds_set (i := 5) nd rfl (Or.inr rfl) (de_slice (de_lst (da_cons (de_ix (opIx_ok hu) (de_var (pv 1)) (de_bin opMod_ok (de_bin opDiv_ok (de_var (pv 4)) de_int) de_int)) (da_cons (de_ix (opIx_ok hu) (de_var (pv 1)) (de_bin opMod_ok (de_bin opDiv_ok (de_var (pv 4)) de_int) de_int)) (da_cons (de_ix (opIx_ok hu) (de_var (pv 1)) (de_bin opMod_ok (de_bin opDiv_ok (de_var (pv 4)) de_int) de_int)) da_nil)))) do_none (do_some (de_bin opMod_ok (de_bin opDiv_ok (de_var (pv 4)) de_int) de_int))))
    (ds_cons (ds_setComp (own := [("_law_label", 7)]) (i := 6) rfl nd rfl rfl (sw_true rfl rfl rfl (by decide +kernel)) (di_items (de_callB cSorted_ok (by rfl) M.m_sorted (by decide +kernel) (da_cons (de_var (pv 1)) da_nil))) (blkOk_by (N := N__law_kind) (sc := (defScope (top 37))) (own := [("_law_label", 7)]) (by decide +kernel)) (fun _ _ _ _ _ => pg_name (i := 7) nd rfl (Or.inl rfl)) (tgr_name (by decide)) (fun _ _ _ _ _ => dts_one (dt_cmp (opIn_ok hu) (de_var (pv 7)) (de_var (pv 5)) rfl)) (fun _ _ _ _ _ => (de_var (pv 7))))
    (ds_cons (ds_set (i := 8) nd rfl (Or.inl rfl) (de_callTy cTuple_ok (by rfl) M.m_tuple (by decide +kernel) (da_cons (de_comp (own := [("_law_label", 7)]) rfl nd (di_items (de_var (pv 6))) (blkOk_by (N := N__law_kind) (sc := (defScope (top 37))) (own := [("_law_label", 7)]) (by decide +kernel)) (fun _ _ _ _ _ => pg_name (i := 7) nd rfl (Or.inl rfl)) (tgr_name (by decide)) (fun _ _ _ _ _ => dts_nil) (fun _ _ _ _ _ => (de_tup (da_cons (de_var (pv 7)) (da_cons (de_call (hC ._law_kind) hr takesN0 (by rfl) (dal_cons (de_var (pv 0)) (dal_cons (de_var (pv 1)) (dal_cons (de_var (pv 2)) (dal_cons (de_bin opSub_ok (de_var (pv 3)) de_int) dal_nil))))) da_nil))))) da_nil)))
    (ds_cons (ds_if (dt_cmp (opEq_ok hu) (de_bin opMod_ok (de_bin opDiv_ok (de_var (pv 4)) de_int) de_int) de_int (nomark _)) (ds_one (ds_ret (de_tup (da_cons (de_str (by decide +kernel)) (da_cons (de_var (pv 8)) (da_cons de_non da_nil)))))) ds_nil)
    (ds_cons (ds_if (dt_cmp (opNotIn_ok hu) (de_var (pv 6)) (de_ix (opIx_ok hu) (de_var (pv 2)) de_int) rfl) (ds_one (ds_expr (de_mlist PySem.F.slot_list_append PySem.F.type_list_append cAppend_ok (de_ix (opIx_ok hu) (de_var (pv 2)) de_int) (da_cons (de_var (pv 6)) da_nil)))) ds_nil)
    (ds_one (ds_ret (de_tup (da_cons (de_str (by decide +kernel)) (da_cons (de_var (pv 8)) (da_cons (de_bin opMul_ok (de_ix (opIx_ok hu) (de_var (pv 2)) de_int) (de_bin opAdd_ok de_int (de_bin opMul_ok de_int (de_mlist PySem.F.slot_list_index PySem.F.type_list_index (cIndex_ok hu) (de_ix (opIx_ok hu) (de_var (pv 2)) de_int) (da_cons (de_var (pv 6)) da_nil))))) da_nil))))))))))))))
theorem sc__law_blanks : FnScope N__law_blanks ["_law_kind_here", "_law_found"] (defScope (top 38)) := ⟨rfl, rfl, rfl, by decide +kernel, rfl, by decide +kernel, by decide +kernel⟩
theorem der__law_blanks (hC : ∀ g, Has PySem.Challenge.rw_fieldrest_k04_kinds_that_fit.prog w K mg base k (nm g) (ar g) (C g)) (M : Mgs mg) (hE : ∀ g y C, okX y = true → XT K mg y C → HasE PySem.Challenge.rw_fieldrest_k04_kinds_that_fit.prog w K mg base k (nmE g) (arE g) C (fun a => CE g a y)) (XF : Xs K mg) (f : Addr) (cdv : Value) (A : Around) (outer : List Env) (s : Shared) (H : Hp) (E : XK) (hr : Room k (A.deeper (envOfC "_law_blanks" (defScope (top 38)) s.heap.objs.size f cdv))) :
    DSs (cxOf (L2N.CX PySem.Challenge.rw_fieldrest_k04_kinds_that_fit.prog w) PySem.Challenge.rw_fieldrest_k04_kinds_that_fit.prog w K mg base N__law_blanks "_law_blanks" (defScope (top 38)) f cdv A outer s H E) (fun cls d _ H => E cls d H) (defBody (top 38)) (b__law_blanks C CE) := by
  have nd := sc__law_blanks.nd
  have hu := Ru.of hr
  have tk : L2N.Takes (cxOf (L2N.CX PySem.Challenge.rw_fieldrest_k04_kinds_that_fit.prog w) PySem.Challenge.rw_fieldrest_k04_kinds_that_fit.prog w K mg base N__law_blanks "_law_blanks" (defScope (top 38)) f cdv A outer s H E) (fun cls d _ H => E cls d H) := L2N.takes_of rfl rfl rfl rfl
  exact (ds_cons (ds_if (dt_cmp (opEq_ok hu) (de_ix (opIx_ok hu) (de_var (pv 0)) de_int) (de_str (by decide +kernel)) (nomark _)) (ds_one (ds_asg de_non (dg_sub (de_var (pv 1)) (de_ix (opIx_ok hu) (de_var (pv 0)) de_int) (opSet_ok hu)))) ds_nil)
    (ds_cons (ds_if (dt_cmp (opEq_ok hu) (de_ix (opIx_ok hu) (de_var (pv 0)) de_int) (de_str (by decide +kernel)) (nomark _)) (ds_cons (ds_for (passes_of rfl) rfl (di_items (de_ix (opIx_ok hu) (de_var (pv 0)) de_int)) (dg_name (pg_name (i := 2) nd rfl (Or.inl rfl))) (ds_one (ds_expr (de_call (hC ._law_blanks) hr tk (by rfl) (dal_cons (de_ix (opIx_ok hu) (de_var (pv 2)) de_int) (dal_cons (de_var (pv 1)) dal_nil))))))
    (ds_one (ds_if (dt_cmp opNotN_ok (de_ix (opIx_ok hu) (de_var (pv 0)) de_int) de_non (nomark _)) (ds_one (ds_asg (de_comp (own := [("_law_pair", 2)]) rfl nd (di_items (de_ix (opIx_ok hu) (de_var (pv 0)) de_int)) (blkOk_by (N := N__law_blanks) (sc := (defScope (top 38))) (own := [("_law_pair", 2)]) (by decide +kernel)) (fun _ _ _ _ _ => pg_name (i := 2) nd rfl (Or.inl rfl)) (tgr_name (by decide)) (fun _ _ _ _ _ => dts_nil) (fun _ _ _ _ _ => (de_ix (opIx_ok hu) (de_var (pv 2)) de_int))) (dg_sub (de_var (pv 1)) (de_ix (opIx_ok hu) (de_var (pv 0)) de_int) (opSet_ok hu)))) ds_nil))) ds_nil)
    (ds_one (ds_ret (de_var (pv 1))))))
theorem sc__law_filled : FnScope N__law_filled ["_law_kind_here", "_law_fills"] (defScope (top 39)) := ⟨rfl, rfl, rfl, by decide +kernel, rfl, by decide +kernel, by decide +kernel⟩
theorem der__law_filled (hC : ∀ g, Has PySem.Challenge.rw_fieldrest_k04_kinds_that_fit.prog w K mg base k (nm g) (ar g) (C g)) (M : Mgs mg) (hE : ∀ g y C, okX y = true → XT K mg y C → HasE PySem.Challenge.rw_fieldrest_k04_kinds_that_fit.prog w K mg base k (nmE g) (arE g) C (fun a => CE g a y)) (XF : Xs K mg) (f : Addr) (cdv : Value) (A : Around) (outer : List Env) (s : Shared) (H : Hp) (E : XK) (hr : Room k (A.deeper (envOfC "_law_filled" (defScope (top 39)) s.heap.objs.size f cdv))) :
    DSs (cxOf (L2N.CX PySem.Challenge.rw_fieldrest_k04_kinds_that_fit.prog w) PySem.Challenge.rw_fieldrest_k04_kinds_that_fit.prog w K mg base N__law_filled "_law_filled" (defScope (top 39)) f cdv A outer s H E) (fun cls d _ H => E cls d H) (defBody (top 39)) (b__law_filled C CE) := by
  have nd := sc__law_filled.nd
  have hu := Ru.of hr
  have tk : L2N.Takes (cxOf (L2N.CX PySem.Challenge.rw_fieldrest_k04_kinds_that_fit.prog w) PySem.Challenge.rw_fieldrest_k04_kinds_that_fit.prog w K mg base N__law_filled "_law_filled" (defScope (top 39)) f cdv A outer s H E) (fun cls d _ H => E cls d H) := L2N.takes_of rfl rfl rfl rfl
  let XX := cxOf (L2N.CX PySem.Challenge.rw_fieldrest_k04_kinds_that_fit.prog w) PySem.Challenge.rw_fieldrest_k04_kinds_that_fit.prog w K mg base N__law_filled "_law_filled" (defScope (top 39)) f cdv A outer s H E
  exact (ds_cons (ds_if (dt_cmp (opEq_ok hu) (de_ix (opIx_ok hu) (de_var (pv 0)) de_int) (de_str (by decide +kernel)) (nomark _)) (ds_one (ds_ret (de_dget2 hu (de_var (pv 1)) (de_ix (opIx_ok hu) (de_var (pv 0)) de_int) (de_var (pv 0)) ⟨rfl, rfl, rfl, rfl⟩))) ds_nil)
    (ds_cons (ds_if (dt_cmp (opEq_ok hu) (de_ix (opIx_ok hu) (de_var (pv 0)) de_int) (de_str (by decide +kernel)) (nomark _)) (ds_one (ds_ret (de_var (pv 0)))) ds_nil)
    (ds_cons (ds_setComp (own := [("_law_label", 4), ("_law_inner", 3)]) (i := 2) rfl nd rfl rfl (sw_true rfl rfl rfl (by decide +kernel)) (di_items (de_ix (opIx_ok hu) (de_var (pv 0)) de_int)) (blkOk_by (N := N__law_filled) (sc := (defScope (top 39))) (own := [("_law_label", 4), ("_law_inner", 3)]) (by decide +kernel)) (fun _ _ _ _ _ => pg_tup (n := 2) rfl (pgs_cons (pg_name (i := 4) nd rfl (Or.inl rfl)) (pgs_cons (pg_name (i := 3) nd rfl (Or.inl rfl)) pgs_nil)) rfl rfl) (tgr_tup (X := XX) (is := [4, 3]) (.cons (e := .Name "x" ⟨0, 0, 0, 0⟩) (.cons (e := .Name "x" ⟨0, 0, 0, 0⟩) .nil)) (by decide)) (fun _ _ _ _ _ => dts_nil) (fun _ _ _ _ _ => (de_tup (da_cons (de_var (pv 4)) (da_cons (de_call (hC ._law_filled) hr takesN0 (by rfl) (dal_cons (de_var (pv 3)) (dal_cons (de_var (pv 1)) dal_nil))) da_nil)))))
    (ds_cons (ds_set (i := 5) nd rfl (Or.inl rfl) (de_ix (opIx_ok hu) (de_var (pv 0)) de_int))
    (ds_cons (ds_if (dw_pt (dw_and (dt_cmp opNotN_ok (de_var (pv 5)) de_non (nomark _)) (dw_and1 (dt_cmp (opIn_ok hu) (de_var (pv 5)) (de_var (pv 1)) rfl)))) (ds_cons (ds_set (i := 2) nd rfl (Or.inl rfl) (de_bin opAdd_ok (de_var (pv 2)) (de_callTy cList_ok (by rfl) M.m_list (by decide +kernel) (da_cons (de_ix (opIx_ok hu) (de_ix (opIx_ok hu) (de_var (pv 1)) (de_var (pv 5))) de_int) da_nil))))
    (ds_one (ds_set (i := 5) nd rfl (Or.inl rfl) (de_ix (opIx_ok hu) (de_ix (opIx_ok hu) (de_var (pv 1)) (de_var (pv 5))) de_int)))) ds_nil)
    (ds_cons (ds_set (i := 6) nd rfl (Or.inr rfl) (de_callTy (cDictR_ok rfl) (by rfl) M.m_dict (by decide +kernel) (da_cons (de_var (pv 2)) da_nil)))
    (ds_one (ds_ret (de_tup (da_cons (de_str (by decide +kernel)) (da_cons (de_callTy cTuple_ok (by rfl) M.m_tuple (by decide +kernel) (da_cons (de_comp (own := [("_law_label", 4)]) rfl nd (di_items (de_callB cSorted_ok (by rfl) M.m_sorted (by decide +kernel) (da_cons (de_callTy (cListK_ok rfl) (by rfl) M.m_list (by decide +kernel) (da_cons (de_var (pv 6)) da_nil)) da_nil))) (blkOk_by (N := N__law_filled) (sc := (defScope (top 39))) (own := [("_law_label", 4)]) (by decide +kernel)) (fun _ _ _ _ _ => pg_name (i := 4) nd rfl (Or.inl rfl)) (tgr_name (by decide)) (fun _ _ _ _ _ => dts_nil) (fun _ _ _ _ _ => (de_tup (da_cons (de_var (pv 4)) (da_cons (de_ix (opIx_ok hu) (de_var (pv 6)) (de_var (pv 4))) da_nil))))) da_nil)) (da_cons (de_var (pv 5)) da_nil))))))))))))
theorem sc__law_end : FnScope N__law_end ["_law_state", "_law_seen", "_law_words"] (defScope (top 41)) := ⟨rfl, rfl, rfl, by decide +kernel, rfl, by decide +kernel, by decide +kernel⟩
theorem der__law_end (hC : ∀ g, Has PySem.Challenge.rw_fieldrest_k04_kinds_that_fit.prog w K mg base k (nm g) (ar g) (C g)) (M : Mgs mg) (hE : ∀ g y C, okX y = true → XT K mg y C → HasE PySem.Challenge.rw_fieldrest_k04_kinds_that_fit.prog w K mg base k (nmE g) (arE g) C (fun a => CE g a y)) (XF : Xs K mg) (f : Addr) (cdv : Value) (A : Around) (outer : List Env) (s : Shared) (H : Hp) (E : XK) (hr : Room k (A.deeper (envOfC "_law_end" (defScope (top 41)) s.heap.objs.size f cdv))) :
    DSs (cxOf (L2N.CX PySem.Challenge.rw_fieldrest_k04_kinds_that_fit.prog w) PySem.Challenge.rw_fieldrest_k04_kinds_that_fit.prog w K mg base N__law_end "_law_end" (defScope (top 41)) f cdv A outer s H E) (fun cls d _ H => E cls d H) (defBody (top 41)) (b__law_end C CE) := by
  have nd := sc__law_end.nd
  have hu := Ru.of hr
  have tk : L2N.Takes (cxOf (L2N.CX PySem.Challenge.rw_fieldrest_k04_kinds_that_fit.prog w) PySem.Challenge.rw_fieldrest_k04_kinds_that_fit.prog w K mg base N__law_end "_law_end" (defScope (top 41)) f cdv A outer s H E) (fun cls d _ H => E cls d H) := L2N.takes_of rfl rfl rfl rfl
  exact (ds_cons (ds_if (dt_cmp (opEq_ok hu) (de_bin opMod_ok (de_call (hC ._law_next) hr tk (by rfl) (dal_cons (de_var (pv 0)) dal_nil)) de_int) de_int (nomark _)) (ds_one (ds_ret de_non)) ds_nil)
    (ds_cons (ds_if (dt_cmp (opNotIn_ok hu) (de_callB cSorted_ok (by rfl) M.m_sorted (by decide +kernel) (da_cons (de_var (pv 2)) da_nil)) (de_var (pv 1)) rfl) (ds_one (ds_expr (de_mlist PySem.F.slot_list_append PySem.F.type_list_append cAppend_ok (de_var (pv 1)) (da_cons (de_callB cSorted_ok (by rfl) M.m_sorted (by decide +kernel) (da_cons (de_var (pv 2)) da_nil)) da_nil)))) ds_nil)
    (ds_one (ds_ret (de_bin opAdd_ok de_int (de_bin opMul_ok de_int (de_mlist PySem.F.slot_list_index PySem.F.type_list_index (cIndex_ok hu) (de_var (pv 1)) (da_cons (de_callB cSorted_ok (by rfl) M.m_sorted (by decide +kernel) (da_cons (de_var (pv 2)) da_nil)) da_nil))))))))
theorem sc__law_flat : FnScope N__law_flat ["_law_state", "_law_labels_here", "_law_ahead", "_law_seen"] (defScope (top 42)) := ⟨rfl, rfl, rfl, by decide +kernel, rfl, by decide +kernel, by decide +kernel⟩
theorem der__law_flat (hC : ∀ g, Has PySem.Challenge.rw_fieldrest_k04_kinds_that_fit.prog w K mg base k (nm g) (ar g) (C g)) (M : Mgs mg) (hE : ∀ g y C, okX y = true → XT K mg y C → HasE PySem.Challenge.rw_fieldrest_k04_kinds_that_fit.prog w K mg base k (nmE g) (arE g) C (fun a => CE g a y)) (XF : Xs K mg) (f : Addr) (cdv : Value) (A : Around) (outer : List Env) (s : Shared) (H : Hp) (E : XK) (hr : Room k (A.deeper (envOfC "_law_flat" (defScope (top 42)) s.heap.objs.size f cdv))) :
    DSs (cxOf (L2N.CX PySem.Challenge.rw_fieldrest_k04_kinds_that_fit.prog w) PySem.Challenge.rw_fieldrest_k04_kinds_that_fit.prog w K mg base N__law_flat "_law_flat" (defScope (top 42)) f cdv A outer s H E) (fun cls d _ H => E cls d H) (defBody (top 42)) (b__law_flat C CE) := by
  have nd := sc__law_flat.nd
  have hu := Ru.of hr
  have tk : L2N.Takes (cxOf (L2N.CX PySem.Challenge.rw_fieldrest_k04_kinds_that_fit.prog w) PySem.Challenge.rw_fieldrest_k04_kinds_that_fit.prog w K mg base N__law_flat "_law_flat" (defScope (top 42)) f cdv A outer s H E) (fun cls d _ H => E cls d H) := L2N.takes_of rfl rfl rfl rfl
  let XX := cxOf (L2N.CX PySem.Challenge.rw_fieldrest_k04_kinds_that_fit.prog w) PySem.Challenge.rw_fieldrest_k04_kinds_that_fit.prog w K mg base N__law_flat "_law_flat" (defScope (top 42)) f cdv A outer s H E
  exact (ds_cons (ds_setComp (own := [("_law_label", 5)]) (i := 4) rfl nd rfl rfl (sw_true rfl rfl rfl (by decide +kernel)) (di_items (de_callB cSorted_ok (by rfl) M.m_sorted (by decide +kernel) (da_cons (de_bin opAdd_ok (de_var (pv 1)) (de_lst (da_cons (de_str (by decide +kernel)) da_nil))) da_nil))) (blkOk_by (N := N__law_flat) (sc := (defScope (top 42))) (own := [("_law_label", 5)]) (by decide +kernel)) (fun _ _ _ _ _ => pg_name (i := 5) nd rfl (Or.inl rfl)) (tgr_name (by decide)) (fun _ _ _ _ _ => dts_one (dw_pt (dw_or (dt_cmp opIsN_ok (de_var (pv 2)) de_non (nomark _)) (dw_or1 (dt_cmp (opNotIn_ok hu) (de_var (pv 5)) (de_var (pv 2)) rfl))))) (fun _ _ _ _ _ => (de_var (pv 5))))
    (ds_cons (ds_set (i := 6) nd rfl (Or.inl rfl) (de_callTy cTuple_ok (by rfl) M.m_tuple (by decide +kernel) (da_cons (de_comp (own := [("_law_label", 5)]) rfl nd (di_items (de_var (pv 4))) (blkOk_by (N := N__law_flat) (sc := (defScope (top 42))) (own := [("_law_label", 5)]) (by decide +kernel)) (fun _ _ _ _ _ => pg_name (i := 5) nd rfl (Or.inl rfl)) (tgr_name (by decide)) (fun _ _ _ _ _ => dts_one (dt_cmp (opEq_ok hu) (de_bin opMod_ok (de_call (hC ._law_next) hr takesN0 (by rfl) (dal_cons (de_var (pv 0)) dal_nil)) de_int) de_int (nomark _))) (fun _ _ _ _ _ => (de_tup (da_cons (de_var (pv 5)) (da_cons (de_tup (da_cons (de_str (by decide +kernel)) da_nil)) da_nil))))) da_nil)))
    (ds_cons (ds_setComp (own := [("_law_label", 5), ("_law_inner", 8)]) (i := 7) rfl nd rfl rfl (sw_true rfl rfl rfl (by decide +kernel)) (di_items (de_var (pv 6))) (blkOk_by (N := N__law_flat) (sc := (defScope (top 42))) (own := [("_law_label", 5), ("_law_inner", 8)]) (by decide +kernel)) (fun _ _ _ _ _ => pg_tup (n := 2) rfl (pgs_cons (pg_name (i := 5) nd rfl (Or.inl rfl)) (pgs_cons (pg_name (i := 8) nd rfl (Or.inl rfl)) pgs_nil)) rfl rfl) (tgr_tup (X := XX) (is := [5, 8]) (.cons (e := .Name "x" ⟨0, 0, 0, 0⟩) (.cons (e := .Name "x" ⟨0, 0, 0, 0⟩) .nil)) (by decide)) (fun _ _ _ _ _ => dts_nil) (fun _ _ _ _ _ => (de_var (pv 5))))
    (ds_cons (ds_if (dt_cmp opNotN_ok (de_var (pv 2)) de_non (nomark _)) (ds_one (ds_ret (de_tup (da_cons (de_var (pv 6)) (da_cons (de_call (hC ._law_end) hr tk (by rfl) (dal_cons (de_var (pv 0)) (dal_cons (de_var (pv 3)) (dal_cons (de_bin opAdd_ok (de_var (pv 2)) (de_var (pv 7))) dal_nil)))) da_nil))))) ds_nil)
    (ds_cons (ds_set (i := 9) nd rfl (Or.inl rfl) (de_call (hC ._law_next) hr tk (by rfl) (dal_cons (de_var (pv 0)) dal_nil)))
    (ds_cons (ds_if (dt_cmp (opEq_ok hu) (de_bin opMod_ok (de_var (pv 9)) de_int) de_int (nomark _)) (ds_one (ds_ret (de_ifE (dt_cmp (opEq_ok hu) (de_bin opMod_ok (de_bin opDiv_ok (de_var (pv 9)) de_int) de_int) de_int (nomark _)) (de_tup (da_cons (de_str (by decide +kernel)) da_nil)) (de_tup (da_cons (de_str (by decide +kernel)) (da_cons (de_bin opMul_ok (de_bin opMod_ok (de_bin opDiv_ok (de_var (pv 9)) de_int) de_int) de_int) da_nil)))))) ds_nil)
    (ds_one (ds_ret (de_tup (da_cons (de_str (by decide +kernel)) (da_cons (de_var (pv 6)) (da_cons (de_call (hC ._law_end) hr tk (by rfl) (dal_cons (de_var (pv 0)) (dal_cons (de_var (pv 3)) (dal_cons (de_var (pv 7)) dal_nil)))) da_nil))))))))))))
theorem sc__law_match : FnScope N__law_match ["_law_kind_here", "_law_other", "_law_fills"] (defScope (top 43)) := ⟨rfl, rfl, rfl, by decide +kernel, rfl, by decide +kernel, by decide +kernel⟩
theorem der__law_match (hC : ∀ g, Has PySem.Challenge.rw_fieldrest_k04_kinds_that_fit.prog w K mg base k (nm g) (ar g) (C g)) (M : Mgs mg) (hE : ∀ g y C, okX y = true → XT K mg y C → HasE PySem.Challenge.rw_fieldrest_k04_kinds_that_fit.prog w K mg base k (nmE g) (arE g) C (fun a => CE g a y)) (XF : Xs K mg) (f : Addr) (cdv : Value) (A : Around) (outer : List Env) (s : Shared) (H : Hp) (E : XK) (hr : Room k (A.deeper (envOfC "_law_match" (defScope (top 43)) s.heap.objs.size f cdv))) :
    DSs (cxOf (L2N.CX PySem.Challenge.rw_fieldrest_k04_kinds_that_fit.prog w) PySem.Challenge.rw_fieldrest_k04_kinds_that_fit.prog w K mg base N__law_match "_law_match" (defScope (top 43)) f cdv A outer s H E) (fun cls d _ H => E cls d H) (defBody (top 43)) (b__law_match C CE) := by
  have nd := sc__law_match.nd
  have hu := Ru.of hr
  have tk : L2N.Takes (cxOf (L2N.CX PySem.Challenge.rw_fieldrest_k04_kinds_that_fit.prog w) PySem.Challenge.rw_fieldrest_k04_kinds_that_fit.prog w K mg base N__law_match "_law_match" (defScope (top 43)) f cdv A outer s H E) (fun cls d _ H => E cls d H) := L2N.takes_of rfl rfl rfl rfl
  exact (ds_cons (ds_if (dt_cmp (opEq_ok hu) (de_ix (opIx_ok hu) (de_var (pv 0)) de_int) (de_str (by decide +kernel)) (nomark _)) (ds_one (ds_ret (de_cmp (opEq_ok hu) (de_dsetd (de_var (pv 2)) (de_ix (opIx_ok hu) (de_var (pv 0)) de_int) (de_var (pv 1)) ⟨rfl, rfl, rfl, rfl⟩) (de_var (pv 1)) (nomark _)))) ds_nil)
    (ds_cons (ds_if (dw_pt (dw_or (dt_cmp (opNe_ok hu) (de_ix (opIx_ok hu) (de_var (pv 0)) de_int) (de_ix (opIx_ok hu) (de_var (pv 1)) de_int) (nomark _)) (dw_or1 (dt_cmp (opEq_ok hu) (de_ix (opIx_ok hu) (de_var (pv 0)) de_int) (de_str (by decide +kernel)) (nomark _))))) (ds_one (ds_ret (de_cmp (opEq_ok hu) (de_var (pv 0)) (de_var (pv 1)) (nomark _)))) ds_nil)
    (ds_cons (ds_set (i := 3) nd rfl (Or.inl rfl) (de_callTy (cDict_ok rfl) (by rfl) M.m_dict (by decide +kernel) (da_cons (de_ix (opIx_ok hu) (de_var (pv 1)) de_int) da_nil)))
    (ds_cons (ds_for (passes_of rfl) rfl (di_items (de_ix (opIx_ok hu) (de_var (pv 0)) de_int)) (dg_tup (is := [4, 5]) rfl (pgs_cons (pg_name (i := 4) nd rfl (Or.inl rfl)) (pgs_cons (pg_name (i := 5) nd rfl (Or.inl rfl)) pgs_nil)) (.cons (.cons .nil))) (ds_one (ds_if (dw_pt (dw_or (dt_cmp (opNotIn_ok hu) (de_var (pv 4)) (de_var (pv 3)) rfl) (dw_or1 (dt_not (dt_val (de_call (hC ._law_match) hr tk (by rfl) (dal_cons (de_var (pv 5)) (dal_cons (de_ix (opIx_ok hu) (de_var (pv 3)) (de_var (pv 4))) (dal_cons (de_var (pv 2)) dal_nil))))))))) (ds_one (ds_ret de_bl)) ds_nil)))
    (ds_cons (ds_set (i := 6) nd rfl (Or.inr rfl) (de_callTy (cDict_ok rfl) (by rfl) M.m_dict (by decide +kernel) (da_cons (de_ix (opIx_ok hu) (de_var (pv 0)) de_int) da_nil)))
    (ds_cons (ds_set (i := 7) nd rfl (Or.inl rfl) (de_tup (da_cons (de_callTy cTuple_ok (by rfl) M.m_tuple (by decide +kernel) (da_cons (de_comp (own := [("_law_pair", 8)]) rfl nd (di_items (de_ix (opIx_ok hu) (de_var (pv 1)) de_int)) (blkOk_by (N := N__law_match) (sc := (defScope (top 43))) (own := [("_law_pair", 8)]) (by decide +kernel)) (fun _ _ _ _ _ => pg_name (i := 8) nd rfl (Or.inl rfl)) (tgr_name (by decide)) (fun _ _ _ _ _ => dts_one (dt_cmp (opNotIn_ok hu) (de_ix (opIx_ok hu) (de_var (pv 8)) de_int) (de_var (pv 6)) rfl)) (fun _ _ _ _ _ => (de_var (pv 8)))) da_nil)) (da_cons (de_ix (opIx_ok hu) (de_var (pv 1)) de_int) da_nil))))
    (ds_cons (ds_if (dt_cmp opIsN_ok (de_ix (opIx_ok hu) (de_var (pv 0)) de_int) de_non (nomark _)) (ds_one (ds_ret (de_cmp (opEq_ok hu) (de_var (pv 7)) (de_tup (da_cons (de_tup da_nil) (da_cons de_non da_nil))) (nomark _)))) ds_nil)
    (ds_one (ds_ret (de_cmp (opEq_ok hu) (de_dsetd (de_var (pv 2)) (de_ix (opIx_ok hu) (de_var (pv 0)) de_int) (de_var (pv 7)) ⟨rfl, rfl, rfl, rfl⟩) (de_var (pv 7)) (nomark _)))))))))))
theorem sc__law_bent : FnScope N__law_bent ["_law_kind_here", "_law_path", "_law_labels_here"] (defScope (top 44)) := ⟨rfl, rfl, rfl, by decide +kernel, rfl, by decide +kernel, by decide +kernel⟩
theorem der__law_bent (hC : ∀ g, Has PySem.Challenge.rw_fieldrest_k04_kinds_that_fit.prog w K mg base k (nm g) (ar g) (C g)) (M : Mgs mg) (hE : ∀ g y C, okX y = true → XT K mg y C → HasE PySem.Challenge.rw_fieldrest_k04_kinds_that_fit.prog w K mg base k (nmE g) (arE g) C (fun a => CE g a y)) (XF : Xs K mg) (f : Addr) (cdv : Value) (A : Around) (outer : List Env) (s : Shared) (H : Hp) (E : XK) (hr : Room k (A.deeper (envOfC "_law_bent" (defScope (top 44)) s.heap.objs.size f cdv))) :
    DSs (cxOf (L2N.CX PySem.Challenge.rw_fieldrest_k04_kinds_that_fit.prog w) PySem.Challenge.rw_fieldrest_k04_kinds_that_fit.prog w K mg base N__law_bent "_law_bent" (defScope (top 44)) f cdv A outer s H E) (fun cls d _ H => E cls d H) (defBody (top 44)) (b__law_bent C CE) := by
  have nd := sc__law_bent.nd
  have hu := Ru.of hr
  have tk : L2N.Takes (cxOf (L2N.CX PySem.Challenge.rw_fieldrest_k04_kinds_that_fit.prog w) PySem.Challenge.rw_fieldrest_k04_kinds_that_fit.prog w K mg base N__law_bent "_law_bent" (defScope (top 44)) f cdv A outer s H E) (fun cls d _ H => E cls d H) := L2N.takes_of rfl rfl rfl rfl
  exact (ds_cons (ds_if (dw_pt (dw_or (dt_cmp (opNe_ok hu) (de_ix (opIx_ok hu) (de_var (pv 0)) de_int) (de_str (by decide +kernel)) (nomark _)) (dw_or1 (dt_cmp (opEq_ok hu) (de_bin opMod_ok (de_var (pv 1)) de_int) de_int (nomark _))))) (ds_cons (ds_set (i := 3) nd rfl (Or.inl rfl) (de_lst (da_cons (de_tup (da_cons (de_str (by decide +kernel)) da_nil)) (da_cons (de_tup (da_cons (de_str (by decide +kernel)) (da_cons (de_tup da_nil) (da_cons de_non da_nil)))) (da_cons (de_tup (da_cons (de_str (by decide +kernel)) (da_cons de_int da_nil))) da_nil)))))
    (ds_one (ds_ret (de_ix (opIx_ok hu) (de_bin opAdd_ok (de_var (pv 3)) (de_lst (da_cons (de_tup (da_cons (de_str (by decide +kernel)) (da_cons (de_tup (da_cons (de_tup (da_cons (de_ix (opIx_ok hu) (de_var (pv 2)) de_int) (da_cons (de_tup (da_cons (de_str (by decide +kernel)) da_nil)) da_nil))) da_nil)) (da_cons de_non da_nil)))) da_nil))) (de_bin opMod_ok (de_bin opDiv_ok (de_var (pv 1)) de_int) de_int))))) ds_nil)
    (ds_cons (ds_if (dt_cmp (opEq_ok hu) (de_bin opMod_ok (de_var (pv 1)) de_int) de_int (nomark _)) (ds_one (ds_ret (de_tup (da_cons (de_str (by decide +kernel)) (da_cons (de_ix (opIx_ok hu) (de_var (pv 0)) de_int) (da_cons (de_ifE (dt_cmp opIsN_ok (de_ix (opIx_ok hu) (de_var (pv 0)) de_int) de_non (nomark _)) de_int de_non) da_nil)))))) ds_nil)
    (ds_cons (ds_if (dw_pt (dw_or (dt_cmp (opEq_ok hu) (de_ix (opIx_ok hu) (de_var (pv 0)) de_int) (de_tup da_nil) (nomark _)) (dw_or1 (dt_cmp (opEq_ok hu) (de_bin opMod_ok (de_var (pv 1)) de_int) de_int (nomark _))))) (ds_cons (ds_setComp (own := [("_law_pair", 5)]) (i := 4) rfl nd rfl rfl (sw_true rfl rfl rfl (by decide +kernel)) (di_items (de_ix (opIx_ok hu) (de_var (pv 0)) de_int)) (blkOk_by (N := N__law_bent) (sc := (defScope (top 44))) (own := [("_law_pair", 5)]) (by decide +kernel)) (fun _ _ _ _ _ => pg_name (i := 5) nd rfl (Or.inl rfl)) (tgr_name (by decide)) (fun _ _ _ _ _ => dts_one (dt_cmp (opNe_ok hu) (de_ix (opIx_ok hu) (de_var (pv 5)) de_int) (de_ix (opIx_ok hu) (de_var (pv 2)) (de_bin opMod_ok (de_bin opDiv_ok (de_var (pv 1)) de_int) de_int)) (nomark _))) (fun _ _ _ _ _ => (de_var (pv 5))))
    (ds_cons (ds_if (dt_cmp (opEq_ok hu) (de_callB cLen_ok (by rfl) M.m_len (by decide +kernel) (da_cons (de_var (pv 4)) da_nil)) (de_callB cLen_ok (by rfl) M.m_len (by decide +kernel) (da_cons (de_ix (opIx_ok hu) (de_var (pv 0)) de_int) da_nil)) (nomark _)) (ds_one (ds_set (i := 4) nd rfl (Or.inl rfl) (de_callB cSortedF_ok (by rfl) M.m_sorted (by decide +kernel) (da_cons (de_bin opAdd_ok (de_var (pv 4)) (de_lst (da_cons (de_tup (da_cons (de_ix (opIx_ok hu) (de_var (pv 2)) (de_bin opMod_ok (de_bin opDiv_ok (de_var (pv 1)) de_int) de_int)) (da_cons (de_tup (da_cons (de_str (by decide +kernel)) da_nil)) da_nil))) da_nil))) da_nil)))) ds_nil)
    (ds_one (ds_ret (de_tup (da_cons (de_str (by decide +kernel)) (da_cons (de_callTy cTuple_ok (by rfl) M.m_tuple (by decide +kernel) (da_cons (de_var (pv 4)) da_nil)) (da_cons de_non da_nil)))))))) ds_nil)
    (ds_cons (ds_set (i := 6) nd rfl (Or.inl rfl) (de_bin opMod_ok (de_bin opDiv_ok (de_var (pv 1)) de_int) (de_callB cLen_ok (by rfl) M.m_len (by decide +kernel) (da_cons (de_ix (opIx_ok hu) (de_var (pv 0)) de_int) da_nil))))
    (ds_cons (ds_set (i := 7) nd rfl (Or.inl rfl) (de_tup (da_cons (de_ix (opIx_ok hu) (de_ix (opIx_ok hu) (de_ix (opIx_ok hu) (de_var (pv 0)) de_int) (de_var (pv 6))) de_int) (da_cons (de_call (hC ._law_bent) hr tk (by rfl) (dal_cons (de_ix (opIx_ok hu) (de_ix (opIx_ok hu) (de_ix (opIx_ok hu) (de_var (pv 0)) de_int) (de_var (pv 6))) de_int) (dal_cons (de_bin opDiv_ok (de_var (pv 1)) de_int) (dal_cons (de_var (pv 2)) dal_nil)))) da_nil))))
    (ds_one (ds_ret (de_tup (da_cons (de_str (by decide +kernel)) (da_cons (de_bin opAdd_ok (de_bin opAdd_ok (de_slice (de_ix (opIx_ok hu) (de_var (pv 0)) de_int) do_none (do_some (de_var (pv 6)))) (de_tup (da_cons (de_var (pv 7)) da_nil))) (de_slice (de_ix (opIx_ok hu) (de_var (pv 0)) de_int) (do_some (de_bin opAdd_ok (de_var (pv 6)) de_int)) do_none)) (da_cons (de_ix (opIx_ok hu) (de_var (pv 0)) de_int) da_nil)))))))))))
theorem sc__law_knots : FnScope N__law_knots ["_law_kind_here"] (defScope (top 45)) := ⟨rfl, rfl, rfl, by decide +kernel, rfl, by decide +kernel, by decide +kernel⟩
theorem der__law_knots (hC : ∀ g, Has PySem.Challenge.rw_fieldrest_k04_kinds_that_fit.prog w K mg base k (nm g) (ar g) (C g)) (M : Mgs mg) (hE : ∀ g y C, okX y = true → XT K mg y C → HasE PySem.Challenge.rw_fieldrest_k04_kinds_that_fit.prog w K mg base k (nmE g) (arE g) C (fun a => CE g a y)) (XF : Xs K mg) (f : Addr) (cdv : Value) (A : Around) (outer : List Env) (s : Shared) (H : Hp) (E : XK) (hr : Room k (A.deeper (envOfC "_law_knots" (defScope (top 45)) s.heap.objs.size f cdv))) :
    DSs (cxOf (L2N.CX PySem.Challenge.rw_fieldrest_k04_kinds_that_fit.prog w) PySem.Challenge.rw_fieldrest_k04_kinds_that_fit.prog w K mg base N__law_knots "_law_knots" (defScope (top 45)) f cdv A outer s H E) (fun cls d _ H => E cls d H) (defBody (top 45)) (b__law_knots C CE) := by
  have nd := sc__law_knots.nd
  have hu := Ru.of hr
  have tk : L2N.Takes (cxOf (L2N.CX PySem.Challenge.rw_fieldrest_k04_kinds_that_fit.prog w) PySem.Challenge.rw_fieldrest_k04_kinds_that_fit.prog w K mg base N__law_knots "_law_knots" (defScope (top 45)) f cdv A outer s H E) (fun cls d _ H => E cls d H) := L2N.takes_of rfl rfl rfl rfl
  exact (ds_cons (ds_if (dt_cmp (opNe_ok hu) (de_ix (opIx_ok hu) (de_var (pv 0)) de_int) (de_str (by decide +kernel)) (nomark _)) (ds_one (ds_ret de_int)) ds_nil)
    (ds_one (ds_ret (de_bin opAdd_ok de_int (de_callB (cSum_ok rfl) (by rfl) M.m_sum (by decide +kernel) (da_cons (de_comp (own := [("_law_pair", 1)]) rfl nd (di_items (de_ix (opIx_ok hu) (de_var (pv 0)) de_int)) (blkOk_by (N := N__law_knots) (sc := (defScope (top 45))) (own := [("_law_pair", 1)]) (by decide +kernel)) (fun _ _ _ _ _ => pg_name (i := 1) nd rfl (Or.inl rfl)) (tgr_name (by decide)) (fun _ _ _ _ _ => dts_nil) (fun _ _ _ _ _ => (de_call (hC ._law_knots) hr takesN0 (by rfl) (dal_cons (de_ix (opIx_ok hu) (de_var (pv 1)) de_int) dal_nil)))) da_nil))))))
theorem sc__law_kinds : FnScope N__law_kinds ["_law_script", "_law_labels_here", "_law_met"] (defScope (top 46)) := ⟨rfl, rfl, rfl, by decide +kernel, rfl, by decide +kernel, by decide +kernel⟩
theorem der__law_kinds (hC : ∀ g, Has PySem.Challenge.rw_fieldrest_k04_kinds_that_fit.prog w K mg base k (nm g) (ar g) (C g)) (M : Mgs mg) (hE : ∀ g y C, okX y = true → XT K mg y C → HasE PySem.Challenge.rw_fieldrest_k04_kinds_that_fit.prog w K mg base k (nmE g) (arE g) C (fun a => CE g a y)) (XF : Xs K mg) (f : Addr) (cdv : Value) (A : Around) (outer : List Env) (s : Shared) (H : Hp) (E : XK) (hr : Room k (A.deeper (envOfC "_law_kinds" (defScope (top 46)) s.heap.objs.size f cdv))) :
    DSs (cxOf (L2N.CX PySem.Challenge.rw_fieldrest_k04_kinds_that_fit.prog w) PySem.Challenge.rw_fieldrest_k04_kinds_that_fit.prog w K mg base N__law_kinds "_law_kinds" (defScope (top 46)) f cdv A outer s H E) (fun cls d _ H => E cls d H) (defBody (top 46)) (b__law_kinds C CE) := by
  have nd := sc__law_kinds.nd
  have hu := Ru.of hr
  have tk : L2N.Takes (cxOf (L2N.CX PySem.Challenge.rw_fieldrest_k04_kinds_that_fit.prog w) PySem.Challenge.rw_fieldrest_k04_kinds_that_fit.prog w K mg base N__law_kinds "_law_kinds" (defScope (top 46)) f cdv A outer s H E) (fun cls d _ H => E cls d H) := L2N.takes_of rfl rfl rfl rfl
  exact (ds_cons (ds_set (i := 3) nd rfl (Or.inl rfl) (de_lstR da_nil))
    (ds_cons (ds_for (passes_of rfl) rfl (di_range1 (by rfl) M.m_range (de_bin opAdd_ok de_int (de_bin opMod_ok (de_call (hC ._law_cell) hr tk (by rfl) (dal_cons (de_var (pv 0)) (dal_cons de_int dal_nil))) de_int))) (dg_name (pg_name (i := 4) nd rfl (Or.inl rfl))) (ds_cons (ds_set (i := 5) nd rfl (Or.inl rfl) (de_lstR (da_cons (de_bin opAdd_ok de_int (de_bin opMod_ok (de_call (hC ._law_cell) hr tk (by rfl) (dal_cons (de_var (pv 0)) (dal_cons (de_bin opAdd_ok de_int (de_bin opMul_ok de_int (de_var (pv 4)))) dal_nil))) de_int)) (da_cons (de_bin opAdd_ok de_int (de_bin opMod_ok (de_call (hC ._law_cell) hr tk (by rfl) (dal_cons (de_var (pv 0)) (dal_cons (de_bin opAdd_ok de_int (de_bin opMul_ok de_int (de_var (pv 4)))) dal_nil))) de_int)) da_nil))))
    (ds_one (ds_expr (de_mlist PySem.F.slot_list_append PySem.F.type_list_append cAppend_ok (de_var (pv 3)) (da_cons (de_call (hC ._law_kind) hr tk (by rfl) (dal_cons (de_var (pv 5)) (dal_cons (de_var (pv 1)) (dal_cons (de_var (pv 2)) (dal_cons (de_bin opAdd_ok de_int (de_bin opMod_ok (de_bin opDiv_ok (de_call (hC ._law_cell) hr tk (by rfl) (dal_cons (de_var (pv 0)) (dal_cons (de_bin opAdd_ok de_int (de_bin opMul_ok de_int (de_var (pv 4)))) dal_nil))) de_int) de_int)) dal_nil))))) da_nil))))))
    (ds_one (ds_ret (de_var (pv 3))))))
theorem sc__law_refused : FnScope N__law_refused ["_law_kinds_here", "_law_others"] (defScope (top 47)) := ⟨rfl, rfl, rfl, by decide +kernel, rfl, by decide +kernel, by decide +kernel⟩
theorem der__law_refused (hC : ∀ g, Has PySem.Challenge.rw_fieldrest_k04_kinds_that_fit.prog w K mg base k (nm g) (ar g) (C g)) (M : Mgs mg) (hE : ∀ g y C, okX y = true → XT K mg y C → HasE PySem.Challenge.rw_fieldrest_k04_kinds_that_fit.prog w K mg base k (nmE g) (arE g) C (fun a => CE g a y)) (XF : Xs K mg) (f : Addr) (cdv : Value) (A : Around) (outer : List Env) (s : Shared) (H : Hp) (E : XK) (hr : Room k (A.deeper (envOfC "_law_refused" (defScope (top 47)) s.heap.objs.size f cdv))) :
    DSs (cxOf (L2N.CX PySem.Challenge.rw_fieldrest_k04_kinds_that_fit.prog w) PySem.Challenge.rw_fieldrest_k04_kinds_that_fit.prog w K mg base N__law_refused "_law_refused" (defScope (top 47)) f cdv A outer s H E) (fun cls d _ H => E cls d H) (defBody (top 47)) (b__law_refused C CE) := by
  have nd := sc__law_refused.nd
  have hu := Ru.of hr
  obtain ⟨CF, gF, hF⟩ := XF.f
  have tk : L2N.Takes (cxOf (L2N.CX PySem.Challenge.rw_fieldrest_k04_kinds_that_fit.prog w) PySem.Challenge.rw_fieldrest_k04_kinds_that_fit.prog w K mg base N__law_refused "_law_refused" (defScope (top 47)) f cdv A outer s H E) (fun cls d _ H => E cls d H) := L2N.takes_of rfl rfl rfl rfl
  let XX := cxOf (L2N.CX PySem.Challenge.rw_fieldrest_k04_kinds_that_fit.prog w) PySem.Challenge.rw_fieldrest_k04_kinds_that_fit.prog w K mg base N__law_refused "_law_refused" (defScope (top 47)) f cdv A outer s H E
  exact (ds_cons (ds_tryAs (i := 2) rfl rfl nd rfl rfl ⟨by rfl, by decide, .inl gF⟩ tk (fun y hy => let ⟨C, h, e⟩ := hF y hy; ⟨C, h.c, e⟩) (fun W' pn xe tk' pq => (ds_one (ds_expr (de_call (hC .fits) hr tk' (by rfl) (dal_cons (de_var (pv 0)) (dal_cons (de_var (pv 1)) dal_nil))))))
    (fun a oe y C pn hy hx ho => have ht : XT K mg y C := xt_at hF hy hx; (ds_one (ds_ret (de_and (de_isEo List.mem_cons_self ht.c.i ho (by rfl) M.m_isinstance (de_var (pv 2)) ht.t_BadKind (by rfl)) (de_one (de_callE (X := XX) (a := a) (oe := oe) (pn := pn) (hE ._law_lone y C hy ht) (L2H.roomH_of hr) ho (by rfl) (dal_cons (de_var (pv 2)) dal_nil))))))))
    (ds_one (ds_ret de_bl)))
theorem sc__law_big : FnScope N__law_big [] (defScope (top 48)) := ⟨rfl, rfl, rfl, by decide +kernel, rfl, by decide +kernel, by decide +kernel⟩
theorem der__law_big (hC : ∀ g, Has PySem.Challenge.rw_fieldrest_k04_kinds_that_fit.prog w K mg base k (nm g) (ar g) (C g)) (M : Mgs mg) (hE : ∀ g y C, okX y = true → XT K mg y C → HasE PySem.Challenge.rw_fieldrest_k04_kinds_that_fit.prog w K mg base k (nmE g) (arE g) C (fun a => CE g a y)) (XF : Xs K mg) (f : Addr) (cdv : Value) (A : Around) (outer : List Env) (s : Shared) (H : Hp) (E : XK) (hr : Room k (A.deeper (envOfC "_law_big" (defScope (top 48)) s.heap.objs.size f cdv))) :
    DSs (cxOf (L2N.CX PySem.Challenge.rw_fieldrest_k04_kinds_that_fit.prog w) PySem.Challenge.rw_fieldrest_k04_kinds_that_fit.prog w K mg base N__law_big "_law_big" (defScope (top 48)) f cdv A outer s H E) (fun cls d _ H => E cls d H) (defBody (top 48)) (b__law_big C CE) := by
  have nd := sc__law_big.nd
  have hu := Ru.of hr
  have tk : L2N.Takes (cxOf (L2N.CX PySem.Challenge.rw_fieldrest_k04_kinds_that_fit.prog w) PySem.Challenge.rw_fieldrest_k04_kinds_that_fit.prog w K mg base N__law_big "_law_big" (defScope (top 48)) f cdv A outer s H E) (fun cls d _ H => E cls d H) := L2N.takes_of rfl rfl rfl rfl
  exact (ds_cons (ds_set (i := 0) nd rfl (Or.inr rfl) (de_str (by decide +kernel)))
    (ds_cons (ds_setComp (own := [("_law_k", 2)]) (i := 1) rfl nd rfl rfl (sw_true rfl rfl rfl (by decide +kernel)) (di_range1 (by rfl) M.m_range de_int) (blkOk_by (N := N__law_big) (sc := (defScope (top 48))) (own := [("_law_k", 2)]) (by decide +kernel)) (fun _ _ _ _ _ => pg_name (i := 2) nd rfl (Or.inl rfl)) (tgr_name (by decide)) (fun _ _ _ _ _ => dts_nil) (fun _ _ _ _ _ => (de_bin opAdd_ok (de_ix (opIx_ok hu) (de_var (pv 0)) (de_bin opDiv_ok (de_var (pv 2)) de_int)) (de_ix (opIx_ok hu) (de_var (pv 0)) (de_bin opMod_ok (de_var (pv 2)) de_int)))))
    (ds_cons (ds_set (i := 3) nd rfl (Or.inl rfl) (de_tup (da_cons (de_str (by decide +kernel)) (da_cons (de_callTy cTuple_ok (by rfl) M.m_tuple (by decide +kernel) (da_cons (de_comp (own := [("_law_word", 4)]) rfl nd (di_items (de_var (pv 1))) (blkOk_by (N := N__law_big) (sc := (defScope (top 48))) (own := [("_law_word", 4)]) (by decide +kernel)) (fun _ _ _ _ _ => pg_name (i := 4) nd rfl (Or.inl rfl)) (tgr_name (by decide)) (fun _ _ _ _ _ => dts_nil) (fun _ _ _ _ _ => (de_tup (da_cons (de_var (pv 4)) (da_cons (de_tup (da_cons (de_str (by decide +kernel)) da_nil)) da_nil))))) da_nil)) (da_cons de_non da_nil)))))
    (ds_cons (ds_if (dw_pt (dw_or (dt_not (dt_val (de_call (hC ._law_refused) hr tk (by rfl) (dal_cons (de_lst (da_cons (de_var (pv 3)) (da_cons (de_var (pv 3)) da_nil))) (dal_cons (de_lst (da_cons (de_var (pv 3)) (da_cons (de_var (pv 3)) da_nil))) dal_nil))))) (dw_or1 (dt_not (dt_val (de_call (hC ._law_refused) hr tk (by rfl) (dal_cons (de_lst (da_cons (de_tup (da_cons (de_str (by decide +kernel)) (da_cons de_int da_nil))) da_nil)) (dal_cons (de_lst (da_cons (de_var (pv 3)) (da_cons (de_var (pv 3)) da_nil))) dal_nil)))))))) (ds_one (ds_ret de_bl)) ds_nil)
    (ds_one (ds_ret (de_cmp (opEqK_ok hu) (de_call (hC .fits) hr tk (by rfl) (dal_cons (de_lst (da_cons (de_var (pv 3)) da_nil)) (dal_cons (de_lst (da_cons (de_var (pv 3)) da_nil)) dal_nil))) de_newK (nomark _))))))))
theorem sc__law_agrees : FnScope N__law_agrees ["_law_kinds_here", "_law_others", "_law_due"] (defScope (top 49)) := ⟨rfl, rfl, rfl, by decide +kernel, rfl, by decide +kernel, by decide +kernel⟩
theorem der__law_agrees (hC : ∀ g, Has PySem.Challenge.rw_fieldrest_k04_kinds_that_fit.prog w K mg base k (nm g) (ar g) (C g)) (M : Mgs mg) (hE : ∀ g y C, okX y = true → XT K mg y C → HasE PySem.Challenge.rw_fieldrest_k04_kinds_that_fit.prog w K mg base k (nmE g) (arE g) C (fun a => CE g a y)) (XF : Xs K mg) (f : Addr) (cdv : Value) (A : Around) (outer : List Env) (s : Shared) (H : Hp) (E : XK) (hr : Room k (A.deeper (envOfC "_law_agrees" (defScope (top 49)) s.heap.objs.size f cdv))) :
    DSs (cxOf (L2N.CX PySem.Challenge.rw_fieldrest_k04_kinds_that_fit.prog w) PySem.Challenge.rw_fieldrest_k04_kinds_that_fit.prog w K mg base N__law_agrees "_law_agrees" (defScope (top 49)) f cdv A outer s H E) (fun cls d _ H => E cls d H) (defBody (top 49)) (b__law_agrees C CE) := by
  have nd := sc__law_agrees.nd
  have hu := Ru.of hr
  have tk : L2N.Takes (cxOf (L2N.CX PySem.Challenge.rw_fieldrest_k04_kinds_that_fit.prog w) PySem.Challenge.rw_fieldrest_k04_kinds_that_fit.prog w K mg base N__law_agrees "_law_agrees" (defScope (top 49)) f cdv A outer s H E) (fun cls d _ H => E cls d H) := L2N.takes_of rfl rfl rfl rfl
  exact (ds_cons (ds_set (i := 3) nd rfl (Or.inl rfl) (de_lst (da_cons (de_callTy cListR_ok (by rfl) M.m_list (by decide +kernel) (da_cons (de_var (pv 0)) da_nil)) (da_cons (de_callTy cList_ok (by rfl) M.m_list (by decide +kernel) (da_cons (de_var (pv 1)) da_nil)) da_nil))))
    (ds_cons (ds_set (i := 4) nd rfl (Or.inr rfl) (de_call (hC .fits) hr tk (by rfl) (dal_cons (de_ix (opIx_ok hu) (de_var (pv 3)) de_int) (dal_cons (de_ix (opIx_ok hu) (de_var (pv 3)) de_int) dal_nil))))
    (ds_cons (ds_if (dw_pt (dw_or (dt_cmp (opNe_ok hu) (de_var (pv 3)) (de_lst (da_cons (de_var (pv 0)) (da_cons (de_var (pv 1)) da_nil))) (nomark _)) (dw_or (dt_cmp (opNeK_ok hu) (de_var (pv 4)) (de_var (pv 2)) (nomark _)) (dw_or1 (dt_cmp (opNe_ok hu) (de_isi (by rfl) M.m_isinstance (de_var (pv 4)) (pe_bltn (v := .ty "dict") (by rfl) M.m_dict (by decide +kernel) rfl)) (de_isi (by rfl) M.m_isinstance (de_var (pv 2)) (pe_bltn (v := .ty "dict") (by rfl) M.m_dict (by decide +kernel) rfl)) (nomark _)))))) (ds_one (ds_ret de_bl)) ds_nil)
    (ds_cons (ds_if (dt_cmp opIsN_ok (de_var (pv 4)) de_non (nomark _)) (ds_one (ds_ret de_bl)) ds_nil)
    (ds_cons (ds_if (dt_cmp (opNe_ok hu) (de_comp (own := [("_law_kind_here", 5)]) rfl nd (di_items (de_var (pv 0))) (blkOk_by (N := N__law_agrees) (sc := (defScope (top 49))) (own := [("_law_kind_here", 5)]) (by decide +kernel)) (fun _ _ _ _ _ => pg_name (i := 5) nd rfl (Or.inl rfl)) (tgr_name (by decide)) (fun _ _ _ _ _ => dts_nil) (fun _ _ _ _ _ => (de_call (hC .filled) hr takesN0 (by rfl) (dal_cons (de_var (pv 5)) (dal_cons (de_var (pv 4)) dal_nil))))) (de_var (pv 1)) (nomark _)) (ds_one (ds_ret de_bl)) ds_nil)
    (ds_cons (ds_asg (de_str (by decide +kernel)) (dg_sub (de_var (pv 4)) (de_neg de_int) (opSet_ok hu)))
    (ds_cons (ds_expr (de_lclear (de_ix (opIx_ok hu) (de_var (pv 3)) de_int)))
    (ds_one (ds_ret (de_cmp (opEqK_ok hu) (de_call (hC .fits) hr tk (by rfl) (dal_cons (de_var (pv 0)) (dal_cons (de_callTy cTuple_ok (by rfl) M.m_tuple (by decide +kernel) (da_cons (de_var (pv 1)) da_nil)) dal_nil))) (de_var (pv 2)) (nomark _)))))))))))
theorem sc_law : FnScope N_law ["_law_script"] (defScope (top 50)) := ⟨rfl, rfl, rfl, by decide +kernel, rfl, by decide +kernel, by decide +kernel⟩
theorem der_law (hC : ∀ g, Has PySem.Challenge.rw_fieldrest_k04_kinds_that_fit.prog w K mg base k (nm g) (ar g) (C g)) (M : Mgs mg) (hE : ∀ g y C, okX y = true → XT K mg y C → HasE PySem.Challenge.rw_fieldrest_k04_kinds_that_fit.prog w K mg base k (nmE g) (arE g) C (fun a => CE g a y)) (XF : Xs K mg) (f : Addr) (cdv : Value) (A : Around) (outer : List Env) (s : Shared) (H : Hp) (E : XK) (hr : Room k (A.deeper (envOfC "law" (defScope (top 50)) s.heap.objs.size f cdv))) :
    DSs (cxOf (L2N.CX PySem.Challenge.rw_fieldrest_k04_kinds_that_fit.prog w) PySem.Challenge.rw_fieldrest_k04_kinds_that_fit.prog w K mg base N_law "law" (defScope (top 50)) f cdv A outer s H E) (fun cls d _ H => E cls d H) (defBody (top 50)) (b_law C CE) := by
  have nd := sc_law.nd
  have hu := Ru.of hr
  have tk : L2N.Takes (cxOf (L2N.CX PySem.Challenge.rw_fieldrest_k04_kinds_that_fit.prog w) PySem.Challenge.rw_fieldrest_k04_kinds_that_fit.prog w K mg base N_law "law" (defScope (top 50)) f cdv A outer s H E) (fun cls d _ H => E cls d H) := L2N.takes_of rfl rfl rfl rfl
  exact (ds_cons (ds_set (i := 1) nd rfl (Or.inl rfl) (de_call (hC ._law_labels) hr tk (by rfl) (dal_cons (de_call (hC ._law_cell) hr tk (by rfl) (dal_cons (de_var (pv 0)) (dal_cons de_int dal_nil))) (dal_cons de_int dal_nil))))
    (ds_cons (ds_set (i := 2) nd rfl (Or.inl rfl) (de_lst (da_cons (de_bin opAdd_ok de_int (de_bin opMod_ok (de_call (hC ._law_cell) hr tk (by rfl) (dal_cons (de_var (pv 0)) (dal_cons de_int dal_nil))) (de_bin opPow_ok de_int de_int))) (da_cons (de_lstR da_nil) da_nil))))
    (ds_cons (ds_set (i := 3) nd rfl (Or.inl rfl) (de_call (hC ._law_kinds) hr tk (by rfl) (dal_cons (de_var (pv 0)) (dal_cons (de_var (pv 1)) (dal_cons (de_var (pv 2)) dal_nil)))))
    (ds_cons (ds_set (i := 4) nd rfl (Or.inl rfl) (de_lstR (da_cons (de_bin opAdd_ok de_int (de_bin opMod_ok (de_call (hC ._law_cell) hr tk (by rfl) (dal_cons (de_var (pv 0)) (dal_cons de_int dal_nil))) de_int)) (da_cons de_int da_nil))))
    (ds_cons (ds_set (i := 5) nd rfl (Or.inr rfl) de_newK)
    (ds_cons (ds_set (i := 6) nd rfl (Or.inl rfl) (de_lstR da_nil))
    (ds_cons (ds_set (i := 7) nd rfl (Or.inl rfl) de_newK)
    (ds_cons (ds_for (passes_of rfl) rfl (di_items (de_var (pv 3))) (dg_name (pg_name (i := 8) nd rfl (Or.inl rfl))) (ds_one (ds_expr (de_call (hC ._law_blanks) hr tk (by rfl) (dal_cons (de_var (pv 8)) (dal_cons (de_var (pv 7)) dal_nil))))))
    (ds_cons (ds_set (i := 9) nd rfl (Or.inl rfl) (de_bin opDiv_ok (de_call (hC ._law_cell) hr tk (by rfl) (dal_cons (de_var (pv 0)) (dal_cons de_int dal_nil))) de_int))
    (ds_cons (ds_lock (i := 7) (ds_for (passes_of rfl) rfl (di_keys (de_var (pv 7))) (dg_name (pg_name (i := 10) nd rfl (Or.inl rfl))) (ds_one (ds_asg (de_call (hC ._law_flat) hr tk (by rfl) (dal_cons (de_var (pv 4)) (dal_cons (de_var (pv 1)) (dal_cons (de_ix (opIx_ok hu) (de_var (pv 7)) (de_var (pv 10))) (dal_cons (de_var (pv 6)) dal_nil))))) (dg_sub (de_var (pv 5)) (de_var (pv 10)) (opSet_ok hu))))))
    (ds_cons (ds_setCompR (own := [("_law_kind_here", 8)]) (i := 11) rfl nd rfl rfl (sw_true rfl rfl rfl (by decide +kernel)) (di_items (de_var (pv 3))) (blkOk_by (N := N_law) (sc := (defScope (top 50))) (own := [("_law_kind_here", 8)]) (by decide +kernel)) (fun _ _ _ _ _ => pg_name (i := 8) nd rfl (Or.inl rfl)) (tgr_name (by decide)) (fun _ _ _ _ _ => dts_nil) (fun _ _ _ _ _ => (de_call (hC ._law_filled) hr takesN0 (by rfl) (dal_cons (de_var (pv 8)) (dal_cons (de_var (pv 5)) dal_nil)))))
    (ds_cons (ds_if (dt_cmp opGt_ok (de_callB (cSum_ok rfl) (by rfl) M.m_sum (by decide +kernel) (da_cons (de_comp (own := [("_law_kind_here", 8)]) rfl nd (di_items (de_var (pv 11))) (blkOk_by (N := N_law) (sc := (defScope (top 50))) (own := [("_law_kind_here", 8)]) (by decide +kernel)) (fun _ _ _ _ _ => pg_name (i := 8) nd rfl (Or.inl rfl)) (tgr_name (by decide)) (fun _ _ _ _ _ => dts_nil) (fun _ _ _ _ _ => (de_call (hC ._law_knots) hr takesN0 (by rfl) (dal_cons (de_var (pv 8)) dal_nil)))) da_nil)) de_int (nomark _)) (ds_one (ds_ret de_bl)) ds_nil)
    (ds_cons (ds_if (dt_cmp (opEq_ok hu) (de_bin opMod_ok (de_bin opDiv_ok (de_var (pv 9)) de_int) de_int) de_int (nomark _)) (ds_cons (ds_set (i := 12) nd rfl (Or.inl rfl) (de_bin opMod_ok (de_bin opDiv_ok (de_var (pv 9)) de_int) (de_callB cLen_ok (by rfl) M.m_len (by decide +kernel) (da_cons (de_var (pv 11)) da_nil))))
    (ds_one (ds_asg (de_call (hC ._law_bent) hr tk (by rfl) (dal_cons (de_ix (opIx_ok hu) (de_var (pv 11)) (de_var (pv 12))) (dal_cons (de_bin opDiv_ok (de_var (pv 9)) de_int) (dal_cons (de_var (pv 1)) dal_nil)))) (dg_sub (de_var (pv 11)) (de_var (pv 12)) (opSet_ok hu))))) ds_nil)
    (ds_cons (ds_if (dt_cmp (opEq_ok hu) (de_bin opMod_ok (de_bin opDiv_ok (de_var (pv 9)) de_int) de_int) de_int (nomark _)) (ds_cons (ds_set (i := 13) nd rfl (Or.inl rfl) (de_ix (opIx_ok hu) (de_lst (da_cons (de_bin opAdd_ok (de_var (pv 11)) (de_lst (da_cons (de_tup (da_cons (de_str (by decide +kernel)) da_nil)) da_nil))) (da_cons (de_bin opAdd_ok (de_var (pv 11)) (de_lst (da_cons (de_tup (da_cons (de_str (by decide +kernel)) (da_cons de_int da_nil))) (da_cons (de_tup (da_cons (de_str (by decide +kernel)) (da_cons (de_tup da_nil) (da_cons de_int da_nil)))) da_nil)))) (da_cons (de_lst (da_cons (de_tup (da_cons (de_str (by decide +kernel)) (da_cons (de_tup da_nil) (da_cons (de_neg de_int) da_nil)))) da_nil)) da_nil)))) (de_bin opMod_ok (de_bin opDiv_ok (de_var (pv 9)) de_int) de_int)))
    (ds_one (ds_ret (de_and (de_call (hC ._law_refused) hr tk (by rfl) (dal_cons (de_var (pv 3)) (dal_cons (de_var (pv 13)) dal_nil))) (de_and (de_call (hC ._law_refused) hr tk (by rfl) (dal_cons (de_var (pv 13)) (dal_cons (de_callTy cTuple_ok (by rfl) M.m_tuple (by decide +kernel) (da_cons (de_var (pv 3)) da_nil)) dal_nil))) (de_one (de_cmp opIsN_ok (de_call (hC .fits) hr tk (by rfl) (dal_cons (de_var (pv 3)) (dal_cons (de_bin opAdd_ok (de_var (pv 11)) (de_slice (de_var (pv 11)) do_none (do_some de_int))) dal_nil))) de_non (nomark _)))))))) ds_nil)
    (ds_cons (ds_if (dt_cmp (opEq_ok hu) (de_bin opMod_ok (de_bin opDiv_ok (de_var (pv 9)) de_int) de_int) de_int (nomark _)) (ds_cons (ds_set (i := 14) nd rfl (Or.inl rfl) (de_tup (da_cons (de_str (by decide +kernel)) (da_cons (de_tup (da_cons (de_tup (da_cons (de_ix (opIx_ok hu) (de_var (pv 1)) de_int) (da_cons (de_tup (da_cons (de_str (by decide +kernel)) da_nil)) da_nil))) da_nil)) (da_cons de_non da_nil)))))
    (ds_cons (ds_set (i := 3) nd rfl (Or.inl rfl) (de_bin opAdd_ok (de_var (pv 3)) (de_lst (da_cons (de_var (pv 14)) da_nil))))
    (ds_one (ds_set (i := 11) nd rfl (Or.inl rfl) (de_bin opAdd_ok (de_var (pv 11)) (de_lst (da_cons (de_ix (opIx_ok hu) (de_lst (da_cons (de_var (pv 14)) (da_cons (de_bin opAdd_ok (de_slice (de_var (pv 14)) do_none (do_some de_int)) (de_tup (da_cons de_int da_nil))) da_nil))) (de_bin opMod_ok (de_bin opDiv_ok (de_var (pv 9)) de_int) de_int)) da_nil))))))) ds_nil)
    (ds_cons (ds_if (dt_cmp (opEq_ok hu) (de_bin opMod_ok (de_bin opDiv_ok (de_var (pv 9)) de_int) de_int) de_int (nomark _)) (ds_cons (ds_asg (de_callB cSorted_ok (by rfl) M.m_sorted (by decide +kernel) (da_cons (de_slice (de_var (pv 1)) do_none (do_some de_int)) da_nil)) (dg_unp (is := [15, 16]) rfl (pgs_cons (pg_name (i := 15) nd rfl (Or.inl rfl)) (pgs_cons (pg_name (i := 16) nd rfl (Or.inl rfl)) pgs_nil)) (.cons (.cons .nil))))
    (ds_cons (ds_set (i := 17) nd rfl (Or.inl rfl) (de_tup (da_cons (de_str (by decide +kernel)) (da_cons (de_bin opMul_ok (de_ix (opIx_ok hu) (de_var (pv 2)) de_int) de_int) da_nil))))
    (ds_cons (ds_set (i := 3) nd rfl (Or.inl rfl) (de_bin opAdd_ok (de_var (pv 3)) (de_lst (da_cons (de_tup (da_cons (de_str (by decide +kernel)) (da_cons (de_tup (da_cons (de_tup (da_cons (de_var (pv 15)) (da_cons (de_var (pv 17)) da_nil))) (da_cons (de_tup (da_cons (de_var (pv 16)) (da_cons (de_var (pv 17)) da_nil))) da_nil))) (da_cons de_non da_nil)))) da_nil))))
    (ds_cons (ds_set (i := 18) nd rfl (Or.inl rfl) (de_ix (opIx_ok hu) (de_lst (da_cons (de_tup (da_cons (de_str (by decide +kernel)) da_nil)) (da_cons (de_tup (da_cons (de_str (by decide +kernel)) (da_cons (de_tup da_nil) (da_cons de_non da_nil)))) da_nil))) (de_bin opMod_ok (de_bin opDiv_ok (de_var (pv 9)) de_int) de_int)))
    (ds_one (ds_set (i := 11) nd rfl (Or.inl rfl) (de_bin opAdd_ok (de_var (pv 11)) (de_lst (da_cons (de_tup (da_cons (de_str (by decide +kernel)) (da_cons (de_tup (da_cons (de_tup (da_cons (de_var (pv 15)) (da_cons (de_tup (da_cons (de_str (by decide +kernel)) da_nil)) da_nil))) (da_cons (de_tup (da_cons (de_var (pv 16)) (da_cons (de_var (pv 18)) da_nil))) da_nil))) (da_cons de_non da_nil)))) da_nil))))))))) ds_nil)
    (ds_cons (ds_set (i := 19) nd rfl (Or.inl rfl) de_newK)
    (ds_cons (ds_for (passes_of rfl) rfl (di_rangeLen (by rfl) M.m_range (by rfl) M.m_len (de_var (pv 3))) (dg_name (pg_name (i := 20) nd rfl (Or.inl rfl))) (ds_one (ds_if (dw_pt (dw_and (dt_cmp opNotN_ok (de_var (pv 19)) de_non (nomark _)) (dw_and1 (dt_not (dt_val (de_call (hC ._law_match) hr tk (by rfl) (dal_cons (de_ix (opIx_ok hu) (de_var (pv 3)) (de_var (pv 20))) (dal_cons (de_ix (opIx_ok hu) (de_var (pv 11)) (de_var (pv 20))) (dal_cons (de_var (pv 19)) dal_nil))))))))) (ds_one (ds_set (i := 19) nd rfl (Or.inl rfl) de_non)) ds_nil)))
    (ds_one (ds_ret (de_and (de_call (hC ._law_agrees) hr tk (by rfl) (dal_cons (de_var (pv 3)) (dal_cons (de_var (pv 11)) (dal_cons (de_var (pv 19)) dal_nil)))) (de_one (de_call0 (hC ._law_big) hr tk (by rfl))))))))))))))))))))))))
end

structure Facts (K : PySem.W.Frag) (mg : Str → Option Value) : Prop where
  M : Mgs mg
  XF : Xs K mg
  F_is_whole : ∃ f fd, Fun K "is_whole" "is_whole" (top 12) f fd ∧ mg "is_whole" = some (.ref f) ∧ Binds K fd ["thing"] []
  F_is_word : ∃ f fd, Fun K "is_word" "is_word" (top 13) f fd ∧ mg "is_word" = some (.ref f) ∧ Binds K fd ["thing"] []
  F_is_pair : ∃ f fd, Fun K "is_pair" "is_pair" (top 14) f fd ∧ mg "is_pair" = some (.ref f) ∧ Binds K fd ["thing"] []
  F_is_rest : ∃ f fd, Fun K "is_rest" "is_rest" (top 18) f fd ∧ mg "is_rest" = some (.ref f) ∧ Binds K fd ["thing"] []
  F_is_row : ∃ f fd, Fun K "is_row" "is_row" (top 19) f fd ∧ mg "is_row" = some (.ref f) ∧ Binds K fd ["fields", "deep"] []
  F_is_kind_in : ∃ f fd, Fun K "is_kind_in" "is_kind_in" (top 20) f fd ∧ mg "is_kind_in" = some (.ref f) ∧ Binds K fd ["thing", "deep"] []
  F_knots : ∃ f fd, Fun K "knots" "knots" (top 21) f fd ∧ mg "knots" = some (.ref f) ∧ Binds K fd ["kind"] []
  F_depth : ∃ f fd, Fun K "depth" "depth" (top 22) f fd ∧ mg "depth" = some (.ref f) ∧ Binds K fd ["kind"] []
  F_blanks_in : ∃ f fd, Fun K "blanks_in" "blanks_in" (top 23) f fd ∧ mg "blanks_in" = some (.ref f) ∧ Binds K fd ["kind", "found"] []
  F_put_blank : ∃ f fd, Fun K "put_blank" "put_blank" (top 24) f fd ∧ mg "put_blank" = some (.ref f) ∧ Binds K fd ["found", "number", "labels"] []
  F_is_kind : ∃ f fd, Fun K "is_kind" "is_kind" (top 25) f fd ∧ mg "is_kind" = some (.ref f) ∧ Binds K fd ["thing"] []
  F_are_kinds : ∃ f fd, Fun K "are_kinds" "are_kinds" (top 26) f fd ∧ mg "are_kinds" = some (.ref f) ∧ Binds K fd ["things"] []
  F_need_kind : ∃ f fd, Fun K "need_kind" "need_kind" (top 27) f fd ∧ mg "need_kind" = some (.ref f) ∧ Binds K fd ["thing"] []
  F_fill : ∃ f fd, Fun K "fill" "fill" (top 28) f fd ∧ mg "fill" = some (.ref f) ∧ Binds K fd ["kind", "fills"] []
  F_is_fill : ∃ f fd, Fun K "is_fill" "is_fill" (top 29) f fd ∧ mg "is_fill" = some (.ref f) ∧ Binds K fd ["labels", "thing"] []
  F_filled : ∃ f fd, Fun K "filled" "filled" (top 30) f fd ∧ mg "filled" = some (.ref f) ∧ Binds K fd ["kind", "fills"] []
  F_match : ∃ f fd, Fun K "match" "match" (top 31) f fd ∧ mg "match" = some (.ref f) ∧ Binds K fd ["kind", "other", "fills"] []
  F_fits : ∃ f fd, Fun K "fits" "fits" (top 32) f fd ∧ mg "fits" = some (.ref f) ∧ Binds K fd ["kinds", "others"] []
  F__law_cell : ∃ f fd, Fun K "_law_cell" "_law_cell" (top 34) f fd ∧ mg "_law_cell" = some (.ref f) ∧ Binds K fd ["_law_script", "_law_k"] []
  F__law_next : ∃ f fd, Fun K "_law_next" "_law_next" (top 35) f fd ∧ mg "_law_next" = some (.ref f) ∧ Binds K fd ["_law_state"] []
  F__law_labels : ∃ f fd, Fun K "_law_labels" "_law_labels" (top 36) f fd ∧ mg "_law_labels" = some (.ref f) ∧ Binds K fd ["_law_cell_here", "_law_many"] []
  F__law_kind : ∃ f fd, Fun K "_law_kind" "_law_kind" (top 37) f fd ∧ mg "_law_kind" = some (.ref f) ∧ Binds K fd ["_law_state", "_law_labels_here", "_law_met", "_law_left"] []
  F__law_blanks : ∃ f fd, Fun K "_law_blanks" "_law_blanks" (top 38) f fd ∧ mg "_law_blanks" = some (.ref f) ∧ Binds K fd ["_law_kind_here", "_law_found"] []
  F__law_filled : ∃ f fd, Fun K "_law_filled" "_law_filled" (top 39) f fd ∧ mg "_law_filled" = some (.ref f) ∧ Binds K fd ["_law_kind_here", "_law_fills"] []
  F__law_lone : ∃ f fd, Fun K "_law_lone" "_law_lone" (top 40) f fd ∧ mg "_law_lone" = some (.ref f) ∧ Binds K fd ["_law_e"] []
  F__law_end : ∃ f fd, Fun K "_law_end" "_law_end" (top 41) f fd ∧ mg "_law_end" = some (.ref f) ∧ Binds K fd ["_law_state", "_law_seen", "_law_words"] []
  F__law_flat : ∃ f fd, Fun K "_law_flat" "_law_flat" (top 42) f fd ∧ mg "_law_flat" = some (.ref f) ∧ Binds K fd ["_law_state", "_law_labels_here", "_law_ahead", "_law_seen"] []
  F__law_match : ∃ f fd, Fun K "_law_match" "_law_match" (top 43) f fd ∧ mg "_law_match" = some (.ref f) ∧ Binds K fd ["_law_kind_here", "_law_other", "_law_fills"] []
  F__law_bent : ∃ f fd, Fun K "_law_bent" "_law_bent" (top 44) f fd ∧ mg "_law_bent" = some (.ref f) ∧ Binds K fd ["_law_kind_here", "_law_path", "_law_labels_here"] []
  F__law_knots : ∃ f fd, Fun K "_law_knots" "_law_knots" (top 45) f fd ∧ mg "_law_knots" = some (.ref f) ∧ Binds K fd ["_law_kind_here"] []
  F__law_kinds : ∃ f fd, Fun K "_law_kinds" "_law_kinds" (top 46) f fd ∧ mg "_law_kinds" = some (.ref f) ∧ Binds K fd ["_law_script", "_law_labels_here", "_law_met"] []
  F__law_refused : ∃ f fd, Fun K "_law_refused" "_law_refused" (top 47) f fd ∧ mg "_law_refused" = some (.ref f) ∧ Binds K fd ["_law_kinds_here", "_law_others"] []
  F__law_big : ∃ f fd, Fun K "_law_big" "_law_big" (top 48) f fd ∧ mg "_law_big" = some (.ref f) ∧ Binds K fd [] []
  F__law_agrees : ∃ f fd, Fun K "_law_agrees" "_law_agrees" (top 49) f fd ∧ mg "_law_agrees" = some (.ref f) ∧ Binds K fd ["_law_kinds_here", "_law_others", "_law_due"] []
  F_law : ∃ f fd, Fun K "law" "law" (top 50) f fd ∧ mg "law" = some (.ref f) ∧ Binds K fd ["_law_script"] []
theorem all_hasE {w : World} {K : PySem.W.Frag} {mg : Str → Option Value} {base : Heap} (T : Facts K mg) : ∀ (k : Nat) (g : FnX) (y : Str) (C : Addr), okX y = true → XT K mg y C → HasE PySem.Challenge.rw_fieldrest_k04_kinds_that_fit.prog w K mg base k (nmE g) (arE g) C (fun a => runE k g a y)
  | 0, g, y, C, hy, ht => by
    cases g with
    | _law_lone => obtain ⟨f, fd, F, hm, hb⟩ := T.F__law_lone; exact ⟨f, fd, _, fun _ _ _ _ _ _ _ _ _ _ _ _ _ _ _ _ _ _ _ _ _ _ g => g.elim, hm, F.kp, hb, rfl⟩
  | k + 1, g, y, C, hy, ht => by
    cases g with
    | _law_lone => obtain ⟨f, fd, F, hm, hb⟩ := T.F__law_lone; exact ⟨f, fd, _, fnE_of F sc__law_lone finRaw_ok (fun cdv A outer s H p hot ho hr => der__law_lone T.M ht f cdv A outer s H p hot ho hr), hm, F.kp, hb, rfl⟩
theorem all_has {w : World} {K : PySem.W.Frag} {mg : Str → Option Value} {base : Heap} (T : Facts K mg) : ∀ (k : Nat) (g : Fn), Has PySem.Challenge.rw_fieldrest_k04_kinds_that_fit.prog w K mg base k (nm g) (ar g) (run k g)
  | 0, g => by
    cases g with
    | «is_whole» => obtain ⟨f, fd, F, hm, hb⟩ := T.F_is_whole; exact has_zero F hm hb rfl
    | «is_word» => obtain ⟨f, fd, F, hm, hb⟩ := T.F_is_word; exact has_zero F hm hb rfl
    | «is_pair» => obtain ⟨f, fd, F, hm, hb⟩ := T.F_is_pair; exact has_zero F hm hb rfl
    | «is_rest» => obtain ⟨f, fd, F, hm, hb⟩ := T.F_is_rest; exact has_zero F hm hb rfl
    | «is_row» => obtain ⟨f, fd, F, hm, hb⟩ := T.F_is_row; exact has_zero F hm hb rfl
    | «is_kind_in» => obtain ⟨f, fd, F, hm, hb⟩ := T.F_is_kind_in; exact has_zero F hm hb rfl
    | «knots» => obtain ⟨f, fd, F, hm, hb⟩ := T.F_knots; exact has_zero F hm hb rfl
    | «depth» => obtain ⟨f, fd, F, hm, hb⟩ := T.F_depth; exact has_zero F hm hb rfl
    | «blanks_in» => obtain ⟨f, fd, F, hm, hb⟩ := T.F_blanks_in; exact has_zero F hm hb rfl
    | «put_blank» => obtain ⟨f, fd, F, hm, hb⟩ := T.F_put_blank; exact has_zero F hm hb rfl
    | «is_kind» => obtain ⟨f, fd, F, hm, hb⟩ := T.F_is_kind; exact has_zero F hm hb rfl
    | «are_kinds» => obtain ⟨f, fd, F, hm, hb⟩ := T.F_are_kinds; exact has_zero F hm hb rfl
    | «need_kind» => obtain ⟨f, fd, F, hm, hb⟩ := T.F_need_kind; exact has_zero F hm hb rfl
    | «fill» => obtain ⟨f, fd, F, hm, hb⟩ := T.F_fill; exact has_zero F hm hb rfl
    | «is_fill» => obtain ⟨f, fd, F, hm, hb⟩ := T.F_is_fill; exact has_zero F hm hb rfl
    | «filled» => obtain ⟨f, fd, F, hm, hb⟩ := T.F_filled; exact has_zero F hm hb rfl
    | «match» => obtain ⟨f, fd, F, hm, hb⟩ := T.F_match; exact has_zero F hm hb rfl
    | «fits» => obtain ⟨f, fd, F, hm, hb⟩ := T.F_fits; exact has_zero F hm hb rfl
    | «_law_cell» => obtain ⟨f, fd, F, hm, hb⟩ := T.F__law_cell; exact has_zero F hm hb rfl
    | «_law_next» => obtain ⟨f, fd, F, hm, hb⟩ := T.F__law_next; exact has_zero F hm hb rfl
    | «_law_labels» => obtain ⟨f, fd, F, hm, hb⟩ := T.F__law_labels; exact has_zero F hm hb rfl
    | «_law_kind» => obtain ⟨f, fd, F, hm, hb⟩ := T.F__law_kind; exact has_zero F hm hb rfl
    | «_law_blanks» => obtain ⟨f, fd, F, hm, hb⟩ := T.F__law_blanks; exact has_zero F hm hb rfl
    | «_law_filled» => obtain ⟨f, fd, F, hm, hb⟩ := T.F__law_filled; exact has_zero F hm hb rfl
    | «_law_end» => obtain ⟨f, fd, F, hm, hb⟩ := T.F__law_end; exact has_zero F hm hb rfl
    | «_law_flat» => obtain ⟨f, fd, F, hm, hb⟩ := T.F__law_flat; exact has_zero F hm hb rfl
    | «_law_match» => obtain ⟨f, fd, F, hm, hb⟩ := T.F__law_match; exact has_zero F hm hb rfl
    | «_law_bent» => obtain ⟨f, fd, F, hm, hb⟩ := T.F__law_bent; exact has_zero F hm hb rfl
    | «_law_knots» => obtain ⟨f, fd, F, hm, hb⟩ := T.F__law_knots; exact has_zero F hm hb rfl
    | «_law_kinds» => obtain ⟨f, fd, F, hm, hb⟩ := T.F__law_kinds; exact has_zero F hm hb rfl
    | «_law_refused» => obtain ⟨f, fd, F, hm, hb⟩ := T.F__law_refused; exact has_zero F hm hb rfl
    | «_law_big» => obtain ⟨f, fd, F, hm, hb⟩ := T.F__law_big; exact has_zero F hm hb rfl
    | «_law_agrees» => obtain ⟨f, fd, F, hm, hb⟩ := T.F__law_agrees; exact has_zero F hm hb rfl
    | «law» => obtain ⟨f, fd, F, hm, hb⟩ := T.F_law; exact has_zero F hm hb rfl
  | k + 1, g => by
    have hC := all_has (w := w) (base := base) T k
    have hE := all_hasE (w := w) (base := base) T k
    cases g with
    | «is_whole» => obtain ⟨f, fd, F, hm, hb⟩ := T.F_is_whole; exact has_of F sc_is_whole hm hb rfl finRaw_ok (der_is_whole hC T.M hE T.XF f)
    | «is_word» => obtain ⟨f, fd, F, hm, hb⟩ := T.F_is_word; exact has_of F sc_is_word hm hb rfl finRaw_ok (der_is_word hC T.M hE T.XF f)
    | «is_pair» => obtain ⟨f, fd, F, hm, hb⟩ := T.F_is_pair; exact has_of F sc_is_pair hm hb rfl finRaw_ok (der_is_pair hC T.M hE T.XF f)
    | «is_rest» => obtain ⟨f, fd, F, hm, hb⟩ := T.F_is_rest; exact has_of F sc_is_rest hm hb rfl finRaw_ok (der_is_rest hC T.M hE T.XF f)
    | «is_row» => obtain ⟨f, fd, F, hm, hb⟩ := T.F_is_row; exact has_of F sc_is_row hm hb rfl finRaw_ok (der_is_row hC T.M hE T.XF f)
    | «is_kind_in» => obtain ⟨f, fd, F, hm, hb⟩ := T.F_is_kind_in; exact has_of F sc_is_kind_in hm hb rfl finRaw_ok (der_is_kind_in hC T.M hE T.XF f)
    | «knots» => obtain ⟨f, fd, F, hm, hb⟩ := T.F_knots; exact has_of F sc_knots hm hb rfl finRaw_ok (der_knots hC T.M hE T.XF f)
    | «depth» => obtain ⟨f, fd, F, hm, hb⟩ := T.F_depth; exact has_of F sc_depth hm hb rfl finRaw_ok (der_depth hC T.M hE T.XF f)
    | «blanks_in» => obtain ⟨f, fd, F, hm, hb⟩ := T.F_blanks_in; exact has_of F sc_blanks_in hm hb rfl finRaw_ok (der_blanks_in hC T.M hE T.XF f)
    | «put_blank» => obtain ⟨f, fd, F, hm, hb⟩ := T.F_put_blank; exact has_of F sc_put_blank hm hb rfl finRaw_ok (der_put_blank hC T.M hE T.XF f)
    | «is_kind» => obtain ⟨f, fd, F, hm, hb⟩ := T.F_is_kind; exact has_of F sc_is_kind hm hb rfl finFrz_ok (der_is_kind hC T.M hE T.XF f)
    | «are_kinds» => obtain ⟨f, fd, F, hm, hb⟩ := T.F_are_kinds; exact has_of F sc_are_kinds hm hb rfl finFrz_ok (der_are_kinds hC T.M hE T.XF f)
    | «need_kind» => obtain ⟨f, fd, F, hm, hb⟩ := T.F_need_kind; exact has_of F sc_need_kind hm hb rfl finRaw_ok (der_need_kind hC T.M hE T.XF f)
    | «fill» => obtain ⟨f, fd, F, hm, hb⟩ := T.F_fill; exact has_of F sc_fill hm hb rfl finRaw_ok (der_fill hC T.M hE T.XF f)
    | «is_fill» => obtain ⟨f, fd, F, hm, hb⟩ := T.F_is_fill; exact has_of F sc_is_fill hm hb rfl finRaw_ok (der_is_fill hC T.M hE T.XF f)
    | «filled» => obtain ⟨f, fd, F, hm, hb⟩ := T.F_filled; exact has_of F sc_filled hm hb rfl finFrz_ok (der_filled hC T.M hE T.XF f)
    | «match» => obtain ⟨f, fd, F, hm, hb⟩ := T.F_match; exact has_of F sc_match hm hb rfl finRaw_ok (der_match hC T.M hE T.XF f)
    | «fits» => obtain ⟨f, fd, F, hm, hb⟩ := T.F_fits; exact has_of F sc_fits hm hb rfl finRaw_ok (der_fits hC T.M hE T.XF f)
    | «_law_cell» => obtain ⟨f, fd, F, hm, hb⟩ := T.F__law_cell; exact has_of F sc__law_cell hm hb rfl finRaw_ok (der__law_cell hC T.M hE T.XF f)
    | «_law_next» => obtain ⟨f, fd, F, hm, hb⟩ := T.F__law_next; exact has_of F sc__law_next hm hb rfl finRaw_ok (der__law_next hC T.M hE T.XF f)
    | «_law_labels» => obtain ⟨f, fd, F, hm, hb⟩ := T.F__law_labels; exact has_of F sc__law_labels hm hb rfl finFrz_ok (der__law_labels hC T.M hE T.XF f)
    | «_law_kind» => obtain ⟨f, fd, F, hm, hb⟩ := T.F__law_kind; exact has_of F sc__law_kind hm hb rfl finRaw_ok (der__law_kind hC T.M hE T.XF f)
    | «_law_blanks» => obtain ⟨f, fd, F, hm, hb⟩ := T.F__law_blanks; exact has_of F sc__law_blanks hm hb rfl finRaw_ok (der__law_blanks hC T.M hE T.XF f)
    | «_law_filled» => obtain ⟨f, fd, F, hm, hb⟩ := T.F__law_filled; exact has_of F sc__law_filled hm hb rfl finFrz_ok (der__law_filled hC T.M hE T.XF f)
    | «_law_end» => obtain ⟨f, fd, F, hm, hb⟩ := T.F__law_end; exact has_of F sc__law_end hm hb rfl finRaw_ok (der__law_end hC T.M hE T.XF f)
    | «_law_flat» => obtain ⟨f, fd, F, hm, hb⟩ := T.F__law_flat; exact has_of F sc__law_flat hm hb rfl finRaw_ok (der__law_flat hC T.M hE T.XF f)
    | «_law_match» => obtain ⟨f, fd, F, hm, hb⟩ := T.F__law_match; exact has_of F sc__law_match hm hb rfl finRaw_ok (der__law_match hC T.M hE T.XF f)
    | «_law_bent» => obtain ⟨f, fd, F, hm, hb⟩ := T.F__law_bent; exact has_of F sc__law_bent hm hb rfl finRaw_ok (der__law_bent hC T.M hE T.XF f)
    | «_law_knots» => obtain ⟨f, fd, F, hm, hb⟩ := T.F__law_knots; exact has_of F sc__law_knots hm hb rfl finRaw_ok (der__law_knots hC T.M hE T.XF f)
    | «_law_kinds» => obtain ⟨f, fd, F, hm, hb⟩ := T.F__law_kinds; exact has_of F sc__law_kinds hm hb rfl finFrz_ok (der__law_kinds hC T.M hE T.XF f)
    | «_law_refused» => obtain ⟨f, fd, F, hm, hb⟩ := T.F__law_refused; exact has_of F sc__law_refused hm hb rfl finFrz_ok (der__law_refused hC T.M hE T.XF f)
    | «_law_big» => obtain ⟨f, fd, F, hm, hb⟩ := T.F__law_big; exact has_of F sc__law_big hm hb rfl finFrz_ok (der__law_big hC T.M hE T.XF f)
    | «_law_agrees» => obtain ⟨f, fd, F, hm, hb⟩ := T.F__law_agrees; exact has_of F sc__law_agrees hm hb rfl finFrz_ok (der__law_agrees hC T.M hE T.XF f)
    | «law» => obtain ⟨f, fd, F, hm, hb⟩ := T.F_law; exact has_of F sc_law hm hb rfl finRaw_ok (der_law hC T.M hE T.XF f)
/-- the program's top: the defs stand there as the text says -/
theorem all_mk {w : World} {K : PySem.W.Frag} {h : Heap} {mg : Str → Option Value} {fa : Addr} (X : K.In h) (G : h.Ns mainGlobals mg) (hfa : mg "law" = some (.ref fa)) {f0 f1 f2 f3 f4 f5 f6 f7 f8 f9 f10 f11 f12 f13 f14 f15 f16 f17 f18 f19 f20 f21 f22 f23 f24 f25 f26 f27 f28 f29 f30 f31 f32 f33 f34 : Addr}
    {od0 an0 od1 an1 od2 an2 od3 an3 od4 an4 od5 an5 od6 an6 od7 an7 od8 an8 od9 an9 od10 an10 od11 an11 od12 an12 od13 an13 od14 an14 od15 an15 od16 an16 od17 an17 od18 an18 od19 an19 od20 an20 od21 an21 od22 an22 od23 an23 od24 an24 od25 an25 od26 an26 od27 an27 od28 an28 od29 an29 od30 an30 od31 an31 od32 an32 od33 an33 od34 an34 : Option Addr} {sl0 sl1 sl2 sl3 sl4 sl5 sl6 sl7 sl8 sl9 sl10 sl11 sl12 sl13 sl14 sl15 sl16 sl17 sl18 sl19 sl20 sl21 sl22 sl23 sl24 sl25 sl26 sl27 sl28 sl29 sl30 sl31 sl32 sl33 sl34 : Array (Option Value)} {oc0 kV0 dc0 pm0 cd0 ct0 oc1 kV1 dc1 pm1 cd1 ct1 oc2 kV2 dc2 pm2 cd2 ct2 oc3 kV3 dc3 pm3 cd3 ct3 oc4 kV4 dc4 pm4 cd4 ct4 oc5 kV5 dc5 pm5 cd5 ct5 oc6 kV6 dc6 pm6 cd6 ct6 oc7 kV7 dc7 pm7 cd7 ct7 oc8 kV8 dc8 pm8 cd8 ct8 oc9 kV9 dc9 pm9 cd9 ct9 oc10 kV10 dc10 pm10 cd10 ct10 oc11 kV11 dc11 pm11 cd11 ct11 oc12 kV12 dc12 pm12 cd12 ct12 oc13 kV13 dc13 pm13 cd13 ct13 oc14 kV14 dc14 pm14 cd14 ct14 oc15 kV15 dc15 pm15 cd15 ct15 oc16 kV16 dc16 pm16 cd16 ct16 oc17 kV17 dc17 pm17 cd17 ct17 oc18 kV18 dc18 pm18 cd18 ct18 oc19 kV19 dc19 pm19 cd19 ct19 oc20 kV20 dc20 pm20 cd20 ct20 oc21 kV21 dc21 pm21 cd21 ct21 oc22 kV22 dc22 pm22 cd22 ct22 oc23 kV23 dc23 pm23 cd23 ct23 oc24 kV24 dc24 pm24 cd24 ct24 oc25 kV25 dc25 pm25 cd25 ct25 oc26 kV26 dc26 pm26 cd26 ct26 oc27 kV27 dc27 pm27 cd27 ct27 oc28 kV28 dc28 pm28 cd28 ct28 oc29 kV29 dc29 pm29 cd29 ct29 oc30 kV30 dc30 pm30 cd30 ct30 oc31 kV31 dc31 pm31 cd31 ct31 oc32 kV32 dc32 pm32 cd32 ct32 oc33 kV33 dc33 pm33 cd33 ct33 oc34 kV34 dc34 pm34 cd34 ct34 : Value} {tk_MOST_KIND_DEEP tk_MOST_KNOTS tk_MOST_SIGNS tk_SMALL : Tok}
    (a0 : PySem.W.nsIn K mainGlobals "is_whole" = some (some (.ref f0))) (l0 : K.lookup f0 = some ⟨oc0, od0, .func (PySem.W.fnOf "is_whole" "is_whole" (defArgs (top 12)) (defBody (top 12)) (defScope (top 12)) .none kV0 dc0 pm0 an0 cd0 ct0), sl0⟩) (c0 : PySem.W.codeIn K cd0 "is_whole" = true) (k0 : PySem.W.keepIn K (.ref f0) = true)
    (a1 : PySem.W.nsIn K mainGlobals "is_word" = some (some (.ref f1))) (l1 : K.lookup f1 = some ⟨oc1, od1, .func (PySem.W.fnOf "is_word" "is_word" (defArgs (top 13)) (defBody (top 13)) (defScope (top 13)) .none kV1 dc1 pm1 an1 cd1 ct1), sl1⟩) (c1 : PySem.W.codeIn K cd1 "is_word" = true) (k1 : PySem.W.keepIn K (.ref f1) = true)
    (a2 : PySem.W.nsIn K mainGlobals "is_pair" = some (some (.ref f2))) (l2 : K.lookup f2 = some ⟨oc2, od2, .func (PySem.W.fnOf "is_pair" "is_pair" (defArgs (top 14)) (defBody (top 14)) (defScope (top 14)) .none kV2 dc2 pm2 an2 cd2 ct2), sl2⟩) (c2 : PySem.W.codeIn K cd2 "is_pair" = true) (k2 : PySem.W.keepIn K (.ref f2) = true)
    (a3 : PySem.W.nsIn K mainGlobals "is_rest" = some (some (.ref f3))) (l3 : K.lookup f3 = some ⟨oc3, od3, .func (PySem.W.fnOf "is_rest" "is_rest" (defArgs (top 18)) (defBody (top 18)) (defScope (top 18)) .none kV3 dc3 pm3 an3 cd3 ct3), sl3⟩) (c3 : PySem.W.codeIn K cd3 "is_rest" = true) (k3 : PySem.W.keepIn K (.ref f3) = true)
    (a4 : PySem.W.nsIn K mainGlobals "is_row" = some (some (.ref f4))) (l4 : K.lookup f4 = some ⟨oc4, od4, .func (PySem.W.fnOf "is_row" "is_row" (defArgs (top 19)) (defBody (top 19)) (defScope (top 19)) .none kV4 dc4 pm4 an4 cd4 ct4), sl4⟩) (c4 : PySem.W.codeIn K cd4 "is_row" = true) (k4 : PySem.W.keepIn K (.ref f4) = true)
    (a5 : PySem.W.nsIn K mainGlobals "is_kind_in" = some (some (.ref f5))) (l5 : K.lookup f5 = some ⟨oc5, od5, .func (PySem.W.fnOf "is_kind_in" "is_kind_in" (defArgs (top 20)) (defBody (top 20)) (defScope (top 20)) .none kV5 dc5 pm5 an5 cd5 ct5), sl5⟩) (c5 : PySem.W.codeIn K cd5 "is_kind_in" = true) (k5 : PySem.W.keepIn K (.ref f5) = true)
    (a6 : PySem.W.nsIn K mainGlobals "knots" = some (some (.ref f6))) (l6 : K.lookup f6 = some ⟨oc6, od6, .func (PySem.W.fnOf "knots" "knots" (defArgs (top 21)) (defBody (top 21)) (defScope (top 21)) .none kV6 dc6 pm6 an6 cd6 ct6), sl6⟩) (c6 : PySem.W.codeIn K cd6 "knots" = true) (k6 : PySem.W.keepIn K (.ref f6) = true)
    (a7 : PySem.W.nsIn K mainGlobals "depth" = some (some (.ref f7))) (l7 : K.lookup f7 = some ⟨oc7, od7, .func (PySem.W.fnOf "depth" "depth" (defArgs (top 22)) (defBody (top 22)) (defScope (top 22)) .none kV7 dc7 pm7 an7 cd7 ct7), sl7⟩) (c7 : PySem.W.codeIn K cd7 "depth" = true) (k7 : PySem.W.keepIn K (.ref f7) = true)
    (a8 : PySem.W.nsIn K mainGlobals "blanks_in" = some (some (.ref f8))) (l8 : K.lookup f8 = some ⟨oc8, od8, .func (PySem.W.fnOf "blanks_in" "blanks_in" (defArgs (top 23)) (defBody (top 23)) (defScope (top 23)) .none kV8 dc8 pm8 an8 cd8 ct8), sl8⟩) (c8 : PySem.W.codeIn K cd8 "blanks_in" = true) (k8 : PySem.W.keepIn K (.ref f8) = true)
    (a9 : PySem.W.nsIn K mainGlobals "put_blank" = some (some (.ref f9))) (l9 : K.lookup f9 = some ⟨oc9, od9, .func (PySem.W.fnOf "put_blank" "put_blank" (defArgs (top 24)) (defBody (top 24)) (defScope (top 24)) .none kV9 dc9 pm9 an9 cd9 ct9), sl9⟩) (c9 : PySem.W.codeIn K cd9 "put_blank" = true) (k9 : PySem.W.keepIn K (.ref f9) = true)
    (a10 : PySem.W.nsIn K mainGlobals "is_kind" = some (some (.ref f10))) (l10 : K.lookup f10 = some ⟨oc10, od10, .func (PySem.W.fnOf "is_kind" "is_kind" (defArgs (top 25)) (defBody (top 25)) (defScope (top 25)) .none kV10 dc10 pm10 an10 cd10 ct10), sl10⟩) (c10 : PySem.W.codeIn K cd10 "is_kind" = true) (k10 : PySem.W.keepIn K (.ref f10) = true)
    (a11 : PySem.W.nsIn K mainGlobals "are_kinds" = some (some (.ref f11))) (l11 : K.lookup f11 = some ⟨oc11, od11, .func (PySem.W.fnOf "are_kinds" "are_kinds" (defArgs (top 26)) (defBody (top 26)) (defScope (top 26)) .none kV11 dc11 pm11 an11 cd11 ct11), sl11⟩) (c11 : PySem.W.codeIn K cd11 "are_kinds" = true) (k11 : PySem.W.keepIn K (.ref f11) = true)
    (a12 : PySem.W.nsIn K mainGlobals "need_kind" = some (some (.ref f12))) (l12 : K.lookup f12 = some ⟨oc12, od12, .func (PySem.W.fnOf "need_kind" "need_kind" (defArgs (top 27)) (defBody (top 27)) (defScope (top 27)) .none kV12 dc12 pm12 an12 cd12 ct12), sl12⟩) (c12 : PySem.W.codeIn K cd12 "need_kind" = true) (k12 : PySem.W.keepIn K (.ref f12) = true)
    (a13 : PySem.W.nsIn K mainGlobals "fill" = some (some (.ref f13))) (l13 : K.lookup f13 = some ⟨oc13, od13, .func (PySem.W.fnOf "fill" "fill" (defArgs (top 28)) (defBody (top 28)) (defScope (top 28)) .none kV13 dc13 pm13 an13 cd13 ct13), sl13⟩) (c13 : PySem.W.codeIn K cd13 "fill" = true) (k13 : PySem.W.keepIn K (.ref f13) = true)
    (a14 : PySem.W.nsIn K mainGlobals "is_fill" = some (some (.ref f14))) (l14 : K.lookup f14 = some ⟨oc14, od14, .func (PySem.W.fnOf "is_fill" "is_fill" (defArgs (top 29)) (defBody (top 29)) (defScope (top 29)) .none kV14 dc14 pm14 an14 cd14 ct14), sl14⟩) (c14 : PySem.W.codeIn K cd14 "is_fill" = true) (k14 : PySem.W.keepIn K (.ref f14) = true)
    (a15 : PySem.W.nsIn K mainGlobals "filled" = some (some (.ref f15))) (l15 : K.lookup f15 = some ⟨oc15, od15, .func (PySem.W.fnOf "filled" "filled" (defArgs (top 30)) (defBody (top 30)) (defScope (top 30)) .none kV15 dc15 pm15 an15 cd15 ct15), sl15⟩) (c15 : PySem.W.codeIn K cd15 "filled" = true) (k15 : PySem.W.keepIn K (.ref f15) = true)
    (a16 : PySem.W.nsIn K mainGlobals "match" = some (some (.ref f16))) (l16 : K.lookup f16 = some ⟨oc16, od16, .func (PySem.W.fnOf "match" "match" (defArgs (top 31)) (defBody (top 31)) (defScope (top 31)) .none kV16 dc16 pm16 an16 cd16 ct16), sl16⟩) (c16 : PySem.W.codeIn K cd16 "match" = true) (k16 : PySem.W.keepIn K (.ref f16) = true)
    (a17 : PySem.W.nsIn K mainGlobals "fits" = some (some (.ref f17))) (l17 : K.lookup f17 = some ⟨oc17, od17, .func (PySem.W.fnOf "fits" "fits" (defArgs (top 32)) (defBody (top 32)) (defScope (top 32)) .none kV17 dc17 pm17 an17 cd17 ct17), sl17⟩) (c17 : PySem.W.codeIn K cd17 "fits" = true) (k17 : PySem.W.keepIn K (.ref f17) = true)
    (a18 : PySem.W.nsIn K mainGlobals "_law_cell" = some (some (.ref f18))) (l18 : K.lookup f18 = some ⟨oc18, od18, .func (PySem.W.fnOf "_law_cell" "_law_cell" (defArgs (top 34)) (defBody (top 34)) (defScope (top 34)) .none kV18 dc18 pm18 an18 cd18 ct18), sl18⟩) (c18 : PySem.W.codeIn K cd18 "_law_cell" = true) (k18 : PySem.W.keepIn K (.ref f18) = true)
    (a19 : PySem.W.nsIn K mainGlobals "_law_next" = some (some (.ref f19))) (l19 : K.lookup f19 = some ⟨oc19, od19, .func (PySem.W.fnOf "_law_next" "_law_next" (defArgs (top 35)) (defBody (top 35)) (defScope (top 35)) .none kV19 dc19 pm19 an19 cd19 ct19), sl19⟩) (c19 : PySem.W.codeIn K cd19 "_law_next" = true) (k19 : PySem.W.keepIn K (.ref f19) = true)
    (a20 : PySem.W.nsIn K mainGlobals "_law_labels" = some (some (.ref f20))) (l20 : K.lookup f20 = some ⟨oc20, od20, .func (PySem.W.fnOf "_law_labels" "_law_labels" (defArgs (top 36)) (defBody (top 36)) (defScope (top 36)) .none kV20 dc20 pm20 an20 cd20 ct20), sl20⟩) (c20 : PySem.W.codeIn K cd20 "_law_labels" = true) (k20 : PySem.W.keepIn K (.ref f20) = true)
    (a21 : PySem.W.nsIn K mainGlobals "_law_kind" = some (some (.ref f21))) (l21 : K.lookup f21 = some ⟨oc21, od21, .func (PySem.W.fnOf "_law_kind" "_law_kind" (defArgs (top 37)) (defBody (top 37)) (defScope (top 37)) .none kV21 dc21 pm21 an21 cd21 ct21), sl21⟩) (c21 : PySem.W.codeIn K cd21 "_law_kind" = true) (k21 : PySem.W.keepIn K (.ref f21) = true)
    (a22 : PySem.W.nsIn K mainGlobals "_law_blanks" = some (some (.ref f22))) (l22 : K.lookup f22 = some ⟨oc22, od22, .func (PySem.W.fnOf "_law_blanks" "_law_blanks" (defArgs (top 38)) (defBody (top 38)) (defScope (top 38)) .none kV22 dc22 pm22 an22 cd22 ct22), sl22⟩) (c22 : PySem.W.codeIn K cd22 "_law_blanks" = true) (k22 : PySem.W.keepIn K (.ref f22) = true)
    (a23 : PySem.W.nsIn K mainGlobals "_law_filled" = some (some (.ref f23))) (l23 : K.lookup f23 = some ⟨oc23, od23, .func (PySem.W.fnOf "_law_filled" "_law_filled" (defArgs (top 39)) (defBody (top 39)) (defScope (top 39)) .none kV23 dc23 pm23 an23 cd23 ct23), sl23⟩) (c23 : PySem.W.codeIn K cd23 "_law_filled" = true) (k23 : PySem.W.keepIn K (.ref f23) = true)
    (a24 : PySem.W.nsIn K mainGlobals "_law_lone" = some (some (.ref f24))) (l24 : K.lookup f24 = some ⟨oc24, od24, .func (PySem.W.fnOf "_law_lone" "_law_lone" (defArgs (top 40)) (defBody (top 40)) (defScope (top 40)) .none kV24 dc24 pm24 an24 cd24 ct24), sl24⟩) (c24 : PySem.W.codeIn K cd24 "_law_lone" = true) (k24 : PySem.W.keepIn K (.ref f24) = true)
    (a25 : PySem.W.nsIn K mainGlobals "_law_end" = some (some (.ref f25))) (l25 : K.lookup f25 = some ⟨oc25, od25, .func (PySem.W.fnOf "_law_end" "_law_end" (defArgs (top 41)) (defBody (top 41)) (defScope (top 41)) .none kV25 dc25 pm25 an25 cd25 ct25), sl25⟩) (c25 : PySem.W.codeIn K cd25 "_law_end" = true) (k25 : PySem.W.keepIn K (.ref f25) = true)
    (a26 : PySem.W.nsIn K mainGlobals "_law_flat" = some (some (.ref f26))) (l26 : K.lookup f26 = some ⟨oc26, od26, .func (PySem.W.fnOf "_law_flat" "_law_flat" (defArgs (top 42)) (defBody (top 42)) (defScope (top 42)) .none kV26 dc26 pm26 an26 cd26 ct26), sl26⟩) (c26 : PySem.W.codeIn K cd26 "_law_flat" = true) (k26 : PySem.W.keepIn K (.ref f26) = true)
    (a27 : PySem.W.nsIn K mainGlobals "_law_match" = some (some (.ref f27))) (l27 : K.lookup f27 = some ⟨oc27, od27, .func (PySem.W.fnOf "_law_match" "_law_match" (defArgs (top 43)) (defBody (top 43)) (defScope (top 43)) .none kV27 dc27 pm27 an27 cd27 ct27), sl27⟩) (c27 : PySem.W.codeIn K cd27 "_law_match" = true) (k27 : PySem.W.keepIn K (.ref f27) = true)
    (a28 : PySem.W.nsIn K mainGlobals "_law_bent" = some (some (.ref f28))) (l28 : K.lookup f28 = some ⟨oc28, od28, .func (PySem.W.fnOf "_law_bent" "_law_bent" (defArgs (top 44)) (defBody (top 44)) (defScope (top 44)) .none kV28 dc28 pm28 an28 cd28 ct28), sl28⟩) (c28 : PySem.W.codeIn K cd28 "_law_bent" = true) (k28 : PySem.W.keepIn K (.ref f28) = true)
    (a29 : PySem.W.nsIn K mainGlobals "_law_knots" = some (some (.ref f29))) (l29 : K.lookup f29 = some ⟨oc29, od29, .func (PySem.W.fnOf "_law_knots" "_law_knots" (defArgs (top 45)) (defBody (top 45)) (defScope (top 45)) .none kV29 dc29 pm29 an29 cd29 ct29), sl29⟩) (c29 : PySem.W.codeIn K cd29 "_law_knots" = true) (k29 : PySem.W.keepIn K (.ref f29) = true)
    (a30 : PySem.W.nsIn K mainGlobals "_law_kinds" = some (some (.ref f30))) (l30 : K.lookup f30 = some ⟨oc30, od30, .func (PySem.W.fnOf "_law_kinds" "_law_kinds" (defArgs (top 46)) (defBody (top 46)) (defScope (top 46)) .none kV30 dc30 pm30 an30 cd30 ct30), sl30⟩) (c30 : PySem.W.codeIn K cd30 "_law_kinds" = true) (k30 : PySem.W.keepIn K (.ref f30) = true)
    (a31 : PySem.W.nsIn K mainGlobals "_law_refused" = some (some (.ref f31))) (l31 : K.lookup f31 = some ⟨oc31, od31, .func (PySem.W.fnOf "_law_refused" "_law_refused" (defArgs (top 47)) (defBody (top 47)) (defScope (top 47)) .none kV31 dc31 pm31 an31 cd31 ct31), sl31⟩) (c31 : PySem.W.codeIn K cd31 "_law_refused" = true) (k31 : PySem.W.keepIn K (.ref f31) = true)
    (a32 : PySem.W.nsIn K mainGlobals "_law_big" = some (some (.ref f32))) (l32 : K.lookup f32 = some ⟨oc32, od32, .func (PySem.W.fnOf "_law_big" "_law_big" (defArgs (top 48)) (defBody (top 48)) (defScope (top 48)) .none kV32 dc32 pm32 an32 cd32 ct32), sl32⟩) (c32 : PySem.W.codeIn K cd32 "_law_big" = true) (k32 : PySem.W.keepIn K (.ref f32) = true)
    (a33 : PySem.W.nsIn K mainGlobals "_law_agrees" = some (some (.ref f33))) (l33 : K.lookup f33 = some ⟨oc33, od33, .func (PySem.W.fnOf "_law_agrees" "_law_agrees" (defArgs (top 49)) (defBody (top 49)) (defScope (top 49)) .none kV33 dc33 pm33 an33 cd33 ct33), sl33⟩) (c33 : PySem.W.codeIn K cd33 "_law_agrees" = true) (k33 : PySem.W.keepIn K (.ref f33) = true)
    (a34 : PySem.W.nsIn K mainGlobals "law" = some (some (.ref f34))) (l34 : K.lookup f34 = some ⟨oc34, od34, .func (PySem.W.fnOf "law" "law" (defArgs (top 50)) (defBody (top 50)) (defScope (top 50)) .none kV34 dc34 pm34 an34 cd34 ct34), sl34⟩) (c34 : PySem.W.codeIn K cd34 "law" = true) (k34 : PySem.W.keepIn K (.ref f34) = true)
    (z_ValueError : PySem.W.nsIn K mainGlobals "ValueError" = some none)
    (z_all : PySem.W.nsIn K mainGlobals "all" = some none)
    (z_bool : PySem.W.nsIn K mainGlobals "bool" = some none)
    (z_dict : PySem.W.nsIn K mainGlobals "dict" = some none)
    (z_int : PySem.W.nsIn K mainGlobals "int" = some none)
    (z_isinstance : PySem.W.nsIn K mainGlobals "isinstance" = some none)
    (z_len : PySem.W.nsIn K mainGlobals "len" = some none)
    (z_list : PySem.W.nsIn K mainGlobals "list" = some none)
    (z_max : PySem.W.nsIn K mainGlobals "max" = some none)
    (z_range : PySem.W.nsIn K mainGlobals "range" = some none)
    (z_set : PySem.W.nsIn K mainGlobals "set" = some none)
    (z_sorted : PySem.W.nsIn K mainGlobals "sorted" = some none)
    (z_str : PySem.W.nsIn K mainGlobals "str" = some none)
    (z_sum : PySem.W.nsIn K mainGlobals "sum" = some none)
    (z_tuple : PySem.W.nsIn K mainGlobals "tuple" = some none)
    (y_MOST_KIND_DEEP : PySem.W.nsIn K mainGlobals "MOST_KIND_DEEP" = some (some (.int 12 tk_MOST_KIND_DEEP)))
    (y_MOST_KNOTS : PySem.W.nsIn K mainGlobals "MOST_KNOTS" = some (some (.int 200 tk_MOST_KNOTS)))
    (y_MOST_SIGNS : PySem.W.nsIn K mainGlobals "MOST_SIGNS" = some (some (.int 8 tk_MOST_SIGNS)))
    (y_SMALL : PySem.W.nsIn K mainGlobals "SMALL" = some (some (.str "abcdefghijklmnopqrstuvwxyz" tk_SMALL)))
    {c_BadFill c_BadKind c_Lacks c_NoDefinition c_NoNumber c_NoRecord c_TooGreat c_FieldError : Addr}
    (n_BadFill : PySem.W.nsIn K mainGlobals "BadFill" = some (some (.ref c_BadFill))) (ty_BadFill : PySem.W.typeIn K (.ref c_BadFill) = some (.type "type")) (ic_BadFill : PySem.W.isClsIn K c_BadFill = true) (ss_BadFill : PySem.W.subIn K (.ref c_BadFill) (.ref c_BadFill) = some true)
    (n_BadKind : PySem.W.nsIn K mainGlobals "BadKind" = some (some (.ref c_BadKind))) (ty_BadKind : PySem.W.typeIn K (.ref c_BadKind) = some (.type "type")) (ic_BadKind : PySem.W.isClsIn K c_BadKind = true) (ss_BadKind : PySem.W.subIn K (.ref c_BadKind) (.ref c_BadKind) = some true)
    (n_Lacks : PySem.W.nsIn K mainGlobals "Lacks" = some (some (.ref c_Lacks))) (ty_Lacks : PySem.W.typeIn K (.ref c_Lacks) = some (.type "type")) (ic_Lacks : PySem.W.isClsIn K c_Lacks = true) (ss_Lacks : PySem.W.subIn K (.ref c_Lacks) (.ref c_Lacks) = some true)
    (n_NoDefinition : PySem.W.nsIn K mainGlobals "NoDefinition" = some (some (.ref c_NoDefinition))) (ty_NoDefinition : PySem.W.typeIn K (.ref c_NoDefinition) = some (.type "type")) (ic_NoDefinition : PySem.W.isClsIn K c_NoDefinition = true) (ss_NoDefinition : PySem.W.subIn K (.ref c_NoDefinition) (.ref c_NoDefinition) = some true)
    (n_NoNumber : PySem.W.nsIn K mainGlobals "NoNumber" = some (some (.ref c_NoNumber))) (ty_NoNumber : PySem.W.typeIn K (.ref c_NoNumber) = some (.type "type")) (ic_NoNumber : PySem.W.isClsIn K c_NoNumber = true) (ss_NoNumber : PySem.W.subIn K (.ref c_NoNumber) (.ref c_NoNumber) = some true)
    (n_NoRecord : PySem.W.nsIn K mainGlobals "NoRecord" = some (some (.ref c_NoRecord))) (ty_NoRecord : PySem.W.typeIn K (.ref c_NoRecord) = some (.type "type")) (ic_NoRecord : PySem.W.isClsIn K c_NoRecord = true) (ss_NoRecord : PySem.W.subIn K (.ref c_NoRecord) (.ref c_NoRecord) = some true)
    (n_TooGreat : PySem.W.nsIn K mainGlobals "TooGreat" = some (some (.ref c_TooGreat))) (ty_TooGreat : PySem.W.typeIn K (.ref c_TooGreat) = some (.type "type")) (ic_TooGreat : PySem.W.isClsIn K c_TooGreat = true) (ss_TooGreat : PySem.W.subIn K (.ref c_TooGreat) (.ref c_TooGreat) = some true)
    (n_FieldError : PySem.W.nsIn K mainGlobals "FieldError" = some (some (.ref c_FieldError))) (ty_FieldError : PySem.W.typeIn K (.ref c_FieldError) = some (.type "type")) (ic_FieldError : PySem.W.isClsIn K c_FieldError = true) (ss_FieldError : PySem.W.subIn K (.ref c_FieldError) (.ref c_FieldError) = some true)
    (fb : PySem.W.subIn K (.ref c_FieldError) (.type "BaseException") = some true) (fh : PySem.W.hasDictIn K c_FieldError = true)
    (an : PySem.W.specialIn K (.builtin "object.__class__") "__get__" = some (some (.builtin "getset_descriptor.__get__"))) (at1 : PySem.W.takesIn K (.builtin "object.__class__") = some true)
    (x_BadKind : PySem.W.excIn K c_BadKind [.type "ValueError", .type "Exception", .type "BaseException", .type "object"] "ValueError.__new__" = true) (kk_BadKind : PySem.W.keepIn K (.ref c_BadKind) = true) (b_BadKind : PySem.W.subIn K (.ref c_BadKind) (.type "BaseException") = some true)
    (eg_BadKind : PySem.W.findIn K (.ref c_BadKind) "__getattribute__" = some (some (.builtin "BaseException.__getattribute__"))) (ek_BadKind : PySem.W.findIn K (.ref c_BadKind) "__getattr__" = some none) (ed_BadKind : PySem.W.hasDictIn K c_BadKind = true) (ea_BadKind : PySem.W.findIn K (.ref c_BadKind) "__class__" = some (some (.builtin "object.__class__"))) (em_BadKind : PySem.W.mroIn K c_BadKind (.type "object") = some true)
    (sf_BadKind : PySem.W.subIn K (.ref c_BadKind) (.ref c_FieldError) = some true) (sv_BadKind : PySem.W.subIn K (.ref c_BadKind) (.type "ValueError") = some true)
    (s_BadKind_BadFill : PySem.W.subIn K (.ref c_BadKind) (.ref c_BadFill) = some false)
    (s_BadKind_BadKind : PySem.W.subIn K (.ref c_BadKind) (.ref c_BadKind) = some true)
    (s_BadKind_Lacks : PySem.W.subIn K (.ref c_BadKind) (.ref c_Lacks) = some false)
    (s_BadKind_NoDefinition : PySem.W.subIn K (.ref c_BadKind) (.ref c_NoDefinition) = some false)
    (s_BadKind_NoNumber : PySem.W.subIn K (.ref c_BadKind) (.ref c_NoNumber) = some false)
    (s_BadKind_NoRecord : PySem.W.subIn K (.ref c_BadKind) (.ref c_NoRecord) = some false)
    (s_BadKind_TooGreat : PySem.W.subIn K (.ref c_BadKind) (.ref c_TooGreat) = some false)
    (x_BadFill : PySem.W.excIn K c_BadFill [.type "ValueError", .type "Exception", .type "BaseException", .type "object"] "ValueError.__new__" = true) (kk_BadFill : PySem.W.keepIn K (.ref c_BadFill) = true) (b_BadFill : PySem.W.subIn K (.ref c_BadFill) (.type "BaseException") = some true)
    (eg_BadFill : PySem.W.findIn K (.ref c_BadFill) "__getattribute__" = some (some (.builtin "BaseException.__getattribute__"))) (ek_BadFill : PySem.W.findIn K (.ref c_BadFill) "__getattr__" = some none) (ed_BadFill : PySem.W.hasDictIn K c_BadFill = true) (ea_BadFill : PySem.W.findIn K (.ref c_BadFill) "__class__" = some (some (.builtin "object.__class__"))) (em_BadFill : PySem.W.mroIn K c_BadFill (.type "object") = some true)
    (sf_BadFill : PySem.W.subIn K (.ref c_BadFill) (.ref c_FieldError) = some true) (sv_BadFill : PySem.W.subIn K (.ref c_BadFill) (.type "ValueError") = some true)
    (s_BadFill_BadFill : PySem.W.subIn K (.ref c_BadFill) (.ref c_BadFill) = some true)
    (s_BadFill_BadKind : PySem.W.subIn K (.ref c_BadFill) (.ref c_BadKind) = some false)
    (s_BadFill_Lacks : PySem.W.subIn K (.ref c_BadFill) (.ref c_Lacks) = some false)
    (s_BadFill_NoDefinition : PySem.W.subIn K (.ref c_BadFill) (.ref c_NoDefinition) = some false)
    (s_BadFill_NoNumber : PySem.W.subIn K (.ref c_BadFill) (.ref c_NoNumber) = some false)
    (s_BadFill_NoRecord : PySem.W.subIn K (.ref c_BadFill) (.ref c_NoRecord) = some false)
    (s_BadFill_TooGreat : PySem.W.subIn K (.ref c_BadFill) (.ref c_TooGreat) = some false)
    (x_TooGreat : PySem.W.excIn K c_TooGreat [.type "ValueError", .type "Exception", .type "BaseException", .type "object"] "ValueError.__new__" = true) (kk_TooGreat : PySem.W.keepIn K (.ref c_TooGreat) = true) (b_TooGreat : PySem.W.subIn K (.ref c_TooGreat) (.type "BaseException") = some true)
    (eg_TooGreat : PySem.W.findIn K (.ref c_TooGreat) "__getattribute__" = some (some (.builtin "BaseException.__getattribute__"))) (ek_TooGreat : PySem.W.findIn K (.ref c_TooGreat) "__getattr__" = some none) (ed_TooGreat : PySem.W.hasDictIn K c_TooGreat = true) (ea_TooGreat : PySem.W.findIn K (.ref c_TooGreat) "__class__" = some (some (.builtin "object.__class__"))) (em_TooGreat : PySem.W.mroIn K c_TooGreat (.type "object") = some true)
    (sf_TooGreat : PySem.W.subIn K (.ref c_TooGreat) (.ref c_FieldError) = some true) (sv_TooGreat : PySem.W.subIn K (.ref c_TooGreat) (.type "ValueError") = some true)
    (s_TooGreat_BadFill : PySem.W.subIn K (.ref c_TooGreat) (.ref c_BadFill) = some false)
    (s_TooGreat_BadKind : PySem.W.subIn K (.ref c_TooGreat) (.ref c_BadKind) = some false)
    (s_TooGreat_Lacks : PySem.W.subIn K (.ref c_TooGreat) (.ref c_Lacks) = some false)
    (s_TooGreat_NoDefinition : PySem.W.subIn K (.ref c_TooGreat) (.ref c_NoDefinition) = some false)
    (s_TooGreat_NoNumber : PySem.W.subIn K (.ref c_TooGreat) (.ref c_NoNumber) = some false)
    (s_TooGreat_NoRecord : PySem.W.subIn K (.ref c_TooGreat) (.ref c_NoRecord) = some false)
    (s_TooGreat_TooGreat : PySem.W.subIn K (.ref c_TooGreat) (.ref c_TooGreat) = some true)
    (main : ∀ ns : List Int, ns.length ≤ 63 → ∃ S', run 60 .law [.scr (ns.map D.int)] [] = .ok (.bl true) S') :
    ∃ fd : FuncData, (∀ (s : Shared) (v : Value), BindsTo s fd ⟨[v], []⟩ [("_law_script", v)]) ∧ ∀ base : Heap, K.In base → base.Ns mainGlobals mg → FnOk PySem.Challenge.rw_fieldrest_k04_kinds_that_fit.prog w K mg base (L2N.CX PySem.Challenge.rw_fieldrest_k04_kinds_that_fit.prog w) 60 fa fd ["_law_script"] (spLaw K) := by
  have T : Facts K mg := by
    have hX : Xs K mg := by
      refine ⟨⟨c_FieldError, PySem.W.mg_of X G n_FieldError, fun y hy => ?_⟩⟩
      simp only [okX, Bool.or_eq_true, decide_eq_true_eq] at hy
      rcases hy with (hy | hy) | hy
      · subst hy
        exact ⟨c_BadKind, ⟨⟨PySem.W.mg_of X G n_BadKind, x_BadKind, kk_BadKind, b_BadKind, ty_BadKind, ⟨eg_BadKind, ek_BadKind, b_BadKind, ed_BadKind, ea_BadKind, an, at1, em_BadKind⟩⟩, ⟨c_BadFill, PySem.W.mg_of X G n_BadFill, by rw [show isx (Str.ofString "BadKind") (Str.ofString "BadFill") = false from by decide +kernel]; exact kit_own ic_BadFill ty_BadFill s_BadKind_BadFill ss_BadFill⟩, ⟨c_BadKind, PySem.W.mg_of X G n_BadKind, by rw [show isx (Str.ofString "BadKind") (Str.ofString "BadKind") = true from by decide +kernel]; exact kit_own ic_BadKind ty_BadKind s_BadKind_BadKind ss_BadKind⟩, ⟨c_Lacks, PySem.W.mg_of X G n_Lacks, by rw [show isx (Str.ofString "BadKind") (Str.ofString "Lacks") = false from by decide +kernel]; exact kit_own ic_Lacks ty_Lacks s_BadKind_Lacks ss_Lacks⟩, ⟨c_NoDefinition, PySem.W.mg_of X G n_NoDefinition, by rw [show isx (Str.ofString "BadKind") (Str.ofString "NoDefinition") = false from by decide +kernel]; exact kit_own ic_NoDefinition ty_NoDefinition s_BadKind_NoDefinition ss_NoDefinition⟩, ⟨c_NoNumber, PySem.W.mg_of X G n_NoNumber, by rw [show isx (Str.ofString "BadKind") (Str.ofString "NoNumber") = false from by decide +kernel]; exact kit_own ic_NoNumber ty_NoNumber s_BadKind_NoNumber ss_NoNumber⟩, ⟨c_NoRecord, PySem.W.mg_of X G n_NoRecord, by rw [show isx (Str.ofString "BadKind") (Str.ofString "NoRecord") = false from by decide +kernel]; exact kit_own ic_NoRecord ty_NoRecord s_BadKind_NoRecord ss_NoRecord⟩, ⟨c_TooGreat, PySem.W.mg_of X G n_TooGreat, by rw [show isx (Str.ofString "BadKind") (Str.ofString "TooGreat") = false from by decide +kernel]; exact kit_own ic_TooGreat ty_TooGreat s_BadKind_TooGreat ss_TooGreat⟩, by rw [show isx (Str.ofString "BadKind") (Str.ofString "ValueError") = true from by decide +kernel]; exact kit_val sv_BadKind⟩, PySem.W.exm_ref fb fh ty_FieldError sf_BadKind⟩
      · subst hy
        exact ⟨c_BadFill, ⟨⟨PySem.W.mg_of X G n_BadFill, x_BadFill, kk_BadFill, b_BadFill, ty_BadFill, ⟨eg_BadFill, ek_BadFill, b_BadFill, ed_BadFill, ea_BadFill, an, at1, em_BadFill⟩⟩, ⟨c_BadFill, PySem.W.mg_of X G n_BadFill, by rw [show isx (Str.ofString "BadFill") (Str.ofString "BadFill") = true from by decide +kernel]; exact kit_own ic_BadFill ty_BadFill s_BadFill_BadFill ss_BadFill⟩, ⟨c_BadKind, PySem.W.mg_of X G n_BadKind, by rw [show isx (Str.ofString "BadFill") (Str.ofString "BadKind") = false from by decide +kernel]; exact kit_own ic_BadKind ty_BadKind s_BadFill_BadKind ss_BadKind⟩, ⟨c_Lacks, PySem.W.mg_of X G n_Lacks, by rw [show isx (Str.ofString "BadFill") (Str.ofString "Lacks") = false from by decide +kernel]; exact kit_own ic_Lacks ty_Lacks s_BadFill_Lacks ss_Lacks⟩, ⟨c_NoDefinition, PySem.W.mg_of X G n_NoDefinition, by rw [show isx (Str.ofString "BadFill") (Str.ofString "NoDefinition") = false from by decide +kernel]; exact kit_own ic_NoDefinition ty_NoDefinition s_BadFill_NoDefinition ss_NoDefinition⟩, ⟨c_NoNumber, PySem.W.mg_of X G n_NoNumber, by rw [show isx (Str.ofString "BadFill") (Str.ofString "NoNumber") = false from by decide +kernel]; exact kit_own ic_NoNumber ty_NoNumber s_BadFill_NoNumber ss_NoNumber⟩, ⟨c_NoRecord, PySem.W.mg_of X G n_NoRecord, by rw [show isx (Str.ofString "BadFill") (Str.ofString "NoRecord") = false from by decide +kernel]; exact kit_own ic_NoRecord ty_NoRecord s_BadFill_NoRecord ss_NoRecord⟩, ⟨c_TooGreat, PySem.W.mg_of X G n_TooGreat, by rw [show isx (Str.ofString "BadFill") (Str.ofString "TooGreat") = false from by decide +kernel]; exact kit_own ic_TooGreat ty_TooGreat s_BadFill_TooGreat ss_TooGreat⟩, by rw [show isx (Str.ofString "BadFill") (Str.ofString "ValueError") = true from by decide +kernel]; exact kit_val sv_BadFill⟩, PySem.W.exm_ref fb fh ty_FieldError sf_BadFill⟩
      · subst hy
        exact ⟨c_TooGreat, ⟨⟨PySem.W.mg_of X G n_TooGreat, x_TooGreat, kk_TooGreat, b_TooGreat, ty_TooGreat, ⟨eg_TooGreat, ek_TooGreat, b_TooGreat, ed_TooGreat, ea_TooGreat, an, at1, em_TooGreat⟩⟩, ⟨c_BadFill, PySem.W.mg_of X G n_BadFill, by rw [show isx (Str.ofString "TooGreat") (Str.ofString "BadFill") = false from by decide +kernel]; exact kit_own ic_BadFill ty_BadFill s_TooGreat_BadFill ss_BadFill⟩, ⟨c_BadKind, PySem.W.mg_of X G n_BadKind, by rw [show isx (Str.ofString "TooGreat") (Str.ofString "BadKind") = false from by decide +kernel]; exact kit_own ic_BadKind ty_BadKind s_TooGreat_BadKind ss_BadKind⟩, ⟨c_Lacks, PySem.W.mg_of X G n_Lacks, by rw [show isx (Str.ofString "TooGreat") (Str.ofString "Lacks") = false from by decide +kernel]; exact kit_own ic_Lacks ty_Lacks s_TooGreat_Lacks ss_Lacks⟩, ⟨c_NoDefinition, PySem.W.mg_of X G n_NoDefinition, by rw [show isx (Str.ofString "TooGreat") (Str.ofString "NoDefinition") = false from by decide +kernel]; exact kit_own ic_NoDefinition ty_NoDefinition s_TooGreat_NoDefinition ss_NoDefinition⟩, ⟨c_NoNumber, PySem.W.mg_of X G n_NoNumber, by rw [show isx (Str.ofString "TooGreat") (Str.ofString "NoNumber") = false from by decide +kernel]; exact kit_own ic_NoNumber ty_NoNumber s_TooGreat_NoNumber ss_NoNumber⟩, ⟨c_NoRecord, PySem.W.mg_of X G n_NoRecord, by rw [show isx (Str.ofString "TooGreat") (Str.ofString "NoRecord") = false from by decide +kernel]; exact kit_own ic_NoRecord ty_NoRecord s_TooGreat_NoRecord ss_NoRecord⟩, ⟨c_TooGreat, PySem.W.mg_of X G n_TooGreat, by rw [show isx (Str.ofString "TooGreat") (Str.ofString "TooGreat") = true from by decide +kernel]; exact kit_own ic_TooGreat ty_TooGreat s_TooGreat_TooGreat ss_TooGreat⟩, by rw [show isx (Str.ofString "TooGreat") (Str.ofString "ValueError") = true from by decide +kernel]; exact kit_val sv_TooGreat⟩, PySem.W.exm_ref fb fh ty_FieldError sf_TooGreat⟩
    refine ⟨⟨PySem.W.mg_none_of X G z_ValueError, PySem.W.mg_none_of X G z_all, PySem.W.mg_none_of X G z_bool, PySem.W.mg_none_of X G z_dict, PySem.W.mg_none_of X G z_int, PySem.W.mg_none_of X G z_isinstance, PySem.W.mg_none_of X G z_len, PySem.W.mg_none_of X G z_list, PySem.W.mg_none_of X G z_max, PySem.W.mg_none_of X G z_range, PySem.W.mg_none_of X G z_set, PySem.W.mg_none_of X G z_sorted, PySem.W.mg_none_of X G z_str, PySem.W.mg_none_of X G z_sum, PySem.W.mg_none_of X G z_tuple, ⟨tk_MOST_KIND_DEEP, PySem.W.mg_of X G y_MOST_KIND_DEEP⟩, ⟨tk_MOST_KNOTS, PySem.W.mg_of X G y_MOST_KNOTS⟩, ⟨tk_MOST_SIGNS, PySem.W.mg_of X G y_MOST_SIGNS⟩, ⟨tk_SMALL, PySem.W.mg_of X G y_SMALL⟩⟩, hX, ?_, ?_, ?_, ?_, ?_, ?_, ?_, ?_, ?_, ?_, ?_, ?_, ?_, ?_, ?_, ?_, ?_, ?_, ?_, ?_, ?_, ?_, ?_, ?_, ?_, ?_, ?_, ?_, ?_, ?_, ?_, ?_, ?_, ?_, ?_⟩
    · exact ⟨f0, _, fun_mk (st := top 12) l0 c0 k0, PySem.W.mg_of X G a0, (fun_mk (st := top 12) l0 c0 k0).binds (ps := ["thing"]) fun _ _ _ _ _ _ us hl => match us, hl with | [_], _ => rfl⟩
    · exact ⟨f1, _, fun_mk (st := top 13) l1 c1 k1, PySem.W.mg_of X G a1, (fun_mk (st := top 13) l1 c1 k1).binds (ps := ["thing"]) fun _ _ _ _ _ _ us hl => match us, hl with | [_], _ => rfl⟩
    · exact ⟨f2, _, fun_mk (st := top 14) l2 c2 k2, PySem.W.mg_of X G a2, (fun_mk (st := top 14) l2 c2 k2).binds (ps := ["thing"]) fun _ _ _ _ _ _ us hl => match us, hl with | [_], _ => rfl⟩
    · exact ⟨f3, _, fun_mk (st := top 18) l3 c3 k3, PySem.W.mg_of X G a3, (fun_mk (st := top 18) l3 c3 k3).binds (ps := ["thing"]) fun _ _ _ _ _ _ us hl => match us, hl with | [_], _ => rfl⟩
    · exact ⟨f4, _, fun_mk (st := top 19) l4 c4 k4, PySem.W.mg_of X G a4, (fun_mk (st := top 19) l4 c4 k4).binds (ps := ["fields", "deep"]) fun _ _ _ _ _ _ us hl => match us, hl with | [_, _], _ => rfl⟩
    · exact ⟨f5, _, fun_mk (st := top 20) l5 c5 k5, PySem.W.mg_of X G a5, (fun_mk (st := top 20) l5 c5 k5).binds (ps := ["thing", "deep"]) fun _ _ _ _ _ _ us hl => match us, hl with | [_, _], _ => rfl⟩
    · exact ⟨f6, _, fun_mk (st := top 21) l6 c6 k6, PySem.W.mg_of X G a6, (fun_mk (st := top 21) l6 c6 k6).binds (ps := ["kind"]) fun _ _ _ _ _ _ us hl => match us, hl with | [_], _ => rfl⟩
    · exact ⟨f7, _, fun_mk (st := top 22) l7 c7 k7, PySem.W.mg_of X G a7, (fun_mk (st := top 22) l7 c7 k7).binds (ps := ["kind"]) fun _ _ _ _ _ _ us hl => match us, hl with | [_], _ => rfl⟩
    · exact ⟨f8, _, fun_mk (st := top 23) l8 c8 k8, PySem.W.mg_of X G a8, (fun_mk (st := top 23) l8 c8 k8).binds (ps := ["kind", "found"]) fun _ _ _ _ _ _ us hl => match us, hl with | [_, _], _ => rfl⟩
    · exact ⟨f9, _, fun_mk (st := top 24) l9 c9 k9, PySem.W.mg_of X G a9, (fun_mk (st := top 24) l9 c9 k9).binds (ps := ["found", "number", "labels"]) fun _ _ _ _ _ _ us hl => match us, hl with | [_, _, _], _ => rfl⟩
    · exact ⟨f10, _, fun_mk (st := top 25) l10 c10 k10, PySem.W.mg_of X G a10, (fun_mk (st := top 25) l10 c10 k10).binds (ps := ["thing"]) fun _ _ _ _ _ _ us hl => match us, hl with | [_], _ => rfl⟩
    · exact ⟨f11, _, fun_mk (st := top 26) l11 c11 k11, PySem.W.mg_of X G a11, (fun_mk (st := top 26) l11 c11 k11).binds (ps := ["things"]) fun _ _ _ _ _ _ us hl => match us, hl with | [_], _ => rfl⟩
    · exact ⟨f12, _, fun_mk (st := top 27) l12 c12 k12, PySem.W.mg_of X G a12, (fun_mk (st := top 27) l12 c12 k12).binds (ps := ["thing"]) fun _ _ _ _ _ _ us hl => match us, hl with | [_], _ => rfl⟩
    · exact ⟨f13, _, fun_mk (st := top 28) l13 c13 k13, PySem.W.mg_of X G a13, (fun_mk (st := top 28) l13 c13 k13).binds (ps := ["kind", "fills"]) fun _ _ _ _ _ _ us hl => match us, hl with | [_, _], _ => rfl⟩
    · exact ⟨f14, _, fun_mk (st := top 29) l14 c14 k14, PySem.W.mg_of X G a14, (fun_mk (st := top 29) l14 c14 k14).binds (ps := ["labels", "thing"]) fun _ _ _ _ _ _ us hl => match us, hl with | [_, _], _ => rfl⟩
    · exact ⟨f15, _, fun_mk (st := top 30) l15 c15 k15, PySem.W.mg_of X G a15, (fun_mk (st := top 30) l15 c15 k15).binds (ps := ["kind", "fills"]) fun _ _ _ _ _ _ us hl => match us, hl with | [_, _], _ => rfl⟩
    · exact ⟨f16, _, fun_mk (st := top 31) l16 c16 k16, PySem.W.mg_of X G a16, (fun_mk (st := top 31) l16 c16 k16).binds (ps := ["kind", "other", "fills"]) fun _ _ _ _ _ _ us hl => match us, hl with | [_, _, _], _ => rfl⟩
    · exact ⟨f17, _, fun_mk (st := top 32) l17 c17 k17, PySem.W.mg_of X G a17, (fun_mk (st := top 32) l17 c17 k17).binds (ps := ["kinds", "others"]) fun _ _ _ _ _ _ us hl => match us, hl with | [_, _], _ => rfl⟩
    · exact ⟨f18, _, fun_mk (st := top 34) l18 c18 k18, PySem.W.mg_of X G a18, (fun_mk (st := top 34) l18 c18 k18).binds (ps := ["_law_script", "_law_k"]) fun _ _ _ _ _ _ us hl => match us, hl with | [_, _], _ => rfl⟩
    · exact ⟨f19, _, fun_mk (st := top 35) l19 c19 k19, PySem.W.mg_of X G a19, (fun_mk (st := top 35) l19 c19 k19).binds (ps := ["_law_state"]) fun _ _ _ _ _ _ us hl => match us, hl with | [_], _ => rfl⟩
    · exact ⟨f20, _, fun_mk (st := top 36) l20 c20 k20, PySem.W.mg_of X G a20, (fun_mk (st := top 36) l20 c20 k20).binds (ps := ["_law_cell_here", "_law_many"]) fun _ _ _ _ _ _ us hl => match us, hl with | [_, _], _ => rfl⟩
    · exact ⟨f21, _, fun_mk (st := top 37) l21 c21 k21, PySem.W.mg_of X G a21, (fun_mk (st := top 37) l21 c21 k21).binds (ps := ["_law_state", "_law_labels_here", "_law_met", "_law_left"]) fun _ _ _ _ _ _ us hl => match us, hl with | [_, _, _, _], _ => rfl⟩
    · exact ⟨f22, _, fun_mk (st := top 38) l22 c22 k22, PySem.W.mg_of X G a22, (fun_mk (st := top 38) l22 c22 k22).binds (ps := ["_law_kind_here", "_law_found"]) fun _ _ _ _ _ _ us hl => match us, hl with | [_, _], _ => rfl⟩
    · exact ⟨f23, _, fun_mk (st := top 39) l23 c23 k23, PySem.W.mg_of X G a23, (fun_mk (st := top 39) l23 c23 k23).binds (ps := ["_law_kind_here", "_law_fills"]) fun _ _ _ _ _ _ us hl => match us, hl with | [_, _], _ => rfl⟩
    · exact ⟨f24, _, fun_mk (st := top 40) l24 c24 k24, PySem.W.mg_of X G a24, (fun_mk (st := top 40) l24 c24 k24).binds (ps := ["_law_e"]) fun _ _ _ _ _ _ us hl => match us, hl with | [_], _ => rfl⟩
    · exact ⟨f25, _, fun_mk (st := top 41) l25 c25 k25, PySem.W.mg_of X G a25, (fun_mk (st := top 41) l25 c25 k25).binds (ps := ["_law_state", "_law_seen", "_law_words"]) fun _ _ _ _ _ _ us hl => match us, hl with | [_, _, _], _ => rfl⟩
    · exact ⟨f26, _, fun_mk (st := top 42) l26 c26 k26, PySem.W.mg_of X G a26, (fun_mk (st := top 42) l26 c26 k26).binds (ps := ["_law_state", "_law_labels_here", "_law_ahead", "_law_seen"]) fun _ _ _ _ _ _ us hl => match us, hl with | [_, _, _, _], _ => rfl⟩
    · exact ⟨f27, _, fun_mk (st := top 43) l27 c27 k27, PySem.W.mg_of X G a27, (fun_mk (st := top 43) l27 c27 k27).binds (ps := ["_law_kind_here", "_law_other", "_law_fills"]) fun _ _ _ _ _ _ us hl => match us, hl with | [_, _, _], _ => rfl⟩
    · exact ⟨f28, _, fun_mk (st := top 44) l28 c28 k28, PySem.W.mg_of X G a28, (fun_mk (st := top 44) l28 c28 k28).binds (ps := ["_law_kind_here", "_law_path", "_law_labels_here"]) fun _ _ _ _ _ _ us hl => match us, hl with | [_, _, _], _ => rfl⟩
    · exact ⟨f29, _, fun_mk (st := top 45) l29 c29 k29, PySem.W.mg_of X G a29, (fun_mk (st := top 45) l29 c29 k29).binds (ps := ["_law_kind_here"]) fun _ _ _ _ _ _ us hl => match us, hl with | [_], _ => rfl⟩
    · exact ⟨f30, _, fun_mk (st := top 46) l30 c30 k30, PySem.W.mg_of X G a30, (fun_mk (st := top 46) l30 c30 k30).binds (ps := ["_law_script", "_law_labels_here", "_law_met"]) fun _ _ _ _ _ _ us hl => match us, hl with | [_, _, _], _ => rfl⟩
    · exact ⟨f31, _, fun_mk (st := top 47) l31 c31 k31, PySem.W.mg_of X G a31, (fun_mk (st := top 47) l31 c31 k31).binds (ps := ["_law_kinds_here", "_law_others"]) fun _ _ _ _ _ _ us hl => match us, hl with | [_, _], _ => rfl⟩
    · exact ⟨f32, _, fun_mk (st := top 48) l32 c32 k32, PySem.W.mg_of X G a32, (fun_mk (st := top 48) l32 c32 k32).binds (ps := []) fun _ _ _ _ _ _ us hl => match us, hl with | [], _ => rfl⟩
    · exact ⟨f33, _, fun_mk (st := top 49) l33 c33 k33, PySem.W.mg_of X G a33, (fun_mk (st := top 49) l33 c33 k33).binds (ps := ["_law_kinds_here", "_law_others", "_law_due"]) fun _ _ _ _ _ _ us hl => match us, hl with | [_, _, _], _ => rfl⟩
    · exact ⟨f34, _, fun_mk (st := top 50) l34 c34 k34, PySem.W.mg_of X G a34, (fun_mk (st := top 50) l34 c34 k34).binds (ps := ["_law_script"]) fun _ _ _ _ _ _ us hl => match us, hl with | [_], _ => rfl⟩
  have e := hfa.symm.trans (PySem.W.mg_of X G a34)
  cases e
  refine ⟨PySem.W.fnOf "law" "law" (defArgs (top 50)) (defBody (top 50)) (defScope (top 50)) .none kV34 dc34 pm34 an34 cd34 ct34, fun s v => .of_eq rfl, fun base _ _ => ?_⟩
  have Fl := fun_mk (st := top 50) l34 c34 k34
  have hC := all_has (w := w) (base := base) T 59
  have hE := all_hasE (w := w) (base := base) T 59
  have Fk := has_fn Fl sc_law rfl finRaw_ok (der_law hC T.M hE T.XF fa)
  exact law_fn Fk main
end K_k04

open PySem PySem.W PyProof.Rows
set_option maxRecDepth 100000 in
set_option maxHeartbeats 0 in
theorem PySem.Challenge.cw_fieldrest_k04_kinds_that_fit_holds : PySem.Challenge.rw_fieldrest_k04_kinds_that_fit.Holds := by
  w_on; o_law; k_head; (case hw => w_witness2)
  k_fill
  refine PM.walk (l := PySem.Challenge.rw_fieldrest_k04_kinds_that_fit) (N := 60) (x := "_law_script") rfl rfl ⟨rfl, by decide, by decide⟩ (fun w h Y => PySem.W.kIn_of Y) ?F
  case F =>
    intro w mg fa h KX G hmg
    refine' K_k04.all_mk KX G hmg ?a0 ?l0 ?c0 ?k0 ?a1 ?l1 ?c1 ?k1 ?a2 ?l2 ?c2 ?k2 ?a3 ?l3 ?c3 ?k3 ?a4 ?l4 ?c4 ?k4 ?a5 ?l5 ?c5 ?k5 ?a6 ?l6 ?c6 ?k6 ?a7 ?l7 ?c7 ?k7 ?a8 ?l8 ?c8 ?k8 ?a9 ?l9 ?c9 ?k9 ?a10 ?l10 ?c10 ?k10 ?a11 ?l11 ?c11 ?k11 ?a12 ?l12 ?c12 ?k12 ?a13 ?l13 ?c13 ?k13 ?a14 ?l14 ?c14 ?k14 ?a15 ?l15 ?c15 ?k15 ?a16 ?l16 ?c16 ?k16 ?a17 ?l17 ?c17 ?k17 ?a18 ?l18 ?c18 ?k18 ?a19 ?l19 ?c19 ?k19 ?a20 ?l20 ?c20 ?k20 ?a21 ?l21 ?c21 ?k21 ?a22 ?l22 ?c22 ?k22 ?a23 ?l23 ?c23 ?k23 ?a24 ?l24 ?c24 ?k24 ?a25 ?l25 ?c25 ?k25 ?a26 ?l26 ?c26 ?k26 ?a27 ?l27 ?c27 ?k27 ?a28 ?l28 ?c28 ?k28 ?a29 ?l29 ?c29 ?k29 ?a30 ?l30 ?c30 ?k30 ?a31 ?l31 ?c31 ?k31 ?a32 ?l32 ?c32 ?k32 ?a33 ?l33 ?c33 ?k33 ?a34 ?l34 ?c34 ?k34 ?z_ValueError ?z_all ?z_bool ?z_dict ?z_int ?z_isinstance ?z_len ?z_list ?z_max ?z_range ?z_set ?z_sorted ?z_str ?z_sum ?z_tuple ?y_MOST_KIND_DEEP ?y_MOST_KNOTS ?y_MOST_SIGNS ?y_SMALL ?n_BadFill ?ty_BadFill ?ic_BadFill ?ss_BadFill ?n_BadKind ?ty_BadKind ?ic_BadKind ?ss_BadKind ?n_Lacks ?ty_Lacks ?ic_Lacks ?ss_Lacks ?n_NoDefinition ?ty_NoDefinition ?ic_NoDefinition ?ss_NoDefinition ?n_NoNumber ?ty_NoNumber ?ic_NoNumber ?ss_NoNumber ?n_NoRecord ?ty_NoRecord ?ic_NoRecord ?ss_NoRecord ?n_TooGreat ?ty_TooGreat ?ic_TooGreat ?ss_TooGreat ?n_FieldError ?ty_FieldError ?ic_FieldError ?ss_FieldError ?fb ?fh ?an ?at1 ?x_BadKind ?kk_BadKind ?b_BadKind ?eg_BadKind ?ek_BadKind ?ed_BadKind ?ea_BadKind ?em_BadKind ?sf_BadKind ?sv_BadKind ?s_BadKind_BadFill ?s_BadKind_BadKind ?s_BadKind_Lacks ?s_BadKind_NoDefinition ?s_BadKind_NoNumber ?s_BadKind_NoRecord ?s_BadKind_TooGreat ?x_BadFill ?kk_BadFill ?b_BadFill ?eg_BadFill ?ek_BadFill ?ed_BadFill ?ea_BadFill ?em_BadFill ?sf_BadFill ?sv_BadFill ?s_BadFill_BadFill ?s_BadFill_BadKind ?s_BadFill_Lacks ?s_BadFill_NoDefinition ?s_BadFill_NoNumber ?s_BadFill_NoRecord ?s_BadFill_TooGreat ?x_TooGreat ?kk_TooGreat ?b_TooGreat ?eg_TooGreat ?ek_TooGreat ?ed_TooGreat ?ea_TooGreat ?em_TooGreat ?sf_TooGreat ?sv_TooGreat ?s_TooGreat_BadFill ?s_TooGreat_BadKind ?s_TooGreat_Lacks ?s_TooGreat_NoDefinition ?s_TooGreat_NoNumber ?s_TooGreat_NoRecord ?s_TooGreat_TooGreat K_k04.main_ok
    (case a0 => k_is); (case l0 => k_is); (case c0 => k_is); (case k0 => k_is)
    (case a1 => k_is); (case l1 => k_is); (case c1 => k_is); (case k1 => k_is)
    (case a2 => k_is); (case l2 => k_is); (case c2 => k_is); (case k2 => k_is)
    (case a3 => k_is); (case l3 => k_is); (case c3 => k_is); (case k3 => k_is)
    (case a4 => k_is); (case l4 => k_is); (case c4 => k_is); (case k4 => k_is)
    (case a5 => k_is); (case l5 => k_is); (case c5 => k_is); (case k5 => k_is)
    (case a6 => k_is); (case l6 => k_is); (case c6 => k_is); (case k6 => k_is)
    (case a7 => k_is); (case l7 => k_is); (case c7 => k_is); (case k7 => k_is)
    (case a8 => k_is); (case l8 => k_is); (case c8 => k_is); (case k8 => k_is)
    (case a9 => k_is); (case l9 => k_is); (case c9 => k_is); (case k9 => k_is)
    (case a10 => k_is); (case l10 => k_is); (case c10 => k_is); (case k10 => k_is)
    (case a11 => k_is); (case l11 => k_is); (case c11 => k_is); (case k11 => k_is)
    (case a12 => k_is); (case l12 => k_is); (case c12 => k_is); (case k12 => k_is)
    (case a13 => k_is); (case l13 => k_is); (case c13 => k_is); (case k13 => k_is)
    (case a14 => k_is); (case l14 => k_is); (case c14 => k_is); (case k14 => k_is)
    (case a15 => k_is); (case l15 => k_is); (case c15 => k_is); (case k15 => k_is)
    (case a16 => k_is); (case l16 => k_is); (case c16 => k_is); (case k16 => k_is)
    (case a17 => k_is); (case l17 => k_is); (case c17 => k_is); (case k17 => k_is)
    (case a18 => k_is); (case l18 => k_is); (case c18 => k_is); (case k18 => k_is)
    (case a19 => k_is); (case l19 => k_is); (case c19 => k_is); (case k19 => k_is)
    (case a20 => k_is); (case l20 => k_is); (case c20 => k_is); (case k20 => k_is)
    (case a21 => k_is); (case l21 => k_is); (case c21 => k_is); (case k21 => k_is)
    (case a22 => k_is); (case l22 => k_is); (case c22 => k_is); (case k22 => k_is)
    (case a23 => k_is); (case l23 => k_is); (case c23 => k_is); (case k23 => k_is)
    (case a24 => k_is); (case l24 => k_is); (case c24 => k_is); (case k24 => k_is)
    (case a25 => k_is); (case l25 => k_is); (case c25 => k_is); (case k25 => k_is)
    (case a26 => k_is); (case l26 => k_is); (case c26 => k_is); (case k26 => k_is)
    (case a27 => k_is); (case l27 => k_is); (case c27 => k_is); (case k27 => k_is)
    (case a28 => k_is); (case l28 => k_is); (case c28 => k_is); (case k28 => k_is)
    (case a29 => k_is); (case l29 => k_is); (case c29 => k_is); (case k29 => k_is)
    (case a30 => k_is); (case l30 => k_is); (case c30 => k_is); (case k30 => k_is)
    (case a31 => k_is); (case l31 => k_is); (case c31 => k_is); (case k31 => k_is)
    (case a32 => k_is); (case l32 => k_is); (case c32 => k_is); (case k32 => k_is)
    (case a33 => k_is); (case l33 => k_is); (case c33 => k_is); (case k33 => k_is)
    (case a34 => k_is); (case l34 => k_is); (case c34 => k_is); (case k34 => k_is)
    (case z_ValueError => k_is)
    (case z_all => k_is)
    (case z_bool => k_is)
    (case z_dict => k_is)
    (case z_int => k_is)
    (case z_isinstance => k_is)
    (case z_len => k_is)
    (case z_list => k_is)
    (case z_max => k_is)
    (case z_range => k_is)
    (case z_set => k_is)
    (case z_sorted => k_is)
    (case z_str => k_is)
    (case z_sum => k_is)
    (case z_tuple => k_is)
    (case y_MOST_KIND_DEEP => k_is)
    (case y_MOST_KNOTS => k_is)
    (case y_MOST_SIGNS => k_is)
    (case y_SMALL => k_is)
    (case n_BadFill => first | k_is | rfl)
    (case ty_BadFill => first | k_is | rfl)
    (case ic_BadFill => first | k_is | rfl)
    (case ss_BadFill => first | k_is | rfl)
    (case n_BadKind => first | k_is | rfl)
    (case ty_BadKind => first | k_is | rfl)
    (case ic_BadKind => first | k_is | rfl)
    (case ss_BadKind => first | k_is | rfl)
    (case n_Lacks => first | k_is | rfl)
    (case ty_Lacks => first | k_is | rfl)
    (case ic_Lacks => first | k_is | rfl)
    (case ss_Lacks => first | k_is | rfl)
    (case n_NoDefinition => first | k_is | rfl)
    (case ty_NoDefinition => first | k_is | rfl)
    (case ic_NoDefinition => first | k_is | rfl)
    (case ss_NoDefinition => first | k_is | rfl)
    (case n_NoNumber => first | k_is | rfl)
    (case ty_NoNumber => first | k_is | rfl)
    (case ic_NoNumber => first | k_is | rfl)
    (case ss_NoNumber => first | k_is | rfl)
    (case n_NoRecord => first | k_is | rfl)
    (case ty_NoRecord => first | k_is | rfl)
    (case ic_NoRecord => first | k_is | rfl)
    (case ss_NoRecord => first | k_is | rfl)
    (case n_TooGreat => first | k_is | rfl)
    (case ty_TooGreat => first | k_is | rfl)
    (case ic_TooGreat => first | k_is | rfl)
    (case ss_TooGreat => first | k_is | rfl)
    (case n_FieldError => first | k_is | rfl)
    (case ty_FieldError => first | k_is | rfl)
    (case ic_FieldError => first | k_is | rfl)
    (case ss_FieldError => first | k_is | rfl)
    (case fb => first | k_is | rfl)
    (case fh => first | k_is | rfl)
    (case an => first | k_is | rfl)
    (case at1 => first | k_is | rfl)
    (case x_BadKind => k_exc)
    (case kk_BadKind => first | k_is | rfl)
    (case b_BadKind => first | k_is | rfl)
    (case eg_BadKind => first | k_is | rfl)
    (case ek_BadKind => first | k_is | rfl)
    (case ed_BadKind => first | k_is | rfl)
    (case ea_BadKind => first | k_is | rfl)
    (case em_BadKind => first | k_is | rfl)
    (case sf_BadKind => first | k_is | rfl)
    (case sv_BadKind => first | k_is | rfl)
    (case s_BadKind_BadFill => first | k_is | rfl)
    (case s_BadKind_BadKind => first | k_is | rfl)
    (case s_BadKind_Lacks => first | k_is | rfl)
    (case s_BadKind_NoDefinition => first | k_is | rfl)
    (case s_BadKind_NoNumber => first | k_is | rfl)
    (case s_BadKind_NoRecord => first | k_is | rfl)
    (case s_BadKind_TooGreat => first | k_is | rfl)
    (case x_BadFill => k_exc)
    (case kk_BadFill => first | k_is | rfl)
    (case b_BadFill => first | k_is | rfl)
    (case eg_BadFill => first | k_is | rfl)
    (case ek_BadFill => first | k_is | rfl)
    (case ed_BadFill => first | k_is | rfl)
    (case ea_BadFill => first | k_is | rfl)
    (case em_BadFill => first | k_is | rfl)
    (case sf_BadFill => first | k_is | rfl)
    (case sv_BadFill => first | k_is | rfl)
    (case s_BadFill_BadFill => first | k_is | rfl)
    (case s_BadFill_BadKind => first | k_is | rfl)
    (case s_BadFill_Lacks => first | k_is | rfl)
    (case s_BadFill_NoDefinition => first | k_is | rfl)
    (case s_BadFill_NoNumber => first | k_is | rfl)
    (case s_BadFill_NoRecord => first | k_is | rfl)
    (case s_BadFill_TooGreat => first | k_is | rfl)
    (case x_TooGreat => k_exc)
    (case kk_TooGreat => first | k_is | rfl)
    (case b_TooGreat => first | k_is | rfl)
    (case eg_TooGreat => first | k_is | rfl)
    (case ek_TooGreat => first | k_is | rfl)
    (case ed_TooGreat => first | k_is | rfl)
    (case ea_TooGreat => first | k_is | rfl)
    (case em_TooGreat => first | k_is | rfl)
    (case sf_TooGreat => first | k_is | rfl)
    (case sv_TooGreat => first | k_is | rfl)
    (case s_TooGreat_BadFill => first | k_is | rfl)
    (case s_TooGreat_BadKind => first | k_is | rfl)
    (case s_TooGreat_Lacks => first | k_is | rfl)
    (case s_TooGreat_NoDefinition => first | k_is | rfl)
    (case s_TooGreat_NoNumber => first | k_is | rfl)
    (case s_TooGreat_NoRecord => first | k_is | rfl)
    (case s_TooGreat_TooGreat => first | k_is | rfl)

