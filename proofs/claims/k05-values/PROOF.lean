import PyProof.Rows.All
import Wide.All
import OpenK.AllK
import Wide.FinOn
import HandS.ForMost
import HandS.ForExc
import HandS.IsInst
import HandS.TupAny
import HandS.CallSlots
import HandS.Deep
import HandS.TupLen
import HandS.SetKeys
import HandS.SortKw
import HandS.Rev
import HandS.RevRange
import KE.KDictPairs
import PyProof.Rows.SortShellAny
import HandS.Style
import HandS.Strs
import HandS.Conv
import PySem.Challenge.RW_fieldrest_k05_values_of_kinds
set_option Elab.async false
set_option linter.all false
set_option maxRecDepth 100000
set_option maxHeartbeats 4000000
/-! PM: functions over plain data that mirror Python code. Part 1: data, stores, results, combinators. -/
namespace PM
open PySem L2

/-- plain data: atoms, tuples, lists and dicts that nobody changes any more, and the numbers of objects that may change -/
inductive D where
  | non | bl (b : Bool) | int (i : Int) | str (s : Str)
  | tup (ds : List D) | lst (ds : List D) | scr (ds : List D) | dct (ks : List Key) (ds : List D) | ref (n : Nat)
  deriving Inhabited

/-- an object that may change -/
inductive MO where
  | lst (ds : List D) | dK (ks : List Key) (ds : List D) | dT (ks : List (List Key)) (ds : List D) | ins (c : Str) (fs : List Str) (ds : List D)
  deriving Inhabited
abbrev Sto := List MO
structure Exc where
  cls : Str
  fs : List Str
  ds : List D
abbrev Loc := List (Option D)

inductive R (α : Type) where
  | ok (a : α) (S : Sto) | exc (c : Exc) (S : Sto) | stuck
def R.bind {α β : Type} (r : R α) (k : α → Sto → R β) : R β := match r with
  | .ok a S => k a S
  | .exc c S => .exc c S
  | .stuck => .stuck
@[simp] theorem R.bind_ok {α β : Type} {a : α} {S : Sto} {k : α → Sto → R β} : (R.ok a S).bind k = k a S := (rfl)
@[simp] theorem R.bind_exc {α β : Type} {c : Exc} {S : Sto} {k : α → Sto → R β} : (R.exc c S : R α).bind k = .exc c S := (rfl)
@[simp] theorem R.bind_stuck {α β : Type} {k : α → Sto → R β} : (R.stuck : R α).bind k = .stuck := (rfl)

abbrev Em := Loc → Sto → R D
abbrev Tm := Loc → Sto → R Bool
abbrev Am := Loc → Sto → R (List D)

/-- how a statement ends -/
inductive RS where
  | nx (δ : Loc) (S : Sto) | rt (d : D) (S : Sto) | bk (δ : Loc) (S : Sto) | ct (δ : Loc) (S : Sto) | exc (c : Exc) (δ : Loc) (S : Sto) | stuck
abbrev Sm := Loc → Sto → RS
def RS.seq (r : RS) (k : Sm) : RS := match r with
  | .nx δ S => k δ S
  | r => r
@[simp] theorem RS.seq_nx {δ S k} : (RS.nx δ S).seq k = k δ S := (rfl)
@[simp] theorem RS.seq_rt {d S k} : (RS.rt d S).seq k = .rt d S := (rfl)
@[simp] theorem RS.seq_bk {δ S k} : (RS.bk δ S).seq k = .bk δ S := (rfl)
@[simp] theorem RS.seq_ct {δ S k} : (RS.ct δ S).seq k = .ct δ S := (rfl)
@[simp] theorem RS.seq_exc {c δ S k} : (RS.exc c δ S).seq k = .exc c δ S := (rfl)
@[simp] theorem RS.seq_stuck {k} : RS.stuck.seq k = .stuck := (rfl)
/-- an expression's result goes on as a statement -/
def R.into {α : Type} (r : R α) (δ : Loc) (k : α → Sto → RS) : RS := match r with
  | .ok a S => k a S
  | .exc c S => .exc c δ S
  | .stuck => .stuck
@[simp] theorem R.into_ok {α : Type} {a : α} {S δ} {k : α → Sto → RS} : (R.ok a S).into δ k = k a S := (rfl)
@[simp] theorem R.into_exc {α : Type} {c S δ} {k : α → Sto → RS} : (R.exc c S : R α).into δ k = .exc c δ S := (rfl)
@[simp] theorem R.into_stuck {α : Type} {δ} {k : α → Sto → RS} : (R.stuck : R α).into δ k = .stuck := (rfl)

/-- an exception is not looked for here -/
def R.quiet {α : Type} (r : R α) : R α := match r with
  | .exc _ _ => .stuck
  | r => r
@[simp] theorem R.quiet_ok {α : Type} {a : α} {S : Sto} : (R.ok a S).quiet = .ok a S := (rfl)
@[simp] theorem R.quiet_exc {α : Type} {c : Exc} {S : Sto} : (R.exc c S : R α).quiet = .stuck := (rfl)
@[simp] theorem R.quiet_stuck {α : Type} : (R.stuck : R α).quiet = .stuck := (rfl)
/-! ### expressions -/
def mV (i : Nat) : Em := fun δ S => match δ[i]? with
  | some (some d) => .ok d S
  | _ => .stuck
def mC (d : D) : Em := fun _ S => .ok d S
def mB (op : D → D → Sto → R D) (a b : Em) : Em := fun δ S => (a δ S).bind fun x S1 => (b δ S1).bind fun y S2 => op x y S2
def mU (op : D → Sto → R D) (a : Em) : Em := fun δ S => (a δ S).bind fun x S1 => op x S1
def mNil : Am := fun _ S => .ok [] S
def mCons (a : Em) (r : Am) : Am := fun δ S => (a δ S).bind fun x S1 => (r δ S1).bind fun xs S2 => .ok (x :: xs) S2
def mApp (f : List D → Sto → R D) (a : Am) : Em := fun δ S => (a δ S).bind fun xs S1 => f xs S1
def mIfE (c : Tm) (a b : Em) : Em := fun δ S => (c δ S).bind fun k S1 => if k = true then a δ S1 else b δ S1
/-- and, or of truths -/
def mAndV (a b : Em) : Em := fun δ S => (a δ S).bind fun x S1 => match x with
  | .bl true => b δ S1
  | .bl false => .ok (.bl false) S1
  | _ => .stuck
def mOrV (a b : Em) : Em := fun δ S => (a δ S).bind fun x S1 => match x with
  | .bl true => .ok (.bl true) S1
  | .bl false => b δ S1
  | _ => .stuck
def mNotV (a : Em) : Em := fun δ S => (a δ S).bind fun x S1 => match x with
  | .bl k => .ok (.bl (!k)) S1
  | _ => .stuck
def mChain (f g : D → D → Sto → R D) (a b c : Em) : Em := fun δ S => (a δ S).bind fun x S1 => (b δ S1).bind fun y S2 => (f x y S2).bind fun k S3 => match k with
  | .bl true => (c δ S3).bind fun z S4 => g y z S4
  | .bl false => .ok (.bl false) S3
  | _ => .stuck
/-! ### tests -/
def mT (a : Em) : Tm := fun δ S => (a δ S).bind fun x S1 => match x with
  | .bl k => .ok k S1
  | _ => .stuck
def mAnd (a b : Tm) : Tm := fun δ S => (a δ S).bind fun k S1 => if k = true then b δ S1 else .ok false S1
def mOr (a b : Tm) : Tm := fun δ S => (a δ S).bind fun k S1 => if k = true then .ok true S1 else b δ S1
def mNot (a : Tm) : Tm := fun δ S => (a δ S).bind fun k S1 => .ok (!k) S1
def mYes : Tm := fun _ S => .ok true S
/-! ### statements -/
def sSeq (a b : Sm) : Sm := fun δ S => (a δ S).seq b
def sPass : Sm := fun δ S => .nx δ S
def sExpr (e : Em) : Sm := fun δ S => (e δ S).into δ fun _ S1 => .nx δ S1
def sRet (e : Em) : Sm := fun δ S => (e δ S).into δ fun d S1 => .rt d S1
def sRetN : Sm := fun _ S => .rt .non S
def sIf (c : Tm) (a b : Sm) : Sm := fun δ S => (c δ S).into δ fun k S1 => if k = true then a δ S1 else b δ S1
def sBk : Sm := fun δ S => .bk δ S
def sCt : Sm := fun δ S => .ct δ S
/-! ### targets -/
abbrev Gm := D → Loc → Sto → R Loc
def gmName (i : Nat) : Gm := fun d δ S => .ok (δ.set i (some d)) S
def gmNames : List Nat → List D → Loc → Sto → R Loc
  | [], [], δ, S => .ok δ S
  | i :: is, d :: ds, δ, S => gmNames is ds (δ.set i (some d)) S
  | _, _, _, _ => .stuck
def gmTup (is : List Nat) : Gm := fun d δ S => match d with
  | .tup ds => gmNames is ds δ S
  | _ => .stuck
def sAsg (e : Em) (g : Gm) : Sm := fun δ S => (e δ S).into δ fun d S1 => (g d δ S1).into δ fun δ' S2 => .nx δ' S2
def gmSub (o i : Em) (f : D → D → D → Sto → R Unit) : Gm := fun d δ S => (o δ S).bind fun x S1 => (i δ S1).bind fun y S2 => (f x y d S2).bind fun _ S3 => .ok δ S3
/-! ### loops -/
/-- what is walked: the items, and what must stand at each turn -/
abbrev Src := Loc → Sto → R (List D × (Sto → Prop))
open Classical in
noncomputable def loopM (grd : Sto → Prop) (b : D → Sm) : List D → Sm
  | [], δ, S => if grd S then .nx δ S else .stuck
  | x :: xs, δ, S => if grd S then (match b x δ S with
    | .nx δ' S' => loopM grd b xs δ' S'
    | .ct δ' S' => loopM grd b xs δ' S'
    | .bk δ' S' => .nx δ' S'
    | r => r) else .stuck
/-- a list that nobody changes, a tuple, a list that the loop leaves -/
def sItems (e : Em) : Src := fun δ S => (e δ S).bind fun d S1 => match d with
  | .lst ds => .ok (ds, fun _ => True) S1
  | .scr ds => .ok (ds, fun _ => True) S1
  | .tup ds => .ok (ds, fun _ => True) S1
  | .str s => .ok (s.cps.toList.map (fun c => .str ⟨#[c]⟩), fun _ => True) S1
  | .ref n => match S1[n]? with
    | some (.lst ds) => .ok (ds, fun S => S[n]? = some (.lst ds)) S1
    | _ => .stuck
  | _ => .stuck
def rangeD (lo : Int) (n : Nat) : List D := (List.range n).map fun i => .int (lo + (i : Nat))
def lim62 (i : Int) : Bool := decide (-(2 ^ 62) ≤ i ∧ i < 2 ^ 62)
def limR (i j : Int) : Bool := lim62 i && lim62 j && decide (j - i ≤ (sizeLine : Nat))
def sRange1 (e : Em) : Src := fun δ S => (e δ S).bind fun d S1 => match d with
  | .int j => if limR 0 j = true then .ok (rangeD 0 j.toNat, fun _ => True) S1 else .stuck
  | _ => .stuck
def sRange2 (a e : Em) : Src := fun δ S => (a δ S).bind fun x S1 => (e δ S1).bind fun y S2 => match x, y with
  | .int i, .int j => if limR i j = true then .ok (rangeD i (j - i).toNat, fun _ => True) S2 else .stuck
  | _, _ => .stuck
/-- range(len(e)) -/
def lenOf (d : D) (S : Sto) : Option Nat := match d with
  | .lst ds => some ds.length
  | .scr ds => some ds.length
  | .tup ds => some ds.length
  | .str s => some s.length
  | .dct ks _ => some ks.length
  | .ref n => match S[n]? with
    | some (.lst ds) => some ds.length
    | some (.dK ks _) => some ks.length
    | some (.dT ks _) => some ks.length
    | _ => none
  | _ => none
def sRangeLen (e : Em) : Src := fun δ S => (e δ S).bind fun d S1 => match lenOf d S1 with
  | some n => .ok (rangeD 0 n, fun _ => True) S1
  | none => .stuck
noncomputable def sFor (src : Src) (g : Gm) (b : Sm) : Sm := fun δ S => (src δ S).into δ fun p S1 => loopM p.2 (fun x δ S => (g x δ S).into δ b) p.1 δ S1
/-- a comprehension's loop: slots vs forgotten at each turn -/
def wipeD (δ : Loc) : List Nat → Loc
  | [] => δ
  | v :: vs => (wipeD δ vs).set v none
open Classical in
noncomputable def compM (grd : Sto → Prop) (g : Gm) (t : Tm) (e : Em) (δ : Loc) : List D → List D → Sto → R D
  | acc, [], S => if grd S then .ok (.lst acc) S else .stuck
  | acc, x :: xs, S => if grd S then (g x δ S).quiet.bind fun δ' S1 => (t δ' S1).quiet.bind fun k S2 =>
      if k = true then (e δ' S2).quiet.bind fun y S3 => compM grd g t e δ (acc ++ [y]) xs S3 else compM grd g t e δ acc xs S2 else .stuck
noncomputable def mComp (src : Src) (g : Gm) (t : Tm) (e : Em) (vs : List Nat) : Em := fun δ S => (src δ S).bind fun p S1 => compM p.2 g t e (wipeD δ vs) [] p.1 S1
end PM

/-! PM, part 1b: tuples made with all that is known of their objects -/
namespace PM
open PySem PySem.Spec L2 PyProof.Rows
/-- a tuple of whose object all is known, and that has no dict -/
def Tp (H : Hp) (a : Addr) (vs : List V) : Prop := ∃ o, H a = some (.frz o (.tup vs)) ∧ o.dict = none
theorem Tp.sq {K : PySem.W.Frag} {H : Hp} {a : Addr} {vs : List V} (h : Tp H a vs) : SqT K H a vs := let ⟨o, h, _⟩ := h; .inl (.inr ⟨o, h⟩)
theorem Tp.keep {H : Hp} {a p : Addr} {u : HO} {vs : List V} (h : Tp H a vs) (hp : a ≠ p) : Tp (upd H p u) a vs := let ⟨o, h, d⟩ := h; ⟨o, by rw [upd_ne hp]; exact h, d⟩
theorem Tp.up {H : Hp} {a p : Addr} {u : HO} {vs : List V} (h : Tp H a vs) (hp : H p = none) : Tp (upd H p u) a vs := h.keep (let ⟨_, h, _⟩ := h; ne_of_none h hp)
theorem Tp.mk {H : Hp} {p : Addr} {o : Obj} {vs : List V} (d : o.dict = none) : Tp (upd H p (.frz o (.tup vs))) p vs := ⟨o, upd_same, d⟩
/-- what a new one gives -/
def NewT (H : Hp) (vs : List V) (Q : VK) : Prop := ∀ p o, o.dict = none → H p = none → Q (.ref p) (upd H p (.frz o (.tup vs)))
def tTupF (t : TA) : TE := fun σ H Q => t σ H fun vs H1 => vs.length ≤ sizeLine ∧ NewT H1 vs Q
section
variable {X : Cx} {es : List Expr} {t : TA} {pos : Pos}
theorem pe_tupF {x1} (h : PA X es t) : PE X (.Tuple es x1 pos) (tTupF t) := .mk fun pins s σ H Q I hq =>
  wpAny_Tuple_spliced (thn (h.run pos pins s σ H _ I hq) fun us s1 ⟨vs, H1, I1, r, z, q⟩ => ⟨by rw [← r.length]; exact z,
    .ref s1.heap.objs.size, _, I1.laid (t' := s1.toks) (o := .frz { cls := .type "tuple", data := .seq us.toArray } (.tup vs)) (fun b u e => Heap.get?_push_of_some _ e) (Nat.le_refl _)
      ⟨Heap.get?_push_size _ rfl, z, us, r, ⟨_, Heap.get?_push_size _ rfl, rfl, _, rfl⟩⟩, rfl, q _ _ rfl (I1.hok.fresh (Nat.le_refl _))⟩)
def rCatF (K : PySem.W.Frag) : R2 := fun x y H Q => ∃ a b vs ws, x = .ref a ∧ y = .ref b ∧ SqT K H a vs ∧ SqT K H b ws ∧ vs.length + ws.length ≤ sizeLine ∧
  (vs = [] → Q (.ref b) H) ∧ (vs ≠ [] → ws = [] → Q (.ref a) H) ∧ (vs ≠ [] → ws ≠ [] → NewT H (vs ++ ws) Q)
theorem op_catF : OpR X (binaryOp .Add) (rCatF X.K) := by
  intro pins s σ H x y v u Q I rx ry ⟨a, b, vs, ws, e1, e2, ha, hb, hz, q0, q1, q2⟩
  subst e1 e2
  cases rx
  cases ry
  obtain ⟨is, r1, p1, _⟩ := I.tuple ha
  obtain ⟨js, r2, p2, _⟩ := I.tuple hb
  by_cases hx : vs = []
  · subst hx
    cases r1
    exact cat_tup0 p1 p2 ⟨.ref b, H, I, rfl, q0 rfl⟩
  · refine HT.cat_tup p1 p2 (fun z => hx (r1.nil_iff.mp z)) (fun z => ⟨.ref a, H, I, rfl, q1 hx (r2.nil_iff.mp z)⟩) (fun z => ?_) (by rw [← r1.length, ← r2.length]; exact hz)
    exact ⟨.ref s.heap.objs.size, _, I.laid (t' := s.toks) (o := .frz { cls := .type "tuple", data := .seq (is ++ js).toArray } (.tup (vs ++ ws))) (fun b ob q => Heap.get?_push_of_some _ q) (Nat.le_refl _)
      ⟨Heap.get?_push_size _ rfl, by rw [List.length_append]; exact hz, _, r1.append r2, IsTup.new _ _⟩, rfl, q2 hx (fun w => z (r2.nil_iff.mpr w)) _ _ rfl (I.hok.fresh (Nat.le_refl _))⟩
def rSlF (K : PySem.W.Frag) : V → Option Int → Option Int → Hp → VK → Prop := fun x lo hi H Q => ∃ a vs, x = .ref a ∧ SqT K H a vs ∧
  (HT.sIx vs.length 0 lo = 0 ∧ HT.sIx vs.length vs.length hi = vs.length → Q (.ref a) H) ∧ (¬ (HT.sIx vs.length 0 lo = 0 ∧ HT.sIx vs.length vs.length hi = vs.length) → NewT H (cutV vs lo hi) Q)
theorem sl_tupF : SlR X (rSlF X.K) := by
  intro pins s σ H x v vl vu lo hi sl Q I rx hs pl pu ⟨a, vs, e, hx, q1, q2⟩
  subst e
  by_cases hw : HT.sIx vs.length 0 lo = 0 ∧ HT.sIx vs.length vs.length hi = vs.length
  · exact sl_tupA pins s σ H _ v vl vu lo hi sl Q I rx hs pl pu ⟨a, vs, rfl, hx, q1, fun w => absurd hw w⟩
  · cases rx
    obtain ⟨is, r, ht, hz⟩ := I.tuple hx
    have hlen : is.toArray.size = vs.length := by rw [List.size_toArray]; exact r.length.symm
    refine ⟨"tuple", _, PyProof.Rows.slot_tuple_getitem.lookup, ht.typeIs, HT.getItem_tuple_cut ht hs pl pu (by rw [hlen]; exact hw) ?_ (by rw [hlen]; exact hz)⟩
    rw [hlen]
    exact ⟨.ref s.heap.objs.size, _, I.laid (t' := s.toks) (o := .frz { cls := .type "tuple", data := .seq ((is.drop (HT.sIx vs.length 0 lo)).take (HT.sIx vs.length vs.length hi - HT.sIx vs.length 0 lo)).toArray } (.tup (cutV vs lo hi))) (fun b ob q => Heap.get?_push_of_some _ q) (Nat.le_refl _)
      ⟨Heap.get?_push_size _ rfl, Nat.le_trans (cutV_length vs lo hi) hz, _, (r.drop (HT.sIx vs.length 0 lo)).take (HT.sIx vs.length vs.length hi - HT.sIx vs.length 0 lo), IsTup.new _ _⟩, rfl, q2 hw _ _ rfl (I.hok.fresh (Nat.le_refl _))⟩
theorem call_tupleF : CallR X (.type "tuple") (fun xs H Q => ∃ p vs, xs = [.ref p] ∧ ((SqL X.K H p vs ∧ NewT H vs Q) ∨ (SqT X.K H p vs ∧ Q (.ref p) H))) := by
  intro pins s σ H xs us Q I r ⟨p, vs, e, h⟩
  subst e
  obtain ⟨u, e, rx⟩ := vals1 r
  subst e
  cases rx
  rcases h with ⟨hq, q⟩ | ⟨hq, q⟩
  · obtain ⟨is, r', pl, hz⟩ := I.list hq
    have hlen := r'.length
    refine call_tuple_list pl.isList (fun h' kp => ?_) (by simp only [List.size_toArray] <;> omega)
    have I1 : Inv X pins σ H { s with heap := h' } := I.kept (t' := s.toks) kp
    exact ⟨.ref h'.objs.size, _, I1.laid (t' := s.toks) (o := .frz { cls := .type "tuple", data := .seq is.toArray } (.tup vs)) (fun b o e => Heap.get?_push_of_some _ e) (Nat.le_refl _)
      ⟨Heap.get?_push_size _ rfl, hz, is, r', IsTup.new _ _⟩, rfl, q _ _ rfl (I1.hok.fresh (Nat.le_refl _))⟩
  · obtain ⟨is, r', pl, hz⟩ := I.tuple hq
    exact call_tuple_same pl ⟨.ref p, H, I, rfl, q⟩
end
end PM

/-! PM, part 2: how data stand in the abstract heap -/
namespace PM
open PySem L2
/-- the addresses of the numbered objects; those that no data may hold meanwhile -/
structure Z where
  a : List Addr
  b : List Addr
  k : PySem.W.Frag
structure EnvK where
  m : Str → Option Value
  K : PySem.W.Frag
/-- an object of the written part -/
def KL (K : PySem.W.Frag) (a : Addr) (xs : List V) : Prop := ∃ (o : Obj) (its : Array Value) (n : Nat), K.lookup a = some o ∧ o.cls = .type "list" ∧ o.dict = none ∧ o.data = .seq its n ∧ its.size ≤ sizeLine ∧ Vals xs its.toList
def Mk (u : HO) : Prop := (∀ o xs, u ≠ .frz o (.tup xs)) ∧ ∀ o xs, u ≠ .frz o (.lst xs)
def Z.no (z : Z) (x : Addr) : Prop := x ∉ z.a ∧ x ∉ z.b
section
variable (H : Hp) (ι : Z)
mutual
def RD : D → V → Prop
  | .non, v => v = .non
  | .bl b, v => v = .bl b
  | .int i, v => v = .int i
  | .str s, v => v = .str s ∧ s.length ≤ sizeLine
  | .tup ds, v => ∃ a vs, v = .ref a ∧ Tp H a vs ∧ ds.length ≤ sizeLine ∧ RDs ds vs
  | .lst ds, v => ∃ a vs, v = .ref a ∧ H a = some (.lst vs) ∧ ι.no a ∧ ds.length ≤ sizeLine ∧ RDs ds vs
  | .scr ds, v => ∃ a vs, v = .ref a ∧ ((∃ o, H a = some (.frz o (.lst vs))) ∨ KL ι.k a vs) ∧ ds.length ≤ sizeLine ∧ RDs ds vs
  | .dct ks ds, v => ∃ a vs, v = .ref a ∧ Rd H a (.dK (ks.zip vs)) ∧ ι.no a ∧ ks.length = ds.length ∧ ks.length ≤ sizeLine ∧ RDs ds vs
  | .ref n, v => ∃ a, v = .ref a ∧ ι.a[n]? = some a
def RDs : List D → List V → Prop
  | [], vs => vs = []
  | d :: ds, vs => ∃ v r, vs = v :: r ∧ RD d v ∧ RDs ds r
end
variable (mg : EnvK)
def RO (a : Addr) : MO → Prop
  | .lst ds => ∃ vs, H a = some (.lst vs) ∧ ds.length ≤ sizeLine ∧ RDs H ι ds vs
  | .dK ks ds => ∃ vs, H a = some (.dK (ks.zip vs)) ∧ ks.length = ds.length ∧ ks.length ≤ sizeLine ∧ RDs H ι ds vs
  | .dT ks ds => ∃ vs, H a = some (.dT (ks.zip vs)) ∧ ks.length = ds.length ∧ ks.length ≤ sizeLine ∧ RDs H ι ds vs
  | .ins c fs ds => ∃ C dx vs, mg.m c = some (.ref C) ∧ H a = some (.ins C dx (fs.zip vs)) ∧ fs.length = ds.length ∧ RDs H ι ds vs
structure Rep (S : Sto) : Prop where
  kk : ι.k = mg.K
  len : ι.a.length = S.length
  nd : ι.a.Nodup
  bt : ∀ x ∈ ι.b, x ∉ ι.a ∧ ∃ o, H x = some o ∧ Mk o
  obj : ∀ (n : Nat) (a : Addr) (o : MO), ι.a[n]? = some a → S[n]? = some o → RO H ι mg a o
def RX (c : Exc) (cls : Value) (dx : Option Addr) : Prop :=
  (∃ C, mg.m c.cls = some (.ref C) ∧ cls = .ref C) ∧ ((c.fs = [] ∧ c.ds = [] ∧ dx = none) ∨ ∃ d vs, dx = some d ∧ H d = some (.xd (c.fs.zip vs)) ∧ c.fs.length = c.ds.length ∧ RDs H ι c.ds vs)
structure RSt (δ : Loc) (σ : St) : Prop where
  len : δ.length = σ.length
  at' : ∀ (i : Nat) (d : D), δ[i]? = some (some d) → ∃ v, σ[i]? = some (some v) ∧ RD H ι d v
end

structure Lift (ι : Z) (H : Hp) (ι' : Z) (H' : Hp) : Prop where
  pre : ∀ (n : Nat) (a : Addr), ι.a[n]? = some a → ι'.a[n]? = some a
  tup : ∀ a xs, Tp H a xs → Tp H' a xs
  lst : ∀ a xs, ι.no a → H a = some (.lst xs) → H' a = some (.lst xs) ∧ ι'.no a
  scr : ∀ a o xs, H a = some (.frz o (.lst xs)) → H' a = some (.frz o (.lst xs))
  dct : ∀ a xs, ι.no a → Rd H a (.dK xs) → Rd H' a (.dK xs) ∧ ι'.no a
  kk : ι'.k = ι.k
theorem Lift.refl {ι H} : Lift ι H ι H := ⟨fun _ _ h => h, fun _ _ h => h, fun _ _ n h => ⟨h, n⟩, fun _ _ _ h => h, fun _ _ n h => ⟨h, n⟩, rfl⟩
theorem Lift.trans {ι ι1 ι2 H H1 H2} (a : Lift ι H ι1 H1) (b : Lift ι1 H1 ι2 H2) : Lift ι H ι2 H2 :=
  ⟨fun n x h => b.pre n x (a.pre n x h), fun x xs h => b.tup x xs (a.tup x xs h),
   fun x xs n h => let ⟨h1, n1⟩ := a.lst x xs n h; b.lst x xs n1 h1, fun x o xs h => b.scr x o xs (a.scr x o xs h), fun x xs n h => let ⟨h1, n1⟩ := a.dct x xs n h; b.dct x xs n1 h1, b.kk.trans a.kk⟩
structure Step (ι : Z) (H : Hp) (ι' : Z) (H' : Hp) : Prop where
  up : Lift ι H ι' H'
  bb : ι'.b = ι.b
  hid : ∀ x ∈ ι.b, ∀ o, H x = some o → H' x = some o
theorem Step.refl {ι H} : Step ι H ι H := ⟨.refl, rfl, fun _ _ _ h => h⟩
theorem Step.trans {ι ι1 ι2 H H1 H2} (a : Step ι H ι1 H1) (b : Step ι1 H1 ι2 H2) : Step ι H ι2 H2 := ⟨a.up.trans b.up, b.bb.trans a.bb, fun x hx o h => b.hid x (by rw [a.bb]; exact hx) o (a.hid x hx o h)⟩

section
variable {ι ι' : Z} {H H' : Hp} {mg : EnvK}
mutual
theorem RD.mono (s : Lift ι H ι' H') : ∀ (d : D) (v : V), RD H ι d v → RD H' ι' d v
  | .non, _, h => by simp only [RD] at h ⊢; exact h
  | .bl _, _, h => by simp only [RD] at h ⊢; exact h
  | .int _, _, h => by simp only [RD] at h ⊢; exact h
  | .str _, _, h => by simp only [RD] at h ⊢; exact h
  | .tup ds, _, h => by
    simp only [RD] at h ⊢
    obtain ⟨a, vs, e, h1, z, h2⟩ := h
    exact ⟨a, vs, e, s.tup a vs h1, z, RDs.mono s ds vs h2⟩
  | .lst ds, _, h => by
    simp only [RD] at h ⊢
    obtain ⟨a, vs, e, h1, n, z, h2⟩ := h
    obtain ⟨h1, n⟩ := s.lst a vs n h1
    exact ⟨a, vs, e, h1, n, z, RDs.mono s ds vs h2⟩
  | .scr ds, _, h => by
    simp only [RD] at h ⊢
    obtain ⟨a, vs, e, h1, z, h2⟩ := h
    refine ⟨a, vs, e, ?_, z, RDs.mono s ds vs h2⟩
    rcases h1 with ⟨o, h1⟩ | h1
    · exact .inl ⟨o, s.scr a o vs h1⟩
    · rw [s.kk]; exact .inr h1
  | .dct ks ds, _, h => by
    simp only [RD] at h ⊢
    obtain ⟨a, vs, e, h1, n, z, y, h2⟩ := h
    obtain ⟨h1, n⟩ := s.dct a _ n h1
    exact ⟨a, vs, e, h1, n, z, y, RDs.mono s ds vs h2⟩
  | .ref n, _, h => by
    simp only [RD] at h ⊢
    obtain ⟨a, e, h1⟩ := h
    exact ⟨a, e, s.pre n a h1⟩
theorem RDs.mono (s : Lift ι H ι' H') : ∀ (ds : List D) (vs : List V), RDs H ι ds vs → RDs H' ι' ds vs
  | [], _, h => by simp only [RDs] at h ⊢; exact h
  | d :: ds, _, h => by
    simp only [RDs] at h ⊢
    obtain ⟨v, r, e, h1, h2⟩ := h
    exact ⟨v, r, e, RD.mono s d v h1, RDs.mono s ds r h2⟩
end
theorem RSt.mono (s : Lift ι H ι' H') {δ : Loc} {σ : St} (h : RSt H ι δ σ) : RSt H' ι' δ σ :=
  ⟨h.len, fun i d e => let ⟨v, e', r⟩ := h.at' i d e; ⟨v, e', r.mono s⟩⟩
theorem RDs.length : ∀ {ds : List D} {vs : List V}, RDs H ι ds vs → ds.length = vs.length
  | [], _, h => by simp only [RDs] at h; subst h; rfl
  | d :: ds, _, h => by
    simp only [RDs] at h
    obtain ⟨v, r, e, h1, h2⟩ := h
    subst e
    simp [RDs.length h2]
theorem RDs.nil : RDs H ι [] [] := by simp only [RDs]
theorem RDs.cons {d v ds vs} (h1 : RD H ι d v) (h2 : RDs H ι ds vs) : RDs H ι (d :: ds) (v :: vs) := by
  simp only [RDs]; exact ⟨v, vs, rfl, h1, h2⟩
theorem RDs.app : ∀ {ds es : List D} {vs ws : List V}, RDs H ι ds vs → RDs H ι es ws → RDs H ι (ds ++ es) (vs ++ ws)
  | [], _, _, _, h, g => by simp only [RDs] at h; subst h; exact g
  | d :: ds, _, _, _, h, g => by
    simp only [RDs] at h
    obtain ⟨v, r, e, h1, h2⟩ := h
    subst e
    exact .cons h1 (RDs.app h2 g)
theorem RDs.get : ∀ {ds : List D} {vs : List V} {i : Nat} {d : D}, RDs H ι ds vs → ds[i]? = some d → ∃ v, vs[i]? = some v ∧ RD H ι d v
  | [], _, i, d, _, e => by simp at e
  | d :: ds, _, 0, d', h, e => by
    simp only [RDs] at h
    obtain ⟨v, r, e', h1, h2⟩ := h
    subst e'
    simp at e; subst e
    exact ⟨v, rfl, h1⟩
  | d :: ds, _, i + 1, d', h, e => by
    simp only [RDs] at h
    obtain ⟨v, r, e', h1, h2⟩ := h
    subst e'
    simpa using RDs.get h2 (by simpa using e)
theorem RDs.set : ∀ {ds : List D} {vs : List V} {i : Nat} {d : D} {v : V}, RDs H ι ds vs → RD H ι d v → RDs H ι (ds.set i d) (vs.set i v)
  | [], _, i, d, _, h, _ => by simp only [RDs] at h; subst h; exact .nil
  | d :: ds, _, 0, d', _, h, q => by
    simp only [RDs] at h
    obtain ⟨v, r, e', h1, h2⟩ := h
    subst e'
    exact .cons q h2
  | d :: ds, _, i + 1, d', _, h, q => by
    simp only [RDs] at h
    obtain ⟨v, r, e', h1, h2⟩ := h
    subst e'
    exact .cons h1 (RDs.set h2 q)
theorem RDs.drop : ∀ {ds : List D} {vs : List V} (n : Nat), RDs H ι ds vs → RDs H ι (ds.drop n) (vs.drop n)
  | _, _, 0, h => h
  | [], _, n + 1, h => by simp only [RDs] at h; subst h; exact .nil
  | d :: ds, _, n + 1, h => by
    simp only [RDs] at h
    obtain ⟨v, r, e', h1, h2⟩ := h
    subst e'
    exact RDs.drop n h2
theorem RDs.take : ∀ {ds : List D} {vs : List V} (n : Nat), RDs H ι ds vs → RDs H ι (ds.take n) (vs.take n)
  | _, _, 0, h => by simpa using RDs.nil
  | [], _, n + 1, h => by simp only [RDs] at h; subst h; exact .nil
  | d :: ds, _, n + 1, h => by
    simp only [RDs] at h
    obtain ⟨v, r, e', h1, h2⟩ := h
    subst e'
    exact .cons h1 (RDs.take n h2)

/-! ### allocation, writing -/
theorem rd_tracked {a : Addr} {u : HO} (h : Rd H a u) : ∃ o, H a = some o := by
  rcases h with h | ⟨o, h⟩
  · exact ⟨_, h⟩
  · exact ⟨_, h⟩
theorem rd_upd_ne {a p : Addr} {u o : HO} (h : Rd H a u) (n : a ≠ p) : Rd (upd H p o) a u := by
  rcases h with h | ⟨ob, h⟩
  · exact .inl (by rw [L2.upd_ne n]; exact h)
  · exact .inr ⟨ob, by rw [L2.upd_ne n]; exact h⟩
theorem ne_new {a p : Addr} {u : HO} (h : Rd H a u) (hp : H p = none) : a ≠ p := by
  rintro rfl
  obtain ⟨o, e⟩ := rd_tracked h
  rw [e] at hp; cases hp
theorem Step.new {p : Addr} {o : HO} (hp : H p = none) : Step ι H ι (upd H p o) :=
  ⟨⟨fun _ _ h => h, fun a xs h => h.up hp, fun a xs n h => ⟨by rw [upd_ne (ne_of_none h hp)]; exact h, n⟩, fun a o xs h => by rw [upd_ne (ne_of_none h hp)]; exact h, fun a xs n h => ⟨rd_upd_ne h (ne_new h hp), n⟩, rfl⟩, rfl, fun x _ o e => by rw [upd_ne (ne_of_none e hp)]; exact e⟩
abbrev Z.snoc (ι : Z) (p : Addr) : Z := ⟨ι.a ++ [p], ι.b, ι.k⟩
theorem Z.no_snoc {ι : Z} {a p : Addr} (n : ι.no a) (h : a ≠ p) : (ι.snoc p).no a := ⟨by simp [n.1, h], n.2⟩
theorem Step.newRef {p : Addr} {o : HO} (hp : H p = none) : Step ι H (ι.snoc p) (upd H p o) :=
  ⟨⟨fun n a h => by rw [List.getElem?_append_left (List.getElem?_eq_some_iff.mp h).1]; exact h, fun a xs h => h.up hp,
    fun a xs n h => ⟨by rw [upd_ne (ne_of_none h hp)]; exact h, Z.no_snoc n (ne_of_none h hp)⟩, fun a o xs h => by rw [upd_ne (ne_of_none h hp)]; exact h, fun a xs n h => ⟨rd_upd_ne h (ne_new h hp), Z.no_snoc n (ne_new h hp)⟩, rfl⟩, rfl, fun x _ o e => by rw [upd_ne (ne_of_none e hp)]; exact e⟩
theorem Lift.write {a : Addr} {o : HO} (ha : a ∈ ι.a ∨ a ∈ ι.b) (hm : ∀ u, H a = some u → Mk u) : Lift ι H ι (upd H a o) :=
  have ne : ∀ {b : Addr}, ι.no b → b ≠ a := fun n e => by
    subst e
    rcases ha with h | h
    · exact n.1 h
    · exact n.2 h
  ⟨fun _ _ h => h, fun b xs h => h.keep (by rintro rfl; obtain ⟨o, h, _⟩ := h; exact (hm _ h).1 _ _ rfl),
    fun b xs n h => ⟨by rw [upd_ne (ne n)]; exact h, n⟩, fun b o xs h => by rw [upd_ne (by rintro rfl; exact (hm _ h).2 _ _ rfl)]; exact h, fun b xs n h => ⟨rd_upd_ne h (ne n), n⟩, rfl⟩
theorem RO.mono (s : Lift ι H ι' H') {a : Addr} (h' : H' a = H a) : ∀ {o : MO}, RO H ι mg a o → RO H' ι' mg a o
  | .lst ds, ⟨vs, e, z, r⟩ => ⟨vs, h'.trans e, z, r.mono s⟩
  | .dK ks ds, ⟨vs, e, z, y, r⟩ => ⟨vs, h'.trans e, z, y, r.mono s⟩
  | .dT ks ds, ⟨vs, e, z, y, r⟩ => ⟨vs, h'.trans e, z, y, r.mono s⟩
  | .ins c fs ds, ⟨C, dx, vs, m, e, z, r⟩ => ⟨C, dx, vs, m, h'.trans e, z, r.mono s⟩
theorem RO.some {a : Addr} : ∀ {o : MO}, RO H ι mg a o → ∃ u, H a = Option.some u ∧ Mk u
  | .lst ds, ⟨vs, e, z, r⟩ => ⟨_, e, .intro (fun _ _ q => nomatch q) (fun _ _ q => nomatch q)⟩
  | .dK ks ds, ⟨vs, e, z, y, r⟩ => ⟨_, e, .intro (fun _ _ q => nomatch q) (fun _ _ q => nomatch q)⟩
  | .dT ks ds, ⟨vs, e, z, y, r⟩ => ⟨_, e, .intro (fun _ _ q => nomatch q) (fun _ _ q => nomatch q)⟩
  | .ins c fs ds, ⟨C, dx, vs, m, e, z, r⟩ => ⟨_, e, .intro (fun _ _ q => nomatch q) (fun _ _ q => nomatch q)⟩
theorem Rep.has {S : Sto} (r : Rep H ι mg S) {n : Nat} {a : Addr} (h : ι.a[n]? = some a) : ∃ o, S[n]? = some o ∧ RO H ι mg a o := by
  have hn : n < S.length := by rw [← r.len]; exact (List.getElem?_eq_some_iff.mp h).1
  exact ⟨S[n], List.getElem?_eq_getElem hn, r.obj n a _ h (List.getElem?_eq_getElem hn)⟩
theorem Rep.addr {S : Sto} (r : Rep H ι mg S) {n : Nat} {o : MO} (h : S[n]? = some o) : ∃ a, ι.a[n]? = some a ∧ RO H ι mg a o := by
  have hn : n < ι.a.length := by rw [r.len]; exact (List.getElem?_eq_some_iff.mp h).1
  exact ⟨ι.a[n], List.getElem?_eq_getElem hn, r.obj n _ _ (List.getElem?_eq_getElem hn) h⟩
theorem Rep.track {S : Sto} (r : Rep H ι mg S) {a : Addr} (h : a ∈ ι.a) : ∃ u, H a = some u ∧ Mk u := by
  obtain ⟨n, hn⟩ := List.getElem?_of_mem h
  obtain ⟨o, _, ro⟩ := r.has hn
  exact ro.some
theorem Rep.fresh {S : Sto} (r : Rep H ι mg S) {p : Addr} (hp : H p = none) : ι.no p := by
  refine ⟨fun h => ?_, fun h => ?_⟩
  · obtain ⟨u, e, _⟩ := r.track h
    rw [hp] at e; cases e
  · obtain ⟨_, u, e, _⟩ := r.bt p h
    rw [hp] at e; cases e
theorem Rep.new {S : Sto} (r : Rep H ι mg S) {p : Addr} {o : HO} (hp : H p = none) : Rep (upd H p o) ι mg S :=
  ⟨r.kk, r.len, r.nd, fun x hx => ⟨(r.bt x hx).1, let ⟨u, e, q⟩ := (r.bt x hx).2; ⟨u, by rw [L2.upd_ne (ne_of_none e hp)]; exact e, q⟩⟩,
    fun n a m h1 h2 => (r.obj n a m h1 h2).mono (Step.new hp).up (L2.upd_ne (by rintro rfl; exact (r.fresh hp).1 (List.mem_of_getElem? h1)))⟩
theorem Rep.newRef {S : Sto} (r : Rep H ι mg S) {p : Addr} {o : HO} {m : MO} (hp : H p = none) (ho : RO (upd H p o) (ι.snoc p) mg p m) : Rep (upd H p o) (ι.snoc p) mg (S ++ [m]) := by
  refine ⟨r.kk, by simp [r.len], ?_, fun x hx => ?_, fun n a m' h1 h2 => ?_⟩
  · show (ι.a ++ [p]).Nodup
    rw [List.nodup_append]
    refine ⟨r.nd, by simp, fun a ha b hb => ?_⟩
    simp at hb; subst hb
    rintro rfl; exact (r.fresh hp).1 ha
  · obtain ⟨n, u, e, q⟩ := r.bt x hx
    have ne : x ≠ p := ne_of_none e hp
    exact ⟨by simp [n, ne], u, by rw [L2.upd_ne ne]; exact e, q⟩
  · have k1 : (ι.a ++ [p])[n]? = some a := h1
    clear h1
    by_cases hn : n < ι.a.length
    · rw [List.getElem?_append_left hn] at k1
      rw [List.getElem?_append_left (by rw [← r.len]; exact hn)] at h2
      exact (r.obj n a m' k1 h2).mono (Step.newRef hp).up (L2.upd_ne (by rintro rfl; exact (r.fresh hp).1 (List.mem_of_getElem? k1)))
    · have hn' : ι.a.length ≤ n := Nat.le_of_not_lt hn
      rw [List.getElem?_append_right hn'] at k1
      rw [List.getElem?_append_right (by rw [← r.len]; exact hn')] at h2
      have e : n - ι.a.length = 0 := by
        have := (List.getElem?_eq_some_iff.mp k1).1
        simp at this; omega
      rw [e] at k1; rw [← r.len, e] at h2
      simp at k1 h2; subst k1 h2
      exact ho
theorem Rep.write {S : Sto} (r : Rep H ι mg S) {n : Nat} {a : Addr} {o : HO} {m : MO} (hn : ι.a[n]? = some a) (nt : Mk o) (ho : RO (upd H a o) ι mg a m) : Rep (upd H a o) ι mg (S.set n m) ∧ Step ι H ι (upd H a o) := by
  have ha : a ∈ ι.a := List.mem_of_getElem? hn
  have st : Step ι H ι (upd H a o) := ⟨Lift.write (.inl ha) (fun u e => by
    obtain ⟨u', e', q⟩ := r.track ha
    rw [e] at e'; cases e'; exact q), rfl, fun x hx u e => by rw [L2.upd_ne (by rintro rfl; exact (r.bt x hx).1 ha)]; exact e⟩
  refine ⟨⟨r.kk, by simpa using r.len, r.nd, fun x hx => ?_, fun k b m' h1 h2 => ?_⟩, st⟩
  · obtain ⟨n, u, e, q⟩ := r.bt x hx
    exact ⟨n, u, by rw [L2.upd_ne (by rintro rfl; exact n ha)]; exact e, q⟩
  by_cases hk : n = k
  · subst hk
    rw [hn] at h1; cases h1
    have hl : n < S.length := by rw [← r.len]; exact (List.getElem?_eq_some_iff.mp hn).1
    rw [List.getElem?_set_self hl] at h2; cases h2
    exact ho
  · rw [List.getElem?_set_ne hk] at h2
    refine (r.obj k b m' h1 h2).mono st.up (L2.upd_ne ?_)
    rintro rfl
    obtain ⟨l1, e1⟩ := List.getElem?_eq_some_iff.mp hn
    obtain ⟨l2, e2⟩ := List.getElem?_eq_some_iff.mp h1
    exact hk ((List.getElem_inj r.nd).mp (e1.trans e2.symm))
/-- a hidden object is laid, written, told -/
abbrev Z.hide (ι : Z) (p : Addr) : Z := ⟨ι.a, p :: ι.b, ι.k⟩
theorem Lift.hide {p : Addr} {o : HO} (hp : H p = none) : Lift ι H (ι.hide p) (upd H p o) :=
  ⟨fun _ _ h => h, fun a xs h => h.up hp, fun a xs n h => ⟨by rw [upd_ne (ne_of_none h hp)]; exact h, n.1, by simp [n.2, ne_of_none h hp]⟩,
    fun a o xs h => by rw [upd_ne (ne_of_none h hp)]; exact h, fun a xs n h => ⟨rd_upd_ne h (ne_new h hp), n.1, by simp [n.2, ne_new h hp]⟩, rfl⟩
theorem Rep.hide {S : Sto} (r : Rep H ι mg S) {p : Addr} {o : HO} (hp : H p = none) (nt : Mk o) : Rep (upd H p o) (ι.hide p) mg S :=
  ⟨r.kk, r.len, r.nd, fun x hx => by
      rcases List.mem_cons.mp hx with e | hx
      · subst e; exact ⟨(r.fresh hp).1, o, upd_same, nt⟩
      · obtain ⟨n, u, e, q⟩ := r.bt x hx
        exact ⟨n, u, by rw [L2.upd_ne (ne_of_none e hp)]; exact e, q⟩,
    fun n a m h1 h2 => (r.obj n a m h1 h2).mono (Lift.hide hp) (L2.upd_ne (by rintro rfl; exact (r.fresh hp).1 (List.mem_of_getElem? (show ι.a[n]? = some _ from h1))))⟩
theorem Rep.writeHid {S : Sto} (r : Rep H ι mg S) {p : Addr} {o : HO} (hp : p ∈ ι.b) (nt : Mk o) : Rep (upd H p o) ι mg S ∧ Lift ι H ι (upd H p o) := by
  obtain ⟨np, u, e, q⟩ := r.bt p hp
  have st : Lift ι H ι (upd H p o) := Lift.write (.inr hp) (fun u' e' => by rw [e] at e'; cases e'; exact q)
  refine ⟨⟨r.kk, r.len, r.nd, fun x hx => ?_, fun k b m' h1 h2 => (r.obj k b m' h1 h2).mono st (L2.upd_ne (by rintro rfl; exact np (List.mem_of_getElem? h1)))⟩, st⟩
  obtain ⟨n, u, e, q⟩ := r.bt x hx
  by_cases hx' : x = p
  · subst hx'; exact ⟨n, o, upd_same, nt⟩
  · exact ⟨n, u, by rw [L2.upd_ne hx']; exact e, q⟩
theorem Lift.show {p : Addr} {l : List Addr} (h : ι.b = p :: l) : Lift ι H ⟨ι.a, l, ι.k⟩ H :=
  ⟨fun _ _ h => h, fun _ _ h => h, fun a xs n e => ⟨e, n.1, fun q => n.2 (by rw [h]; exact List.mem_cons_of_mem _ q)⟩, fun _ _ _ e => e,
    fun a xs n e => ⟨e, n.1, fun q => n.2 (by rw [h]; exact List.mem_cons_of_mem _ q)⟩, rfl⟩
theorem Rep.show {S : Sto} (r : Rep H ι mg S) {p : Addr} {l : List Addr} (h : ι.b = p :: l) : Rep H ⟨ι.a, l, ι.k⟩ mg S :=
  ⟨r.kk, r.len, r.nd, fun x hx => r.bt x (by rw [h]; exact List.mem_cons_of_mem _ hx), fun n a m h1 h2 => (r.obj n a m h1 h2).mono (Lift.show h) rfl⟩
end
end PM

/-! PM, part 3: judgements -/
namespace PM
open PySem PySem.Spec L2
abbrev _root_.L2.Cx.ek (X : Cx) : EnvK := ⟨X.mg, X.K⟩
abbrev wat (W : WX) (σ : St) : XK := fun c d H => W c d σ H
abbrev Rel (α β : Type) := Hp → Z → α → β → Prop
def REq {α : Type} : Rel α α := fun _ _ a b => b = a
section
variable {mg : EnvK} {α β γ ε : Type}
def G (mg : EnvK) (W : XK) (ι : Z) (H : Hp) (Rl : Rel α β) (r : R α) (Q : β → Hp → Prop) : Prop := match r with
  | .ok a S' => ∀ ι' H' b, Step ι H ι' H' → Rep H' ι' mg S' → Rl H' ι' a b → Q b H'
  | .exc c S' => ∀ ι' H' cls dx, Step ι H ι' H' → Rep H' ι' mg S' → RX H' ι' mg c cls dx → W cls dx H'
  | .stuck => False
variable {W : XK} {ι ι' : Z} {H H' : Hp} {Rl : Rel α β} {r : R α} {Q Q' : β → Hp → Prop}
theorem G.imp (h : G mg W ι H Rl r Q) (q : ∀ b H', Q b H' → Q' b H') : G mg W ι H Rl r Q' := by
  cases r with
  | ok a S => exact fun ι' H' b st rp rl => q _ _ (h ι' H' b st rp rl)
  | exc c S => exact h
  | stuck => exact h
theorem G.step (st : Step ι H ι' H') (h : G mg W ι H Rl r Q) : G mg W ι' H' Rl r Q := by
  cases r with
  | ok a S => exact fun ι2 H2 b s2 rp rl => h ι2 H2 b (st.trans s2) rp rl
  | exc c S => exact fun ι2 H2 b d s2 rp rl => h ι2 H2 b d (st.trans s2) rp rl
  | stuck => exact h
theorem G.bind {Rl2 : Rel γ ε} {k : α → Sto → R γ} {Q2 : ε → Hp → Prop} (h : G mg W ι H Rl2 (r.bind k) Q2) :
    G mg W ι H Rl r (fun b H1 => ∃ ι1 S1 a, Step ι H ι1 H1 ∧ Rep H1 ι1 mg S1 ∧ Rl H1 ι1 a b ∧ G mg W ι1 H1 Rl2 (k a S1) Q2) := by
  cases r with
  | ok a S => exact fun ι' H' b st rp rl => ⟨ι', S, a, st, rp, rl, G.step st h⟩
  | exc c S => exact h
  | stuck => exact h
theorem G.here {a : α} {b : β} {S : Sto} (h : G mg W ι H Rl (.ok a S) Q) (rp : Rep H ι mg S) (rl : Rl H ι a b) : Q b H := h ι H b .refl rp rl
theorem G.at {a : α} {b : β} {S : Sto} (h : G mg W ι H Rl (.ok a S) Q) (st : Step ι H ι' H') (rp : Rep H' ι' mg S) (rl : Rl H' ι' a b) : Q b H' := h ι' H' b st rp rl
end

def tD {α β : Type} (mg : EnvK) (W : WX) (Rl : Rel α β) (m : Loc → Sto → R α) : St → Hp → (β → Hp → Prop) → Prop := fun σ H Q =>
  ∃ ι S δ, Rep H ι mg S ∧ RSt H ι δ σ ∧ G mg (wat W σ) ι H Rl (m δ S) Q
abbrev tDE (mg : EnvK) (W : WX) (m : Em) : TE := tD mg W RD m
def GS (mg : EnvK) (W : WX) (ι : Z) (H : Hp) (r : RS) (D : Ends) : Prop := match r with
  | .nx δ S => ∀ ι' H' σ', Step ι H ι' H' → Rep H' ι' mg S → RSt H' ι' δ σ' → D.nx σ' H'
  | .bk δ S => ∀ ι' H' σ', Step ι H ι' H' → Rep H' ι' mg S → RSt H' ι' δ σ' → D.bk σ' H'
  | .ct δ S => ∀ ι' H' σ', Step ι H ι' H' → Rep H' ι' mg S → RSt H' ι' δ σ' → D.ct σ' H'
  | .rt d S => ∀ ι' H' v, Step ι H ι' H' → Rep H' ι' mg S → RD H' ι' d v → D.rt v H'
  | .exc c δ S => ∀ ι' H' σ' cls dx, Step ι H ι' H' → Rep H' ι' mg S → RSt H' ι' δ σ' → RX H' ι' mg c cls dx → W cls dx σ' H'
  | .stuck => False
section
variable {mg : EnvK} {W : WX} {ι ι' : Z} {H H' : Hp} {r : RS} {D D' : Ends}
theorem GS.step (st : Step ι H ι' H') (h : GS mg W ι H r D) : GS mg W ι' H' r D := by
  cases r with
  | nx δ S => exact fun ι2 H2 b s2 rp rl => h ι2 H2 b (st.trans s2) rp rl
  | bk δ S => exact fun ι2 H2 b s2 rp rl => h ι2 H2 b (st.trans s2) rp rl
  | ct δ S => exact fun ι2 H2 b s2 rp rl => h ι2 H2 b (st.trans s2) rp rl
  | rt d S => exact fun ι2 H2 b s2 rp rl => h ι2 H2 b (st.trans s2) rp rl
  | exc c δ S => exact fun ι2 H2 b d e s2 rp rl => h ι2 H2 b d e (st.trans s2) rp rl
  | stuck => exact h
theorem GS.seq {k : Sm} (h : GS mg W ι H (r.seq k) D) : GS mg W ι H r { D with nx := fun σ1 H1 => ∃ ι1 S1 δ1, Step ι H ι1 H1 ∧ Rep H1 ι1 mg S1 ∧ RSt H1 ι1 δ1 σ1 ∧ GS mg W ι1 H1 (k δ1 S1) D } := by
  cases r with
  | nx δ S => exact fun ι2 H2 b s2 rp rl => ⟨ι2, S, δ, s2, rp, rl, GS.step s2 h⟩
  | bk δ S => exact h
  | ct δ S => exact h
  | rt d S => exact h
  | exc c δ S => exact h
  | stuck => exact h
theorem GS.into {α β : Type} {Rl : Rel α β} {a : R α} {δ : Loc} {σ : St} {k : α → Sto → RS} (rs : RSt H ι δ σ) (h : GS mg W ι H (a.into δ k) D) :
    G mg (wat W σ) ι H Rl a (fun b H1 => ∃ ι1 S1 x, Step ι H ι1 H1 ∧ Rep H1 ι1 mg S1 ∧ Rl H1 ι1 x b ∧ GS mg W ι1 H1 (k x S1) D) := by
  cases a with
  | ok x S => exact fun ι' H' b st rp rl => ⟨ι', S, x, st, rp, rl, GS.step st h⟩
  | exc c S => exact fun ι' H' b d st rp rx => h ι' H' σ b d st rp (rs.mono st.up) rx
  | stuck => exact h
end
def tDS (mg : EnvK) (W : WX) (m : Sm) : TS := fun D σ H => ∃ ι S δ, Rep H ι mg S ∧ RSt H ι δ σ ∧ GS mg W ι H (m δ S) D

section
variable (X : Cx) (W : WX)
def DE (e : Expr) (m : Em) : Prop := PE X e (tDE X.ek W m)
def DT (e : Expr) (m : Tm) : Prop := PT X e (tD X.ek W REq m)
def DW (e : Expr) (m : Tm) : Prop := PW X e (tD X.ek W REq m)
def DA (es : List Expr) (m : Am) : Prop := PA X es (tD X.ek W RDs m)
def DS (st : Stmt) (m : Sm) : Prop := PS X st (tDS X.ek W m)
def DSs (sts : List Stmt) (m : Sm) : Prop := PSs X sts (tDS X.ek W m)
/-- a target: the value is at hand -/
def tDG (mg : EnvK) (W : WX) (g : Gm) : TG := fun v σ H Q => ∃ ι S δ d, Rep H ι mg S ∧ RSt H ι δ σ ∧ RD H ι d v ∧ G mg (wat W σ) ι H RSt (g d δ S) Q
def DG (tg : Expr) (g : Gm) : Prop := PG X tg (tDG X.ek W g)
end
theorem pe_imp {X : Cx} {e : Expr} {t t' : TE} (h : PE X e t) (i : ∀ σ H Q, t' σ H Q → t σ H Q) : PE X e t' := ⟨fun pins s σ H Q I q => h.run pins s σ H Q I (i _ _ _ q)⟩
theorem pt_imp {X : Cx} {e : Expr} {t t' : TT} (h : PT X e t) (i : ∀ σ H Q, t' σ H Q → t σ H Q) : PT X e t' := ⟨fun pins s σ H Q I q => h.run pins s σ H Q I (i _ _ _ q)⟩
theorem pw_imp {X : Cx} {e : Expr} {t t' : TT} (h : PW X e t) (i : ∀ σ H Q, t' σ H Q → t σ H Q) : PW X e t' := ⟨fun w pins s σ H Q I q => h.run w pins s σ H Q I (i _ _ _ q)⟩
theorem pa_imp {X : Cx} {e : List Expr} {t t' : TA} (h : PA X e t) (i : ∀ σ H Q, t' σ H Q → t σ H Q) : PA X e t' := ⟨fun p pins s σ H Q I q => h.run p pins s σ H Q I (i _ _ _ q)⟩
theorem ps_imp {X : Cx} {e : Stmt} {t t' : TS} (h : PS X e t) (i : ∀ D σ H, t' D σ H → t D σ H) : PS X e t' := ⟨fun pins s σ H Q I q => h.run pins s σ H Q I (i _ _ _ q)⟩
theorem pss_imp {X : Cx} {e : List Stmt} {t t' : TS} (h : PSs X e t) (i : ∀ D σ H, t' D σ H → t D σ H) : PSs X e t' := ⟨fun pins s σ H Q I q => h.run pins s σ H Q I (i _ _ _ q)⟩

section
variable {X : Cx} {W : WX} {a b c e : Expr} {es : List Expr} {pos p p2 : Pos} {ma mb mc : Em} {am : Am} {ta tb : Tm}
/-! ### names, constants -/
theorem de_var {i : Nat} {x : Str} (h : PE X (.Name x pos) (tVar i)) : DE X W (.Name x pos) (mV i) := pe_imp h fun σ H Q ⟨ι, S, δ, rp, rs, g⟩ => by
  unfold mV at g
  split at g
  · rename_i d hd
    obtain ⟨v, e, r⟩ := rs.at' i d hd
    exact ⟨v, e, g.here rp r⟩
  · exact g.elim
theorem de_const {d : D} {v : V} (h : PE X e (tC v)) (r : ∀ H ι, RD H ι d v) : DE X W e (mC d) := pe_imp h fun σ H Q ⟨ι, S, δ, rp, rs, g⟩ => G.here (b := v) g rp (r _ _)
theorem de_int {i : Int} {j} : DE X W (.Constant (.int i) j pos) (mC (.int i)) := de_const pe_int fun _ _ => by simp only [RD]
theorem de_bl {i : Bool} {j} : DE X W (.Constant (.bool i) j pos) (mC (.bl i)) := de_const pe_bl fun _ _ => by simp only [RD]
theorem de_non {j} : DE X W (.Constant .none j pos) (mC .non) := de_const pe_non fun _ _ => by simp only [RD]
theorem de_str {x : Str} {j} (h : x.length ≤ sizeLine) : DE X W (.Constant (.str x) j pos) (mC (.str x)) := de_const pe_str fun _ _ => by simp only [RD]; exact ⟨trivial, h⟩

/-! ### arguments, displays -/
theorem da_nil : DA X W [] mNil := pa_imp pa_nil fun σ H Q ⟨ι, S, δ, rp, rs, g⟩ => g.here rp RDs.nil
theorem da_cons (ha : DE X W e ma) (hr : DA X W es am) (hs : starEach (e :: es) X.env = (false, eval e X.env) :: starEach es X.env := by rfl) : DA X W (e :: es) (mCons ma am) :=
  pa_imp (pa_cons ha hr hs) fun σ H Q ⟨ι, S, δ, rp, rs, g⟩ => ⟨ι, S, δ, rp, rs, (G.bind g).imp fun v H1 ⟨ι1, S1, d, st, rp1, rd, g1⟩ =>
    ⟨ι1, S1, δ, rp1, rs.mono st.up, (G.bind g1).imp fun vs H2 ⟨ι2, S2, ds, st2, rp2, rds, g2⟩ => g2.here rp2 (.cons (rd.mono st2.up) rds)⟩⟩
end
def newTup (ds : List D) (S : Sto) : R D := if ds.length ≤ sizeLine then .ok (.tup ds) S else .stuck
def newLst (ds : List D) (S : Sto) : R D := if ds.length ≤ sizeLine then .ok (.lst ds) S else .stuck
def newRef (ds : List D) (S : Sto) : R D := if ds.length ≤ sizeLine then .ok (.ref S.length) (S ++ [.lst ds]) else .stuck
section
variable {mg : EnvK} {W : XK} {ι : Z} {H : Hp} {Q : V → Hp → Prop} {ds : List D} {vs : List V} {S : Sto}
/-- the ways a new list or tuple is taken into the data -/
theorem g_newTup (g : G mg W ι H RD (newTup ds S) Q) (rp : Rep H ι mg S) (r : RDs H ι ds vs) : vs.length ≤ sizeLine ∧ NewT H vs Q := by
  unfold newTup at g
  split at g
  · rename_i h
    refine ⟨by rw [← r.length]; exact h, fun p o d hp => g.at (Step.new hp) (rp.new hp) ?_⟩
    simp only [RD]
    exact ⟨p, vs, rfl, .mk d, h, r.mono (Step.new hp).up⟩
  · exact g.elim
theorem rd_newLst {p : Addr} (rp : Rep H ι mg S) (r : RDs H ι ds vs) (h : ds.length ≤ sizeLine) (hp : H p = none) : RD (upd H p (.lst vs)) ι (.lst ds) (.ref p) := by
  simp only [RD]
  exact ⟨p, vs, rfl, upd_same, rp.fresh hp, h, r.mono (Step.new hp).up⟩
theorem g_newLst (g : G mg W ι H RD (newLst ds S) Q) (rp : Rep H ι mg S) (r : RDs H ι ds vs) : vs.length ≤ sizeLine ∧ ∀ p, H p = none → Q (.ref p) (upd H p (.lst vs)) := by
  unfold newLst at g
  split at g
  · rename_i h
    exact ⟨by rw [← r.length]; exact h, fun p hp => g.at (Step.new hp) (rp.new hp) (rd_newLst rp r h hp)⟩
  · exact g.elim
theorem rep_newRef {p : Addr} {u : HO} {m : MO} (rp : Rep H ι mg S) (hp : H p = none) (ho : RO (upd H p u) (ι.snoc p) mg p m) : Rep (upd H p u) (ι.snoc p) mg (S ++ [m]) ∧ RD (upd H p u) (ι.snoc p) (.ref S.length) (.ref p) := by
  refine ⟨rp.newRef hp ho, ?_⟩
  simp only [RD]
  exact ⟨p, rfl, by rw [← rp.len]; simp⟩
theorem g_newRef (g : G mg W ι H RD (newRef ds S) Q) (rp : Rep H ι mg S) (r : RDs H ι ds vs) : vs.length ≤ sizeLine ∧ ∀ p, H p = none → Q (.ref p) (upd H p (.lst vs)) := by
  unfold newRef at g
  split at g
  · rename_i h
    refine ⟨by rw [← r.length]; exact h, fun p hp => ?_⟩
    have q := rep_newRef (m := .lst ds) (u := .lst vs) rp hp ⟨vs, upd_same, h, r.mono (Step.newRef hp).up⟩
    exact g.at (Step.newRef hp) q.1 q.2
  · exact g.elim
end
section
variable {X : Cx} {W : WX} {a b c e : Expr} {es : List Expr} {pos p p2 : Pos} {ma mb mc : Em} {am : Am} {ta tb : Tm}
theorem de_tup {x1} (h : DA X W es am) : DE X W (.Tuple es x1 pos) (mApp newTup am) := pe_imp (pe_tupF h) fun σ H Q ⟨ι, S, δ, rp, rs, g⟩ =>
  ⟨ι, S, δ, rp, rs, (G.bind g).imp fun vs H1 ⟨ι1, S1, ds, st, rp1, rd, g1⟩ => g_newTup g1 rp1 rd⟩
theorem de_lst (h : DA X W es am) : DE X W (.List es pos) (mApp newLst am) := pe_imp (pe_lst h) fun σ H Q ⟨ι, S, δ, rp, rs, g⟩ =>
  ⟨ι, S, δ, rp, rs, (G.bind g).imp fun vs H1 ⟨ι1, S1, ds, st, rp1, rd, g1⟩ => g_newLst g1 rp1 rd⟩
theorem de_lstR (h : DA X W es am) : DE X W (.List es pos) (mApp newRef am) := pe_imp (pe_lst h) fun σ H Q ⟨ι, S, δ, rp, rs, g⟩ =>
  ⟨ι, S, δ, rp, rs, (G.bind g).imp fun vs H1 ⟨ι1, S1, ds, st, rp1, rd, g1⟩ => g_newRef g1 rp1 rd⟩

/-! ### operators, by values -/
/-- f keeps the rule op of data -/
def OpD (X : Cx) (f : Value → Value → Sem Value) (op : D → D → Sto → R D) : Prop :=
  ∃ r : R2, OpR X f r ∧ ∀ (W : XK) (ι : Z) (S : Sto) (H : Hp) (x y : V) (dx dy : D) (Q : VK), Rep H ι X.ek S → RD H ι dx x → RD H ι dy y → G X.ek W ι H RD (op dx dy S) Q → r x y H Q
theorem de_opR {r : R2} {op : D → D → Sto → R D} (k : ∀ (W : XK) (ι : Z) (S : Sto) (H : Hp) (x y : V) (dx dy : D) (Q : VK), Rep H ι X.ek S → RD H ι dx x → RD H ι dy y → G X.ek W ι H RD (op dx dy S) Q → r x y H Q) {σ : St} {H : Hp} {Q : VK}
    (h : tDE X.ek W (mB op ma mb) σ H Q) : tOp r (tDE X.ek W ma) (tDE X.ek W mb) σ H Q := by
  obtain ⟨ι, S, δ, rp, rs, g⟩ := h
  exact ⟨ι, S, δ, rp, rs, (G.bind g).imp fun v H1 ⟨ι1, S1, d, st, rp1, rd, g1⟩ =>
    ⟨ι1, S1, δ, rp1, rs.mono st.up, (G.bind g1).imp fun v2 H2 ⟨ι2, S2, d2, st2, rp2, rd2, g2⟩ => k _ ι2 S2 H2 v v2 d d2 Q rp2 (rd.mono st2.up) rd2 g2⟩⟩
theorem de_bin {op : Operator} {f : D → D → Sto → R D} (ho : OpD X (binaryOp op) f) (ha : DE X W a ma) (hb : DE X W b mb) : DE X W (.BinOp a op b pos) (mB f ma mb) := by
  obtain ⟨r, hr, k⟩ := ho
  exact pe_imp (pe_op hr ha hb) fun σ H Q h => de_opR k h
theorem de_cmp {op : CmpOp} {f : D → D → Sto → R D} (ho : OpD X (compareOp op) f) (ha : DE X W a ma) (hb : DE X W b mb) (hm : behindInMarks op b = false) : DE X W (.Compare a [op] [b] pos) (mB f ma mb) := by
  obtain ⟨r, hr, k⟩ := ho
  exact pe_imp (pe_cmpR hr ha hb hm) fun σ H Q h => de_opR k h
theorem rd_bl {H : Hp} {ι : Z} {d : D} {k : Bool} (h : RD H ι (.bl k) v) : v = .bl k := by simpa only [RD] using h
/-- a value of truth as a test -/
theorem t_of {m : Em} {σ : St} {H : Hp} {Q : Bool → Hp → Prop} (h : tD X.ek W REq (mT m) σ H Q) : tDE X.ek W m σ H fun x H' => ∃ k, x = .bl k ∧ Q k H' := by
  obtain ⟨ι, S, δ, rp, rs, g⟩ := h
  refine ⟨ι, S, δ, rp, rs, (G.bind g).imp fun v H1 ⟨ι1, S1, d, st, rp1, rd, g1⟩ => ?_⟩
  cases d with
  | bl k => exact ⟨k, by simpa only [RD] using rd, g1.here rp1 rfl⟩
  | _ => exact g1.elim
theorem dt_cmp {op : CmpOp} {f : D → D → Sto → R D} (ho : OpD X (compareOp op) f) (ha : DE X W a ma) (hb : DE X W b mb) (hm : behindInMarks op b = false) : DT X W (.Compare a [op] [b] pos) (mT (mB f ma mb)) := by
  obtain ⟨r, hr, k⟩ := ho
  refine pt_imp (pt_cmpR hr ha hb hm) fun σ H Q h => ?_
  exact de_opR (Q := fun x H' => ∃ k, x = .bl k ∧ Q k H') k (t_of h)
theorem dt_val (h : DE X W e ma) (he : ∀ whole, isTrue e X.env whole = (do let v ← whole; standAt e.pos; holding [v] (truthy v)) := by intro _; rfl) : DT X W e (mT ma) :=
  pt_imp (pt_val h he) fun σ H Q q => t_of q
/-! ### tests -/
theorem t_bind {α β γ ε : Type} {mg : EnvK} {W : WX} {Rl : Rel α β} {Rl2 : Rel γ ε} {m : Loc → Sto → R α} {k : Loc → α → Sto → R γ} {σ : St} {H : Hp} {Q : ε → Hp → Prop} {T : β → Hp → Prop}
    (h : tD mg W Rl2 (fun δ S => (m δ S).bind (k δ)) σ H Q) (f : ∀ ι S δ a b H', Rep H' ι mg S → RSt H' ι δ σ → Rl H' ι a b → G mg (wat W σ) ι H' Rl2 (k δ a S) Q → T b H') : tD mg W Rl m σ H T := by
  obtain ⟨ι, S, δ, rp, rs, g⟩ := h
  exact ⟨ι, S, δ, rp, rs, (G.bind g).imp fun v H1 ⟨ι1, S1, d, st, rp1, rd, g1⟩ => f ι1 S1 δ d v H1 rp1 (rs.mono st.up) rd g1⟩
theorem dw_and1 (ha : DT X W a ta) : DW X W (.BoolOp .And [a] pos) ta := pw_and1 ha
theorem dw_or1 (ha : DT X W a ta) : DW X W (.BoolOp .Or [a] pos) ta := pw_or1 ha
theorem dw_and {rest : List Expr} (ha : DT X W a ta) (hb : DW X W (.BoolOp .And (b :: rest) pos) tb) : DW X W (.BoolOp .And (a :: b :: rest) pos) (mAnd ta tb) :=
  pw_imp (pw_and ha hb) fun σ H Q h => t_bind h fun ι S δ k c H' rp rs e g => by
    rw [show c = k from e]
    cases k with
    | true => exact ⟨ι, S, δ, rp, rs, g⟩
    | false => exact g.here rp rfl
theorem dw_or {rest : List Expr} (ha : DT X W a ta) (hb : DW X W (.BoolOp .Or (b :: rest) pos) tb) : DW X W (.BoolOp .Or (a :: b :: rest) pos) (mOr ta tb) :=
  pw_imp (pw_or ha hb) fun σ H Q h => t_bind h fun ι S δ k c H' rp rs e g => by
    rw [show c = k from e]
    cases k with
    | true => exact g.here rp rfl
    | false => exact ⟨ι, S, δ, rp, rs, g⟩
theorem dw_pt (h : DW X W e ta) : DT X W e ta := PW.pt h
theorem dt_not (ha : DT X W a ta) : DT X W (.UnaryOp .Not a pos) (mNot ta) :=
  pt_imp (pt_not ha) fun σ H Q h => t_bind h fun ι S δ k c H' rp rs e g => by
    rw [show c = k from e]
    exact g.here rp rfl
/-! ### values of truth -/
theorem de_one {op} (h : DE X W a ma) : DE X W (.BoolOp op [a] pos) ma := pe_one h
theorem de_and {rest : List Expr} (ha : DE X W a ma) (hb : DE X W (.BoolOp .And (b :: rest) pos) mb) : DE X W (.BoolOp .And (a :: b :: rest) pos) (mAndV ma mb) :=
  pe_imp (pe_and ha hb) fun σ H Q h => t_bind h fun ι S δ d v H' rp rs e g => by
    cases d with
    | bl k =>
      refine ⟨k, by simpa only [RD] using e, ?_⟩
      cases k with
      | true => exact ⟨ι, S, δ, rp, rs, g⟩
      | false => exact g.here rp (by simp only [RD])
    | _ => exact g.elim
theorem de_or {rest : List Expr} (ha : DE X W a ma) (hb : DE X W (.BoolOp .Or (b :: rest) pos) mb) : DE X W (.BoolOp .Or (a :: b :: rest) pos) (mOrV ma mb) :=
  pe_imp (pe_or ha hb) fun σ H Q h => t_bind h fun ι S δ d v H' rp rs e g => by
    cases d with
    | bl k =>
      refine ⟨k, by simpa only [RD] using e, ?_⟩
      cases k with
      | true => exact g.here rp (by simp only [RD])
      | false => exact ⟨ι, S, δ, rp, rs, g⟩
    | _ => exact g.elim
theorem de_not (ha : DE X W a ma) : DE X W (.UnaryOp .Not a pos) (mNotV ma) :=
  pe_imp (pe_not ha) fun σ H Q h => t_bind h fun ι S δ d v H' rp rs e g => by
    cases d with
    | bl k => exact ⟨k, by simpa only [RD] using e, g.here rp (by simp only [RD])⟩
    | _ => exact g.elim
theorem de_ifE (hc : DT X W c ta) (ha : DE X W a ma) (hb : DE X W b mb) : DE X W (.IfExp c a b pos) (mIfE ta ma mb) :=
  pe_imp (pe_ifExp hc ha hb) fun σ H Q h => t_bind h fun ι S δ k c H' rp rs e g => by
    rw [show c = k from e]
    cases k with
    | true => exact ⟨ι, S, δ, rp, rs, g⟩
    | false => exact ⟨ι, S, δ, rp, rs, g⟩
/-! ### statements -/
variable {st : Stmt} {sts : List Stmt} {m n : Sm} {g : Gm} {tg : Expr}
theorem ds_nil : DSs X W [] sPass := pss_imp pss_nil fun D σ H ⟨ι, S, δ, rp, rs, g⟩ => g ι H σ .refl rp rs
theorem ds_cons (h1 : DS X W st m) (h2 : DSs X W sts n) : DSs X W (st :: sts) (sSeq m n) :=
  pss_imp (pss_cons h1 h2) fun D σ H ⟨ι, S, δ, rp, rs, g⟩ => by
    refine ⟨ι, S, δ, rp, rs, ?_⟩
    have q := GS.seq g
    revert q
    cases m δ S with
    | nx δ1 S1 => exact fun q ι' H' σ' st rp rs => let ⟨ι1, S1, δ1, _, rp1, rs1, g1⟩ := q ι' H' σ' st rp rs; ⟨ι1, S1, δ1, rp1, rs1, g1⟩
    | _ => exact fun q => q
theorem ds_one (h1 : DS X W st m) : DSs X W [st] m := pss_one h1
theorem s_bind {α β : Type} {mg : EnvK} {W : WX} {Rl : Rel α β} {m : Loc → Sto → R α} {k : Loc → α → Sto → RS} {σ : St} {H : Hp} {D : Ends} {T : β → Hp → Prop}
    (h : tDS mg W (fun δ S => (m δ S).into δ (k δ)) D σ H) (f : ∀ ι S δ a b H', Rep H' ι mg S → RSt H' ι δ σ → Rl H' ι a b → GS mg W ι H' (k δ a S) D → T b H') : tD mg W Rl m σ H T := by
  obtain ⟨ι, S, δ, rp, rs, g⟩ := h
  exact ⟨ι, S, δ, rp, rs, (GS.into rs g).imp fun v H1 ⟨ι1, S1, d, st, rp1, rd, g1⟩ => f ι1 S1 δ d v H1 rp1 (rs.mono st.up) rd g1⟩
theorem ds_pass : DS X W (.Pass pos) sPass := ps_imp ps_pass fun D σ H ⟨ι, S, δ, rp, rs, g⟩ => g ι H σ .refl rp rs
theorem ds_brk : DS X W (.Break pos) sBk := ps_imp ps_break fun D σ H ⟨ι, S, δ, rp, rs, g⟩ => g ι H σ .refl rp rs
theorem ds_cont : DS X W (.Continue pos) sCt := ps_imp ps_continue fun D σ H ⟨ι, S, δ, rp, rs, g⟩ => g ι H σ .refl rp rs
theorem ds_expr (he : DE X W e ma) (hs : swapsWith e none pos.line X.env = pure false := by rfl) : DS X W (.Expr e pos) (sExpr ma) :=
  ps_imp (ps_expr he hs) fun D σ H h => s_bind h fun ι S δ d v H' rp rs r g => g ι H' σ .refl rp rs
theorem ds_ret (he : DE X W e ma) : DS X W (.Return (some e) pos) (sRet ma) :=
  ps_imp (ps_ret he) fun D σ H h => s_bind h fun ι S δ d v H' rp rs r g => g ι H' v .refl rp r
theorem ds_retN : DS X W (.Return none pos) sRetN := ps_imp ps_retN fun D σ H ⟨ι, S, δ, rp, rs, g⟩ => g ι H .non .refl rp (by simp only [RD])
theorem ds_if {sa sb : List Stmt} (hc : DT X W c ta) (ha : DSs X W sa m) (hb : DSs X W sb n) : DS X W (.If c sa sb pos) (sIf ta m n) :=
  ps_imp (ps_if hc ha hb) fun D σ H h => s_bind h fun ι S δ k c H' rp rs e g => by
    rw [show c = k from e]
    cases k with
    | true => exact ⟨ι, S, δ, rp, rs, g⟩
    | false => exact ⟨ι, S, δ, rp, rs, g⟩
/-! ### targets, assignments -/
theorem dg_name {i : Nat} {x : Str} (h : PG X (.Name x pos) (gName i)) : DG X W (.Name x pos) (gmName i) :=
  ⟨fun pins s σ H v u Q I r ⟨ι, S, δ, d, rp, rs, rd, g⟩ => h.run pins s σ H v u Q I r (by
    refine g.here rp ⟨by simpa using rs.len, fun j d' e => ?_⟩
    by_cases hj : i = j
    · subst hj
      have hi : i < δ.length := by
        rcases Nat.lt_or_ge i δ.length with h | h
        · exact h
        · rw [List.getElem?_eq_none (by simpa using h)] at e; cases e
      rw [List.getElem?_set_self hi] at e
      cases e
      exact ⟨v, by rw [List.getElem?_set_self (by rw [← rs.len]; exact hi)], rd⟩
    · rw [List.getElem?_set_ne hj] at e
      rw [List.getElem?_set_ne hj]
      exact rs.at' j d' e)⟩
end
end PM

/-! PM, part 4: assignments, loops, comprehensions, calls -/
namespace PM
open PySem PySem.Spec L2
section
variable {X : Cx} {W : WX} {a b c e o : Expr} {es : List Expr} {pos p p2 : Pos} {ma mb mc mo : Em} {am : Am} {ta tb : Tm} {st : Stmt} {sts : List Stmt} {m n : Sm} {g : Gm} {tg : Expr}
theorem ds_asg (he : DE X W e ma) (hg : DG X W tg g) (hs : swapsWithSole [tg] e pos.line X.env = pure false := by rfl) (hw : swappedStores [tg] e X.env = pure none := by rfl)
    (h1 : (assignEach [tg] X.env).map (·.2) = [assign tg X.env] := by rfl) : DS X W (.Assign [tg] e pos) (sAsg ma g) :=
  ps_imp (ps_asg he hg hs hw h1) fun D σ H h => s_bind h fun ι S δ d v H' rp rs r g =>
    ⟨ι, S, δ, d, rp, rs, r, (GS.into rs g).imp fun σ2 H2 ⟨ι2, S2, δ2, st2, rp2, rs2, g2⟩ => g2 ι2 H2 σ2 .refl rp2 rs2⟩
theorem rs_set {H : Hp} {ι : Z} {δ : Loc} {σ : St} {d : D} {v : V} (rs : RSt H ι δ σ) (r : RD H ι d v) (i : Nat) : RSt H ι (δ.set i (some d)) (σ.set i (some v)) := by
  refine ⟨by simpa using rs.len, fun j d' e => ?_⟩
  by_cases hj : i = j
  · subst hj
    have hi : i < δ.length := by
      rcases Nat.lt_or_ge i δ.length with h | h
      · exact h
      · rw [List.getElem?_eq_none (by simpa using h)] at e; cases e
    rw [List.getElem?_set_self hi] at e
    cases e
    exact ⟨v, by rw [List.getElem?_set_self (by rw [← rs.len]; exact hi)], r⟩
  · rw [List.getElem?_set_ne hj] at e
    rw [List.getElem?_set_ne hj]
    exact rs.at' j d' e
theorem ds_set {i : Nat} {x : Str} {p' : Pos} (hN : X.N.Nodup) (hi : X.N[i]? = some x) (hx : L2.Loc X.env.scope x) (he : DE X W e ma) (hs : swapsWith e (some (.Name x p')) pos.line X.env = pure false := by rfl)
    (hf : X.fn x = true ∨ X.env.scope.names.lookup x = some .local := by first | exact .inl rfl | exact .inr rfl | assumption) : DS X W (.Assign [.Name x p'] e pos) (sAsg ma (gmName i)) :=
  ps_imp (ps_set hN hi hx he hs hf) fun D σ H h => s_bind h fun ι S δ d v H' rp rs r g => g ι H' _ .refl rp (rs_set rs r _)
/-- the names of a target tuple -/
inductive Nms (X : Cx) : List Expr → List Nat → TGs → Prop where
  | nil : Nms X [] [] gNil
  | cons {e : Expr} {es : List Expr} {i : Nat} {is : List Nat} {t : TGs} : Nms X es is t → Nms X (e :: es) (i :: is) (gCons (gName i) t)
theorem nms_run {K : PySem.W.Frag} {mg : EnvK} {W : XK} : ∀ {es : List Expr} {is : List Nat} {t : TGs}, Nms X es is t → ∀ {ds : List D} {vs : List V} {δ : Loc} {σ : St} {S : Sto} {H : Hp} {ι : Z} {Q : St → Hp → Prop}, Rep H ι mg S → RSt H ι δ σ → RDs H ι ds vs →
    G mg W ι H RSt (gmNames is ds δ S) Q → vs.length = is.length ∧ t vs σ H Q
  | _, _, _, .nil, [], vs, δ, σ, S, H, ι, Q, rp, rs, r, g => by
    simp only [RDs] at r; subst r
    exact ⟨rfl, rfl, g.here rp rs⟩
  | _, _, _, .nil, d :: ds, vs, δ, σ, S, H, ι, Q, rp, rs, r, g => g.elim
  | _, _, _, .cons h, [], vs, δ, σ, S, H, ι, Q, rp, rs, r, g => g.elim
  | _, _, _, .cons h, d :: ds, vs, δ, σ, S, H, ι, Q, rp, rs, r, g => by
    simp only [RDs] at r
    obtain ⟨v, w, e, r1, r2⟩ := r
    subst e
    obtain ⟨q1, q2⟩ := nms_run (K := K) h rp (rs_set rs r1 _) r2 g
    exact ⟨by simp [q1], v, w, rfl, q2⟩
theorem dg_tup {es : List Expr} {k : Nat} {is : List Nat} {t : TGs} (hc : X.calm = true) (hp : PGs X es t) (nm : Nms X es is t) (hn : (assignEach es X.env).length = is.length := by rfl)
    (hst : (assignEach es X.env).findIdx? (·.1) = none := by rfl) : DG X W (.Tuple es k pos) (gmTup is) :=
  ⟨fun pins s σ H v u Q I r ⟨ι, S, δ, d, rp, rs, rd, g⟩ => (pg_tup hc hp hn hst).run pins s σ H v u Q I r (by
    cases d with
    | tup ds =>
      simp only [RD] at rd
      obtain ⟨a, vs, e, h1, z, h2⟩ := rd
      obtain ⟨q1, q2⟩ := nms_run (K := X.K) nm rp rs h2 g
      exact ⟨a, vs, e, h1.sq, q1, q2⟩
    | _ => exact g.elim)⟩
def PSetD (X : Cx) (f : D → D → D → Sto → R Unit) : Prop := ∃ t : TSet, PSet X t ∧
  ∀ (W : XK) (ι : Z) (S : Sto) (H : Hp) (x y z : V) (dx dy dz : D) (Q : Unit → Hp → Prop), Rep H ι X.ek S → RD H ι dx x → RD H ι dy y → RD H ι dz z → G X.ek W ι H REq (f dx dy dz S) Q → t x y z H (Q ())
theorem dg_sub {f : D → D → D → Sto → R Unit} (ho : DE X W a ma) (hi : DE X W b mb) (hs : PSetD X f) (hq : ∀ v, assign (.Subscript a b pos) X.env v = (do
      let ov ← holding [v] (eval a X.env)
      let iv ← holding [v, ov] (eval b X.env)
      standAt pos
      holding [v, ov, iv] (setItem ov iv v)
      release [v, ov, iv] []) := by intro _; rfl) : DG X W (.Subscript a b pos) (gmSub ma mb f) := by
  obtain ⟨t, ht, k⟩ := hs
  refine ⟨fun pins s σ H v u Q I r ⟨ι, S, δ, d, rp, rs, rd, g⟩ => (pg_sub ho hi ht hq).run pins s σ H v u Q I r ?_⟩
  exact ⟨ι, S, δ, rp, rs, (G.bind g).imp fun x H1 ⟨ι1, S1, dx, st1, rp1, rx, g1⟩ => ⟨ι1, S1, δ, rp1, rs.mono st1.up, (G.bind g1).imp fun y H2 ⟨ι2, S2, dy, st2, rp2, ry, g2⟩ =>
    k _ ι2 S2 H2 x y v dx dy d (fun _ H' => Q σ H') rp2 (rx.mono st2.up) ry (rd.mono (st1.trans st2).up) ((G.bind g2).imp fun _ H3 ⟨ι3, S3, _, st3, rp3, _, g3⟩ => g3.here rp3 (rs.mono ((st1.trans st2).trans st3).up))⟩⟩

/-! ### what is walked -/
/-- J walks the items -/
def RIt (mg : EnvK) : Rel (List D × (Sto → Prop)) It := fun H ι p J => p.1.length ≤ sizeLine ∧ ∀ (i : Nat) (H1 : Hp) (ι1 : Z) (S1 : Sto), Lift ι H ι1 H1 → Rep H1 ι1 mg S1 → p.2 S1 →
  (i < p.1.length → J.go i H1 ∧ ∀ x H2, J.yld i H1 x H2 → ∃ d, p.1[i]? = some d ∧ Step ι1 H1 ι1 H2 ∧ Rep H2 ι1 mg S1 ∧ RD H2 ι1 d x) ∧ (p.1.length ≤ i → J.stop i H1)
abbrev tDI (mg : EnvK) (W : WX) (src : Src) : TI := tD mg W (RIt mg) src
def DI (X : Cx) (W : WX) (tg iter : Expr) (src : Src) : Prop := PI X tg iter (tDI X.ek W src)
theorem pi_imp {X : Cx} {tg iter : Expr} {t t' : TI} (h : PI X tg iter t) (i : ∀ σ H Q, t' σ H Q → t σ H Q) : PI X tg iter t' := ⟨fun pins s σ H Q I q => h.run pins s σ H Q I (i _ _ _ q)⟩
/-- a turn's end -/
def RS.turn (r : RS) (k : Sm) : RS := match r with
  | .nx δ S => k δ S
  | .ct δ S => k δ S
  | .bk δ S => .nx δ S
  | r => r
theorem loopM_cons {grd : Sto → Prop} {b : D → Sm} {x : D} {xs : List D} {δ : Loc} {S : Sto} (h : grd S) : loopM grd b (x :: xs) δ S = (b x δ S).turn (loopM grd b xs) := by
  rw [loopM, if_pos h]
  cases b x δ S <;> rfl
theorem loopM_nil {grd : Sto → Prop} {b : D → Sm} {δ : Loc} {S : Sto} (h : grd S) : loopM grd b [] δ S = .nx δ S := by
  rw [loopM, if_pos h]
theorem loopM_grd {grd : Sto → Prop} {b : D → Sm} {xs : List D} {δ : Loc} {S : Sto} {mg W ι H D} (g : GS mg W ι H (loopM grd b xs δ S) D) : grd S := by
  cases xs with
  | nil =>
    rw [loopM] at g
    split at g
    · assumption
    · exact g.elim
  | cons x xs =>
    rw [loopM] at g
    split at g
    · assumption
    · exact g.elim
theorem GS.turn {mg : EnvK} {W : WX} {ι : Z} {H : Hp} {r : RS} {D : Ends} {k : Sm} (h : GS mg W ι H (r.turn k) D) :
    GS mg W ι H r { D with nx := fun σ1 H1 => ∃ ι1 S1 δ1, Step ι H ι1 H1 ∧ Rep H1 ι1 mg S1 ∧ RSt H1 ι1 δ1 σ1 ∧ GS mg W ι1 H1 (k δ1 S1) D, ct := fun σ1 H1 => ∃ ι1 S1 δ1, Step ι H ι1 H1 ∧ Rep H1 ι1 mg S1 ∧ RSt H1 ι1 δ1 σ1 ∧ GS mg W ι1 H1 (k δ1 S1) D, bk := D.nx } := by
  cases r with
  | nx δ S => exact fun ι2 H2 b s2 rp rl => ⟨ι2, S, δ, s2, rp, rl, GS.step s2 h⟩
  | ct δ S => exact fun ι2 H2 b s2 rp rl => ⟨ι2, S, δ, s2, rp, rl, GS.step s2 h⟩
  | bk δ S => exact h
  | rt d S => exact h
  | exc c δ S => exact h
  | stuck => exact h
theorem GS.imp {mg : EnvK} {W : WX} {ι : Z} {H : Hp} {r : RS} {D D' : Ends} (h : GS mg W ι H r D) (h1 : ∀ σ H, D.nx σ H → D'.nx σ H) (h2 : ∀ σ H, D.rt σ H → D'.rt σ H) (h3 : ∀ σ H, D.bk σ H → D'.bk σ H) (h4 : ∀ σ H, D.ct σ H → D'.ct σ H) : GS mg W ι H r D' := by
  cases r with
  | nx δ S => exact fun ι2 H2 b s2 rp rl => h1 _ _ (h ι2 H2 b s2 rp rl)
  | ct δ S => exact fun ι2 H2 b s2 rp rl => h4 _ _ (h ι2 H2 b s2 rp rl)
  | bk δ S => exact fun ι2 H2 b s2 rp rl => h3 _ _ (h ι2 H2 b s2 rp rl)
  | rt d S => exact fun ι2 H2 b s2 rp rl => h2 _ _ (h ι2 H2 b s2 rp rl)
  | exc c δ S => exact h
  | stuck => exact h
theorem ds_for {iter : Expr} {body : List Stmt} {src : Src} (hp : PassesOwn (model X.prog X.w) X.A X.env X.xe) (hc : X.calm = true) (hi : DI X W tg iter src) (hg : DG X W tg g) (hb : DSs X W body m)
    (hs : ∀ x, foldedSetIterable iter X.env x = pure x := by intro _; rfl) : DS X W (.For tg iter body [] pos) (sFor src g m) :=
  ps_imp (ps_for hp hc hi hg hb hs) fun D σ H h => s_bind h fun ι S δ p J H1 rp rs rit gs => by
    obtain ⟨hz, rit⟩ := rit
    refine ⟨fun i m' σ2 H2 => m' = p.1.length - i ∧ i ≤ p.1.length ∧ ∃ ι2 S2 δ2, Step ι H1 ι2 H2 ∧ Rep H2 ι2 X.ek S2 ∧ RSt H2 ι2 δ2 σ2 ∧ GS X.ek W ι2 H2 (loopM p.2 (fun x δ S => (g x δ S).into δ m) (p.1.drop i) δ2 S2) D,
      ⟨_, rfl, Nat.zero_le _, ι, S, δ, .refl, rp, rs, by rw [List.drop_zero]; exact gs⟩, ?_⟩
    rintro i m' σ2 H2 ⟨rfl, hi, ι2, S2, δ2, st2, rp2, rs2, g2⟩
    have gr := loopM_grd g2
    obtain ⟨q1, q2⟩ := rit i H2 ι2 S2 st2.up rp2 gr
    by_cases hlt : i < p.1.length
    · obtain ⟨q3, q4⟩ := q1 hlt
      refine .inr ⟨q3, fun σ' H' => p.1.length - (i + 1) = p.1.length - (i + 1) ∧ i + 1 ≤ p.1.length ∧ ∃ ι2 S2 δ2, Step ι H1 ι2 H' ∧ Rep H' ι2 X.ek S2 ∧ RSt H' ι2 δ2 σ' ∧ GS X.ek W ι2 H' (loopM p.2 (fun x δ S => (g x δ S).into δ m) (p.1.drop (i + 1)) δ2 S2) D,
        fun σ' H' q => ⟨_, by omega, q⟩, fun x H3 y => ?_⟩
      obtain ⟨d, e, st3, rp3, rd⟩ := q4 x H3 y
      have e2 : p.1.drop i = d :: p.1.drop (i + 1) := by
        have := List.getElem?_eq_some_iff.mp e
        rw [List.drop_eq_getElem_cons hlt, this.2]
      rw [e2, loopM_cons gr] at g2
      have g3 := GS.turn (GS.step st3 g2)
      refine ⟨ι2, S2, δ2, d, rp3, rs2.mono st3.up, rd, (GS.into (rs2.mono st3.up) g3).imp fun σ4 H4 ⟨ι4, S4, δ4, st4, rp4, rs4, g4⟩ => ⟨ι4, S4, δ4, rp4, rs4, ?_⟩⟩
      refine g4.imp (fun σ5 H5 ⟨ι5, S5, δ5, st5, rp5, rs5, g5⟩ => ?_) (fun _ _ q => q) (fun _ _ q => q) (fun σ5 H5 ⟨ι5, S5, δ5, st5, rp5, rs5, g5⟩ => ?_)
      · exact ⟨rfl, hlt, ι5, S5, δ5, st2.trans (st3.trans st5), rp5, rs5, g5⟩
      · exact ⟨rfl, hlt, ι5, S5, δ5, st2.trans (st3.trans st5), rp5, rs5, g5⟩
    · have e : i = p.1.length := by omega
      subst e
      rw [List.drop_length, loopM_nil gr] at g2
      exact .inl ⟨q2 (Nat.le_refl _), g2 ι2 H2 σ2 .refl rp2 rs2⟩

/-! ### sources -/
/-- what is walked, by its value -/
def PIV (X : Cx) (tg : Expr) (r : V → Hp → (It → Hp → Prop) → Prop) : Prop := ∀ (pins : List (Addr × Obj)) (s : Shared) (σ : St) (H : Hp) (x : V) (v : Value) (R : It → Hp → Prop), Inv X pins σ H s → RelV x v → r x H R → wpAny (model X.prog X.w) X.A (pyIter v) (PIE X pins σ tg R) X.xe s
theorem piv_list : PIV X tg (fun x H R => ∃ a, x = .ref a ∧ (∃ xs, SqL X.K H a xs) ∧ R (Itl X.K a) H) := by
  intro pins s σ H x v R I r1 q1
  obtain ⟨a, e, ⟨xs, hq⟩, q⟩ := q1
  subst e
  cases r1
  obtain ⟨its, rv, p, hz⟩ := I.list hq
  refine wpAny_pyIter_list p.isList ?_
  refine ⟨s.heap.objs.size, [s.heap.objs.size], _, _, H, rfl, I.kept (t' := s.toks) fun b o e => Heap.get?_push_of_some _ e, turn_list a _, ⟨_, Heap.get?_push_size _ rfl, rfl, rfl⟩, fun b hb => ?_, q⟩
  have e : b = s.heap.objs.size := by simpa using hb
  subst e
  exact I.fpOk (Nat.le_refl _) (I.hok.fresh (Nat.le_refl _))
theorem piv_tup : PIV X tg (fun x H R => ∃ a, x = .ref a ∧ (∃ xs, SqT X.K H a xs) ∧ R (Itt X.K a) H) := by
  intro pins s σ H x v R I r1 q1
  obtain ⟨a, e, ⟨xs, hq⟩, q⟩ := q1
  subst e
  cases r1
  obtain ⟨its, rv, p, hz⟩ := I.tuple hq
  refine wpAny_pyIter_tuple (show s.heap.IsTuple a its.toArray from p) ?_
  refine ⟨s.heap.objs.size, [s.heap.objs.size], _, _, H, rfl, I.kept (t' := s.toks) fun b o e => Heap.get?_push_of_some _ e, turn_tuple a _, ⟨_, Heap.get?_push_size _ rfl, rfl, rfl⟩, fun b hb => ?_, q⟩
  have e : b = s.heap.objs.size := by simpa using hb
  subst e
  exact I.fpOk (Nat.le_refl _) (I.hok.fresh (Nat.le_refl _))
theorem piv_str : PIV X tg (fun x H R => ∃ y, x = .str y ∧ R (Its y) H) := by
  intro pins s σ H v u R I r1 q
  obtain ⟨x, ex, q⟩ := q
  subst ex
  obtain ⟨t, rfl⟩ := r1
  cases ha : x.cps.all (· < 128)
  · exact wpAny_pyIter_wide ha (pi_one (tk := s.toks) I _ (turn_str _ x t "str_iterator" (.inr rfl)) ⟨_, Heap.get?_push_size _ rfl, rfl, rfl⟩ q)
  · exact wpAny_pyIter_ascii ha (pi_one (tk := s.toks) I _ (turn_str _ x t "str_ascii_iterator" (.inl rfl)) ⟨_, Heap.get?_push_size _ rfl, rfl, rfl⟩ q)
theorem PIV.or {r r' : V → Hp → (It → Hp → Prop) → Prop} (h : PIV X tg r) (h' : PIV X tg r') : PIV X tg (fun x H R => r x H R ∨ r' x H R) := fun pins s σ H x v R I rx q => q.elim (h pins s σ H x v R I rx) (h' pins s σ H x v R I rx)
theorem PIV.pi {r : V → Hp → (It → Hp → Prop) → Prop} {te : TE} (h : PIV X tg r) (he : PE X e te) : PI X tg e (fun σ H R => te σ H fun x H1 => r x H1 R) :=
  ⟨fun pins s σ H R I q => thn (he.run pins s σ H _ I q) fun v s1 ⟨x, H1, I1, r1, q1⟩ => h pins s1 σ H1 x v R I1 r1 q1⟩
theorem scr_sq {K : PySem.W.Frag} {ι : Z} {H : Hp} {a : Addr} {vs : List V} (e : ι.k = K) (h : (∃ o, H a = some (.frz o (.lst vs))) ∨ KL ι.k a vs) : SqL K H a vs := by
  subst e
  exact h.imp (fun h => .inr h) id
theorem get_rds {H : Hp} {ι : Z} {ds : List D} {vs : List V} (r : RDs H ι ds vs) {i : Nat} {x : V} (e : vs[i]? = some x) : ∃ d, ds[i]? = some d ∧ RD H ι d x := by
  have hi : i < ds.length := by rw [r.length]; exact (List.getElem?_eq_some_iff.mp e).1
  obtain ⟨v, e', rd⟩ := r.get (List.getElem?_eq_getElem hi)
  rw [e] at e'; cases e'
  exact ⟨_, List.getElem?_eq_getElem hi, rd⟩
theorem RIt.of_list {mg : EnvK} {K : PySem.W.Frag} {H : Hp} {ι : Z} {ds : List D} {grd : Sto → Prop} {a : Addr} (hz : ds.length ≤ sizeLine)
    (h : ∀ H1 ι1 S1, Lift ι H ι1 H1 → Rep H1 ι1 mg S1 → grd S1 → ∃ vs, SqL K H1 a vs ∧ RDs H1 ι1 ds vs) : RIt mg H ι (ds, grd) (Itl K a) := by
  refine ⟨hz, fun i H1 ι1 S1 l rp gr => ?_⟩
  obtain ⟨vs, hr, r⟩ := h H1 ι1 S1 l rp gr
  have hl := r.length
  refine ⟨fun hi => ?_, fun hi => ⟨vs, hr, by rw [← hl]; exact hi⟩⟩
  have hi' : i < vs.length := by rw [← hl]; exact hi
  refine ⟨⟨vs, vs[i], hr, List.getElem?_eq_getElem hi'⟩, fun x H2 ⟨e, y⟩ => ?_⟩
  subst e
  obtain ⟨d, e, rd⟩ := get_rds r (y vs hr)
  exact ⟨d, e, .refl, rp, rd⟩
theorem RIt.of_tup {mg : EnvK} {K : PySem.W.Frag} {H : Hp} {ι : Z} {ds : List D} {grd : Sto → Prop} {a : Addr} {vs : List V} (hz : ds.length ≤ sizeLine)
    (h : Tp H a vs) (r : RDs H ι ds vs) : RIt mg H ι (ds, grd) (Itt K a) := by
  refine ⟨hz, fun i H1 ι1 S1 l rp gr => ?_⟩
  have hr := l.tup a vs h
  have r := r.mono l
  have hl := r.length
  refine ⟨fun hi => ?_, fun hi => ⟨vs, hr.sq, by rw [← hl]; exact hi⟩⟩
  have hi' : i < vs.length := by rw [← hl]; exact hi
  refine ⟨⟨vs, vs[i], hr.sq, List.getElem?_eq_getElem hi'⟩, fun x H2 ⟨e, y⟩ => ?_⟩
  subst e
  obtain ⟨d, e, rd⟩ := get_rds r (y vs (hr.sq))
  exact ⟨d, e, .refl, rp, rd⟩
theorem di_items (he : DE X W e ma) : DI X W tg e (sItems ma) :=
  pi_imp (((piv_list (X := X) (tg := tg)).or (piv_tup.or piv_str)).pi he) fun σ H R h => t_bind h fun ι S δ d v H' rp rs rd g => by
    cases d with
    | lst ds =>
      simp only [RD] at rd
      obtain ⟨a, vs, e, h1, n, z, h2⟩ := rd
      exact .inl ⟨a, e, ⟨vs, .of h1⟩, g.here rp (RIt.of_list z fun H1 ι1 S1 l _ _ => ⟨vs, .of (l.lst a vs n h1).1, h2.mono l⟩)⟩
    | scr ds =>
      simp only [RD] at rd
      obtain ⟨a, vs, e, h1, z, h2⟩ := rd
      exact .inl ⟨a, e, ⟨vs, scr_sq rp.kk h1⟩, g.here rp (RIt.of_list z fun H1 ι1 S1 l rp1 _ => ⟨vs, scr_sq rp.kk (h1.imp (fun ⟨o, h⟩ => ⟨o, l.scr a o vs h⟩) id), h2.mono l⟩)⟩
    | tup ds =>
      simp only [RD] at rd
      obtain ⟨a, vs, e, h1, z, h2⟩ := rd
      exact .inr (.inl ⟨a, e, ⟨vs, h1.sq⟩, g.here rp (RIt.of_tup z h1 h2)⟩)
    | str y =>
      simp only [RD] at rd
      refine .inr (.inr ⟨y, rd.1, g.here rp ⟨?_, fun i H1 ι1 S1 l rp gr => ⟨fun hi => ?_, fun hi => ?_⟩⟩⟩)
      · rw [List.length_map, Array.length_toList]; exact rd.2
      · have hi : i < y.cps.size := by rw [List.length_map, Array.length_toList] at hi; exact hi
        refine ⟨hi, fun x H2 ⟨e, c, e1, e2⟩ => ?_⟩
        subst e
        refine ⟨.str ⟨#[c]⟩, ?_, .refl, rp, ?_⟩
        · rw [List.getElem?_map, Array.getElem?_toList, e1]; rfl
        · simp only [RD]; exact ⟨e2, by show 1 ≤ sizeLine; decide⟩
      · rw [List.length_map, Array.length_toList] at hi; exact hi
    | ref k =>
      simp only [RD] at rd
      obtain ⟨a, e, h1⟩ := rd
      obtain ⟨o, e2, ro⟩ := rp.has h1
      simp only [e2] at g
      cases o with
      | lst ds =>
        obtain ⟨vs, h3, z, h4⟩ := ro
        refine .inl ⟨a, e, ⟨vs, .of h3⟩, g.here rp (RIt.of_list z fun H1 ι1 S1 l rp1 gr => ?_)⟩
        obtain ⟨ws, h5, _, h6⟩ := rp1.obj k a _ (l.pre k a h1) gr
        exact ⟨ws, .of h5, h6⟩
      | _ => exact g.elim
    | _ => exact g.elim
theorem rangeD_get {lo : Int} {n i : Nat} (h : i < n) : (rangeD lo n)[i]? = some (.int (lo + i)) := by
  unfold rangeD
  rw [List.getElem?_map, List.getElem?_range h]; rfl
theorem RIt.of_range {mg : EnvK} {H : Hp} {ι : Z} {lo : Int} {n : Nat} {grd : Sto → Prop} (hz : n ≤ sizeLine) : RIt mg H ι (rangeD lo n, grd) (Itr lo n) := by
  have hl : (rangeD lo n).length = n := by simp [rangeD]
  refine ⟨by rw [hl]; exact hz, fun i H1 ι1 S1 l rp gr => ⟨fun hi => ?_, fun hi => ?_⟩⟩
  · rw [hl] at hi
    refine ⟨hi, fun x H2 ⟨e, y⟩ => ?_⟩
    subst e
    exact ⟨_, rangeD_get hi, .refl, rp, by simp only [RD]; exact y⟩
  · rw [hl] at hi; exact hi
theorem sz62 : ((sizeLine : Nat) : Int) < 2 ^ 62 := by rw [sizeLine_eq]; decide
theorem di_range1 {p q : Pos} (hg : Gl X "range") (hm : X.mg "range" = none) (ha : DE X W a ma) (hs : starEach [a] X.env = [(false, eval a X.env)] := by rfl) : DI X W tg (.Call (.Name "range" p) [a] [] q) (sRange1 ma) :=
  pi_imp (pi_range1 hg hm (da_cons ha da_nil hs) hs) fun σ H J ⟨ι, S, δ, rp, rs, g⟩ => by
    refine ⟨ι, S, δ, rp, rs, ?_⟩
    unfold sRange1 at g
    unfold mCons mNil
    cases e : ma δ S with
    | ok d S1 =>
      rw [e] at g
      simp only [PM.R.bind_ok] at g ⊢
      intro ι' H' vs st rp' rd
      split at g
      · rename_i j
        split at g
        · rename_i hj
          simp only [RDs, RD] at rd
          obtain ⟨v, r, e, e1, e2⟩ := rd
          subst e e1 e2
          unfold limR lim62 at hj
          simp only [Bool.and_eq_true, decide_eq_true_eq] at hj
          exact ⟨j, rfl, hj.1.2.1, hj.1.2.2, g.at st rp' (RIt.of_range (by omega))⟩
        · exact g.elim
      · exact g.elim
    | exc c S1 => rw [e] at g; exact g
    | stuck => rw [e] at g; exact g.elim
theorem di_range2 {p q : Pos} (hg : Gl X "range") (hm : X.mg "range" = none) (ha : DE X W a ma) (hb : DE X W b mb) (hs : starEach [a, b] X.env = [(false, eval a X.env), (false, eval b X.env)] := by rfl) (hs2 : starEach [b] X.env = [(false, eval b X.env)] := by rfl) :
    DI X W tg (.Call (.Name "range" p) [a, b] [] q) (sRange2 ma mb) :=
  pi_imp (pi_range2 hg hm (da_cons ha (da_cons hb da_nil hs2) (by rw [hs, hs2])) hs hs2) fun σ H J ⟨ι, S, δ, rp, rs, g⟩ => by
    refine ⟨ι, S, δ, rp, rs, ?_⟩
    unfold sRange2 at g
    unfold mCons mNil
    cases e : ma δ S with
    | ok d S1 =>
      rw [e] at g
      simp only [PM.R.bind_ok] at g ⊢
      cases e2 : mb δ S1 with
      | ok d2 S2 =>
        rw [e2] at g
        simp only [PM.R.bind_ok] at g ⊢
        intro ι' H' vs st rp' rd
        split at g
        · rename_i i j
          split at g
          · rename_i hj
            simp only [RDs, RD] at rd
            obtain ⟨v, r, e, e1, v2, r2, e3, e4, e5⟩ := rd
            subst e e3 e1 e4 e5
            unfold limR lim62 at hj
            simp only [Bool.and_eq_true, decide_eq_true_eq] at hj
            exact ⟨i, j, rfl, ⟨hj.1.1.1, hj.1.1.2, hj.1.2.1, hj.1.2.2⟩, g.at st rp' (RIt.of_range (by omega))⟩
          · exact g.elim
        · exact g.elim
      | exc c S2 => rw [e2] at g; exact g
      | stuck => rw [e2] at g; exact g.elim
    | exc c S1 => rw [e] at g; exact g
    | stuck => rw [e] at g; exact g.elim

/-! ### calls -/
/-- a def's promise: it answers as c does -/
def spD (mg : EnvK) (n : Nat) (c : List D → Sto → R D) : Sp := fun vs H Q E => vs.length = n ∧ ∃ ι S ds, Rep H ι mg S ∧ RDs H ι ds vs ∧ G mg E ι H RD (c ds S) Q
structure Has (P : Program) (w : World) (K : PySem.W.Frag) (mg : Str → Option Value) (base : Heap) (k : Nat) (x : Str) (n : Nat) (c : List D → Sto → R D) : Prop where
  ex : ∃ (f : Addr) (fd : FuncData) (ps : List Str), FnOk P w K mg base (L2.CX P w) k f fd ps (spD ⟨mg, K⟩ n c) ∧ mg x = some (.ref f) ∧ PySem.W.keepIn K (.ref f) = true ∧ Binds K fd ps [] ∧ ps.length = n
/-- arguments whose number is known -/
def DAL (X : Cx) (W : WX) (es : List Expr) (m : Am) (n : Nat) : Prop := DA X W es m ∧ ∀ δ S ds S', m δ S = .ok ds S' → ds.length = n
theorem dal_nil : DAL X W [] mNil 0 := ⟨da_nil, fun δ S ds S' h => by simp only [mNil, R.ok.injEq] at h; rw [← h.1]; rfl⟩
theorem dal_cons {n : Nat} (ha : DE X W e ma) (hr : DAL X W es am n) (hs : starEach (e :: es) X.env = (false, eval e X.env) :: starEach es X.env := by rfl) : DAL X W (e :: es) (mCons ma am) (n + 1) :=
  ⟨da_cons ha hr.1 hs, fun δ S ds S' h => by
    unfold mCons at h
    cases h1 : ma δ S with
    | ok x S1 =>
      rw [h1] at h
      simp only [R.bind_ok] at h
      cases h2 : am δ S1 with
      | ok xs S2 =>
        rw [h2] at h
        simp only [R.bind_ok, R.ok.injEq] at h
        rw [← h.1, List.length_cons, hr.2 _ _ _ _ h2]
      | exc c S2 => rw [h2] at h; cases h
      | stuck => rw [h2] at h; cases h
    | exc c S1 => rw [h1] at h; cases h
    | stuck => rw [h1] at h; cases h⟩
theorem de_call {k n : Nat} {x : Str} {cf : List D → Sto → R D} (F : Has X.prog X.w X.K X.mg X.base k x n cf) (hr : Room k X.A) (tk : Takes X W) (hg : Gl X x) (ha : DAL X W (e :: es) am n)
    (hdb : (x == ("__debug__" : Str)) = false := by decide) (he : starEach (e :: es) X.env = (false, eval e X.env) :: starEach es X.env := by rfl) (hpl : (backTo pos (starEach es X.env)).any (·.1) = false := by rfl):
    DE X W (.Call (.Name x p) (e :: es) [] pos) (mApp cf am) := by
  obtain ⟨f, fd, ps, F, hm, hk, hb, hps⟩ := F.ex
  refine pe_imp (pe_callS F hr hg hm hk hb (fun σ => passAt tk σ) ha.1 hdb he hpl) fun σ H Q h => ?_
  obtain ⟨ι, S, δ, rp, rs, g⟩ := h
  refine ⟨ι, S, δ, rp, rs, ?_⟩
  have q := G.bind (Rl := RDs) g
  cases e1 : am δ S with
  | ok ds S1 =>
    rw [e1] at q
    intro ι' H' vs st rp' rd'
    obtain ⟨ι1, S2, ds2, st1, rp1, rd1, g1⟩ := q ι' H' vs st rp' rd'
    exact ⟨by rw [← rd'.length]; exact ha.2 _ _ _ _ e1, ι1, S2, ds2, rp1, rd1, g1⟩
  | exc c S1 => rw [e1] at q; exact q
  | stuck => rw [e1] at q; exact q
end
end PM

/-! PM, part 5: comprehensions, a def's end -/
namespace PM
open PySem PySem.Spec L2
abbrev w0 : WX := fun _ _ _ _ => False
theorem wipe_get (σ : St) (j : Nat) : ∀ vs : List Nat, (wipe σ vs)[j]? = if j ∈ vs then σ[j]?.map (fun _ => none) else σ[j]?
  | [] => by simp [wipe]
  | v :: vs => by
    unfold wipe
    by_cases h : v = j
    · subst h
      have ih := wipe_get σ v vs
      rw [if_pos (by simp), List.getElem?_set]
      simp only [↓reduceIte, wipe_length]
      by_cases hl : v < σ.length
      · rw [if_pos hl, List.getElem?_eq_getElem hl]; rfl
      · rw [if_neg hl, List.getElem?_eq_none (by omega)]; rfl
    · rw [List.getElem?_set_ne h, wipe_get σ j vs]
      by_cases hj : j ∈ vs
      · rw [if_pos hj, if_pos (by simp [hj])]
      · rw [if_neg hj, if_neg (by simp [hj]; exact fun e => h e.symm)]
theorem wipeD_get (δ : Loc) (j : Nat) : ∀ vs : List Nat, (wipeD δ vs)[j]? = if j ∈ vs then δ[j]?.map (fun _ => none) else δ[j]?
  | [] => by simp [wipeD]
  | v :: vs => by
    unfold wipeD
    have hlen : ∀ vs : List Nat, (wipeD δ vs).length = δ.length := fun vs => by
      induction vs with
      | nil => rfl
      | cons v vs ih => unfold wipeD; rw [List.length_set, ih]
    by_cases h : v = j
    · subst h
      rw [if_pos (by simp), List.getElem?_set]
      simp only [↓reduceIte, hlen]
      by_cases hl : v < δ.length
      · rw [if_pos hl, List.getElem?_eq_getElem hl]; rfl
      · rw [if_neg hl, List.getElem?_eq_none (by omega)]; rfl
    · rw [List.getElem?_set_ne h, wipeD_get δ j vs]
      by_cases hj : j ∈ vs
      · rw [if_pos hj, if_pos (by simp [hj])]
      · rw [if_neg hj, if_neg (by simp [hj]; exact fun e => h e.symm)]
theorem wipeD_length (δ : Loc) : ∀ vs : List Nat, (wipeD δ vs).length = δ.length
  | [] => rfl
  | v :: vs => by unfold wipeD; rw [List.length_set, wipeD_length δ vs]
theorem wipe_set {σ : St} {i : Nat} {x : Option V} {vs : List Nat} (h : i ∈ vs) : wipe (σ.set i x) vs = wipe σ vs := by
  apply List.ext_getElem?
  intro j
  rw [wipe_get, wipe_get]
  by_cases hj : j ∈ vs
  · rw [if_pos hj, if_pos hj, List.getElem?_set]
    split
    · rename_i e; subst e
      split
      · rename_i hl; rw [List.getElem?_eq_getElem hl]; rfl
      · rename_i hl; rw [List.getElem?_eq_none (by omega)]
    · rfl
  · rw [if_neg hj, if_neg hj, List.getElem?_set_ne (fun e => hj (by rw [← e]; exact h))]
theorem wipe_wipe (σ : St) (vs : List Nat) : wipe (wipe σ vs) vs = wipe σ vs := by
  apply List.ext_getElem?
  intro j
  rw [wipe_get, wipe_get]
  split
  · cases σ[j]? <;> rfl
  · rfl
section
variable {H : Hp} {ι : Z} {δ : Loc} {σ : St}
theorem RSt.wipe (rs : RSt H ι δ σ) (vs : List Nat) : RSt H ι (wipeD δ vs) (L2.wipe σ vs) := by
  refine ⟨by rw [wipeD_length, wipe_length, rs.len], fun i d e => ?_⟩
  rw [wipeD_get] at e
  rw [wipe_get]
  split at e
  · cases h : δ[i]? with
    | none => rw [h] at e; cases e
    | some o => rw [h] at e; cases e
  · rename_i hi
    rw [if_neg hi]
    exact rs.at' i d e
end
/-- a target that touches the slots vs alone -/
def TgR (vs : List Nat) (gt : TG) (gm : Gm) : Prop := ∀ (mg : EnvK) (W : XK) (ι : Z) (S : Sto) (H : Hp) (δ : Loc) (σ : St) (d : D) (v : V) (Q T : St → Hp → Prop),
  Rep H ι mg S → RSt H ι δ σ → RD H ι d v → G mg W ι H RSt (gm d δ S) Q → (∀ σ2 H2, L2.wipe σ2 vs = L2.wipe σ vs → Q σ2 H2 → T σ2 H2) → gt v σ H T
theorem tgr_name {i : Nat} {vs : List Nat} (h : i ∈ vs) : TgR vs (gName i) (gmName i) := fun mg W ι S H δ σ d v Q T rp rs rd g k => k _ _ (wipe_set h) (g.here rp (rs_set rs rd i))
theorem nms_runW {X : Cx} {mg : EnvK} {W : XK} {vs' : List Nat} : ∀ {es : List Expr} {is : List Nat} {t : TGs}, Nms X es is t → (∀ i ∈ is, i ∈ vs') → ∀ {ds : List D} {vs : List V} {δ : Loc} {σ : St} {S : Sto} {H : Hp} {ι : Z} {Q T : St → Hp → Prop}, Rep H ι mg S → RSt H ι δ σ → RDs H ι ds vs →
    G mg W ι H RSt (gmNames is ds δ S) Q → (∀ σ2 H2, L2.wipe σ2 vs' = L2.wipe σ vs' → Q σ2 H2 → T σ2 H2) → vs.length = is.length ∧ t vs σ H T
  | _, _, _, .nil, hi, [], vs, δ, σ, S, H, ι, Q, T, rp, rs, r, g, k => by
    simp only [RDs] at r; subst r
    exact ⟨rfl, rfl, k _ _ rfl (g.here rp rs)⟩
  | _, _, _, .nil, hi, d :: ds, vs, δ, σ, S, H, ι, Q, T, rp, rs, r, g, k => g.elim
  | _, _, _, .cons h, hi, [], vs, δ, σ, S, H, ι, Q, T, rp, rs, r, g, k => g.elim
  | _, _, _, .cons (i := i) h, hi, d :: ds, vs, δ, σ, S, H, ι, Q, T, rp, rs, r, g, k => by
    simp only [RDs] at r
    obtain ⟨v, w, e, r1, r2⟩ := r
    subst e
    obtain ⟨q1, q2⟩ := nms_runW (W := W) (vs' := vs') h (fun j hj => hi j (List.mem_cons_of_mem _ hj)) rp (rs_set rs r1 _) r2 g (fun σ2 H2 e q => k σ2 H2 (by rw [e]; exact wipe_set (hi i (List.mem_cons_self))) q)
    exact ⟨by simp [q1], v, w, rfl, q2⟩
theorem tgr_tup {X : Cx} {K : PySem.W.Frag} {es : List Expr} {is vs' : List Nat} {t : TGs} (nm : Nms X es is t) (hi : ∀ i ∈ is, i ∈ vs') : TgR vs' (gTup K is.length t) (gmTup is) := fun mg W ι S H δ σ d v Q T rp rs rd g k => by
  cases d with
  | tup ds =>
    simp only [RD] at rd
    obtain ⟨a, vs, e, h1, z, h2⟩ := rd
    obtain ⟨q1, q2⟩ := nms_runW nm hi rp rs h2 g k
    exact ⟨a, vs, e, h1.sq, q1, q2⟩
  | _ => exact g.elim
section
variable {mg : EnvK} {α β γ ε : Type} {W : XK} {ι ι2 : Z} {H H2 : Hp}
theorem G.quiet {Rl : Rel α β} {Rl2 : Rel γ ε} {r : R α} {k : α → Sto → R γ} {Q : ε → Hp → Prop} (W0 : XK) (h : G mg W ι H Rl2 (r.quiet.bind k) Q) :
    G mg W0 ι2 H2 Rl r (fun b H' => ∃ ι' S' a, Step ι2 H2 ι' H' ∧ Rep H' ι' mg S' ∧ Rl H' ι' a b ∧ G mg W ι H Rl2 (k a S') Q) := by
  cases r with
  | ok a S => exact fun ι' H' b st rp rl => ⟨ι', S, a, st, rp, rl, h⟩
  | exc c S => exact h.elim
  | stuck => exact h.elim
end
theorem compM_grd {grd : Sto → Prop} {g : Gm} {t : Tm} {e : Em} {δ : Loc} {acc xs : List D} {S : Sto} {mg W ι H} {Q : V → Hp → Prop} (h : G mg W ι H RD (compM grd g t e δ acc xs S) Q) : grd S := by
  cases xs with
  | nil =>
    rw [compM] at h
    split at h
    · assumption
    · exact h.elim
  | cons x xs =>
    rw [compM] at h
    split at h
    · assumption
    · exact h.elim
section
variable {X : Cx} {W : WX} {pos : Pos} {m : Em} {t : Tm} {g : Gm}
def DTs (X : Cx) (W : WX) (ifs : List Expr) (m : Tm) : Prop := PTs X ifs (tD X.ek W REq m)
theorem dts_nil : DTs X W [] mYes := ⟨fun pins s σ H Q I ⟨ι, S, δ, rp, rs, g⟩ => pts_nil.run pins s σ H Q I (g.here rp rfl)⟩
theorem dts_one {c : Expr} (h : DT X W c t) : DTs X W [c] t := pts_one h
theorem comp_core {tg : Expr} {gt : TG} {src : Src} {vs : List Nat} (hr : TgR vs gt g) {σ : St} {H : Hp} {Q : VK} (h : tDE X.ek W (mComp src g t m vs) σ H Q) :
    tLc (tDI X.ek W src) gt (tD X.ek w0 REq t) (tDE X.ek w0 m) vs σ H Q := by
  refine t_bind h fun ι S δ p J H1 rp rs rit gs => ?_
  obtain ⟨hz, rit⟩ := rit
  intro D hD
  have hno := rp.fresh hD
  refine ⟨fun i m' H2 => m' = p.1.length - i ∧ i ≤ p.1.length ∧ ∃ ι2 S2 accD accV, Lift ι H1 ι2 H2 ∧ ι2.b = D :: ι.b ∧ Rep H2 ι2 X.ek S2 ∧ H2 D = some (.lst accV) ∧ RDs H2 ι2 accD accV ∧ accD.length ≤ i ∧
      (∀ x ∈ ι.b, ∀ o, H1 x = some o → H2 x = some o) ∧ G X.ek (wat W σ) ι H1 RD (compM p.2 g t m (wipeD δ vs) accD (p.1.drop i) S2) Q,
    ⟨_, rfl, Nat.zero_le _, ι.hide D, S, [], [], Lift.hide hD, rfl, rp.hide hD (.intro (fun _ _ z => nomatch z) (fun _ _ z => nomatch z)), upd_same, RDs.nil, Nat.le_refl _, fun x _ o e => by rw [upd_ne (ne_of_none e hD)]; exact e, by rw [List.drop_zero]; exact gs⟩, ?_⟩
  rintro i m' H2 ⟨rfl, hi, ι2, S2, accD, accV, lf, eb, rp2, hH, ra, hl, hid, g2⟩
  have gr := compM_grd g2
  obtain ⟨q1, q2⟩ := rit i H2 ι2 S2 lf rp2 gr
  by_cases hlt : i < p.1.length
  · obtain ⟨q3, q4⟩ := q1 hlt
    refine .inr ⟨q3, fun H' => i + 1 ≤ p.1.length ∧ ∃ ι2 S2 accD accV, Lift ι H1 ι2 H' ∧ ι2.b = D :: ι.b ∧ Rep H' ι2 X.ek S2 ∧ H' D = some (.lst accV) ∧ RDs H' ι2 accD accV ∧ accD.length ≤ i + 1 ∧
      (∀ x ∈ ι.b, ∀ o, H1 x = some o → H' x = some o) ∧ G X.ek (wat W σ) ι H1 RD (compM p.2 g t m (wipeD δ vs) accD (p.1.drop (i + 1)) S2) Q, fun H' q => ⟨_, by omega, rfl, q⟩, fun x H3 y => ?_⟩
    obtain ⟨d, e, st3, rp3, rd⟩ := q4 x H3 y
    have e2 : p.1.drop i = d :: p.1.drop (i + 1) := by
      have := List.getElem?_eq_some_iff.mp e
      rw [List.drop_eq_getElem_cons hlt, this.2]
    rw [e2, compM, if_pos gr] at g2
    have rs3 : RSt H3 ι2 (wipeD δ vs) (L2.wipe σ vs) := (rs.wipe vs).mono (lf.trans st3.up)
    have hDb : D ∈ ι2.b := by rw [eb]; exact List.mem_cons_self
    have sub : ∀ x ∈ ι.b, x ∈ ι2.b := fun x hx => by rw [eb]; exact List.mem_cons_of_mem _ hx
    -- the target
    have gq := G.quiet (ι2 := ι2) (H2 := H3) (Rl := RSt) (fun _ _ _ => False) g2
    refine hr X.ek _ ι2 S2 H3 (wipeD δ vs) (L2.wipe σ vs) d x _ _ rp3 rs3 rd gq ?_
    rw [wipe_wipe]
    · rintro σ2 H4 hw ⟨ι4, S4, δ4, st4, rp4, rs4, g4⟩
      refine ⟨hw, ι4, S4, δ4, rp4, rs4, (G.quiet (ι2 := ι4) (H2 := H4) (Rl := REq) _ g4).imp fun b H5 ⟨ι5, S5, k, st5, rp5, ek, g5⟩ => ?_⟩
      rw [show b = k from ek]
      have st35 : Step ι2 H2 ι5 H5 := (st3.trans st4).trans st5
      cases k with
      | false =>
        rw [if_neg Bool.false_ne_true] at g5 ⊢
        exact ⟨hlt, ι5, S5, accD, accV, lf.trans st35.up, st35.bb.trans eb, rp5, st35.hid D hDb _ hH, ra.mono st35.up, by omega, fun x hx o ex => st35.hid x (sub x hx) o (hid x hx o ex), g5⟩
      | true =>
        rw [if_pos rfl] at g5 ⊢
        refine ⟨ι5, S5, δ4, rp5, rs4.mono st5.up, (G.quiet (ι2 := ι5) (H2 := H5) (Rl := RD) _ g5).imp fun yv H6 ⟨ι6, S6, yd, st6, rp6, ry, g6⟩ => ?_⟩
        have st36 : Step ι2 H2 ι6 H6 := st35.trans st6
        have eb6 : ι6.b = D :: ι.b := st36.bb.trans eb
        have hD6 : D ∈ ι6.b := by rw [eb6]; exact List.mem_cons_self
        have hH6 := st36.hid D hDb _ hH
        have la : accV.length = accD.length := ra.length.symm
        refine ⟨accV, hH6, by omega, hlt, ?_⟩
        obtain ⟨rp7, l7⟩ := rp6.writeHid (o := .lst (accV ++ [yv])) hD6 (.intro (fun _ _ z => nomatch z) (fun _ _ z => nomatch z))
        refine ⟨ι6, S6, accD ++ [yd], accV ++ [yv], (lf.trans st36.up).trans l7, eb6, rp7, upd_same, ((ra.mono st36.up).mono l7).app (.cons (ry.mono l7) .nil), by simp; omega, fun x hx o ex => ?_, g6⟩
        have : x ≠ D := fun z => hno.2 (z ▸ hx)
        rw [upd_ne this]
        exact st36.hid x (sub x hx) o (hid x hx o ex)
  · have e : i = p.1.length := by omega
    subst e
    rw [List.drop_length, compM, if_pos gr] at g2
    refine .inl ⟨q2 (Nat.le_refl _), ?_⟩
    have eb' : ι2.b = D :: ι.b := eb
    refine g2.at (ι' := ⟨ι2.a, ι.b, ι2.k⟩) (H' := H2) ⟨lf.trans (Lift.show eb'), rfl, hid⟩ (rp2.show eb') ?_
    simp only [RD]
    exact ⟨D, accV, rfl, hH, ⟨(rp2.bt D (by rw [eb]; exact List.mem_cons_self)).1, hno.2⟩, by omega, ra.mono (Lift.show eb')⟩
theorem de_comp {elt tg iter : Expr} {ifs : List Expr} {scope : Scope} {own : List (Str × Nat)} {gt : TG} {src : Src} (hc : X.calm = true) (hN : X.N.Nodup) (hi : DI X W tg iter src) (ok : BlkOk X.N X.env.scope scope own)
    (hg : ∀ (s : Shared) (H : Hp) (C : Addr) (cl : List (Str × Addr)) (fp : List Addr), PG (X.blk s H scope (compEnvC scope cl C X.env) fp) tg gt) (hr : TgR (own.map (·.2)) gt g)
    (ht : ∀ (s : Shared) (H : Hp) (C : Addr) (cl : List (Str × Addr)) (fp : List Addr), DTs (X.blk s H scope (compEnvC scope cl C X.env) fp) w0 ifs t)
    (he : ∀ (s : Shared) (H : Hp) (C : Addr) (cl : List (Str × Addr)) (fp : List Addr), DE (X.blk s H scope (compEnvC scope cl C X.env) fp) w0 elt m) (hs : ∀ x, foldedSetIterable iter X.env x = pure x := by intro _; rfl) :
    DE X W (.ListComp elt [⟨tg, iter, ifs, 0⟩] scope pos) (mComp src g t m (own.map (·.2))) :=
  pe_imp (pe_lc (tt := tD X.ek w0 REq t) (te := tDE X.ek w0 m) hc hN hi ok hg ht he hs) fun σ H Q h => comp_core (tg := tg) hr h
theorem ds_setComp {i : Nat} {y : Str} {py spos : Pos} {elt tg iter : Expr} {ifs : List Expr} {scope : Scope} {own : List (Str × Nat)} {gt : TG} {src : Src} (hc : X.calm = true) (hN : X.N.Nodup) (hy : X.N[i]? = some y) (hyl : X.env.scope.names.lookup y = some .local)
    (hsw : swapsWith (.ListComp elt [⟨tg, iter, ifs, 0⟩] scope pos) (some (.Name y py)) spos.line X.env = pure true) (hi : DI X W tg iter src) (ok : BlkOk X.N X.env.scope scope own)
    (hg : ∀ (s : Shared) (H : Hp) (C : Addr) (cl : List (Str × Addr)) (fp : List Addr), PG (X.blk s H scope (compEnvC scope cl C X.env) fp) tg gt) (hr : TgR (own.map (·.2)) gt g)
    (ht : ∀ (s : Shared) (H : Hp) (C : Addr) (cl : List (Str × Addr)) (fp : List Addr), DTs (X.blk s H scope (compEnvC scope cl C X.env) fp) w0 ifs t)
    (he : ∀ (s : Shared) (H : Hp) (C : Addr) (cl : List (Str × Addr)) (fp : List Addr), DE (X.blk s H scope (compEnvC scope cl C X.env) fp) w0 elt m) (hs : ∀ x, foldedSetIterable iter X.env x = pure x := by intro _; rfl) :
    DS X W (.Assign [.Name y py] (.ListComp elt [⟨tg, iter, ifs, 0⟩] scope pos) spos) (sAsg (mComp src g t m (own.map (·.2))) (gmName i)) :=
  ps_imp (ps_setLc (tt := tD X.ek w0 REq t) (te := tDE X.ek w0 m) hc hN hy hyl hsw hi ok hg ht he hs) fun D σ H h =>
    comp_core (tg := tg) hr (s_bind h fun ι S δ d v H' rp rs r g => g ι H' _ .refl rp (rs_set rs r _))
end
end PM

/-! PM, part 6: a def's body and its end -/
namespace PM
open PySem PySem.Spec L2 PyProof.Rows
def runB (body : Sm) (N : Nat) (ds : List D) (S : Sto) : R D := match body (ds.map some ++ List.replicate (N - ds.length) none) S with
  | .nx _ S' => .ok .non S'
  | .rt d S' => .ok d S'
  | .exc c _ S' => .exc c S'
  | _ => .stuck
/-- what is done with a def's objects at its end -/
abbrev Fin := Sto → R D → R D
def FinOk (fin : Fin) : Prop := ∀ (mg : EnvK) (W : XK) (ι : Z) (S : Sto) (H : Hp) (r : R D) (Q : VK), Rep H ι mg S → G mg W ι H RD (fin S r) Q → G mg W ι H RD r Q
def finRaw : Fin := fun _ r => r
theorem finRaw_ok : FinOk finRaw := fun _ _ _ _ _ _ _ _ h => h
section
variable {P : Program} {w : World} {K : PySem.W.Frag} {mg : Str → Option Value} {base : Heap}
theorem rst_start {H : Hp} {ι : Z} {N : List Str} {ds : List D} {vs : List V} (r : RDs H ι ds vs) : RSt H ι (ds.map some ++ List.replicate (N.length - ds.length) none) (L2.start N vs) := by
  have hl := r.length
  refine ⟨by simp [L2.start, hl], fun i d e => ?_⟩
  by_cases hi : i < ds.length
  · rw [List.getElem?_append_left (by simpa using hi), List.getElem?_map] at e
    rw [List.getElem?_eq_getElem hi] at e
    have e2 : ds[i] = d := by simpa using e
    obtain ⟨v, hv, rd⟩ := r.get (List.getElem?_eq_getElem hi)
    refine ⟨v, ?_, by rw [← e2]; exact rd⟩
    unfold L2.start
    rw [List.getElem?_append_left (by simp [← hl, hi]), List.getElem?_map, hv]; rfl
  · rw [List.getElem?_append_right (by simpa using hi)] at e
    have := List.mem_of_getElem? e
    rw [List.mem_replicate] at this
    exact absurd this.2 (by simp)
theorem has_fn {x qual : Str} {st : Stmt} {f : Addr} {fd : FuncData} {N ps : List Str} {k n : Nat} {body : Sm} {fin : Fin} (F : Fun K x qual st f fd) (Sc : FnScope N ps (defScope st)) (hn : ps.length = n) (hf : FinOk fin)
    (h : ∀ (cdv : Value) (A : Around) (outer : List Env) (s : Shared) (H : Hp) (E : XK), Room k (A.deeper (envOfC qual (defScope st) s.heap.objs.size f cdv)) →
      DSs (cxOf (L2.CX P w) P w K mg base N qual (defScope st) f cdv A outer s H E) (fun cls d _ H => E cls d H) (defBody st) body) :
    FnOk P w K mg base (L2.CX P w) (k + 1) f fd ps (spD ⟨mg, K⟩ n (fun ds S => fin S (runB body N.length ds S))) := by
  refine F.okX Sc (fun vs H Q E q => by rw [q.1, hn]) (fun cdv A outer s H vs Q E hr hsp => ?_)
  refine ⟨_, h cdv A outer s H E hr, ?_⟩
  obtain ⟨hl, ι, S, ds, rp, rd, g⟩ := hsp
  have g := hf _ _ _ _ _ _ _ rp g
  refine ⟨ι, S, _, rp, rst_start rd, ?_⟩
  show GS _ _ ι H _ _
  unfold runB at g
  revert g
  cases body (ds.map some ++ List.replicate (N.length - ds.length) none) S with
  | nx δ S' => exact fun g ι' H' σ' st rp rs => g ι' H' .non st rp (by simp only [RD])
  | rt d S' => exact fun g ι' H' v st rp r => g ι' H' v st rp r
  | exc c δ S' => exact fun g ι' H' σ' cls dx st rp rs rx => g ι' H' cls dx st rp rx
  | bk δ S' => exact fun g => g.elim
  | ct δ S' => exact fun g => g.elim
  | stuck => exact fun g => g.elim
theorem has_of {x qual : Str} {st : Stmt} {f : Addr} {fd : FuncData} {N ps : List Str} {k n : Nat} {body : Sm} {fin : Fin} (F : Fun K x qual st f fd) (Sc : FnScope N ps (defScope st)) (hm : mg x = some (.ref f)) (hb : Binds K fd ps []) (hn : ps.length = n) (hf : FinOk fin)
    (h : ∀ (cdv : Value) (A : Around) (outer : List Env) (s : Shared) (H : Hp) (E : XK), Room k (A.deeper (envOfC qual (defScope st) s.heap.objs.size f cdv)) →
      DSs (cxOf (L2.CX P w) P w K mg base N qual (defScope st) f cdv A outer s H E) (fun cls d _ H => E cls d H) (defBody st) body) :
    Has P w K mg base (k + 1) x n (fun ds S => fin S (runB body N.length ds S)) := ⟨f, fd, ps, has_fn F Sc hn hf h, hm, F.kp, hb, hn⟩
theorem has_zero {x qual : Str} {st : Stmt} {f : Addr} {fd : FuncData} {ps : List Str} {n : Nat} (F : Fun K x qual st f fd) (hm : mg x = some (.ref f)) (hb : Binds K fd ps []) (hn : ps.length = n) : Has P w K mg base 0 x n (fun _ _ => .stuck) :=
  ⟨f, fd, ps, ⟨fun vs H Q E q => by rw [q.1, hn], fun A outer s H args us vs Q E _ _ _ _ q => by
    obtain ⟨_, ι, S, ds, _, _, g⟩ := q
    exact g.elim⟩, hm, F.kp, hb, hn⟩
end
/-! ### no new objects are left behind -/
section
variable (n : Nat)
mutual
def D.cl : D → Bool
  | .tup ds => D.cls ds
  | .lst ds => D.cls ds
  | .scr ds => D.cls ds
  | .dct _ ds => D.cls ds
  | .ref m => decide (m < n)
  | _ => true
def D.cls : List D → Bool
  | [] => true
  | d :: ds => D.cl d && D.cls ds
end
def MO.cl : MO → Bool
  | .lst ds => D.cls n ds
  | .dK _ ds => D.cls n ds
  | .dT _ ds => D.cls n ds
  | .ins _ _ ds => D.cls n ds
end
section
variable {H : Hp} {ι : Z} {mg : EnvK}
mutual
theorem RD.cl : ∀ (d : D) (v : V), RD H ι d v → D.cl ι.a.length d = true
  | .non, _, _ => by simp only [D.cl]
  | .bl _, _, _ => by simp only [D.cl]
  | .int _, _, _ => by simp only [D.cl]
  | .str _, _, _ => by simp only [D.cl]
  | .tup ds, _, h => by
    simp only [RD] at h; simp only [D.cl]
    obtain ⟨a, vs, e, h1, z, h2⟩ := h
    exact RDs.cls ds vs h2
  | .lst ds, _, h => by
    simp only [RD] at h; simp only [D.cl]
    obtain ⟨a, vs, e, h1, n, z, h2⟩ := h
    exact RDs.cls ds vs h2
  | .scr ds, _, h => by
    simp only [RD] at h; simp only [D.cl]
    obtain ⟨a, vs, e, h1, z, h2⟩ := h
    exact RDs.cls ds vs h2
  | .dct ks ds, _, h => by
    simp only [RD] at h; simp only [D.cl]
    obtain ⟨a, vs, e, h1, n, z, y, h2⟩ := h
    exact RDs.cls ds vs h2
  | .ref m, _, h => by
    simp only [RD] at h; simp only [D.cl]
    obtain ⟨a, e, h1⟩ := h
    exact decide_eq_true (List.getElem?_eq_some_iff.mp h1).1
theorem RDs.cls : ∀ (ds : List D) (vs : List V), RDs H ι ds vs → D.cls ι.a.length ds = true
  | [], _, _ => by simp only [D.cls]
  | d :: ds, _, h => by
    simp only [RDs] at h; simp only [D.cls]
    obtain ⟨v, r, e, h1, h2⟩ := h
    rw [RD.cl d v h1, RDs.cls ds r h2]; rfl
end
abbrev Z.cut (ι : Z) (n : Nat) : Z := ⟨ι.a.take n, ι.b, ι.k⟩
theorem Z.no_cut {ι : Z} {n : Nat} {a : Addr} (h : ι.no a) : (ι.cut n).no a := ⟨fun q => h.1 (List.mem_of_mem_take q), h.2⟩
mutual
theorem RD.cut (n : Nat) : ∀ (d : D) (v : V), RD H ι d v → D.cl n d = true → RD H (ι.cut n) d v
  | .non, _, h, _ => by simp only [RD] at h ⊢; exact h
  | .bl _, _, h, _ => by simp only [RD] at h ⊢; exact h
  | .int _, _, h, _ => by simp only [RD] at h ⊢; exact h
  | .str _, _, h, _ => by simp only [RD] at h ⊢; exact h
  | .tup ds, _, h, c => by
    simp only [RD] at h ⊢; simp only [D.cl] at c
    obtain ⟨a, vs, e, h1, z, h2⟩ := h
    exact ⟨a, vs, e, h1, z, RDs.cut n ds vs h2 c⟩
  | .lst ds, _, h, c => by
    simp only [RD] at h ⊢; simp only [D.cl] at c
    obtain ⟨a, vs, e, h1, no, z, h2⟩ := h
    exact ⟨a, vs, e, h1, Z.no_cut no, z, RDs.cut n ds vs h2 c⟩
  | .scr ds, _, h, c => by
    simp only [RD] at h ⊢; simp only [D.cl] at c
    obtain ⟨a, vs, e, h1, z, h2⟩ := h
    exact ⟨a, vs, e, h1, z, RDs.cut n ds vs h2 c⟩
  | .dct ks ds, _, h, c => by
    simp only [RD] at h ⊢; simp only [D.cl] at c
    obtain ⟨a, vs, e, h1, no, z, y, h2⟩ := h
    exact ⟨a, vs, e, h1, Z.no_cut no, z, y, RDs.cut n ds vs h2 c⟩
  | .ref m, _, h, c => by
    simp only [RD] at h ⊢; simp only [D.cl, decide_eq_true_eq] at c
    obtain ⟨a, e, h1⟩ := h
    exact ⟨a, e, by rw [List.getElem?_take_of_lt c]; exact h1⟩
theorem RDs.cut (n : Nat) : ∀ (ds : List D) (vs : List V), RDs H ι ds vs → D.cls n ds = true → RDs H (ι.cut n) ds vs
  | [], _, h, _ => by simp only [RDs] at h ⊢; exact h
  | d :: ds, _, h, c => by
    simp only [RDs] at h ⊢; simp only [D.cls, Bool.and_eq_true] at c
    obtain ⟨v, r, e, h1, h2⟩ := h
    exact ⟨v, r, e, RD.cut n d v h1 c.1, RDs.cut n ds r h2 c.2⟩
end
theorem RO.cut (n : Nat) {a : Addr} : ∀ {o : MO}, RO H ι mg a o → o.cl n = true → RO H (ι.cut n) mg a o
  | .lst ds, ⟨vs, e, z, r⟩, c => ⟨vs, e, z, r.cut n _ _ c⟩
  | .dK ks ds, ⟨vs, e, z, y, r⟩, c => ⟨vs, e, z, y, r.cut n _ _ c⟩
  | .dT ks ds, ⟨vs, e, z, y, r⟩, c => ⟨vs, e, z, y, r.cut n _ _ c⟩
  | .ins cc fs ds, ⟨C, dx, vs, m, e, z, r⟩, c => ⟨C, dx, vs, m, e, z, r.cut n _ _ c⟩
theorem RO.cl {a : Addr} : ∀ {o : MO}, RO H ι mg a o → o.cl ι.a.length = true
  | .lst ds, ⟨vs, e, z, r⟩ => RDs.cls ds vs r
  | .dK ks ds, ⟨vs, e, z, y, r⟩ => RDs.cls ds vs r
  | .dT ks ds, ⟨vs, e, z, y, r⟩ => RDs.cls ds vs r
  | .ins cc fs ds, ⟨C, dx, vs, m, e, z, r⟩ => RDs.cls ds vs r
end
/-- the old objects hold no new ones -/
def ClS (S S' : Sto) : Prop := ∀ (m : Nat) (o : MO), m < S.length → S'[m]? = some o → S[m]? = some o ∨ o.cl S.length = true
theorem ClS.refl {S : Sto} : ClS S S := fun _ _ _ h => .inl h
theorem ClS.app {S T : Sto} : ClS S (S ++ T) := fun m o h e => .inl (by rw [List.getElem?_append_left h] at e; exact e)
theorem cut_step {H H' : Hp} {ι ι' : Z} {mg : EnvK} {S S' : Sto} (rp : Rep H ι mg S) (st : Step ι H ι' H') (rp' : Rep H' ι' mg S') (c : ClS S S') : Step ι H (ι'.cut S.length) H' ∧ Rep H' (ι'.cut S.length) mg (S'.take S.length) := by
  have hl : ι.a.length ≤ ι'.a.length := by
    rcases Nat.lt_or_ge ι'.a.length ι.a.length with h | h
    · have := st.up.pre ι'.a.length (ι.a[ι'.a.length]) (List.getElem?_eq_getElem h)
      rw [List.getElem?_eq_none (Nat.le_refl _)] at this; cases this
    · exact h
  refine ⟨⟨⟨fun m a h => ?_, st.up.tup, fun a xs n h => ⟨(st.up.lst a xs n h).1, Z.no_cut (st.up.lst a xs n h).2⟩, st.up.scr, fun a xs n h => ⟨(st.up.dct a xs n h).1, Z.no_cut (st.up.dct a xs n h).2⟩, st.up.kk⟩, st.bb, st.hid⟩,
    ⟨rp'.kk, by simp [rp'.len], rp'.nd.sublist (List.take_sublist _ _), fun x hx => ⟨fun q => (rp'.bt x hx).1 (List.mem_of_mem_take q), (rp'.bt x hx).2⟩, fun m a o h1 h2 => ?_⟩⟩
  · have hm : m < S.length := by rw [← rp.len]; exact (List.getElem?_eq_some_iff.mp h).1
    show (ι'.a.take S.length)[m]? = some a
    rw [List.getElem?_take_of_lt hm]; exact st.up.pre m a h
  · have h1 : (ι'.a.take S.length)[m]? = some a := h1
    have hm : m < S.length := by
      have := (List.getElem?_eq_some_iff.mp h1).1
      simp at this; omega
    rw [List.getElem?_take_of_lt hm] at h1 h2
    refine (rp'.obj m a o h1 h2).cut _ ?_
    rcases c m o hm h2 with q | q
    · have hi : m < ι.a.length := by rw [rp.len]; exact hm
      have := (rp.obj m _ o (List.getElem?_eq_getElem hi) q).cl
      rw [rp.len] at this; exact this
    · exact q
/-! an answer without the new objects' numbers -/
mutual
def fz (rc : List D → Option (List D)) (S : Sto) (n : Nat) : D → Option D
  | .ref m => if m < n then some (.ref m) else match S[m]? with
    | some (.lst ds) => (rc ds).map .lst
    | some (.dK ks ds) => (rc ds).map (.dct ks)
    | _ => none
  | .tup ds => (fzs rc S n ds).map .tup
  | .lst ds => (fzs rc S n ds).map .lst
  | .scr ds => (fzs rc S n ds).map .scr
  | .dct ks ds => (fzs rc S n ds).map (.dct ks)
  | .non => some .non
  | .bl b => some (.bl b)
  | .int i => some (.int i)
  | .str s => some (.str s)
def fzs (rc : List D → Option (List D)) (S : Sto) (n : Nat) : List D → Option (List D)
  | [] => some []
  | d :: ds => (fz rc S n d).bind fun e => (fzs rc S n ds).map (e :: ·)
end
def frz (S : Sto) (n : Nat) : Nat → List D → Option (List D)
  | 0, ds => fzs (fun _ => none) S n ds
  | k + 1, ds => fzs (frz S n k) S n ds
section
variable {H : Hp} {ι : Z} {mg : EnvK} {S : Sto} {n : Nat} {rc : List D → Option (List D)}
mutual
theorem fz_ok (rp : Rep H ι mg S) (hrc : ∀ ds es vs, rc ds = some es → RDs H ι ds vs → RDs H (ι.cut n) es vs) : ∀ (d e : D) (v : V), fz rc S n d = some e → RD H ι d v → RD H (ι.cut n) e v
  | .non, e, v, h, r => by simp only [fz, Option.some.injEq] at h; subst h; simp only [RD] at r ⊢; exact r
  | .bl _, e, v, h, r => by simp only [fz, Option.some.injEq] at h; subst h; simp only [RD] at r ⊢; exact r
  | .int _, e, v, h, r => by simp only [fz, Option.some.injEq] at h; subst h; simp only [RD] at r ⊢; exact r
  | .str _, e, v, h, r => by simp only [fz, Option.some.injEq] at h; subst h; simp only [RD] at r ⊢; exact r
  | .tup ds, e, v, h, r => by
    simp only [fz, Option.map_eq_some_iff] at h
    obtain ⟨es, h, e⟩ := h
    subst e
    simp only [RD] at r ⊢
    obtain ⟨a, vs, e, h1, z, h2⟩ := r
    have q := fzs_ok rp hrc ds es vs h h2
    exact ⟨a, vs, e, h1, by rw [q.length, ← h2.length]; exact z, q⟩
  | .lst ds, e, v, h, r => by
    simp only [fz, Option.map_eq_some_iff] at h
    obtain ⟨es, h, e⟩ := h
    subst e
    simp only [RD] at r ⊢
    obtain ⟨a, vs, e, h1, no, z, h2⟩ := r
    have q := fzs_ok rp hrc ds es vs h h2
    exact ⟨a, vs, e, h1, Z.no_cut no, by rw [q.length, ← h2.length]; exact z, q⟩
  | .scr ds, e, v, h, r => by
    simp only [fz, Option.map_eq_some_iff] at h
    obtain ⟨es, h, e⟩ := h
    subst e
    simp only [RD] at r ⊢
    obtain ⟨a, vs, e, h1, z, h2⟩ := r
    have q := fzs_ok rp hrc ds es vs h h2
    exact ⟨a, vs, e, h1, by rw [q.length, ← h2.length]; exact z, q⟩
  | .dct ks ds, e, v, h, r => by
    simp only [fz, Option.map_eq_some_iff] at h
    obtain ⟨es, h, e⟩ := h
    subst e
    simp only [RD] at r ⊢
    obtain ⟨a, vs, e, h1, no, z, y, h2⟩ := r
    have q := fzs_ok rp hrc ds es vs h h2
    exact ⟨a, vs, e, h1, Z.no_cut no, by rw [q.length, ← h2.length]; exact z, y, q⟩
  | .ref m, e, v, h, r => by
    simp only [RD] at r
    obtain ⟨a, e1, h1⟩ := r
    simp only [fz] at h
    split at h
    · rename_i hm
      cases h
      simp only [RD]
      exact ⟨a, e1, by rw [List.getElem?_take_of_lt hm]; exact h1⟩
    · rename_i hm
      obtain ⟨o, e2, ro⟩ := rp.has h1
      have no : (ι.cut n).no a := by
        refine ⟨fun q => ?_, fun q => (rp.bt a q).1 (List.mem_of_getElem? h1)⟩
        obtain ⟨j, hj⟩ := List.getElem?_of_mem q
        have hjn : j < n := by
          have := (List.getElem?_eq_some_iff.mp hj).1
          simp at this; omega
        rw [List.getElem?_take_of_lt hjn] at hj
        obtain ⟨l1, e3⟩ := List.getElem?_eq_some_iff.mp hj
        obtain ⟨l2, e4⟩ := List.getElem?_eq_some_iff.mp h1
        have := (List.getElem_inj rp.nd).mp (e3.trans e4.symm)
        omega
      rw [e2] at h
      cases o with
      | lst ds =>
        simp only [Option.map_eq_some_iff] at h
        obtain ⟨es, h, e⟩ := h
        subst e
        obtain ⟨vs, h3, z, h4⟩ := ro
        have q := hrc ds es vs h h4
        simp only [RD]
        exact ⟨a, vs, e1, h3, no, by rw [q.length, ← h4.length]; exact z, q⟩
      | dK ks ds =>
        simp only [Option.map_eq_some_iff] at h
        obtain ⟨es, h, e⟩ := h
        subst e
        obtain ⟨vs, h3, z, y, h4⟩ := ro
        have q := hrc ds es vs h h4
        simp only [RD]
        exact ⟨a, vs, e1, .inl h3, no, by rw [q.length, ← h4.length]; exact z, y, q⟩
      | dT ks ds => cases h
      | ins c fs ds => cases h
theorem fzs_ok (rp : Rep H ι mg S) (hrc : ∀ ds es vs, rc ds = some es → RDs H ι ds vs → RDs H (ι.cut n) es vs) : ∀ (ds es : List D) (vs : List V), fzs rc S n ds = some es → RDs H ι ds vs → RDs H (ι.cut n) es vs
  | [], es, vs, h, r => by simp only [fzs, Option.some.injEq] at h; subst h; simp only [RDs] at r ⊢; exact r
  | d :: ds, es, vs, h, r => by
    simp only [fzs] at h
    simp only [RDs] at r
    obtain ⟨v, w, e, h1, h2⟩ := r
    cases h3 : fz rc S n d with
    | none => rw [h3] at h; cases h
    | some d' =>
      rw [h3] at h
      simp only [Option.bind_some, Option.map_eq_some_iff] at h
      obtain ⟨es', h, e'⟩ := h
      subst e' e
      exact .cons (fz_ok rp hrc d d' v h3 h1) (fzs_ok rp hrc ds es' w h h2)
end
theorem frz_ok (rp : Rep H ι mg S) : ∀ (k : Nat) (ds es : List D) (vs : List V), frz S n k ds = some es → RDs H ι ds vs → RDs H (ι.cut n) es vs
  | 0, ds, es, vs, h, r => fzs_ok rp (fun _ _ _ q => by cases q) ds es vs h r
  | k + 1, ds, es, vs, h, r => fzs_ok rp (fun _ _ _ q r => frz_ok rp k _ _ _ q r) ds es vs h r
end
open Classical in
/-- a def's new lists and dicts are changed no more behind it -/
noncomputable def finFrz (k : Nat) : Fin := fun S r => match r with
  | .ok d S' => if ClS S S' then (match frz S' S.length k [d] with
    | some [e] => .ok e (S'.take S.length)
    | _ => .stuck) else .stuck
  | .exc c S' => if ClS S S' ∧ D.cls S.length c.ds = true then .exc c (S'.take S.length) else .stuck
  | .stuck => .stuck
theorem RX.cut {H : Hp} {ι : Z} {mg : EnvK} {c : Exc} {cls : Value} {dx : Option Addr} (n : Nat) (h : RX H ι mg c cls dx) (q : D.cls n c.ds = true) : RX H (ι.cut n) mg c cls dx := by
  refine ⟨h.1, ?_⟩
  rcases h.2 with z | ⟨d, vs, e1, e2, e3, r⟩
  · exact .inl z
  · exact .inr ⟨d, vs, e1, e2, e3, r.cut n _ _ q⟩
theorem finFrz_ok {k : Nat} : FinOk (finFrz k) := fun mg W ι S H r Q rp g => by
  unfold finFrz at g
  cases r with
  | ok d S' =>
    simp only at g
    split at g
    · rename_i c
      intro ι' H' v st rp' rd
      obtain ⟨st2, rp2⟩ := cut_step rp st rp' c
      split at g
      · rename_i e he
        have q := frz_ok (n := S.length) rp' k [d] [e] [v] he (.cons rd .nil)
        simp only [RDs] at q
        obtain ⟨v', r', e', q, _⟩ := q
        cases e'
        exact g _ H' v st2 rp2 q
      · exact g.elim
    · exact g.elim
  | exc c S' =>
    simp only at g
    split at g
    · rename_i h
      intro ι' H' cls dx st rp' rx
      obtain ⟨st2, rp2⟩ := cut_step rp st rp' h.1
      exact g _ H' cls dx st2 rp2 (rx.cut _ h.2)
    · exact g.elim
  | stuck => exact g.elim
/-! an answer that holds one new list which the caller may change -/
structure Sub (n : Nat) (ι ι' : Z) : Prop where
  at' : ∀ (m : Nat) (a : Addr), m < n → ι.a[m]? = some a → ι'.a[m]? = some a
  no : ∀ a, ι.no a → ι'.no a
  k : ι'.k = ι.k
section
variable {H : Hp} {ι ι' : Z} {mg : EnvK} {n : Nat}
mutual
theorem RD.sub (s : Sub n ι ι') : ∀ (d : D) (v : V), RD H ι d v → D.cl n d = true → RD H ι' d v
  | .non, _, h, _ => by simp only [RD] at h ⊢; exact h
  | .bl _, _, h, _ => by simp only [RD] at h ⊢; exact h
  | .int _, _, h, _ => by simp only [RD] at h ⊢; exact h
  | .str _, _, h, _ => by simp only [RD] at h ⊢; exact h
  | .tup ds, _, h, c => by
    simp only [RD] at h ⊢; simp only [D.cl] at c
    obtain ⟨a, vs, e, h1, z, h2⟩ := h
    exact ⟨a, vs, e, h1, z, RDs.sub s ds vs h2 c⟩
  | .lst ds, _, h, c => by
    simp only [RD] at h ⊢; simp only [D.cl] at c
    obtain ⟨a, vs, e, h1, no, z, h2⟩ := h
    exact ⟨a, vs, e, h1, s.no _ no, z, RDs.sub s ds vs h2 c⟩
  | .scr ds, _, h, c => by
    simp only [RD] at h ⊢; simp only [D.cl] at c
    obtain ⟨a, vs, e, h1, z, h2⟩ := h
    exact ⟨a, vs, e, by rw [s.k]; exact h1, z, RDs.sub s ds vs h2 c⟩
  | .dct ks ds, _, h, c => by
    simp only [RD] at h ⊢; simp only [D.cl] at c
    obtain ⟨a, vs, e, h1, no, z, y, h2⟩ := h
    exact ⟨a, vs, e, h1, s.no _ no, z, y, RDs.sub s ds vs h2 c⟩
  | .ref m, _, h, c => by
    simp only [RD] at h ⊢; simp only [D.cl, decide_eq_true_eq] at c
    obtain ⟨a, e, h1⟩ := h
    exact ⟨a, e, s.at' m a c h1⟩
theorem RDs.sub (s : Sub n ι ι') : ∀ (ds : List D) (vs : List V), RDs H ι ds vs → D.cls n ds = true → RDs H ι' ds vs
  | [], _, h, _ => by simp only [RDs] at h ⊢; exact h
  | d :: ds, _, h, c => by
    simp only [RDs] at h ⊢; simp only [D.cls, Bool.and_eq_true] at c
    obtain ⟨v, r, e, h1, h2⟩ := h
    exact ⟨v, r, e, RD.sub s d v h1 c.1, RDs.sub s ds r h2 c.2⟩
end
theorem RO.sub (s : Sub n ι ι') {a : Addr} : ∀ {o : MO}, RO H ι mg a o → o.cl n = true → RO H ι' mg a o
  | .lst ds, ⟨vs, e, z, r⟩, c => ⟨vs, e, z, r.sub s _ _ c⟩
  | .dK ks ds, ⟨vs, e, z, y, r⟩, c => ⟨vs, e, z, y, r.sub s _ _ c⟩
  | .dT ks ds, ⟨vs, e, z, y, r⟩, c => ⟨vs, e, z, y, r.sub s _ _ c⟩
  | .ins cc fs ds, ⟨C, dx, vs, m, e, z, r⟩, c => ⟨C, dx, vs, m, e, z, r.sub s _ _ c⟩
end
theorem keep_step {H H' : Hp} {ι ι' : Z} {mg : EnvK} {S S' : Sto} {m : Nat} {a : Addr} {ds : List D} (rp : Rep H ι mg S) (st : Step ι H ι' H') (rp' : Rep H' ι' mg S') (c : ClS S S') (hm : S.length ≤ m) (ha : ι'.a[m]? = some a) (hd : S'[m]? = some (.lst ds)) (hc : D.cls S.length ds = true) :
    ∃ ι2 : Z, Step ι H ι2 H' ∧ Rep H' ι2 mg (S'.take S.length ++ [.lst ds]) ∧ RD H' ι2 (.ref S.length) (.ref a) ∧ Sub S.length ι' ι2 := by
  obtain ⟨st2, rp2⟩ := cut_step rp st rp' c
  have hlen : (ι'.a.take S.length).length = S.length := by
    have hml : m < ι'.a.length := (List.getElem?_eq_some_iff.mp ha).1
    rw [List.length_take]; omega
  have notin : a ∉ ι'.a.take S.length := fun hmem => by
    obtain ⟨j, hj⟩ := List.getElem?_of_mem hmem
    have hjn : j < S.length := by
      have := (List.getElem?_eq_some_iff.mp hj).1
      omega
    rw [List.getElem?_take_of_lt hjn] at hj
    obtain ⟨l1, e3⟩ := List.getElem?_eq_some_iff.mp hj
    obtain ⟨l2, e4⟩ := List.getElem?_eq_some_iff.mp ha
    have := (List.getElem_inj rp'.nd).mp (e3.trans e4.symm)
    omega
  have sub : Sub S.length ι' ⟨ι'.a.take S.length ++ [a], ι'.b, ι'.k⟩ := by
    refine ⟨fun j b hj h => ?_, fun b n => ⟨fun h => ?_, n.2⟩, rfl⟩
    · show (ι'.a.take S.length ++ [a])[j]? = some b
      rw [List.getElem?_append_left (by omega), List.getElem?_take_of_lt hj]; exact h
    · rcases List.mem_append.mp h with h | h
      · exact n.1 (List.mem_of_mem_take h)
      · have : b = a := by simpa using h
        subst this
        exact n.1 (List.mem_of_getElem? ha)
  refine ⟨⟨ι'.a.take S.length ++ [a], ι'.b, ι'.k⟩, ⟨⟨fun j b h => ?_, st.up.tup, fun b xs n h => ⟨(st.up.lst b xs n h).1, sub.no _ (st.up.lst b xs n h).2⟩, st.up.scr, fun b xs n h => ⟨(st.up.dct b xs n h).1, sub.no _ (st.up.dct b xs n h).2⟩, st.up.kk⟩, st.bb, st.hid⟩, ?_, ?_, sub⟩
  · have hj : j < S.length := by rw [← rp.len]; exact (List.getElem?_eq_some_iff.mp h).1
    exact sub.at' j b hj (st.up.pre j b h)
  · refine ⟨rp'.kk, by simp; have := rp'.len; have := hlen; rw [List.length_take] at this; omega, ?_, fun x hx => ⟨fun h => ?_, (rp'.bt x hx).2⟩, fun j b o h1 h2 => ?_⟩
    · rw [List.nodup_append]
      refine ⟨rp2.nd, by simp, fun x hx y hy => ?_⟩
      have : y = a := by simpa using hy
      subst this
      rintro rfl; exact notin hx
    · rcases List.mem_append.mp h with h | h
      · exact (rp'.bt x hx).1 (List.mem_of_mem_take h)
      · have : x = a := by simpa using h
        subst this
        exact (rp'.bt x hx).1 (List.mem_of_getElem? ha)
    · have h1 : (ι'.a.take S.length ++ [a])[j]? = some b := h1
      have hS : (S'.take S.length).length = S.length := by
        have := rp'.len; have := hlen; rw [List.length_take] at this ⊢; omega
      by_cases hj : j < S.length
      · rw [List.getElem?_append_left (by omega)] at h1
        rw [List.getElem?_append_left (by omega)] at h2
        rw [List.getElem?_take_of_lt hj] at h1 h2
        refine (rp'.obj j b o h1 h2).sub sub ?_
        rcases c j o hj h2 with q | q
        · have hi : j < ι.a.length := by rw [rp.len]; exact hj
          have := (rp.obj j _ o (List.getElem?_eq_getElem hi) q).cl
          rw [rp.len] at this; exact this
        · exact q
      · rw [List.getElem?_append_right (by omega)] at h1
        rw [List.getElem?_append_right (by omega)] at h2
        have e : j - S.length = 0 := by
          have := (List.getElem?_eq_some_iff.mp h1).1
          simp at this; omega
        rw [hlen, e] at h1; rw [hS, e] at h2
        simp at h1 h2; subst h1 h2
        exact (rp'.obj m a _ ha hd).sub sub hc
  · simp only [RD]
    refine ⟨a, rfl, ?_⟩
    show (ι'.a.take S.length ++ [a])[S.length]? = some a
    rw [List.getElem?_append_right (by omega), hlen]; simp
open Classical in
/-- the answer is a new list that the caller may change -/
noncomputable def finKeep : Fin := fun S r => match r with
  | .ok (.ref m) S' => match S'[m]? with
    | some (.lst ds) => if ClS S S' ∧ S.length ≤ m ∧ D.cls S.length ds = true then .ok (.ref S.length) (S'.take S.length ++ [.lst ds]) else .stuck
    | _ => .stuck
  | _ => .stuck
theorem finKeep_ok : FinOk finKeep := fun mg W ι S H r Q rp g => by
  unfold finKeep at g
  split at g
  · rename_i m S'
    split at g
    · rename_i ds hd
      split at g
      · rename_i c
        intro ι' H' v st rp' rd
        simp only [RD] at rd
        obtain ⟨a, e, h1⟩ := rd
        subst e
        obtain ⟨ι2, st2, rp2, r2, _⟩ := keep_step rp st rp' c.1 c.2.1 h1 hd c.2.2
        exact g ι2 H' _ st2 rp2 r2
      · exact g.elim
    · exact g.elim
  · exact g.elim
open Classical in
/-- the answer is a tuple with such a list at its second place -/
noncomputable def finKeepT : Fin := fun S r => match r with
  | .ok (.tup (x :: .ref m :: ys)) S' => match S'[m]? with
    | some (.lst ds) => if ClS S S' ∧ S.length ≤ m ∧ D.cls S.length ds = true ∧ D.cls S.length (x :: ys) = true then .ok (.tup (x :: .ref S.length :: ys)) (S'.take S.length ++ [.lst ds]) else .stuck
    | _ => .stuck
  | .exc c S' => if ClS S S' ∧ D.cls S.length c.ds = true then .exc c (S'.take S.length) else .stuck
  | _ => .stuck
theorem finKeepT_ok : FinOk finKeepT := fun mg W ι S H r Q rp g => by
  unfold finKeepT at g
  split at g
  · rename_i x m ys S'
    split at g
    · rename_i ds hd
      split at g
      · rename_i c
        intro ι' H' v st rp' rd
        simp only [RD, RDs] at rd
        obtain ⟨t, vs, e, h0, z, v1, r1, e1, rx, v2, r2, e2, ⟨a, e3, h1⟩, rys⟩ := rd
        subst e e1 e2 e3
        obtain ⟨ι2, st2, rp2, rr, sub⟩ := keep_step rp st rp' c.1 c.2.1 h1 hd c.2.2.1
        have hc := c.2.2.2
        simp only [D.cls, Bool.and_eq_true] at hc
        refine g ι2 H' _ st2 rp2 ?_
        simp only [RD, RDs]
        simp only [RD] at rr
        exact ⟨t, _, rfl, h0, z, v1, _, rfl, rx.sub sub _ _ hc.1, _, _, rfl, rr, rys.sub sub _ _ hc.2⟩
      · exact g.elim
    · exact g.elim
  · rename_i c S'
    split at g
    · rename_i h
      intro ι' H' cls dx st rp' rx
      obtain ⟨st2, rp2⟩ := cut_step rp st rp' h.1
      exact g _ H' cls dx st2 rp2 (rx.cut _ h.2)
    · exact g.elim
  · exact g.elim
end PM

/-! PM, part 7: operators -/
namespace PM
open PySem PySem.Spec L2 PyProof.Rows
/-! ### lists as they are read -/
def asL (S : Sto) : D → Option (List D)
  | .lst ds => some ds
  | .ref n => match S[n]? with
    | some (.lst ds) => some ds
    | _ => none
  | _ => none
def rdL (S : Sto) : D → Option (List D)
  | .scr ds => some ds
  | d => asL S d
def rdS (S : Sto) : D → Option (List D)
  | .tup ds => some ds
  | d => rdL S d
section
variable {H : Hp} {ι : Z} {mg : EnvK} {S : Sto} {d : D} {v : V} {ds : List D}
theorem asL_ok (rp : Rep H ι mg S) (r : RD H ι d v) (h : asL S d = some ds) : ∃ a vs, v = .ref a ∧ H a = some (.lst vs) ∧ RDs H ι ds vs ∧ ds.length ≤ sizeLine := by
  cases d with
  | lst es =>
    simp only [asL, Option.some.injEq] at h; subst h
    simp only [RD] at r
    obtain ⟨a, vs, e, h1, n, z, h2⟩ := r
    exact ⟨a, vs, e, h1, h2, z⟩
  | ref n =>
    simp only [RD] at r
    obtain ⟨a, e, h1⟩ := r
    obtain ⟨o, e2, ro⟩ := rp.has h1
    simp only [asL, e2] at h
    cases o with
    | lst es =>
      simp only [Option.some.injEq] at h; subst h
      obtain ⟨vs, h3, z, h4⟩ := ro
      exact ⟨a, vs, e, h3, h4, z⟩
    | _ => cases h
  | _ => cases h
theorem rdL_ok (rp : Rep H ι mg S) (r : RD H ι d v) (h : rdL S d = some ds) : ∃ a vs, v = .ref a ∧ SqL mg.K H a vs ∧ RDs H ι ds vs ∧ ds.length ≤ sizeLine := by
  cases d with
  | scr es =>
    simp only [rdL, Option.some.injEq] at h; subst h
    simp only [RD] at r
    obtain ⟨a, vs, e, h1, z, h2⟩ := r
    exact ⟨a, vs, e, scr_sq rp.kk h1, h2, z⟩
  | lst es => obtain ⟨a, vs, e, h1, h2, z⟩ := asL_ok rp r h; exact ⟨a, vs, e, .of h1, h2, z⟩
  | ref es => obtain ⟨a, vs, e, h1, h2, z⟩ := asL_ok rp r h; exact ⟨a, vs, e, .of h1, h2, z⟩
  | _ => cases h
theorem rdS_ok (rp : Rep H ι mg S) (r : RD H ι d v) (h : rdS S d = some ds) : ∃ a vs, v = .ref a ∧ (SqL mg.K H a vs ∨ SqT mg.K H a vs) ∧ RDs H ι ds vs ∧ ds.length ≤ sizeLine := by
  cases d with
  | tup es =>
    simp only [rdS, Option.some.injEq] at h; subst h
    simp only [RD] at r
    obtain ⟨a, vs, e, h1, z, h2⟩ := r
    exact ⟨a, vs, e, .inr (h1.sq), h2, z⟩
  | lst es => obtain ⟨a, vs, e, h1, h2, z⟩ := rdL_ok rp r h; exact ⟨a, vs, e, .inl h1, h2, z⟩
  | scr es => obtain ⟨a, vs, e, h1, h2, z⟩ := rdL_ok rp r h; exact ⟨a, vs, e, .inl h1, h2, z⟩
  | ref es => obtain ⟨a, vs, e, h1, h2, z⟩ := rdL_ok rp r h; exact ⟨a, vs, e, .inl h1, h2, z⟩
  | _ => cases h
end
section
variable {X : Cx}
theorem opd_int {f : Value → Value → Sem Value} {C : Int → Int → Prop} [∀ i j, Decidable (C i j)] {g : Int → Int → V} {g' : Int → Int → D} (h : OpR X f (rI C g)) (hg : ∀ H ι i j, RD H ι (g' i j) (g i j)) :
    OpD X f (fun x y S => match x, y with
      | .int i, .int j => if C i j then .ok (g' i j) S else .stuck
      | _, _ => .stuck) := by
  refine ⟨_, h, fun W ι S H x y dx dy Q rp rx ry q => ?_⟩
  dsimp only at q
  split at q
  · rename_i i j
    split at q
    · simp only [RD] at rx ry
      exact ⟨i, j, rx, ry, by assumption, q.here rp (hg _ _ i j)⟩
    · exact q.elim
  · exact q.elim
theorem opd_int0 {f : Value → Value → Sem Value} {g : Int → Int → V} {g' : Int → Int → D} (h : OpR X f (rI0 g)) (hg : ∀ H ι i j, RD H ι (g' i j) (g i j)) :
    OpD X f (fun x y S => match x, y with
      | .int i, .int j => .ok (g' i j) S
      | _, _ => .stuck) := by
  refine ⟨_, h, fun W ι S H x y dx dy Q rp rx ry q => ?_⟩
  dsimp only at q
  split at q
  · rename_i i j
    simp only [RD] at rx ry
    exact ⟨i, j, rx, ry, q.here rp (hg _ _ i j)⟩
  · exact q.elim
def opSub (x y : D) (S : Sto) : R D := match x, y with
  | .int i, .int j => .ok (.int (i - j)) S
  | _, _ => .stuck
theorem opSub_ok : OpD X (binaryOp .Sub) opSub := opd_int0 op_sub fun _ _ _ _ => by simp only [RD]
instance (i j : Int) : Decidable (CDiv i j) := by unfold CDiv; infer_instance
instance (i j : Int) : Decidable (CPow i j) := by unfold CPow; infer_instance
instance (i j : Int) : Decidable (CMul i j) := by unfold CMul; infer_instance
def opDiv (x y : D) (S : Sto) : R D := match x, y with
  | .int i, .int j => if CDiv i j then .ok (.int (i / j)) S else .stuck
  | _, _ => .stuck
theorem opDiv_ok : OpD X (binaryOp .FloorDiv) opDiv := opd_int op_fdiv fun _ _ _ _ => by simp only [RD]
def opMod (x y : D) (S : Sto) : R D := match x, y with
  | .int i, .int j => if 0 < j then .ok (.int (i % j)) S else .stuck
  | _, _ => .stuck
theorem opMod_ok : OpD X (binaryOp .Mod) opMod := opd_int (C := fun _ j => 0 < j) op_mod fun _ _ _ _ => by simp only [RD]
def opPow (x y : D) (S : Sto) : R D := match x, y with
  | .int i, .int j => if CPow i j then .ok (.int (i ^ j.toNat)) S else .stuck
  | _, _ => .stuck
theorem opPow_ok : OpD X (binaryOp .Pow) opPow := opd_int op_pow fun _ _ _ _ => by simp only [RD]
def opLt (x y : D) (S : Sto) : R D := match x, y with
  | .int i, .int j => .ok (.bl (decide (i < j))) S
  | _, _ => .stuck
theorem opLt_ok : OpD X (compareOp .Lt) opLt := opd_int0 op_lt fun _ _ _ _ => by simp only [RD]
def opLe (x y : D) (S : Sto) : R D := match x, y with
  | .int i, .int j => .ok (.bl (decide (i ≤ j))) S
  | _, _ => .stuck
theorem opLe_ok : OpD X (compareOp .LtE) opLe := opd_int0 op_le fun _ _ _ _ => by simp only [RD]
def opGt (x y : D) (S : Sto) : R D := match x, y with
  | .int i, .int j => .ok (.bl (decide (j < i))) S
  | _, _ => .stuck
theorem opGt_ok : OpD X (compareOp .Gt) opGt := opd_int0 op_gt fun _ _ _ _ => by simp only [RD]
/-- >= of numbers, of texts -/
def opGe (x y : D) (S : Sto) : R D := match x, y with
  | .int i, .int j => .ok (.bl (decide (j ≤ i))) S
  | .str i, .str j => .ok (.bl (!decide (i.cps.toList < j.cps.toList))) S
  | _, _ => .stuck
theorem opGe_ok : OpD X (compareOp .GtE) opGe := by
  refine ⟨_, op_ge.or op_ge_str, fun W ι S H x y dx dy Q rp rx ry q => ?_⟩
  unfold opGe at q
  split at q
  · rename_i i j
    simp only [RD] at rx ry
    exact .inl ⟨i, j, rx, ry, q.here rp (by simp only [RD])⟩
  · rename_i i j
    simp only [RD] at rx ry
    exact .inr ⟨i, j, rx.1, ry.1, q.here rp (by simp only [RD])⟩
  · exact q.elim
def opAdd (x y : D) (S : Sto) : R D := match x, y with
  | .int i, .int j => .ok (.int (i + j)) S
  | .str a, .str b => if a.length + b.length ≤ sizeLine then .ok (.str (a ++ b)) S else .stuck
  | .tup a, .tup b => newTup (a ++ b) S
  | x, y => match asL S x, asL S y with
    | some a, some b => newLst (a ++ b) S
    | _, _ => .stuck
theorem str_len_app (a b : Str) : (a ++ b).length = a.length + b.length := by
  show (a.cps ++ b.cps).size = _
  simp [Array.size_append]; rfl
theorem opAdd_ok : OpD X (binaryOp .Add) opAdd := by
  refine ⟨_, op_add.or (op_add_str.or (op_catF.or op_cat)), fun W ι S H x y dx dy Q rp rx ry q => ?_⟩
  unfold opAdd at q
  split at q
  · rename_i i j
    simp only [RD] at rx ry
    exact .inl ⟨i, j, rx, ry, q.here rp (by simp only [RD])⟩
  · rename_i a b
    split at q
    · rename_i h
      simp only [RD] at rx ry
      exact .inr (.inl ⟨a, b, rx.1, ry.1, h, q.here rp (by simp only [RD]; exact ⟨trivial, by rw [str_len_app]; exact h⟩)⟩)
    · exact q.elim
  · rename_i a b
    have rx' := rx
    have ry' := ry
    simp only [RD] at rx ry
    obtain ⟨p, vs, e1, h1, z1, r1⟩ := rx
    obtain ⟨p2, vs2, e2, h2, z2, r2⟩ := ry
    have hz : (a ++ b).length ≤ sizeLine := by
      unfold newTup at q
      split at q
      · assumption
      · exact q.elim
    have q' := g_newTup q rp (r1.app r2)
    refine .inr (.inr (.inl ⟨p, p2, vs, vs2, e1, e2, h1.sq, h2.sq, by rw [← r1.length, ← r2.length, ← List.length_append]; exact hz, fun z => ?_, fun _ z => ?_, fun _ _ => q'.2⟩))
    · unfold newTup at q
      rw [if_pos hz] at q
      subst z
      have : a = [] := List.length_eq_zero_iff.mp (by rw [r1.length]; rfl)
      subst this
      rw [← e2]
      exact q.here rp (by simpa using ry')
    · unfold newTup at q
      rw [if_pos hz] at q
      subst z
      have : b = [] := List.length_eq_zero_iff.mp (by rw [r2.length]; rfl)
      subst this
      rw [← e1]
      exact q.here rp (by simpa using rx')
  · split at q
    · rename_i a b ha hb
      obtain ⟨p, vs, e1, h1, r1, z1⟩ := asL_ok rp rx ha
      obtain ⟨p2, vs2, e2, h2, r2, z2⟩ := asL_ok rp ry hb
      have q' := g_newLst q rp (r1.app r2)
      exact .inr (.inr (.inr ⟨p, p2, vs, vs2, e1, e2, h1, h2, by rw [← List.length_append]; exact q'.1, q'.2⟩))
    · exact q.elim
/-- the same, a list that may be changed -/
def opAddR (x y : D) (S : Sto) : R D := match asL S x, asL S y with
  | some a, some b => newRef (a ++ b) S
  | _, _ => .stuck
theorem opAddR_ok : OpD X (binaryOp .Add) opAddR := by
  refine ⟨_, op_cat, fun W ι S H x y dx dy Q rp rx ry q => ?_⟩
  unfold opAddR at q
  split at q
  · rename_i a b ha hb
    obtain ⟨p, vs, e1, h1, r1, z1⟩ := asL_ok rp rx ha
    obtain ⟨p2, vs2, e2, h2, r2, z2⟩ := asL_ok rp ry hb
    have q' := g_newRef q rp (r1.app r2)
    exact ⟨p, p2, vs, vs2, e1, e2, h1, h2, by rw [← List.length_append]; exact q'.1, q'.2⟩
  · exact q.elim
def opMul (x y : D) (S : Sto) : R D := match x, y with
  | .int i, .int j => if CMul i j then .ok (.int (i * j)) S else .stuck
  | x, .int k => match asL S x with
    | some ds => if -(2 ^ 63) ≤ k ∧ k < 2 ^ 63 ∧ ds.length * k.toNat ≤ sizeLine then newLst (List.replicate k.toNat ds).flatten S else .stuck
    | none => .stuck
  | _, _ => .stuck
theorem rds_flat {H : Hp} {ι : Z} {ds : List D} {vs : List V} (r : RDs H ι ds vs) : ∀ k : Nat, RDs H ι (List.replicate k ds).flatten (List.replicate k vs).flatten
  | 0 => by simpa using RDs.nil
  | k + 1 => by rw [List.replicate_succ, List.replicate_succ, List.flatten_cons, List.flatten_cons]; exact r.app (rds_flat r k)
theorem opMul_ok : OpD X (binaryOp .Mult) opMul := by
  refine ⟨_, op_mul.or op_rep, fun W ι S H x y dx dy Q rp rx ry q => ?_⟩
  unfold opMul at q
  split at q
  · rename_i i j
    split at q
    · simp only [RD] at rx ry
      exact .inl ⟨i, j, rx, ry, by assumption, q.here rp (by simp only [RD])⟩
    · exact q.elim
  · rename_i k _
    split at q
    · rename_i ds hds
      split at q
      · rename_i h
        obtain ⟨p, vs, e1, h1, r1, z1⟩ := asL_ok rp rx hds
        simp only [RD] at ry
        have q' := g_newLst q rp (rds_flat r1 k.toNat)
        exact .inr ⟨p, k, vs, e1, ry, h1, h.1, h.2.1, by rw [← r1.length]; exact h.2.2, q'.2⟩
      · exact q.elim
    · exact q.elim
  · exact q.elim
/-! ### ==, != -/
section
variable (rc : List D → Option (List PyData)) (S : Sto)
mutual
def tp : D → Option PyData
  | .non => some .none
  | .bl b => some (.bool b)
  | .int i => some (.int i)
  | .str s => some (.str s)
  | .tup ds => (tps ds).map .tuple
  | .lst ds => (tps ds).map .list
  | .scr ds => (tps ds).map .list
  | .dct _ _ => none
  | .ref n => match S[n]? with
    | some (.lst ds) => (rc ds).map .list
    | _ => none
def tps : List D → Option (List PyData)
  | [] => some []
  | d :: ds => (tp d).bind fun e => (tps ds).map (e :: ·)
end
end
/-- the data behind, numbers of objects looked up k times -/
def tpk (S : Sto) : Nat → List D → Option (List PyData)
  | 0, ds => tps (fun _ => none) S ds
  | k + 1, ds => tps (tpk S k) S ds
def tpd (S : Sto) (d : D) : Option PyData := tp (tpk S 1) S d
section
variable {H : Hp} {ι : Z} {mg : EnvK} {S : Sto} {rc : List D → Option (List PyData)}
mutual
theorem tp_ok (rp : Rep H ι mg S) (hrc : ∀ ds es vs, rc ds = some es → RDs H ι ds vs → DpAll mg.K H vs es) : ∀ (d : D) (e : PyData) (v : V), tp rc S d = some e → RD H ι d v → Dp mg.K H v e
  | .non, e, v, h, r => by simp only [tp, Option.some.injEq] at h; subst h; simp only [RD] at r; subst r; exact .non
  | .bl b, e, v, h, r => by simp only [tp, Option.some.injEq] at h; subst h; simp only [RD] at r; subst r; exact .bl b
  | .int i, e, v, h, r => by simp only [tp, Option.some.injEq] at h; subst h; simp only [RD] at r; subst r; exact .int i
  | .str s, e, v, h, r => by simp only [tp, Option.some.injEq] at h; subst h; simp only [RD] at r; rw [r.1]; exact .str s
  | .tup ds, e, v, h, r => by
    simp only [tp, Option.map_eq_some_iff] at h
    obtain ⟨es, h, e⟩ := h
    subst e
    simp only [RD] at r
    obtain ⟨a, vs, e, h1, z, h2⟩ := r
    subst e
    exact .tup h1.sq (tps_ok rp hrc ds es vs h h2)
  | .lst ds, e, v, h, r => by
    simp only [tp, Option.map_eq_some_iff] at h
    obtain ⟨es, h, e⟩ := h
    subst e
    simp only [RD] at r
    obtain ⟨a, vs, e, h1, no, z, h2⟩ := r
    subst e
    exact .lst (.of h1) (tps_ok rp hrc ds es vs h h2)
  | .scr ds, e, v, h, r => by
    simp only [tp, Option.map_eq_some_iff] at h
    obtain ⟨es, h, e⟩ := h
    subst e
    simp only [RD] at r
    obtain ⟨a, vs, e, h1, z, h2⟩ := r
    subst e
    exact .lst (scr_sq rp.kk h1) (tps_ok rp hrc ds es vs h h2)
  | .dct ks ds, e, v, h, r => by simp only [tp] at h; cases h
  | .ref m, e, v, h, r => by
    simp only [RD] at r
    obtain ⟨a, e1, h1⟩ := r
    subst e1
    obtain ⟨o, e2, ro⟩ := rp.has h1
    simp only [tp, e2] at h
    cases o with
    | lst ds =>
      simp only [Option.map_eq_some_iff] at h
      obtain ⟨es, h, e⟩ := h
      subst e
      obtain ⟨vs, h3, z, h4⟩ := ro
      exact .lst (.of h3) (hrc ds es vs h h4)
    | _ => cases h
theorem tps_ok (rp : Rep H ι mg S) (hrc : ∀ ds es vs, rc ds = some es → RDs H ι ds vs → DpAll mg.K H vs es) : ∀ (ds : List D) (es : List PyData) (vs : List V), tps rc S ds = some es → RDs H ι ds vs → DpAll mg.K H vs es
  | [], es, vs, h, r => by simp only [tps, Option.some.injEq] at h; subst h; simp only [RDs] at r; subst r; exact .nil
  | d :: ds, es, vs, h, r => by
    simp only [tps] at h
    simp only [RDs] at r
    obtain ⟨v, w, e, h1, h2⟩ := r
    subst e
    cases h3 : tp rc S d with
    | none => rw [h3] at h; cases h
    | some d' =>
      rw [h3] at h
      simp only [Option.bind_some, Option.map_eq_some_iff] at h
      obtain ⟨es', h, e'⟩ := h
      subst e'
      exact .cons (tp_ok rp hrc d d' v h3 h1) (tps_ok rp hrc ds es' w h h2)
end
theorem tpk_ok (rp : Rep H ι mg S) : ∀ (k : Nat) (ds : List D) (es : List PyData) (vs : List V), tpk S k ds = some es → RDs H ι ds vs → DpAll mg.K H vs es
  | 0, ds, es, vs, h, r => tps_ok rp (fun _ _ _ q => by cases q) ds es vs h r
  | k + 1, ds, es, vs, h, r => tps_ok rp (fun _ _ _ q r => tpk_ok rp k _ _ _ q r) ds es vs h r
theorem tpd_ok (rp : Rep H ι mg S) {d : D} {e : PyData} {v : V} (h : tpd S d = some e) (r : RD H ι d v) : Dp mg.K H v e := tp_ok rp (fun _ _ _ q r => tpk_ok rp 1 _ _ _ q r) d e v h r
end
/-- atoms, told apart without more -/
def scalD : D → D → Option Bool
  | .non, .non => some true | .non, .int _ => some false | .int _, .non => some false | .non, .bl _ => some false | .bl _, .non => some false | .non, .str _ => some false | .str _, .non => some false
  | .int i, .int j => some (decide (i = j)) | .bl i, .bl j => some (decide (i = j)) | .str i, .str j => some (decide (i = j))
  | .int _, .str _ => some false | .str _, .int _ => some false | .bl _, .str _ => some false | .str _, .bl _ => some false
  | _, _ => none
theorem scalD_ok {H : Hp} {ι : Z} {dx dy : D} {x y : V} {k : Bool} (h : scalD dx dy = some k) (rx : RD H ι dx x) (ry : RD H ι dy y) : scal x y = true ∧ decide (x = y) = k := by
  unfold scalD at h
  split at h <;> first
    | (cases h; done)
    | (simp only [Option.some.injEq] at h; subst h; simp only [RD] at rx ry; first | (subst rx; subst ry; exact ⟨rfl, by simp⟩) | (obtain ⟨rx, _⟩ := rx; subst rx; subst ry; exact ⟨rfl, by simp⟩) | (obtain ⟨ry, _⟩ := ry; subst rx; subst ry; exact ⟨rfl, by simp⟩) | (obtain ⟨rx, _⟩ := rx; obtain ⟨ry, _⟩ := ry; subst rx; subst ry; exact ⟨rfl, by simp⟩))
/-- are they equal? -/
def eqD (S : Sto) (x y : D) : Option Bool := match scalD x y with
  | some k => some k
  | none => match tpd S x, tpd S y with
    | some p, some q => if SeqAt.shaped p = true ∧ SeqAt.shaped q = true then some (p.eqv q) else none
    | _, _ => none
def opEq (x y : D) (S : Sto) : R D := match eqD S x y with
  | some k => .ok (.bl k) S
  | none => .stuck
def opNe (x y : D) (S : Sto) : R D := match eqD S x y with
  | some k => .ok (.bl (!k)) S
  | none => .stuck
theorem opEq_ok {k : Nat} (hr : Room k X.A) : OpD X (compareOp .Eq) opEq := by
  refine ⟨_, op_eq.or (op_eqD hr.units), fun W ι S H x y dx dy Q rp rx ry q => ?_⟩
  unfold opEq eqD at q
  split at q
  · rename_i k hk
    split at hk
    · rename_i k' hs
      cases hk
      obtain ⟨h1, h2⟩ := scalD_ok hs rx ry
      exact .inl ⟨h1, q.here rp (by simp only [RD]; rw [h2])⟩
    · split at hk
      · rename_i p p' hp hp'
        split at hk
        · rename_i hsh
          cases hk
          exact .inr ⟨p, p', tpd_ok rp hp rx, tpd_ok rp hp' ry, hsh.1, hsh.2, q.here rp (by simp only [RD])⟩
        · cases hk
      · cases hk
  · exact q.elim
theorem opNe_ok {k : Nat} (hr : Room k X.A) : OpD X (compareOp .NotEq) opNe := by
  refine ⟨_, op_ne.or (op_neD hr.units), fun W ι S H x y dx dy Q rp rx ry q => ?_⟩
  unfold opNe eqD at q
  split at q
  · rename_i k hk
    split at hk
    · rename_i k' hs
      cases hk
      obtain ⟨h1, h2⟩ := scalD_ok hs rx ry
      exact .inl ⟨h1, q.here rp (by simp only [RD]; rw [h2])⟩
    · split at hk
      · rename_i p p' hp hp'
        split at hk
        · rename_i hsh
          cases hk
          exact .inr ⟨p, p', tpd_ok rp hp rx, tpd_ok rp hp' ry, hsh.1, hsh.2, q.here rp (by simp only [RD])⟩
        · cases hk
      · cases hk
  · exact q.elim
/-! ### is None -/
def isNon : D → Bool
  | .non => true
  | _ => false
def opIsN (x y : D) (S : Sto) : R D := match y with
  | .non => .ok (.bl (isNon x)) S
  | _ => .stuck
def opNotN (x y : D) (S : Sto) : R D := match y with
  | .non => .ok (.bl (!isNon x)) S
  | _ => .stuck
theorem isNon_ok {H : Hp} {ι : Z} {d : D} {v : V} (r : RD H ι d v) : decide (v = .non) = isNon d := by
  cases d <;> simp only [RD] at r
  · subst r; rfl
  · subst r; rfl
  · subst r; rfl
  · rw [r.1]; rfl
  all_goals (obtain ⟨a, r⟩ := r; first | (obtain ⟨vs, r, _⟩ := r; subst r; rfl) | (obtain ⟨r, _⟩ := r; subst r; rfl))
theorem opIsN_ok : OpD X (compareOp .Is) opIsN := by
  refine ⟨_, op_isN, fun W ι S H x y dx dy Q rp rx ry q => ?_⟩
  unfold opIsN at q
  split at q
  · simp only [RD] at ry
    exact ⟨ry, q.here rp (by simp only [RD]; rw [isNon_ok rx])⟩
  · exact q.elim
theorem opNotN_ok : OpD X (compareOp .IsNot) opNotN := by
  refine ⟨_, op_notN, fun W ι S H x y dx dy Q rp rx ry q => ?_⟩
  unfold opNotN at q
  split at q
  · simp only [RD] at ry
    exact ⟨ry, q.here rp (by simp only [RD]; rw [isNon_ok rx])⟩
  · exact q.elim
end
end PM

/-! PM, part 8: dicts, subscripts, slices, built-in calls, methods -/
namespace PM
open PySem PySem.Spec L2 PyProof.Rows
/-! ### tables -/
def OV (H : Hp) (ι : Z) : Option D → Option V → Prop
  | some x, ov => ∃ w, ov = some w ∧ RD H ι x w
  | none, ov => ov = none
section
variable {κ : Type} [DecidableEq κ]
def getK : List κ → List D → κ → Option D
  | k :: ks, d :: ds, j => if k = j then some d else getK ks ds j
  | _, _, _ => none
def insK (ks : List κ) (k : κ) : List κ := if k ∈ ks then ks else ks ++ [k]
def insD (ks : List κ) (ds : List D) (k : κ) (d : D) : List D := if k ∈ ks then List.zipWith (fun j x => if j = k then d else x) ks ds else ds ++ [d]
theorem getK_val {H : Hp} {ι : Z} {k : κ} : ∀ {ks : List κ} {ds : List D} {vs : List V}, ks.length = ds.length → RDs H ι ds vs → OV H ι (getK ks ds k) (valV (ks.zip vs) k)
  | [], [], vs, _, r => by simp only [getK, List.zip_nil_left]; rfl
  | j :: ks, d :: ds, vs, h, r => by
    simp only [RDs] at r
    obtain ⟨v, w, e, r1, r2⟩ := r
    subst e
    simp only [getK, List.zip_cons_cons]
    by_cases hj : j = k
    · rw [if_pos hj, valV_pos (p := (j, v)) hj]
      exact ⟨v, rfl, r1⟩
    · rw [if_neg hj, valV_neg (p := (j, v)) hj]
      exact getK_val (by simpa using h) r2
theorem zip_any {k : κ} : ∀ {ks : List κ} {vs : List V}, ks.length = vs.length → ((ks.zip vs).any fun kv => decide (kv.1 = k)) = decide (k ∈ ks)
  | [], [], _ => by simp
  | j :: ks, v :: vs, h => by
    rw [List.zip_cons_cons, List.any_cons, zip_any (by simpa using h)]
    by_cases hj : j = k
    · simp [hj]
    · have : ¬ k = j := fun e => hj e.symm
      simp [hj, this]
theorem insK_put {H : Hp} {ι : Z} {k : κ} {d : D} {v : V} {ks : List κ} {ds : List D} {vs : List V} (h : ks.length = ds.length) (r : RDs H ι ds vs) (rd : RD H ι d v) :
    ∃ ws, putK (ks.zip vs) k v = (insK ks k).zip ws ∧ (insK ks k).length = (insD ks ds k d).length ∧ RDs H ι (insD ks ds k d) ws := by
  have hl : ks.length = vs.length := by rw [h, r.length]
  unfold putK insK insD
  rw [zip_any hl]
  by_cases hk : k ∈ ks
  · rw [if_pos (by simpa using hk), if_pos hk, if_pos hk]
    refine ⟨List.zipWith (fun j x => if j = k then v else x) ks vs, ?_, by simp [h], ?_⟩
    · clear hk h r
      induction ks generalizing vs with
      | nil => rfl
      | cons j ks ih =>
        cases vs with
        | nil => cases hl
        | cons x vs =>
          rw [List.zip_cons_cons, List.map_cons, List.zipWith_cons_cons, List.zip_cons_cons, ih (by simpa using hl)]
          by_cases hj : j = k
          · rw [if_pos hj, if_pos hj]
          · rw [if_neg hj, if_neg hj]
    · clear hk
      induction ks generalizing ds vs with
      | nil => exact .nil
      | cons j ks ih =>
        cases ds with
        | nil => cases h
        | cons x ds =>
          simp only [RDs] at r
          obtain ⟨y, w, e, r1, r2⟩ := r
          subst e
          rw [List.zipWith_cons_cons, List.zipWith_cons_cons]
          refine .cons ?_ (ih (by simpa using h) r2 (by simpa using hl))
          by_cases hj : j = k
          · rw [if_pos hj, if_pos hj]; exact rd
          · rw [if_neg hj, if_neg hj]; exact r1
  · rw [if_neg (by simpa using hk), if_neg hk, if_neg hk]
    exact ⟨vs ++ [v], by rw [List.zip_append hl]; rfl, by simp [h], r.app (.cons rd .nil)⟩
end
def keyOf : D → Option Key
  | .int i => some (.inl i)
  | .str s => some (.inr s)
  | _ => none
def keysOf : List D → Option (List Key)
  | [] => some []
  | d :: ds => (keyOf d).bind fun k => (keysOf ds).map (k :: ·)
def tkeyOf : D → Option (List Key)
  | _ => none
theorem keyOf_ok {H : Hp} {ι : Z} {d : D} {v : V} {k : Key} (r : RD H ι d v) (h : keyOf d = some k) : v = kV k := by
  cases d <;> simp only [keyOf, Option.some.injEq] at h <;> first | (cases h; done) | (subst h; simp only [RD] at r; first | exact r | exact r.1)
theorem keysOf_ok {H : Hp} {ι : Z} : ∀ {ds : List D} {vs : List V} {k : List Key}, RDs H ι ds vs → keysOf ds = some k → vs = k.map kV
  | [], vs, k, r, h => by simp only [keysOf, Option.some.injEq] at h; subst h; simp only [RDs] at r; exact r
  | d :: ds, vs, k, r, h => by
    simp only [RDs] at r
    obtain ⟨v, w, e, r1, r2⟩ := r
    subst e
    simp only [keysOf] at h
    cases h1 : keyOf d with
    | none => rw [h1] at h; cases h
    | some k1 =>
      rw [h1] at h
      simp only [Option.bind_some, Option.map_eq_some_iff] at h
      obtain ⟨ks, h2, e⟩ := h
      subst e
      rw [keyOf_ok r1 h1, keysOf_ok r2 h2]; rfl
theorem tkeyOf_ok {H : Hp} {ι : Z} {d : D} {v : V} {k : List Key} (r : RD H ι d v) (h : tkeyOf d = some k) : ∃ b, v = .ref b ∧ H b = some (.tup (k.map kV)) := by
  cases h
def dkOf (S : Sto) : D → Option (List Key × List D)
  | .dct ks ds => some (ks, ds)
  | .ref n => match S[n]? with
    | some (.dK ks ds) => some (ks, ds)
    | _ => none
  | _ => none
def dtOf (S : Sto) : D → Option (List (List Key) × List D)
  | .ref n => match S[n]? with
    | some (.dT ks ds) => some (ks, ds)
    | _ => none
  | _ => none
section
variable {H : Hp} {ι : Z} {mg : EnvK} {S : Sto} {d e : D} {v u : V}
theorem dkOf_ok {p : List Key × List D} (rp : Rep H ι mg S) (r : RD H ι d v) (h : dkOf S d = some p) : ∃ a vs, v = .ref a ∧ Rd H a (.dK (p.1.zip vs)) ∧ p.1.length = p.2.length ∧ RDs H ι p.2 vs := by
  cases d with
  | dct ks ds =>
    simp only [dkOf, Option.some.injEq] at h; subst h
    simp only [RD] at r
    obtain ⟨a, vs, e, h1, n, z, y, h2⟩ := r
    exact ⟨a, vs, e, h1, z, h2⟩
  | ref n =>
    simp only [RD] at r
    obtain ⟨a, e, h1⟩ := r
    obtain ⟨o, e2, ro⟩ := rp.has h1
    simp only [dkOf, e2] at h
    cases o with
    | dK ks ds =>
      simp only [Option.some.injEq] at h; subst h
      obtain ⟨vs, h3, z, y, h4⟩ := ro
      exact ⟨a, vs, e, .inl h3, z, h4⟩
    | _ => cases h
  | _ => cases h
theorem dtOf_ok {p : List (List Key) × List D} (rp : Rep H ι mg S) (r : RD H ι d v) (h : dtOf S d = some p) : ∃ a vs, v = .ref a ∧ H a = some (.dT (p.1.zip vs)) ∧ p.1.length = p.2.length ∧ RDs H ι p.2 vs := by
  cases d with
  | ref n =>
    simp only [RD] at r
    obtain ⟨a, e, h1⟩ := r
    obtain ⟨o, e2, ro⟩ := rp.has h1
    simp only [dtOf, e2] at h
    cases o with
    | dT ks ds =>
      simp only [Option.some.injEq] at h; subst h
      obtain ⟨vs, h3, z, y, h4⟩ := ro
      exact ⟨a, vs, e, h3, z, h4⟩
    | _ => cases h
  | _ => cases h
/-- what a dict has at a key -/
def dget (S : Sto) (x y : D) : Option (Option D) := match dkOf S x with
  | some p => match keyOf y with
    | some k => some (getK p.1 p.2 k)
    | none => none
  | none => match dtOf S x with
    | some p => match tkeyOf y with
      | some k => some (getK p.1 p.2 k)
      | none => none
    | none => none
theorem dget_ok {o : Option D} (rp : Rep H ι mg S) (r : RD H ι d v) (rk : RD H ι e u) (h : dget S d e = some o) : ∃ a ov, v = .ref a ∧ DGet H a u ov ∧ OV H ι o ov := by
  unfold dget at h
  split at h
  · rename_i p hp
    split at h
    · rename_i k hk
      cases h
      obtain ⟨a, vs, e1, h1, h2, h3⟩ := dkOf_ok rp r hp
      exact ⟨a, valV (p.1.zip vs) k, e1, .inl ⟨_, k, h1, keyOf_ok rk hk, rfl⟩, getK_val (k := k) h2 h3⟩
    · cases h
  · split at h
    · rename_i p hp
      split at h
      · rename_i k hk
        cases h
        obtain ⟨a, vs, e1, h1, h2, h3⟩ := dtOf_ok rp r hp
        obtain ⟨b, e2, h4⟩ := tkeyOf_ok rk hk
        exact ⟨a, valV (p.1.zip vs) k, e1, .inr ⟨_, k, b, .inl h1, e2, h4, rfl⟩, getK_val (k := k) h2 h3⟩
      · cases h
    · cases h
end
/-! ### in -/
def isFlat : D → Bool
  | .non => true | .bl _ => true | .int _ => true | .str _ => true
  | _ => false
def scalAny (x : D) : List D → Option Bool
  | [] => some false
  | d :: ds => (scalD d x).bind fun k => (scalAny x ds).map (k || ·)
theorem eqV_scal {x y : V} (h : scal x y = true) (f : flatV x = true) : eqV x y = decide (x = y) := by
  cases x <;> cases y <;> first | (cases h; done) | (cases f; done) | rfl | (simp only [eqV, V.bl.injEq, V.int.injEq, V.str.injEq]; exact Bool.beq_eq_decide_eq _ _)
theorem flat_v {H : Hp} {ι : Z} {d : D} {v : V} (r : RD H ι d v) (h : isFlat d = true) : flatV v = true := by
  cases d <;> simp only [RD] at r <;> first | (cases h; done) | (subst r; rfl) | (rw [r.1]; rfl)
theorem scalD_flat {d x : D} {k : Bool} (h : scalD d x = some k) : isFlat d = true := by
  cases d <;> cases x <;> first | rfl | cases h
theorem scalAny_ok {H : Hp} {ι : Z} {x : D} {v : V} (r : RD H ι x v) (fx : flatV v = true) : ∀ {ds : List D} {vs : List V} {k : Bool}, RDs H ι ds vs → scalAny x ds = some k → vs.all flatV = true ∧ inV v vs = k
  | [], vs, k, rs, h => by simp only [scalAny, Option.some.injEq] at h; subst h; simp only [RDs] at rs; subst rs; exact ⟨rfl, rfl⟩
  | d :: ds, vs, k, rs, h => by
    simp only [RDs] at rs
    obtain ⟨w, r2, e, r3, r4⟩ := rs
    subst e
    simp only [scalAny] at h
    cases h1 : scalD d x with
    | none => rw [h1] at h; cases h
    | some k1 =>
      rw [h1] at h
      simp only [Option.bind_some, Option.map_eq_some_iff] at h
      obtain ⟨k2, h2, e⟩ := h
      subst e
      obtain ⟨q1, q2⟩ := scalAny_ok r fx r4 h2
      obtain ⟨s1, s2⟩ := scalD_ok h1 r3 r
      have fw : flatV w = true := flat_v r3 (scalD_flat h1)
      have t1 := eqV_scal s1 fw
      refine ⟨by rw [List.all_cons, fw, q1]; rfl, ?_⟩
      show (eqV w v || inV v r2) = _
      rw [t1, s2, q2]
/-- is x in y? -/
def inDa (S : Sto) (x y : D) : Option Bool := match x, y with
  | .str a, .str z => match a.cps.toList with
    | [c] => some (decide (c ∈ z.cps.toList))
    | _ => none
  | x, y => match dget S y x with
    | some o => some o.isSome
    | none => match rdS S y with
      | some ds => match (if isFlat x = true then scalAny x ds else none) with
        | some k => some k
        | none => match tpd S x, tpd S y with
          | some p, some (.list ps) => if SeqAt.shaped p = true ∧ SeqAt.shaped (.list ps) = true then some (ps.any fun z => PyData.eqv z p) else none
          | _, _ => none
      | none => none
def opIn (x y : D) (S : Sto) : R D := match inDa S x y with
  | some k => .ok (.bl k) S
  | none => .stuck
def opNotIn (x y : D) (S : Sto) : R D := match inDa S x y with
  | some k => .ok (.bl (!k)) S
  | none => .stuck
section
variable {X : Cx}
theorem op_din (hu : X.A.units + 1 < cLine) : OpR X (compareOp .In) (fun y x H Q => ∃ a o, x = .ref a ∧ DGet H a y o ∧ Q (.bl o.isSome) H) := by
  intro pins s σ H x y v u Q I rx ry h
  obtain ⟨a, o, e, g, q⟩ := h
  subst e
  cases ry
  exact d_in hu I g rx fun s3 I3 => ⟨.bl o.isSome, H, I3, rfl, q⟩
theorem op_dnotin (hu : X.A.units + 1 < cLine) : OpR X (compareOp .NotIn) (fun y x H Q => ∃ a o, x = .ref a ∧ DGet H a y o ∧ Q (.bl (!o.isSome)) H) := by
  intro pins s σ H x y v u Q I rx ry h
  obtain ⟨a, o, e, g, q⟩ := h
  subst e
  cases ry
  exact d_notIn hu I g rx fun s3 I3 => ⟨.bl (!o.isSome), H, I3, rfl, q⟩
/-- what stands behind inDa's answer -/
theorem inDa_ok {H : Hp} {ι : Z} {S : Sto} {x y : D} {v u : V} {k : Bool} (rp : Rep H ι X.ek S) (rx : RD H ι x v) (ry : RD H ι y u) (h : inDa S x y = some k) :
    (∃ (c : Nat) (z : Str), v = .str ⟨#[c]⟩ ∧ u = .str z ∧ k = decide (c ∈ z.cps.toList)) ∨ (∃ a o, u = .ref a ∧ DGet H a v o ∧ k = o.isSome) ∨
    (∃ p xs, u = .ref p ∧ (SqL X.K H p xs ∨ SqT X.K H p xs) ∧ flatV v = true ∧ xs.all flatV = true ∧ k = inV v xs) ∨
    (∃ d ds, Dp X.K H v d ∧ Dp X.K H u (.list ds) ∧ SeqAt.shaped d = true ∧ SeqAt.shaped (.list ds) = true ∧ k = ds.any fun z => PyData.eqv z d) := by
  unfold inDa at h
  split at h
  · rename_i a z
    split at h
    · rename_i c hc
      cases h
      simp only [RD] at rx ry
      have e : a = ⟨#[c]⟩ := by
        obtain ⟨cps⟩ := a
        have : cps.toList = [c] := hc
        congr
        rw [← Array.toArray_toList (xs := cps), this]
      exact .inl ⟨c, z, by rw [rx.1, e], ry.1, rfl⟩
    · cases h
  · split at h
    · rename_i o ho
      cases h
      obtain ⟨a, ov, e, g, q⟩ := dget_ok rp ry rx ho
      refine .inr (.inl ⟨a, ov, e, g, ?_⟩)
      cases o with
      | some x => obtain ⟨w, e2, _⟩ := q; rw [e2]; rfl
      | none => rw [q]; rfl
    · split at h
      · rename_i ds hds
        obtain ⟨a, vs, e, hq, hr, hz⟩ := rdS_ok rp ry hds
        split at h
        · rename_i k' hk
          cases h
          split at hk
          · rename_i hf
            have fx := flat_v rx hf
            obtain ⟨q1, q2⟩ := scalAny_ok rx fx hr hk
            exact .inr (.inr (.inl ⟨a, vs, e, hq, fx, q1, q2.symm⟩))
          · cases hk
        · split at h
          · rename_i p ps hp hps
            split at h
            · rename_i hs
              cases h
              exact .inr (.inr (.inr ⟨p, ps, tpd_ok rp hp rx, tpd_ok rp hps ry, hs.1, hs.2, rfl⟩))
            · cases h
          · cases h
      · cases h
theorem opIn_ok {k : Nat} (hr : Room k X.A) : OpD X (compareOp .In) opIn := by
  refine ⟨_, op_in_sign.or ((op_din (hu_of hr)).or (op_in_seq.or (op_inD (by have := hr.un; omega)))), fun W ι S H x y dx dy Q rp rx ry q => ?_⟩
  unfold opIn at q
  split at q
  · rename_i k hk
    have q := q.here (b := V.bl k) rp (by simp only [RD])
    rcases inDa_ok rp rx ry hk with ⟨c, z, e1, e2, e3⟩ | ⟨a, o, e1, g, e2⟩ | ⟨p, xs, e, h1, h2, h3, e2⟩ | ⟨d, ds, h1, h2, h3, h4, e⟩
    · subst e3; exact .inl ⟨c, z, e1, e2, q⟩
    · subst e2; exact .inr (.inl ⟨a, o, e1, g, q⟩)
    · subst e2; exact .inr (.inr (.inl ⟨p, xs, e, h1, h2, h3, q⟩))
    · subst e; exact .inr (.inr (.inr ⟨d, ds, h1, h2, h3, h4, q⟩))
  · exact q.elim
theorem opNotIn_ok {k : Nat} (hr : Room k X.A) : OpD X (compareOp .NotIn) opNotIn := by
  refine ⟨_, op_notIn_sign.or ((op_dnotin (hu_of hr)).or (op_notIn_seq.or (op_notInD (by have := hr.un; omega)))), fun W ι S H x y dx dy Q rp rx ry q => ?_⟩
  unfold opNotIn at q
  split at q
  · rename_i k hk
    have q := q.here (b := V.bl (!k)) rp (by simp only [RD])
    rcases inDa_ok rp rx ry hk with ⟨c, z, e1, e2, e3⟩ | ⟨a, o, e1, g, e2⟩ | ⟨p, xs, e, h1, h2, h3, e2⟩ | ⟨d, ds, h1, h2, h3, h4, e⟩
    · subst e3; exact .inl ⟨c, z, e1, e2, q⟩
    · subst e2; exact .inr (.inl ⟨a, o, e1, g, q⟩)
    · subst e2; exact .inr (.inr (.inl ⟨p, xs, e, h1, h2, h3, q⟩))
    · subst e; exact .inr (.inr (.inr ⟨d, ds, h1, h2, h3, h4, q⟩))
  · exact q.elim
/-! ### subscripts -/
def IxD (X : Cx) (op : D → D → Sto → R D) : Prop :=
  ∃ r : R2, IxR X r ∧ ∀ (W : XK) (ι : Z) (S : Sto) (H : Hp) (x y : V) (dx dy : D) (Q : VK), Rep H ι X.ek S → RD H ι dx x → RD H ι dy y → G X.ek W ι H RD (op dx dy S) Q → r x y H Q
theorem ix_dict (hu : X.A.units + 1 < cLine) : IxR X (fun x y H Q => ∃ a v, x = .ref a ∧ DGet H a y (some v) ∧ Q v H) := by
  intro value slice pins s σ H x y v u Q I rx ry h hs
  obtain ⟨a, w, e, g, q⟩ := h
  subst e
  cases rx
  exact tail_any (dict_typeIs I g) PySem.F.slot_dict_getitem.lookup (d_getItem hu I g ry fun w' s3 I3 rw' => ⟨w, H, I3, rw', q⟩) hs
def opIx (x y : D) (S : Sto) : R D := match x, y with
  | .str z, .int i => match atI z.cps.toList i with
    | some c => .ok (.str ⟨#[c]⟩) S
    | none => .stuck
  | x, y => match dget S x y with
    | some (some d) => .ok d S
    | some none => .stuck
    | none => match rdS S x with
      | some ds => match y with
        | .int i => match atI ds i with
          | some d => .ok d S
          | none => .stuck
        | _ => .stuck
      | none => .stuck
theorem atI_ok {H : Hp} {ι : Z} {ds : List D} {vs : List V} {i : Int} {d : D} (r : RDs H ι ds vs) (h : atI ds i = some d) : ∃ v, atI vs i = some v ∧ RD H ι d v := by
  unfold atI at h ⊢
  rw [← r.length]
  cases hj : ixN ds.length i with
  | none => rw [hj] at h; cases h
  | some j =>
    rw [hj] at h
    exact r.get h
theorem opIx_ok {k : Nat} (hr : Room k X.A) : IxD X opIx := by
  refine ⟨_, ix_str.or ((ix_dict (hu_of hr)).or (ix_list.or ix_tup)), fun W ι S H x y dx dy Q rp rx ry q => ?_⟩
  unfold opIx at q
  split at q
  · rename_i z i
    split at q
    · rename_i c hc
      simp only [RD] at rx ry
      exact .inl ⟨z, i, c, rx.1, ry, rx.2, hc, q.here rp (by simp only [RD]; exact ⟨trivial, by show 1 ≤ sizeLine; decide⟩)⟩
    · exact q.elim
  · split at q
    · rename_i d hd
      obtain ⟨a, ov, e, g, w, e2, rw'⟩ := dget_ok rp rx ry hd
      subst e2
      exact .inr (.inl ⟨a, w, e, g, q.here rp rw'⟩)
    · exact q.elim
    · split at q
      · rename_i ds hds
        obtain ⟨a, vs, e, hq, h2, hz⟩ := rdS_ok rp rx hds
        cases dy with
        | int i =>
          dsimp only at q
          split at q
          · rename_i d hd
            obtain ⟨w, hw, rw'⟩ := atI_ok h2 hd
            simp only [RD] at ry
            rcases hq with hq | hq
            · exact .inr (.inr (.inl ⟨a, vs, i, w, e, ry, hq, hw, q.here rp rw'⟩))
            · exact .inr (.inr (.inr ⟨a, vs, i, w, e, ry, hq, hw, q.here rp rw'⟩))
          · exact q.elim
        | _ => exact q.elim
      · exact q.elim
variable {W : WX} {a b e o : Expr} {es : List Expr} {pos p p2 apos : Pos} {ma mb mo : Em} {am : Am}
theorem de_ix {f : D → D → Sto → R D} (ho : IxD X f) (ha : DE X W a ma) (hb : DE X W b mb) (hs : PlainIx b := by exact fun _ _ => rfl) : DE X W (.Subscript a b pos) (mB f ma mb) := by
  obtain ⟨r, hr, k⟩ := ho
  exact pe_imp (pe_ix hr ha hb hs) fun σ H Q h => de_opR k h
/-! ### stores -/
theorem PSet.or {t t' : TSet} (h : PSet X t) (h' : PSet X t') : PSet X (fun o i v H Q => t o i v H Q ∨ t' o i v H Q) := fun pins s σ H o i v ov iv u Q I ro ri rv q =>
  q.elim (h pins s σ H o i v ov iv u Q I ro ri rv) (h' pins s σ H o i v ov iv u Q I ro ri rv)
theorem set_dict (hu : X.A.units + 1 < cLine) : PSet X (fun o i v H Q => ∃ a H', o = .ref a ∧ DPut H a i v H' ∧ Q H') := by
  intro pins s σ H o i v ov iv u Q I ro ri rv h
  obtain ⟨a, H', e, g, q⟩ := h
  subst e
  cases ro
  exact d_setItem hu I g ri rv fun s4 I4 => ⟨H', I4, q⟩
def opSet (x y z : D) (S : Sto) : R Unit := match x with
  | .ref n => match S[n]? with
    | some (.lst ds) => match y with
      | .int i => match ixN ds.length i with
        | some j => .ok () (S.set n (.lst (ds.set j z)))
        | none => .stuck
      | _ => .stuck
    | some (.dK ks ds) => match keyOf y with
      | some k => if ks.length < sizeLine then .ok () (S.set n (.dK (insK ks k) (insD ks ds k z))) else .stuck
      | none => .stuck
    | some (.dT ks ds) => match tkeyOf y with
      | some k => if ks.length < sizeLine then .ok () (S.set n (.dT (insK ks k) (insD ks ds k z))) else .stuck
      | none => .stuck
    | _ => .stuck
  | _ => .stuck
theorem insK_len {κ : Type} [DecidableEq κ] (ks : List κ) (k : κ) : (insK ks k).length ≤ ks.length + 1 := by
  unfold insK
  split
  · omega
  · simp
theorem opSet_ok {k : Nat} (hr : Room k X.A) : PSetD X opSet := by
  refine ⟨_, PSet.or set_list (set_dict (hu_of hr)), fun W ι S H x y z dx dy dz Q rp rx ry rz q => ?_⟩
  unfold opSet at q
  split at q
  · rename_i n
    simp only [RD] at rx
    obtain ⟨a, e, h1⟩ := rx
    obtain ⟨o, e2, ro⟩ := rp.has h1
    simp only [e2] at q
    cases o with
    | lst ds =>
      obtain ⟨vs, h3, hz, h4⟩ := ro
      dsimp only at q
      split at q
      · rename_i i
        split at q
        · rename_i j hj
          simp only [RD] at ry
          refine .inl ⟨a, vs, i, j, e, ry, h3, by rw [← h4.length]; exact hj, ?_⟩
          have st : Lift ι H ι (upd H a (.lst (vs.set j z))) := Lift.write (.inl (List.mem_of_getElem? h1)) (fun _ e' => by rw [h3] at e'; cases e'; exact .intro (fun _ _ q => nomatch q) (fun _ _ q => nomatch q))
          obtain ⟨rp2, st2⟩ := rp.write (m := .lst (ds.set j dz)) (o := .lst (vs.set j z)) h1 (.intro (fun _ _ q => nomatch q) (fun _ _ q => nomatch q)) ⟨_, upd_same, by simpa using hz, (h4.mono st).set (rz.mono st)⟩
          exact q.at st2 rp2 rfl
        · exact q.elim
      · exact q.elim
    | dK ks ds =>
      obtain ⟨vs, h3, hl, hz, h4⟩ := ro
      dsimp only at q
      split at q
      · rename_i k hk
        split at q
        · rename_i hlt
          have lv : (ks.zip vs).length = ks.length := by rw [List.length_zip, ← h4.length, hl]; simp
          obtain ⟨ws0, p1, p2, p3⟩ := insK_put (k := k) hl h4 rz
          have st : Lift ι H ι (upd H a (.dK ((insK ks k).zip ws0))) := Lift.write (.inl (List.mem_of_getElem? h1)) (fun _ e' => by rw [h3] at e'; cases e'; exact .intro (fun _ _ q => nomatch q) (fun _ _ q => nomatch q))
          obtain ⟨rp2, st2⟩ := rp.write (m := .dK (insK ks k) (insD ks ds k dz)) (o := .dK ((insK ks k).zip ws0)) h1 (.intro (fun _ _ q => nomatch q) (fun _ _ q => nomatch q)) ⟨_, upd_same, p2, by have := insK_len ks k; omega, p3.mono st⟩
          refine .inr ⟨a, _, e, .inl ⟨_, k, h3, keyOf_ok ry hk, by rw [lv]; exact hlt, rfl⟩, ?_⟩
          rw [p1]
          exact q.at st2 rp2 rfl
        · exact q.elim
      · exact q.elim
    | dT ks ds =>
      obtain ⟨vs, h3, hl, hz, h4⟩ := ro
      dsimp only at q
      split at q
      · rename_i k hk
        split at q
        · rename_i hlt
          have lv : (ks.zip vs).length = ks.length := by rw [List.length_zip, ← h4.length, hl]; simp
          obtain ⟨ws0, p1, p2, p3⟩ := insK_put (k := k) hl h4 rz
          have st : Lift ι H ι (upd H a (.dT ((insK ks k).zip ws0))) := Lift.write (.inl (List.mem_of_getElem? h1)) (fun _ e' => by rw [h3] at e'; cases e'; exact .intro (fun _ _ q => nomatch q) (fun _ _ q => nomatch q))
          obtain ⟨rp2, st2⟩ := rp.write (m := .dT (insK ks k) (insD ks ds k dz)) (o := .dT ((insK ks k).zip ws0)) h1 (.intro (fun _ _ q => nomatch q) (fun _ _ q => nomatch q)) ⟨_, upd_same, p2, by have := insK_len ks k; omega, p3.mono st⟩
          obtain ⟨b, eb, hb⟩ := tkeyOf_ok ry hk
          refine .inr ⟨a, _, e, .inr ⟨_, k, b, h3, eb, hb, by rw [lv]; exact hlt, rfl⟩, ?_⟩
          rw [p1]
          exact q.at st2 rp2 rfl
        · exact q.elim
      · exact q.elim
    | ins c fs ds => exact q.elim
  · exact q.elim
end
end PM

/-! PM, part 9: slices, built-in calls, methods -/
namespace PM
open PySem PySem.Spec L2 PyProof.Rows
abbrev Om := Loc → Sto → R (Option Int)
def mNo : Om := fun _ S => .ok none S
def mPt (e : Em) : Om := fun δ S => (e δ S).bind fun x S1 => match x with
  | .int i => .ok (some i) S1
  | _ => .stuck
def mSl (f : D → Option Int → Option Int → Sto → R D) (a : Em) (lo hi : Om) : Em := fun δ S => (a δ S).bind fun x S1 => (lo δ S1).bind fun l S2 => (hi δ S2).bind fun u S3 => f x l u S3
def cutD {α : Type} (xs : List α) (lo hi : Option Int) : List α := (xs.drop (HT.sIx xs.length 0 lo)).take (HT.sIx xs.length xs.length hi - HT.sIx xs.length 0 lo)
def opSl (x : D) (lo hi : Option Int) (S : Sto) : R D := match x with
  | .str z => .ok (.str (cutS z lo hi)) S
  | .tup ds => .ok (.tup (cutD ds lo hi)) S
  | x => match rdL S x with
    | some ds => .ok (.lst (cutD ds lo hi)) S
    | none => .stuck
theorem cutD_le {α : Type} (xs : List α) (lo hi : Option Int) : (cutD xs lo hi).length ≤ xs.length := by
  unfold cutD
  rw [List.length_take, List.length_drop]; omega
theorem cutS_le (z : Str) (lo hi : Option Int) : (cutS z lo hi).length ≤ z.length := by
  have h : (cutS z lo hi).length = (cutD z.cps.toList lo hi).length := by
    unfold cutS cutD Str.length
    simp
  rw [h]
  have := cutD_le z.cps.toList lo hi
  simpa [Str.length] using this
theorem rds_cut {H : Hp} {ι : Z} {ds : List D} {vs : List V} (r : RDs H ι ds vs) (lo hi : Option Int) : RDs H ι (cutD ds lo hi) (cutV vs lo hi) := by
  unfold cutD cutV
  rw [r.length]
  exact (r.drop _).take _
section
variable {X : Cx} {W : WX} {a b e o : Expr} {es : List Expr} {pos p p2 apos : Pos} {ma mb mo : Em} {am : Am} {lo hi : Option Expr} {ml mh : Om} {tg : Expr}
def DO (X : Cx) (W : WX) (e : Option Expr) (m : Om) : Prop := PO X e (tD X.ek W REq m)
theorem do_none : DO X W none mNo := ⟨fun pins s σ H Q I ⟨ι, S, δ, rp, rs, g⟩ => po_none.run pins s σ H Q I (g.here rp rfl)⟩
theorem do_some (h : DE X W e ma) : DO X W (some e) (mPt ma) := ⟨fun pins s σ H Q I q => (po_some h).run pins s σ H Q I (t_bind q fun ι S δ d v H' rp rs r g => by
    cases d with
    | int i => simp only [RD] at r; exact ⟨i, r, g.here rp rfl⟩
    | _ => exact g.elim)⟩
theorem de_slice (ha : DE X W a ma) (hl : DO X W lo ml) (hh : DO X W hi mh) : DE X W (.Subscript a (.Slice lo hi none p2) pos) (mSl opSl ma ml mh) :=
  pe_imp (pe_slice (sl_str.or (sl_tupF.or sl_list)) ha hl hh) fun σ H Q h => t_bind h fun ι S δ d v H1 rp rs rd g => ⟨ι, S, δ, rp, rs, (G.bind g).imp fun l H2 ⟨ι2, S2, l', st2, rp2, el, g2⟩ =>
    ⟨ι2, S2, δ, rp2, rs.mono st2.up, (G.bind g2).imp fun u H3 ⟨ι3, S3, u', st3, rp3, eu, g3⟩ => by
      rw [show l = l' from el, show u = u' from eu]
      have rd3 := rd.mono (st2.trans st3).up
      unfold opSl at g3
      split at g3
      · simp only [RD] at rd3
        exact .inl ⟨_, rd3.1, rd3.2, g3.here rp3 (by simp only [RD]; exact ⟨trivial, Nat.le_trans (cutS_le _ l' u') rd3.2⟩)⟩
      · simp only [RD] at rd3
        obtain ⟨t, vs, e, h1, z, h2⟩ := rd3
        have hz := Nat.le_trans (cutD_le _ l' u') z
        refine .inr (.inl ⟨t, vs, e, h1.sq, fun w => ?_, fun _ p o d hp => g3.at (Step.new hp) (rp3.new hp) ?_⟩)
        · refine g3.here rp3 ?_
          unfold cutD
          rw [h2.length, w.1, w.2, List.drop_zero, Nat.sub_zero, ← h2.length, List.take_length]
          simp only [RD]
          exact ⟨t, vs, rfl, h1, z, h2⟩
        · simp only [RD]
          exact ⟨p, _, rfl, Tp.mk d, hz, (rds_cut h2 l' u').mono (Step.new hp).up⟩
      · split at g3
        · rename_i ds hds
          obtain ⟨t, vs, e, h1, h2, z⟩ := rdL_ok rp3 rd3 hds
          exact .inr (.inr ⟨t, vs, e, h1, fun p hp => g3.at (Step.new hp) (rp3.new hp) (rd_newLst rp3 (rds_cut h2 l' u') (Nat.le_trans (cutD_le _ _ _) z) hp)⟩)
        · exact g3.elim⟩⟩
/-! ### built-in calls -/
def CallD (X : Cx) (f : Value) (c : List D → Sto → R D) : Prop :=
  ∃ r, CallR X f r ∧ ∀ (W : XK) (ι : Z) (S : Sto) (H : Hp) (xs : List V) (dxs : List D) (Q : VK), Rep H ι X.ek S → RDs H ι dxs xs → G X.ek W ι H RD (c dxs S) Q → r xs H Q
theorem de_callB {x : Str} {id : String} {c : List D → Sto → R D} (hc : CallD X (.builtin id) c) (hg : Gl X x) (hm : X.mg x = none) (hv : bootBuiltins x = some (.builtin id)) (ha : DA X W (e :: es) am) (hn : x ≠ "__name__" := by decide) (hdb : (x == ("__debug__" : Str)) = false := by decide)
    (he : starEach (e :: es) X.env = (false, eval e X.env) :: starEach es X.env := by rfl) (hpl : (backTo pos (starEach es X.env)).any (·.1) = false := by rfl) : DE X W (.Call (.Name x p) (e :: es) [] pos) (mApp c am) := by
  obtain ⟨r, hr, k⟩ := hc
  exact pe_imp (pe_callB hr hg hm hv ha hn hdb he hpl) fun σ H Q h => t_bind h fun ι S δ ds vs H1 rp rs rd g => k _ ι S H1 vs ds Q rp rd g
theorem de_callTy {x : Str} {T : String} {c : List D → Sto → R D} (hc : CallD X (.type T) c) (hg : Gl X x) (hm : X.mg x = none) (hv : bootBuiltins x = some (.type T)) (ha : DA X W (e :: es) am) (hn : x ≠ "__name__" := by decide) (hdb : (x == ("__debug__" : Str)) = false := by decide)
    (he : starEach (e :: es) X.env = (false, eval e X.env) :: starEach es X.env := by rfl) (hpl : (backTo pos (starEach es X.env)).any (·.1) = false := by rfl) : DE X W (.Call (.Name x p) (e :: es) [] pos) (mApp c am) := by
  obtain ⟨r, hr, k⟩ := hc
  exact pe_imp (pe_callTy hr hg hm hv ha hn hdb he hpl) fun σ H Q h => t_bind h fun ι S δ ds vs H1 rp rs rd g => k _ ι S H1 vs ds Q rp rd g
theorem rds_one {H : Hp} {ι : Z} {d : D} {vs : List V} (r : RDs H ι [d] vs) : ∃ v, vs = [v] ∧ RD H ι d v := by
  simp only [RDs] at r
  obtain ⟨v, w, e, h, e2⟩ := r
  subst e2
  exact ⟨v, e, h⟩
theorem rds_two {H : Hp} {ι : Z} {d d' : D} {vs : List V} (r : RDs H ι [d, d'] vs) : ∃ v v', vs = [v, v'] ∧ RD H ι d v ∧ RD H ι d' v' := by
  simp only [RDs] at r
  obtain ⟨v, w, e, h, v', w', e2, h2, e3⟩ := r
  subst e3 e2
  exact ⟨v, v', e, h, h2⟩
/-- len -/
def cLen (ds : List D) (S : Sto) : R D := match ds with
  | [d] => match lenOf d S with
    | some n => .ok (.int n) S
    | none => .stuck
  | _ => .stuck
theorem call_lenRd : CallR X (.builtin "len") (fun xs H Q => ∃ a kvs, xs = [V.ref a] ∧ Rd H a (.dK kvs) ∧ Q (.int kvs.length) H) := by
  intro pins s σ H xs us Q I r h
  obtain ⟨a, kvs, rfl, ha, q⟩ := h
  obtain ⟨u, rfl, ru⟩ := vals1 r
  cases ru
  exact d_len I ha fun t s' I' => ⟨.int kvs.length, H, I', ⟨t, rfl⟩, q⟩
/-- what a length stands for -/
theorem lenOf_ok {H : Hp} {ι : Z} {S : Sto} {d : D} {v : V} {n : Nat} (rp : Rep H ι X.ek S) (r : RD H ι d v) (h : lenOf d S = some n) :
    n ≤ sizeLine ∧ ((∃ p ys, v = .ref p ∧ (SqL X.K H p ys ∨ SqT X.K H p ys) ∧ n = ys.length) ∨ (∃ z, v = .str z ∧ z.length ≤ sizeLine ∧ n = z.length) ∨ (∃ a kvs, v = .ref a ∧ Rd H a (.dK kvs) ∧ n = kvs.length) ∨ (∃ a kvs, v = .ref a ∧ H a = some (.dT kvs) ∧ n = kvs.length)) := by
  cases d with
  | str z =>
    simp only [lenOf, Option.some.injEq] at h; subst h
    simp only [RD] at r
    exact ⟨r.2, .inr (.inl ⟨z, r.1, r.2, rfl⟩)⟩
  | tup ds =>
    simp only [lenOf, Option.some.injEq] at h; subst h
    obtain ⟨a, vs, e, hq, h2, z⟩ := rdS_ok (ds := ds) rp r rfl
    exact ⟨z, .inl ⟨a, vs, e, hq, h2.length⟩⟩
  | lst ds =>
    simp only [lenOf, Option.some.injEq] at h; subst h
    obtain ⟨a, vs, e, hq, h2, z⟩ := rdS_ok (ds := ds) rp r rfl
    exact ⟨z, .inl ⟨a, vs, e, hq, h2.length⟩⟩
  | scr ds =>
    simp only [lenOf, Option.some.injEq] at h; subst h
    obtain ⟨a, vs, e, hq, h2, z⟩ := rdS_ok (ds := ds) rp r rfl
    exact ⟨z, .inl ⟨a, vs, e, hq, h2.length⟩⟩
  | dct ks ds =>
    simp only [lenOf, Option.some.injEq] at h; subst h
    simp only [RD] at r
    obtain ⟨a, vs, e, h1, n, z, y, h2⟩ := r
    exact ⟨y, .inr (.inr (.inl ⟨a, _, e, h1, by rw [List.length_zip, ← h2.length, z]; simp⟩))⟩
  | ref m =>
    simp only [RD] at r
    obtain ⟨a, e, h1⟩ := r
    obtain ⟨o, e2, ro⟩ := rp.has h1
    simp only [lenOf, e2] at h
    cases o with
    | lst ds =>
      simp only [Option.some.injEq] at h; subst h
      obtain ⟨vs, h3, z, h4⟩ := ro
      exact ⟨z, .inl ⟨a, vs, e, .inl (.of h3), h4.length⟩⟩
    | dK ks ds =>
      simp only [Option.some.injEq] at h; subst h
      obtain ⟨vs, h3, z, y, h4⟩ := ro
      exact ⟨y, .inr (.inr (.inl ⟨a, _, e, .inl h3, by rw [List.length_zip, ← h4.length, z]; simp⟩))⟩
    | dT ks ds =>
      simp only [Option.some.injEq] at h; subst h
      obtain ⟨vs, h3, z, y, h4⟩ := ro
      exact ⟨y, .inr (.inr (.inr ⟨a, _, e, h3, by rw [List.length_zip, ← h4.length, z]; simp⟩))⟩
    | ins c fs ds => cases h
  | _ => cases h
theorem cLen_ok : CallD X (.builtin "len") cLen := by
  refine ⟨_, CallR.or call_len_seq (CallR.or call_len_str (CallR.or call_lenRd call_len_dT)), fun W ι S H xs dxs Q rp rx q => ?_⟩
  unfold cLen at q
  split at q
  · rename_i d
    obtain ⟨v, e, r⟩ := rds_one rx
    subst e
    split at q
    · rename_i n hn
      have q := q.here (b := V.int n) rp (by simp only [RD])
      obtain ⟨_, ⟨p, ys, e, hq, e2⟩ | ⟨z, e, hz, e2⟩ | ⟨a, kvs, e, hq, e2⟩ | ⟨a, kvs, e, hq, e2⟩⟩ := lenOf_ok rp r hn
      · subst e e2; exact .inl ⟨p, ys, rfl, hq, q⟩
      · subst e e2; exact .inr (.inl ⟨z, rfl, hz, q⟩)
      · subst e e2; exact .inr (.inr (.inl ⟨a, kvs, rfl, hq, q⟩))
      · subst e e2; exact .inr (.inr (.inr ⟨a, kvs, rfl, hq, q⟩))
    · exact q.elim
  · exact q.elim
/-- for .. in range(len(e)) -/
theorem di_rangeLen {q r s : Pos} (hg : Gl X "range") (hm : X.mg "range" = none) (hg2 : Gl X "len") (hm2 : X.mg "len" = none) (ha : DE X W a ma) (hs : starEach [.Call (.Name "len" p) [a] [] q] X.env = [(false, eval (.Call (.Name "len" p) [a] [] q) X.env)] := by rfl)
    (hs2 : starEach [a] X.env = [(false, eval a X.env)] := by rfl) (hpl : (backTo q (starEach [] X.env)).any (·.1) = false := by rfl) : DI X W tg (.Call (.Name "range" r) [.Call (.Name "len" p) [a] [] q] [] s) (sRangeLen ma) :=
  pi_imp (pi_range1 hg hm (pa_cons (pe_callB (CallR.or call_len_seq (CallR.or call_len_str (CallR.or call_lenRd call_len_dT))) hg2 hm2 boot_len (pa_cons ha pa_nil hs2) (he := hs2) (hpl := hpl)) pa_nil hs) hs) fun σ H J h => t_bind h fun ι S δ d v H1 rp rs rd g => by
    split at g
    · rename_i n hn
      obtain ⟨hz, q⟩ := lenOf_ok rp rd hn
      have fin : ∃ j : Int, [V.int (n : Int)] = [V.int j] ∧ -(2 ^ 62) ≤ j ∧ j < 2 ^ 62 ∧ J (Itr 0 j.toNat) H1 := by
        have := sz62
        exact ⟨n, rfl, by omega, by omega, g.here rp (RIt.of_range (n := n) hz)⟩
      rcases q with ⟨p, ys, e, hq, e2⟩ | ⟨z, e, hz, e2⟩ | ⟨a, kvs, e, hq, e2⟩ | ⟨a, kvs, e, hq, e2⟩
      · subst e e2; exact .inl ⟨p, ys, rfl, hq, fin⟩
      · subst e e2; exact .inr (.inl ⟨z, rfl, hz, fin⟩)
      · subst e e2; exact .inr (.inr (.inl ⟨a, kvs, rfl, hq, fin⟩))
      · subst e e2; exact .inr (.inr (.inr ⟨a, kvs, rfl, hq, fin⟩))
    · exact g.elim
/-- list(x), tuple(x) -/
def cList (ds : List D) (S : Sto) : R D := match ds with
  | [d] => match rdS S d with
    | some es => .ok (.lst es) S
    | none => .stuck
  | _ => .stuck
theorem cList_ok : CallD X (.type "list") cList := by
  refine ⟨_, call_list_of, fun W ι S H xs dxs Q rp rx q => ?_⟩
  unfold cList at q
  split at q
  · rename_i d
    obtain ⟨v, e, r⟩ := rds_one rx
    subst e
    split at q
    · rename_i es hes
      obtain ⟨a, vs, e, hq, h2, z⟩ := rdS_ok rp r hes
      subst e
      exact ⟨a, vs, rfl, hq, fun p hp => q.at (Step.new hp) (rp.new hp) (rd_newLst rp h2 z hp)⟩
    · exact q.elim
  · exact q.elim
/-- .. a list that may be changed -/
def cListR (ds : List D) (S : Sto) : R D := match ds with
  | [d] => match rdS S d with
    | some es => .ok (.ref S.length) (S ++ [.lst es])
    | none => .stuck
  | _ => .stuck
theorem cListR_ok : CallD X (.type "list") cListR := by
  refine ⟨_, call_list_of, fun W ι S H xs dxs Q rp rx q => ?_⟩
  unfold cListR at q
  split at q
  · rename_i d
    obtain ⟨v, e, r⟩ := rds_one rx
    subst e
    split at q
    · rename_i es hes
      obtain ⟨a, vs, e, hq, h2, z⟩ := rdS_ok rp r hes
      subst e
      refine ⟨a, vs, rfl, hq, fun p hp => ?_⟩
      have q2 := rep_newRef (m := .lst es) (u := .lst vs) rp hp ⟨vs, upd_same, z, h2.mono (Step.newRef hp).up⟩
      exact q.at (Step.newRef hp) q2.1 q2.2
    · exact q.elim
  · exact q.elim
def cTuple (ds : List D) (S : Sto) : R D := match ds with
  | [d] => match rdS S d with
    | some es => .ok (.tup es) S
    | none => .stuck
  | _ => .stuck
theorem cTuple_ok : CallD X (.type "tuple") cTuple := by
  refine ⟨_, call_tupleF, fun W ι S H xs dxs Q rp rx q => ?_⟩
  unfold cTuple at q
  split at q
  · rename_i d
    obtain ⟨v, e, r⟩ := rds_one rx
    subst e
    split at q
    · rename_i es hes
      have lst : rdL S d = some es → ∃ p ys, [v] = [V.ref p] ∧ ((SqL X.K H p ys ∧ NewT H ys Q) ∨ (SqT X.K H p ys ∧ Q (.ref p) H)) := fun h => by
        obtain ⟨a, vs, e, hq, h2, z⟩ := rdL_ok rp r h
        subst e
        exact ⟨a, vs, rfl, .inl ⟨hq, fun p o dd hp => q.at (Step.new hp) (rp.new hp) (by simp only [RD]; exact ⟨p, vs, rfl, Tp.mk dd, z, h2.mono (Step.new hp).up⟩)⟩⟩
      cases d with
      | tup ds =>
        simp only [rdS, Option.some.injEq] at hes; subst hes
        have r' := r
        simp only [RD] at r
        obtain ⟨a, vs, e, h1, z, h2⟩ := r
        subst e
        exact ⟨a, vs, rfl, .inr ⟨h1.sq, q.here rp r'⟩⟩
      | lst ds => exact lst hes
      | scr ds => exact lst hes
      | ref ds => exact lst hes
      | _ => cases hes
    · exact q.elim
  · exact q.elim
/-- isinstance(x, T) of a built-in class -/
def tyN (S : Sto) : D → Option String
  | .non => some "NoneType" | .bl _ => some "bool" | .int _ => some "int" | .str _ => some "str"
  | .tup _ => some "tuple" | .lst _ => some "list" | .scr _ => some "list" | .dct _ _ => some "dict"
  | .ref n => match S[n]? with
    | some (.lst _) => some "list"
    | some (.dK _ _) => some "dict"
    | some (.dT _ _) => some "dict"
    | _ => none
def opIsi (T : String) (d : D) (S : Sto) : R D := match tyN S d with
  | some t => match kitB t T with
    | some k => .ok (.bl k) S
    | none => .stuck
  | none => .stuck
theorem tyN_ok {H : Hp} {ι : Z} {S : Sto} {d : D} {v : V} {t : String} (rp : Rep H ι X.ek S) (r : RD H ι d v) (h : tyN S d = some t) : TyX X.K H v (.type t) := by
  cases d with
  | non => simp only [tyN, Option.some.injEq] at h; subst h; simp only [RD] at r; subst r; exact .base .non
  | bl b => simp only [tyN, Option.some.injEq] at h; subst h; simp only [RD] at r; subst r; exact .base (.bl b)
  | int b => simp only [tyN, Option.some.injEq] at h; subst h; simp only [RD] at r; subst r; exact .base (.int b)
  | str b => simp only [tyN, Option.some.injEq] at h; subst h; simp only [RD] at r; rw [r.1]; exact .base (.str b)
  | tup ds =>
    simp only [tyN, Option.some.injEq] at h; subst h; simp only [RD] at r
    obtain ⟨a, vs, e, h1, _⟩ := r
    subst e; obtain ⟨o, h1, _⟩ := h1; exact .fTuple h1
  | lst ds =>
    simp only [tyN, Option.some.injEq] at h; subst h; simp only [RD] at r
    obtain ⟨a, vs, e, h1, _⟩ := r
    subst e; exact .base (.lst h1)
  | scr ds =>
    simp only [tyN, Option.some.injEq] at h; subst h; simp only [RD] at r
    obtain ⟨a, vs, e, h1, _⟩ := r
    subst e
    rcases h1 with ⟨o, h1⟩ | ⟨o, its, n, h1, h2, _⟩
    · exact .base (.frz h1)
    · rw [show ι.k = X.K from rp.kk] at h1
      exact .kList h1 h2
  | dct ks ds =>
    simp only [tyN, Option.some.injEq] at h; subst h; simp only [RD] at r
    obtain ⟨a, vs, e, h1, _⟩ := r
    subst e
    rcases h1 with h1 | ⟨o, h1⟩
    · exact .base (.dK h1)
    · exact .fDict h1
  | ref n =>
    simp only [RD] at r
    obtain ⟨a, e, h1⟩ := r
    subst e
    obtain ⟨o, e2, ro⟩ := rp.has h1
    simp only [tyN, e2] at h
    cases o with
    | lst ds => simp only [Option.some.injEq] at h; subst h; obtain ⟨vs, h3, _⟩ := ro; exact .base (.lst h3)
    | dK ks ds => simp only [Option.some.injEq] at h; subst h; obtain ⟨vs, h3, _⟩ := ro; exact .base (.dK h3)
    | dT ks ds => simp only [Option.some.injEq] at h; subst h; obtain ⟨vs, h3, _⟩ := ro; exact .base (.dT h3)
    | ins c fs ds => cases h
theorem de_isi {x : Str} {T : String} {q : Pos} (hg : Gl X "isinstance") (hm : X.mg "isinstance" = none) (ha : DE X W a ma) (hT : PE X (.Name x q) (tC (.ty T)))
    (hs : starEach [a, .Name x q] X.env = (false, eval a X.env) :: starEach [.Name x q] X.env := by rfl) (hs2 : starEach [.Name x q] X.env = [(false, eval (.Name x q) X.env)] := by rfl)
    (hpl : (backTo pos (starEach [.Name x q] X.env)).any (·.1) = false := by rfl) : DE X W (.Call (.Name "isinstance" p) [a, .Name x q] [] pos) (mU (opIsi T) ma) :=
  pe_imp (pe_callB call_isi hg hm (by decide +kernel) (pa_cons ha (pa_cons hT pa_nil hs2) hs) (he := hs) (hpl := hpl)) fun σ H Q h => t_bind h fun ι S δ d v H1 rp rs rd g => by
    unfold opIsi at g
    split at g
    · rename_i t ht
      split at g
      · rename_i k hk
        exact ⟨v, .ty T, .type t, .type T, k, rfl, .ty T, tyN_ok rp rd ht, kit_ty hk, g.here rp (by simp only [RD])⟩
      · exact g.elim
    · exact g.elim
/-! ### methods of built-in types -/
def mMt (chk : Sto → D → Bool) (c : D → List D → Sto → R D) (o : Em) (a : Am) : Em := fun δ S => (o δ S).bind fun x S1 => if chk S1 x = true then (a δ S1).bind fun xs S2 => c x xs S2 else .stuck
def isLst (S : Sto) (d : D) : Bool := (rdL S d).isSome
def MtD (X : Cx) (id : String) (c : D → List D → Sto → R D) : Prop :=
  ∃ r, MtR X id r ∧ ∀ (W : XK) (ι : Z) (S : Sto) (H : Hp) (x : V) (xs : List V) (dx : D) (dxs : List D) (Q : VK), Rep H ι X.ek S → RD H ι dx x → RDs H ι dxs xs → G X.ek W ι H RD (c dx dxs S) Q → r x xs H Q
theorem de_mlist {name : Str} {id : String} {c : D → List D → Sto → R D} (slot : Slot "list" name id) (hty : typeOf (.builtin id) = pure (.type "method_descriptor")) (hm : MtD X id c) (ho : DE X W o mo) (ha : DA X W (e :: es) am)
    (hbase : attributeBase o name X.env (eval o X.env) = eval o X.env := by rfl)
    (hfew : ((backTo p (starEach (e :: es) X.env)).all (fun x => !x.1) && (backToKw p (keywordEach [] X.env)).all (fun x => x.1.isSome)
      && decide ((e :: es).length + ([] : List Keyword).length + (if ([] : List Keyword).isEmpty then 0 else 1) < 30)) = true := by rfl)
    (hline : (apos.endLine == p.line) = true := by rfl) (hs : starEach (e :: es) X.env = (false, eval e X.env) :: starEach es X.env := by rfl) (hplain : (backTo p (starEach es X.env)).any (·.1) = false := by rfl) :
    DE X W (.Call (.Attribute o name apos) (e :: es) [] p) (mMt isLst c mo am) := by
  obtain ⟨r, hr, k⟩ := hm
  exact pe_imp (pe_bm PySem.F.plainAttrs_list slot hty hr ho ha hbase hfew hline hs hplain) fun σ H Q h => t_bind h fun ι S δ d v H1 rp rs rd g => by
    split at g
    · rename_i hl
      unfold isLst at hl
      cases hd : rdL S d with
      | none => rw [hd] at hl; cases hl
      | some ds =>
        obtain ⟨a, vs, e, h1, h2, z⟩ := rdL_ok rp rd hd
        refine ⟨by subst e; exact .inl ⟨rfl, vs, h1⟩, ι, S, δ, rp, rs, (G.bind g).imp fun xs H2 ⟨ι2, S2, ds2, st2, rp2, rd2, g2⟩ => k _ ι2 S2 H2 v xs d ds2 Q rp2 (rd.mono st2.up) rd2 g2⟩
    · exact g.elim
def cAppend (x : D) (ds : List D) (S : Sto) : R D := match x, ds with
  | .ref n, [d] => match S[n]? with
    | some (.lst es) => if es.length < sizeLine then .ok .non (S.set n (.lst (es ++ [d]))) else .stuck
    | _ => .stuck
  | _, _ => .stuck
theorem cAppend_ok : MtD X "list.append" cAppend := by
  refine ⟨_, mt_append, fun W ι S H x xs dx dxs Q rp rx rs q => ?_⟩
  unfold cAppend at q
  split at q
  · rename_i n d
    obtain ⟨v, e, r⟩ := rds_one rs
    subst e
    simp only [RD] at rx
    obtain ⟨a, e, h1⟩ := rx
    obtain ⟨o, e2, ro⟩ := rp.has h1
    simp only [e2] at q
    cases o with
    | lst es =>
      obtain ⟨vs, h3, hz, h4⟩ := ro
      dsimp only at q
      split at q
      · rename_i hlt
        have st : Lift ι H ι (upd H a (.lst (vs ++ [v]))) := Lift.write (.inl (List.mem_of_getElem? h1)) (fun _ e' => by rw [h3] at e'; cases e'; exact .intro (fun _ _ q => nomatch q) (fun _ _ q => nomatch q))
        obtain ⟨rp2, st2⟩ := rp.write (m := .lst (es ++ [d])) (o := .lst (vs ++ [v])) h1 (.intro (fun _ _ q => nomatch q) (fun _ _ q => nomatch q)) ⟨_, upd_same, by simp; omega, (h4.mono st).app (.cons (r.mono st) .nil)⟩
        exact ⟨a, vs, v, e, rfl, h3, by rw [← h4.length]; exact hlt, q.at st2 rp2 (by simp only [RD])⟩
      · exact q.elim
    | _ => exact q.elim
  · exact q.elim
def cExtend (x : D) (ds : List D) (S : Sto) : R D := match x, ds with
  | .ref n, [d] => match S[n]?, asL S d with
    | some (.lst es), some fs => if es.length + fs.length ≤ sizeLine then .ok .non (S.set n (.lst (es ++ fs))) else .stuck
    | _, _ => .stuck
  | _, _ => .stuck
theorem cExtend_ok : MtD X "list.extend" cExtend := by
  refine ⟨_, mt_extend, fun W ι S H x xs dx dxs Q rp rx rs q => ?_⟩
  unfold cExtend at q
  split at q
  · rename_i n d
    obtain ⟨v, e, r⟩ := rds_one rs
    subst e
    simp only [RD] at rx
    obtain ⟨a, e, h1⟩ := rx
    obtain ⟨o, e2, ro⟩ := rp.has h1
    split at q
    · rename_i es fs h5 hfs
      rw [e2] at h5
      cases h5
      obtain ⟨vs, h3, hz, h4⟩ := ro
      obtain ⟨b, ws, eb, h6, h7, _⟩ := asL_ok rp r hfs
      subst eb
      split at q
      · rename_i hlt
        have st : Lift ι H ι (upd H a (.lst (vs ++ ws))) := Lift.write (.inl (List.mem_of_getElem? h1)) (fun _ e' => by rw [h3] at e'; cases e'; exact .intro (fun _ _ q => nomatch q) (fun _ _ q => nomatch q))
        obtain ⟨rp2, st2⟩ := rp.write (m := .lst (es ++ fs)) (o := .lst (vs ++ ws)) h1 (.intro (fun _ _ q => nomatch q) (fun _ _ q => nomatch q)) ⟨_, upd_same, by simp; omega, (h4.mono st).app (h7.mono st)⟩
        exact ⟨a, b, vs, ws, e, rfl, h3, h6, by rw [← h4.length, ← h7.length]; exact hlt, q.at st2 rp2 (by simp only [RD])⟩
      · exact q.elim
    · exact q.elim
  · exact q.elim
/-- sep.join(xs) -/
def strsOf : List D → Option (List Str)
  | [] => some []
  | .str s :: ds => (strsOf ds).map (s :: ·)
  | _ :: _ => none
theorem strsOf_ok {H : Hp} {ι : Z} : ∀ {ds : List D} {vs : List V} {ys : List Str}, RDs H ι ds vs → strsOf ds = some ys → vs = ys.map V.str
  | [], vs, ys, r, h => by simp only [strsOf, Option.some.injEq] at h; subst h; simp only [RDs] at r; exact r
  | d :: ds, vs, ys, r, h => by
    simp only [RDs] at r
    obtain ⟨v, w, e, r1, r2⟩ := r
    subst e
    cases d with
    | str s =>
      simp only [strsOf, Option.map_eq_some_iff] at h
      obtain ⟨zs, h2, e⟩ := h
      subst e
      simp only [RD] at r1
      rw [r1.1, strsOf_ok r2 h2]; rfl
    | _ => simp only [strsOf] at h; cases h
def opJoin (x y : D) (S : Sto) : R D := match x with
  | .str a => match rdS S y with
    | some ds => match strsOf ds with
      | some ys => if (ys.map (·.length)).sum + ys.length * a.length ≤ 16777216 ∧ (Txt.join a ys).length ≤ sizeLine then .ok (.str (Txt.join a ys)) S else .stuck
      | none => .stuck
    | none => .stuck
  | _ => .stuck
def mJoin (a b : Em) : Em := fun δ S => (a δ S).bind fun x S1 => match x with
  | .str _ => (b δ S1).bind fun y S2 => opJoin x y S2
  | _ => .stuck
theorem de_join (ho : DE X W o mo) (ha : DE X W a ma) (hs : starEach [a] X.env = [(false, eval a X.env)] := by rfl) (hbase : attributeBase o "join" X.env (eval o X.env) = eval o X.env := by rfl) (hline : (apos.endLine == pos.line) = true := by rfl) :
    DE X W (.Call (.Attribute o "join" apos) [a] [] pos) (mJoin mo ma) :=
  pe_imp (pe_join ho ha hs hbase hline) fun σ H Q h => t_bind h fun ι S δ d v H1 rp rs rd g => by
    cases d with
    | str z =>
      simp only [RD] at rd
      refine ⟨⟨z, rd.1⟩, ι, S, δ, rp, rs, (G.bind g).imp fun y H2 ⟨ι2, S2, dy, st2, rp2, rd2, g2⟩ => ?_⟩
      unfold opJoin at g2
      dsimp only at g2
      split at g2
      · rename_i ds hds
        obtain ⟨p, vs, e, hq, h2, hz⟩ := rdS_ok rp2 rd2 hds
        split at g2
        · rename_i ys hys
          have e2 := strsOf_ok h2 hys
          subst e2
          split at g2
          · rename_i hc
            exact ⟨z, p, ys, rd.1, by rw [e], hq, hc.1, g2.here rp2 (by simp only [RD]; exact ⟨trivial, hc.2⟩)⟩
          · exact g2.elim
        · exact g2.elim
      · exact g2.elim
    | _ => exact g.elim
end
end PM

/-! PM, part 10: chains, all, any, sum, a module's constants, a law's end -/
namespace PM
open PySem PySem.Spec L2 PyProof.Rows
section
variable {X : Cx} {W : WX} {a b c e o : Expr} {es : List Expr} {pos p p2 apos : Pos} {ma mb mc mo : Em} {am : Am}
theorem chain_imp {f g : D → D → Sto → R D} {r r' : R2} (k : ∀ (W : XK) (ι : Z) (S : Sto) (H : Hp) (x y : V) (dx dy : D) (Q : VK), Rep H ι X.ek S → RD H ι dx x → RD H ι dy y → G X.ek W ι H RD (f dx dy S) Q → r x y H Q)
    (k' : ∀ (W : XK) (ι : Z) (S : Sto) (H : Hp) (x y : V) (dx dy : D) (Q : VK), Rep H ι X.ek S → RD H ι dx x → RD H ι dy y → G X.ek W ι H RD (g dx dy S) Q → r' x y H Q) {σ : L2.St} {H : Hp} {Q : VK}
    (h : tDE X.ek W (mChain f g ma mb mc) σ H Q) : tChain r r' (tDE X.ek W ma) (tDE X.ek W mb) (tDE X.ek W mc) σ H Q := by
  refine t_bind h fun ι S δ d v H1 rp rs rd gg => ⟨ι, S, δ, rp, rs, (G.bind gg).imp fun v2 H2 ⟨ι2, S2, d2, st2, rp2, rd2, g2⟩ => ?_⟩
  refine k _ ι2 S2 H2 v v2 d d2 _ rp2 (rd.mono st2.up) rd2 ((G.bind g2).imp fun z H3 ⟨ι3, S3, dz, st3, rp3, rz, g3⟩ => ?_)
  cases dz with
  | bl kk =>
    refine ⟨kk, by simpa only [RD] using rz, ?_⟩
    cases kk with
    | true =>
      rw [if_pos rfl]
      exact ⟨ι3, S3, δ, rp3, rs.mono (st2.trans st3).up, (G.bind g3).imp fun v4 H4 ⟨ι4, S4, d4, st4, rp4, rd4, g4⟩ => k' _ ι4 S4 H4 v2 v4 d2 d4 _ rp4 (rd2.mono (st3.trans st4).up) rd4 g4⟩
    | false =>
      rw [if_neg Bool.false_ne_true]
      exact g3.here rp3 (by simp only [RD])
  | _ => exact g3.elim
theorem de_chain {op op' : CmpOp} {f g : D → D → Sto → R D} (ho : OpD X (compareOp op) f) (ho' : OpD X (compareOp op') g) (ha : DE X W a ma) (hb : DE X W b mb) (hc : DE X W c mc)
    (hm : lastMarks [op, op'] [b, c] = false := by with_unfolding_all rfl) : DE X W (.Compare a [op, op'] [b, c] pos) (mChain f g ma mb mc) := by
  obtain ⟨r, hr, k⟩ := ho
  obtain ⟨r', hr', k'⟩ := ho'
  exact pe_imp (pe_chain hr hr' ha hb hc hm) fun σ H Q h => chain_imp k k' h
theorem dt_chain {op op' : CmpOp} {f g : D → D → Sto → R D} (ho : OpD X (compareOp op) f) (ho' : OpD X (compareOp op') g) (ha : DE X W a ma) (hb : DE X W b mb) (hc : DE X W c mc)
    (hm : lastMarks [op, op'] [b, c] = false := by with_unfolding_all rfl) : DT X W (.Compare a [op, op'] [b, c] pos) (mT (mChain f g ma mb mc)) := by
  obtain ⟨r, hr, k⟩ := ho
  obtain ⟨r', hr', k'⟩ := ho'
  exact pt_imp (pt_chain hr hr' ha hb hc hm) fun σ H Q h => chain_imp (Q := fun x H' => ∃ k, x = .bl k ∧ Q k H') k k' (t_of h)
/-! ### all, any, sum -/
def blsOf : List D → Option (List Bool)
  | [] => some []
  | .bl b :: ds => (blsOf ds).map (b :: ·)
  | _ :: _ => none
def intsOf : List D → Option (List Int)
  | [] => some []
  | .int b :: ds => (intsOf ds).map (b :: ·)
  | _ :: _ => none
theorem blsOf_ok {H : Hp} {ι : Z} : ∀ {ds : List D} {vs : List V} {ys : List Bool}, RDs H ι ds vs → blsOf ds = some ys → vs = ys.map V.bl
  | [], vs, ys, r, h => by simp only [blsOf, Option.some.injEq] at h; subst h; simp only [RDs] at r; exact r
  | d :: ds, vs, ys, r, h => by
    simp only [RDs] at r
    obtain ⟨v, w, e, r1, r2⟩ := r
    subst e
    cases d with
    | bl s =>
      simp only [blsOf, Option.map_eq_some_iff] at h
      obtain ⟨zs, h2, e⟩ := h
      subst e
      simp only [RD] at r1
      rw [r1, blsOf_ok r2 h2]; rfl
    | _ => simp only [blsOf] at h; cases h
theorem intsOf_ok {H : Hp} {ι : Z} : ∀ {ds : List D} {vs : List V} {ys : List Int}, RDs H ι ds vs → intsOf ds = some ys → vs = ys.map V.int
  | [], vs, ys, r, h => by simp only [intsOf, Option.some.injEq] at h; subst h; simp only [RDs] at r; exact r
  | d :: ds, vs, ys, r, h => by
    simp only [RDs] at r
    obtain ⟨v, w, e, r1, r2⟩ := r
    subst e
    cases d with
    | int s =>
      simp only [intsOf, Option.map_eq_some_iff] at h
      obtain ⟨zs, h2, e⟩ := h
      subst e
      simp only [RD] at r1
      rw [r1, intsOf_ok r2 h2]; rfl
    | _ => simp only [intsOf] at h; cases h
def cBls (f : List Bool → Bool) (ds : List D) (S : Sto) : R D := match ds with
  | [d] => match rdL S d with
    | some es => match blsOf es with
      | some bs => .ok (.bl (f bs)) S
      | none => .stuck
    | none => .stuck
  | _ => .stuck
abbrev cAll : List D → Sto → R D := cBls fun bs => bs.all id
abbrev cAny : List D → Sto → R D := cBls fun bs => bs.any id
def cSum (ds : List D) (S : Sto) : R D := match ds with
  | [d] => match rdL S d with
    | some es => match intsOf es with
      | some bs => .ok (.int bs.sum) S
      | none => .stuck
    | none => .stuck
  | _ => .stuck
theorem cAll_ok (hc : X.calm = true) : CallD X (.builtin "all") cAll := by
  refine ⟨_, cr_all hc, fun W ι S H xs dxs Q rp rx q => ?_⟩
  unfold cAll cBls at q
  split at q
  · obtain ⟨v, e, r⟩ := rds_one rx
    subst e
    split at q
    · rename_i es hes
      obtain ⟨a, vs, e, hq, h2, z⟩ := rdL_ok rp r hes
      subst e
      split at q
      · rename_i bs hbs
        rw [blsOf_ok h2 hbs] at hq
        exact ⟨a, bs, rfl, hq, q.here rp (by simp only [RD])⟩
      · exact q.elim
    · exact q.elim
  · exact q.elim
theorem cAny_ok (hc : X.calm = true) : CallD X (.builtin "any") cAny := by
  refine ⟨_, cr_any hc, fun W ι S H xs dxs Q rp rx q => ?_⟩
  unfold cAny cBls at q
  split at q
  · obtain ⟨v, e, r⟩ := rds_one rx
    subst e
    split at q
    · rename_i es hes
      obtain ⟨a, vs, e, hq, h2, z⟩ := rdL_ok rp r hes
      subst e
      split at q
      · rename_i bs hbs
        rw [blsOf_ok h2 hbs] at hq
        exact ⟨a, bs, rfl, hq, q.here rp (by simp only [RD])⟩
      · exact q.elim
    · exact q.elim
  · exact q.elim
theorem cSum_ok (hc : X.calm = true) : CallD X (.builtin "sum") cSum := by
  refine ⟨_, cr_sum hc, fun W ι S H xs dxs Q rp rx q => ?_⟩
  unfold cSum at q
  split at q
  · obtain ⟨v, e, r⟩ := rds_one rx
    subst e
    split at q
    · rename_i es hes
      obtain ⟨a, vs, e, hq, h2, z⟩ := rdL_ok rp r hes
      subst e
      split at q
      · rename_i bs hbs
        rw [intsOf_ok h2 hbs] at hq
        exact ⟨a, bs, rfl, hq, q.here rp (by simp only [RD])⟩
      · exact q.elim
    · exact q.elim
  · exact q.elim
/-! ### -n, a module's constants -/
def opNeg (x : D) (S : Sto) : R D := match x with
  | .int i => .ok (.int (-i)) S
  | _ => .stuck
theorem de_neg (ha : DE X W a ma) : DE X W (.UnaryOp .USub a pos) (mU opNeg ma) :=
  pe_imp (pe_un un_neg ha) fun σ H Q h => t_bind h fun ι S δ d v H1 rp rs rd g => by
    unfold opNeg at g
    split at g
    · simp only [RD] at rd
      exact ⟨_, rd, g.here rp (by simp only [RD])⟩
    · exact g.elim
theorem de_gint {x : Str} {i : Int} (hg : Gl X x) (hm : ∃ t, X.mg x = some (.int i t)) (hd : (x == ("__debug__" : Str)) = false := by decide) : DE X W (.Name x pos) (mC (.int i)) := by
  obtain ⟨t, hm⟩ := hm
  exact de_const (v := V.int i) (pe_glob hg hm ⟨t, rfl⟩ hd) fun _ _ => by simp only [RD]
theorem de_gstr {x i : Str} (hg : Gl X x) (hm : ∃ t, X.mg x = some (.str i t)) (hi : i.length ≤ sizeLine) (hd : (x == ("__debug__" : Str)) = false := by decide) : DE X W (.Name x pos) (mC (.str i)) := by
  obtain ⟨t, hm⟩ := hm
  exact de_const (v := V.str i) (pe_glob hg hm ⟨t, rfl⟩ hd) fun _ _ => by simp only [RD]; exact ⟨trivial, hi⟩
end
/-! ### a law's end -/
def spLaw (K : PySem.W.Frag) : Sp := fun vs H Q _ => ∃ (a : Addr) (ns : List Int), vs = [.ref a] ∧ Only H ∧ SqL K H a (ns.map V.int) ∧ ns.length ≤ 63 ∧ ∀ H', Q (.bl true) H'
theorem rds_ints {H : Hp} {ι : Z} : ∀ ns : List Int, RDs H ι (ns.map D.int) (ns.map V.int)
  | [] => .nil
  | n :: ns => .cons (by simp only [RD]) (rds_ints ns)
theorem law_fn {P : Program} {w : World} {K : PySem.W.Frag} {mg : Str → Option Value} {base : Heap} {k : Nat} {f : Addr} {fd : FuncData} {ps : List Str} {c : List D → Sto → R D} (F : FnOk P w K mg base (L2.CX P w) k f fd ps (spD ⟨mg, K⟩ 1 c))
    (h : ∀ ns : List Int, ns.length ≤ 63 → ∃ S', c [.scr (ns.map D.int)] [] = .ok (.bl true) S') : FnOk P w K mg base (L2.CX P w) k f fd ps (spLaw K) :=
  F.imp fun vs H Q E ⟨a, ns, e, ho, hs, hl, q⟩ => by
    subst e
    have hz : ns.length ≤ sizeLine := Nat.le_trans hl (by decide)
    have hr : (∃ o, H a = some (.frz o (.lst (ns.map V.int)))) ∨ KL K a (ns.map V.int) := by
      rcases hs with (hs | ⟨o, hs⟩) | hs
      · rcases ho a with n | ⟨o, xs, n⟩
        · rw [n] at hs; cases hs
        · rw [n] at hs; cases hs
      · exact .inl ⟨o, hs⟩
      · exact .inr hs
    obtain ⟨S', e⟩ := h ns hl
    refine ⟨rfl, ⟨[], [], K⟩, [], [.scr (ns.map D.int)], ⟨rfl, rfl, List.nodup_nil, (fun _ h => by cases h), (fun _ _ _ h => by cases h)⟩, .cons ?_ .nil, ?_⟩
    · simp only [RD]
      exact ⟨a, _, rfl, hr, by simpa using hz, rds_ints ns⟩
    · rw [e]
      intro ι' H' v st rp r
      have : v = .bl true := by simpa only [RD] using r
      subst this
      exact q H'
theorem walk {l : PySem.W.OpenLaw} {N : Nat} {x : Str} {q : Program} {loose : List Str} {XP : (Str → Option Value) → Heap → Prop} {YP : World → Heap → Prop} {d : DefRec} {K : Params → PySem.W.Frag} (hn : l.most = some 63) (hdf : d.params.defaults = []) (hr : Room N callerA)
    (hY : ∀ (w : World) (h : Heap), YP w h → (K w.params).In h)
    (F : ∀ (w : World) (mg : Str → Option Value) (fa : Addr) (h : Heap), (K w.params).In h → h.Ns mainGlobals mg → mg d.name = some (.ref fa) →
      ∃ fd : FuncData, (∀ (s : Shared) (u : Value), BindsTo s fd ⟨[u], []⟩ [(x, u)]) ∧ ∀ base : Heap, (K w.params).In base → base.Ns mainGlobals mg → FnOk l.prog w (K w.params) mg base (L2.CX l.prog w) N fa fd [x] (spLaw (K w.params))) :
    PySem.W.WalkO q loose XP YP l.row.toRowW d [] (fun f vs => PySem.call f vs) :=
  L2.walk_of (n := 63) (k := N) (x := x) (CX := fun w => L2.CX l.prog w) (sp := fun w => spLaw (K w.params)) hn (by decide) hdf hr hY F (fun _ _ a ns hl ho hS => ⟨a, ns, rfl, ho, hS, hl, fun _ => rfl⟩) fun _ _ _ _ _ z => by
    obtain ⟨_, _, _, _, _, _, _, _, _, _, _, _, z⟩ := z
    exact z.elim
end PM

/-! PM, part 11: the functions unfolded; loops and comprehensions by lemmas -/
namespace PM
open PySem L2
section
variable {δ : Loc} {S : Sto} {a b c o : Em} {t u : Tm} {r : Am} {s1 s2 : Sm} {d : D} {ds : List D}
@[simp] theorem mV_eq {i : Nat} : mV i δ S = match δ[i]? with | some (some d) => .ok d S | _ => .stuck := (rfl)
@[simp] theorem mC_eq : mC d δ S = .ok d S := (rfl)
@[simp] theorem mB_eq {op} : mB op a b δ S = (a δ S).bind fun x S1 => (b δ S1).bind fun y S2 => op x y S2 := (rfl)
@[simp] theorem mU_eq {op} : mU op a δ S = (a δ S).bind fun x S1 => op x S1 := (rfl)
@[simp] theorem mNil_eq : mNil δ S = .ok [] S := (rfl)
@[simp] theorem mCons_eq : mCons a r δ S = (a δ S).bind fun x S1 => (r δ S1).bind fun xs S2 => .ok (x :: xs) S2 := (rfl)
@[simp] theorem mApp_eq {f} : mApp f r δ S = (r δ S).bind fun xs S1 => f xs S1 := (rfl)
@[simp] theorem mIfE_eq : mIfE t a b δ S = (t δ S).bind fun k S1 => if k = true then a δ S1 else b δ S1 := (rfl)
@[simp] theorem mT_eq : mT a δ S = (a δ S).bind fun x S1 => match x with | .bl k => .ok k S1 | _ => .stuck := (rfl)
@[simp] theorem mAnd_eq : mAnd t u δ S = (t δ S).bind fun k S1 => if k = true then u δ S1 else .ok false S1 := (rfl)
@[simp] theorem mOr_eq : mOr t u δ S = (t δ S).bind fun k S1 => if k = true then .ok true S1 else u δ S1 := (rfl)
@[simp] theorem mNot_eq : mNot t δ S = (t δ S).bind fun k S1 => .ok (!k) S1 := (rfl)
@[simp] theorem mYes_eq : mYes δ S = .ok true S := (rfl)
@[simp] theorem mAndV_eq : mAndV a b δ S = (a δ S).bind fun x S1 => match x with | .bl true => b δ S1 | .bl false => .ok (.bl false) S1 | _ => .stuck := (rfl)
@[simp] theorem mOrV_eq : mOrV a b δ S = (a δ S).bind fun x S1 => match x with | .bl true => .ok (.bl true) S1 | .bl false => b δ S1 | _ => .stuck := (rfl)
@[simp] theorem mNotV_eq : mNotV a δ S = (a δ S).bind fun x S1 => match x with | .bl k => .ok (.bl (!k)) S1 | _ => .stuck := (rfl)
@[simp] theorem mChain_eq {f g} : mChain f g a b c δ S = (a δ S).bind fun x S1 => (b δ S1).bind fun y S2 => (f x y S2).bind fun k S3 => match k with
  | .bl true => (c δ S3).bind fun z S4 => g y z S4
  | .bl false => .ok (.bl false) S3
  | _ => .stuck := (rfl)
@[simp] theorem sSeq_eq : sSeq s1 s2 δ S = (s1 δ S).seq s2 := (rfl)
@[simp] theorem sPass_eq : sPass δ S = .nx δ S := (rfl)
@[simp] theorem sExpr_eq : sExpr a δ S = (a δ S).into δ fun _ S1 => .nx δ S1 := (rfl)
@[simp] theorem sRet_eq : sRet a δ S = (a δ S).into δ fun d S1 => .rt d S1 := (rfl)
@[simp] theorem sRetN_eq : sRetN δ S = .rt .non S := (rfl)
@[simp] theorem sIf_eq : sIf t s1 s2 δ S = (t δ S).into δ fun k S1 => if k = true then s1 δ S1 else s2 δ S1 := (rfl)
@[simp] theorem sAsg_eq {g} : sAsg a g δ S = (a δ S).into δ fun d S1 => (g d δ S1).into δ fun δ' S2 => .nx δ' S2 := (rfl)
@[simp] theorem gmName_eq {i : Nat} : gmName i d δ S = .ok (δ.set i (some d)) S := (rfl)
@[simp] theorem gmTup_eq {is : List Nat} : gmTup is (.tup ds) δ S = gmNames is ds δ S := (rfl)
@[simp] theorem gmNames_nil : gmNames [] [] δ S = .ok δ S := (rfl)
@[simp] theorem gmNames_cons {i : Nat} {is : List Nat} : gmNames (i :: is) (d :: ds) δ S = gmNames is ds (δ.set i (some d)) S := (rfl)
@[simp] theorem gmSub_eq {f} : gmSub a b f d δ S = (a δ S).bind fun x S1 => (b δ S1).bind fun y S2 => (f x y d S2).bind fun _ S3 => .ok δ S3 := (rfl)
@[simp] theorem mNo_eq : mNo δ S = .ok none S := (rfl)
@[simp] theorem mPt_eq : mPt a δ S = (a δ S).bind fun x S1 => match x with | .int i => .ok (some i) S1 | _ => .stuck := (rfl)
@[simp] theorem mSl_eq {f} {lo hi : Om} : mSl f a lo hi δ S = (a δ S).bind fun x S1 => (lo δ S1).bind fun l S2 => (hi δ S2).bind fun u S3 => f x l u S3 := (rfl)
@[simp] theorem mMt_eq {chk c} : mMt chk c o r δ S = (o δ S).bind fun x S1 => if chk S1 x = true then (r δ S1).bind fun xs S2 => c x xs S2 else .stuck := (rfl)
@[simp] theorem mJoin_eq : mJoin a b δ S = (a δ S).bind fun x S1 => match x with | .str _ => (b δ S1).bind fun y S2 => opJoin x y S2 | _ => .stuck := (rfl)
@[simp] theorem sItems_eq : sItems a δ S = (a δ S).bind (β := List D × (Sto → Prop)) fun d S1 => match d with
  | .lst ds => .ok (ds, fun _ => True) S1
  | .scr ds => .ok (ds, fun _ => True) S1
  | .tup ds => .ok (ds, fun _ => True) S1
  | .str s => .ok (s.cps.toList.map (fun c => .str ⟨#[c]⟩), fun _ => True) S1
  | .ref n => match S1[n]? with
    | some (.lst ds) => .ok (ds, fun S => S[n]? = some (.lst ds)) S1
    | _ => .stuck
  | _ => .stuck := (rfl)
@[simp] theorem sRange1_eq : sRange1 a δ S = (a δ S).bind (β := List D × (Sto → Prop)) fun d S1 => match d with
  | .int j => if limR 0 j = true then .ok (rangeD 0 j.toNat, fun _ => True) S1 else .stuck
  | _ => .stuck := (rfl)
@[simp] theorem sRangeLen_eq : sRangeLen a δ S = (a δ S).bind (β := List D × (Sto → Prop)) fun d S1 => match lenOf d S1 with
  | some n => .ok (rangeD 0 n, fun _ => True) S1
  | none => .stuck := (rfl)
def loopB (g : Gm) (s : Sm) : D → Sm := fun x δ S => (g x δ S).into δ s
theorem loopB_eq {g s} {x : D} : loopB g s x δ S = (g x δ S).into δ s := rfl
@[simp] theorem sFor_eq {src g s} : sFor src g s δ S = (src δ S).into δ fun p S1 => loopM p.2 (loopB g s) p.1 δ S1 := (rfl)
@[simp] theorem mComp_eq {src g vs} : mComp src g t a vs δ S = (src δ S).bind fun p S1 => compM p.2 g t a (wipeD δ vs) [] p.1 S1 := (rfl)
@[simp] theorem lenOf_lst : lenOf (.lst ds) S = some ds.length := (rfl)
@[simp] theorem lenOf_tup : lenOf (.tup ds) S = some ds.length := (rfl)
@[simp] theorem lenOf_scr : lenOf (.scr ds) S = some ds.length := (rfl)
@[simp] theorem lenOf_str {s} : lenOf (.str s) S = some s.length := (rfl)
@[simp] theorem cLen_eq : cLen [d] S = match lenOf d S with | some n => .ok (.int n) S | none => .stuck := (rfl)
end
/-! ### loops that leave the objects -/
section
variable {grd : Sto → Prop} {g : Gm} {t : Tm} {e : Em} {δ : Loc} {S : Sto}
theorem compM_nil {acc : List D} (h : grd S) : compM grd g t e δ acc [] S = .ok (.lst acc) S := by
  rw [compM, if_pos h]
theorem compM_cons {acc xs : List D} {x : D} (h : grd S) : compM grd g t e δ acc (x :: xs) S = (g x δ S).quiet.bind fun δ' S1 => (t δ' S1).quiet.bind fun k S2 =>
    if k = true then (e δ' S2).quiet.bind fun y S3 => compM grd g t e δ (acc ++ [y]) xs S3 else compM grd g t e δ acc xs S2 := by
  rw [compM, if_pos h]
theorem comp_pure (f : D → D) (hg : grd S) : ∀ (ds acc : List D), (∀ x ∈ ds, ∃ δ', g x δ S = .ok δ' S ∧ t δ' S = .ok true S ∧ e δ' S = .ok (f x) S) → compM grd g t e δ acc ds S = .ok (.lst (acc ++ ds.map f)) S
  | [], acc, _ => by rw [compM_nil hg]; simp
  | x :: ds, acc, h => by
    obtain ⟨δ', h1, h2, h3⟩ := h x (by simp)
    rw [compM_cons hg, h1]
    simp only [R.quiet_ok, R.bind_ok, h2, h3, if_pos]
    rw [comp_pure f hg ds _ fun y hy => h y (by simp [hy])]
    simp
theorem comp_filt (p : D → Bool) (f : D → D) (hg : grd S) : ∀ (ds acc : List D), (∀ x ∈ ds, ∃ δ', g x δ S = .ok δ' S ∧ t δ' S = .ok (p x) S ∧ (p x = true → e δ' S = .ok (f x) S)) → compM grd g t e δ acc ds S = .ok (.lst (acc ++ (ds.filter p).map f)) S
  | [], acc, _ => by rw [compM_nil hg]; simp
  | x :: ds, acc, h => by
    obtain ⟨δ', h1, h2, h3⟩ := h x (by simp)
    rw [compM_cons hg, h1]
    simp only [R.quiet_ok, R.bind_ok, h2]
    by_cases hp : p x = true
    · rw [if_pos hp, h3 hp]
      simp only [R.quiet_ok, R.bind_ok]
      rw [comp_filt p f hg ds _ fun y hy => h y (by simp [hy]), List.filter_cons_of_pos hp]
      simp
    · rw [if_neg hp, comp_filt p f hg ds _ fun y hy => h y (by simp [hy]), List.filter_cons_of_neg hp]
/-- a comprehension over a mapped list -/
theorem comp_map {α : Type} (i : α → D) (f : α → D) (hg : grd S) (xs : List α) (acc : List D) (h : ∀ x ∈ xs, ∃ δ', g (i x) δ S = .ok δ' S ∧ t δ' S = .ok true S ∧ e δ' S = .ok (f x) S) :
    compM grd g t e δ acc (xs.map i) S = .ok (.lst (acc ++ xs.map f)) S := by
  induction xs generalizing acc with
  | nil => rw [List.map_nil, compM_nil hg]; simp
  | cons x xs ih =>
    obtain ⟨δ', h1, h2, h3⟩ := h x (by simp)
    rw [List.map_cons, compM_cons hg, h1]
    simp only [R.quiet_ok, R.bind_ok, h2, h3, if_pos]
    rw [ih _ fun y hy => h y (by simp [hy])]
    simp
end
/-- a loop by what holds behind each turn -/
theorem loop_inv {b : D → Sm} (I : Nat → Loc → Sto → Prop) : ∀ (ds : List D) (n : Nat) (δ : Loc) (S : Sto), I n δ S →
    (∀ i x δ S, ds[i]? = some x → I (n + i) δ S → ∃ δ' S', (b x δ S = .nx δ' S' ∨ b x δ S = .ct δ' S') ∧ I (n + i + 1) δ' S') → ∃ δ' S', loopM (fun _ => True) b ds δ S = .nx δ' S' ∧ I (n + ds.length) δ' S'
  | [], n, δ, S, h0, _ => ⟨δ, S, by rw [loopM, if_pos trivial], h0⟩
  | x :: ds, n, δ, S, h0, hs => by
    obtain ⟨δ1, S1, h1, h2⟩ := hs 0 x δ S rfl h0
    have e : loopM (fun _ => True) b (x :: ds) δ S = loopM (fun _ => True) b ds δ1 S1 := by
      rw [loopM, if_pos trivial]
      rcases h1 with h1 | h1 <;> rw [h1]
    obtain ⟨δ2, S2, h3, h4⟩ := loop_inv I ds (n + 1) δ1 S1 h2 fun i y δ S hy hI => by
      have := hs (i + 1) y δ S (by simpa using hy) (by rw [show n + (i + 1) = n + 1 + i by omega]; exact hI)
      rwa [show n + (i + 1) + 1 = n + 1 + i + 1 by omega] at this
    exact ⟨δ2, S2, by rw [e]; exact h3, by rw [List.length_cons, show n + (ds.length + 1) = n + 1 + ds.length by omega]; exact h4⟩
/-- the same, the loop's end given a name: «generalize hL : loopM _ _ _ _ _ = r» -/
theorem loop_of {b : D → Sm} {ds : List D} {δ : Loc} {S : Sto} {r : RS} (hL : loopM (fun _ => True) b ds δ S = r) (I : Nat → Loc → Sto → Prop) (h0 : I 0 δ S)
    (hs : ∀ i x δ S, ds[i]? = some x → I i δ S → ∃ δ' S', (b x δ S = .nx δ' S' ∨ b x δ S = .ct δ' S') ∧ I (i + 1) δ' S') : ∃ δ' S', r = .nx δ' S' ∧ I ds.length δ' S' := by
  obtain ⟨δ', S', h1, h2⟩ := loop_inv I ds 0 δ S h0 fun i x δ S hx hI => by
    have := hs i x δ S hx (by rwa [Nat.zero_add] at hI)
    rwa [Nat.zero_add]
  exact ⟨δ', S', hL.symm.trans h1, by rwa [Nat.zero_add] at h2⟩
/-- .. where a turn may also return -/
theorem loop_ret {b : D → Sm} {ds : List D} {δ : Loc} {S : Sto} {r : RS} (hL : loopM (fun _ => True) b ds δ S = r) (I : Nat → Loc → Sto → Prop) (E : RS → Prop) (h0 : I 0 δ S)
    (hs : ∀ i x δ S, ds[i]? = some x → I i δ S → (∃ δ' S', (b x δ S = .nx δ' S' ∨ b x δ S = .ct δ' S') ∧ I (i + 1) δ' S') ∨ (∃ d S', b x δ S = .rt d S' ∧ E (.rt d S')) ∨ (∃ δ' S', b x δ S = .bk δ' S' ∧ E (.nx δ' S')) ∨ (∃ c δ' S', b x δ S = .exc c δ' S' ∧ E (.exc c δ' S'))) : (∃ δ' S', r = .nx δ' S' ∧ I ds.length δ' S') ∨ E r := by
  subst hL
  suffices H : ∀ (ds : List D) (n : Nat) (δ : Loc) (S : Sto), I n δ S → (∀ i x δ S, ds[i]? = some x → I (n + i) δ S → (∃ δ' S', (b x δ S = .nx δ' S' ∨ b x δ S = .ct δ' S') ∧ I (n + i + 1) δ' S') ∨ (∃ d S', b x δ S = .rt d S' ∧ E (.rt d S')) ∨ (∃ δ' S', b x δ S = .bk δ' S' ∧ E (.nx δ' S')) ∨ (∃ c δ' S', b x δ S = .exc c δ' S' ∧ E (.exc c δ' S'))) →
      (∃ δ' S', loopM (fun _ => True) b ds δ S = .nx δ' S' ∧ I (n + ds.length) δ' S') ∨ E (loopM (fun _ => True) b ds δ S) by
    have := H ds 0 δ S h0 fun i x δ S hx hI => by
      have := hs i x δ S hx (by rwa [Nat.zero_add] at hI)
      rwa [Nat.zero_add]
    rwa [Nat.zero_add] at this
  intro ds
  induction ds with
  | nil => intro n δ S h0 _; exact .inl ⟨δ, S, by rw [loopM, if_pos trivial], h0⟩
  | cons x ds ih =>
    intro n δ S h0 hs
    rcases hs 0 x δ S rfl h0 with ⟨δ1, S1, h1, h2⟩ | ⟨d, S1, h1, h2⟩ | ⟨δ1, S1, h1, h2⟩ | ⟨c, δ1, S1, h1, h2⟩
    · have e : loopM (fun _ => True) b (x :: ds) δ S = loopM (fun _ => True) b ds δ1 S1 := by
        rw [loopM, if_pos trivial]
        rcases h1 with h1 | h1 <;> rw [h1]
      rw [e, List.length_cons, show n + (ds.length + 1) = n + 1 + ds.length by omega]
      refine ih (n + 1) δ1 S1 h2 fun i y δ S hy hI => ?_
      have := hs (i + 1) y δ S (by simpa using hy) (by rw [show n + (i + 1) = n + 1 + i by omega]; exact hI)
      rwa [show n + (i + 1) + 1 = n + 1 + i + 1 by omega] at this
    · exact .inr (by rw [loopM, if_pos trivial, h1]; exact h2)
    · exact .inr (by rw [loopM, if_pos trivial, h1]; exact h2)
    · exact .inr (by rw [loopM, if_pos trivial, h1]; exact h2)
/-- a comprehension whose elements change objects, by what holds behind each turn: out i is the i-th element -/
theorem comp_of {g : Gm} {t : Tm} {e : Em} {δ : Loc} {S : Sto} {ds : List D} {r : R D} (hL : compM (fun _ => True) g t e δ [] ds S = r) (I : List D → Sto → Prop) (h0 : I [] S)
    (hs : ∀ (i : Nat) x acc S, ds[i]? = some x → I acc S → ∃ δ' S1 k S2, g x δ S = .ok δ' S1 ∧ t δ' S1 = .ok k S2 ∧ (k = true → ∃ y S3, e δ' S2 = .ok y S3 ∧ I (acc ++ [y]) S3) ∧ (k = false → I acc S2)) : ∃ acc S', r = .ok (.lst acc) S' ∧ I acc S' := by
  subst hL
  suffices H : ∀ (ds acc : List D) (S : Sto), I acc S → (∀ (i : Nat) x acc S, ds[i]? = some x → I acc S → ∃ δ' S1 k S2, g x δ S = .ok δ' S1 ∧ t δ' S1 = .ok k S2 ∧ (k = true → ∃ y S3, e δ' S2 = .ok y S3 ∧ I (acc ++ [y]) S3) ∧ (k = false → I acc S2)) →
      ∃ acc' S', compM (fun _ => True) g t e δ acc ds S = .ok (.lst acc') S' ∧ I acc' S' from H ds [] S h0 hs
  intro ds
  induction ds with
  | nil => intro acc S h0 _; exact ⟨acc, S, compM_nil trivial, h0⟩
  | cons x ds ih =>
    intro acc S h0 hs
    obtain ⟨δ', S1, k, S2, h1, h2, h3, h4⟩ := hs 0 x acc S rfl h0
    rw [compM_cons trivial, h1]
    simp only [R.quiet_ok, R.bind_ok, h2]
    have hs' : ∀ (i : Nat) x acc S, ds[i]? = some x → I acc S → ∃ δ' S1 k S2, g x δ S = .ok δ' S1 ∧ t δ' S1 = .ok k S2 ∧ (k = true → ∃ y S3, e δ' S2 = .ok y S3 ∧ I (acc ++ [y]) S3) ∧ (k = false → I acc S2) := fun i y acc S hy hI => hs (i + 1) y acc S (by simpa using hy) hI
    cases k with
    | true =>
      obtain ⟨y, S3, h5, h6⟩ := h3 rfl
      rw [if_pos rfl, h5]
      simp only [R.quiet_ok, R.bind_ok]
      exact ih _ S3 h6 hs'
    | false =>
      rw [if_neg Bool.false_ne_true]
      exact ih _ S2 (h4 rfl) hs'
theorem rangeD_get' {lo : Int} {n i : Nat} {x : D} (h : (rangeD lo n)[i]? = some x) : i < n ∧ x = .int (lo + i) := by
  unfold rangeD at h
  rw [List.getElem?_map] at h
  have hi : i < n := by
    rcases Nat.lt_or_ge i n with h' | h'
    · exact h'
    · rw [List.getElem?_eq_none (by simpa using h')] at h; cases h
  rw [List.getElem?_range hi] at h
  exact ⟨hi, by simpa using h.symm⟩
@[simp] theorem rangeD_length {lo : Int} {n : Nat} : (rangeD lo n).length = n := by simp [rangeD]
theorem rangeD_map {n : Nat} : rangeD 0 n = (List.range n).map fun i => D.int ((i : Nat) : Int) := by simp [rangeD]
theorem limR_ok {i j : Int} (h : 0 ≤ i ∧ i ≤ 1000000 ∧ 0 ≤ j ∧ j ≤ 1000000) : limR i j = true := by
  have : (1000000 : Nat) ≤ sizeLine := by decide
  unfold limR lim62
  simp only [Bool.and_eq_true, decide_eq_true_eq]
  refine ⟨⟨⟨by omega, by omega⟩, by omega, by omega⟩, by omega⟩
/-! ### data without objects -/
mutual
theorem cl_mono {n m : Nat} (h : n ≤ m) : ∀ d : D, D.cl n d = true → D.cl m d = true
  | .non, _ => rfl
  | .bl _, _ => rfl
  | .int _, _ => rfl
  | .str _, _ => rfl
  | .tup ds, q => by simp only [D.cl] at q ⊢; exact cls_mono h ds q
  | .lst ds, q => by simp only [D.cl] at q ⊢; exact cls_mono h ds q
  | .scr ds, q => by simp only [D.cl] at q ⊢; exact cls_mono h ds q
  | .dct _ ds, q => by simp only [D.cl] at q ⊢; exact cls_mono h ds q
  | .ref k, q => by simp only [D.cl, decide_eq_true_eq] at q ⊢; omega
theorem cls_mono {n m : Nat} (h : n ≤ m) : ∀ ds : List D, D.cls n ds = true → D.cls m ds = true
  | [], _ => rfl
  | d :: ds, q => by
    simp only [D.cls, Bool.and_eq_true] at q ⊢
    exact ⟨cl_mono h d q.1, cls_mono h ds q.2⟩
end
mutual
theorem fz_cl {rc : List D → Option (List D)} {S : Sto} {n : Nat} : ∀ d : D, D.cl n d = true → fz rc S n d = some d
  | .non, _ => rfl
  | .bl _, _ => rfl
  | .int _, _ => rfl
  | .str _, _ => rfl
  | .tup ds, q => by simp only [D.cl] at q; simp only [fz, fzs_cl ds q]; rfl
  | .lst ds, q => by simp only [D.cl] at q; simp only [fz, fzs_cl ds q]; rfl
  | .scr ds, q => by simp only [D.cl] at q; simp only [fz, fzs_cl ds q]; rfl
  | .dct _ ds, q => by simp only [D.cl] at q; simp only [fz, fzs_cl ds q]; rfl
  | .ref k, q => by simp only [D.cl, decide_eq_true_eq] at q; simp only [fz, if_pos q]
theorem fzs_cl {rc : List D → Option (List D)} {S : Sto} {n : Nat} : ∀ ds : List D, D.cls n ds = true → fzs rc S n ds = some ds
  | [], _ => rfl
  | d :: ds, q => by
    simp only [D.cls, Bool.and_eq_true] at q
    simp only [fzs, fz_cl d q.1, fzs_cl ds q.2]; rfl
end
theorem frz_cl {S : Sto} {n k : Nat} {ds : List D} (h : D.cls n ds = true) : frz S n k ds = some ds := by
  cases k <;> exact fzs_cl ds h
theorem cls_all {n : Nat} {ds : List D} (h : ∀ d ∈ ds, D.cl n d = true) : D.cls n ds = true := by
  induction ds with
  | nil => rfl
  | cons d ds ih => simp only [D.cls, Bool.and_eq_true]; exact ⟨h d (by simp), ih fun x hx => h x (by simp [hx])⟩
theorem cls_map {α : Type} {n : Nat} {f : α → D} {xs : List α} (h : ∀ x ∈ xs, D.cl n (f x) = true) : D.cls n (xs.map f) = true :=
  cls_all fun d hd => by
    obtain ⟨x, hx, e⟩ := List.mem_map.mp hd
    rw [← e]; exact h x hx
theorem cls_app {n : Nat} {ds es : List D} (h : D.cls n ds = true) (g : D.cls n es = true) : D.cls n (ds ++ es) = true := by
  induction ds with
  | nil => exact g
  | cons d ds ih =>
    simp only [D.cls, List.cons_append, Bool.and_eq_true] at h ⊢
    exact ⟨h.1, ih h.2⟩
/-- a def whose new objects stand behind the old ones, and whose answer holds none -/
theorem finFrz_app {k : Nat} {S T : Sto} {d : D} (h : D.cl S.length d = true) : finFrz k S (.ok d (S ++ T)) = .ok d S := by
  unfold finFrz
  have e : frz (S ++ T) S.length k [d] = some [d] := frz_cl (by simp only [D.cls, h]; rfl)
  simp only [if_pos (ClS.app (S := S) (T := T)), e]
  rw [List.take_left]
/-- .. whose answer is its own new list -/
theorem finFrz_ref {k m : Nat} {S T : Sto} {ds : List D} (hm : S.length ≤ m) (hd : (S ++ T)[m]? = some (.lst ds)) (h : D.cls S.length ds = true) : finFrz (k + 1) S (.ok (.ref m) (S ++ T)) = .ok (.lst ds) S := by
  unfold finFrz
  have e : frz (S ++ T) S.length (k + 1) [.ref m] = some [.lst ds] := by
    show fzs (frz (S ++ T) S.length k) (S ++ T) S.length [.ref m] = _
    simp only [fzs, fz, if_neg (Nat.not_lt.mpr hm), hd, frz_cl h]; rfl
  simp only [if_pos (ClS.app (S := S) (T := T)), e]
  rw [List.take_left]
end PM

/-! PM, part 12: operators at their values -/
namespace PM
open PySem L2
@[simp] theorem ofString_inj {s t : String} : (Str.ofString s = Str.ofString t) ↔ s = t := by
  constructor
  · intro h
    rw [Str.ofString_eq_toList, Str.ofString_eq_toList] at h
    have h1 : (s.toList.map Char.toNat).toArray = (t.toList.map Char.toNat).toArray := by injection h
    have h2 : s.toList.map Char.toNat = t.toList.map Char.toNat := by simpa using h1
    have h3 : ∀ l r : List Char, l.map Char.toNat = r.map Char.toNat → l = r := by
      intro l
      induction l with
      | nil => intro r h; cases r with
        | nil => rfl
        | cons c r => simp at h
      | cons c l ih =>
        intro r h
        cases r with
        | nil => simp at h
        | cons d r =>
          simp only [List.map_cons, List.cons.injEq] at h
          have : c = d := by
            have h4 : c.val.toNat = d.val.toNat := h.1
            exact Char.ext (UInt32.toNat_inj.mp h4)
          rw [this, ih r h.2]
    exact String.toList_inj.mp (h3 _ _ h2)
  · intro h; rw [h]
section
variable {S : Sto} {i j : Int} {a b : Str} {ds es : List D} {d e : D} {n : Nat}
@[simp] theorem opAdd_int : opAdd (.int i) (.int j) S = .ok (.int (i + j)) S := (rfl)
@[simp] theorem opSub_int : opSub (.int i) (.int j) S = .ok (.int (i - j)) S := (rfl)
@[simp] theorem opLt_int : opLt (.int i) (.int j) S = .ok (.bl (decide (i < j))) S := (rfl)
@[simp] theorem opLe_int : opLe (.int i) (.int j) S = .ok (.bl (decide (i ≤ j))) S := (rfl)
@[simp] theorem opGt_int : opGt (.int i) (.int j) S = .ok (.bl (decide (j < i))) S := (rfl)
@[simp] theorem opGe_int : opGe (.int i) (.int j) S = .ok (.bl (decide (j ≤ i))) S := (rfl)
@[simp] theorem opNeg_int : opNeg (.int i) S = .ok (.int (-i)) S := (rfl)
theorem opMul_r (h : -18446744073709551616 < j ∧ j < 18446744073709551616) : opMul (.int i) (.int j) S = .ok (.int (i * j)) S := by
  show (if CMul i j then _ else _) = _
  rw [if_pos (.inr (by simpa using h))]
theorem opMul_l (h : -18446744073709551616 < i ∧ i < 18446744073709551616) : opMul (.int i) (.int j) S = .ok (.int (i * j)) S := by
  show (if CMul i j then _ else _) = _
  rw [if_pos (.inl (by simpa using h))]
theorem opMod_pos (h : 0 < j) : opMod (.int i) (.int j) S = .ok (.int (i % j)) S := by
  show (if 0 < j then _ else _) = _
  rw [if_pos h]
theorem opDiv_pos (h : 0 < j ∧ j < 1073741824) : opDiv (.int i) (.int j) S = .ok (.int (i / j)) S := by
  show (if CDiv i j then _ else _) = _
  rw [if_pos (show CDiv i j from h)]
theorem opPow_int (h : 0 ≤ j ∧ j ≤ 1000000 ∧ i.natAbs < 18446744073709551616) : opPow (.int i) (.int j) S = .ok (.int (i ^ j.toNat)) S := by
  show (if CPow i j then _ else _) = _
  rw [if_pos (by unfold CPow; simpa using h)]
theorem opAdd_str (h : a.length + b.length ≤ sizeLine) : opAdd (.str a) (.str b) S = .ok (.str (a ++ b)) S := by
  show (if _ then _ else _) = _
  rw [if_pos h]
theorem opAdd_tup (h : ds.length + es.length ≤ sizeLine) : opAdd (.tup ds) (.tup es) S = .ok (.tup (ds ++ es)) S := by
  show newTup _ _ = _
  unfold newTup
  rw [if_pos (by simpa using h)]
theorem opAdd_lst (h : ds.length + es.length ≤ sizeLine) : opAdd (.lst ds) (.lst es) S = .ok (.lst (ds ++ es)) S := by
  show newLst _ _ = _
  unfold newLst
  rw [if_pos (by simpa using h)]
theorem opAdd_refl (hn : S[n]? = some (.lst ds)) (h : ds.length + es.length ≤ sizeLine) : opAdd (.ref n) (.lst es) S = .ok (.lst (ds ++ es)) S := by
  simp only [opAdd, asL, hn]
  unfold newLst
  rw [if_pos (by simpa using h)]
theorem opAddR_refl (hn : S[n]? = some (.lst ds)) (h : ds.length + es.length ≤ sizeLine) : opAddR (.ref n) (.lst es) S = .ok (.ref S.length) (S ++ [.lst (ds ++ es)]) := by
  simp only [opAddR, asL, hn]
  unfold newRef
  rw [if_pos (by simpa using h)]
@[simp] theorem opEq_str : opEq (.str a) (.str b) S = .ok (.bl (decide (a = b))) S := (rfl)
@[simp] theorem opEq_int : opEq (.int i) (.int j) S = .ok (.bl (decide (i = j))) S := (rfl)
@[simp] theorem opNe_str : opNe (.str a) (.str b) S = .ok (.bl (!decide (a = b))) S := (rfl)
@[simp] theorem opNe_int : opNe (.int i) (.int j) S = .ok (.bl (!decide (i = j))) S := (rfl)
@[simp] theorem opEq_bl {x y : Bool} : opEq (.bl x) (.bl y) S = .ok (.bl (decide (x = y))) S := (rfl)
@[simp] theorem opNe_bl {x y : Bool} : opNe (.bl x) (.bl y) S = .ok (.bl (!decide (x = y))) S := (rfl)
@[simp] theorem opIsN_non : opIsN d .non S = .ok (.bl (isNon d)) S := (rfl)
@[simp] theorem opNotN_non : opNotN d .non S = .ok (.bl (!isNon d)) S := (rfl)
theorem opEq_of {k : Bool} (h : eqD S d e = some k) : opEq d e S = .ok (.bl k) S := by unfold opEq; rw [h]
theorem opNe_of {k : Bool} (h : eqD S d e = some k) : opNe d e S = .ok (.bl (!k)) S := by unfold opNe; rw [h]
/-! subscripts -/
@[simp] theorem atI_cast {α : Type} (xs : List α) (k : Nat) : atI xs (k : Int) = xs[k]? := by
  unfold atI ixN
  rw [if_pos (by omega)]
  by_cases h : k < xs.length
  · rw [if_pos (by omega)]; simp
  · rw [if_neg (by omega), List.getElem?_eq_none (by omega)]; rfl
@[simp] theorem atI_0 {α : Type} (xs : List α) : atI xs 0 = xs[0]? := atI_cast xs 0
@[simp] theorem atI_1 {α : Type} (xs : List α) : atI xs 1 = xs[1]? := atI_cast xs 1
@[simp] theorem atI_2 {α : Type} (xs : List α) : atI xs 2 = xs[2]? := atI_cast xs 2
@[simp] theorem atI_3 {α : Type} (xs : List α) : atI xs 3 = xs[3]? := atI_cast xs 3
theorem atI_of {α : Type} (xs : List α) (h : 0 ≤ i) : atI xs i = xs[i.toNat]? := by
  obtain ⟨k, rfl⟩ : ∃ k : Nat, i = k := ⟨i.toNat, by omega⟩
  rw [atI_cast]; rfl
def at1 (o : Option D) (S : Sto) : R D := match o with
  | some d => .ok d S
  | none => .stuck
@[simp] theorem at1_some : at1 (some d) S = .ok d S := (rfl)
@[simp] theorem at1_none : at1 none S = .stuck := (rfl)
@[simp] theorem opIx_lst : opIx (.lst ds) (.int i) S = at1 (atI ds i) S := (rfl)
@[simp] theorem opIx_tup : opIx (.tup ds) (.int i) S = at1 (atI ds i) S := (rfl)
@[simp] theorem opIx_scr : opIx (.scr ds) (.int i) S = at1 (atI ds i) S := (rfl)
theorem opIx_ref (h : S[n]? = some (.lst ds)) : opIx (.ref n) (.int i) S = at1 (atI ds i) S := by
  simp only [opIx, dget, dkOf, dtOf, h, rdS, rdL, asL]; rfl
theorem opIx_str : opIx (.str a) (.int i) S = match atI a.cps.toList i with | some c => .ok (.str ⟨#[c]⟩) S | none => .stuck := rfl
@[simp] theorem ixN_0 (m : Nat) : ixN (m + 1) 0 = some 0 := by
  unfold ixN; rw [if_pos (by omega), if_pos (by omega)]; rfl
@[simp] theorem ixN_1 (m : Nat) : ixN (m + 2) 1 = some 1 := by
  unfold ixN; rw [if_pos (by omega), if_pos (by omega)]; rfl
theorem opSet_lst {z : D} {k : Nat} (h : S[n]? = some (.lst ds)) (hi : ixN ds.length i = some k) : opSet (.ref n) (.int i) z S = .ok () (S.set n (.lst (ds.set k z))) := by
  simp only [opSet, h, hi]
@[simp] theorem opSl_str {lo hi} : opSl (.str a) lo hi S = .ok (.str (cutS a lo hi)) S := (rfl)
@[simp] theorem opSl_tup {lo hi} : opSl (.tup ds) lo hi S = .ok (.tup (cutD ds lo hi)) S := (rfl)
@[simp] theorem opSl_lst {lo hi} : opSl (.lst ds) lo hi S = .ok (.lst (cutD ds lo hi)) S := (rfl)
@[simp] theorem opSl_scr {lo hi} : opSl (.scr ds) lo hi S = .ok (.lst (cutD ds lo hi)) S := (rfl)
/-! displays, calls -/
theorem newTup_ok (h : ds.length ≤ sizeLine) : newTup ds S = .ok (.tup ds) S := by unfold newTup; rw [if_pos h]
theorem newLst_ok (h : ds.length ≤ sizeLine) : newLst ds S = .ok (.lst ds) S := by unfold newLst; rw [if_pos h]
theorem newRef_ok (h : ds.length ≤ sizeLine) : newRef ds S = .ok (.ref S.length) (S ++ [.lst ds]) := by unfold newRef; rw [if_pos h]
theorem szl : (1000000 : Nat) ≤ sizeLine := by decide
@[simp] theorem newTup_0 : newTup [] S = .ok (.tup []) S := newTup_ok (by show 0 ≤ sizeLine; decide)
@[simp] theorem newTup_1 {a : D} : newTup [a] S = .ok (.tup [a]) S := newTup_ok (by show 1 ≤ sizeLine; decide)
@[simp] theorem newTup_2 {a b : D} : newTup [a, b] S = .ok (.tup [a, b]) S := newTup_ok (by show 2 ≤ sizeLine; decide)
@[simp] theorem newTup_3 {a b c : D} : newTup [a, b, c] S = .ok (.tup [a, b, c]) S := newTup_ok (by show 3 ≤ sizeLine; decide)
@[simp] theorem newTup_4 {a b c e : D} : newTup [a, b, c, e] S = .ok (.tup [a, b, c, e]) S := newTup_ok (by show 4 ≤ sizeLine; decide)
@[simp] theorem newLst_0 : newLst [] S = .ok (.lst []) S := newLst_ok (by show 0 ≤ sizeLine; decide)
@[simp] theorem newLst_1 {a : D} : newLst [a] S = .ok (.lst [a]) S := newLst_ok (by show 1 ≤ sizeLine; decide)
@[simp] theorem newLst_2 {a b : D} : newLst [a, b] S = .ok (.lst [a, b]) S := newLst_ok (by show 2 ≤ sizeLine; decide)
@[simp] theorem newLst_3 {a b c : D} : newLst [a, b, c] S = .ok (.lst [a, b, c]) S := newLst_ok (by show 3 ≤ sizeLine; decide)
@[simp] theorem newLst_4 {a b c e : D} : newLst [a, b, c, e] S = .ok (.lst [a, b, c, e]) S := newLst_ok (by show 4 ≤ sizeLine; decide)
@[simp] theorem newRef_0 : newRef [] S = .ok (.ref S.length) (S ++ [.lst []]) := newRef_ok (by show 0 ≤ sizeLine; decide)
@[simp] theorem newRef_1 {a : D} : newRef [a] S = .ok (.ref S.length) (S ++ [.lst [a]]) := newRef_ok (by show 1 ≤ sizeLine; decide)
@[simp] theorem newRef_2 {a b : D} : newRef [a, b] S = .ok (.ref S.length) (S ++ [.lst [a, b]]) := newRef_ok (by show 2 ≤ sizeLine; decide)
@[simp] theorem cList_lst : cList [.lst ds] S = .ok (.lst ds) S := (rfl)
@[simp] theorem cList_tup : cList [.tup ds] S = .ok (.lst ds) S := (rfl)
@[simp] theorem cTuple_lst : cTuple [.lst ds] S = .ok (.tup ds) S := (rfl)
@[simp] theorem cTuple_tup : cTuple [.tup ds] S = .ok (.tup ds) S := (rfl)
theorem cTuple_ref (h : S[n]? = some (.lst ds)) : cTuple [.ref n] S = .ok (.tup ds) S := by simp only [cTuple, rdS, rdL, asL, h]
@[simp] theorem isLst_lst : isLst S (.lst ds) = true := (rfl)
theorem isLst_ref (h : S[n]? = some (.lst ds)) : isLst S (.ref n) = true := by simp only [isLst, rdL, asL, h]; rfl
theorem cAppend_ref (h : S[n]? = some (.lst ds)) (hl : ds.length < sizeLine) : cAppend (.ref n) [d] S = .ok .non (S.set n (.lst (ds ++ [d]))) := by simp only [cAppend, h, if_pos hl]
theorem cExtend_ref (h : S[n]? = some (.lst ds)) (hl : ds.length + es.length ≤ sizeLine) : cExtend (.ref n) [.lst es] S = .ok .non (S.set n (.lst (ds ++ es))) := by simp only [cExtend, h, asL, if_pos hl]
/-! isinstance -/
def opIsiK (t T : String) (S : Sto) : R D := match kitB t T with
  | some k => .ok (.bl k) S
  | none => .stuck
@[simp] theorem isi_non {T} : opIsi T .non S = opIsiK "NoneType" T S := (rfl)
@[simp] theorem isi_bl {T b} : opIsi T (.bl b) S = opIsiK "bool" T S := (rfl)
@[simp] theorem isi_int {T} : opIsi T (.int i) S = opIsiK "int" T S := (rfl)
@[simp] theorem isi_str {T} : opIsi T (.str a) S = opIsiK "str" T S := (rfl)
@[simp] theorem isi_tup {T} : opIsi T (.tup ds) S = opIsiK "tuple" T S := (rfl)
@[simp] theorem isi_lst {T} : opIsi T (.lst ds) S = opIsiK "list" T S := (rfl)
@[simp] theorem isi_dct {T ks} : opIsi T (.dct ks ds) S = opIsiK "dict" T S := (rfl)
theorem isi_ref {T} (h : S[n]? = some (.lst ds)) : opIsi T (.ref n) S = opIsiK "list" T S := by simp only [opIsi, tyN, h]; rfl
theorem isiK_of {t T : String} {k : Bool} (h : kitB t T = some k) : opIsiK t T S = .ok (.bl k) S := by unfold opIsiK; rw [h]
@[simp] theorem isiK_tt : opIsiK "tuple" "tuple" S = .ok (.bl true) S := isiK_of (by decide +kernel)
@[simp] theorem isiK_it : opIsiK "int" "tuple" S = .ok (.bl false) S := isiK_of (by decide +kernel)
@[simp] theorem isiK_st : opIsiK "str" "tuple" S = .ok (.bl false) S := isiK_of (by decide +kernel)
@[simp] theorem isiK_nt : opIsiK "NoneType" "tuple" S = .ok (.bl false) S := isiK_of (by decide +kernel)
@[simp] theorem isiK_bt : opIsiK "bool" "tuple" S = .ok (.bl false) S := isiK_of (by decide +kernel)
@[simp] theorem isiK_lt : opIsiK "list" "tuple" S = .ok (.bl false) S := isiK_of (by decide +kernel)
@[simp] theorem isiK_ii : opIsiK "int" "int" S = .ok (.bl true) S := isiK_of (by decide +kernel)
@[simp] theorem isiK_bi : opIsiK "bool" "int" S = .ok (.bl true) S := isiK_of (by decide +kernel)
@[simp] theorem isiK_ti : opIsiK "tuple" "int" S = .ok (.bl false) S := isiK_of (by decide +kernel)
@[simp] theorem isiK_si : opIsiK "str" "int" S = .ok (.bl false) S := isiK_of (by decide +kernel)
@[simp] theorem isiK_ni : opIsiK "NoneType" "int" S = .ok (.bl false) S := isiK_of (by decide +kernel)
@[simp] theorem isiK_li : opIsiK "list" "int" S = .ok (.bl false) S := isiK_of (by decide +kernel)
@[simp] theorem isiK_ib : opIsiK "int" "bool" S = .ok (.bl false) S := isiK_of (by decide +kernel)
@[simp] theorem isiK_bb : opIsiK "bool" "bool" S = .ok (.bl true) S := isiK_of (by decide +kernel)
@[simp] theorem isiK_tb : opIsiK "tuple" "bool" S = .ok (.bl false) S := isiK_of (by decide +kernel)
@[simp] theorem isiK_sb : opIsiK "str" "bool" S = .ok (.bl false) S := isiK_of (by decide +kernel)
@[simp] theorem isiK_nb : opIsiK "NoneType" "bool" S = .ok (.bl false) S := isiK_of (by decide +kernel)
@[simp] theorem isiK_lb : opIsiK "list" "bool" S = .ok (.bl false) S := isiK_of (by decide +kernel)
@[simp] theorem isiK_ss : opIsiK "str" "str" S = .ok (.bl true) S := isiK_of (by decide +kernel)
@[simp] theorem isiK_is : opIsiK "int" "str" S = .ok (.bl false) S := isiK_of (by decide +kernel)
@[simp] theorem isiK_ns : opIsiK "NoneType" "str" S = .ok (.bl false) S := isiK_of (by decide +kernel)
@[simp] theorem isiK_bs : opIsiK "bool" "str" S = .ok (.bl false) S := isiK_of (by decide +kernel)
@[simp] theorem isiK_ts : opIsiK "tuple" "str" S = .ok (.bl false) S := isiK_of (by decide +kernel)
@[simp] theorem isiK_ls : opIsiK "list" "str" S = .ok (.bl false) S := isiK_of (by decide +kernel)
@[simp] theorem isiK_ll : opIsiK "list" "list" S = .ok (.bl true) S := isiK_of (by decide +kernel)
@[simp] theorem isiK_tl : opIsiK "tuple" "list" S = .ok (.bl false) S := isiK_of (by decide +kernel)
@[simp] theorem isiK_dd : opIsiK "dict" "dict" S = .ok (.bl true) S := isiK_of (by decide +kernel)
@[simp] theorem isiK_nd : opIsiK "NoneType" "dict" S = .ok (.bl false) S := isiK_of (by decide +kernel)
end
/-! objects -/
@[simp] theorem sto_snoc {S : Sto} {o : MO} : (S ++ [o])[S.length]? = some o := by simp
theorem sto_set {S : Sto} {n : Nat} {o u : MO} (h : S[n]? = some u) : (S.set n o)[n]? = some o := by
  rw [List.getElem?_set_self (List.getElem?_eq_some_iff.mp h).1]
@[simp] theorem sto_snoc_set {S : Sto} {o u : MO} : (S ++ [o]).set S.length u = S ++ [u] := by simp
@[simp] theorem set_set' {α : Type} {S : List α} {n : Nat} {a b : α} : (S.set n a).set n b = S.set n b := List.set_set _
end PM

/-! PM, part 13: labels (plain) -/
namespace PM
open PySem L2
def alpha : Str := Str.ofString "abcdefghijklmnopqrstuvwxyz"
theorem alpha_cps : alpha.cps.toList = List.range' 97 26 := by decide +kernel
theorem alpha_at {i : Int} (h0 : 0 ≤ i) (h : i < 26) : atI alpha.cps.toList i = some (97 + i.toNat) := by
  rw [atI_of _ h0, alpha_cps, List.getElem?_range' (by omega)]
  simp
theorem opIx_alpha {S : Sto} {i : Int} (h0 : 0 ≤ i) (h : i < 26) : opIx (.str (Str.ofString "abcdefghijklmnopqrstuvwxyz")) (.int i) S = .ok (.str ⟨#[97 + i.toNat]⟩) S := by
  show opIx (.str alpha) _ _ = _
  rw [opIx_str, alpha_at h0 h]
/-- a sign of a label -/
def sg (i : Int) : Nat := 97 + (i % 26).toNat
theorem sg_lo (i : Int) : 97 ≤ sg i := Nat.le_add_right _ _
theorem sg_hi (i : Int) : sg i < 123 := by unfold sg; omega
def labB (c : Int) : List Nat := (List.range (c % 7).toNat).map fun (k : Nat) => sg (c / 49 % 26 + c / 1274 * (k : Int))
def labA (c : Int) : Nat := (c / 7 % (c % 7 + 1)).toNat
def labL (c : Int) (k : Nat) : List Nat := (labB c).take (labA c) ++ [sg (c / 49 + 3 * (k : Int))] ++ (labB c).drop (labA c)
/-- the k-th label -/
def lab (c : Int) (k : Nat) : Str := ⟨(labL c k).toArray⟩
theorem labB_len (c : Int) : (labB c).length = (c % 7).toNat := by simp [labB]
theorem labA_le {c : Int} (h : 0 ≤ c) : labA c ≤ (labB c).length := by
  rw [labB_len]; unfold labA
  have h1 : 0 < c % 7 + 1 := by omega
  have h2 := Int.emod_lt_of_pos (c / 7) h1
  have h3 := Int.emod_nonneg (c / 7) (show c % 7 + 1 ≠ 0 by omega)
  generalize c / 7 % (c % 7 + 1) = z at *
  omega
theorem lab_len {c : Int} (h : 0 ≤ c) (k : Nat) : (lab c k).length = (c % 7).toNat + 1 := by
  show (labL c k).toArray.size = _
  have := labA_le h
  rw [List.size_toArray, labL, List.length_append, List.length_append, List.length_take, List.length_drop, labB_len] at *
  simp; omega
theorem lab_le {c : Int} (h : 0 ≤ c) (k : Nat) : (lab c k).length ≤ 7 := by rw [lab_len h]; omega
theorem labL_az (c : Int) (k : Nat) : ∀ x ∈ labL c k, 97 ≤ x ∧ x < 123 := by
  intro x hx
  have hb : ∀ y ∈ labB c, 97 ≤ y ∧ y < 123 := fun y hy => by
    obtain ⟨j, _, e⟩ := List.mem_map.mp hy
    rw [← e]; exact ⟨sg_lo _, sg_hi _⟩
  simp only [labL, List.mem_append, List.mem_singleton] at hx
  rcases hx with (hx | hx) | hx
  · exact hb x (List.mem_of_mem_take hx)
  · rw [hx]; exact ⟨sg_lo _, sg_hi _⟩
  · exact hb x (List.mem_of_mem_drop hx)
theorem lab_inj {c : Int} {i j : Nat} (hi : i < 8) (hj : j < 8) (h : lab c i = lab c j) : i = j := by
  have h1 : labL c i = labL c j := by
    have : (labL c i).toArray = (labL c j).toArray := by injection h
    simpa using this
  unfold labL at h1
  simp only [List.append_assoc] at h1
  have h2 := List.append_cancel_left h1
  simp only [List.cons_append, List.cons.injEq] at h2
  have h3 := h2.1
  unfold sg at h3
  omega
def labs (c : Int) (m : Nat) : List Str := (List.range m).map (lab c)
theorem labs_len (c : Int) (m : Nat) : (labs c m).length = m := by simp [labs]
theorem labs_nodup (c : Int) {m : Nat} (hm : m ≤ 8) : (labs c m).Nodup := by
  unfold labs List.Nodup
  rw [List.pairwise_map]
  refine List.Pairwise.imp_of_mem (fun {i j} hi hj h => ?_) List.nodup_range
  intro e
  simp at hi hj
  exact h (lab_inj (by omega) (by omega) e)
theorem mem_labs {c : Int} {m : Nat} {s : Str} (h : s ∈ labs c m) : ∃ k, k < m ∧ s = lab c k := by
  obtain ⟨k, hk, e⟩ := List.mem_map.mp h
  exact ⟨k, by simpa using hk, e.symm⟩
/-- texts of letters a to z, of one to seven -/
def IsLab (s : Str) : Prop := (∀ x ∈ s.cps.toList, 97 ≤ x ∧ x < 123) ∧ 1 ≤ s.length ∧ s.length ≤ 8
theorem lab_is {c : Int} (h : 0 ≤ c) (k : Nat) : IsLab (lab c k) := by
  refine ⟨fun x hx => labL_az c k x (by simpa [lab] using hx), ?_, ?_⟩
  · rw [lab_len h]; omega
  · have := lab_le h k; omega
theorem labs_is {c : Int} (h : 0 ≤ c) {m : Nat} : ∀ s ∈ labs c m, IsLab s := fun s hs => by
  obtain ⟨k, _, e⟩ := mem_labs hs
  rw [e]; exact lab_is h k
theorem IsLab.ok {s : Str} (h : IsLab s) : PyData.strOk s = true := by
  unfold PyData.strOk
  rw [Array.all_eq_true']
  intro x hx
  have := h.1 x (by simpa using hx)
  simp; omega
/-! joining the base -/
theorem strsOf_map {α : Type} (f : α → Str) : ∀ xs : List α, strsOf (xs.map fun x => D.str (f x)) = some (xs.map f)
  | [] => rfl
  | x :: xs => by simp only [List.map_cons, strsOf, strsOf_map f xs]; rfl
theorem joinL_nil : ∀ ps : List (List Nat), TL.joinL [] ps = ps.flatten
  | [] => rfl
  | [p] => by simp [TL.joinL]
  | p :: q :: r => by simp only [TL.joinL, List.nil_append, joinL_nil (q :: r), List.flatten_cons]
theorem join_map {α : Type} {S : Sto} (f : α → Nat) (xs : List α) (h : xs.length ≤ 1000) : opJoin (.str (Str.ofString "")) (.lst (xs.map fun x => .str ⟨#[f x]⟩)) S = .ok (.str ⟨(xs.map f).toArray⟩) S := by
  have e : (Txt.join (Str.ofString "") (xs.map fun x => (⟨#[f x]⟩ : Str))).cps.toList = xs.map f := by
    rw [TL.join_eq]
    show TL.tl _ = _
    rw [TL.tl_join, show TL.tl (Str.ofString "") = [] from rfl, joinL_nil, List.map_map]
    induction xs with
    | nil => rfl
    | cons x xs ih => simp only [List.map_cons, List.flatten_cons, ih (by simp at h; omega)]; rfl
  have e2 : Txt.join (Str.ofString "") (xs.map fun x => (⟨#[f x]⟩ : Str)) = ⟨(xs.map f).toArray⟩ := by
    rw [← e]
  have sz : (1000 : Nat) ≤ 16777216 := by decide
  have sl : (1000 : Nat) ≤ sizeLine := by decide
  simp only [opJoin, rdS, rdL, asL, strsOf_map]
  rw [if_pos, e2]
  refine ⟨?_, ?_⟩
  · rw [show (Str.ofString "").length = 0 from rfl, Nat.mul_zero, Nat.add_zero, List.map_map]
    have : ((xs.map ((fun s : Str => s.length) ∘ fun x => (⟨#[f x]⟩ : Str)))).sum = xs.length := by
      clear e e2 h
      induction xs with
      | nil => rfl
      | cons x xs ih => simp only [List.map_cons, List.sum_cons, ih, List.length_cons]; show 1 + _ = _; omega
    rw [this]; omega
  · rw [e2]
    show (xs.map f).toArray.size ≤ _
    simp; omega
theorem cutS_to {z : Str} {i : Int} (h : 0 ≤ i) (h2 : i.toNat ≤ z.length) : cutS z none (some i) = ⟨(z.cps.toList.take i.toNat).toArray⟩ := by
  obtain ⟨k, rfl⟩ : ∃ k : Nat, i = k := ⟨i.toNat, by omega⟩
  have h2 : k ≤ z.length := h2
  unfold cutS
  rw [HT.sIx_none, HT.sIx_nat, List.drop_zero, Nat.sub_zero, Nat.min_eq_left h2]; rfl
theorem cutS_from {z : Str} {i : Int} (h : 0 ≤ i) (h2 : i.toNat ≤ z.length) : cutS z (some i) none = ⟨(z.cps.toList.drop i.toNat).toArray⟩ := by
  obtain ⟨k, rfl⟩ : ∃ k : Nat, i = k := ⟨i.toNat, by omega⟩
  have h2 : k ≤ z.length := h2
  unfold cutS
  rw [HT.sIx_none, HT.sIx_nat, Nat.min_eq_left h2]
  have : (z.cps.toList.drop k).take (z.length - k) = z.cps.toList.drop k := by
    rw [List.take_of_length_le]; simp [Str.length]
  rw [this]; rfl
theorem str_app (a b : List Nat) : (⟨a.toArray⟩ : Str) ++ ⟨b.toArray⟩ = ⟨(a ++ b).toArray⟩ := by
  show (⟨a.toArray ++ b.toArray⟩ : Str) = _
  simp
end PM

/-! PM, part 14: bodies (plain) -/
namespace PM
open PySem L2
inductive B where
  | num (n : Int) | inp (k : Int) | make (ls : List Str) (bs : List B) | get (b : B) (l : Str) | put (b : B) (l : Str) (c : B) | sum (b c : B) | ite (b c d : B) | call (f : Str) (bs : List B)
def fldD (ls : List Str) (ds : List D) : List D := List.zipWith (fun l d => .tup [.str l, d]) ls ds
mutual
def bd : B → D
  | .num n => .tup [.str "number", .int n]
  | .inp k => .tup [.str "input", .int k]
  | .make ls bs => .tup [.str "make", .tup (fldD ls (bds bs))]
  | .get b l => .tup [.str "get", bd b, .str l]
  | .put b l c => .tup [.str "put", bd b, .str l, bd c]
  | .sum b c => .tup [.str "sum", bd b, bd c]
  | .ite b c d => .tup [.str "if", bd b, bd c, bd d]
  | .call f bs => .tup [.str "call", .str f, .tup (bds bs)]
def bds : List B → List D
  | [] => []
  | b :: bs => bd b :: bds bs
end
theorem bds_map : ∀ bs : List B, bds bs = bs.map bd
  | [] => rfl
  | b :: bs => by rw [bds, bds_map bs]; rfl
def kidsB : B → List B
  | .num _ => [] | .inp _ => []
  | .make _ bs => bs
  | .get b _ => [b]
  | .put b _ c => [b, c]
  | .sum b c => [b, c]
  | .ite b c d => [b, c, d]
  | .call _ bs => bs
/-- bodies of a depth, of few parts, of labels -/
inductive WB : Nat → B → Prop where
  | num {d n} : WB (d + 1) (.num n)
  | inp {d k} : WB (d + 1) (.inp k)
  | make {d ls bs} : ls.length = bs.length → bs.length ≤ 4 → (∀ l ∈ ls, IsLab l) → (∀ b ∈ bs, WB d b) → WB (d + 1) (.make ls bs)
  | get {d b l} : WB d b → IsLab l → WB (d + 1) (.get b l)
  | put {d b l c} : WB d b → IsLab l → WB d c → WB (d + 1) (.put b l c)
  | sum {d b c} : WB d b → WB d c → WB (d + 1) (.sum b c)
  | ite {d b c e} : WB d b → WB d c → WB d e → WB (d + 1) (.ite b c e)
  | call {d f bs} : IsLab f → bs.length ≤ 4 → (∀ b ∈ bs, WB d b) → WB (d + 1) (.call f bs)
theorem WB.kids {d : Nat} {b : B} (h : WB (d + 1) b) : ∀ c ∈ kidsB b, WB d c := by
  cases h with
  | num => intro c h; cases h
  | inp => intro c h; cases h
  | make _ _ _ h => exact h
  | get h _ => intro c hc; simp only [kidsB, List.mem_singleton] at hc; rw [hc]; exact h
  | put h _ h2 => intro c hc; simp only [kidsB, List.mem_cons, List.not_mem_nil, or_false] at hc; rcases hc with rfl | rfl <;> assumption
  | sum h h2 => intro c hc; simp only [kidsB, List.mem_cons, List.not_mem_nil, or_false] at hc; rcases hc with rfl | rfl <;> assumption
  | ite h h2 h3 => intro c hc; simp only [kidsB, List.mem_cons, List.not_mem_nil, or_false] at hc; rcases hc with rfl | rfl | rfl <;> assumption
  | call _ _ h => exact h
theorem WB.few {d : Nat} {b : B} (h : WB d b) : (kidsB b).length ≤ 4 := by
  cases h <;> simp [kidsB] <;> assumption
theorem WB.pos {d : Nat} {b : B} (h : WB d b) : ∃ e, d = e + 1 := by
  cases h <;> exact ⟨_, rfl⟩
theorem WB.mono {d e : Nat} {b : B} (h : WB d b) : d ≤ e → WB e b := by
  induction h generalizing e with
  | num => intro he; obtain ⟨e, rfl⟩ : ∃ f, e = f + 1 := ⟨e - 1, by omega⟩; exact .num
  | inp => intro he; obtain ⟨e, rfl⟩ : ∃ f, e = f + 1 := ⟨e - 1, by omega⟩; exact .inp
  | make h1 h2 h3 h4 ih => intro he; obtain ⟨e, rfl⟩ : ∃ f, e = f + 1 := ⟨e - 1, by omega⟩; exact .make h1 h2 h3 fun b hb => ih b hb (by omega)
  | get h1 h2 ih => intro he; obtain ⟨e, rfl⟩ : ∃ f, e = f + 1 := ⟨e - 1, by omega⟩; exact .get (ih (by omega)) h2
  | put h1 h2 h3 ih1 ih3 => intro he; obtain ⟨e, rfl⟩ : ∃ f, e = f + 1 := ⟨e - 1, by omega⟩; exact .put (ih1 (by omega)) h2 (ih3 (by omega))
  | sum h1 h3 ih1 ih3 => intro he; obtain ⟨e, rfl⟩ : ∃ f, e = f + 1 := ⟨e - 1, by omega⟩; exact .sum (ih1 (by omega)) (ih3 (by omega))
  | ite h1 h2 h3 ih1 ih2 ih3 => intro he; obtain ⟨e, rfl⟩ : ∃ f, e = f + 1 := ⟨e - 1, by omega⟩; exact .ite (ih1 (by omega)) (ih2 (by omega)) (ih3 (by omega))
  | call h1 h2 h3 ih => intro he; obtain ⟨e, rfl⟩ : ∃ f, e = f + 1 := ⟨e - 1, by omega⟩; exact .call h1 h2 fun b hb => ih b hb (by omega)
/-- no objects in a body -/
theorem bd_cl (n : Nat) {d : Nat} {b : B} (h : WB d b) : D.cl n (bd b) = true := by
  induction h with
  | num => rfl
  | inp => rfl
  | make h1 h2 h3 h4 ih =>
    rename_i d ls bs
    simp only [bd, D.cl, D.cls, Bool.true_and, Bool.and_true]
    rw [bds_map]
    clear h1 h2 h3 h4
    induction bs generalizing ls with
    | nil => cases ls <;> rfl
    | cons b bs ih2 =>
      cases ls with
      | nil => rfl
      | cons l ls =>
        simp only [fldD, List.map_cons, List.zipWith_cons_cons, D.cls, D.cl, Bool.true_and, Bool.and_true, Bool.and_eq_true]
        exact ⟨ih b (by simp), ih2 fun c hc => ih c (by simp [hc])⟩
  | get h1 h2 ih => simp only [bd, D.cl, D.cls, ih]; rfl
  | put h1 h2 h3 ih1 ih3 => simp only [bd, D.cl, D.cls, ih1, ih3]; rfl
  | sum h1 h3 ih1 ih3 => simp only [bd, D.cl, D.cls, ih1, ih3]; rfl
  | ite h1 h2 h3 ih1 ih2 ih3 => simp only [bd, D.cl, D.cls, ih1, ih2, ih3]; rfl
  | call h1 h2 h3 ih =>
    simp only [bd, D.cl, D.cls, Bool.true_and, Bool.and_true]
    rw [bds_map]
    exact cls_map ih
/-! places -/
abbrev P := List Nat
def pd (p : P) : D := .tup (p.map fun (i : Nat) => .int (i : Int))
def enumFrom {α : Type} : Nat → List α → List (Nat × α)
  | _, [] => []
  | i, x :: xs => (i, x) :: enumFrom (i + 1) xs
def lpl : Nat → B → List (P × B)
  | 0, _ => []
  | d + 1, b => (enumFrom 0 (kidsB b)).flatMap (fun q => (lpl d q.2).map fun r => (q.1 :: r.1, r.2)) ++ [([], b)]
def plc (d : Nat) (b : B) : List P := (lpl d b).map (·.1)
def atB : B → P → Option B
  | b, [] => some b
  | b, i :: p => (kidsB b)[i]?.bind fun c => atB c p
theorem enumFrom_mem {α : Type} {i j : Nat} {x : α} : ∀ {n : Nat} {xs : List α}, (j, x) ∈ enumFrom n xs → n ≤ j ∧ xs[j - n]? = some x
  | n, [], h => by cases h
  | n, y :: ys, h => by
    simp only [enumFrom, List.mem_cons, Prod.mk.injEq] at h
    rcases h with ⟨e1, e2⟩ | h
    · subst e1 e2; simp
    · obtain ⟨h1, h2⟩ := enumFrom_mem (i := i) h
      refine ⟨by omega, ?_⟩
      rw [show j - n = (j - (n + 1)) + 1 by omega]
      simpa using h2
theorem lpl_at : ∀ {d : Nat} {b x : B} {p : P}, (p, x) ∈ lpl d b → atB b p = some x
  | 0, _, _, _, h => by cases h
  | d + 1, b, x, p, h => by
    simp only [lpl, List.mem_append, List.mem_flatMap, List.mem_map, List.mem_singleton, Prod.mk.injEq] at h
    rcases h with ⟨⟨j, c⟩, hq, ⟨r, y⟩, hr, e1, e2⟩ | ⟨e1, e2⟩
    · subst e1 e2
      obtain ⟨_, hj⟩ := enumFrom_mem (i := 0) hq
      simp only [atB]
      rw [show j - 0 = j from rfl] at hj
      rw [hj]
      exact lpl_at hr
    · subst e1 e2; rfl
theorem enumFrom_length {α : Type} : ∀ (n : Nat) (xs : List α), (enumFrom n xs).length = xs.length
  | _, [] => rfl
  | n, x :: xs => by simp [enumFrom, enumFrom_length (n + 1) xs]
theorem enumFrom_snd {α : Type} : ∀ (n : Nat) (xs : List α), (enumFrom n xs).map (·.2) = xs
  | _, [] => rfl
  | n, x :: xs => by simp [enumFrom, enumFrom_snd (n + 1) xs]
theorem sum_le {l : List Nat} {m : Nat} (h : ∀ x ∈ l, x ≤ m) : l.sum ≤ l.length * m := by
  induction l with
  | nil => simp
  | cons x xs ih =>
    rw [List.sum_cons, List.length_cons, Nat.add_mul]
    have := h x (by simp)
    have := ih fun y hy => h y (by simp [hy])
    omega
theorem lpl_len : ∀ {d : Nat} {b : B}, WB d b → (lpl d b).length ≤ 5 ^ d
  | 0, _, h => by obtain ⟨e, h⟩ := h.pos; omega
  | d + 1, b, h => by
    simp only [lpl, List.length_append, List.length_flatMap, List.length_map, List.length_singleton]
    have h1 : ∀ x ∈ (enumFrom 0 (kidsB b)).map (fun q => (lpl d q.2).length), x ≤ 5 ^ d := by
      intro x hx
      obtain ⟨⟨j, c⟩, hq, e⟩ := List.mem_map.mp hx
      subst e
      refine lpl_len (h.kids c ?_)
      have := List.mem_map_of_mem (f := (·.2)) hq
      rwa [enumFrom_snd] at this
    have h2 := sum_le h1
    rw [List.length_map, enumFrom_length] at h2
    have h3 := h.few
    have h4 : (kidsB b).length * 5 ^ d ≤ 4 * 5 ^ d := Nat.mul_le_mul_right _ h3
    have h5 : 1 ≤ 5 ^ d := Nat.one_le_pow _ _ (by decide)
    rw [Nat.pow_succ]; omega
theorem lpl_wb : ∀ {d : Nat} {b x : B} {p : P}, WB d b → (p, x) ∈ lpl d b → WB d x ∧ p.length ≤ d
  | 0, _, _, _, _, h => by cases h
  | d + 1, b, x, p, hb, h => by
    simp only [lpl, List.mem_append, List.mem_flatMap, List.mem_map, List.mem_singleton, Prod.mk.injEq] at h
    rcases h with ⟨⟨j, c⟩, hq, ⟨r, y⟩, hr, e1, e2⟩ | ⟨e1, e2⟩
    · subst e1 e2
      have := List.mem_map_of_mem (f := (·.2)) hq
      rw [enumFrom_snd] at this
      obtain ⟨h1, h2⟩ := lpl_wb (hb.kids c this) hr
      exact ⟨h1.mono (by omega), by simp; exact h2⟩
    · subst e1 e2; exact ⟨hb, by simp⟩
theorem pd_cl (n : Nat) (p : P) : D.cl n (pd p) = true := by
  simp only [pd, D.cl]; exact cls_map fun _ _ => rfl
theorem zip_snd {ls : List Str} {ds : List D} (h : ls.length = ds.length) (f : D → D) (hf : ∀ l d, f (.tup [.str l, d]) = d) : (fldD ls ds).map f = ds := by
  induction ls generalizing ds with
  | nil => cases ds with
    | nil => rfl
    | cons d ds => cases h
  | cons l ls ih =>
    cases ds with
    | nil => cases h
    | cons d ds => simp only [fldD, List.zipWith_cons_cons, List.map_cons, hf]; exact congrArg _ (ih (by simpa using h))
theorem mem_fldD {ls : List Str} {ds : List D} {x : D} (h : x ∈ fldD ls ds) : ∃ l d, x = .tup [.str l, d] ∧ l ∈ ls ∧ d ∈ ds := by
  induction ls generalizing ds with
  | nil => cases h
  | cons l ls ih =>
    cases ds with
    | nil => cases h
    | cons d ds =>
      simp only [fldD, List.zipWith_cons_cons, List.mem_cons] at h
      rcases h with h | h
      · exact ⟨l, d, h, by simp, by simp⟩
      · obtain ⟨l', d', e, h1, h2⟩ := ih h
        exact ⟨l', d', e, by simp [h1], by simp [h2]⟩
end PM

/-! PM, part 15: equality of plain data -/
namespace PM
open PySem L2
/-- no objects, no dicts, of a depth -/
def pl : Nat → D → Bool
  | _, .non => true
  | _, .bl _ => true
  | _, .int _ => true
  | _, .str s => PyData.strOk s
  | n + 1, .tup ds => ds.all (pl n)
  | n + 1, .lst ds => ds.all (pl n)
  | n + 1, .scr ds => ds.all (pl n)
  | _, _ => false
def TpL (n : Nat) (ds : List D) : Prop := ∃ es, (∀ rc S, tps rc S ds = some es) ∧ PyData.canLayAll0 es = true ∧ PyData.depthAll es ≤ n
theorem tpl_of {n : Nat} (ih : ∀ d, pl n d = true → ∃ e, (∀ rc S, tp rc S d = some e) ∧ PyData.canLay0 e = true ∧ e.depth ≤ n) : ∀ ds : List D, ds.all (pl n) = true → TpL n ds
  | [], _ => ⟨[], fun _ _ => rfl, rfl, Nat.zero_le _⟩
  | d :: ds, h => by
    rw [List.all_cons, Bool.and_eq_true] at h
    obtain ⟨e, h1, h2, h3⟩ := ih d h.1
    obtain ⟨es, k1, k2, k3⟩ := tpl_of ih ds h.2
    refine ⟨e :: es, fun rc S => ?_, ?_, ?_⟩
    · simp only [tps, h1, k1, Option.bind_some, Option.map_some]
    · simp only [PyData.canLayAll0, h2, k2]; rfl
    · simp only [PyData.depthAll]; omega
theorem pl_tp : ∀ {n : Nat} (d : D), pl n d = true → ∃ e, (∀ rc S, tp rc S d = some e) ∧ PyData.canLay0 e = true ∧ e.depth ≤ n
  | n, .non, _ => ⟨.none, fun _ _ => rfl, rfl, Nat.zero_le _⟩
  | n, .bl b, _ => ⟨.bool b, fun _ _ => rfl, rfl, Nat.zero_le _⟩
  | n, .int b, _ => ⟨.int b, fun _ _ => rfl, rfl, Nat.zero_le _⟩
  | n, .str b, h => ⟨.str b, fun _ _ => rfl, by cases n <;> exact h, Nat.zero_le _⟩
  | n + 1, .tup ds, h => by
    obtain ⟨es, h1, h2, h3⟩ := tpl_of (fun d => pl_tp d) ds h
    exact ⟨.tuple es, fun rc S => by simp only [tp, h1]; rfl, h2, by simp only [PyData.depth]; omega⟩
  | n + 1, .lst ds, h => by
    obtain ⟨es, h1, h2, h3⟩ := tpl_of (fun d => pl_tp d) ds h
    exact ⟨.list es, fun rc S => by simp only [tp, h1]; rfl, h2, by simp only [PyData.depth]; omega⟩
  | n + 1, .scr ds, h => by
    obtain ⟨es, h1, h2, h3⟩ := tpl_of (fun d => pl_tp d) ds h
    exact ⟨.list es, fun rc S => by simp only [tp, h1]; rfl, h2, by simp only [PyData.depth]; omega⟩
  | 0, .tup ds, h => by cases h
  | 0, .lst ds, h => by cases h
  | 0, .scr ds, h => by cases h
  | 0, .dct _ _, h => by cases h
  | 0, .ref _, h => by cases h
  | n + 1, .dct _ _, h => by cases h
  | n + 1, .ref _, h => by cases h
theorem pl_mono : ∀ {n m : Nat} (d : D), n ≤ m → pl n d = true → pl m d = true
  | n, m, .non, _, _ => by cases m <;> rfl
  | n, m, .bl _, _, _ => by cases m <;> rfl
  | n, m, .int _, _, _ => by cases m <;> rfl
  | n, m, .str _, _, h => by cases n <;> cases m <;> exact h
  | n + 1, m + 1, .tup ds, l, h => by
    simp only [pl, List.all_eq_true] at h ⊢
    exact fun d hd => pl_mono d (by omega) (h d hd)
  | n + 1, m + 1, .lst ds, l, h => by
    simp only [pl, List.all_eq_true] at h ⊢
    exact fun d hd => pl_mono d (by omega) (h d hd)
  | n + 1, m + 1, .scr ds, l, h => by
    simp only [pl, List.all_eq_true] at h ⊢
    exact fun d hd => pl_mono d (by omega) (h d hd)
  | n + 1, 0, .tup ds, l, h => by omega
  | n + 1, 0, .lst ds, l, h => by omega
  | n + 1, 0, .scr ds, l, h => by omega
  | 0, _, .tup ds, _, h => by cases h
  | 0, _, .lst ds, _, h => by cases h
  | 0, _, .scr ds, _, h => by cases h
  | 0, _, .dct _ _, _, h => by cases h
  | 0, _, .ref _, _, h => by cases h
  | n + 1, _, .dct _ _, _, h => by cases h
  | n + 1, _, .ref _, _, h => by cases h
theorem shaped_of {n : Nat} {e : PyData} (h : PyData.canLay0 e = true) (l : e.depth ≤ n) (hn : n ≤ 64) : SeqAt.shaped e = true := by
  unfold SeqAt.shaped
  rw [h, decide_eq_true (Nat.le_trans l hn)]; rfl
theorem eqD_self {S : Sto} {n : Nat} {d : D} (h : pl n d = true) (hn : n ≤ 64) : eqD S d d = some true := by
  unfold eqD
  cases hs : scalD d d with
  | some k =>
    simp only
    cases d <;> simp only [scalD, decide_true] at hs <;> first | exact hs.symm | cases hs
  | none =>
    obtain ⟨e, h1, h2, h3⟩ := pl_tp d h
    have e1 : tpd S d = some e := h1 _ _
    simp only [e1]
    rw [if_pos ⟨shaped_of h2 h3 hn, shaped_of h2 h3 hn⟩, SeqAt.eqv_refl _ h2]
theorem eqD_lr {S : Sto} {n k : Nat} {ds : List D} (hs : S[k]? = some (.lst ds)) (h : pl (n + 1) (.lst ds) = true) (hn : n + 1 ≤ 64) : eqD S (.ref k) (.lst ds) = some true := by
  obtain ⟨es, h1, h2, h3⟩ := tpl_of (fun d => pl_tp d) ds h
  have e1 : tpd S (.lst ds) = some (.list es) := by simp only [tpd, tp, h1]; rfl
  have e2 : tpd S (.ref k) = some (.list es) := by simp only [tpd, tp, hs, tpk, h1]; rfl
  have h4 : PyData.canLay0 (.list es) = true := h2
  have h5 : (PyData.list es).depth ≤ n + 1 := by simp only [PyData.depth]; omega
  unfold eqD
  simp only [scalD, e1, e2]
  rw [if_pos ⟨shaped_of h4 h5 hn, shaped_of h4 h5 hn⟩, SeqAt.eqv_refl _ h4]
theorem eqD_lst_nil {S : Sto} {n : Nat} {ds : List D} (h : pl n (.lst ds) = true) (hn : n ≤ 64) : eqD S (.lst ds) (.lst []) = some (decide (ds = [])) := by
  obtain ⟨n, rfl⟩ : ∃ m, n = m + 1 := by cases n with
    | zero => cases h
    | succ n => exact ⟨n, rfl⟩
  obtain ⟨es, h1, h2, h3⟩ := tpl_of (fun d => pl_tp d) ds h
  have e1 : tpd S (.lst ds) = some (.list es) := by simp only [tpd, tp, h1]; rfl
  have e2 : tpd S (.lst []) = some (.list []) := rfl
  have h4 : PyData.canLay0 (.list es) = true := h2
  have h5 : (PyData.list es).depth ≤ n + 1 := by simp only [PyData.depth]; omega
  unfold eqD
  simp only [scalD, e1, e2]
  rw [if_pos ⟨shaped_of h4 h5 hn, by decide⟩]
  cases ds with
  | nil =>
    have := h1 (fun _ => none) S
    simp only [tps, Option.some.injEq] at this
    subst this; rfl
  | cons d ds =>
    have := h1 (fun _ => none) S
    simp only [tps] at this
    cases h6 : tp (fun _ => none) S d with
    | none => rw [h6] at this; cases this
    | some e =>
      rw [h6, Option.bind_some, Option.map_eq_some_iff] at this
      obtain ⟨es', _, e'⟩ := this
      subst e'
      rfl
theorem pl_lit {n : Nat} {s : Str} (h : PyData.strOk s = true) : pl n (.str s) = true := by cases n <;> exact h
theorem pl_all {n : Nat} {ds : List D} (h : ∀ d ∈ ds, pl n d = true) : ds.all (pl n) = true := List.all_eq_true.mpr h
/-- bodies -/
theorem pl_bd {d : Nat} {b : B} (h : WB d b) : pl (3 * d) (bd b) = true := by
  have hs : ∀ {s : Str}, IsLab s → PyData.strOk s = true := fun h => h.ok
  induction h with
  | num => rename_i d n; rw [show 3 * (d + 1) = (3 * d + 2) + 1 by omega]; simp only [bd, pl, List.all_cons, List.all_nil]; decide +kernel
  | inp => rename_i d n; rw [show 3 * (d + 1) = (3 * d + 2) + 1 by omega]; simp only [bd, pl, List.all_cons, List.all_nil]; decide +kernel
  | make h1 h2 h3 h4 ih =>
    rename_i d ls bs
    rw [show 3 * (d + 1) = (3 * d + 2) + 1 by omega]
    simp only [bd, pl, List.all_cons, List.all_nil]
    refine Bool.and_eq_true_iff.mpr ⟨by decide +kernel, Bool.and_eq_true_iff.mpr ⟨pl_all fun x hx => ?_, rfl⟩⟩
    obtain ⟨l, y, e, hl, hy⟩ := mem_fldD hx
    subst e
    rw [bds_map] at hy
    obtain ⟨b, hb, e⟩ := List.mem_map.mp hy
    subst e
    simp only [pl, List.all_cons, List.all_nil, Bool.and_true, Bool.and_eq_true]
    exact ⟨(h3 l hl).ok, ih b hb⟩
  | get h1 h2 ih =>
    rename_i d b l
    rw [show 3 * (d + 1) = (3 * d + 2) + 1 by omega]
    simp only [bd, pl, List.all_cons, List.all_nil, Bool.and_true, Bool.and_eq_true]
    exact ⟨by decide +kernel, pl_mono _ (by omega) ih, hs h2⟩
  | put h1 h2 h3 ih1 ih3 =>
    rename_i d b l c
    rw [show 3 * (d + 1) = (3 * d + 2) + 1 by omega]
    simp only [bd, pl, List.all_cons, List.all_nil, Bool.and_true, Bool.and_eq_true]
    exact ⟨by decide +kernel, pl_mono _ (by omega) ih1, hs h2, pl_mono _ (by omega) ih3⟩
  | sum h1 h3 ih1 ih3 =>
    rename_i d b c
    rw [show 3 * (d + 1) = (3 * d + 2) + 1 by omega]
    simp only [bd, pl, List.all_cons, List.all_nil, Bool.and_true, Bool.and_eq_true]
    exact ⟨by decide +kernel, pl_mono _ (by omega) ih1, pl_mono _ (by omega) ih3⟩
  | ite h1 h2 h3 ih1 ih2 ih3 =>
    rename_i d b c e
    rw [show 3 * (d + 1) = (3 * d + 2) + 1 by omega]
    simp only [bd, pl, List.all_cons, List.all_nil, Bool.and_true, Bool.and_eq_true]
    exact ⟨by decide +kernel, pl_mono _ (by omega) ih1, pl_mono _ (by omega) ih2, pl_mono _ (by omega) ih3⟩
  | call h1 h2 h3 ih =>
    rename_i d f bs
    rw [show 3 * (d + 1) = (3 * d + 2) + 1 by omega]
    simp only [bd, pl, List.all_cons, List.all_nil, Bool.and_true, Bool.and_eq_true]
    refine ⟨by decide +kernel, hs h1, pl_all fun x hx => ?_⟩
    rw [bds_map] at hx
    obtain ⟨b, hb, e⟩ := List.mem_map.mp hx
    subst e
    exact pl_mono _ (by omega) (ih b hb)
end PM

/-! PM, part 16: for the makers of bodies -/
namespace PM
open PySem L2
theorem scalAny_strs (l : Str) : ∀ xs : List Str, scalAny (.str l) (xs.map D.str) = some (decide (l ∈ xs))
  | [] => rfl
  | x :: xs => by
    simp only [List.map_cons, scalAny, scalD, scalAny_strs l xs, Option.bind_some, Option.map_some, List.mem_cons, Bool.decide_or, Option.some.injEq]
    rw [show decide (x = l) = decide (l = x) from by simp only [eq_comm]]
theorem opNotIn_strs {S : Sto} (l : Str) (xs : List Str) : opNotIn (.str l) (.lst (xs.map D.str)) S = .ok (.bl (!decide (l ∈ xs))) S := by
  have : inDa S (.str l) (.lst (xs.map D.str)) = some (decide (l ∈ xs)) := by
    simp only [inDa, dget, dkOf, dtOf, rdS, rdL, asL, isFlat, if_pos, scalAny_strs]
  unfold opNotIn; rw [this]
theorem opIn_strs {S : Sto} (l : Str) (xs : List Str) : opIn (.str l) (.lst (xs.map D.str)) S = .ok (.bl (decide (l ∈ xs))) S := by
  have : inDa S (.str l) (.lst (xs.map D.str)) = some (decide (l ∈ xs)) := by
    simp only [inDa, dget, dkOf, dtOf, rdS, rdL, asL, isFlat, if_pos, scalAny_strs]
  unfold opIn; rw [this]
theorem opIx_map {α : Type} {f : α → D} {xs : List α} {j : Int} (h0 : 0 ≤ j) (h : j < xs.length) : ∃ x ∈ xs, ∀ S, opIx (.lst (xs.map f)) (.int j) S = .ok (f x) S := by
  have hj : j.toNat < xs.length := by omega
  refine ⟨xs[j.toNat], List.getElem_mem _, fun S => ?_⟩
  rw [opIx_lst, atI_of _ h0, List.getElem?_map, List.getElem?_eq_getElem hj]; rfl
theorem finFrz_set {k n : Nat} {S T : Sto} {o : MO} {d : D} (hn : n < S.length) (ho : o.cl S.length = true) (h : D.cl S.length d = true) : finFrz k S (.ok d (S.set n o ++ T)) = .ok d (S.set n o) := by
  unfold finFrz
  have e : frz (S.set n o ++ T) S.length k [d] = some [d] := frz_cl (by simp only [D.cls, h]; rfl)
  have c : ClS S (S.set n o ++ T) := fun m u hm hu => by
    rw [List.getElem?_append_left (by simpa using hm), List.getElem?_set] at hu
    split at hu
    · cases hu; exact .inr ho
    · exact .inl hu
  simp only [if_pos c, e]
  rw [List.take_left' (by simp)]
/-- a state: two ints -/
def IsSt (S : Sto) (n : Nat) : Prop := ∃ a b : Int, 0 ≤ a ∧ S[n]? = some (.lst [.int a, .int b])
def NxSt (S : Sto) (n : Nat) (T : Sto) : Prop := ∃ a b : Int, 0 ≤ a ∧ T = S.set n (.lst [.int a, .int b])
theorem IsSt.lt {S : Sto} {n : Nat} (h : IsSt S n) : n < S.length := by
  obtain ⟨a, b, _, h⟩ := h
  exact (List.getElem?_eq_some_iff.mp h).1
theorem NxSt.is {S T : Sto} {n : Nat} (h : NxSt S n T) (hn : n < S.length) : IsSt T n := by
  obtain ⟨a, b, h0, e⟩ := h
  subst e
  exact ⟨a, b, h0, by rw [List.getElem?_set_self hn]⟩
theorem set_get {α : Type} {l : List α} {n : Nat} {x : α} (h : l[n]? = some x) : l.set n x = l := by
  apply List.ext_getElem?
  intro i
  rw [List.getElem?_set]
  split
  · rename_i e; subst e
    rw [if_pos (List.getElem?_eq_some_iff.mp h).1, h]
  · rfl
theorem NxSt.refl {S : Sto} {n : Nat} (h : IsSt S n) : NxSt S n S := by
  obtain ⟨a, b, h0, h⟩ := h
  exact ⟨a, b, h0, (set_get h).symm⟩
theorem NxSt.len {S T : Sto} {n : Nat} (h : NxSt S n T) : T.length = S.length := by
  obtain ⟨a, b, h0, e⟩ := h
  subst e; simp
theorem NxSt.trans {S T U : Sto} {n : Nat} (h : NxSt S n T) (g : NxSt T n U) : NxSt S n U := by
  obtain ⟨a, b, h0, e⟩ := h
  obtain ⟨a', b', h0', e'⟩ := g
  subst e e'
  exact ⟨a', b', h0', by rw [List.set_set]⟩
theorem IsSt.app {S T : Sto} {n : Nat} (h : IsSt S n) : IsSt (S ++ T) n := by
  have hl := h.lt
  obtain ⟨a, b, h0, h⟩ := h
  exact ⟨a, b, h0, by rw [List.getElem?_append_left hl]; exact h⟩
theorem NxSt.app {S T U : Sto} {n : Nat} (hn : n < S.length) (h : NxSt (S ++ T) n U) : ∃ S', U = S' ++ T ∧ NxSt S n S' := by
  obtain ⟨a, b, h0, e⟩ := h
  exact ⟨_, by rw [e, List.set_append_left _ _ hn], a, b, h0, rfl⟩
theorem NxSt.frz {k n : Nat} {S S' T : Sto} {d : D} (hn : n < S.length) (h : NxSt S n S') (hd : D.cl S.length d = true) : finFrz k S (.ok d (S' ++ T)) = .ok d S' := by
  obtain ⟨a, b, h0, e⟩ := h
  subst e
  exact finFrz_set hn rfl hd
def knD (kn : List (Str × Nat)) : D := .lst (kn.map fun p => .tup [.str p.1, .int (p.2 : Int)])
def KnOk (kn : List (Str × Nat)) : Prop := ∀ p ∈ kn, IsLab p.1 ∧ p.2 ≤ 4
theorem pl_kn {kn : List (Str × Nat)} (h : KnOk kn) : pl 2 (knD kn) = true := by
  refine pl_all fun d hd => ?_
  obtain ⟨p, hp, e⟩ := List.mem_map.mp hd
  subst e
  simp only [pl, List.all_cons, List.all_nil, Bool.and_true]
  exact (h p hp).1.ok
theorem opNe_kn {S : Sto} {kn : List (Str × Nat)} (h : KnOk kn) : opNe (knD kn) (.lst []) S = .ok (.bl (!decide (kn = []))) S := by
  have := eqD_lst_nil (S := S) (pl_kn h) (by decide)
  unfold knD
  rw [opNe_of this]
  simp
theorem bds_len (bs : List B) : (bds bs).length = bs.length := by rw [bds_map]; simp
theorem bds_app (bs : List B) (b : B) : bds (bs ++ [b]) = bds bs ++ [bd b] := by simp [bds_map]
theorem fldD_app {ls : List Str} {bs : List B} (h : ls.length = bs.length) (l : Str) (b : B) : fldD (ls ++ [l]) (bds (bs ++ [b])) = fldD ls (bds bs) ++ [.tup [.str l, bd b]] := by
  rw [bds_app, fldD, List.zipWith_append (by rw [h, bds_len])]; rfl
theorem fldD_len {ls : List Str} {bs : List B} (h : ls.length = bs.length) : (fldD ls (bds bs)).length = bs.length := by
  rw [fldD, List.length_zipWith, bds_len, h, Nat.min_self]
theorem fldD_names {ls : List Str} {bs : List B} (h : ls.length = bs.length) {grd : Sto → Prop} {S : Sto} {g : Gm} {t : Tm} {e : Em} {δ : Loc} (hg : grd S) (hh : ∀ l d, ∃ δ', g (.tup [.str l, d]) δ S = .ok δ' S ∧ t δ' S = .ok true S ∧ e δ' S = .ok (.str l) S) :
    compM grd g t e δ [] (fldD ls (bds bs)) S = .ok (.lst (ls.map .str)) S := by
  have e1 : fldD ls (bds bs) = (ls.zip bs).map fun p => .tup [.str p.1, bd p.2] := by
    rw [fldD, bds_map, List.zipWith_map_right, List.zip, List.map_zipWith]
  rw [e1, comp_map _ (fun p : Str × B => D.str p.1) hg _ _ fun p _ => hh p.1 _, List.nil_append]
  rw [show (fun p : Str × B => D.str p.1) = D.str ∘ Prod.fst from rfl, ← List.map_map, List.map_fst_zip (by omega)]
theorem fldD_cl {n d : Nat} {ls : List Str} {bs : List B} (h : ∀ b ∈ bs, WB d b) : D.cls n (fldD ls (bds bs)) = true := by
  refine cls_all fun x hx => ?_
  obtain ⟨l, y, e, _, hy⟩ := mem_fldD hx
  rw [bds_map] at hy
  obtain ⟨b, hb, e'⟩ := List.mem_map.mp hy
  subst e e'
  simp only [D.cl, D.cls, bd_cl n (h b hb)]; rfl
/-- a comprehension without a test, by what holds behind each turn -/
theorem comp_ofN {g : Gm} {e : Em} {δ : Loc} {S : Sto} {ds : List D} {r : R D} (hL : compM (fun _ => True) g mYes e δ [] ds S = r) (I : Nat → List D → Sto → Prop) (h0 : I 0 [] S)
    (hs : ∀ (i : Nat) x acc S, ds[i]? = some x → I i acc S → ∃ δ' S1 y S2, g x δ S = .ok δ' S1 ∧ e δ' S1 = .ok y S2 ∧ I (i + 1) (acc ++ [y]) S2) : ∃ acc S', r = .ok (.lst acc) S' ∧ I ds.length acc S' := by
  subst hL
  suffices H : ∀ (ds acc : List D) (n : Nat) (S : Sto), I n acc S → (∀ (i : Nat) x acc S, ds[i]? = some x → I (n + i) acc S → ∃ δ' S1 y S2, g x δ S = .ok δ' S1 ∧ e δ' S1 = .ok y S2 ∧ I (n + i + 1) (acc ++ [y]) S2) →
      ∃ acc' S', compM (fun _ => True) g mYes e δ acc ds S = .ok (.lst acc') S' ∧ I (n + ds.length) acc' S' by
    have := H ds [] 0 S h0 (fun i x acc S hx hI => by
      have := hs i x acc S hx (by rwa [Nat.zero_add] at hI)
      rwa [Nat.zero_add])
    rwa [Nat.zero_add] at this
  intro ds
  induction ds with
  | nil => intro acc n S h0 _; exact ⟨acc, S, compM_nil trivial, h0⟩
  | cons x ds ih =>
    intro acc n S h0 hs
    obtain ⟨δ', S1, y, S2, h1, h2, h3⟩ := hs 0 x acc S rfl h0
    rw [compM_cons trivial, h1]
    simp only [R.quiet_ok, R.bind_ok, mYes_eq, h2, if_pos]
    rw [List.length_cons, show n + (ds.length + 1) = n + 1 + ds.length by omega]
    refine ih _ (n + 1) S2 h3 fun i y acc S hy hI => ?_
    have := hs (i + 1) y acc S (by simpa using hy) (by rwa [show n + (i + 1) = n + 1 + i by omega])
    rwa [show n + (i + 1) + 1 = n + 1 + i + 1 by omega] at this
end PM

/-! PM, part 17: for kids and places -/
namespace PM
open PySem L2
section
variable {g : Gm} {t : Tm} {e : Em} {δ : Loc} {S : Sto} {acc xs : List D} {x : D}
@[simp] theorem compT_nil : compM (fun _ => True) g t e δ acc [] S = .ok (.lst acc) S := compM_nil trivial
theorem compT_cons : compM (fun _ => True) g t e δ acc (x :: xs) S = (g x δ S).quiet.bind fun δ' S1 => (t δ' S1).quiet.bind fun k S2 =>
    if k = true then (e δ' S2).quiet.bind fun y S3 => compM (fun _ => True) g t e δ (acc ++ [y]) xs S3 else compM (fun _ => True) g t e δ acc xs S2 := compM_cons trivial
end
@[simp] theorem cutD_1 {a : D} {ds : List D} : cutD (a :: ds) (some 1) none = ds := by
  unfold cutD
  rw [show (1 : Int) = ((1 : Nat) : Int) from rfl, HT.sIx_none, HT.sIx_nat]
  simp
theorem fldD_vals {ls : List Str} {bs : List B} (h : ls.length = bs.length) {grd : Sto → Prop} {S : Sto} {g : Gm} {t : Tm} {e : Em} {δ : Loc} (hg : grd S) (hh : ∀ l d, ∃ δ', g (.tup [.str l, d]) δ S = .ok δ' S ∧ t δ' S = .ok true S ∧ e δ' S = .ok d S) :
    compM grd g t e δ [] (fldD ls (bds bs)) S = .ok (.lst (bds bs)) S := by
  have e1 : fldD ls (bds bs) = (ls.zip bs).map fun p => .tup [.str p.1, bd p.2] := by
    rw [fldD, bds_map, List.zipWith_map_right, List.zip, List.map_zipWith]
  rw [e1, comp_map _ (fun p : Str × B => bd p.2) hg _ _ fun p _ => hh p.1 _, List.nil_append]
  rw [show (fun p : Str × B => bd p.2) = bd ∘ Prod.snd from rfl, ← List.map_map, List.map_snd_zip (by omega), bds_map]
/-- is it a tuple? -/
theorem isi_bd {S : Sto} (b : B) : opIsi "tuple" (bd b) S = .ok (.bl true) S := by cases b <;> simp [bd]
def lplK (d i : Nat) (ks : List B) : List (P × B) := (enumFrom i ks).flatMap (fun q => (lpl d q.2).map fun r => (q.1 :: r.1, r.2))
theorem lpl_succ (d : Nat) (b : B) : lpl (d + 1) b = lplK d 0 (kidsB b) ++ [([], b)] := rfl
theorem lplK_nil (d i : Nat) : lplK d i [] = [] := rfl
theorem lplK_cons (d i : Nat) (c : B) (ks : List B) : lplK d i (c :: ks) = ((lpl d c).map fun r => (i :: r.1, r.2)) ++ lplK d (i + 1) ks := rfl
theorem drop_get {α : Type} {l : List α} {i : Nat} {x : α} (h : l[i]? = some x) : l.drop i = x :: l.drop (i + 1) := by
  obtain ⟨hl, e⟩ := List.getElem?_eq_some_iff.mp h
  rw [List.drop_eq_getElem_cons hl, e]
/-- a loop that leaves the objects -/
theorem loop_same {grd : Sto → Prop} {b : D → Sm} {S : Sto} {r : RS} (hg : grd S) (I : Loc → Prop) : ∀ {ds : List D} {δ : Loc}, loopM grd b ds δ S = r → I δ → (∀ x ∈ ds, ∀ δ, I δ → ∃ δ', (b x δ S = .nx δ' S ∨ b x δ S = .ct δ' S) ∧ I δ') → ∃ δ', r = .nx δ' S ∧ I δ'
  | [], δ, hL, h0, _ => ⟨δ, by rw [← hL, loopM, if_pos hg], h0⟩
  | x :: ds, δ, hL, h0, hs => by
    obtain ⟨δ1, h1, h2⟩ := hs x (by simp) δ h0
    have e : loopM grd b ds δ1 S = r := by
      rw [loopM, if_pos hg] at hL
      rcases h1 with h1 | h1 <;> rw [h1] at hL <;> exact hL
    exact loop_same hg I e h2 fun y hy => hs y (by simp [hy])
theorem pd_cons (i : Nat) (p : P) : (D.tup (.int (i : Int) :: p.map fun (i : Nat) => .int (i : Int))) = pd (i :: p) := rfl
def rD (r : P × B) : D := .tup [pd r.1, bd r.2]
theorem rD_cl {d n : Nat} {b : B} (h : WB d b) : D.cls n ((lpl d b).map rD) = true := by
  refine cls_map fun r hr => ?_
  obtain ⟨h1, _⟩ := lpl_wb (p := r.1) (x := r.2) h hr
  simp only [rD, D.cl, D.cls, pd_cl, bd_cl n h1]; rfl
theorem pd_cls (n : Nat) (ps : List P) : D.cls n (ps.map pd) = true := cls_map fun p _ => pd_cl n p
theorem pl_pds (ps : List P) : pl 3 (.lst (ps.map pd)) = true := by
  refine pl_all fun d hd => ?_
  obtain ⟨p, hp, e⟩ := List.mem_map.mp hd
  subst e
  refine pl_all fun d hd => ?_
  obtain ⟨i, hi, e⟩ := List.mem_map.mp hd
  subst e; rfl
theorem finKeep_app {S T : Sto} {ds : List D} {m : Nat} (hm : S.length ≤ m) (hd : (S ++ T)[m]? = some (.lst ds)) (h : D.cls S.length ds = true) : finKeep S (.ok (.ref m) (S ++ T)) = .ok (.ref S.length) (S ++ [.lst ds]) := by
  unfold finKeep
  simp only [hd, List.take_left]
  rw [if_pos ⟨ClS.app, hm, h⟩]
end PM

/-! PM, part 18: for the laws -/
namespace PM
open PySem L2
theorem lab_known {s : Str} (h : s.cps.toList.all (fun x => decide (97 ≤ x ∧ x < 123)) = true) (h1 : 1 ≤ s.length) (h2 : s.length ≤ 8) : IsLab s :=
  ⟨fun x hx => by have := List.all_eq_true.mp h x hx; simpa using this, h1, h2⟩
theorem isLab_f : IsLab (Str.ofString "f") := lab_known (by decide +kernel) (by decide +kernel) (by decide +kernel)
theorem isLab_g : IsLab (Str.ofString "g") := lab_known (by decide +kernel) (by decide +kernel) (by decide +kernel)
theorem isLab_h : IsLab (Str.ofString "h") := lab_known (by decide +kernel) (by decide +kernel) (by decide +kernel)
theorem labs_ne {c : Int} {m : Nat} (h : 0 < m) : labs c m ≠ [] := by
  intro e
  have := congrArg List.length e
  rw [labs_len] at this; simp at this; omega
theorem pl_bds {α : Type} {xs : List α} {f : α → B} {d : Nat} (h : ∀ x ∈ xs, WB d (f x)) : pl (3 * d + 1) (.lst (xs.map fun x => bd (f x))) = true := by
  refine pl_all fun y hy => ?_
  obtain ⟨x, hx, e⟩ := List.mem_map.mp hy
  subst e
  exact pl_bd (h x hx)
theorem isi_lt (p : P) {S : Sto} : opIsi "tuple" (pd p) S = .ok (.bl true) S := by simp [pd]
/-- a cell of a script -/
def cellv (ns : List Int) (j : Nat) : Int := if h : j < ns.length then ns[j] * 48271 % 2147483647 else 0
theorem cellv_lo (ns : List Int) (j : Nat) : 0 ≤ cellv ns j := by unfold cellv; split <;> omega
theorem cellv_hi (ns : List Int) (j : Nat) : cellv ns j < 2147483647 := by unfold cellv; split <;> omega
end PM

/-! PM, part 19: dicts made, texts sorted, is of truths, index -/
namespace PM
open PySem PySem.Spec L2 PyProof.Rows
/-! ### the order of texts -/
def leS (a b : Str) : Bool := !ltCps b.cps.toList a.cps.toList
theorem lt_irr : ∀ a : List Nat, ltCps a a = false
  | [] => rfl
  | x :: a => by simp only [ltCps, lt_irr a, Bool.and_false, Bool.or_false]; exact decide_eq_false (Nat.lt_irrefl x)
theorem lt_tri : ∀ a b : List Nat, ltCps a b = false → ltCps b a = false → a = b
  | [], [], _, _ => rfl
  | [], y :: b, h, _ => by cases h
  | x :: a, [], _, h => by cases h
  | x :: a, y :: b, h1, h2 => by
    simp only [ltCps, Bool.or_eq_false_iff, Bool.and_eq_false_iff, decide_eq_false_iff_not] at h1 h2
    have e : x = y := by omega
    subst e
    simp only [beq_self_eq_true, Bool.true_eq_false, false_or] at h1 h2
    rw [lt_tri a b h1.2 h2.2]
theorem lt_cot : ∀ a b c : List Nat, ltCps c a = true → ltCps c b = true ∨ ltCps b a = true
  | [], _, [], h => by cases h
  | [], _, _ :: _, h => by cases h
  | x :: a, [], [], _ => .inr rfl
  | x :: a, y :: b, [], _ => .inl rfl
  | x :: a, [], z :: c, _ => .inr rfl
  | x :: a, y :: b, z :: c, h => by
    simp only [ltCps, Bool.or_eq_true, Bool.and_eq_true, decide_eq_true_eq, beq_iff_eq] at h ⊢
    rcases h with h | ⟨e, h⟩
    · by_cases h1 : z < y
      · exact .inl (.inl h1)
      · exact .inr (.inl (by omega))
    · subst e
      rcases Nat.lt_trichotomy z y with h1 | h1 | h1
      · exact .inl (.inl h1)
      · subst h1
        rcases lt_cot a b c h with h2 | h2
        · exact .inl (.inr ⟨rfl, h2⟩)
        · exact .inr (.inr ⟨rfl, h2⟩)
      · exact .inr (.inl h1)
theorem str_ext {a b : Str} (h : a.cps.toList = b.cps.toList) : a = b := by
  obtain ⟨a⟩ := a
  obtain ⟨b⟩ := b
  have : a = b := by simpa using congrArg List.toArray h
  rw [this]
theorem leS_anti {a b : Str} (h1 : leS a b = true) (h2 : leS b a = true) : a = b := by
  unfold leS at h1 h2
  simp only [Bool.not_eq_true'] at h1 h2
  exact str_ext (lt_tri _ _ h2 h1)
theorem leS_trans {a b c : Str} (h1 : leS a b = true) (h2 : leS b c = true) : leS a c = true := by
  unfold leS at *
  simp only [Bool.not_eq_true'] at *
  cases h : ltCps c.cps.toList a.cps.toList with
  | false => rfl
  | true =>
    rcases lt_cot _ b.cps.toList _ h with h3 | h3
    · rw [h3] at h2; cases h2
    · rw [h3] at h1; cases h1
theorem lt_asym : ∀ a b : List Nat, ltCps a b = true → ltCps b a = false
  | [], [], h => by cases h
  | [], _ :: _, _ => rfl
  | _ :: _, [], h => by cases h
  | x :: a, y :: b, h => by
    simp only [ltCps, Bool.or_eq_true, Bool.and_eq_true, decide_eq_true_eq, beq_iff_eq] at h
    simp only [ltCps, Bool.or_eq_false_iff, Bool.and_eq_false_iff, decide_eq_false_iff_not]
    rcases h with h | ⟨e, h⟩
    · exact ⟨by omega, .inl (by simp; omega)⟩
    · subst e
      exact ⟨Nat.lt_irrefl _, .inr (lt_asym a b h)⟩
theorem leS_total (a b : Str) : leS a b = true ∨ leS b a = true := by
  unfold leS
  cases h : ltCps b.cps.toList a.cps.toList with
  | false => exact .inl rfl
  | true => exact .inr (by rw [lt_asym _ _ h]; rfl)
def sortStr (xs : List Str) : List Str := xs.mergeSort leS
theorem sortStr_perm (xs : List Str) : (sortStr xs).Perm xs := List.mergeSort_perm xs leS
theorem sortStr_sorted (xs : List Str) : (sortStr xs).Pairwise fun a b => leS a b = true :=
  List.pairwise_mergeSort (le := leS) (fun a b c h1 h2 => leS_trans h1 h2) (fun a b => by rw [Bool.or_eq_true]; exact leS_total a b) xs
theorem pw_of_sortedS : ∀ {ys : List Str}, sortedS ys = true → ys.Pairwise fun a b => leS a b = true
  | [], _ => .nil
  | [x], _ => .cons (by simp) .nil
  | x :: y :: r, h => by
    have h' : leS x y = true ∧ sortedS (y :: r) = true := by
      simp only [sortedS, risingS, Bool.and_eq_true] at h
      exact ⟨h.1, h.2⟩
    have ih := pw_of_sortedS h'.2
    refine .cons (fun z hz => ?_) ih
    rcases List.mem_cons.mp hz with e | hz
    · rw [e]; exact h'.1
    · exact leS_trans h'.1 (List.rel_of_pairwise_cons ih hz)
theorem sorted_uniq : ∀ {l m : List Str}, l.Perm m → l.Pairwise (fun a b => leS a b = true) → m.Pairwise (fun a b => leS a b = true) → l = m
  | [], m, p, _, _ => p.nil_eq
  | x :: l, [], p, _, _ => by have := p.length_eq; simp at this
  | x :: l, y :: m, p, hl, hm => by
    have e : x = y := by
      have h1 : x ∈ y :: m := p.mem_iff.mp (by simp)
      have h2 : y ∈ x :: l := p.mem_iff.mpr (by simp)
      rcases List.mem_cons.mp h1 with e | h1
      · exact e
      rcases List.mem_cons.mp h2 with e | h2
      · exact e.symm
      · exact leS_anti (List.rel_of_pairwise_cons hl h2) (List.rel_of_pairwise_cons hm h1)
    subst e
    rw [sorted_uniq p.cons_inv hl.tail hm.tail]
theorem sortStr_eq {xs ys : List Str} (p : ys.Perm xs) (h : sortedS ys = true) : ys = sortStr xs :=
  sorted_uniq (p.trans (sortStr_perm xs).symm) (pw_of_sortedS h) (sortStr_sorted xs)
section
variable {X : Cx}
/-- sorted(xs), texts, any number of them -/
theorem cr_sortedT : CallR X (.builtin "sorted") (fun vs H Q => ∃ (a : Addr) (zs : List Str), vs = [V.ref a] ∧ SqL X.K H a (zs.map V.str) ∧ ∀ p : Addr, H p = none → Q (.ref p) (upd H p (.lst ((sortStr zs).map V.str)))) := by
  intro pins s σ H vs us Q I r ⟨a, zs, e, hs, q⟩
  subst e
  obtain ⟨is, rv, hl, hz⟩ := I.list hs
  rw [Vals.ref1 r]
  refine PyProof.Rows.sorted_strsAny hl.isList rv.strs (by rw [← rv.length]; exact hz) fun out ys h1 h2 h3 => ?_
  obtain ⟨ep, he⟩ := PyProof.Rows.sortedAll_at s.heap is out
  have e := sortStr_eq h2 h3
  subst e
  have hl2 : ((sortStr zs).map V.str).length ≤ sizeLine := by rw [List.length_map, h2.length_eq]; rw [List.length_map] at hz; exact hz
  exact ⟨.ref _, upd H (s.heap.objs.size + 1) (.lst ((sortStr zs).map V.str)), I.laid (t' := s.toks) (fun _ _ => PyProof.Rows.sortedAll_old) (Nat.le_succ _) ⟨hl2, out.toList, ep, vals_of_strs h1, he⟩, rfl, q _ (I.hok.fresh (Nat.le_succ _))⟩
def cSorted (ds : List D) (S : Sto) : R D := match ds with
  | [d] => match rdL S d with
    | some es => match strsOf es with
      | some zs => .ok (.lst ((sortStr zs).map .str)) S
      | none => .stuck
    | none => .stuck
  | _ => .stuck
theorem rds_strs {H : Hp} {ι : Z} : ∀ {ds : List D} {vs : List V} {ys : List Str}, RDs H ι ds vs → strsOf ds = some ys → ∀ z ∈ ys, z.length ≤ sizeLine
  | [], vs, ys, r, h => by simp only [strsOf, Option.some.injEq] at h; subst h; simp
  | d :: ds, vs, ys, r, h => by
    simp only [RDs] at r
    obtain ⟨v, w, e, r1, r2⟩ := r
    cases d with
    | str s =>
      simp only [strsOf, Option.map_eq_some_iff] at h
      obtain ⟨zs, h2, e⟩ := h
      subst e
      simp only [RD] at r1
      intro z hz
      rcases List.mem_cons.mp hz with e | hz
      · rw [e]; exact r1.2
      · exact rds_strs r2 h2 z hz
    | _ => simp only [strsOf] at h; cases h
theorem rds_mapstr {H : Hp} {ι : Z} : ∀ {ys : List Str}, (∀ z ∈ ys, z.length ≤ sizeLine) → RDs H ι (ys.map .str) (ys.map V.str)
  | [], _ => .nil
  | y :: ys, h => .cons (by simp only [RD]; exact ⟨trivial, h y (by simp)⟩) (rds_mapstr fun z hz => h z (by simp [hz]))
theorem cSorted_ok : CallD X (.builtin "sorted") cSorted := by
  refine ⟨_, cr_sortedT, fun W ι S H xs dxs Q rp rx q => ?_⟩
  unfold cSorted at q
  split at q
  · rename_i d
    obtain ⟨v, e, r⟩ := rds_one rx
    subst e
    split at q
    · rename_i es hes
      obtain ⟨a, vs, e, hq, h2, z⟩ := rdL_ok rp r hes
      subst e
      split at q
      · rename_i zs hzs
        have ev := strsOf_ok h2 hzs
        subst ev
        refine ⟨a, zs, rfl, hq, fun p hp => q.at (Step.new hp) (rp.new hp) (rd_newLst rp (rds_mapstr fun x hx => rds_strs h2 hzs x ((sortStr_perm zs).mem_iff.mp hx)) ?_ hp)⟩
        have := h2.length
        rw [List.length_map] at this ⊢
        rw [(sortStr_perm zs).length_eq, ← this]; exact z
      · exact q.elim
    · exact q.elim
  · exact q.elim
/-! ### is True, is not True -/
def opIsB (x y : D) (S : Sto) : R D := match x, y with
  | .bl a, .bl b => .ok (.bl (decide (a = b))) S
  | _, _ => .stuck
def opNotB (x y : D) (S : Sto) : R D := match x, y with
  | .bl a, .bl b => .ok (.bl (!decide (a = b))) S
  | _, _ => .stuck
theorem opIsB_ok : OpD X (compareOp .Is) opIsB := by
  refine ⟨_, op_isBl, fun W ι S H x y dx dy Q rp rx ry q => ?_⟩
  unfold opIsB at q
  split at q
  · simp only [RD] at rx ry
    exact ⟨_, _, rx, ry, q.here rp (by simp only [RD])⟩
  · exact q.elim
theorem opNotB_ok : OpD X (compareOp .IsNot) opNotB := by
  refine ⟨_, op_notBl, fun W ι S H x y dx dy Q rp rx ry q => ?_⟩
  unfold opNotB at q
  split at q
  · simp only [RD] at rx ry
    exact ⟨_, _, rx, ry, q.here rp (by simp only [RD])⟩
  · exact q.elim
/-! ### l.index(x) -/
def cIndex (d : D) (xs : List D) (S : Sto) : R D := match xs with
  | [x] => match tpd S d, tpd S x with
    | some (.list ps), some p => if SeqAt.shaped (.list ps) = true ∧ SeqAt.shaped p = true then (match ps.findIdx? fun z => PyData.eqv z p with
      | some j => .ok (.int (j : Nat)) S
      | none => .stuck) else .stuck
    | _, _ => .stuck
  | _ => .stuck
theorem cIndex_ok {k : Nat} (hr : Room k X.A) : MtD X "list.index" cIndex := by
  refine ⟨_, mt_indexD (by have := hr.un; omega), fun W ι S H x xs dx dxs Q rp rx rs q => ?_⟩
  unfold cIndex at q
  split at q
  · rename_i d
    obtain ⟨v, e, r⟩ := rds_one rs
    subst e
    split at q
    · rename_i ps p hps hp
      split at q
      · rename_i hs
        split at q
        · rename_i j hj
          have h1 := tpd_ok rp hps rx
          have h2 := tpd_ok rp hp r
          rw [List.findIdx?_eq_some_iff_getElem] at hj
          obtain ⟨hl, h3, h4⟩ := hj
          obtain ⟨a, ea⟩ : ∃ a, x = .ref a := by cases h1; exact ⟨_, rfl⟩
          subst ea
          refine ⟨a, v, p, ps, j, ps[j], rfl, rfl, h1, h2, hs.1, hs.2, List.getElem?_eq_getElem hl, h3, fun m z hm hz => ?_, q.here rp (by simp only [RD])⟩
          obtain ⟨hm2, e⟩ := List.getElem?_eq_some_iff.mp hz
          have := h4 m hm
          rw [e] at this
          simpa using this
        · exact q.elim
      · exact q.elim
    · exact q.elim
  · exact q.elim
end
end PM

/-! PM, part 20: dicts made -/
namespace PM
open PySem PySem.Spec L2 PyProof.Rows
section
variable {X : Cx} {W : WX} {pos : Pos}
/-! ### {} -/
def mNewK : Em := fun _ S => .ok (.ref S.length) (S ++ [.dK [] []])
@[simp] theorem mNewK_eq {δ : PM.Loc} {S : Sto} : mNewK δ S = .ok (.ref S.length) (S ++ [.dK [] []]) := (rfl)
theorem de_newK : DE X W (.Dict [] [] pos) mNewK := pe_imp pe_dnewK fun σ H Q ⟨ι, S, δ, rp, rs, g⟩ p hp => by
  have q2 := rep_newRef (m := .dK [] []) (u := .dK []) rp hp ⟨[], upd_same, rfl, Nat.zero_le _, .nil⟩
  exact G.at g (Step.newRef hp) q2.1 q2.2
/-! ### list(d) -/
def keyD : Key → D
  | .inl i => .int i
  | .inr s => .str s
def keyFit : Key → Bool
  | .inr s => decide (s.length ≤ sizeLine)
  | .inl _ => true
def cListK (ds : List D) (S : Sto) : R D := match ds with
  | [.ref n] => match S[n]? with
    | some (.dK ks _) => if ks.all keyFit = true then .ok (.lst (ks.map keyD)) S else .stuck
    | _ => .stuck
  | _ => .stuck
theorem rds_keys {H : Hp} {ι : Z} : ∀ {ks : List Key}, ks.all keyFit = true → RDs H ι (ks.map keyD) (ks.map kV)
  | [], _ => .nil
  | .inl i :: ks, h => .cons (by simp only [keyD, RD]; rfl) (rds_keys (by simpa [keyFit] using h))
  | .inr s :: ks, h => by
    simp only [List.all_cons, Bool.and_eq_true, keyFit, decide_eq_true_eq] at h
    exact .cons (by simp only [keyD, RD]; exact ⟨rfl, h.1⟩) (rds_keys h.2)
theorem cListK_ok (hc : X.calm = true) : CallD X (.type "list") cListK := by
  refine ⟨_, call_list_dK hc, fun W ι S H xs dxs Q rp rx q => ?_⟩
  unfold cListK at q
  split at q
  · rename_i n
    obtain ⟨v, e, r⟩ := rds_one rx
    subst e
    simp only [RD] at r
    obtain ⟨a, e, h1⟩ := r
    subst e
    obtain ⟨o, e2, ro⟩ := rp.has h1
    rw [e2] at q
    cases o with
    | dK ks ds =>
      dsimp only at q
      split at q
      · rename_i hk
        obtain ⟨vs, h3, hz, hl, h4⟩ := ro
        refine ⟨a, _, rfl, h3, fun p hp => ?_⟩
        have e3 : (ks.zip vs).map (fun kv => kV kv.1) = ks.map kV := by
          rw [show (fun kv : Key × V => kV kv.1) = kV ∘ Prod.fst from rfl, ← List.map_map, List.map_fst_zip (by rw [hz, h4.length]; omega)]
        rw [e3]
        exact q.at (Step.new hp) (rp.new hp) (rd_newLst rp (rds_keys hk) (by rw [List.length_map]; exact hl) hp)
      · exact q.elim
    | _ => exact q.elim
  · exact q.elim
/-! ### dict(pairs) -/
def pairOf : D → Option (Key × D)
  | .tup [k, d] => (keyOf k).map fun k => (k, d)
  | _ => none
def pairsD : List D → Option (List (Key × D))
  | [] => some []
  | d :: ds => (pairOf d).bind fun p => (pairsD ds).map (p :: ·)
def mergeD : List Key → List D → List (Key × D) → List Key × List D
  | ks, ds, [] => (ks, ds)
  | ks, ds, p :: ps => mergeD (insK ks p.1) (insD ks ds p.1 p.2) ps
theorem mergeD_ok {H : Hp} {ι : Z} : ∀ {ps : List (Key × D)} {kvs : List (Key × V)} {ks : List Key} {ds : List D} {vs : List V}, Paired (fun (p : Key × D) (kv : Key × V) => p.1 = kv.1 ∧ RD H ι p.2 kv.2) ps kvs →
    ks.length = ds.length → RDs H ι ds vs → ∃ ws, mergeK (ks.zip vs) kvs = (mergeD ks ds ps).1.zip ws ∧ (mergeD ks ds ps).1.length = (mergeD ks ds ps).2.length ∧ RDs H ι (mergeD ks ds ps).2 ws
  | _, _, ks, ds, vs, .nil, hl, r => ⟨vs, rfl, hl, r⟩
  | p :: ps, kv :: kvs, ks, ds, vs, .cons h t, hl, r => by
    obtain ⟨ws, e, hl2, r2⟩ := insK_put (k := p.1) hl r h.2
    obtain ⟨us, e2, hl3, r3⟩ := mergeD_ok t hl2 r2
    refine ⟨us, ?_, hl3, r3⟩
    show mergeK (putK (ks.zip vs) kv.1 kv.2) kvs = _
    rw [← h.1, e]; exact e2
theorem pairsD_ok {H : Hp} {ι : Z} : ∀ {es : List D} {vs : List V} {ps : List (Key × D)}, RDs H ι es vs → pairsD es = some ps → ∃ (as : List Addr) (kvs : List (Key × V)), vs = as.map V.ref ∧ Paired (fun a kv => Tp H a [kV kv.1, kv.2]) as kvs ∧ Paired (fun (p : Key × D) (kv : Key × V) => p.1 = kv.1 ∧ RD H ι p.2 kv.2) ps kvs
  | [], vs, ps, r, h => by
    simp only [pairsD, Option.some.injEq] at h
    simp only [RDs] at r
    subst h r
    exact ⟨[], [], rfl, .nil, .nil⟩
  | d :: es, vs, ps, r, h => by
    simp only [RDs] at r
    obtain ⟨v, w, e, r1, r2⟩ := r
    subst e
    simp only [pairsD] at h
    cases h1 : pairOf d with
    | none => rw [h1] at h; cases h
    | some p =>
      rw [h1] at h
      simp only [Option.bind_some, Option.map_eq_some_iff] at h
      obtain ⟨ps', h2, e⟩ := h
      subst e
      obtain ⟨as, kvs, e1, q1, q2⟩ := pairsD_ok r2 h2
      subst e1
      unfold pairOf at h1
      split at h1
      · rename_i k x
        rw [Option.map_eq_some_iff] at h1
        obtain ⟨kk, hk, e⟩ := h1
        subst e
        simp only [RD] at r1
        obtain ⟨a, us, e, t, z, r3⟩ := r1
        subst e
        obtain ⟨u1, u2, e, r4, r5⟩ := rds_two r3
        subst e
        rw [keyOf_ok r4 hk] at t
        exact ⟨a :: as, (kk, u2) :: kvs, rfl, .cons t q1, .cons ⟨rfl, r5⟩ q2⟩
      · cases h1
theorem pairsD_len : ∀ {es : List D} {ps : List (Key × D)}, pairsD es = some ps → ps.length = es.length
  | [], ps, h => by simp only [pairsD, Option.some.injEq] at h; subst h; rfl
  | d :: es, ps, h => by
    simp only [pairsD] at h
    cases h1 : pairOf d with
    | none => rw [h1] at h; cases h
    | some p =>
      rw [h1] at h
      simp only [Option.bind_some, Option.map_eq_some_iff] at h
      obtain ⟨ps', h2, e⟩ := h
      subst e
      simp [pairsD_len h2]
theorem mergeD_len : ∀ (ps : List (Key × D)) (ks : List Key) (ds : List D), (mergeD ks ds ps).1.length ≤ ks.length + ps.length
  | [], ks, ds => Nat.le_refl _
  | p :: ps, ks, ds => by
    have := mergeD_len ps (insK ks p.1) (insD ks ds p.1 p.2)
    have := insK_len ks p.1
    simp only [mergeD, List.length_cons]; omega
end
section
variable {X : Cx} {pins : List (Addr × Obj)} {σ : L2.St} {H : Hp} {s : Shared}
/-- the pairs, at the level of the library -/
theorem pairs_at (I : Inv X pins σ H s) : ∀ {as : List Addr} {kvs : List (Key × V)}, Paired (fun a kv => Tp H a [kV kv.1, kv.2]) as kvs →
    ∃ (vs : List (Value × Value)) (prs : List (Key × Value)), KV kvs prs ∧ vs.length = as.length ∧ prs.length = as.length ∧ ∀ (j : Nat) (k v : Value), vs[j]? = some (k, v) → ∃ (b : Addr) (kk : Key), as[j]? = some b ∧ PySem.PairAt s.heap b k v ∧ prs[j]? = some (kk, v) ∧ (mixKind X.prog X.w).is kk k = true
  | _, _, .nil => ⟨[], [], .nil, rfl, rfl, fun j k v h => by simp at h⟩
  | a :: as, kv :: kvs, .cons h t => by
    obtain ⟨vs, prs, h1, h2, h3, h4⟩ := pairs_at I t
    obtain ⟨is, rv, ht, _⟩ := I.tuple (h.sq (K := X.K))
    obtain ⟨u, y, ei, ru, ry⟩ := vals2 rv
    subst ei
    refine ⟨(u, y) :: vs, (kv.1, y) :: prs, .cons ⟨rfl, ry⟩ h1, by simp [h2], by simp [h3], fun j k v hj => ?_⟩
    cases j with
    | zero =>
      simp only [List.getElem?_cons_zero, Option.some.injEq, Prod.mk.injEq] at hj
      obtain ⟨e1, e2⟩ := hj
      subst e1 e2
      exact ⟨a, kv.1, rfl, .inl ht, rfl, kV_is ru⟩
    | succ j =>
      obtain ⟨b, kk, q1, q2, q3, q4⟩ := h4 j k v (by simpa using hj)
      exact ⟨b, kk, by simpa using q1, q2, by simpa using q3, q4⟩
theorem cr_dictT (hcalm : X.calm = true) : CallR X (.type "dict") (fun xs H Q => ∃ (a : Addr) (as : List Addr) (kvs : List (Key × V)), xs = [.ref a] ∧ Tp H a (as.map V.ref) ∧ Paired (fun a kv => Tp H a [kV kv.1, kv.2]) as kvs ∧
    ∀ p, H p = none → Q (.ref p) (upd H p (.dK (mergeK [] kvs)))) := by
  intro pins s σ H xs us Q I r ⟨a, as, kvs, e, ⟨o, ho, hd⟩, hp, q⟩
  subst e
  obtain ⟨u, eu, rx⟩ := vals1 r
  subst eu
  cases rx
  obtain ⟨hg, hz, is, rv, o2, hg2, hc, n, hdat⟩ := (show ObjOk X.prog X.w H s.heap a (.frz o (.tup (as.map V.ref))) from I.hok a _ ho)
  rw [hg] at hg2
  cases hg2
  have ei := refs_at rv
  subst ei
  rw [List.length_map] at hz
  obtain ⟨vs, prs, rel, h2, h3, h4⟩ := pairs_at I hp
  refine PySem.call_dict_pairs (knd := mixKind X.prog X.w) (kvs := prs) (PySem.PairArg.tuple a _ (fun j => as[j]?.getD 0) vs) (I.ok.hd hcalm) ⟨⟨o, n, hg, hc, hd, hdat⟩, by simp [h2], fun j k v hj => ?_⟩ ⟨by rw [h3, h2], fun j k v hj => ?_⟩ (by rw [h2]; exact hz) fun h' tk hd' hk => ?_
  · obtain ⟨b, kk, q1, q2, q3, q4⟩ := h4 j k v hj
    refine ⟨?_, ?_⟩
    · simp [q1]
    · simp only [q1, Option.getD_some]; exact q2
  · obtain ⟨b, kk, q1, q2, q3, q4⟩ := h4 j k v hj
    exact ⟨kk, q3, q4⟩
  · have hm : (s.heap.objs.size == sysModules) = false := beq_eq_false_iff_ne.mpr (Nat.ne_of_gt I.big)
    have hlen : (mergeK [] kvs).length ≤ sizeLine := by
      refine Nat.le_trans (length_mergeK kvs []) ?_
      rw [List.length_nil, Nat.zero_add, rel.length, h3]
      exact hz
    exact ⟨.ref s.heap.objs.size, upd H s.heap.objs.size (.dK (mergeK [] kvs)), I.laid (t' := tk) (fun b o e => hk b o (by simp) e) (Nat.le_refl _) (show ObjOk X.prog X.w _ _ _ (.dK (mergeK [] kvs)) from ⟨hlen, hm, PySem.merged [] prs, KV.merge rel .nil, hd'⟩), rfl, q _ (I.hok.fresh (Nat.le_refl _))⟩
theorem dict_fin {W : XK} {ι : Z} {S : Sto} {Q : VK} (rp : Rep H ι X.ek S) {es : List D} {vs : List V} {ps : List (Key × D)} (r : RDs H ι es vs) (hz : es.length ≤ sizeLine) (hp : pairsD es = some ps)
    (q : ∀ p ws, H p = none → (mergeD [] [] ps).1.length = (mergeD [] [] ps).2.length → (mergeD [] [] ps).1.length ≤ sizeLine → RDs H ι (mergeD [] [] ps).2 ws → Q (.ref p) (upd H p (.dK ((mergeD [] [] ps).1.zip ws)))) :
    ∃ (as : List Addr) (kvs : List (Key × V)), vs = as.map V.ref ∧ Paired (fun a kv => Tp H a [kV kv.1, kv.2]) as kvs ∧ ∀ p, H p = none → Q (.ref p) (upd H p (.dK (mergeK [] kvs))) := by
  obtain ⟨as, kvs, e, h1, h2⟩ := pairsD_ok r hp
  refine ⟨as, kvs, e, h1, fun p hpn => ?_⟩
  obtain ⟨ws, e2, hl, r2⟩ := mergeD_ok (ks := []) (ds := []) (vs := []) h2 rfl .nil
  have e3 : mergeK [] kvs = (mergeD [] [] ps).1.zip ws := e2
  rw [e3]
  refine q p ws hpn hl ?_ r2
  refine Nat.le_trans (mergeD_len _ [] []) ?_
  rw [List.length_nil, Nat.zero_add, pairsD_len hp]; exact hz
/-- the pairs of a tuple or list -/
def itP (S : Sto) : D → Option (List (Key × D))
  | .tup es => pairsD es
  | d => (rdL S d).bind pairsD
theorem dict_call {W : XK} {ι : Z} {S : Sto} {Q : VK} (rp : Rep H ι X.ek S) {d : D} {xs : List V} {ps : List (Key × D)} (rx : RDs H ι [d] xs) (h : itP S d = some ps)
    (q : ∀ p ws, H p = none → (mergeD [] [] ps).1.length = (mergeD [] [] ps).2.length → (mergeD [] [] ps).1.length ≤ sizeLine → RDs H ι (mergeD [] [] ps).2 ws → Q (.ref p) (upd H p (.dK ((mergeD [] [] ps).1.zip ws)))) :
    (∃ (a : Addr) (as : List Addr) (kvs : List (Key × V)), xs = [.ref a] ∧ Tp H a (as.map V.ref) ∧ Paired (fun a kv => Tp H a [kV kv.1, kv.2]) as kvs ∧ ∀ p, H p = none → Q (.ref p) (upd H p (.dK (mergeK [] kvs)))) ∨
    (∃ (a : Addr) (ps : List Addr) (kvs : List (Key × V)), xs = [.ref a] ∧ SqL X.K H a (ps.map V.ref) ∧ Paired (fun p kv => SqT X.K H p [kV kv.1, kv.2]) ps kvs ∧ ∀ p, H p = none → Q (.ref p) (upd H p (.dK (mergeK [] kvs)))) := by
  obtain ⟨v, e, r⟩ := rds_one rx
  subst e
  unfold itP at h
  split at h
  · rename_i es
    simp only [RD] at r
    obtain ⟨a, vs, e, t, z, r2⟩ := r
    subst e
    obtain ⟨as, kvs, e, h1, h2⟩ := dict_fin (W := W) rp r2 z h q
    subst e
    exact .inl ⟨a, as, kvs, rfl, t, h1, h2⟩
  · rename_i d _
    rw [Option.bind_eq_some_iff] at h
    obtain ⟨es, hes, hps⟩ := h
    obtain ⟨a, vs, e, hq, r2, z⟩ := rdL_ok rp r hes
    subst e
    obtain ⟨as, kvs, e, h1, h2⟩ := dict_fin (W := W) rp r2 z hps q
    subst e
    exact .inr ⟨a, as, kvs, rfl, hq, L2.Paired.mapP h1 fun _ _ h => h.sq, h2⟩
def cDict (ds : List D) (S : Sto) : R D := match ds with
  | [d] => match itP S d with
    | some ps => .ok (.dct (mergeD [] [] ps).1 (mergeD [] [] ps).2) S
    | none => .stuck
  | _ => .stuck
theorem cDict_ok (hc : X.calm = true) : CallD X (.type "dict") cDict := by
  refine ⟨_, CallR.or (cr_dictT hc) (call_dictP hc), fun W ι S H xs dxs Q rp rx q => ?_⟩
  unfold cDict at q
  split at q
  · split at q
    · rename_i ps hps
      refine dict_call (W := W) rp rx hps fun p ws hpn hl hz r2 => q.at (Step.new hpn) (rp.new hpn) ?_
      simp only [RD]
      exact ⟨p, ws, rfl, .inl upd_same, rp.fresh hpn, hl, hz, r2.mono (Step.new hpn).up⟩
    · exact q.elim
  · exact q.elim
/-- .. a dict that may be changed -/
def cDictR (ds : List D) (S : Sto) : R D := match ds with
  | [d] => match itP S d with
    | some ps => .ok (.ref S.length) (S ++ [.dK (mergeD [] [] ps).1 (mergeD [] [] ps).2])
    | none => .stuck
  | _ => .stuck
theorem cDictR_ok (hc : X.calm = true) : CallD X (.type "dict") cDictR := by
  refine ⟨_, CallR.or (cr_dictT hc) (call_dictP hc), fun W ι S H xs dxs Q rp rx q => ?_⟩
  unfold cDictR at q
  split at q
  · split at q
    · rename_i ps hps
      refine dict_call (W := W) rp rx hps fun p ws hpn hl hz r2 => ?_
      have q2 := rep_newRef (m := .dK (mergeD [] [] ps).1 (mergeD [] [] ps).2) (u := .dK ((mergeD [] [] ps).1.zip ws)) rp hpn ⟨ws, upd_same, hl, hz, r2.mono (Step.newRef hpn).up⟩
      exact q.at (Step.newRef hpn) q2.1 q2.2
    · exact q.elim
  · exact q.elim
end
end PM

/-! PM, part 21: kinds and values (plain) -/
namespace PM
open PySem L2
inductive K where
  | num | blk (n : Int) | rc (ls : List Str) (ks : List K) (r : Option Int)
inductive Vl where
  | num (n : Int) | rc (ls : List Str) (vs : List Vl)
def rD0 : Option Int → D
  | none => .non
  | some n => .int n
mutual
def kd : K → D
  | .num => .tup [.str "number"]
  | .blk n => .tup [.str "blank", .int n]
  | .rc ls ks r => .tup [.str "record", .tup (fldD ls (kds ks)), rD0 r]
def kds : List K → List D
  | [] => []
  | k :: ks => kd k :: kds ks
end
mutual
def vd : Vl → D
  | .num n => .int n
  | .rc ls vs => .tup (fldD ls (vds vs))
def vds : List Vl → List D
  | [] => []
  | v :: vs => vd v :: vds vs
end
theorem kds_map : ∀ ks : List K, kds ks = ks.map kd
  | [] => rfl
  | k :: ks => by rw [kds, kds_map ks]; rfl
theorem vds_map : ∀ vs : List Vl, vds vs = vs.map vd
  | [] => rfl
  | v :: vs => by rw [vds, vds_map vs]; rfl
def lkp : List Str → List Vl → Str → Option Vl
  | l :: ls, v :: vs, x => if l = x then some v else lkp ls vs x
  | _, _, _ => none
mutual
def isB : K → Vl → Bool
  | .blk _, _ => true
  | .num, .num _ => true
  | .num, .rc _ _ => false
  | .rc _ _ _, .num _ => false
  | .rc ls ks r, .rc ls' vs => isBs ls ks ls' vs && (r.isSome || decide (ls'.length = ls.length))
def isBs : List Str → List K → List Str → List Vl → Bool
  | l :: ls, k :: ks, ls', vs => (match lkp ls' vs l with | some v => isB k v | none => false) && isBs ls ks ls' vs
  | _, _, _, _ => true
end
/-- kinds of labels, of a depth -/
inductive WK : Nat → K → Prop where
  | num {d} : WK (d + 1) .num
  | blk {d n} : WK (d + 1) (.blk n)
  | rc {d ls ks r} : ls.length = ks.length → ks.length ≤ 4 → ls.Nodup → (∀ l ∈ ls, IsLab l) → (∀ k ∈ ks, WK d k) → WK (d + 1) (.rc ls ks r)
/-- values of labels, of a depth, of so many fields -/
inductive WV (m : Nat) : Nat → Vl → Prop where
  | num {d n} : WV m (d + 1) (.num n)
  | rc {d ls vs} : ls.length = vs.length → vs.length ≤ m → ls.Nodup → (∀ l ∈ ls, IsLab l) → (∀ v ∈ vs, WV m d v) → WV m (d + 1) (.rc ls vs)
theorem WV.mono {m d e : Nat} {v : Vl} (h : WV m d v) : d ≤ e → WV m e v := by
  induction h generalizing e with
  | num => intro he; obtain ⟨e, rfl⟩ : ∃ f, e = f + 1 := ⟨e - 1, by omega⟩; exact .num
  | rc h1 h2 h3 h4 h5 ih => intro he; obtain ⟨e, rfl⟩ : ∃ f, e = f + 1 := ⟨e - 1, by omega⟩; exact .rc h1 h2 h3 h4 fun v hv => ih v hv (by omega)
theorem WK.mono {d e : Nat} {k : K} (h : WK d k) : d ≤ e → WK e k := by
  induction h generalizing e with
  | num => intro he; obtain ⟨e, rfl⟩ : ∃ f, e = f + 1 := ⟨e - 1, by omega⟩; exact .num
  | blk => intro he; obtain ⟨e, rfl⟩ : ∃ f, e = f + 1 := ⟨e - 1, by omega⟩; exact .blk
  | rc h1 h2 h3 h4 h5 ih => intro he; obtain ⟨e, rfl⟩ : ∃ f, e = f + 1 := ⟨e - 1, by omega⟩; exact .rc h1 h2 h3 h4 fun v hv => ih v hv (by omega)
/-! dicts of them -/
theorem fldD_cons (l : Str) (ls : List Str) (d : D) (ds : List D) : fldD (l :: ls) (d :: ds) = .tup [.str l, d] :: fldD ls ds := rfl
theorem pairsD_fld : ∀ {ls : List Str} {ds : List D}, ls.length = ds.length → pairsD (fldD ls ds) = some ((ls.map Sum.inr).zip ds)
  | [], [], _ => rfl
  | l :: ls, d :: ds, h => by
    rw [fldD_cons, pairsD, pairsD_fld (by simpa using h)]; rfl
theorem insK_new {ks : List Key} {k : Key} (h : k ∉ ks) : insK ks k = ks ++ [k] := by unfold insK; rw [if_neg h]
theorem insD_new {ks : List Key} {ds : List D} {k : Key} {d : D} (h : k ∉ ks) : insD ks ds k d = ds ++ [d] := by unfold insD; rw [if_neg h]
theorem mergeD_new : ∀ {ks2 ks : List Key} {ds2 ds : List D}, (ks ++ ks2).Nodup → ks2.length = ds2.length → mergeD ks ds (ks2.zip ds2) = (ks ++ ks2, ds ++ ds2)
  | [], ks, [], ds, _, _ => by simp [mergeD]
  | k :: ks2, ks, d :: ds2, ds, h, hl => by
    have hk : k ∉ ks := fun hk => by
      rw [List.nodup_append] at h
      exact h.2.2 k hk k (by simp) rfl
    rw [List.zip_cons_cons, mergeD, insK_new hk, insD_new hk, mergeD_new (by simpa using h) (by simpa using hl)]
    simp
theorem nodup_inr {ls : List Str} (h : ls.Nodup) : (ls.map (Sum.inr : Str → Key)).Nodup := by
  unfold List.Nodup at *
  rw [List.pairwise_map]
  exact h.imp fun {a b} n e => n (Sum.inr.inj e)
theorem cDict_fld {S : Sto} {ls : List Str} {ds : List D} (h : ls.length = ds.length) (hn : ls.Nodup) : cDict [.tup (fldD ls ds)] S = .ok (.dct (ls.map .inr) ds) S := by
  have e : itP S (.tup (fldD ls ds)) = some ((ls.map Sum.inr).zip ds) := pairsD_fld h
  have e2 := mergeD_new (ks := []) (ks2 := ls.map Sum.inr) (ds := []) (ds2 := ds) (by simpa using nodup_inr hn) (by simpa using h)
  simp only [cDict, e, e2, List.nil_append]
theorem getK_lkp : ∀ {ls : List Str} {vs : List Vl} (l : Str), ls.length = vs.length → getK (ls.map (Sum.inr : Str → Key)) (vds vs) (.inr l) = (lkp ls vs l).map vd
  | [], [], l, _ => rfl
  | x :: ls, v :: vs, l, h => by
    simp only [List.map_cons, vds, getK, lkp, Sum.inr.injEq]
    split
    · rfl
    · exact getK_lkp l (by simpa using h)
@[simp] theorem dget_dct {S : Sto} {ks : List Key} {ds : List D} {l : Str} : dget S (.dct ks ds) (.str l) = some (getK ks ds (.inr l)) := rfl
theorem opIx_dct {S : Sto} {ks : List Key} {ds : List D} {l : Str} {d : D} (h : getK ks ds (.inr l) = some d) : opIx (.dct ks ds) (.str l) S = .ok d S := by
  simp only [opIx, dget_dct, h]
theorem opNotIn_dct {S : Sto} {ks : List Key} {ds : List D} {l : Str} : opNotIn (.str l) (.dct ks ds) S = .ok (.bl (!(getK ks ds (.inr l)).isSome)) S := by
  simp only [opNotIn, inDa, dget_dct]
theorem isi_vd {S : Sto} (v : Vl) : opIsi "tuple" (vd v) S = .ok (.bl (match v with | .rc _ _ => true | .num _ => false)) S := by cases v <;> simp [vd]
theorem vds_len (vs : List Vl) : (vds vs).length = vs.length := by rw [vds_map]; simp
theorem kds_len (vs : List K) : (kds vs).length = vs.length := by rw [kds_map]; simp
theorem lkp_mem : ∀ {ls : List Str} {vs : List Vl} {l : Str} {v : Vl}, lkp ls vs l = some v → v ∈ vs
  | l :: ls, v :: vs, x, w, h => by
    simp only [lkp] at h
    split at h
    · cases h; simp
    · simp [lkp_mem h]
  | [], _, _, _, h => by cases h
  | _ :: _, [], _, _, h => by cases h
end PM

/-! PM, part 22: for the makers of kinds and values -/
namespace PM
open PySem L2
theorem comp_filtm {α : Type} {grd : Sto → Prop} {g : Gm} {t : Tm} {e : Em} {δ : Loc} {S : Sto} (i : α → D) (p : α → Bool) (f : α → D) (hg : grd S) (xs : List α) (acc : List D)
    (h : ∀ x ∈ xs, ∃ δ', g (i x) δ S = .ok δ' S ∧ t δ' S = .ok (p x) S ∧ (p x = true → e δ' S = .ok (f x) S)) : compM grd g t e δ acc (xs.map i) S = .ok (.lst (acc ++ (xs.filter p).map f)) S := by
  induction xs generalizing acc with
  | nil => rw [List.map_nil, compM_nil hg]; simp
  | cons x xs ih =>
    obtain ⟨δ', h1, h2, h3⟩ := h x (by simp)
    rw [List.map_cons, compM_cons hg, h1]
    simp only [R.quiet_ok, R.bind_ok, h2]
    cases hp : p x with
    | true =>
      rw [if_pos rfl, h3 hp]
      simp only [R.quiet_ok, R.bind_ok]
      rw [ih _ fun y hy => h y (by simp [hy]), List.filter_cons_of_pos hp]
      simp
    | false =>
      rw [if_neg (by simp), ih _ fun y hy => h y (by simp [hy]), List.filter_cons_of_neg (by simp [hp])]
theorem fldD_snoc {ls : List Str} {ds : List D} (h : ls.length = ds.length) (l : Str) (d : D) : fldD (ls ++ [l]) (ds ++ [d]) = fldD ls ds ++ [.tup [.str l, d]] := by
  rw [fldD, List.zipWith_append h]; rfl
theorem cutD_to {α : Type} {xs : List α} {i : Int} (h : 0 ≤ i) : cutD xs none (some i) = xs.take i.toNat := by
  obtain ⟨k, rfl⟩ : ∃ k : Nat, i = k := ⟨i.toNat, by omega⟩
  unfold cutD
  rw [HT.sIx_none, HT.sIx_nat, List.drop_zero, Nat.sub_zero]
  show xs.take (min k xs.length) = xs.take k
  rcases Nat.le_total k xs.length with h | h
  · rw [Nat.min_eq_left h]
  · rw [Nat.min_eq_right h, List.take_length, List.take_of_length_le h]
theorem cutD_from {α : Type} {xs : List α} {i : Int} (h : 0 ≤ i) : cutD xs (some i) none = xs.drop i.toNat := by
  obtain ⟨k, rfl⟩ : ∃ k : Nat, i = k := ⟨i.toNat, by omega⟩
  unfold cutD
  rw [HT.sIx_none, HT.sIx_nat]
  show (xs.drop (min k xs.length)).take (xs.length - min k xs.length) = xs.drop k
  rcases Nat.le_total k xs.length with h | h
  · rw [Nat.min_eq_left h, List.take_of_length_le (by simp)]
  · rw [Nat.min_eq_right h, Nat.sub_self, List.take_zero, List.drop_eq_nil_of_le h]
/-! lists of texts, lists of these -/
def wD (w : List Str) : D := .lst (w.map .str)
def WOk (w : List Str) : Prop := ∀ l ∈ w, IsLab l
theorem tps_strs {rc : List D → Option (List PyData)} {S : Sto} : ∀ w : List Str, tps rc S (w.map .str) = some (w.map .str)
  | [] => rfl
  | l :: w => by simp only [List.map_cons, tps, tp, tps_strs w, Option.bind_some, Option.map_some]
theorem tps_ws {rc : List D → Option (List PyData)} {S : Sto} : ∀ ws : List (List Str), tps rc S (ws.map wD) = some (ws.map fun w => .list (w.map .str))
  | [] => rfl
  | w :: ws => by simp only [List.map_cons, tps, wD, tp, tps_strs, Option.map_some, Option.bind_some]; simp only [tps_ws ws, Option.map_some]
theorem lay_strs : ∀ {w : List Str}, WOk w → PyData.canLayAll0 (w.map .str) = true ∧ PyData.depthAll (w.map .str) = 0
  | [], _ => ⟨rfl, rfl⟩
  | l :: w, h => by
    obtain ⟨h1, h2⟩ := lay_strs (w := w) fun x hx => h x (by simp [hx])
    simp only [List.map_cons, PyData.canLayAll0, PyData.depthAll, PyData.canLay0, PyData.depth, h1, h2]
    exact ⟨by rw [(h l (by simp)).ok]; rfl, rfl⟩
theorem lay_ws : ∀ {ws : List (List Str)}, (∀ w ∈ ws, WOk w) → PyData.canLayAll0 (ws.map fun w => .list (w.map .str)) = true ∧ PyData.depthAll (ws.map fun w => .list (w.map .str)) ≤ 1
  | [], _ => ⟨rfl, by decide⟩
  | w :: ws, h => by
    obtain ⟨h1, h2⟩ := lay_ws (ws := ws) fun x hx => h x (by simp [hx])
    obtain ⟨h3, h4⟩ := lay_strs (h w (by simp))
    simp only [List.map_cons, PyData.canLayAll0, PyData.depthAll, PyData.canLay0, PyData.depth, h1, h3, h4]
    exact ⟨rfl, by omega⟩
theorem eqv_strs : ∀ a b : List Str, PyData.eqvAll (a.map .str) (b.map .str) = decide (a = b)
  | [], [] => by simp [PyData.eqvAll]
  | [], y :: b => by simp [PyData.eqvAll]
  | x :: a, [] => by simp [PyData.eqvAll]
  | x :: a, y :: b => by
    simp only [List.map_cons, PyData.eqvAll, PyData.eqv, eqv_strs a b, List.cons.injEq, Bool.decide_and]
    congr 1
theorem sh_w {w : List Str} (h : WOk w) : SeqAt.shaped (.list (w.map .str)) = true := by
  obtain ⟨h1, h2⟩ := lay_strs h
  exact shaped_of (n := 1) h1 (by simp only [PyData.depth, h2]; decide) (by decide)
theorem sh_ws {ws : List (List Str)} (h : ∀ w ∈ ws, WOk w) : SeqAt.shaped (.list (ws.map fun w => .list (w.map .str))) = true := by
  obtain ⟨h1, h2⟩ := lay_ws h
  exact shaped_of (n := 2) h1 (by simp only [PyData.depth]; omega) (by decide)
theorem tpd_w {S : Sto} (w : List Str) : tpd S (wD w) = some (.list (w.map .str)) := by
  simp only [tpd, wD, tp, tps_strs]; rfl
theorem tpd_ws {S : Sto} {q : Nat} {ws : List (List Str)} (h : S[q]? = some (.lst (ws.map wD))) : tpd S (.ref q) = some (.list (ws.map fun w => .list (w.map .str))) := by
  simp only [tpd, tp, h, tpk, tps_ws]; rfl
theorem any_ws (w : List Str) : ∀ ws : List (List Str), ((ws.map fun w => PyData.list (w.map .str)).any fun z => PyData.eqv z (.list (w.map .str))) = decide (w ∈ ws)
  | [] => by simp
  | x :: ws => by
    simp only [List.map_cons, List.any_cons, any_ws w ws, PyData.eqv, eqv_strs, List.mem_cons, Bool.decide_or]
    rw [show decide (x = w) = decide (w = x) from by simp only [eq_comm]]
theorem opNotIn_ws {S : Sto} {q : Nat} {ws : List (List Str)} {w : List Str} (h : S[q]? = some (.lst (ws.map wD))) (hw : WOk w) (hs : ∀ w ∈ ws, WOk w) : opNotIn (wD w) (.ref q) S = .ok (.bl (!decide (w ∈ ws))) S := by
  have e : inDa S (wD w) (.ref q) = some (decide (w ∈ ws)) := by
    have h1 := tpd_w (S := S) w
    have h2 := tpd_ws h
    unfold wD at h1
    simp only [inDa, wD, dget, dkOf, dtOf, h, rdS, rdL, asL, isFlat, h1, h2]
    simp only [Bool.false_eq_true, if_false, sh_w hw, sh_ws hs, and_self, if_true, any_ws]
  simp only [opNotIn, e]
theorem cIndex_ws {S : Sto} {q : Nat} {ws : List (List Str)} {w : List Str} (h : S[q]? = some (.lst (ws.map wD))) (hw : WOk w) (hs : ∀ w ∈ ws, WOk w) (hm : w ∈ ws) : ∃ j : Nat, j < ws.length ∧ cIndex (.ref q) [wD w] S = .ok (.int j) S := by
  have h1 := any_ws w ws
  rw [decide_eq_true hm] at h1
  cases hf : (ws.map fun w => PyData.list (w.map .str)).findIdx? (fun z => PyData.eqv z (.list (w.map .str))) with
  | none =>
    rw [List.findIdx?_eq_none_iff] at hf
    rw [List.any_eq_true] at h1
    obtain ⟨x, hx, e⟩ := h1
    rw [hf x hx] at e; cases e
  | some j =>
    refine ⟨j, ?_, ?_⟩
    · rw [List.findIdx?_eq_some_iff_getElem] at hf
      obtain ⟨hl, _⟩ := hf
      simpa using hl
    · simp only [cIndex, tpd_w, tpd_ws h, sh_w hw, sh_ws hs, and_self, if_true, hf]
/-! a state beside a list of lists of texts -/
def KSt (S : Sto) (n q M : Nat) : Prop := ∃ (a b : Int) (ws : List (List Str)), 0 ≤ a ∧ S[n]? = some (.lst [.int a, .int b]) ∧ S[q]? = some (.lst (ws.map wD)) ∧ (∀ w ∈ ws, WOk w) ∧ ws.length + b.toNat ≤ M
/-- only n and q changed -/
def KNx (S T : Sto) (n q : Nat) : Prop := T.length = S.length ∧ ∀ i, i ≠ n → i ≠ q → T[i]? = S[i]?
theorem KNx.refl {S : Sto} {n q : Nat} : KNx S S n q := ⟨rfl, fun _ _ _ => rfl⟩
theorem KNx.trans {S T U : Sto} {n q : Nat} (a : KNx S T n q) (b : KNx T U n q) : KNx S U n q := ⟨b.1.trans a.1, fun i h1 h2 => (b.2 i h1 h2).trans (a.2 i h1 h2)⟩
theorem KNx.set1 {S : Sto} {n q : Nat} {o : MO} : KNx S (S.set n o) n q := ⟨by simp, fun i h1 _ => by rw [List.getElem?_set_ne (Ne.symm h1)]⟩
theorem KNx.set2 {S : Sto} {n q : Nat} {o : MO} : KNx S (S.set q o) n q := ⟨by simp, fun i _ h2 => by rw [List.getElem?_set_ne (Ne.symm h2)]⟩
theorem strsOf_id : ∀ xs : List Str, strsOf (xs.map D.str) = some xs
  | [] => rfl
  | x :: xs => by simp only [List.map_cons, strsOf, strsOf_id xs]; rfl
/-- a comprehension, indexed, with tests that may change objects -/
theorem comp_ofI {g : Gm} {t : Tm} {e : Em} {δ : Loc} {S : Sto} {ds : List D} {r : R D} (hL : compM (fun _ => True) g t e δ [] ds S = r) (I : Nat → List D → Sto → Prop) (h0 : I 0 [] S)
    (hs : ∀ (i : Nat) x acc S, ds[i]? = some x → I i acc S → ∃ δ' S1 k S2, g x δ S = .ok δ' S1 ∧ t δ' S1 = .ok k S2 ∧ (k = true → ∃ y S3, e δ' S2 = .ok y S3 ∧ I (i + 1) (acc ++ [y]) S3) ∧ (k = false → I (i + 1) acc S2)) : ∃ acc S', r = .ok (.lst acc) S' ∧ I ds.length acc S' := by
  subst hL
  suffices H : ∀ (ds acc : List D) (n : Nat) (S : Sto), I n acc S → (∀ (i : Nat) x acc S, ds[i]? = some x → I (n + i) acc S → ∃ δ' S1 k S2, g x δ S = .ok δ' S1 ∧ t δ' S1 = .ok k S2 ∧ (k = true → ∃ y S3, e δ' S2 = .ok y S3 ∧ I (n + i + 1) (acc ++ [y]) S3) ∧ (k = false → I (n + i + 1) acc S2)) →
      ∃ acc' S', compM (fun _ => True) g t e δ acc ds S = .ok (.lst acc') S' ∧ I (n + ds.length) acc' S' by
    have := H ds [] 0 S h0 (fun i x acc S hx hI => by
      have := hs i x acc S hx (by rwa [Nat.zero_add] at hI)
      rwa [Nat.zero_add])
    rwa [Nat.zero_add] at this
  intro ds
  induction ds with
  | nil => intro acc n S h0 _; exact ⟨acc, S, compM_nil trivial, h0⟩
  | cons x ds ih =>
    intro acc n S h0 hs
    obtain ⟨δ', S1, k, S2, h1, h2, h3, h4⟩ := hs 0 x acc S rfl h0
    rw [compM_cons trivial, h1]
    simp only [R.quiet_ok, R.bind_ok, h2]
    rw [List.length_cons, show n + (ds.length + 1) = n + 1 + ds.length by omega]
    have hs' : ∀ (i : Nat) x acc S, ds[i]? = some x → I (n + 1 + i) acc S → ∃ δ' S1 k S2, g x δ S = .ok δ' S1 ∧ t δ' S1 = .ok k S2 ∧ (k = true → ∃ y S3, e δ' S2 = .ok y S3 ∧ I (n + 1 + i + 1) (acc ++ [y]) S3) ∧ (k = false → I (n + 1 + i + 1) acc S2) := fun i y acc S hy hI => by
      have := hs (i + 1) y acc S (by simpa using hy) (by rwa [show n + (i + 1) = n + 1 + i by omega])
      rwa [show n + (i + 1) + 1 = n + 1 + i + 1 by omega] at this
    cases k with
    | true =>
      obtain ⟨y, S3, h5, h6⟩ := h3 rfl
      rw [if_pos rfl, h5]
      simp only [R.quiet_ok, R.bind_ok]
      exact ih _ (n + 1) S3 h6 hs'
    | false =>
      rw [if_neg Bool.false_ne_true]
      exact ih _ (n + 1) S2 (h4 rfl) hs'
theorem labs_at {ls : List Str} (h : ls.length = 4) {i : Int} (h0 : 0 ≤ i) (h1 : i < 4) : ∃ l ∈ ls, ∀ S, opIx (.lst (ls.map .str)) (.int i) S = .ok (.str l) S := opIx_map h0 (by omega)
end PM

/-! PM, part 23: dicts that are filled, the values of kinds -/
namespace PM
open PySem L2
section
variable {S : Sto} {m : Nat} {ks : List Key} {ds : List D} {l : Str} {d : D}
theorem opSet_new (h : S[m]? = some (.dK ks ds)) (hl : ks.length < sizeLine) (hn : Sum.inr l ∉ ks) : opSet (.ref m) (.str l) d S = .ok () (S.set m (.dK (ks ++ [.inr l]) (ds ++ [d]))) := by
  simp only [opSet, h, keyOf, if_pos hl, insK_new hn, insD_new hn]
theorem dget_ref (h : S[m]? = some (.dK ks ds)) : dget S (.ref m) (.str l) = some (getK ks ds (.inr l)) := by
  simp only [dget, dkOf, h, keyOf]
theorem opIx_dK (h : S[m]? = some (.dK ks ds)) (hg : getK ks ds (.inr l) = some d) : opIx (.ref m) (.str l) S = .ok d S := by
  simp only [opIx, dget_ref h, hg]
theorem opNotIn_dK (h : S[m]? = some (.dK ks ds)) : opNotIn (.str l) (.ref m) S = .ok (.bl (!(getK ks ds (.inr l)).isSome)) S := by
  simp only [opNotIn, inDa, dget_ref h]
theorem cListK_inr {ls : List Str} (h : S[m]? = some (.dK (ls.map .inr) ds)) (hl : ∀ l ∈ ls, IsLab l) : cListK [.ref m] S = .ok (.lst (ls.map .str)) S := by
  have hc : (ls.map (Sum.inr : Str → Key)).all keyFit = true := by
    rw [List.all_map, List.all_eq_true]
    intro x hx
    have := (hl x hx).2.2
    exact decide_eq_true (Nat.le_trans (Nat.le_trans this (by decide)) szl)
  simp only [cListK, h, hc, if_pos, List.map_map]
  rfl
end
theorem lkp_none : ∀ {ls : List Str} {vs : List Vl} {l : Str}, ls.length = vs.length → (lkp ls vs l = none ↔ l ∉ ls)
  | [], [], l, _ => by simp [lkp]
  | x :: ls, v :: vs, l, h => by
    simp only [lkp]
    split
    · rename_i e; simp [e]
    · rename_i e
      rw [lkp_none (by simpa using h)]
      have : ¬ l = x := fun q => e q.symm
      simp [this]
theorem lkp_map (f : Str → Vl) : ∀ {ls : List Str} {l : Str}, l ∈ ls → lkp ls (ls.map f) l = some (f l)
  | x :: ls, l, h => by
    simp only [List.map_cons, lkp]
    split
    · rename_i e; rw [e]
    · rename_i e
      rcases List.mem_cons.mp h with h | h
      · exact absurd h.symm e
      · exact lkp_map f h
theorem lkp_get : ∀ {ls : List Str} {vs : List Vl} {j : Nat} {l : Str} {v : Vl}, ls.Nodup → ls[j]? = some l → vs[j]? = some v → lkp ls vs l = some v
  | x :: ls, w :: vs, 0, l, v, _, h1, h2 => by
    simp only [List.getElem?_cons_zero, Option.some.injEq] at h1 h2
    simp only [lkp, h1, h2, if_pos]
  | x :: ls, w :: vs, j + 1, l, v, hn, h1, h2 => by
    simp only [List.getElem?_cons_succ] at h1 h2
    have hx : x ≠ l := fun e => by
      have := (List.nodup_cons.mp hn).1
      rw [e] at this
      exact this (List.mem_of_getElem? h1)
    simp only [lkp, if_neg hx]
    exact lkp_get (List.nodup_cons.mp hn).2 h1 h2
  | [], _, j, _, _, _, h1, _ => by simp at h1
  | _ :: _, [], j, _, _, _, _, h2 => by simp at h2
theorem isBs_of {ls' : List Str} {vs' : List Vl} : ∀ {ls : List Str} {ks : List K}, (∀ (j : Nat) l k, ls[j]? = some l → ks[j]? = some k → ∃ v, lkp ls' vs' l = some v ∧ isB k v = true) → isBs ls ks ls' vs' = true
  | [], _, _ => by rw [isBs]; intros; contradiction
  | _ :: _, [], _ => by rw [isBs]; intros; contradiction
  | l :: ls, k :: ks, h => by
    obtain ⟨v, h1, h2⟩ := h 0 l k rfl rfl
    rw [isBs, h1]
    simp only [h2, Bool.true_and]
    exact isBs_of fun j l k h1 h2 => h (j + 1) l k (by simpa using h1) (by simpa using h2)
theorem WV.more {m m' d : Nat} {v : Vl} (hm : m ≤ m') (h : WV m d v) : WV m' d v := by
  induction h with
  | num => exact .num
  | rc h1 h2 h3 h4 h5 ih => exact .rc h1 (by omega) h3 h4 ih
theorem vds_app (a b : List Vl) : vds (a ++ b) = vds a ++ vds b := by simp [vds_map]
theorem isLab_z : IsLab (Str.ofString "zzzzzzzz") := lab_known (by decide +kernel) (by decide +kernel) (by decide +kernel)
theorem isLab_a : IsLab (Str.ofString "a") := lab_known (by decide +kernel) (by decide +kernel) (by decide +kernel)
theorem vd_cl {m d n : Nat} {v : Vl} (h : WV m d v) : D.cl n (vd v) = true := by
  induction h with
  | num => rfl
  | rc h1 h2 h3 h4 h5 ih =>
    rename_i d ls vs
    simp only [vd, D.cl]
    refine cls_all fun x hx => ?_
    obtain ⟨l, y, e, _, hy⟩ := mem_fldD hx
    rw [vds_map] at hy
    obtain ⟨b, hb, e'⟩ := List.mem_map.mp hy
    subst e e'
    simp only [D.cl, D.cls, ih b hb]; rfl
/-- the values by the sorted labels -/
def valOf (fl : List Str) (fv : List Vl) (l : Str) : Vl := (lkp fl fv l).getD (.num 0)
def sortV (fl : List Str) (fv : List Vl) : Vl := .rc (sortStr fl) ((sortStr fl).map (valOf fl fv))
theorem lkp_some {fl : List Str} {fv : List Vl} {l : Str} (h : fl.length = fv.length) (hl : l ∈ fl) : lkp fl fv l = some (valOf fl fv l) := by
  unfold valOf
  cases e : lkp fl fv l with
  | none => exact absurd hl ((lkp_none h).mp e)
  | some v => rfl
theorem sortV_wv {m d : Nat} {fl : List Str} {fv : List Vl} (h : fl.length = fv.length) (hm : fv.length ≤ m) (hn : fl.Nodup) (hl : ∀ l ∈ fl, IsLab l) (hv : ∀ v ∈ fv, WV m d v) : WV m (d + 1) (sortV fl fv) := by
  refine .rc (by simp) ?_ ((sortStr_perm fl).nodup_iff.mpr hn) (fun l hx => hl l ((sortStr_perm fl).mem_iff.mp hx)) fun v hx => ?_
  · rw [List.length_map, (sortStr_perm fl).length_eq, h]; exact hm
  · obtain ⟨l, hl, e⟩ := List.mem_map.mp hx
    subst e
    exact hv _ (lkp_mem (lkp_some h ((sortStr_perm fl).mem_iff.mp hl)))
theorem sortV_vd (fl : List Str) (fv : List Vl) : vd (sortV fl fv) = .tup ((sortStr fl).map fun l => .tup [.str l, vd (valOf fl fv l)]) := by
  simp only [sortV, vd, vds_map, List.map_map, fldD]
  congr 1
  generalize sortStr fl = xs
  induction xs with
  | nil => rfl
  | cons x xs ih => simp only [List.map_cons, List.zipWith_cons_cons, ih]; rfl
theorem sortV_lkp {fl : List Str} {fv : List Vl} {l : Str} (h : fl.length = fv.length) (hl : l ∈ fl) : lkp (sortStr fl) ((sortStr fl).map (valOf fl fv)) l = lkp fl fv l := by
  rw [lkp_map _ ((sortStr_perm fl).mem_iff.mpr hl), lkp_some h hl]
end PM

/-! PM, part 24: values bent -/
namespace PM
open PySem L2
@[simp] theorem newLst_5 {S : Sto} {a b c d e : D} : newLst [a, b, c, d, e] S = .ok (.lst [a, b, c, d, e]) S := newLst_ok (by show 5 ≤ sizeLine; exact Nat.le_trans (by decide) szl)
theorem pl_vd {m d : Nat} {v : Vl} (h : WV m d v) : pl (2 * d) (vd v) = true := by
  induction h with
  | num => rename_i d n; cases h : 2 * (d + 1) <;> rfl
  | rc h1 h2 h3 h4 h5 ih =>
    rename_i d ls vs
    rw [show 2 * (d + 1) = (2 * d + 1) + 1 by omega]
    simp only [vd, pl]
    refine pl_all fun x hx => ?_
    obtain ⟨l, y, e, hl, hy⟩ := mem_fldD hx
    rw [vds_map] at hy
    obtain ⟨b, hb, e'⟩ := List.mem_map.mp hy
    subst e e'
    simp only [pl, List.all_cons, List.all_nil, Bool.and_true, Bool.and_eq_true]
    exact ⟨(h4 l hl).ok, ih b hb⟩
theorem eqD_tup_nil {S : Sto} {n : Nat} {ds : List D} (h : pl n (.tup ds) = true) (hn : n ≤ 64) : eqD S (.tup ds) (.tup []) = some (decide (ds = [])) := by
  obtain ⟨n, rfl⟩ : ∃ m, n = m + 1 := by cases n with
    | zero => cases h
    | succ n => exact ⟨n, rfl⟩
  obtain ⟨es, h1, h2, h3⟩ := tpl_of (fun d => pl_tp d) ds h
  have e1 : tpd S (.tup ds) = some (.tuple es) := by simp only [tpd, tp, h1]; rfl
  have e2 : tpd S (.tup []) = some (.tuple []) := rfl
  have h4 : PyData.canLay0 (.tuple es) = true := h2
  have h5 : (PyData.tuple es).depth ≤ n + 1 := by simp only [PyData.depth]; omega
  unfold eqD
  simp only [scalD, e1, e2]
  rw [if_pos ⟨shaped_of h4 h5 hn, by decide⟩]
  cases ds with
  | nil =>
    have := h1 (fun _ => none) S
    simp only [tps, Option.some.injEq] at this
    subst this; rfl
  | cons d ds =>
    have := h1 (fun _ => none) S
    simp only [tps] at this
    cases h6 : tp (fun _ => none) S d with
    | none => rw [h6] at this; cases this
    | some e =>
      rw [h6, Option.bind_some, Option.map_eq_some_iff] at this
      obtain ⟨es', _, e'⟩ := this
      subst e'
      rfl
theorem cDictR_lst {S : Sto} {ls : List Str} {ds : List D} (h : ls.length = ds.length) (hn : ls.Nodup) : cDictR [.lst (fldD ls ds)] S = .ok (.ref S.length) (S ++ [.dK (ls.map .inr) ds]) := by
  have e : itP S (.lst (fldD ls ds)) = some ((ls.map Sum.inr).zip ds) := by
    simp only [itP, rdL, asL, Option.bind_some]; exact pairsD_fld h
  have e2 := mergeD_new (ks := []) (ks2 := ls.map Sum.inr) (ds := []) (ds2 := ds) (by simpa using nodup_inr hn) (by simpa using h)
  simp only [cDictR, e, e2, List.nil_append]
theorem fld_zip {ls : List Str} {vs : List Vl} (h : ls.length = vs.length) : fldD ls (vds vs) = (ls.zip vs).map fun p => .tup [.str p.1, vd p.2] := by
  rw [fldD, vds_map, List.zipWith_map_right, List.zip, List.map_zipWith]
theorem fld_of_zip (ps : List (Str × Vl)) : ps.map (fun p => D.tup [.str p.1, vd p.2]) = fldD (ps.map (·.1)) (vds (ps.map (·.2))) := by
  induction ps with
  | nil => rfl
  | cons p ps ih => simp only [List.map_cons, vds, fldD_cons, ih]
theorem fldD_cut {ls : List Str} {vs : List Vl} {i : Nat} {l : Str} {v w : Vl} (h : ls.length = vs.length) (h1 : ls[i]? = some l) (h2 : vs[i]? = some v) :
    (fldD ls (vds vs)).take i ++ [.tup [.str l, vd w]] ++ (fldD ls (vds vs)).drop (i + 1) = fldD ls (vds (vs.set i w)) := by
  induction ls generalizing vs i with
  | nil => cases h1
  | cons x ls ih =>
    cases vs with
    | nil => cases h2
    | cons y vs =>
      cases i with
      | zero =>
        simp only [List.getElem?_cons_zero, Option.some.injEq] at h1 h2
        subst h1 h2
        simp [vds, fldD_cons]
      | succ i =>
        simp only [List.getElem?_cons_succ] at h1 h2
        have := ih (by simpa using h) h1 h2
        simp only [vds, fldD_cons, List.take_succ_cons, List.cons_append, List.drop_succ_cons, List.set_cons_succ, this]
theorem loopT_nil {b : D → Sm} {δ : Loc} {S : Sto} : loopM (fun _ => True) b [] δ S = .nx δ S := by rw [loopM, if_pos trivial]
theorem loopT_cons {b : D → Sm} {x : D} {xs : List D} {δ : Loc} {S : Sto} : loopM (fun _ => True) b (x :: xs) δ S = match b x δ S with
    | .nx δ' S' => loopM (fun _ => True) b xs δ' S'
    | .ct δ' S' => loopM (fun _ => True) b xs δ' S'
    | .bk δ' S' => .nx δ' S'
    | r => r := by rw [loopM, if_pos trivial] <;> rfl
end PM

namespace K_k05
open PySem PySem.Spec L2 PM PyProof.Rows
def top (i : Nat) : Stmt := PySem.Challenge.pw_fieldrest_k05_values_of_kinds.main.body.getD i (.Pass ⟨0, 0, 0, 0⟩)
inductive Fn where
  | is_of
  | _law_cell
  | _law_next
  | _law_labels
  | _law_kind
  | _law_any
  | _law_value
  | _law_bent
  | _law_due
  | law
def N_is_of : List Str := ["value", "kind", "theirs", "pair"]
def N__law_cell : List Str := ["_law_script", "_law_k"]
def N__law_next : List Str := ["_law_state"]
def N__law_labels : List Str := ["_law_cell_here", "_law_many", "_law_signs", "_law_size", "_law_at", "_law_step", "_law_base", "_law_k", "_law_found", "_law_sign"]
def N__law_kind : List Str := ["_law_state", "_law_labels_here", "_law_met", "_law_left", "_law_number", "_law_picked", "_law_words", "_law_label", "_law_fields"]
def N__law_any : List Str := ["_law_state", "_law_labels_here", "_law_left", "_law_number", "_law_words", "_law_label"]
def N__law_value : List Str := ["_law_state", "_law_kind_here", "_law_labels_here", "_law_fields", "_law_label", "_law_inner"]
def N__law_bent : List Str := ["_law_value_here", "_law_path", "_law_labels_here", "_law_word", "_law_rest", "_law_pair", "_law_fields", "_law_label", "_law_at", "_law_inner"]
def N__law_due : List Str := ["_law_value_here", "_law_kind_here", "_law_fields", "_law_label", "_law_inner"]
def N_law : List Str := ["_law_script", "_law_labels_here", "_law_state", "_law_met", "_law_kind_here", "_law_value_here", "_law_way", "_law_other", "_law_found"]
abbrev Cs := Fn → List D → Sto → R D
noncomputable def b_is_of (C : Cs) : Sm :=
  (sSeq (sIf (mT (mB opEq (mB opIx (mV 1) (mC (.int 0))) (mC (.str "blank")))) (sRet (mC (.bl true))) sPass) (sSeq (sIf (mOr (mT (mB opEq (mB opIx (mV 1) (mC (.int 0))) (mC (.str "number")))) (mNot (mT (mU (opIsi "tuple") (mV 0))))) (sRet (mAndV (mB opEq (mB opIx (mV 1) (mC (.int 0))) (mC (.str "number"))) (mNotV (mU (opIsi "tuple") (mV 0))))) sPass) (sSeq (sAsg (mApp cDict (mCons (mV 0) mNil)) (gmName 2)) (sSeq (sFor (sItems (mB opIx (mV 1) (mC (.int 1)))) (gmName 3) (sIf (mOr (mT (mB opNotIn (mB opIx (mV 3) (mC (.int 0))) (mV 2))) (mNot (mT (mApp (C .is_of) (mCons (mB opIx (mV 2) (mB opIx (mV 3) (mC (.int 0)))) (mCons (mB opIx (mV 3) (mC (.int 1))) mNil)))))) (sRet (mC (.bl false))) sPass)) (sRet (mOrV (mB opNotN (mB opIx (mV 1) (mC (.int 2))) (mC .non)) (mB opEq (mApp cLen (mCons (mV 2) mNil)) (mApp cLen (mCons (mB opIx (mV 1) (mC (.int 1))) mNil)))))))))
noncomputable def b__law_cell (C : Cs) : Sm :=
  (sSeq (sIf (mT (mB opLt (mV 1) (mApp cLen (mCons (mV 0) mNil)))) (sRet (mB opMod (mB opMul (mB opIx (mV 0) (mV 1)) (mC (.int 48271))) (mC (.int 2147483647)))) sPass) (sRet (mC (.int 0))))
noncomputable def b__law_next (C : Cs) : Sm :=
  (sSeq (sAsg (mB opMod (mB opAdd (mB opMul (mB opIx (mV 0) (mC (.int 0))) (mC (.int 48271))) (mC (.int 11))) (mC (.int 2147483647))) (gmSub (mV 0) (mC (.int 0)) opSet)) (sSeq (sAsg (mB opSub (mB opIx (mV 0) (mC (.int 1))) (mC (.int 1))) (gmSub (mV 0) (mC (.int 1)) opSet)) (sRet (mB opDiv (mB opIx (mV 0) (mC (.int 0))) (mC (.int 7))))))
noncomputable def b__law_labels (C : Cs) : Sm :=
  (sSeq (sAsg (mC (.str "abcdefghijklmnopqrstuvwxyz")) (gmName 2)) (sSeq (sAsg (mB opMod (mV 0) (mC (.int 7))) (gmName 3)) (sSeq (sAsg (mB opMod (mB opDiv (mV 0) (mC (.int 7))) (mB opAdd (mV 3) (mC (.int 1)))) (gmName 4)) (sSeq (sAsg (mB opMod (mB opDiv (mV 0) (mC (.int 49))) (mC (.int 26))) (gmName 5)) (sSeq (sAsg (mJoin (mC (.str "")) (mComp (sRange1 (mV 3)) (gmName 7) mYes (mB opIx (mV 2) (mB opMod (mB opAdd (mV 5) (mB opMul (mB opDiv (mV 0) (mC (.int 1274))) (mV 7))) (mC (.int 26)))) [7])) (gmName 6)) (sSeq (sAsg (mApp newRef mNil) (gmName 8)) (sSeq (sFor (sRange1 (mV 1)) (gmName 7) (sSeq (sAsg (mB opIx (mV 2) (mB opMod (mB opAdd (mB opDiv (mV 0) (mC (.int 49))) (mB opMul (mC (.int 3)) (mV 7))) (mC (.int 26)))) (gmName 9)) (sExpr (mMt isLst cAppend (mV 8) (mCons (mB opAdd (mB opAdd (mSl opSl (mV 6) mNo (mPt (mV 4))) (mV 9)) (mSl opSl (mV 6) (mPt (mV 4)) mNo)) mNil))))) (sRet (mV 8)))))))))
noncomputable def b__law_kind (C : Cs) : Sm :=
  (sSeq (sAsg (mApp (C ._law_next) (mCons (mV 0) mNil)) (gmName 4)) (sSeq (sIf (mOr (mT (mB opLe (mV 3) (mC (.int 1)))) (mOr (mT (mB opLe (mB opIx (mV 0) (mC (.int 1))) (mC (.int 0)))) (mT (mB opLt (mB opMod (mV 4) (mC (.int 7))) (mC (.int 2)))))) (sRet (mApp newTup (mCons (mC (.str "number")) mNil))) sPass) (sSeq (sIf (mT (mB opEq (mB opMod (mV 4) (mC (.int 7))) (mC (.int 2)))) (sRet (mApp newTup (mCons (mC (.str "blank")) (mCons (mB opMul (mB opMul (mB opIx (mV 2) (mC (.int 0))) (mC (.int 2))) (mB opMod (mB opDiv (mV 4) (mC (.int 7))) (mC (.int 3)))) mNil)))) sPass) (sSeq (sAsg (mSl opSl (mApp newLst (mCons (mB opIx (mV 1) (mB opMod (mB opDiv (mV 4) (mC (.int 7))) (mC (.int 4)))) (mCons (mB opIx (mV 1) (mB opMod (mB opDiv (mV 4) (mC (.int 28))) (mC (.int 4)))) (mCons (mB opIx (mV 1) (mB opMod (mB opDiv (mV 4) (mC (.int 112))) (mC (.int 4)))) mNil)))) mNo (mPt (mB opMod (mB opDiv (mV 4) (mC (.int 448))) (mC (.int 4))))) (gmName 5)) (sSeq (sAsg (mComp (sItems (mApp cSorted (mCons (mV 1) mNil))) (gmName 7) (mT (mB opIn (mV 7) (mV 5))) (mV 7) [7]) (gmName 6)) (sSeq (sAsg (mApp cTuple (mCons (mComp (sItems (mV 6)) (gmName 7) mYes (mApp newTup (mCons (mV 7) (mCons (mApp (C ._law_kind) (mCons (mV 0) (mCons (mV 1) (mCons (mV 2) (mCons (mB opSub (mV 3) (mC (.int 1))) mNil))))) mNil))) [7]) mNil)) (gmName 8)) (sSeq (sIf (mT (mB opEq (mB opMod (mB opDiv (mV 4) (mC (.int 1792))) (mC (.int 2))) (mC (.int 0)))) (sRet (mApp newTup (mCons (mC (.str "record")) (mCons (mV 8) (mCons (mC .non) mNil))))) sPass) (sSeq (sIf (mT (mB opNotIn (mV 6) (mB opIx (mV 2) (mC (.int 1))))) (sExpr (mMt isLst cAppend (mB opIx (mV 2) (mC (.int 1))) (mCons (mV 6) mNil))) sPass) (sRet (mApp newTup (mCons (mC (.str "record")) (mCons (mV 8) (mCons (mB opMul (mB opIx (mV 2) (mC (.int 0))) (mB opAdd (mC (.int 1)) (mB opMul (mC (.int 2)) (mMt isLst cIndex (mB opIx (mV 2) (mC (.int 1))) (mCons (mV 6) mNil))))) mNil)))))))))))))
noncomputable def b__law_any (C : Cs) : Sm :=
  (sSeq (sAsg (mApp (C ._law_next) (mCons (mV 0) mNil)) (gmName 3)) (sSeq (sIf (mOr (mT (mB opLe (mV 2) (mC (.int 1)))) (mT (mB opEq (mB opMod (mV 3) (mC (.int 2))) (mC (.int 0))))) (sRet (mB opIx (mApp newLst (mCons (mB opMod (mB opDiv (mV 3) (mC (.int 2))) (mC (.int 5))) (mCons (mB opSub (mB opMod (mB opDiv (mV 3) (mC (.int 2))) (mB opMul (mC (.int 2)) (mB opPow (mC (.int 10)) (mC (.int 12))))) (mB opPow (mC (.int 10)) (mC (.int 12)))) mNil))) (mB opMod (mB opDiv (mV 3) (mC (.int 20))) (mC (.int 2))))) sPass) (sSeq (sAsg (mComp (sItems (mApp cSorted (mCons (mV 1) mNil))) (gmName 5) (mT (mB opEq (mB opMod (mApp (C ._law_next) (mCons (mV 0) mNil)) (mC (.int 2))) (mC (.int 0)))) (mV 5) [5]) (gmName 4)) (sRet (mApp cTuple (mCons (mComp (sItems (mV 4)) (gmName 5) mYes (mApp newTup (mCons (mV 5) (mCons (mApp (C ._law_any) (mCons (mV 0) (mCons (mV 1) (mCons (mB opSub (mV 2) (mC (.int 1))) mNil)))) mNil))) [5]) mNil))))))
noncomputable def b__law_value (C : Cs) : Sm :=
  (sSeq (sIf (mT (mB opEq (mB opIx (mV 1) (mC (.int 0))) (mC (.str "blank")))) (sRet (mApp (C ._law_any) (mCons (mV 0) (mCons (mV 2) (mCons (mC (.int 3)) mNil))))) sPass) (sSeq (sIf (mT (mB opEq (mB opIx (mV 1) (mC (.int 0))) (mC (.str "number")))) (sRet (mApp (C ._law_any) (mCons (mV 0) (mCons (mV 2) (mCons (mC (.int 1)) mNil))))) sPass) (sSeq (sAsg mNewK (gmName 3)) (sSeq (sFor (sItems (mB opIx (mV 1) (mC (.int 1)))) (gmTup [4, 5]) (sAsg (mApp (C ._law_value) (mCons (mV 0) (mCons (mV 5) (mCons (mV 2) mNil)))) (gmSub (mV 3) (mV 4) opSet))) (sSeq (sIf (mT (mB opNotN (mB opIx (mV 1) (mC (.int 2))) (mC .non))) (sFor (sItems (mB opAdd (mV 2) (mApp newLst (mCons (mC (.str "zzzzzzzz")) (mCons (mC (.str "a")) mNil))))) (gmName 4) (sIf (mAnd (mT (mB opNotIn (mV 4) (mV 3))) (mT (mB opEq (mB opMod (mApp (C ._law_next) (mCons (mV 0) mNil)) (mC (.int 2))) (mC (.int 0))))) (sAsg (mApp (C ._law_any) (mCons (mV 0) (mCons (mV 2) (mCons (mC (.int 2)) mNil)))) (gmSub (mV 3) (mV 4) opSet)) sPass)) sPass) (sRet (mApp cTuple (mCons (mComp (sItems (mApp cSorted (mCons (mApp cListK (mCons (mV 3) mNil)) mNil))) (gmName 4) mYes (mApp newTup (mCons (mV 4) (mCons (mB opIx (mV 3) (mV 4)) mNil))) [4]) mNil))))))))
noncomputable def b__law_bent (C : Cs) : Sm :=
  (sSeq (sIf (mOr (mNot (mT (mU (opIsi "tuple") (mV 0)))) (mT (mB opEq (mB opMod (mV 1) (mC (.int 5))) (mC (.int 0))))) (sRet (mB opIx (mApp newLst (mCons (mC (.int 3)) (mCons (mApp newTup mNil) (mCons (mApp newTup (mCons (mApp newTup (mCons (mC (.str "zzzzzzzz")) (mCons (mC (.int 5)) mNil))) mNil)) (mCons (mApp newTup (mCons (mApp newTup (mCons (mB opIx (mV 2) (mC (.int 0))) (mCons (mC (.int 0)) mNil))) mNil)) (mCons (mU opNeg (mC (.int 7))) mNil)))))) (mB opMod (mB opDiv (mV 1) (mC (.int 5))) (mC (.int 5))))) sPass) (sSeq (sIf (mOr (mT (mB opEq (mV 0) (mApp newTup mNil))) (mT (mB opEq (mB opMod (mV 1) (mC (.int 5))) (mC (.int 1))))) (sSeq (sAsg (mB opIx (mB opAdd (mV 2) (mApp newLst (mCons (mC (.str "zzzzzzzz")) (mCons (mC (.str "a")) mNil)))) (mB opMod (mB opDiv (mV 1) (mC (.int 5))) (mC (.int 6)))) (gmName 3)) (sSeq (sAsg (mComp (sItems (mV 0)) (gmName 5) (mT (mB opNe (mB opIx (mV 5) (mC (.int 0))) (mV 3))) (mV 5) [5]) (gmName 4)) (sSeq (sIf (mT (mB opEq (mApp cLen (mCons (mV 4) mNil)) (mApp cLen (mCons (mV 0) mNil)))) (sAsg (mB opAdd (mV 4) (mApp newLst (mCons (mApp newTup (mCons (mV 3) (mCons (mB opMod (mB opDiv (mV 1) (mC (.int 30))) (mC (.int 3))) mNil))) mNil))) (gmName 4)) sPass) (sSeq (sAsg (mApp cDictR (mCons (mV 4) mNil)) (gmName 6)) (sRet (mApp cTuple (mCons (mComp (sItems (mApp cSorted (mCons (mApp cListK (mCons (mV 6) mNil)) mNil))) (gmName 7) mYes (mApp newTup (mCons (mV 7) (mCons (mB opIx (mV 6) (mV 7)) mNil))) [7]) mNil))))))) sPass) (sSeq (sAsg (mB opMod (mB opDiv (mV 1) (mC (.int 5))) (mApp cLen (mCons (mV 0) mNil))) (gmName 8)) (sSeq (sAsg (mApp (C ._law_bent) (mCons (mB opIx (mB opIx (mV 0) (mV 8)) (mC (.int 1))) (mCons (mB opDiv (mV 1) (mC (.int 20))) (mCons (mV 2) mNil)))) (gmName 9)) (sRet (mB opAdd (mB opAdd (mSl opSl (mV 0) mNo (mPt (mV 8))) (mApp newTup (mCons (mApp newTup (mCons (mB opIx (mB opIx (mV 0) (mV 8)) (mC (.int 0))) (mCons (mV 9) mNil))) mNil))) (mSl opSl (mV 0) (mPt (mB opAdd (mV 8) (mC (.int 1)))) mNo)))))))
noncomputable def b__law_due (C : Cs) : Sm :=
  (sSeq (sIf (mT (mB opEq (mB opIx (mV 1) (mC (.int 0))) (mC (.str "blank")))) (sRet (mC (.bl true))) sPass) (sSeq (sIf (mT (mB opEq (mB opIx (mV 1) (mC (.int 0))) (mC (.str "number")))) (sRet (mNotV (mU (opIsi "tuple") (mV 0)))) sPass) (sSeq (sIf (mNot (mT (mU (opIsi "tuple") (mV 0)))) (sRet (mC (.bl false))) sPass) (sSeq (sAsg (mApp cDict (mCons (mV 0) mNil)) (gmName 2)) (sSeq (sFor (sItems (mB opIx (mV 1) (mC (.int 1)))) (gmTup [3, 4]) (sIf (mOr (mT (mB opNotIn (mV 3) (mV 2))) (mNot (mT (mApp (C ._law_due) (mCons (mB opIx (mV 2) (mV 3)) (mCons (mV 4) mNil)))))) (sRet (mC (.bl false))) sPass)) (sRet (mOrV (mB opNotN (mB opIx (mV 1) (mC (.int 2))) (mC .non)) (mB opEq (mApp cLen (mCons (mV 0) mNil)) (mApp cLen (mCons (mB opIx (mV 1) (mC (.int 1))) mNil))))))))))
noncomputable def b_law (C : Cs) : Sm :=
  (sSeq (sAsg (mApp (C ._law_labels) (mCons (mApp (C ._law_cell) (mCons (mV 0) (mCons (mC (.int 2)) mNil))) (mCons (mC (.int 4)) mNil))) (gmName 1)) (sSeq (sAsg (mApp newRef (mCons (mB opAdd (mC (.int 1)) (mB opMod (mApp (C ._law_cell) (mCons (mV 0) (mCons (mC (.int 0)) mNil))) (mC (.int 2147483645)))) (mCons (mB opAdd (mC (.int 1)) (mB opMod (mApp (C ._law_cell) (mCons (mV 0) (mCons (mC (.int 1)) mNil))) (mC (.int 20)))) mNil))) (gmName 2)) (sSeq (sAsg (mApp newLst (mCons (mB opAdd (mC (.int 1)) (mB opMod (mApp (C ._law_cell) (mCons (mV 0) (mCons (mC (.int 3)) mNil))) (mB opPow (mC (.int 10)) (mC (.int 6))))) (mCons (mApp newRef mNil) mNil))) (gmName 3)) (sSeq (sAsg (mApp (C ._law_kind) (mCons (mV 2) (mCons (mV 1) (mCons (mV 3) (mCons (mB opAdd (mC (.int 1)) (mB opMod (mB opDiv (mApp (C ._law_cell) (mCons (mV 0) (mCons (mC (.int 1)) mNil))) (mC (.int 20))) (mC (.int 5)))) mNil))))) (gmName 4)) (sSeq (sAsg (mApp (C ._law_value) (mCons (mV 2) (mCons (mV 4) (mCons (mV 1) mNil)))) (gmName 5)) (sSeq (sIf (mT (mB opNotB (mApp (C .is_of) (mCons (mV 5) (mCons (mV 4) mNil))) (mC (.bl true)))) (sRet (mC (.bl false))) sPass) (sSeq (sAsg (mApp (C ._law_cell) (mCons (mV 0) (mCons (mC (.int 4)) mNil))) (gmName 6)) (sSeq (sIf (mT (mB opGt (mB opMod (mV 6) (mC (.int 3))) (mC (.int 0)))) (sAsg (mApp (C ._law_bent) (mCons (mV 5) (mCons (mB opDiv (mV 6) (mC (.int 3))) (mCons (mV 1) mNil)))) (gmName 5)) sPass) (sSeq (sFor (sItems (mApp newLst (mCons (mV 4) (mCons (mApp newTup (mCons (mC (.str "number")) mNil)) (mCons (mV 4) mNil))))) (gmName 7) (sSeq (sAsg (mApp (C .is_of) (mCons (mV 5) (mCons (mV 7) mNil))) (gmName 8)) (sIf (mOr (mNot (mT (mU (opIsi "bool") (mV 8)))) (mT (mB opNe (mV 8) (mApp (C ._law_due) (mCons (mV 5) (mCons (mV 7) mNil)))))) (sRet (mC (.bl false))) sPass))) (sRet (mAndV (mB opIsB (mApp (C .is_of) (mCons (mV 5) (mCons (mApp newTup (mCons (mC (.str "blank")) (mCons (mC (.int 3)) mNil))) mNil))) (mC (.bl true))) (mB opEq (mApp (C .is_of) (mCons (mV 5) (mCons (mApp newTup (mCons (mC (.str "record")) (mCons (mApp newTup mNil) (mCons (mC (.int 0)) mNil)))) mNil))) (mU (opIsi "tuple") (mV 5))))))))))))))
noncomputable def body (C : Cs) : Fn → Sm
  | .is_of => b_is_of C
  | ._law_cell => b__law_cell C
  | ._law_next => b__law_next C
  | ._law_labels => b__law_labels C
  | ._law_kind => b__law_kind C
  | ._law_any => b__law_any C
  | ._law_value => b__law_value C
  | ._law_bent => b__law_bent C
  | ._law_due => b__law_due C
  | .law => b_law C
def slots : Fn → Nat
  | .is_of => 4
  | ._law_cell => 2
  | ._law_next => 1
  | ._law_labels => 10
  | ._law_kind => 9
  | ._law_any => 6
  | ._law_value => 6
  | ._law_bent => 10
  | ._law_due => 5
  | .law => 9
def nm : Fn → Str
  | .is_of => "is_of"
  | ._law_cell => "_law_cell"
  | ._law_next => "_law_next"
  | ._law_labels => "_law_labels"
  | ._law_kind => "_law_kind"
  | ._law_any => "_law_any"
  | ._law_value => "_law_value"
  | ._law_bent => "_law_bent"
  | ._law_due => "_law_due"
  | .law => "law"
def ar : Fn → Nat
  | .is_of => 2
  | ._law_cell => 2
  | ._law_next => 1
  | ._law_labels => 2
  | ._law_kind => 4
  | ._law_any => 3
  | ._law_value => 3
  | ._law_bent => 3
  | ._law_due => 2
  | .law => 1
noncomputable def fin : Fn → PM.Fin
  | .is_of => finRaw
  | ._law_cell => finRaw
  | ._law_next => finRaw
  | ._law_labels => (finFrz 1)
  | ._law_kind => finRaw
  | ._law_any => finRaw
  | ._law_value => (finFrz 0)
  | ._law_bent => (finFrz 0)
  | ._law_due => finRaw
  | .law => finRaw
/-- what the defs answer, to a depth of calls -/
noncomputable def run : Nat → Cs
  | 0, _ => fun _ _ => .stuck
  | k + 1, f => fun ds S => fin f S (runB (body (run k) f) (slots f) ds S)

end K_k05
section
namespace K_k05
open PySem L2 PM
theorem run_succ (k : Nat) (f : Fn) (ds : List D) (S : Sto) : run (k + 1) f ds S = fin f S (runB (body (run k) f) (slots f) ds S) := rfl
theorem next_ok {k n : Nat} {S : Sto} {a b : Int} (h : S[n]? = some (.lst [.int a, .int b])) :
    run (k + 1) ._law_next [.ref n] S = .ok (.int ((a * 48271 + 11) % 2147483647 / 7)) (S.set n (.lst [.int ((a * 48271 + 11) % 2147483647), .int (b - 1)])) := by
  have e : ∀ o : MO, (S.set n o)[n]? = some o := fun o => sto_set h
  rw [run_succ]
  simp only [body, fin, slots, runB, b__law_next]
  simp [opIx_ref h, opMul_r, opMod_pos, opDiv_pos, opSet_lst h, opIx_ref (e _), opSet_lst (e _), finRaw]
theorem cell_ok {k : Nat} {S : Sto} {ns : List Int} {j : Nat} : run (k + 1) ._law_cell [.scr (ns.map .int), .int j] S = .ok (.int (cellv ns j)) S := by
  rw [run_succ]
  simp only [body, fin, slots, runB, b__law_cell]
  by_cases h : j < ns.length
  · simp [h, opMul_r, opMod_pos, finRaw, cellv]
  · simp [h, finRaw, cellv]

end K_k05
end
section
namespace K_k05
open PySem L2 PM
theorem labels_ok {k : Nat} {S : Sto} {c : Int} {m : Nat} (h0 : 0 ≤ c) (hm : m ≤ 8) : run (k + 1) ._law_labels [.int c, .int m] S = .ok (.lst ((labs c m).map .str)) S := by
  rw [run_succ]
  simp only [body, fin, slots, runB, b__law_labels]
  have h7 : 0 ≤ c % 7 ∧ c % 7 < 7 := ⟨by omega, by omega⟩
  have hA : 0 ≤ c / 7 % (c % 7 + 1) := Int.emod_nonneg _ (by omega)
  have l1 : limR 0 (c % 7) = true := limR_ok (by omega)
  have l2 : limR 0 (m : Int) = true := limR_ok (by omega)
  simp [opMod_pos, opDiv_pos, l1, l2, show (0 : Int) < c % 7 + 1 by omega, wipeD, rangeD_map]
  rw [comp_map (f := fun (k : Nat) => D.str ⟨#[sg (c / 49 % 26 + c / 1274 * (k : Int))]⟩) (hg := trivial) (h := fun x hx => by
    have hx : x < (c % 7).toNat := by simpa using hx
    refine ⟨_, rfl, rfl, ?_⟩
    have b0 := Int.emod_nonneg (c / 49 + c / 1274 * (x : Int)) (show (26 : Int) ≠ 0 by decide)
    have b1 := Int.emod_lt_of_pos (c / 49 + c / 1274 * (x : Int)) (show (0 : Int) < 26 by decide)
    simp [opDiv_pos, opMul_r (show -18446744073709551616 < (x : Int) ∧ (x : Int) < 18446744073709551616 by omega), opMod_pos, opIx_alpha b0 b1, sg])]
  simp only [R.bind_ok, List.nil_append]
  rw [join_map (fun k : Nat => sg (c / 49 % 26 + c / 1274 * (k : Int))) _ (by simp; omega)]
  have hle : (c / 7 % (c % 7 + 1)).toNat ≤ (⟨(labB c).toArray⟩ : Str).length := by
    have := labA_le h0
    simpa [labA, Str.length] using this
  have hlen : (labB c).length ≤ 7 := by rw [labB_len]; omega
  rw [show (List.range (c % 7).toNat).map (fun k : Nat => sg (c / 49 % 26 + c / 1274 * (k : Int))) = labB c from rfl]
  simp [l2, rangeD_map]
  generalize hL : loopM _ _ _ _ _ = r
  obtain ⟨δ', S', e, ⟨a, b, eδ⟩, eS⟩ := loop_of hL (fun i δ S' => (∃ a b, δ = [some (.int c), some (.int m), some (.str (Str.ofString "abcdefghijklmnopqrstuvwxyz")), some (.int (c % 7)), some (.int (c / 7 % (c % 7 + 1))), some (.int (c / 49 % 26)), some (.str ⟨(labB c).toArray⟩), a, some (.ref S.length), b]) ∧ S' = S ++ [.lst ((labs c i).map .str)])
    ⟨⟨_, _, rfl⟩, by simp [labs]⟩ (fun i x δ S1 hx ⟨⟨a, b, hδ⟩, hS⟩ => by
      rw [List.getElem?_map] at hx
      have hi : i < m := by
        rcases Nat.lt_or_ge i m with h | h
        · exact h
        · rw [List.getElem?_eq_none (by simpa using h)] at hx; cases hx
      rw [List.getElem?_range hi] at hx
      have ex : x = .int (i : Int) := by simpa using hx.symm
      subst hδ hS ex
      have b0 := Int.emod_nonneg (c / 49 + 3 * (i : Int)) (show (26 : Int) ≠ 0 by decide)
      have b1 := Int.emod_lt_of_pos (c / 49 + 3 * (i : Int)) (show (0 : Int) < 26 by decide)
      have hl : ((labs c i).map D.str).length < sizeLine := by rw [List.length_map, labs_len]; exact Nat.lt_of_lt_of_le (by omega) szl
      have z1 : (⟨((labB c).take (c / 7 % (c % 7 + 1)).toNat).toArray⟩ : Str).length + (⟨#[sg (c / 49 + 3 * (i : Int))]⟩ : Str).length ≤ sizeLine := by
        refine Nat.le_trans ?_ szl
        show _ + 1 ≤ _
        simp [Str.length]; omega
      have z2 : (⟨((labB c).take (c / 7 % (c % 7 + 1)).toNat ++ [sg (c / 49 + 3 * (i : Int))]).toArray⟩ : Str).length + (⟨((labB c).drop (c / 7 % (c % 7 + 1)).toNat).toArray⟩ : Str).length ≤ sizeLine := by
        refine Nat.le_trans ?_ szl
        simp [Str.length]; omega
      refine ⟨_, _, .inl ?_, ⟨some (.int i), some (.str ⟨#[sg (c / 49 + 3 * (i : Int))]⟩), rfl⟩, rfl⟩
      have hs : (⟨#[97 + ((c / 49 + 3 * (i : Int)) % 26).toNat]⟩ : Str) = ⟨#[sg (c / 49 + 3 * (i : Int))]⟩ := rfl
      have e1 : (⟨((labB c).take (c / 7 % (c % 7 + 1)).toNat).toArray⟩ : Str) ++ ⟨#[sg (c / 49 + 3 * (i : Int))]⟩ = ⟨((labB c).take (c / 7 % (c % 7 + 1)).toNat ++ [sg (c / 49 + 3 * (i : Int))]).toArray⟩ := str_app _ [sg (c / 49 + 3 * (i : Int))]
      have e2 := str_app ((labB c).take (c / 7 % (c % 7 + 1)).toNat ++ [sg (c / 49 + 3 * (i : Int))]) ((labB c).drop (c / 7 % (c % 7 + 1)).toNat)
      simp [loopB_eq, opDiv_pos, opMul_l, opMod_pos, opIx_alpha b0 b1, isLst_ref, cutS_to hA hle, cutS_from hA hle, hs]
      rw [opAdd_str z1, e1]
      simp only [R.bind_ok]
      rw [opAdd_str z2, e2]
      simp only [R.bind_ok]
      rw [cAppend_ref sto_snoc hl]
      simp
      rw [labs, labs, List.range_succ]
      simp [lab, labL, labA])
  subst e eδ eS
  simp
  exact finFrz_ref (Nat.le_refl _) sto_snoc (cls_map fun _ _ => rfl)

end K_k05
end
section
namespace K_k05
open PySem L2 PM
theorem is_loop {C : Cs} {S : Sto} {v0 k0 : Option D} {ls' : List Str} {vs' : List Vl} (hv : ls'.length = vs'.length) : ∀ {ls : List Str} {ks : List K} {x3 : Option D}, ls.length = ks.length → (∀ k ∈ ks, ∀ v ∈ vs', C .is_of [vd v, kd k] S = .ok (.bl (isB k v)) S) →
    ∃ x3', loopM (fun _ => True) (loopB (gmName 3) (sIf (mOr (mT (mB opNotIn (mB opIx (mV 3) (mC (.int 0))) (mV 2))) (mNot (mT (mApp (C .is_of) (mCons (mB opIx (mV 2) (mB opIx (mV 3) (mC (.int 0)))) (mCons (mB opIx (mV 3) (mC (.int 1))) mNil)))))) (sRet (mC (.bl false))) sPass)) (fldD ls (kds ks)) [v0, k0, some (.dct (ls'.map .inr) (vds vs')), x3] S =
      if isBs ls ks ls' vs' = true then .nx [v0, k0, some (.dct (ls'.map .inr) (vds vs')), x3'] S else .rt (.bl false) S
  | [], [], x3, _, _ => ⟨x3, by rw [show fldD [] (kds []) = [] from rfl, loopM, if_pos trivial, isBs, if_pos rfl]; simp⟩
  | l :: ls, k :: ks, x3, h, hC => by
    rw [kds, fldD_cons, loopM, if_pos trivial]
    have hg := getK_lkp l hv
    cases hl : lkp ls' vs' l with
    | none =>
      rw [hl] at hg
      refine ⟨x3, ?_⟩
      have hn : opNotIn (.str l) (.dct (ls'.map .inr) (vds vs')) S = .ok (.bl true) S := by rw [opNotIn_dct, hg]; rfl
      have hbs : isBs (l :: ls) (k :: ks) ls' vs' = false := by rw [isBs, hl]; rfl
      simp [loopB_eq, hn, hbs]
    | some v =>
      rw [hl] at hg
      have hn : opNotIn (.str l) (.dct (ls'.map .inr) (vds vs')) S = .ok (.bl false) S := by rw [opNotIn_dct, hg]; rfl
      have hi : opIx (.dct (ls'.map .inr) (vds vs')) (.str l) S = .ok (vd v) S := opIx_dct hg
      have hc := hC k (by simp) v (lkp_mem hl)
      obtain ⟨x3', e⟩ := is_loop (x3 := some (.tup [.str l, kd k])) hv (by simpa using h) fun k hk => hC k (by simp [hk])
      have hbs : isBs (l :: ls) (k :: ks) ls' vs' = (isB k v && isBs ls ks ls' vs') := by rw [isBs, hl]
      cases hb : isB k v with
      | true =>
        refine ⟨x3', ?_⟩
        rw [hb] at hc
        rw [hbs, hb, Bool.true_and, ← e]
        simp [loopB_eq, hn, hi, hc]
      | false =>
        refine ⟨x3', ?_⟩
        rw [hb] at hc
        simp [loopB_eq, hn, hi, hc, hbs, hb]
theorem is_of_ok {m : Nat} : ∀ (d : Nat) {e j : Nat} {S : Sto} {k : K} {v : Vl}, d ≤ j → WK d k → WV m e v → run j .is_of [vd v, kd k] S = .ok (.bl (isB k v)) S := by
  intro d
  induction d with
  | zero => intro e j S k v _ h; cases h
  | succ d ih =>
    intro e j S k v hj hk hv
    obtain ⟨j, rfl⟩ : ∃ i, j = i + 1 := ⟨j - 1, by omega⟩
    rw [run_succ]
    simp only [body, fin, slots, runB, b_is_of]
    cases hk with
    | num => cases hv <;> simp [kd, vd, isB, finRaw]
    | blk => cases hv <;> simp [kd, vd, isB, finRaw]
    | rc h1 h2 h3 h4 h5 =>
      rename_i ls ks r
      cases hv with
      | num => simp [kd, vd, isB, finRaw]
      | rc g1 g2 g3 g4 g5 =>
        rename_i e ls' vs'
        simp [kd, vd, cDict_fld (show ls'.length = (vds vs').length by rw [vds_len]; exact g1) g3]
        generalize hL : loopM _ _ _ _ _ = q
        obtain ⟨x3', e⟩ := is_loop (C := run j) (S := S) (v0 := some (.tup (fldD ls' (vds vs')))) (k0 := some (.tup [.str "record", .tup (fldD ls (kds ks)), rD0 r])) (x3 := none) g1 h1 fun k hk v hv => ih (by omega) (h5 k hk) (g5 v hv)
        rw [e] at hL
        subst hL
        have hl : (fldD ls (kds ks)).length = ls.length := by rw [fldD, List.length_zipWith, kds_len, h1, Nat.min_self]
        by_cases hb : isBs ls ks ls' vs' = true
        · rw [if_pos hb]
          cases r <;> simp [isB, hb, finRaw, rD0, isNon, lenOf, hl, Int.natCast_inj]
        · rw [if_neg hb]
          have hb : isBs ls ks ls' vs' = false := by simpa using hb
          simp [isB, hb, finRaw]

end K_k05
end
section
namespace K_k05
open PySem L2 PM
theorem due_loop {C : Cs} {S : Sto} {v0 k0 : Option D} {ls' : List Str} {vs' : List Vl} (hv : ls'.length = vs'.length) : ∀ {ls : List Str} {ks : List K} {x3 x4 : Option D}, ls.length = ks.length → (∀ k ∈ ks, ∀ v ∈ vs', C ._law_due [vd v, kd k] S = .ok (.bl (isB k v)) S) →
    ∃ x3' x4', loopM (fun _ => True) (loopB (gmTup [3, 4]) (sIf (mOr (mT (mB opNotIn (mV 3) (mV 2))) (mNot (mT (mApp (C ._law_due) (mCons (mB opIx (mV 2) (mV 3)) (mCons (mV 4) mNil)))))) (sRet (mC (.bl false))) sPass)) (fldD ls (kds ks)) [v0, k0, some (.dct (ls'.map .inr) (vds vs')), x3, x4] S =
      if isBs ls ks ls' vs' = true then .nx [v0, k0, some (.dct (ls'.map .inr) (vds vs')), x3', x4'] S else .rt (.bl false) S
  | [], [], x3, x4, _, _ => ⟨x3, x4, by rw [show fldD [] (kds []) = [] from rfl, loopM, if_pos trivial, isBs, if_pos rfl]; simp⟩
  | l :: ls, k :: ks, x3, x4, h, hC => by
    rw [kds, fldD_cons, loopM, if_pos trivial]
    have hg := getK_lkp l hv
    cases hl : lkp ls' vs' l with
    | none =>
      rw [hl] at hg
      refine ⟨x3, x4, ?_⟩
      have hn : opNotIn (.str l) (.dct (ls'.map .inr) (vds vs')) S = .ok (.bl true) S := by rw [opNotIn_dct, hg]; rfl
      have hbs : isBs (l :: ls) (k :: ks) ls' vs' = false := by rw [isBs, hl]; rfl
      simp [loopB_eq, hn, hbs]
    | some v =>
      rw [hl] at hg
      have hn : opNotIn (.str l) (.dct (ls'.map .inr) (vds vs')) S = .ok (.bl false) S := by rw [opNotIn_dct, hg]; rfl
      have hi : opIx (.dct (ls'.map .inr) (vds vs')) (.str l) S = .ok (vd v) S := opIx_dct hg
      have hc := hC k (by simp) v (lkp_mem hl)
      obtain ⟨x3', x4', e⟩ := due_loop (x3 := some (.str l)) (x4 := some (kd k)) hv (by simpa using h) fun k hk => hC k (by simp [hk])
      have hbs : isBs (l :: ls) (k :: ks) ls' vs' = (isB k v && isBs ls ks ls' vs') := by rw [isBs, hl]
      cases hb : isB k v with
      | true =>
        refine ⟨x3', x4', ?_⟩
        rw [hb] at hc
        rw [hbs, hb, Bool.true_and, ← e]
        simp [loopB_eq, hn, hi, hc]
      | false =>
        refine ⟨x3', x4', ?_⟩
        rw [hb] at hc
        simp [loopB_eq, hn, hi, hc, hbs, hb]
theorem due_ok {m : Nat} : ∀ (d : Nat) {e j : Nat} {S : Sto} {k : K} {v : Vl}, d ≤ j → WK d k → WV m e v → run j ._law_due [vd v, kd k] S = .ok (.bl (isB k v)) S := by
  intro d
  induction d with
  | zero => intro e j S k v _ h; cases h
  | succ d ih =>
    intro e j S k v hj hk hv
    obtain ⟨j, rfl⟩ : ∃ i, j = i + 1 := ⟨j - 1, by omega⟩
    rw [run_succ]
    simp only [body, fin, slots, runB, b__law_due]
    cases hk with
    | num => cases hv <;> simp [kd, vd, isB, finRaw]
    | blk => cases hv <;> simp [kd, vd, isB, finRaw]
    | rc h1 h2 h3 h4 h5 =>
      rename_i ls ks r
      cases hv with
      | num => simp [kd, vd, isB, finRaw]
      | rc g1 g2 g3 g4 g5 =>
        rename_i e ls' vs'
        simp [kd, vd, cDict_fld (show ls'.length = (vds vs').length by rw [vds_len]; exact g1) g3]
        generalize hL : loopM _ _ _ _ _ = q
        obtain ⟨x3', x4', e⟩ := due_loop (C := run j) (S := S) (v0 := some (.tup (fldD ls' (vds vs')))) (k0 := some (.tup [.str "record", .tup (fldD ls (kds ks)), rD0 r])) (x3 := none) (x4 := none) g1 h1 fun k hk v hv => ih (by omega) (h5 k hk) (g5 v hv)
        rw [e] at hL
        subst hL
        have hl : (fldD ls (kds ks)).length = ls.length := by rw [fldD, List.length_zipWith, kds_len, h1, Nat.min_self]
        have hl2 : (fldD ls' (vds vs')).length = ls'.length := by rw [fldD, List.length_zipWith, vds_len, g1, Nat.min_self]
        by_cases hb : isBs ls ks ls' vs' = true
        · rw [if_pos hb]
          cases r <;> simp [isB, hb, finRaw, rD0, isNon, lenOf, hl, hl2, Int.natCast_inj]
        · rw [if_neg hb]
          have hb : isBs ls ks ls' vs' = false := by simpa using hb
          simp [isB, hb, finRaw]

end K_k05
end
section
namespace K_k05
open PySem L2 PM
theorem kind_ok {n q : Nat} (nq : n ≠ q) {w : Int} (hw : 0 ≤ w ∧ w < 1000000000) {ls : List Str} (h4 : ls.length = 4) (hn : ls.Nodup) (hl : ∀ l ∈ ls, IsLab l) : ∀ (d : Nat) {k M : Nat} {S : Sto} {l : Int}, l = d + 1 → d + 2 ≤ k → M ≤ 1000 → KSt S n q M →
    ∃ kk T, run k ._law_kind [.ref n, .lst (ls.map .str), .lst [.int w, .ref q], .int l] S = .ok (kd kk) T ∧ WK (d + 1) kk ∧ KSt T n q M ∧ KNx S T n q := by
  intro d
  induction d with
  | zero =>
    intro k M S l hd hk hM hs
    obtain ⟨k, rfl⟩ : ∃ j, k = j + 2 := ⟨k - 2, by omega⟩
    obtain ⟨a, b, ws, h0, hS, hq, hws, hb⟩ := hs
    have hr := next_ok (k := k) hS
    refine ⟨.num, _, ?_, .num, ⟨(a * 48271 + 11) % 2147483647, b - 1, ws, ?_, sto_set hS, by rw [List.getElem?_set_ne nq]; exact hq, hws, by omega⟩, .set1⟩
    · rw [run_succ]
      simp only [body, fin, slots, runB, b__law_kind]
      simp [hr, hd, kd, finRaw]
    · omega
  | succ d ih =>
    intro k M S l hd hk hM hs
    obtain ⟨k, rfl⟩ : ∃ j, k = j + 2 := ⟨k - 2, by omega⟩
    obtain ⟨a, b, ws, h0, hS, hq, hws, hb⟩ := hs
    have hr := next_ok (k := k) hS
    have hT := sto_set (o := .lst [.int ((a * 48271 + 11) % 2147483647), .int (b - 1)]) hS
    have hqT : (S.set n (.lst [.int ((a * 48271 + 11) % 2147483647), .int (b - 1)]))[q]? = some (.lst (ws.map wD)) := by rw [List.getElem?_set_ne nq]; exact hq
    have hx : KNx S (S.set n (.lst [.int ((a * 48271 + 11) % 2147483647), .int (b - 1)])) n q := .set1
    have hv : 0 ≤ (a * 48271 + 11) % 2147483647 := by omega
    have hv2 : 0 ≤ (a * 48271 + 11) % 2147483647 / 7 := by omega
    generalize S.set n (.lst [.int ((a * 48271 + 11) % 2147483647), .int (b - 1)]) = T at *
    generalize (a * 48271 + 11) % 2147483647 = a' at *
    generalize a' / 7 = v at *
    rw [run_succ]
    simp only [body, fin, slots, runB, b__law_kind]
    have hl1 : ¬ l ≤ 1 := by omega
    simp [hr, hl1, opIx_ref hT, opMod_pos]
    by_cases c1 : b - 1 ≤ 0
    · refine ⟨.num, T, ?_, .num, ⟨a', b - 1, ws, hv, hT, hqT, hws, by omega⟩, hx⟩
      simp [c1, kd, finRaw]
    by_cases c2 : v % 7 < 2
    · refine ⟨.num, T, ?_, .num, ⟨a', b - 1, ws, hv, hT, hqT, hws, by omega⟩, hx⟩
      simp [c1, c2, kd, finRaw]
    by_cases c3 : v % 7 = 2
    · refine ⟨.blk (w * 2 * (v / 7 % 3)), T, ?_, .blk, ⟨a', b - 1, ws, hv, hT, hqT, hws, by omega⟩, hx⟩
      simp [c1, c3, kd, finRaw, opMul_l (show -18446744073709551616 < w ∧ w < 18446744073709551616 by omega), opMul_l (show -18446744073709551616 < w * 2 ∧ w * 2 < 18446744073709551616 by omega), opDiv_pos, opMod_pos]
    obtain ⟨l1, hl1', e1⟩ := labs_at h4 (show 0 ≤ v / 7 % 4 by omega) (by omega)
    obtain ⟨l2, hl2', e2⟩ := labs_at h4 (show 0 ≤ v / 28 % 4 by omega) (by omega)
    obtain ⟨l3, hl3', e3⟩ := labs_at h4 (show 0 ≤ v / 112 % 4 by omega) (by omega)
    have eS : ∀ S, cSorted [.lst (ls.map .str)] S = .ok (.lst ((sortStr ls).map .str)) S := fun S => by
      simp only [cSorted, rdL, asL, strsOf_id]
    simp [c1, c2, c3, opDiv_pos, opMod_pos, e1, e2, e3, cutD_to (show 0 ≤ v / 448 % 4 by omega), eS, wipeD]
    have ep : List.take (v / 448 % 4).toNat [D.str l1, D.str l2, D.str l3] = ([l1, l2, l3].take (v / 448 % 4).toNat).map D.str := by rw [List.map_take]; rfl
    rw [ep]
    generalize [l1, l2, l3].take (v / 448 % 4).toNat = pk
    rw [comp_filtm (i := D.str) (p := fun x => decide (x ∈ pk)) (f := D.str) trivial _ _ fun x _ => ⟨_, rfl, by simp [opIn_strs], fun _ => by simp⟩]
    have ww : ∀ x ∈ (sortStr ls).filter fun x => decide (x ∈ pk), x ∈ ls := fun x hx => (sortStr_perm ls).mem_iff.mp (List.mem_filter.mp hx).1
    have wn : ((sortStr ls).filter fun x => decide (x ∈ pk)).Nodup := List.Nodup.sublist List.filter_sublist ((sortStr_perm ls).nodup_iff.mpr hn)
    have wl : ((sortStr ls).filter fun x => decide (x ∈ pk)).length ≤ 4 := Nat.le_trans (List.length_filter_le _ _) (by rw [(sortStr_perm ls).length_eq, h4]; exact Nat.le_refl _)
    generalize ((sortStr ls).filter fun x => decide (x ∈ pk)) = wds at *
    have wok : WOk wds := fun x hx => hl x (ww x hx)
    simp [wipeD]
    generalize hC : compM _ _ _ _ _ _ _ _ = r
    obtain ⟨acc, T2, e, ks, e4, e5, e6, ⟨a2, b2, ws2, k0, kS, kq, kws, kb⟩, e8⟩ := comp_ofN hC (fun i acc S' => ∃ ks, acc = fldD (wds.take i) (kds ks) ∧ ks.length = i ∧ (∀ k ∈ ks, WK (d + 1) k) ∧ KSt S' n q (M - 1) ∧ KNx T S' n q)
      ⟨[], rfl, rfl, by simp, ⟨a', b - 1, ws, hv, hT, hqT, hws, by omega⟩, .refl⟩ (fun i x acc S1 hx hI => by
        obtain ⟨ks, e4, e5, e6, e7, e8⟩ := hI
        rw [List.getElem?_map] at hx
        obtain ⟨y, hy, ex⟩ := Option.map_eq_some_iff.mp hx
        obtain ⟨kk, U, g1, g2, g3, g4⟩ := ih (k := k + 1) (l := l - 1) (by omega) (by omega) (by omega) e7
        subst e4 ex
        have hi : i < wds.length := (List.getElem?_eq_some_iff.mp hy).1
        refine ⟨_, S1, .tup [.str y, kd kk], U, rfl, ?_, ks ++ [kk], ?_, by simp [e5], ?_, g3, e8.trans g4⟩
        · simp [g1]
        · have ht : wds.take (i + 1) = wds.take i ++ [y] := by rw [List.take_add_one, hy]; rfl
          rw [ht, show kds (ks ++ [kk]) = kds ks ++ [kd kk] from by simp [kds_map], fldD_snoc (by rw [kds_len, e5, List.length_take]; omega)]
        · intro x hx
          rcases List.mem_append.mp hx with hx | hx
          · exact e6 x hx
          · rw [List.mem_singleton.mp hx]; exact g2)
    subst e e4
    have hM1 : 1 ≤ M := by omega
    rw [List.length_map] at e5
    rw [List.length_map, List.take_length]
    have hlen : wds.length = ks.length := e5.symm
    simp
    by_cases c5 : v / 1792 % 2 = 0
    · refine ⟨.rc wds ks none, T2, ?_, .rc hlen (by omega) wn wok e6, ⟨a2, b2, ws2, k0, kS, kq, kws, by omega⟩, hx.trans e8⟩
      simp [c5, kd, finRaw, rD0, opDiv_pos, opMod_pos]
    have hni := opNotIn_ws kq wok kws
    rw [wD] at hni
    by_cases c6 : wds ∈ ws2
    · obtain ⟨j, hj, hji⟩ := cIndex_ws kq wok kws c6
      rw [wD] at hji
      refine ⟨.rc wds ks (some (w * (1 + 2 * (j : Int)))), T2, ?_, .rc hlen (by omega) wn wok e6, ⟨a2, b2, ws2, k0, kS, kq, kws, by omega⟩, hx.trans e8⟩
      simp [c5, c6, opDiv_pos, opMod_pos, hni, hji, isLst_ref kq, kd, finRaw, rD0, opMul_l, opMul_l (show -18446744073709551616 < w ∧ w < 18446744073709551616 by omega)]
    · have hcap : (ws2.map wD).length < sizeLine := by rw [List.length_map]; exact Nat.lt_of_lt_of_le (by omega) szl
      have hq3 : (T2.set q (.lst ((ws2 ++ [wds]).map wD)))[q]? = some (.lst ((ws2 ++ [wds]).map wD)) := sto_set kq
      have kws3 : ∀ w ∈ ws2 ++ [wds], WOk w := fun x hx => by
        rcases List.mem_append.mp hx with hx | hx
        · exact kws x hx
        · rw [List.mem_singleton.mp hx]; exact wok
      obtain ⟨j, hj, hji⟩ := cIndex_ws hq3 wok kws3 (by simp)
      have e9 : ws2.map wD ++ [wD wds] = (ws2 ++ [wds]).map wD := by simp
      have hap : cAppend (.ref q) [.lst (wds.map .str)] T2 = .ok .non (T2.set q (.lst ((ws2 ++ [wds]).map wD))) := by rw [cAppend_ref kq hcap, ← e9]; rfl
      rw [wD] at hji
      refine ⟨.rc wds ks (some (w * (1 + 2 * (j : Int)))), T2.set q (.lst ((ws2 ++ [wds]).map wD)), ?_, .rc hlen (by omega) wn wok e6, ⟨a2, b2, ws2 ++ [wds], k0, by rw [List.getElem?_set_ne (Ne.symm nq)]; exact kS, hq3, kws3, by simp; omega⟩, (hx.trans e8).trans .set2⟩
      generalize T2.set q (.lst ((ws2 ++ [wds]).map wD)) = T3 at *
      simp [c5, c6, opDiv_pos, opMod_pos, hni, hji, hap, isLst_ref kq, isLst_ref hq3, kd, finRaw, rD0, opMul_l, opMul_l (show -18446744073709551616 < w ∧ w < 18446744073709551616 by omega)]

end K_k05
end
section
namespace K_k05
open PySem L2 PM
theorem next_is {k n : Nat} {S : Sto} (h : IsSt S n) : ∃ (v b : Int) (T : Sto), 0 ≤ v ∧ run (k + 1) ._law_next [.ref n] S = .ok (.int v) T ∧ NxSt S n T ∧ ∃ a, T[n]? = some (.lst [.int a, .int b]) := by
  have hn := h.lt
  obtain ⟨a, b, h0, h⟩ := h
  have hT : (S.set n (.lst [.int ((a * 48271 + 11) % 2147483647), .int (b - 1)]))[n]? = some (.lst [.int ((a * 48271 + 11) % 2147483647), .int (b - 1)]) := by rw [List.getElem?_set_self hn]
  exact ⟨_, _, _, by omega, next_ok h, ⟨_, _, by omega, rfl⟩, _, hT⟩

end K_k05
end
section
namespace K_k05
open PySem L2 PM
theorem any_ok {n : Nat} {ls : List Str} (h4 : ls.length = 4) (hn : ls.Nodup) (hl : ∀ l ∈ ls, IsLab l) : ∀ (d : Nat) {k : Nat} {S : Sto} {l : Int}, l = d + 1 → d + 2 ≤ k → IsSt S n →
    ∃ v T, run k ._law_any [.ref n, .lst (ls.map .str), .int l] S = .ok (vd v) T ∧ WV 6 (d + 1) v ∧ NxSt S n T ∧ (d = 0 → ∃ i, v = .num i) := by
  intro d
  have hp : ∀ S, opPow (.int 10) (.int 12) S = .ok (.int 1000000000000) S := fun S => opPow_int (by decide)
  have num : ∀ {v : Int} {S : Sto}, 0 ≤ v → ∃ i, at1 (atI [D.int (v / 2 % 5), .int (v / 2 % 2000000000000 - 1000000000000)] (v / 20 % 2)) S = .ok (.int i) S := fun {v S} h => by
    obtain ⟨x, _, e⟩ := opIx_map (f := D.int) (xs := [v / 2 % 5, v / 2 % 2000000000000 - 1000000000000]) (j := v / 20 % 2) (by omega) (by simp; omega)
    exact ⟨x, by rw [← opIx_lst]; exact e S⟩
  induction d with
  | zero =>
    intro k S l hd hk hs
    obtain ⟨k, rfl⟩ : ∃ j, k = j + 2 := ⟨k - 2, by omega⟩
    obtain ⟨v, b, T, hv, hr, hT, _⟩ := next_is (k := k) hs
    obtain ⟨i, hi⟩ := num (S := T) hv
    refine ⟨.num i, T, ?_, .num, hT, fun _ => ⟨i, rfl⟩⟩
    rw [run_succ]
    simp only [body, fin, slots, runB, b__law_any]
    simp [hr, hd, hp, opMul_l, opDiv_pos, opMod_pos, hi, finRaw, vd]
  | succ d ih =>
    intro k S l hd hk hs
    obtain ⟨k, rfl⟩ : ∃ j, k = j + 2 := ⟨k - 2, by omega⟩
    obtain ⟨v, b, T, hv, hr, hT, _⟩ := next_is (k := k) hs
    have hst := hT.is hs.lt
    obtain ⟨i, hi⟩ := num (S := T) hv
    have hl1 : ¬ l ≤ 1 := by omega
    rw [run_succ]
    simp only [body, fin, slots, runB, b__law_any]
    simp [hr, hl1, opMod_pos]
    by_cases c1 : v % 2 = 0
    · refine ⟨.num i, T, ?_, .num, hT⟩
      simp [c1, hp, opMul_l, opDiv_pos, opMod_pos, hi, finRaw, vd]
    have eS : ∀ S, cSorted [.lst (ls.map .str)] S = .ok (.lst ((sortStr ls).map .str)) S := fun S => by simp only [cSorted, rdL, asL, strsOf_id]
    simp [c1, eS, wipeD]
    generalize hC : compM _ _ _ _ _ _ _ _ = r
    obtain ⟨acc, T2, e, wds, e4, e5, e6⟩ := comp_ofI hC (fun i acc S' => ∃ wds : List Str, acc = wds.map .str ∧ wds.Sublist ((sortStr ls).take i) ∧ NxSt T n S')
      ⟨[], rfl, by simp, .refl hst⟩ (fun i x acc S1 hx hI => by
        obtain ⟨wds, e4, e5, e6⟩ := hI
        rw [List.getElem?_map] at hx
        obtain ⟨y, hy, ex⟩ := Option.map_eq_some_iff.mp hx
        obtain ⟨u, b, U, hu, g1, g2, _⟩ := next_is (k := k) (e6.is hst.lt)
        subst e4 ex
        have ht : (sortStr ls).take (i + 1) = (sortStr ls).take i ++ [y] := by rw [List.take_add_one, hy]; rfl
        refine ⟨_, S1, decide (u % 2 = 0), U, rfl, by simp [g1, opMod_pos], fun _ => ⟨.str y, U, by simp, wds ++ [y], by simp, ?_, e6.trans g2⟩, fun _ => ⟨wds, rfl, ?_, e6.trans g2⟩⟩
        · rw [ht]; exact e5.append (List.Sublist.refl _)
        · rw [ht]; exact e5.trans (List.sublist_append_left _ _))
    subst e e4
    rw [List.length_map, List.take_length] at e5
    have ww : ∀ x ∈ wds, x ∈ ls := fun x hx => (sortStr_perm ls).mem_iff.mp (e5.mem hx)
    have wn : wds.Nodup := List.Nodup.sublist e5 ((sortStr_perm ls).nodup_iff.mpr hn)
    have wl : wds.length ≤ 4 := Nat.le_trans e5.length_le (by rw [(sortStr_perm ls).length_eq, h4]; exact Nat.le_refl _)
    have hst2 := e6.is hst.lt
    simp [wipeD]
    generalize hC : compM _ _ _ _ _ _ _ _ = r
    obtain ⟨acc, T3, e, vs, f4, f5, f6, f7⟩ := comp_ofN hC (fun i acc S' => ∃ vs, acc = fldD (wds.take i) (vds vs) ∧ vs.length = i ∧ (∀ v ∈ vs, WV 6 (d + 1) v) ∧ NxSt T2 n S')
      ⟨[], rfl, rfl, by simp, .refl hst2⟩ (fun i x acc S1 hx hI => by
        obtain ⟨vs, f4, f5, f6, f7⟩ := hI
        rw [List.getElem?_map] at hx
        obtain ⟨y, hy, ex⟩ := Option.map_eq_some_iff.mp hx
        obtain ⟨vv, U, g1, g2, g3, _⟩ := ih (k := k + 1) (l := l - 1) (by omega) (by omega) (f7.is hst2.lt)
        subst f4 ex
        have hi : i < wds.length := (List.getElem?_eq_some_iff.mp hy).1
        refine ⟨_, S1, .tup [.str y, vd vv], U, rfl, by simp [g1], vs ++ [vv], ?_, by simp [f5], ?_, f7.trans g3⟩
        · have ht : wds.take (i + 1) = wds.take i ++ [y] := by rw [List.take_add_one, hy]; rfl
          rw [ht, show vds (vs ++ [vv]) = vds vs ++ [vd vv] from by simp [vds_map], fldD_snoc (by rw [vds_len, f5, List.length_take]; omega)]
        · intro x hx
          rcases List.mem_append.mp hx with hx | hx
          · exact f6 x hx
          · rw [List.mem_singleton.mp hx]; exact g2)
    subst e f4
    rw [List.length_map] at f5
    rw [List.length_map, List.take_length]
    refine ⟨.rc wds vs, T3, ?_, .rc f5.symm (by omega) wn (fun x hx => hl x (ww x hx)) f6, (hT.trans e6).trans f7⟩
    simp [finRaw, vd]

end K_k05
end
section
namespace K_k05
open PySem L2 PM
theorem value_ok {n : Nat} {ls : List Str} (h4 : ls.length = 4) (hn : ls.Nodup) (hl : ∀ l ∈ ls, IsLab l) : ∀ (d : Nat) {k : Nat} {S : Sto} {kk : K}, WK d kk → d + 5 ≤ k → IsSt S n →
    ∃ v T, run k ._law_value [.ref n, kd kk, .lst (ls.map .str)] S = .ok (vd v) T ∧ WV 10 (d + 3) v ∧ isB kk v = true ∧ NxSt S n T := by
  intro d
  induction d with
  | zero => intro k S kk h; cases h
  | succ d ih =>
    intro k S kk hkk hk hs
    obtain ⟨k, rfl⟩ : ∃ j, k = j + 1 := ⟨k - 1, by omega⟩
    rw [run_succ]
    simp only [body, fin, slots, runB, b__law_value]
    cases hkk with
    | num =>
      obtain ⟨v, T, e1, e2, e3, e4⟩ := any_ok h4 hn hl 0 (k := k) (l := 1) (by decide) (by omega) hs
      obtain ⟨i, e⟩ := e4 rfl
      subst e
      refine ⟨.num i, T, ?_, .num, rfl, e3⟩
      have := e3.frz (k := 0) (T := []) (d := vd (.num i)) hs.lt rfl
      simp only [List.append_nil] at this
      simp [kd, e1, this]
    | blk =>
      obtain ⟨v, T, e1, e2, e3, e4⟩ := any_ok h4 hn hl 2 (k := k) (l := 3) (by decide) (by omega) hs
      refine ⟨v, T, ?_, (e2.more (by decide)).mono (by omega), by cases v <;> simp [isB], e3⟩
      have := e3.frz (k := 0) (T := []) (d := vd v) hs.lt (vd_cl e2)
      simp only [List.append_nil] at this
      simp [kd, e1, this]
    | rc h1 h2 h3 h5 h6 =>
      rename_i kls kks r
      simp [kd]
      generalize hL : loopM _ _ _ _ _ = q
      obtain ⟨δ', S', e, x4, x5, S1, fv, eδ, q1, q2, q3, q4, eS⟩ := loop_of hL (fun i δ S' => ∃ x4 x5 S1 fv, δ = [some (.ref n), some (.tup [.str "record", .tup (fldD kls (kds kks)), rD0 r]), some (.lst (ls.map .str)), some (.ref S.length), x4, x5] ∧ fv.length = i ∧ (∀ v ∈ fv, WV 10 (d + 3) v) ∧ (∀ (j : Nat) k v, kks[j]? = some k → fv[j]? = some v → isB k v = true) ∧ NxSt S n S1 ∧ S' = S1 ++ [.dK ((kls.take i).map .inr) (vds fv)])
        ⟨_, _, S, [], rfl, rfl, by simp, by simp, .refl hs, rfl⟩ (fun i x δ S1' hx hI => by
          obtain ⟨x4, x5, S1, fv, eδ, q1, q2, q3, q4, eS⟩ := hI
          subst eδ eS
          have hi : i < kls.length := by
            rcases Nat.lt_or_ge i kls.length with h | h
            · exact h
            · rw [List.getElem?_eq_none (by rw [fldD, List.length_zipWith]; omega)] at hx; cases hx
          obtain ⟨l, hlj⟩ : ∃ l, kls[i]? = some l := ⟨_, List.getElem?_eq_getElem hi⟩
          obtain ⟨kc, hkc⟩ : ∃ l, kks[i]? = some l := ⟨_, List.getElem?_eq_getElem (by omega)⟩
          have ex : x = .tup [.str l, kd kc] := by
            rw [fldD, List.getElem?_zipWith, hlj, kds_map, List.getElem?_map, hkc] at hx
            simpa using hx.symm
          subst ex
          obtain ⟨v, U, g1, g2, g3, g4⟩ := ih (k := k) (h6 kc (List.mem_of_getElem? hkc)) (by omega) (S := S1 ++ [.dK ((kls.take i).map .inr) (vds fv)]) (q4.is hs.lt).app
          obtain ⟨S2, eU, g5⟩ := g4.app (by rw [q4.len]; exact hs.lt)
          subst eU
          have q6 := q4.trans g5
          have hnew : (Sum.inr l : Key) ∉ (kls.take i).map Sum.inr := fun hm => by
            obtain ⟨y, hy, e⟩ := List.mem_map.mp hm
            have e : y = l := Sum.inr.inj e
            subst e
            have hd : (kls.take i ++ kls.drop i).Nodup := by rw [List.take_append_drop]; exact h3
            rw [List.nodup_append] at hd
            exact hd.2.2 y hy y (by rw [drop_get hlj]; simp) rfl
          have hget : (S2 ++ [MO.dK ((kls.take i).map .inr) (vds fv)])[S.length]? = some (.dK ((kls.take i).map .inr) (vds fv)) := by rw [← q6.len]; exact sto_snoc
          have hset := opSet_new (d := vd v) hget (Nat.lt_of_lt_of_le (by simp; omega) szl) hnew
          refine ⟨_, S2 ++ [.dK ((kls.take (i + 1)).map .inr) (vds (fv ++ [v]))], .inl ?_, some (.str l), some (kd kc), S2, fv ++ [v], rfl, by simp [q1], ?_, ?_, q6, rfl⟩
          rotate_left
          · intro x hx
            rcases List.mem_append.mp hx with hx | hx
            · exact q2 x hx
            · rw [List.mem_singleton.mp hx]; exact g2
          · intro j k' v' hj hv'
            rcases Nat.lt_or_ge j fv.length with hjl | hjl
            · rw [List.getElem?_append_left hjl] at hv'
              exact q3 j k' v' hj hv'
            · rw [List.getElem?_append_right hjl] at hv'
              have : j = i := by
                have := (List.getElem?_eq_some_iff.mp hv').1
                simp at this; omega
              subst this
              rw [hkc] at hj
              cases hj
              rw [q1, Nat.sub_self] at hv'
              simp at hv'
              rw [← hv']; exact g3
          · have ht : kls.take (i + 1) = kls.take i ++ [l] := by rw [List.take_add_one, hlj]; rfl
            simp [-List.map_take, loopB_eq, g1, hset]
            rw [← q6.len, List.set_append_right _ _ (Nat.le_refl _), ht]
            simp [vds_app, vds])
      subst e eδ eS
      have hfl : (fldD kls (kds kks)).length = kls.length := by rw [fldD, List.length_zipWith, kds_len, h1, Nat.min_self]
      rw [hfl] at q1
      rw [hfl, List.take_length]
      have q1' : kls.length = fv.length := q1.symm
      have hfin : ∀ {ex : List Str} {ev : List Vl} {S2 : Sto} {x4 x5 : Option D}, ex.length = ev.length → ex.length ≤ 6 → (kls ++ ex).Nodup → (∀ l ∈ ex, IsLab l) → (∀ v ∈ ev, WV 10 (d + 3) v) → (r = none → ex = []) → NxSt S n S2 →
          ∃ v T, finFrz 0 S (match (sRet (mApp cTuple (mCons (mComp (sItems (mApp cSorted (mCons (mApp cListK (mCons (mV 3) mNil)) mNil))) (gmName 4) mYes (mApp newTup (mCons (mV 4) (mCons (mB opIx (mV 3) (mV 4)) mNil))) [4]) mNil))) [some (.ref n), some (.tup [.str "record", .tup (fldD kls (kds kks)), rD0 r]), some (.lst (ls.map .str)), some (.ref S.length), x4, x5] (S2 ++ [.dK ((kls ++ ex).map .inr) (vds (fv ++ ev))]) with
            | .nx δ S' => .ok .non S'
            | .rt d S' => .ok d S'
            | .exc c δ S' => .exc c S'
            | x => .stuck) = .ok (vd v) T ∧ WV 10 (d + 1 + 3) v ∧ isB (.rc kls kks r) v = true ∧ NxSt S n T := by
        intro ex ev S2 x4 x5 z1 z2 z3 z4 z5 z6 z7
        have hget : (S2 ++ [MO.dK ((kls ++ ex).map .inr) (vds (fv ++ ev))])[S.length]? = some (.dK ((kls ++ ex).map .inr) (vds (fv ++ ev))) := by rw [← z7.len]; exact sto_snoc
        have hlab : ∀ l ∈ kls ++ ex, IsLab l := fun l hx => by
          rcases List.mem_append.mp hx with hx | hx
          · exact h5 l hx
          · exact z4 l hx
        have hlen : (kls ++ ex).length = (fv ++ ev).length := by simp [q1', z1]
        have hk1 := cListK_inr hget hlab
        have hk2 : ∀ S, cSorted [.lst ((kls ++ ex).map .str)] S = .ok (.lst ((sortStr (kls ++ ex)).map .str)) S := fun S => by simp only [cSorted, rdL, asL, strsOf_id]
        have hwv := sortV_wv (m := 10) (d := d + 3) hlen (by simp; omega) z3 hlab (fun v hv => by
          rcases List.mem_append.mp hv with hv | hv
          · exact q2 v hv
          · exact z5 v hv)
        refine ⟨sortV (kls ++ ex) (fv ++ ev), S2, ?_, hwv, ?_, z7⟩
        · have hfr := z7.frz (k := 0) (T := [MO.dK ((kls ++ ex).map .inr) (vds (fv ++ ev))]) (d := vd (sortV (kls ++ ex) (fv ++ ev))) hs.lt (vd_cl hwv)
          rw [sortV_vd] at hfr ⊢
          generalize S2 ++ [MO.dK ((kls ++ ex).map .inr) (vds (fv ++ ev))] = U at *
          simp only [sRet_eq, mApp_eq, mCons_eq, mNil_eq, mComp_eq, sItems_eq, mV_eq, List.getElem?_cons_succ, List.getElem?_cons_zero, R.bind_ok, hk1, hk2]
          rw [comp_map (i := D.str) (f := fun l => .tup [.str l, vd (valOf (kls ++ ex) (fv ++ ev) l)]) (hg := trivial) (h := fun l hx => by
            have hm : l ∈ kls ++ ex := (sortStr_perm _).mem_iff.mp hx
            have hg := getK_lkp l hlen
            rw [lkp_some hlen hm] at hg
            have hi := opIx_dK hget hg
            refine ⟨_, rfl, rfl, ?_⟩
            simp [wipeD, hi])]
          simpa using hfr
        · have hb : isBs kls kks (sortStr (kls ++ ex)) ((sortStr (kls ++ ex)).map (valOf (kls ++ ex) (fv ++ ev))) = true := isBs_of fun j l k' hj hk' => by
            have hm : l ∈ kls := List.mem_of_getElem? hj
            have hjl : j < kls.length := (List.getElem?_eq_some_iff.mp hj).1
            obtain ⟨v, hv⟩ : ∃ v, fv[j]? = some v := ⟨_, List.getElem?_eq_getElem (by omega)⟩
            refine ⟨v, ?_, q3 j k' v hk' hv⟩
            rw [sortV_lkp hlen (by simp [hm])]
            refine lkp_get z3 (j := j) ?_ ?_
            · rw [List.getElem?_append_left hjl]; exact hj
            · rw [List.getElem?_append_left (by omega)]; exact hv
          rw [sortV, isB, hb, Bool.true_and]
          cases r with
          | some x => rfl
          | none => simp [z6 rfl, (sortStr_perm kls).length_eq]
      cases r with
      | none =>
        have := hfin (ex := []) (ev := []) (S2 := S1) (x4 := x4) (x5 := x5) rfl (by simp) (by simpa using h3) (by simp) (by simp) (fun _ => rfl) q4
        simp only [List.append_nil] at this
        generalize S1 ++ [MO.dK (kls.map .inr) (vds fv)] = U at *
        have hc : (mT (mB opNotN (mB opIx (mV 1) (mC (.int 2))) (mC .non))) [some (.ref n), some (.tup [.str "record", .tup (fldD kls (kds kks)), rD0 none]), some (.lst (ls.map .str)), some (.ref S.length), x4, x5] U = .ok false U := by simp [rD0, isNon]
        simp only [RS.seq_nx, sSeq_eq, sIf_eq, hc, R.into_ok, Bool.false_eq_true, if_false, sPass_eq]
        exact this
      | some rr =>
        have hc : ∀ U, (mT (mB opNotN (mB opIx (mV 1) (mC (.int 2))) (mC .non))) [some (.ref n), some (.tup [.str "record", .tup (fldD kls (kds kks)), rD0 (some rr)]), some (.lst (ls.map .str)), some (.ref S.length), x4, x5] U = .ok true U := fun U => by simp [rD0, isNon]
        simp only [RS.seq_nx, sSeq_eq, sIf_eq, hc, R.into_ok, if_true]
        have hsz : (ls.map D.str).length + [D.str "zzzzzzzz", D.str "a"].length ≤ sizeLine := by simp; exact Nat.le_trans (by omega) szl
        have hsrc : ∀ U, sItems (mB opAdd (mV 2) (mApp newLst (mCons (mC (.str "zzzzzzzz")) (mCons (mC (.str "a")) mNil)))) [some (.ref n), some (.tup [.str "record", .tup (fldD kls (kds kks)), rD0 (some rr)]), some (.lst (ls.map .str)), some (.ref S.length), x4, x5] U = .ok ((ls ++ [Str.ofString "zzzzzzzz", Str.ofString "a"]).map D.str, fun _ => True) U := fun U => by simp [opAdd_lst hsz]
        simp only [sFor_eq, hsrc, R.into_ok]
        have hlx : ∀ l ∈ ls ++ [Str.ofString "zzzzzzzz", Str.ofString "a"], IsLab l := fun l hx => by
          rcases List.mem_append.mp hx with hx | hx
          · exact hl l hx
          · simp only [List.mem_cons, List.not_mem_nil, or_false] at hx
            rcases hx with e | e
            · rw [e]; exact isLab_z
            · rw [e]; exact isLab_a
        have hlx6 : (ls ++ [Str.ofString "zzzzzzzz", Str.ofString "a"]).length = 6 := by simp [h4]
        generalize (ls ++ [Str.ofString "zzzzzzzz", Str.ofString "a"]) = lx at *
        generalize hM : loopM _ _ _ _ _ = q
        obtain ⟨δ', S', e, x4, x5, S2, ex, ev, eδ, z1, z2, z3, z4, z5, z7, eS⟩ := loop_of hM (fun i δ S' => ∃ x4 x5 S2 ex ev, δ = [some (.ref n), some (.tup [.str "record", .tup (fldD kls (kds kks)), rD0 (some rr)]), some (.lst (ls.map .str)), some (.ref S.length), x4, x5] ∧
            ex.length = ev.length ∧ ex.length ≤ i ∧ (kls ++ ex).Nodup ∧ (∀ l ∈ ex, IsLab l) ∧ (∀ v ∈ ev, WV 10 (d + 3) v) ∧ NxSt S n S2 ∧ S' = S2 ++ [.dK ((kls ++ ex).map .inr) (vds (fv ++ ev))])
          ⟨_, _, S1, [], [], rfl, rfl, Nat.le_refl _, by simpa using h3, by simp, by simp, q4, by simp⟩ (fun i x δ S1' hx hI => by
            obtain ⟨x4, x5, S2, ex, ev, eδ, z1, z2, z3, z4, z5, z7, eS⟩ := hI
            subst eδ eS
            rw [List.getElem?_map] at hx
            obtain ⟨l, hlj, exx⟩ := Option.map_eq_some_iff.mp hx
            subst exx
            have hlab := hlx l (List.mem_of_getElem? hlj)
            have hi6 : i < 6 := by rw [← hlx6]; exact (List.getElem?_eq_some_iff.mp hlj).1
            have hlen : (kls ++ ex).length = (fv ++ ev).length := by simp [q1', z1]
            have hget : (S2 ++ [MO.dK ((kls ++ ex).map .inr) (vds (fv ++ ev))])[S.length]? = some (.dK ((kls ++ ex).map .inr) (vds (fv ++ ev))) := by rw [← z7.len]; exact sto_snoc
            have hni := opNotIn_dK (l := l) hget
            rw [getK_lkp l hlen, Option.isSome_map] at hni
            by_cases hin : l ∈ kls ++ ex
            · rw [lkp_some hlen hin] at hni
              refine ⟨_, S2 ++ [.dK ((kls ++ ex).map .inr) (vds (fv ++ ev))], .inl ?_, some (.str l), x5, S2, ex, ev, rfl, z1, by omega, z3, z4, z5, z7, rfl⟩
              generalize S2 ++ [MO.dK ((kls ++ ex).map .inr) (vds (fv ++ ev))] = U at *
              simp [loopB_eq, hni]
            · rw [(lkp_none hlen).mpr hin] at hni
              obtain ⟨u, b, U, hu, g1, g2, _⟩ := next_is (k := k - 1) (S := S2 ++ [.dK ((kls ++ ex).map .inr) (vds (fv ++ ev))]) (z7.is hs.lt).app
              rw [show k - 1 + 1 = k by omega] at g1
              obtain ⟨S3, eU, g5⟩ := g2.app (by rw [z7.len]; exact hs.lt)
              subst eU
              have z8 := z7.trans g5
              by_cases hu2 : u % 2 = 0
              · obtain ⟨v, U2, a1, a2, a3, _⟩ := any_ok h4 hn hl 1 (k := k) (l := 2) (by decide) (by omega) (S := S3 ++ [.dK ((kls ++ ex).map .inr) (vds (fv ++ ev))]) (z8.is hs.lt).app
                obtain ⟨S4, eU, g6⟩ := a3.app (by rw [z8.len]; exact hs.lt)
                subst eU
                have z9 := z8.trans g6
                have hget4 : (S4 ++ [MO.dK ((kls ++ ex).map .inr) (vds (fv ++ ev))])[S.length]? = some (.dK ((kls ++ ex).map .inr) (vds (fv ++ ev))) := by rw [← z9.len]; exact sto_snoc
                have hset := opSet_new (l := l) (d := vd v) hget4 (Nat.lt_of_lt_of_le (by simp; omega) szl) (fun hm => by
                  obtain ⟨y, hy, e⟩ := List.mem_map.mp hm
                  have e : y = l := Sum.inr.inj e
                  subst e
                  exact hin hy)
                rw [← z9.len, List.set_append_right _ _ (Nat.le_refl _), z9.len] at hset
                refine ⟨_, S4 ++ [.dK ((kls ++ (ex ++ [l])).map .inr) (vds (fv ++ (ev ++ [v])))], .inl ?_, some (.str l), x5, S4, ex ++ [l], ev ++ [v], rfl, by simp [z1], by simp; omega, ?_, ?_, ?_, z9, rfl⟩
                rotate_left
                · rw [← List.append_assoc, List.nodup_append]
                  refine ⟨z3, by simp, fun a ha b hb e => ?_⟩
                  rw [List.mem_singleton.mp hb] at e
                  subst e; exact hin ha
                · intro x hx
                  rcases List.mem_append.mp hx with hx | hx
                  · exact z4 x hx
                  · rw [List.mem_singleton.mp hx]; exact hlab
                · intro x hx
                  rcases List.mem_append.mp hx with hx | hx
                  · exact z5 x hx
                  · rw [List.mem_singleton.mp hx]; exact (a2.more (by decide)).mono (by omega)
                · generalize S2 ++ [MO.dK ((kls ++ ex).map .inr) (vds (fv ++ ev))] = U at *
                  generalize S3 ++ [MO.dK ((kls ++ ex).map .inr) (vds (fv ++ ev))] = U3 at *
                  generalize S4 ++ [MO.dK ((kls ++ ex).map .inr) (vds (fv ++ ev))] = U4 at *
                  simp only [Nat.sub_self, List.set_cons_zero] at hset
                  simp [loopB_eq, hni, g1, opMod_pos, hu2, a1, hset, z9.len]
                  simp [vds_app, vds]
              · refine ⟨_, S3 ++ [.dK ((kls ++ ex).map .inr) (vds (fv ++ ev))], .inl ?_, some (.str l), x5, S3, ex, ev, rfl, z1, by omega, z3, z4, z5, z8, rfl⟩
                generalize S2 ++ [MO.dK ((kls ++ ex).map .inr) (vds (fv ++ ev))] = U at *
                generalize S3 ++ [MO.dK ((kls ++ ex).map .inr) (vds (fv ++ ev))] = U3 at *
                simp [loopB_eq, hni, g1, opMod_pos, hu2])
        subst e eδ eS
        rw [List.length_map] at z2
        rw [RS.seq_nx]
        exact hfin z1 (by omega) z3 z4 z5 (fun h => by cases h) z7

end K_k05
end
section
namespace K_k05
open PySem L2 PM
theorem bent_ok {ls : List Str} (h4 : ls.length = 4) (hn : ls.Nodup) (hl : ∀ l ∈ ls, IsLab l) : ∀ (e : Nat) {k : Nat} {S : Sto} {v : Vl} {p : Int}, WV 10 e v → e ≤ 20 → e + 1 ≤ k → 0 ≤ p →
    ∃ w, run k ._law_bent [vd v, .int p, .lst (ls.map .str)] S = .ok (vd w) S ∧ WV 11 (e + 1) w := by
  intro e
  induction e with
  | zero => intro k S v p h; cases h
  | succ e ih =>
    intro k S v p hv he hk hp
    obtain ⟨k, rfl⟩ : ∃ j, k = j + 1 := ⟨k - 1, by omega⟩
    rw [run_succ]
    simp only [body, fin, slots, runB, b__law_bent]
    obtain ⟨l0, e0⟩ : ∃ l, ls[0]? = some l := ⟨_, List.getElem?_eq_getElem (by omega)⟩
    have hl0 : l0 ∈ ls := List.mem_of_getElem? e0
    have hodd : ∃ w, (∀ S, at1 (atI [D.int 3, .tup [], .tup [.tup [.str "zzzzzzzz", .int 5]], .tup [.tup [.str l0, .int 0]], .int (-7)] (p / 5 % 5)) S = .ok (vd w) S) ∧ WV 11 (e + 1 + 1) w := by
      obtain ⟨w, hw, ew⟩ := opIx_map (f := vd) (xs := [.num 3, .rc [] [], .rc [Str.ofString "zzzzzzzz"] [.num 5], .rc [l0] [.num 0], .num (-7)]) (j := p / 5 % 5) (by omega) (by simp; omega)
      refine ⟨w, fun S => by have := ew S; rw [opIx_lst] at this; exact this, ?_⟩
      simp only [List.mem_cons, List.not_mem_nil, or_false] at hw
      rcases hw with e | e | e | e | e <;> subst e
      · exact .num
      · exact .rc rfl (by simp) (by simp) (by simp) (by simp)
      · exact .rc rfl (by simp) (by simp) (by simp [isLab_z]) (by simp; exact .num)
      · exact .rc rfl (by simp) (by simp) (by simp; exact hl l0 hl0) (by simp; exact .num)
      · exact .num
    obtain ⟨wo, ho, hwo⟩ := hodd
    have hfr : ∀ {w : Vl}, WV 11 (e + 1 + 1) w → finFrz 0 S (.ok (vd w) S) = .ok (vd w) S := fun hw => by
      have := finFrz_app (k := 0) (S := S) (T := []) (d := vd _) (vd_cl hw)
      simpa only [List.append_nil] using this
    have hpl := pl_vd hv
    cases hv with
    | num =>
      refine ⟨wo, ?_, hwo⟩
      simp [vd, opDiv_pos, opMod_pos, e0, ho, hfr hwo]
    | rc g1 g2 g3 g4 g5 =>
      rename_i fl fv
      have heq : ∀ S, opEq (vd (.rc fl fv)) (.tup []) S = .ok (.bl (decide (fldD fl (vds fv) = []))) S := fun S => opEq_of (eqD_tup_nil hpl (by omega))
      simp only [vd] at heq
      have hlf : (fldD fl (vds fv)).length = fl.length := by rw [fldD, List.length_zipWith, vds_len, g1, Nat.min_self]
      simp [vd, opDiv_pos, opMod_pos]
      by_cases c1 : p % 5 = 0
      · refine ⟨wo, ?_, hwo⟩
        simp [c1, e0, ho, hfr hwo]
      simp [c1, heq, opMod_pos]
      have hc : (if fldD fl (vds fv) = [] then R.ok true S else R.ok (decide (p % 5 = 1)) S) = R.ok (decide (fldD fl (vds fv) = [] ∨ p % 5 = 1)) S := by
        by_cases q1 : fldD fl (vds fv) = []
        · simp [q1]
        · simp [q1]
      rw [hc]
      by_cases c2 : fldD fl (vds fv) = [] ∨ p % 5 = 1
      · simp only [c2, decide_true, R.into_ok, if_true]
        have hfin : ∀ {gl : List Str} {gv : List Vl} {x0 x1 x2 x3 x5 x6 x7 x8 x9 : Option D} {r : Sm}, gl.length = gv.length → gv.length ≤ 11 → gl.Nodup → (∀ l ∈ gl, IsLab l) → (∀ v ∈ gv, WV 11 (e + 1) v) →
            ∃ w, finFrz 0 S (match ((sSeq (sAsg (mApp cDictR (mCons (mV 4) mNil)) (gmName 6)) (sRet (mApp cTuple (mCons (mComp (sItems (mApp cSorted (mCons (mApp cListK (mCons (mV 6) mNil)) mNil))) (gmName 7) mYes (mApp newTup (mCons (mV 7) (mCons (mB opIx (mV 6) (mV 7)) mNil))) [7]) mNil)))) [x0, x1, x2, x3, some (.lst (fldD gl (vds gv))), x5, x6, x7, x8, x9] S).seq r with
              | .nx δ S' => .ok .non S'
              | .rt d S' => .ok d S'
              | .exc c δ S' => .exc c S'
              | x => .stuck) = .ok (vd w) S ∧ WV 11 (e + 1 + 1) w := by
          intro gl gv x0 x1 x2 x3 x5 x6 x7 x8 x9 r z1 z2 z3 z4 z5
          have hwv := sortV_wv z1 z2 z3 z4 z5
          refine ⟨sortV gl gv, ?_, hwv⟩
          have hfr := finFrz_app (k := 0) (S := S) (T := [MO.dK (gl.map .inr) (vds gv)]) (d := vd (sortV gl gv)) (vd_cl hwv)
          have hd := cDictR_lst (S := S) (show gl.length = (vds gv).length by rw [vds_len]; exact z1) z3
          have hget : (S ++ [MO.dK (gl.map .inr) (vds gv)])[S.length]? = some (.dK (gl.map .inr) (vds gv)) := sto_snoc
          have hk1 := cListK_inr hget z4
          have hk2 : ∀ S, cSorted [.lst (gl.map .str)] S = .ok (.lst ((sortStr gl).map .str)) S := fun S => by simp only [cSorted, rdL, asL, strsOf_id]
          rw [sortV_vd] at hfr ⊢
          generalize S ++ [MO.dK (gl.map .inr) (vds gv)] = U at *
          simp only [sSeq_eq, sAsg_eq, gmName_eq, R.into_ok, RS.seq_nx, sRet_eq, mApp_eq, mCons_eq, mNil_eq, mComp_eq, sItems_eq, mV_eq, List.set_cons_succ, List.set_cons_zero, List.getElem?_cons_succ, List.getElem?_cons_zero, R.bind_ok, hd, hk1, hk2]
          rw [comp_map (i := D.str) (f := fun l => .tup [.str l, vd (valOf gl gv l)]) (hg := trivial) (h := fun l hx => by
            have hm : l ∈ gl := (sortStr_perm _).mem_iff.mp hx
            have hg := getK_lkp l z1
            rw [lkp_some z1 hm] at hg
            have hi := opIx_dK hget hg
            refine ⟨_, rfl, rfl, ?_⟩
            simp [wipeD, hi])]
          simpa using hfr
        have hsz : (ls.map D.str).length + [D.str "zzzzzzzz", D.str "a"].length ≤ sizeLine := by simp; exact Nat.le_trans (by omega) szl
        obtain ⟨wd, hwd, hwi⟩ := opIx_map (f := D.str) (xs := ls ++ [Str.ofString "zzzzzzzz", Str.ofString "a"]) (j := p / 5 % 6) (by omega) (by simp; omega)
        have hwl : IsLab wd := by
          rcases List.mem_append.mp hwd with hx | hx
          · exact hl wd hx
          · simp only [List.mem_cons, List.not_mem_nil, or_false] at hx
            rcases hx with e | e
            · rw [e]; exact isLab_z
            · rw [e]; exact isLab_a
        have hwi' : ∀ S, at1 (atI (ls.map D.str ++ [D.str "zzzzzzzz", D.str "a"]) (p / 5 % 6)) S = .ok (.str wd) S := fun S => by
          have := hwi S
          rw [opIx_lst, List.map_append] at this
          exact this
        simp [opAdd_lst hsz, opDiv_pos, opMod_pos, hwi', wipeD]
        rw [fld_zip g1, comp_filtm (i := fun q : Str × Vl => .tup [.str q.1, vd q.2]) (p := fun q => !decide (q.1 = wd)) (f := fun q => .tup [.str q.1, vd q.2]) trivial _ _ fun q _ => ⟨_, rfl, by simp, fun _ => by simp⟩]
        rw [fld_of_zip, ← fld_zip g1]
        have hsub : ((fl.zip fv).filter fun q => !decide (q.1 = wd)).Sublist (fl.zip fv) := List.filter_sublist
        have hsl : (((fl.zip fv).filter fun q => !decide (q.1 = wd)).map (·.1)).Sublist fl := by
          have := hsub.map (·.1)
          rwa [List.map_fst_zip (by omega)] at this
        have hsv : (((fl.zip fv).filter fun q => !decide (q.1 = wd)).map (·.2)).Sublist fv := by
          have := hsub.map (·.2)
          rwa [List.map_snd_zip (by omega)] at this
        have hnw : wd ∉ ((fl.zip fv).filter fun q => !decide (q.1 = wd)).map (·.1) := fun hm => by
          obtain ⟨q, hq, e⟩ := List.mem_map.mp hm
          have := (List.mem_filter.mp hq).2
          simp [e] at this
        generalize ((fl.zip fv).filter fun q => !decide (q.1 = wd)) = ps at *
        have hps : (fldD (ps.map (·.1)) (vds (ps.map (·.2)))).length = ps.length := by rw [← fld_of_zip, List.length_map]
        have hl1 : (ps.map (·.1)).length = (ps.map (·.2)).length := by simp
        have hv1 : ∀ v ∈ ps.map (·.2), WV 11 (e + 1) v := fun v hv => ((g5 v (hsv.mem hv)).more (by decide)).mono (by omega)
        simp [hps, hlf]
        by_cases c3 : ps.length = fl.length
        · have hsz2 : (fldD (ps.map (·.1)) (vds (ps.map (·.2)))).length + [D.tup [.str wd, .int (p / 30 % 3)]].length ≤ sizeLine := by
            rw [hps]; simp; exact Nat.le_trans (by omega) szl
          have hap : fldD (ps.map (·.1)) (vds (ps.map (·.2))) ++ [D.tup [.str wd, .int (p / 30 % 3)]] = fldD (ps.map (·.1) ++ [wd]) (vds (ps.map (·.2) ++ [.num (p / 30 % 3)])) := by
            rw [vds_app, show vds [.num (p / 30 % 3)] = [.int (p / 30 % 3)] from rfl, fldD_snoc (by rw [vds_len]; simp)]
          have hq1 : ps.length ≤ 10 := by rw [c3, g1]; exact g2
          rw [if_pos (by rw [c3])]
          simp only [opDiv_pos (show (0 : Int) < 30 ∧ (30 : Int) < 1073741824 by decide), opMod_pos (show (0 : Int) < 3 by decide), R.bind_ok, newTup_2, newLst_1, opAdd_lst hsz2, R.into_ok, RS.seq_nx, hap]
          refine hfin (by simp) (by simp; omega) ?_ ?_ ?_
          · rw [List.nodup_append]
            refine ⟨List.Nodup.sublist hsl g3, by simp, fun a ha b hb e => ?_⟩
            rw [List.mem_singleton.mp hb] at e
            subst e; exact hnw ha
          · intro x hx
            rcases List.mem_append.mp hx with hx | hx
            · exact g4 x (hsl.mem hx)
            · rw [List.mem_singleton.mp hx]; exact hwl
          · intro x hx
            rcases List.mem_append.mp hx with hx | hx
            · exact hv1 x hx
            · rw [List.mem_singleton.mp hx]; exact .num
        · have hq1 : ps.length ≤ 10 := by
            have := hsv.length_le
            simp at this; omega
          rw [if_neg (show ¬ ((ps.length : Int) = fl.length) by omega)]
          simp only [RS.seq_nx]
          exact hfin hl1 (by simp; omega) (List.Nodup.sublist hsl g3) (fun x hx => g4 x (hsl.mem hx)) hv1
      · have hne : 0 < fl.length := by
          rcases Nat.eq_zero_or_pos fl.length with h | h
          · exact absurd (.inl (List.eq_nil_of_length_eq_zero (by rw [hlf, h]))) c2
          · exact h
        have j0 := Int.emod_nonneg (p / 5) (show (fl.length : Int) ≠ 0 by omega)
        have j1 := Int.emod_lt_of_pos (p / 5) (show (0 : Int) < fl.length by omega)
        obtain ⟨l, hlj⟩ : ∃ l, fl[(p / 5 % fl.length).toNat]? = some l := ⟨_, List.getElem?_eq_getElem (by omega)⟩
        obtain ⟨v, hvj⟩ : ∃ v, fv[(p / 5 % fl.length).toNat]? = some v := ⟨_, List.getElem?_eq_getElem (by omega)⟩
        have hat : ∀ S, at1 (atI (fldD fl (vds fv)) (p / 5 % fl.length)) S = .ok (.tup [.str l, vd v]) S := fun S => by
          rw [atI_of _ j0, fldD, List.getElem?_zipWith, hlj, vds_map, List.getElem?_map, hvj]; rfl
        obtain ⟨w, hw, ww⟩ := ih (k := k) (S := S) (p := p / 20) (g5 v (List.mem_of_getElem? hvj)) (by omega) (by omega) (by omega)
        simp [c2, wipeD, opDiv_pos, hlf, opMod_pos (show (0 : Int) < fl.length by omega), hat, hw, cutD_to j0, cutD_from (show 0 ≤ p / 5 % (fl.length : Int) + 1 by omega)]
        have hz1 : ((fldD fl (vds fv)).take (p / 5 % (fl.length : Int)).toNat).length + [D.tup [.str l, vd w]].length ≤ sizeLine := by
          have := List.length_take_le (p / 5 % (fl.length : Int)).toNat (fldD fl (vds fv))
          simp; exact Nat.le_trans (by omega) szl
        have hz2 : ((fldD fl (vds fv)).take (p / 5 % (fl.length : Int)).toNat ++ [D.tup [.str l, vd w]]).length + ((fldD fl (vds fv)).drop (p / 5 % (fl.length : Int) + 1).toNat).length ≤ sizeLine := by
          simp; exact Nat.le_trans (by omega) szl
        rw [opAdd_tup hz1]
        simp only [R.bind_ok]
        rw [opAdd_tup hz2, show (p / 5 % (fl.length : Int) + 1).toNat = (p / 5 % (fl.length : Int)).toNat + 1 by omega, fldD_cut g1 hlj hvj]
        have hwv : WV 11 (e + 1 + 1) (.rc fl (fv.set (p / 5 % (fl.length : Int)).toNat w)) := .rc (by simp [g1]) (by simp; omega) g3 g4 fun x hx => by
          rcases List.mem_or_eq_of_mem_set hx with hx | hx
          · exact ((g5 x hx).more (by decide)).mono (by omega)
          · rw [hx]; exact ww
        refine ⟨_, ?_, hwv⟩
        exact hfr hwv

end K_k05
end
section
namespace K_k05
open PySem L2 PM
theorem main_ok (ns : List Int) (hns : ns.length ≤ 63) : ∃ S', run 60 .law [.scr (ns.map D.int)] [] = .ok (.bl true) S' := by
  have e0 : ∀ S, run 59 ._law_cell [.scr (ns.map D.int), .int 0] S = .ok (.int (cellv ns 0)) S := fun S => cell_ok (k := 58) (j := 0)
  have e1 : ∀ S, run 59 ._law_cell [.scr (ns.map D.int), .int 1] S = .ok (.int (cellv ns 1)) S := fun S => cell_ok (k := 58) (j := 1)
  have e2 : ∀ S, run 59 ._law_cell [.scr (ns.map D.int), .int 2] S = .ok (.int (cellv ns 2)) S := fun S => cell_ok (k := 58) (j := 2)
  have e3 : ∀ S, run 59 ._law_cell [.scr (ns.map D.int), .int 3] S = .ok (.int (cellv ns 3)) S := fun S => cell_ok (k := 58) (j := 3)
  have e4 : ∀ S, run 59 ._law_cell [.scr (ns.map D.int), .int 4] S = .ok (.int (cellv ns 4)) S := fun S => cell_ok (k := 58) (j := 4)
  have z0 := cellv_lo ns 0
  have z1 := cellv_lo ns 1
  have z2 := cellv_lo ns 2
  have z3 := cellv_lo ns 3
  have z4 := cellv_lo ns 4
  generalize cellv ns 0 = c0 at *
  generalize cellv ns 1 = c1 at *
  generalize cellv ns 2 = c2 at *
  generalize cellv ns 3 = c3 at *
  generalize cellv ns 4 = c4 at *
  have hL : run 59 ._law_labels [.int c2, .int 4] [] = .ok (.lst ((labs c2 4).map .str)) [] := labels_ok (k := 58) (m := 4) z2 (by decide)
  have h4 := labs_len c2 4
  have hn := labs_nodup c2 (m := 4) (by decide)
  have hl := labs_is z2 (m := 4)
  generalize labs c2 4 = ls at *
  have hp : ∀ S, opPow (.int 10) (.int 6) S = .ok (.int 1000000) S := fun S => opPow_int (by decide)
  obtain ⟨kk, T, hk, wk, kst, _⟩ := kind_ok (n := 0) (q := 1) (by decide) (w := 1 + c3 % 1000000) (by omega) h4 hn hl (c1 / 20 % 5).toNat (k := 59) (M := 20) (S := [.lst [.int (1 + c0 % 2147483645), .int (1 + c1 % 20)], .lst []]) (l := 1 + c1 / 20 % 5) (by omega) (by omega) (by decide)
    ⟨1 + c0 % 2147483645, 1 + c1 % 20, [], by omega, rfl, rfl, by simp, by simp; omega⟩
  have hst : IsSt T 0 := let ⟨a, b, ws, h0, h1, _⟩ := kst; ⟨a, b, h0, h1⟩
  obtain ⟨v, U, hv, wv, hb, _⟩ := value_ok h4 hn hl ((c1 / 20 % 5).toNat + 1) (k := 59) wk (by omega) hst
  have hd : (c1 / 20 % 5).toNat + 1 ≤ 5 := by omega
  generalize (c1 / 20 % 5).toNat + 1 = d at *
  have hof1 := is_of_ok d (j := 59) (S := U) (by omega) wk wv
  rw [hb] at hof1
  rw [run_succ]
  simp only [body, fin, slots, runB, b_law]
  simp [e0, e1, e2, e3, hL, opMod_pos, opDiv_pos, hp, hk, hv, hof1, opNotB, e4]
  have fin : ∀ (v2 : Vl), WV 11 12 v2 → (∀ S, run 59 .is_of [vd v2, kd kk] S = .ok (.bl (isB kk v2)) S) ∧ (∀ S, run 59 ._law_due [vd v2, kd kk] S = .ok (.bl (isB kk v2)) S) ∧
      (∀ S, run 59 .is_of [vd v2, .tup [.str "number"]] S = .ok (.bl (isB .num v2)) S) ∧ (∀ S, run 59 ._law_due [vd v2, .tup [.str "number"]] S = .ok (.bl (isB .num v2)) S) ∧
      (∀ S, run 59 .is_of [vd v2, .tup [.str "blank", .int 3]] S = .ok (.bl true) S) ∧ (∀ S, run 59 .is_of [vd v2, .tup [.str "record", .tup [], .int 0]] S = .ok (.bl (match v2 with | .rc _ _ => true | .num _ => false)) S) := fun v2 w2 =>
    ⟨fun S => is_of_ok d (by omega) wk w2, fun S => due_ok d (by omega) wk w2, fun S => is_of_ok (k := .num) 1 (by omega) .num w2, fun S => due_ok (k := .num) 1 (by omega) .num w2,
      fun S => by have := is_of_ok (j := 59) (S := S) (k := .blk 3) 1 (by omega) .blk w2; rw [isB] at this; exact this,
      fun S => by
        have := is_of_ok (j := 59) (S := S) (k := .rc [] [] (some 0)) 1 (by omega) (.rc rfl (by simp) (by simp) (by simp) (by simp)) w2
        cases v2 <;> simpa [isB, isBs, kd, kds, fldD, rD0] using this⟩
  by_cases c : 0 < c4 % 3
  · obtain ⟨v2, hb2, w2⟩ := bent_ok h4 hn hl 8 (k := 59) (S := U) (p := c4 / 3) (wv.mono (by omega)) (by omega) (by omega) (by omega)
    obtain ⟨f1, f2, f3, f4, f5, f6⟩ := fin v2 (w2.mono (by omega))
    simp [c, hb2, loopT_cons, loopT_nil, loopB_eq, f1, f2, f3, f4, f5, f6, opIsB, isi_vd, finRaw]
    all_goals (cases v2 <;> rfl)
  · obtain ⟨f1, f2, f3, f4, f5, f6⟩ := fin v ((wv.more (by decide)).mono (by omega))
    simp [c, loopT_cons, loopT_nil, loopB_eq, f1, f2, f3, f4, f5, f6, opIsB, isi_vd, finRaw]
    all_goals (cases v <;> rfl)

end K_k05
end
namespace K_k05
open PySem PySem.Spec L2 PM PyProof.Rows
structure Mgs (mg : Str → Option Value) : Prop where
  m_bool : mg "bool" = none
  m_dict : mg "dict" = none
  m_isinstance : mg "isinstance" = none
  m_len : mg "len" = none
  m_list : mg "list" = none
  m_range : mg "range" = none
  m_sorted : mg "sorted" = none
  m_tuple : mg "tuple" = none
section
variable {w : World} {K : PySem.W.Frag} {mg : Str → Option Value} {base : Heap} {k : Nat} {C : Cs}
theorem sc_is_of : FnScope N_is_of ["value", "kind"] (defScope (top 1)) := ⟨rfl, rfl, rfl, by decide +kernel, rfl, by decide +kernel, by decide +kernel⟩
theorem der_is_of (hC : ∀ g, Has PySem.Challenge.rw_fieldrest_k05_values_of_kinds.prog w K mg base k (nm g) (ar g) (C g)) (M : Mgs mg) (f : Addr) (cdv : Value) (A : Around) (outer : List Env) (s : Shared) (H : Hp) (E : XK) (hr : Room k (A.deeper (envOfC "is_of" (defScope (top 1)) s.heap.objs.size f cdv))) :
    DSs (cxOf (L2.CX PySem.Challenge.rw_fieldrest_k05_values_of_kinds.prog w) PySem.Challenge.rw_fieldrest_k05_values_of_kinds.prog w K mg base N_is_of "is_of" (defScope (top 1)) f cdv A outer s H E) (fun cls d _ H => E cls d H) (defBody (top 1)) (b_is_of C) := by
  have nd := sc_is_of.nd
  have tk : Takes (cxOf (L2.CX PySem.Challenge.rw_fieldrest_k05_values_of_kinds.prog w) PySem.Challenge.rw_fieldrest_k05_values_of_kinds.prog w K mg base N_is_of "is_of" (defScope (top 1)) f cdv A outer s H E) (fun cls d _ H => E cls d H) := takes_of rfl rfl rfl rfl
  exact (ds_cons (ds_if (dt_cmp (opEq_ok hr) (de_ix (opIx_ok hr) (de_var (pv 1)) de_int) (de_str (by decide +kernel)) (nomark _)) (ds_one (ds_ret de_bl)) ds_nil)
    (ds_cons (ds_if (dw_pt (dw_or (dt_cmp (opEq_ok hr) (de_ix (opIx_ok hr) (de_var (pv 1)) de_int) (de_str (by decide +kernel)) (nomark _)) (dw_or1 (dt_not (dt_val (de_isi (by rfl) M.m_isinstance (de_var (pv 0)) (pe_bltn (v := .ty "tuple") (by rfl) M.m_tuple (by decide +kernel) rfl))))))) (ds_one (ds_ret (de_and (de_cmp (opEq_ok hr) (de_ix (opIx_ok hr) (de_var (pv 1)) de_int) (de_str (by decide +kernel)) (nomark _)) (de_one (de_not (de_isi (by rfl) M.m_isinstance (de_var (pv 0)) (pe_bltn (v := .ty "tuple") (by rfl) M.m_tuple (by decide +kernel) rfl))))))) ds_nil)
    (ds_cons (ds_set (i := 2) nd rfl (Or.inl rfl) (de_callTy (cDict_ok rfl) (by rfl) M.m_dict (by decide +kernel) (da_cons (de_var (pv 0)) da_nil)))
    (ds_cons (ds_for (passes_of rfl) rfl (di_items (de_ix (opIx_ok hr) (de_var (pv 1)) de_int)) (dg_name (pg_name (i := 3) nd rfl (Or.inl rfl))) (ds_one (ds_if (dw_pt (dw_or (dt_cmp (opNotIn_ok hr) (de_ix (opIx_ok hr) (de_var (pv 3)) de_int) (de_var (pv 2)) rfl) (dw_or1 (dt_not (dt_val (de_call (hC .is_of) hr tk (by rfl) (dal_cons (de_ix (opIx_ok hr) (de_var (pv 2)) (de_ix (opIx_ok hr) (de_var (pv 3)) de_int)) (dal_cons (de_ix (opIx_ok hr) (de_var (pv 3)) de_int) dal_nil)))))))) (ds_one (ds_ret de_bl)) ds_nil)))
    (ds_one (ds_ret (de_or (de_cmp opNotN_ok (de_ix (opIx_ok hr) (de_var (pv 1)) de_int) de_non (nomark _)) (de_one (de_cmp (opEq_ok hr) (de_callB cLen_ok (by rfl) M.m_len (by decide +kernel) (da_cons (de_var (pv 2)) da_nil)) (de_callB cLen_ok (by rfl) M.m_len (by decide +kernel) (da_cons (de_ix (opIx_ok hr) (de_var (pv 1)) de_int) da_nil)) (nomark _))))))))))
theorem sc__law_cell : FnScope N__law_cell ["_law_script", "_law_k"] (defScope (top 3)) := ⟨rfl, rfl, rfl, by decide +kernel, rfl, by decide +kernel, by decide +kernel⟩
theorem der__law_cell (hC : ∀ g, Has PySem.Challenge.rw_fieldrest_k05_values_of_kinds.prog w K mg base k (nm g) (ar g) (C g)) (M : Mgs mg) (f : Addr) (cdv : Value) (A : Around) (outer : List Env) (s : Shared) (H : Hp) (E : XK) (hr : Room k (A.deeper (envOfC "_law_cell" (defScope (top 3)) s.heap.objs.size f cdv))) :
    DSs (cxOf (L2.CX PySem.Challenge.rw_fieldrest_k05_values_of_kinds.prog w) PySem.Challenge.rw_fieldrest_k05_values_of_kinds.prog w K mg base N__law_cell "_law_cell" (defScope (top 3)) f cdv A outer s H E) (fun cls d _ H => E cls d H) (defBody (top 3)) (b__law_cell C) := by
  have nd := sc__law_cell.nd
  have tk : Takes (cxOf (L2.CX PySem.Challenge.rw_fieldrest_k05_values_of_kinds.prog w) PySem.Challenge.rw_fieldrest_k05_values_of_kinds.prog w K mg base N__law_cell "_law_cell" (defScope (top 3)) f cdv A outer s H E) (fun cls d _ H => E cls d H) := takes_of rfl rfl rfl rfl
  exact (ds_cons (ds_if (dt_cmp opLt_ok (de_var (pv 1)) (de_callB cLen_ok (by rfl) M.m_len (by decide +kernel) (da_cons (de_var (pv 0)) da_nil)) (nomark _)) (ds_one (ds_ret (de_bin opMod_ok (de_bin opMul_ok (de_ix (opIx_ok hr) (de_var (pv 0)) (de_var (pv 1))) de_int) de_int))) ds_nil)
    (ds_one (ds_ret de_int)))
theorem sc__law_next : FnScope N__law_next ["_law_state"] (defScope (top 4)) := ⟨rfl, rfl, rfl, by decide +kernel, rfl, by decide +kernel, by decide +kernel⟩
theorem der__law_next (hC : ∀ g, Has PySem.Challenge.rw_fieldrest_k05_values_of_kinds.prog w K mg base k (nm g) (ar g) (C g)) (M : Mgs mg) (f : Addr) (cdv : Value) (A : Around) (outer : List Env) (s : Shared) (H : Hp) (E : XK) (hr : Room k (A.deeper (envOfC "_law_next" (defScope (top 4)) s.heap.objs.size f cdv))) :
    DSs (cxOf (L2.CX PySem.Challenge.rw_fieldrest_k05_values_of_kinds.prog w) PySem.Challenge.rw_fieldrest_k05_values_of_kinds.prog w K mg base N__law_next "_law_next" (defScope (top 4)) f cdv A outer s H E) (fun cls d _ H => E cls d H) (defBody (top 4)) (b__law_next C) := by
  have nd := sc__law_next.nd
  have tk : Takes (cxOf (L2.CX PySem.Challenge.rw_fieldrest_k05_values_of_kinds.prog w) PySem.Challenge.rw_fieldrest_k05_values_of_kinds.prog w K mg base N__law_next "_law_next" (defScope (top 4)) f cdv A outer s H E) (fun cls d _ H => E cls d H) := takes_of rfl rfl rfl rfl
  exact (ds_cons (ds_asg (de_bin opMod_ok (de_bin opAdd_ok (de_bin opMul_ok (de_ix (opIx_ok hr) (de_var (pv 0)) de_int) de_int) de_int) de_int) (dg_sub (de_var (pv 0)) de_int (opSet_ok hr)))
    (ds_cons (ds_asg (de_bin opSub_ok (de_ix (opIx_ok hr) (de_var (pv 0)) de_int) de_int) (dg_sub (de_var (pv 0)) de_int (opSet_ok hr)))
    (ds_one (ds_ret (de_bin opDiv_ok (de_ix (opIx_ok hr) (de_var (pv 0)) de_int) de_int)))))
theorem sc__law_labels : FnScope N__law_labels ["_law_cell_here", "_law_many"] (defScope (top 5)) := ⟨rfl, rfl, rfl, by decide +kernel, rfl, by decide +kernel, by decide +kernel⟩
theorem der__law_labels (hC : ∀ g, Has PySem.Challenge.rw_fieldrest_k05_values_of_kinds.prog w K mg base k (nm g) (ar g) (C g)) (M : Mgs mg) (f : Addr) (cdv : Value) (A : Around) (outer : List Env) (s : Shared) (H : Hp) (E : XK) (hr : Room k (A.deeper (envOfC "_law_labels" (defScope (top 5)) s.heap.objs.size f cdv))) :
    DSs (cxOf (L2.CX PySem.Challenge.rw_fieldrest_k05_values_of_kinds.prog w) PySem.Challenge.rw_fieldrest_k05_values_of_kinds.prog w K mg base N__law_labels "_law_labels" (defScope (top 5)) f cdv A outer s H E) (fun cls d _ H => E cls d H) (defBody (top 5)) (b__law_labels C) := by
  have nd := sc__law_labels.nd
  have tk : Takes (cxOf (L2.CX PySem.Challenge.rw_fieldrest_k05_values_of_kinds.prog w) PySem.Challenge.rw_fieldrest_k05_values_of_kinds.prog w K mg base N__law_labels "_law_labels" (defScope (top 5)) f cdv A outer s H E) (fun cls d _ H => E cls d H) := takes_of rfl rfl rfl rfl
  exact (ds_cons (ds_set (i := 2) nd rfl (Or.inr rfl) (de_str (by decide +kernel)))
    (ds_cons (ds_set (i := 3) nd rfl (Or.inl rfl) (de_bin opMod_ok (de_var (pv 0)) de_int))
    (ds_cons (ds_set (i := 4) nd rfl (Or.inl rfl) (de_bin opMod_ok (de_bin opDiv_ok (de_var (pv 0)) de_int) (de_bin opAdd_ok (de_var (pv 3)) de_int)))
    (ds_cons (ds_set (i := 5) nd rfl (Or.inr rfl) (de_bin opMod_ok (de_bin opDiv_ok (de_var (pv 0)) de_int) de_int))
    (ds_cons (ds_set (i := 6) nd rfl (Or.inl rfl) (de_join (de_str (by decide +kernel)) (de_comp (own := [("_law_k", 7)]) rfl nd (di_range1 (by rfl) M.m_range (de_var (pv 3))) (blkOk_by (N := N__law_labels) (sc := (defScope (top 5))) (own := [("_law_k", 7)]) (by decide +kernel)) (fun _ _ _ _ _ => pg_name (i := 7) nd rfl (Or.inl rfl)) (tgr_name (by decide)) (fun _ _ _ _ _ => dts_nil) (fun _ _ _ _ _ => (de_ix (opIx_ok hr) (de_var (pv 2)) (de_bin opMod_ok (de_bin opAdd_ok (de_var (pv 5)) (de_bin opMul_ok (de_bin opDiv_ok (de_var (pv 0)) de_int) (de_var (pv 7)))) de_int))))))
    (ds_cons (ds_set (i := 8) nd rfl (Or.inl rfl) (de_lstR da_nil))
    (ds_cons (ds_for (passes_of rfl) rfl (di_range1 (by rfl) M.m_range (de_var (pv 1))) (dg_name (pg_name (i := 7) nd rfl (Or.inl rfl))) (ds_cons (ds_set (i := 9) nd rfl (Or.inl rfl) (de_ix (opIx_ok hr) (de_var (pv 2)) (de_bin opMod_ok (de_bin opAdd_ok (de_bin opDiv_ok (de_var (pv 0)) de_int) (de_bin opMul_ok de_int (de_var (pv 7)))) de_int)))
    (ds_one (ds_expr (de_mlist PySem.F.slot_list_append PySem.F.type_list_append cAppend_ok (de_var (pv 8)) (da_cons (de_bin opAdd_ok (de_bin opAdd_ok (de_slice (de_var (pv 6)) do_none (do_some (de_var (pv 4)))) (de_var (pv 9))) (de_slice (de_var (pv 6)) (do_some (de_var (pv 4))) do_none)) da_nil))))))
    (ds_one (ds_ret (de_var (pv 8)))))))))))
theorem sc__law_kind : FnScope N__law_kind ["_law_state", "_law_labels_here", "_law_met", "_law_left"] (defScope (top 6)) := ⟨rfl, rfl, rfl, by decide +kernel, rfl, by decide +kernel, by decide +kernel⟩
theorem der__law_kind (hC : ∀ g, Has PySem.Challenge.rw_fieldrest_k05_values_of_kinds.prog w K mg base k (nm g) (ar g) (C g)) (M : Mgs mg) (f : Addr) (cdv : Value) (A : Around) (outer : List Env) (s : Shared) (H : Hp) (E : XK) (hr : Room k (A.deeper (envOfC "_law_kind" (defScope (top 6)) s.heap.objs.size f cdv))) :
    DSs (cxOf (L2.CX PySem.Challenge.rw_fieldrest_k05_values_of_kinds.prog w) PySem.Challenge.rw_fieldrest_k05_values_of_kinds.prog w K mg base N__law_kind "_law_kind" (defScope (top 6)) f cdv A outer s H E) (fun cls d _ H => E cls d H) (defBody (top 6)) (b__law_kind C) := by
  have nd := sc__law_kind.nd
  have tk : Takes (cxOf (L2.CX PySem.Challenge.rw_fieldrest_k05_values_of_kinds.prog w) PySem.Challenge.rw_fieldrest_k05_values_of_kinds.prog w K mg base N__law_kind "_law_kind" (defScope (top 6)) f cdv A outer s H E) (fun cls d _ H => E cls d H) := takes_of rfl rfl rfl rfl
  exact (ds_cons (ds_set (i := 4) nd rfl (Or.inl rfl) (de_call (hC ._law_next) hr tk (by rfl) (dal_cons (de_var (pv 0)) dal_nil)))
    (ds_cons (ds_if (dw_pt (dw_or (dt_cmp opLe_ok (de_var (pv 3)) de_int (nomark _)) (dw_or (dt_cmp opLe_ok (de_ix (opIx_ok hr) (de_var (pv 0)) de_int) de_int (nomark _)) (dw_or1 (dt_cmp opLt_ok (de_bin opMod_ok (de_var (pv 4)) de_int) de_int (nomark _)))))) (ds_one (ds_ret (de_tup (da_cons (de_str (by decide +kernel)) da_nil)))) ds_nil)
    (ds_cons (ds_if (dt_cmp (opEq_ok hr) (de_bin opMod_ok (de_var (pv 4)) de_int) de_int (nomark _)) (ds_one (ds_ret (de_tup (da_cons (de_str (by decide +kernel)) (da_cons (de_bin opMul_ok (de_bin opMul_ok (de_ix (opIx_ok hr) (de_var (pv 2)) de_int) de_int) (de_bin opMod_ok (de_bin opDiv_ok (de_var (pv 4)) de_int) de_int)) da_nil))))) ds_nil)
    (ds_cons (ds_set (i := 5) nd rfl (Or.inr rfl) (de_slice (de_lst (da_cons (de_ix (opIx_ok hr) (de_var (pv 1)) (de_bin opMod_ok (de_bin opDiv_ok (de_var (pv 4)) de_int) de_int)) (da_cons (de_ix (opIx_ok hr) (de_var (pv 1)) (de_bin opMod_ok (de_bin opDiv_ok (de_var (pv 4)) de_int) de_int)) (da_cons (de_ix (opIx_ok hr) (de_var (pv 1)) (de_bin opMod_ok (de_bin opDiv_ok (de_var (pv 4)) de_int) de_int)) da_nil)))) do_none (do_some (de_bin opMod_ok (de_bin opDiv_ok (de_var (pv 4)) de_int) de_int))))
    (ds_cons (ds_setComp (own := [("_law_label", 7)]) (i := 6) rfl nd rfl rfl (sw_true rfl rfl rfl (by decide +kernel)) (di_items (de_callB cSorted_ok (by rfl) M.m_sorted (by decide +kernel) (da_cons (de_var (pv 1)) da_nil))) (blkOk_by (N := N__law_kind) (sc := (defScope (top 6))) (own := [("_law_label", 7)]) (by decide +kernel)) (fun _ _ _ _ _ => pg_name (i := 7) nd rfl (Or.inl rfl)) (tgr_name (by decide)) (fun _ _ _ _ _ => dts_one (dt_cmp (opIn_ok hr) (de_var (pv 7)) (de_var (pv 5)) rfl)) (fun _ _ _ _ _ => (de_var (pv 7))))
    (ds_cons (ds_set (i := 8) nd rfl (Or.inl rfl) (de_callTy cTuple_ok (by rfl) M.m_tuple (by decide +kernel) (da_cons (de_comp (own := [("_law_label", 7)]) rfl nd (di_items (de_var (pv 6))) (blkOk_by (N := N__law_kind) (sc := (defScope (top 6))) (own := [("_law_label", 7)]) (by decide +kernel)) (fun _ _ _ _ _ => pg_name (i := 7) nd rfl (Or.inl rfl)) (tgr_name (by decide)) (fun _ _ _ _ _ => dts_nil) (fun _ _ _ _ _ => (de_tup (da_cons (de_var (pv 7)) (da_cons (de_call (hC ._law_kind) hr takes0 (by rfl) (dal_cons (de_var (pv 0)) (dal_cons (de_var (pv 1)) (dal_cons (de_var (pv 2)) (dal_cons (de_bin opSub_ok (de_var (pv 3)) de_int) dal_nil))))) da_nil))))) da_nil)))
    (ds_cons (ds_if (dt_cmp (opEq_ok hr) (de_bin opMod_ok (de_bin opDiv_ok (de_var (pv 4)) de_int) de_int) de_int (nomark _)) (ds_one (ds_ret (de_tup (da_cons (de_str (by decide +kernel)) (da_cons (de_var (pv 8)) (da_cons de_non da_nil)))))) ds_nil)
    (ds_cons (ds_if (dt_cmp (opNotIn_ok hr) (de_var (pv 6)) (de_ix (opIx_ok hr) (de_var (pv 2)) de_int) rfl) (ds_one (ds_expr (de_mlist PySem.F.slot_list_append PySem.F.type_list_append cAppend_ok (de_ix (opIx_ok hr) (de_var (pv 2)) de_int) (da_cons (de_var (pv 6)) da_nil)))) ds_nil)
    (ds_one (ds_ret (de_tup (da_cons (de_str (by decide +kernel)) (da_cons (de_var (pv 8)) (da_cons (de_bin opMul_ok (de_ix (opIx_ok hr) (de_var (pv 2)) de_int) (de_bin opAdd_ok de_int (de_bin opMul_ok de_int (de_mlist PySem.F.slot_list_index PySem.F.type_list_index (cIndex_ok hr) (de_ix (opIx_ok hr) (de_var (pv 2)) de_int) (da_cons (de_var (pv 6)) da_nil))))) da_nil))))))))))))))
theorem sc__law_any : FnScope N__law_any ["_law_state", "_law_labels_here", "_law_left"] (defScope (top 7)) := ⟨rfl, rfl, rfl, by decide +kernel, rfl, by decide +kernel, by decide +kernel⟩
theorem der__law_any (hC : ∀ g, Has PySem.Challenge.rw_fieldrest_k05_values_of_kinds.prog w K mg base k (nm g) (ar g) (C g)) (M : Mgs mg) (f : Addr) (cdv : Value) (A : Around) (outer : List Env) (s : Shared) (H : Hp) (E : XK) (hr : Room k (A.deeper (envOfC "_law_any" (defScope (top 7)) s.heap.objs.size f cdv))) :
    DSs (cxOf (L2.CX PySem.Challenge.rw_fieldrest_k05_values_of_kinds.prog w) PySem.Challenge.rw_fieldrest_k05_values_of_kinds.prog w K mg base N__law_any "_law_any" (defScope (top 7)) f cdv A outer s H E) (fun cls d _ H => E cls d H) (defBody (top 7)) (b__law_any C) := by
  have nd := sc__law_any.nd
  have tk : Takes (cxOf (L2.CX PySem.Challenge.rw_fieldrest_k05_values_of_kinds.prog w) PySem.Challenge.rw_fieldrest_k05_values_of_kinds.prog w K mg base N__law_any "_law_any" (defScope (top 7)) f cdv A outer s H E) (fun cls d _ H => E cls d H) := takes_of rfl rfl rfl rfl
  exact (ds_cons (ds_set (i := 3) nd rfl (Or.inl rfl) (de_call (hC ._law_next) hr tk (by rfl) (dal_cons (de_var (pv 0)) dal_nil)))
    (ds_cons (ds_if (dw_pt (dw_or (dt_cmp opLe_ok (de_var (pv 2)) de_int (nomark _)) (dw_or1 (dt_cmp (opEq_ok hr) (de_bin opMod_ok (de_var (pv 3)) de_int) de_int (nomark _))))) (ds_one (ds_ret (de_ix (opIx_ok hr) (de_lst (da_cons (de_bin opMod_ok (de_bin opDiv_ok (de_var (pv 3)) de_int) de_int) (da_cons (de_bin opSub_ok (de_bin opMod_ok (de_bin opDiv_ok (de_var (pv 3)) de_int) (de_bin opMul_ok de_int (de_bin opPow_ok de_int de_int))) (de_bin opPow_ok de_int de_int)) da_nil))) (de_bin opMod_ok (de_bin opDiv_ok (de_var (pv 3)) de_int) de_int)))) ds_nil)
    (ds_cons (ds_setComp (own := [("_law_label", 5)]) (i := 4) rfl nd rfl rfl (sw_true rfl rfl rfl (by decide +kernel)) (di_items (de_callB cSorted_ok (by rfl) M.m_sorted (by decide +kernel) (da_cons (de_var (pv 1)) da_nil))) (blkOk_by (N := N__law_any) (sc := (defScope (top 7))) (own := [("_law_label", 5)]) (by decide +kernel)) (fun _ _ _ _ _ => pg_name (i := 5) nd rfl (Or.inl rfl)) (tgr_name (by decide)) (fun _ _ _ _ _ => dts_one (dt_cmp (opEq_ok hr) (de_bin opMod_ok (de_call (hC ._law_next) hr takes0 (by rfl) (dal_cons (de_var (pv 0)) dal_nil)) de_int) de_int (nomark _))) (fun _ _ _ _ _ => (de_var (pv 5))))
    (ds_one (ds_ret (de_callTy cTuple_ok (by rfl) M.m_tuple (by decide +kernel) (da_cons (de_comp (own := [("_law_label", 5)]) rfl nd (di_items (de_var (pv 4))) (blkOk_by (N := N__law_any) (sc := (defScope (top 7))) (own := [("_law_label", 5)]) (by decide +kernel)) (fun _ _ _ _ _ => pg_name (i := 5) nd rfl (Or.inl rfl)) (tgr_name (by decide)) (fun _ _ _ _ _ => dts_nil) (fun _ _ _ _ _ => (de_tup (da_cons (de_var (pv 5)) (da_cons (de_call (hC ._law_any) hr takes0 (by rfl) (dal_cons (de_var (pv 0)) (dal_cons (de_var (pv 1)) (dal_cons (de_bin opSub_ok (de_var (pv 2)) de_int) dal_nil)))) da_nil))))) da_nil)))))))
theorem sc__law_value : FnScope N__law_value ["_law_state", "_law_kind_here", "_law_labels_here"] (defScope (top 8)) := ⟨rfl, rfl, rfl, by decide +kernel, rfl, by decide +kernel, by decide +kernel⟩
theorem der__law_value (hC : ∀ g, Has PySem.Challenge.rw_fieldrest_k05_values_of_kinds.prog w K mg base k (nm g) (ar g) (C g)) (M : Mgs mg) (f : Addr) (cdv : Value) (A : Around) (outer : List Env) (s : Shared) (H : Hp) (E : XK) (hr : Room k (A.deeper (envOfC "_law_value" (defScope (top 8)) s.heap.objs.size f cdv))) :
    DSs (cxOf (L2.CX PySem.Challenge.rw_fieldrest_k05_values_of_kinds.prog w) PySem.Challenge.rw_fieldrest_k05_values_of_kinds.prog w K mg base N__law_value "_law_value" (defScope (top 8)) f cdv A outer s H E) (fun cls d _ H => E cls d H) (defBody (top 8)) (b__law_value C) := by
  have nd := sc__law_value.nd
  have tk : Takes (cxOf (L2.CX PySem.Challenge.rw_fieldrest_k05_values_of_kinds.prog w) PySem.Challenge.rw_fieldrest_k05_values_of_kinds.prog w K mg base N__law_value "_law_value" (defScope (top 8)) f cdv A outer s H E) (fun cls d _ H => E cls d H) := takes_of rfl rfl rfl rfl
  exact (ds_cons (ds_if (dt_cmp (opEq_ok hr) (de_ix (opIx_ok hr) (de_var (pv 1)) de_int) (de_str (by decide +kernel)) (nomark _)) (ds_one (ds_ret (de_call (hC ._law_any) hr tk (by rfl) (dal_cons (de_var (pv 0)) (dal_cons (de_var (pv 2)) (dal_cons de_int dal_nil)))))) ds_nil)
    (ds_cons (ds_if (dt_cmp (opEq_ok hr) (de_ix (opIx_ok hr) (de_var (pv 1)) de_int) (de_str (by decide +kernel)) (nomark _)) (ds_one (ds_ret (de_call (hC ._law_any) hr tk (by rfl) (dal_cons (de_var (pv 0)) (dal_cons (de_var (pv 2)) (dal_cons de_int dal_nil)))))) ds_nil)
    (ds_cons (ds_set (i := 3) nd rfl (Or.inr rfl) de_newK)
    (ds_cons (ds_for (passes_of rfl) rfl (di_items (de_ix (opIx_ok hr) (de_var (pv 1)) de_int)) (dg_tup (is := [4, 5]) rfl (pgs_cons (pg_name (i := 4) nd rfl (Or.inl rfl)) (pgs_cons (pg_name (i := 5) nd rfl (Or.inl rfl)) pgs_nil)) (.cons (.cons .nil))) (ds_one (ds_asg (de_call (hC ._law_value) hr tk (by rfl) (dal_cons (de_var (pv 0)) (dal_cons (de_var (pv 5)) (dal_cons (de_var (pv 2)) dal_nil)))) (dg_sub (de_var (pv 3)) (de_var (pv 4)) (opSet_ok hr)))))
    (ds_cons (ds_if (dt_cmp opNotN_ok (de_ix (opIx_ok hr) (de_var (pv 1)) de_int) de_non (nomark _)) (ds_one (ds_for (passes_of rfl) rfl (di_items (de_bin opAdd_ok (de_var (pv 2)) (de_lst (da_cons (de_str (by decide +kernel)) (da_cons (de_str (by decide +kernel)) da_nil))))) (dg_name (pg_name (i := 4) nd rfl (Or.inl rfl))) (ds_one (ds_if (dw_pt (dw_and (dt_cmp (opNotIn_ok hr) (de_var (pv 4)) (de_var (pv 3)) rfl) (dw_and1 (dt_cmp (opEq_ok hr) (de_bin opMod_ok (de_call (hC ._law_next) hr tk (by rfl) (dal_cons (de_var (pv 0)) dal_nil)) de_int) de_int (nomark _))))) (ds_one (ds_asg (de_call (hC ._law_any) hr tk (by rfl) (dal_cons (de_var (pv 0)) (dal_cons (de_var (pv 2)) (dal_cons de_int dal_nil)))) (dg_sub (de_var (pv 3)) (de_var (pv 4)) (opSet_ok hr)))) ds_nil)))) ds_nil)
    (ds_one (ds_ret (de_callTy cTuple_ok (by rfl) M.m_tuple (by decide +kernel) (da_cons (de_comp (own := [("_law_label", 4)]) rfl nd (di_items (de_callB cSorted_ok (by rfl) M.m_sorted (by decide +kernel) (da_cons (de_callTy (cListK_ok rfl) (by rfl) M.m_list (by decide +kernel) (da_cons (de_var (pv 3)) da_nil)) da_nil))) (blkOk_by (N := N__law_value) (sc := (defScope (top 8))) (own := [("_law_label", 4)]) (by decide +kernel)) (fun _ _ _ _ _ => pg_name (i := 4) nd rfl (Or.inl rfl)) (tgr_name (by decide)) (fun _ _ _ _ _ => dts_nil) (fun _ _ _ _ _ => (de_tup (da_cons (de_var (pv 4)) (da_cons (de_ix (opIx_ok hr) (de_var (pv 3)) (de_var (pv 4))) da_nil))))) da_nil)))))))))
theorem sc__law_bent : FnScope N__law_bent ["_law_value_here", "_law_path", "_law_labels_here"] (defScope (top 9)) := ⟨rfl, rfl, rfl, by decide +kernel, rfl, by decide +kernel, by decide +kernel⟩
theorem der__law_bent (hC : ∀ g, Has PySem.Challenge.rw_fieldrest_k05_values_of_kinds.prog w K mg base k (nm g) (ar g) (C g)) (M : Mgs mg) (f : Addr) (cdv : Value) (A : Around) (outer : List Env) (s : Shared) (H : Hp) (E : XK) (hr : Room k (A.deeper (envOfC "_law_bent" (defScope (top 9)) s.heap.objs.size f cdv))) :
    DSs (cxOf (L2.CX PySem.Challenge.rw_fieldrest_k05_values_of_kinds.prog w) PySem.Challenge.rw_fieldrest_k05_values_of_kinds.prog w K mg base N__law_bent "_law_bent" (defScope (top 9)) f cdv A outer s H E) (fun cls d _ H => E cls d H) (defBody (top 9)) (b__law_bent C) := by
  have nd := sc__law_bent.nd
  have tk : Takes (cxOf (L2.CX PySem.Challenge.rw_fieldrest_k05_values_of_kinds.prog w) PySem.Challenge.rw_fieldrest_k05_values_of_kinds.prog w K mg base N__law_bent "_law_bent" (defScope (top 9)) f cdv A outer s H E) (fun cls d _ H => E cls d H) := takes_of rfl rfl rfl rfl
  exact (ds_cons (ds_if (dw_pt (dw_or (dt_not (dt_val (de_isi (by rfl) M.m_isinstance (de_var (pv 0)) (pe_bltn (v := .ty "tuple") (by rfl) M.m_tuple (by decide +kernel) rfl)))) (dw_or1 (dt_cmp (opEq_ok hr) (de_bin opMod_ok (de_var (pv 1)) de_int) de_int (nomark _))))) (ds_one (ds_ret (de_ix (opIx_ok hr) (de_lst (da_cons de_int (da_cons (de_tup da_nil) (da_cons (de_tup (da_cons (de_tup (da_cons (de_str (by decide +kernel)) (da_cons de_int da_nil))) da_nil)) (da_cons (de_tup (da_cons (de_tup (da_cons (de_ix (opIx_ok hr) (de_var (pv 2)) de_int) (da_cons de_int da_nil))) da_nil)) (da_cons (de_neg de_int) da_nil)))))) (de_bin opMod_ok (de_bin opDiv_ok (de_var (pv 1)) de_int) de_int)))) ds_nil)
    (ds_cons (ds_if (dw_pt (dw_or (dt_cmp (opEq_ok hr) (de_var (pv 0)) (de_tup da_nil) (nomark _)) (dw_or1 (dt_cmp (opEq_ok hr) (de_bin opMod_ok (de_var (pv 1)) de_int) de_int (nomark _))))) (ds_cons (ds_set (i := 3) nd rfl (Or.inr rfl) (de_ix (opIx_ok hr) (de_bin opAdd_ok (de_var (pv 2)) (de_lst (da_cons (de_str (by decide +kernel)) (da_cons (de_str (by decide +kernel)) da_nil)))) (de_bin opMod_ok (de_bin opDiv_ok (de_var (pv 1)) de_int) de_int)))
    (ds_cons (ds_setComp (own := [("_law_pair", 5)]) (i := 4) rfl nd rfl rfl (sw_true rfl rfl rfl (by decide +kernel)) (di_items (de_var (pv 0))) (blkOk_by (N := N__law_bent) (sc := (defScope (top 9))) (own := [("_law_pair", 5)]) (by decide +kernel)) (fun _ _ _ _ _ => pg_name (i := 5) nd rfl (Or.inl rfl)) (tgr_name (by decide)) (fun _ _ _ _ _ => dts_one (dt_cmp (opNe_ok hr) (de_ix (opIx_ok hr) (de_var (pv 5)) de_int) (de_var (pv 3)) (nomark _))) (fun _ _ _ _ _ => (de_var (pv 5))))
    (ds_cons (ds_if (dt_cmp (opEq_ok hr) (de_callB cLen_ok (by rfl) M.m_len (by decide +kernel) (da_cons (de_var (pv 4)) da_nil)) (de_callB cLen_ok (by rfl) M.m_len (by decide +kernel) (da_cons (de_var (pv 0)) da_nil)) (nomark _)) (ds_one (ds_set (i := 4) nd rfl (Or.inl rfl) (de_bin opAdd_ok (de_var (pv 4)) (de_lst (da_cons (de_tup (da_cons (de_var (pv 3)) (da_cons (de_bin opMod_ok (de_bin opDiv_ok (de_var (pv 1)) de_int) de_int) da_nil))) da_nil))))) ds_nil)
    (ds_cons (ds_set (i := 6) nd rfl (Or.inr rfl) (de_callTy (cDictR_ok rfl) (by rfl) M.m_dict (by decide +kernel) (da_cons (de_var (pv 4)) da_nil)))
    (ds_one (ds_ret (de_callTy cTuple_ok (by rfl) M.m_tuple (by decide +kernel) (da_cons (de_comp (own := [("_law_label", 7)]) rfl nd (di_items (de_callB cSorted_ok (by rfl) M.m_sorted (by decide +kernel) (da_cons (de_callTy (cListK_ok rfl) (by rfl) M.m_list (by decide +kernel) (da_cons (de_var (pv 6)) da_nil)) da_nil))) (blkOk_by (N := N__law_bent) (sc := (defScope (top 9))) (own := [("_law_label", 7)]) (by decide +kernel)) (fun _ _ _ _ _ => pg_name (i := 7) nd rfl (Or.inl rfl)) (tgr_name (by decide)) (fun _ _ _ _ _ => dts_nil) (fun _ _ _ _ _ => (de_tup (da_cons (de_var (pv 7)) (da_cons (de_ix (opIx_ok hr) (de_var (pv 6)) (de_var (pv 7))) da_nil))))) da_nil)))))))) ds_nil)
    (ds_cons (ds_set (i := 8) nd rfl (Or.inl rfl) (de_bin opMod_ok (de_bin opDiv_ok (de_var (pv 1)) de_int) (de_callB cLen_ok (by rfl) M.m_len (by decide +kernel) (da_cons (de_var (pv 0)) da_nil))))
    (ds_cons (ds_set (i := 9) nd rfl (Or.inl rfl) (de_call (hC ._law_bent) hr tk (by rfl) (dal_cons (de_ix (opIx_ok hr) (de_ix (opIx_ok hr) (de_var (pv 0)) (de_var (pv 8))) de_int) (dal_cons (de_bin opDiv_ok (de_var (pv 1)) de_int) (dal_cons (de_var (pv 2)) dal_nil)))))
    (ds_one (ds_ret (de_bin opAdd_ok (de_bin opAdd_ok (de_slice (de_var (pv 0)) do_none (do_some (de_var (pv 8)))) (de_tup (da_cons (de_tup (da_cons (de_ix (opIx_ok hr) (de_ix (opIx_ok hr) (de_var (pv 0)) (de_var (pv 8))) de_int) (da_cons (de_var (pv 9)) da_nil))) da_nil))) (de_slice (de_var (pv 0)) (do_some (de_bin opAdd_ok (de_var (pv 8)) de_int)) do_none))))))))
theorem sc__law_due : FnScope N__law_due ["_law_value_here", "_law_kind_here"] (defScope (top 10)) := ⟨rfl, rfl, rfl, by decide +kernel, rfl, by decide +kernel, by decide +kernel⟩
theorem der__law_due (hC : ∀ g, Has PySem.Challenge.rw_fieldrest_k05_values_of_kinds.prog w K mg base k (nm g) (ar g) (C g)) (M : Mgs mg) (f : Addr) (cdv : Value) (A : Around) (outer : List Env) (s : Shared) (H : Hp) (E : XK) (hr : Room k (A.deeper (envOfC "_law_due" (defScope (top 10)) s.heap.objs.size f cdv))) :
    DSs (cxOf (L2.CX PySem.Challenge.rw_fieldrest_k05_values_of_kinds.prog w) PySem.Challenge.rw_fieldrest_k05_values_of_kinds.prog w K mg base N__law_due "_law_due" (defScope (top 10)) f cdv A outer s H E) (fun cls d _ H => E cls d H) (defBody (top 10)) (b__law_due C) := by
  have nd := sc__law_due.nd
  have tk : Takes (cxOf (L2.CX PySem.Challenge.rw_fieldrest_k05_values_of_kinds.prog w) PySem.Challenge.rw_fieldrest_k05_values_of_kinds.prog w K mg base N__law_due "_law_due" (defScope (top 10)) f cdv A outer s H E) (fun cls d _ H => E cls d H) := takes_of rfl rfl rfl rfl
  exact (ds_cons (ds_if (dt_cmp (opEq_ok hr) (de_ix (opIx_ok hr) (de_var (pv 1)) de_int) (de_str (by decide +kernel)) (nomark _)) (ds_one (ds_ret de_bl)) ds_nil)
    (ds_cons (ds_if (dt_cmp (opEq_ok hr) (de_ix (opIx_ok hr) (de_var (pv 1)) de_int) (de_str (by decide +kernel)) (nomark _)) (ds_one (ds_ret (de_not (de_isi (by rfl) M.m_isinstance (de_var (pv 0)) (pe_bltn (v := .ty "tuple") (by rfl) M.m_tuple (by decide +kernel) rfl))))) ds_nil)
    (ds_cons (ds_if (dt_not (dt_val (de_isi (by rfl) M.m_isinstance (de_var (pv 0)) (pe_bltn (v := .ty "tuple") (by rfl) M.m_tuple (by decide +kernel) rfl)))) (ds_one (ds_ret de_bl)) ds_nil)
    (ds_cons (ds_set (i := 2) nd rfl (Or.inl rfl) (de_callTy (cDict_ok rfl) (by rfl) M.m_dict (by decide +kernel) (da_cons (de_var (pv 0)) da_nil)))
    (ds_cons (ds_for (passes_of rfl) rfl (di_items (de_ix (opIx_ok hr) (de_var (pv 1)) de_int)) (dg_tup (is := [3, 4]) rfl (pgs_cons (pg_name (i := 3) nd rfl (Or.inl rfl)) (pgs_cons (pg_name (i := 4) nd rfl (Or.inl rfl)) pgs_nil)) (.cons (.cons .nil))) (ds_one (ds_if (dw_pt (dw_or (dt_cmp (opNotIn_ok hr) (de_var (pv 3)) (de_var (pv 2)) rfl) (dw_or1 (dt_not (dt_val (de_call (hC ._law_due) hr tk (by rfl) (dal_cons (de_ix (opIx_ok hr) (de_var (pv 2)) (de_var (pv 3))) (dal_cons (de_var (pv 4)) dal_nil)))))))) (ds_one (ds_ret de_bl)) ds_nil)))
    (ds_one (ds_ret (de_or (de_cmp opNotN_ok (de_ix (opIx_ok hr) (de_var (pv 1)) de_int) de_non (nomark _)) (de_one (de_cmp (opEq_ok hr) (de_callB cLen_ok (by rfl) M.m_len (by decide +kernel) (da_cons (de_var (pv 0)) da_nil)) (de_callB cLen_ok (by rfl) M.m_len (by decide +kernel) (da_cons (de_ix (opIx_ok hr) (de_var (pv 1)) de_int) da_nil)) (nomark _)))))))))))
theorem sc_law : FnScope N_law ["_law_script"] (defScope (top 11)) := ⟨rfl, rfl, rfl, by decide +kernel, rfl, by decide +kernel, by decide +kernel⟩
theorem der_law (hC : ∀ g, Has PySem.Challenge.rw_fieldrest_k05_values_of_kinds.prog w K mg base k (nm g) (ar g) (C g)) (M : Mgs mg) (f : Addr) (cdv : Value) (A : Around) (outer : List Env) (s : Shared) (H : Hp) (E : XK) (hr : Room k (A.deeper (envOfC "law" (defScope (top 11)) s.heap.objs.size f cdv))) :
    DSs (cxOf (L2.CX PySem.Challenge.rw_fieldrest_k05_values_of_kinds.prog w) PySem.Challenge.rw_fieldrest_k05_values_of_kinds.prog w K mg base N_law "law" (defScope (top 11)) f cdv A outer s H E) (fun cls d _ H => E cls d H) (defBody (top 11)) (b_law C) := by
  have nd := sc_law.nd
  have tk : Takes (cxOf (L2.CX PySem.Challenge.rw_fieldrest_k05_values_of_kinds.prog w) PySem.Challenge.rw_fieldrest_k05_values_of_kinds.prog w K mg base N_law "law" (defScope (top 11)) f cdv A outer s H E) (fun cls d _ H => E cls d H) := takes_of rfl rfl rfl rfl
  exact (ds_cons (ds_set (i := 1) nd rfl (Or.inl rfl) (de_call (hC ._law_labels) hr tk (by rfl) (dal_cons (de_call (hC ._law_cell) hr tk (by rfl) (dal_cons (de_var (pv 0)) (dal_cons de_int dal_nil))) (dal_cons de_int dal_nil))))
    (ds_cons (ds_set (i := 2) nd rfl (Or.inl rfl) (de_lstR (da_cons (de_bin opAdd_ok de_int (de_bin opMod_ok (de_call (hC ._law_cell) hr tk (by rfl) (dal_cons (de_var (pv 0)) (dal_cons de_int dal_nil))) de_int)) (da_cons (de_bin opAdd_ok de_int (de_bin opMod_ok (de_call (hC ._law_cell) hr tk (by rfl) (dal_cons (de_var (pv 0)) (dal_cons de_int dal_nil))) de_int)) da_nil))))
    (ds_cons (ds_set (i := 3) nd rfl (Or.inl rfl) (de_lst (da_cons (de_bin opAdd_ok de_int (de_bin opMod_ok (de_call (hC ._law_cell) hr tk (by rfl) (dal_cons (de_var (pv 0)) (dal_cons de_int dal_nil))) (de_bin opPow_ok de_int de_int))) (da_cons (de_lstR da_nil) da_nil))))
    (ds_cons (ds_set (i := 4) nd rfl (Or.inl rfl) (de_call (hC ._law_kind) hr tk (by rfl) (dal_cons (de_var (pv 2)) (dal_cons (de_var (pv 1)) (dal_cons (de_var (pv 3)) (dal_cons (de_bin opAdd_ok de_int (de_bin opMod_ok (de_bin opDiv_ok (de_call (hC ._law_cell) hr tk (by rfl) (dal_cons (de_var (pv 0)) (dal_cons de_int dal_nil))) de_int) de_int)) dal_nil))))))
    (ds_cons (ds_set (i := 5) nd rfl (Or.inl rfl) (de_call (hC ._law_value) hr tk (by rfl) (dal_cons (de_var (pv 2)) (dal_cons (de_var (pv 4)) (dal_cons (de_var (pv 1)) dal_nil)))))
    (ds_cons (ds_if (dt_cmp opNotB_ok (de_call (hC .is_of) hr tk (by rfl) (dal_cons (de_var (pv 5)) (dal_cons (de_var (pv 4)) dal_nil))) de_bl (nomark _)) (ds_one (ds_ret de_bl)) ds_nil)
    (ds_cons (ds_set (i := 6) nd rfl (Or.inl rfl) (de_call (hC ._law_cell) hr tk (by rfl) (dal_cons (de_var (pv 0)) (dal_cons de_int dal_nil))))
    (ds_cons (ds_if (dt_cmp opGt_ok (de_bin opMod_ok (de_var (pv 6)) de_int) de_int (nomark _)) (ds_one (ds_set (i := 5) nd rfl (Or.inl rfl) (de_call (hC ._law_bent) hr tk (by rfl) (dal_cons (de_var (pv 5)) (dal_cons (de_bin opDiv_ok (de_var (pv 6)) de_int) (dal_cons (de_var (pv 1)) dal_nil)))))) ds_nil)
    (ds_cons (ds_for (passes_of rfl) rfl (di_items (de_lst (da_cons (de_var (pv 4)) (da_cons (de_tup (da_cons (de_str (by decide +kernel)) da_nil)) (da_cons (de_var (pv 4)) da_nil))))) (dg_name (pg_name (i := 7) nd rfl (Or.inl rfl))) (ds_cons (ds_set (i := 8) nd rfl (Or.inl rfl) (de_call (hC .is_of) hr tk (by rfl) (dal_cons (de_var (pv 5)) (dal_cons (de_var (pv 7)) dal_nil))))
    (ds_one (ds_if (dw_pt (dw_or (dt_not (dt_val (de_isi (by rfl) M.m_isinstance (de_var (pv 8)) (pe_bltn (v := .ty "bool") (by rfl) M.m_bool (by decide +kernel) rfl)))) (dw_or1 (dt_cmp (opNe_ok hr) (de_var (pv 8)) (de_call (hC ._law_due) hr tk (by rfl) (dal_cons (de_var (pv 5)) (dal_cons (de_var (pv 7)) dal_nil))) (nomark _))))) (ds_one (ds_ret de_bl)) ds_nil))))
    (ds_one (ds_ret (de_and (de_cmp opIsB_ok (de_call (hC .is_of) hr tk (by rfl) (dal_cons (de_var (pv 5)) (dal_cons (de_tup (da_cons (de_str (by decide +kernel)) (da_cons de_int da_nil))) dal_nil))) de_bl (nomark _)) (de_one (de_cmp (opEq_ok hr) (de_call (hC .is_of) hr tk (by rfl) (dal_cons (de_var (pv 5)) (dal_cons (de_tup (da_cons (de_str (by decide +kernel)) (da_cons (de_tup da_nil) (da_cons de_int da_nil)))) dal_nil))) (de_isi (by rfl) M.m_isinstance (de_var (pv 5)) (pe_bltn (v := .ty "tuple") (by rfl) M.m_tuple (by decide +kernel) rfl)) (nomark _)))))))))))))))
end

structure Facts (K : PySem.W.Frag) (mg : Str → Option Value) : Prop where
  M : Mgs mg
  F_is_of : ∃ f fd, Fun K "is_of" "is_of" (top 1) f fd ∧ mg "is_of" = some (.ref f) ∧ Binds K fd ["value", "kind"] []
  F__law_cell : ∃ f fd, Fun K "_law_cell" "_law_cell" (top 3) f fd ∧ mg "_law_cell" = some (.ref f) ∧ Binds K fd ["_law_script", "_law_k"] []
  F__law_next : ∃ f fd, Fun K "_law_next" "_law_next" (top 4) f fd ∧ mg "_law_next" = some (.ref f) ∧ Binds K fd ["_law_state"] []
  F__law_labels : ∃ f fd, Fun K "_law_labels" "_law_labels" (top 5) f fd ∧ mg "_law_labels" = some (.ref f) ∧ Binds K fd ["_law_cell_here", "_law_many"] []
  F__law_kind : ∃ f fd, Fun K "_law_kind" "_law_kind" (top 6) f fd ∧ mg "_law_kind" = some (.ref f) ∧ Binds K fd ["_law_state", "_law_labels_here", "_law_met", "_law_left"] []
  F__law_any : ∃ f fd, Fun K "_law_any" "_law_any" (top 7) f fd ∧ mg "_law_any" = some (.ref f) ∧ Binds K fd ["_law_state", "_law_labels_here", "_law_left"] []
  F__law_value : ∃ f fd, Fun K "_law_value" "_law_value" (top 8) f fd ∧ mg "_law_value" = some (.ref f) ∧ Binds K fd ["_law_state", "_law_kind_here", "_law_labels_here"] []
  F__law_bent : ∃ f fd, Fun K "_law_bent" "_law_bent" (top 9) f fd ∧ mg "_law_bent" = some (.ref f) ∧ Binds K fd ["_law_value_here", "_law_path", "_law_labels_here"] []
  F__law_due : ∃ f fd, Fun K "_law_due" "_law_due" (top 10) f fd ∧ mg "_law_due" = some (.ref f) ∧ Binds K fd ["_law_value_here", "_law_kind_here"] []
  F_law : ∃ f fd, Fun K "law" "law" (top 11) f fd ∧ mg "law" = some (.ref f) ∧ Binds K fd ["_law_script"] []
theorem all_has {w : World} {K : PySem.W.Frag} {mg : Str → Option Value} {base : Heap} (T : Facts K mg) : ∀ (k : Nat) (g : Fn), Has PySem.Challenge.rw_fieldrest_k05_values_of_kinds.prog w K mg base k (nm g) (ar g) (run k g)
  | 0, g => by
    cases g with
    | is_of => obtain ⟨f, fd, F, hm, hb⟩ := T.F_is_of; exact has_zero F hm hb rfl
    | _law_cell => obtain ⟨f, fd, F, hm, hb⟩ := T.F__law_cell; exact has_zero F hm hb rfl
    | _law_next => obtain ⟨f, fd, F, hm, hb⟩ := T.F__law_next; exact has_zero F hm hb rfl
    | _law_labels => obtain ⟨f, fd, F, hm, hb⟩ := T.F__law_labels; exact has_zero F hm hb rfl
    | _law_kind => obtain ⟨f, fd, F, hm, hb⟩ := T.F__law_kind; exact has_zero F hm hb rfl
    | _law_any => obtain ⟨f, fd, F, hm, hb⟩ := T.F__law_any; exact has_zero F hm hb rfl
    | _law_value => obtain ⟨f, fd, F, hm, hb⟩ := T.F__law_value; exact has_zero F hm hb rfl
    | _law_bent => obtain ⟨f, fd, F, hm, hb⟩ := T.F__law_bent; exact has_zero F hm hb rfl
    | _law_due => obtain ⟨f, fd, F, hm, hb⟩ := T.F__law_due; exact has_zero F hm hb rfl
    | law => obtain ⟨f, fd, F, hm, hb⟩ := T.F_law; exact has_zero F hm hb rfl
  | k + 1, g => by
    have hC := all_has (w := w) (base := base) T k
    cases g with
    | is_of => obtain ⟨f, fd, F, hm, hb⟩ := T.F_is_of; exact has_of F sc_is_of hm hb rfl finRaw_ok (der_is_of hC T.M f)
    | _law_cell => obtain ⟨f, fd, F, hm, hb⟩ := T.F__law_cell; exact has_of F sc__law_cell hm hb rfl finRaw_ok (der__law_cell hC T.M f)
    | _law_next => obtain ⟨f, fd, F, hm, hb⟩ := T.F__law_next; exact has_of F sc__law_next hm hb rfl finRaw_ok (der__law_next hC T.M f)
    | _law_labels => obtain ⟨f, fd, F, hm, hb⟩ := T.F__law_labels; exact has_of F sc__law_labels hm hb rfl finFrz_ok (der__law_labels hC T.M f)
    | _law_kind => obtain ⟨f, fd, F, hm, hb⟩ := T.F__law_kind; exact has_of F sc__law_kind hm hb rfl finRaw_ok (der__law_kind hC T.M f)
    | _law_any => obtain ⟨f, fd, F, hm, hb⟩ := T.F__law_any; exact has_of F sc__law_any hm hb rfl finRaw_ok (der__law_any hC T.M f)
    | _law_value => obtain ⟨f, fd, F, hm, hb⟩ := T.F__law_value; exact has_of F sc__law_value hm hb rfl finFrz_ok (der__law_value hC T.M f)
    | _law_bent => obtain ⟨f, fd, F, hm, hb⟩ := T.F__law_bent; exact has_of F sc__law_bent hm hb rfl finFrz_ok (der__law_bent hC T.M f)
    | _law_due => obtain ⟨f, fd, F, hm, hb⟩ := T.F__law_due; exact has_of F sc__law_due hm hb rfl finRaw_ok (der__law_due hC T.M f)
    | law => obtain ⟨f, fd, F, hm, hb⟩ := T.F_law; exact has_of F sc_law hm hb rfl finRaw_ok (der_law hC T.M f)
/-- the program's top: the defs stand there as the text says -/
theorem all_mk {w : World} {K : PySem.W.Frag} {h : Heap} {mg : Str → Option Value} {fa : Addr} (X : K.In h) (G : h.Ns mainGlobals mg) (hfa : mg "law" = some (.ref fa)) {f0 f1 f2 f3 f4 f5 f6 f7 f8 f9 : Addr}
    {od0 an0 od1 an1 od2 an2 od3 an3 od4 an4 od5 an5 od6 an6 od7 an7 od8 an8 od9 an9 : Option Addr} {sl0 sl1 sl2 sl3 sl4 sl5 sl6 sl7 sl8 sl9 : Array (Option Value)} {oc0 kV0 dc0 pm0 cd0 ct0 oc1 kV1 dc1 pm1 cd1 ct1 oc2 kV2 dc2 pm2 cd2 ct2 oc3 kV3 dc3 pm3 cd3 ct3 oc4 kV4 dc4 pm4 cd4 ct4 oc5 kV5 dc5 pm5 cd5 ct5 oc6 kV6 dc6 pm6 cd6 ct6 oc7 kV7 dc7 pm7 cd7 ct7 oc8 kV8 dc8 pm8 cd8 ct8 oc9 kV9 dc9 pm9 cd9 ct9 : Value} 
    (a0 : PySem.W.nsIn K mainGlobals "is_of" = some (some (.ref f0))) (l0 : K.lookup f0 = some ⟨oc0, od0, .func (PySem.W.fnOf "is_of" "is_of" (defArgs (top 1)) (defBody (top 1)) (defScope (top 1)) .none kV0 dc0 pm0 an0 cd0 ct0), sl0⟩) (c0 : PySem.W.codeIn K cd0 "is_of" = true) (k0 : PySem.W.keepIn K (.ref f0) = true)
    (a1 : PySem.W.nsIn K mainGlobals "_law_cell" = some (some (.ref f1))) (l1 : K.lookup f1 = some ⟨oc1, od1, .func (PySem.W.fnOf "_law_cell" "_law_cell" (defArgs (top 3)) (defBody (top 3)) (defScope (top 3)) .none kV1 dc1 pm1 an1 cd1 ct1), sl1⟩) (c1 : PySem.W.codeIn K cd1 "_law_cell" = true) (k1 : PySem.W.keepIn K (.ref f1) = true)
    (a2 : PySem.W.nsIn K mainGlobals "_law_next" = some (some (.ref f2))) (l2 : K.lookup f2 = some ⟨oc2, od2, .func (PySem.W.fnOf "_law_next" "_law_next" (defArgs (top 4)) (defBody (top 4)) (defScope (top 4)) .none kV2 dc2 pm2 an2 cd2 ct2), sl2⟩) (c2 : PySem.W.codeIn K cd2 "_law_next" = true) (k2 : PySem.W.keepIn K (.ref f2) = true)
    (a3 : PySem.W.nsIn K mainGlobals "_law_labels" = some (some (.ref f3))) (l3 : K.lookup f3 = some ⟨oc3, od3, .func (PySem.W.fnOf "_law_labels" "_law_labels" (defArgs (top 5)) (defBody (top 5)) (defScope (top 5)) .none kV3 dc3 pm3 an3 cd3 ct3), sl3⟩) (c3 : PySem.W.codeIn K cd3 "_law_labels" = true) (k3 : PySem.W.keepIn K (.ref f3) = true)
    (a4 : PySem.W.nsIn K mainGlobals "_law_kind" = some (some (.ref f4))) (l4 : K.lookup f4 = some ⟨oc4, od4, .func (PySem.W.fnOf "_law_kind" "_law_kind" (defArgs (top 6)) (defBody (top 6)) (defScope (top 6)) .none kV4 dc4 pm4 an4 cd4 ct4), sl4⟩) (c4 : PySem.W.codeIn K cd4 "_law_kind" = true) (k4 : PySem.W.keepIn K (.ref f4) = true)
    (a5 : PySem.W.nsIn K mainGlobals "_law_any" = some (some (.ref f5))) (l5 : K.lookup f5 = some ⟨oc5, od5, .func (PySem.W.fnOf "_law_any" "_law_any" (defArgs (top 7)) (defBody (top 7)) (defScope (top 7)) .none kV5 dc5 pm5 an5 cd5 ct5), sl5⟩) (c5 : PySem.W.codeIn K cd5 "_law_any" = true) (k5 : PySem.W.keepIn K (.ref f5) = true)
    (a6 : PySem.W.nsIn K mainGlobals "_law_value" = some (some (.ref f6))) (l6 : K.lookup f6 = some ⟨oc6, od6, .func (PySem.W.fnOf "_law_value" "_law_value" (defArgs (top 8)) (defBody (top 8)) (defScope (top 8)) .none kV6 dc6 pm6 an6 cd6 ct6), sl6⟩) (c6 : PySem.W.codeIn K cd6 "_law_value" = true) (k6 : PySem.W.keepIn K (.ref f6) = true)
    (a7 : PySem.W.nsIn K mainGlobals "_law_bent" = some (some (.ref f7))) (l7 : K.lookup f7 = some ⟨oc7, od7, .func (PySem.W.fnOf "_law_bent" "_law_bent" (defArgs (top 9)) (defBody (top 9)) (defScope (top 9)) .none kV7 dc7 pm7 an7 cd7 ct7), sl7⟩) (c7 : PySem.W.codeIn K cd7 "_law_bent" = true) (k7 : PySem.W.keepIn K (.ref f7) = true)
    (a8 : PySem.W.nsIn K mainGlobals "_law_due" = some (some (.ref f8))) (l8 : K.lookup f8 = some ⟨oc8, od8, .func (PySem.W.fnOf "_law_due" "_law_due" (defArgs (top 10)) (defBody (top 10)) (defScope (top 10)) .none kV8 dc8 pm8 an8 cd8 ct8), sl8⟩) (c8 : PySem.W.codeIn K cd8 "_law_due" = true) (k8 : PySem.W.keepIn K (.ref f8) = true)
    (a9 : PySem.W.nsIn K mainGlobals "law" = some (some (.ref f9))) (l9 : K.lookup f9 = some ⟨oc9, od9, .func (PySem.W.fnOf "law" "law" (defArgs (top 11)) (defBody (top 11)) (defScope (top 11)) .none kV9 dc9 pm9 an9 cd9 ct9), sl9⟩) (c9 : PySem.W.codeIn K cd9 "law" = true) (k9 : PySem.W.keepIn K (.ref f9) = true)
    (z_bool : PySem.W.nsIn K mainGlobals "bool" = some none)
    (z_dict : PySem.W.nsIn K mainGlobals "dict" = some none)
    (z_isinstance : PySem.W.nsIn K mainGlobals "isinstance" = some none)
    (z_len : PySem.W.nsIn K mainGlobals "len" = some none)
    (z_list : PySem.W.nsIn K mainGlobals "list" = some none)
    (z_range : PySem.W.nsIn K mainGlobals "range" = some none)
    (z_sorted : PySem.W.nsIn K mainGlobals "sorted" = some none)
    (z_tuple : PySem.W.nsIn K mainGlobals "tuple" = some none)
    (main : ∀ ns : List Int, ns.length ≤ 63 → ∃ S', run 60 .law [.scr (ns.map D.int)] [] = .ok (.bl true) S') :
    ∃ fd : FuncData, (∀ (s : Shared) (v : Value), BindsTo s fd ⟨[v], []⟩ [("_law_script", v)]) ∧ ∀ base : Heap, K.In base → base.Ns mainGlobals mg → FnOk PySem.Challenge.rw_fieldrest_k05_values_of_kinds.prog w K mg base (L2.CX PySem.Challenge.rw_fieldrest_k05_values_of_kinds.prog w) 60 fa fd ["_law_script"] (spLaw K) := by
  have T : Facts K mg := by
    refine ⟨⟨PySem.W.mg_none_of X G z_bool, PySem.W.mg_none_of X G z_dict, PySem.W.mg_none_of X G z_isinstance, PySem.W.mg_none_of X G z_len, PySem.W.mg_none_of X G z_list, PySem.W.mg_none_of X G z_range, PySem.W.mg_none_of X G z_sorted, PySem.W.mg_none_of X G z_tuple⟩, ?_, ?_, ?_, ?_, ?_, ?_, ?_, ?_, ?_, ?_⟩
    · exact ⟨f0, _, fun_mk (st := top 1) l0 c0 k0, PySem.W.mg_of X G a0, (fun_mk (st := top 1) l0 c0 k0).binds (ps := ["value", "kind"]) fun _ _ _ _ _ _ us hl => match us, hl with | [_, _], _ => rfl⟩
    · exact ⟨f1, _, fun_mk (st := top 3) l1 c1 k1, PySem.W.mg_of X G a1, (fun_mk (st := top 3) l1 c1 k1).binds (ps := ["_law_script", "_law_k"]) fun _ _ _ _ _ _ us hl => match us, hl with | [_, _], _ => rfl⟩
    · exact ⟨f2, _, fun_mk (st := top 4) l2 c2 k2, PySem.W.mg_of X G a2, (fun_mk (st := top 4) l2 c2 k2).binds (ps := ["_law_state"]) fun _ _ _ _ _ _ us hl => match us, hl with | [_], _ => rfl⟩
    · exact ⟨f3, _, fun_mk (st := top 5) l3 c3 k3, PySem.W.mg_of X G a3, (fun_mk (st := top 5) l3 c3 k3).binds (ps := ["_law_cell_here", "_law_many"]) fun _ _ _ _ _ _ us hl => match us, hl with | [_, _], _ => rfl⟩
    · exact ⟨f4, _, fun_mk (st := top 6) l4 c4 k4, PySem.W.mg_of X G a4, (fun_mk (st := top 6) l4 c4 k4).binds (ps := ["_law_state", "_law_labels_here", "_law_met", "_law_left"]) fun _ _ _ _ _ _ us hl => match us, hl with | [_, _, _, _], _ => rfl⟩
    · exact ⟨f5, _, fun_mk (st := top 7) l5 c5 k5, PySem.W.mg_of X G a5, (fun_mk (st := top 7) l5 c5 k5).binds (ps := ["_law_state", "_law_labels_here", "_law_left"]) fun _ _ _ _ _ _ us hl => match us, hl with | [_, _, _], _ => rfl⟩
    · exact ⟨f6, _, fun_mk (st := top 8) l6 c6 k6, PySem.W.mg_of X G a6, (fun_mk (st := top 8) l6 c6 k6).binds (ps := ["_law_state", "_law_kind_here", "_law_labels_here"]) fun _ _ _ _ _ _ us hl => match us, hl with | [_, _, _], _ => rfl⟩
    · exact ⟨f7, _, fun_mk (st := top 9) l7 c7 k7, PySem.W.mg_of X G a7, (fun_mk (st := top 9) l7 c7 k7).binds (ps := ["_law_value_here", "_law_path", "_law_labels_here"]) fun _ _ _ _ _ _ us hl => match us, hl with | [_, _, _], _ => rfl⟩
    · exact ⟨f8, _, fun_mk (st := top 10) l8 c8 k8, PySem.W.mg_of X G a8, (fun_mk (st := top 10) l8 c8 k8).binds (ps := ["_law_value_here", "_law_kind_here"]) fun _ _ _ _ _ _ us hl => match us, hl with | [_, _], _ => rfl⟩
    · exact ⟨f9, _, fun_mk (st := top 11) l9 c9 k9, PySem.W.mg_of X G a9, (fun_mk (st := top 11) l9 c9 k9).binds (ps := ["_law_script"]) fun _ _ _ _ _ _ us hl => match us, hl with | [_], _ => rfl⟩
  have e := hfa.symm.trans (PySem.W.mg_of X G a9)
  cases e
  refine ⟨PySem.W.fnOf "law" "law" (defArgs (top 11)) (defBody (top 11)) (defScope (top 11)) .none kV9 dc9 pm9 an9 cd9 ct9, fun s v => .of_eq rfl, fun base _ _ => ?_⟩
  have Fl := fun_mk (st := top 11) l9 c9 k9
  have hC := all_has (w := w) (base := base) T 59
  have Fk := has_fn Fl sc_law rfl finRaw_ok (der_law hC T.M fa)
  exact law_fn Fk main
end K_k05

open PySem PySem.W PyProof.Rows
set_option maxRecDepth 100000 in
set_option maxHeartbeats 0 in
theorem PySem.Challenge.cw_fieldrest_k05_values_of_kinds_holds : PySem.Challenge.rw_fieldrest_k05_values_of_kinds.Holds := by
  w_on; o_law; k_head; (case hw => w_witness2)
  k_fill
  refine PM.walk (l := PySem.Challenge.rw_fieldrest_k05_values_of_kinds) (N := 60) (x := "_law_script") rfl rfl ⟨rfl, by decide, by decide⟩ (fun w h Y => PySem.W.kIn_of Y) ?F
  case F =>
    intro w mg fa h KX G hmg
    refine' K_k05.all_mk KX G hmg ?a0 ?l0 ?c0 ?k0 ?a1 ?l1 ?c1 ?k1 ?a2 ?l2 ?c2 ?k2 ?a3 ?l3 ?c3 ?k3 ?a4 ?l4 ?c4 ?k4 ?a5 ?l5 ?c5 ?k5 ?a6 ?l6 ?c6 ?k6 ?a7 ?l7 ?c7 ?k7 ?a8 ?l8 ?c8 ?k8 ?a9 ?l9 ?c9 ?k9 ?z_bool ?z_dict ?z_isinstance ?z_len ?z_list ?z_range ?z_sorted ?z_tuple  K_k05.main_ok
    (case a0 => k_is); (case l0 => k_is); (case c0 => k_is); (case k0 => k_is)
    (case a1 => k_is); (case l1 => k_is); (case c1 => k_is); (case k1 => k_is)
    (case a2 => k_is); (case l2 => k_is); (case c2 => k_is); (case k2 => k_is)
    (case a3 => k_is); (case l3 => k_is); (case c3 => k_is); (case k3 => k_is)
    (case a4 => k_is); (case l4 => k_is); (case c4 => k_is); (case k4 => k_is)
    (case a5 => k_is); (case l5 => k_is); (case c5 => k_is); (case k5 => k_is)
    (case a6 => k_is); (case l6 => k_is); (case c6 => k_is); (case k6 => k_is)
    (case a7 => k_is); (case l7 => k_is); (case c7 => k_is); (case k7 => k_is)
    (case a8 => k_is); (case l8 => k_is); (case c8 => k_is); (case k8 => k_is)
    (case a9 => k_is); (case l9 => k_is); (case c9 => k_is); (case k9 => k_is)
    (case z_bool => k_is)
    (case z_dict => k_is)
    (case z_isinstance => k_is)
    (case z_len => k_is)
    (case z_list => k_is)
    (case z_range => k_is)
    (case z_sorted => k_is)
    (case z_tuple => k_is)

