import PyProof.Rows.All
import Wide.All
import OpenK.AllK
import Wide.FinOn
import HandS.ForMost
import HandS.ForExc
import HandS.IsInst
import HandS.TupAny
import HandS.CallSlots
import HandS.Deep
import HandS.TupLen
import HandS.SetKeys
import HandS.SortKw
import HandS.Rev
import HandS.RevRange
import KE.KDictPairs
import PyProof.Rows.SortShellAny
import HandS.Style
import HandS.Strs
import HandS.Conv
import PySem.Challenge.RW_fieldrest_k02_kinds
set_option Elab.async false
set_option linter.all false
set_option maxRecDepth 100000
set_option maxHeartbeats 4000000
/-! PM: functions over plain data that mirror Python code. Part 1: data, stores, results, combinators. -/
namespace PM
open PySem L2

/-- plain data: atoms, tuples, lists and dicts that nobody changes any more, and the numbers of objects that may change -/
inductive D where
  | non | bl (b : Bool) | int (i : Int) | str (s : Str)
  | tup (ds : List D) | lst (ds : List D) | scr (ds : List D) | dct (ks : List Key) (ds : List D) | ref (n : Nat)
  deriving Inhabited

/-- an object that may change -/
inductive MO where
  | lst (ds : List D) | dK (ks : List Key) (ds : List D) | dT (ks : List (List Key)) (ds : List D) | ins (c : Str) (fs : List Str) (ds : List D)
  deriving Inhabited
abbrev Sto := List MO
structure Exc where
  cls : Str
  fs : List Str
  ds : List D
abbrev Loc := List (Option D)

inductive R (α : Type) where
  | ok (a : α) (S : Sto) | exc (c : Exc) (S : Sto) | stuck
def R.bind {α β : Type} (r : R α) (k : α → Sto → R β) : R β := match r with
  | .ok a S => k a S
  | .exc c S => .exc c S
  | .stuck => .stuck
@[simp] theorem R.bind_ok {α β : Type} {a : α} {S : Sto} {k : α → Sto → R β} : (R.ok a S).bind k = k a S := (rfl)
@[simp] theorem R.bind_exc {α β : Type} {c : Exc} {S : Sto} {k : α → Sto → R β} : (R.exc c S : R α).bind k = .exc c S := (rfl)
@[simp] theorem R.bind_stuck {α β : Type} {k : α → Sto → R β} : (R.stuck : R α).bind k = .stuck := (rfl)

abbrev Em := Loc → Sto → R D
abbrev Tm := Loc → Sto → R Bool
abbrev Am := Loc → Sto → R (List D)

/-- how a statement ends -/
inductive RS where
  | nx (δ : Loc) (S : Sto) | rt (d : D) (S : Sto) | bk (δ : Loc) (S : Sto) | ct (δ : Loc) (S : Sto) | exc (c : Exc) (δ : Loc) (S : Sto) | stuck
abbrev Sm := Loc → Sto → RS
def RS.seq (r : RS) (k : Sm) : RS := match r with
  | .nx δ S => k δ S
  | r => r
@[simp] theorem RS.seq_nx {δ S k} : (RS.nx δ S).seq k = k δ S := (rfl)
@[simp] theorem RS.seq_rt {d S k} : (RS.rt d S).seq k = .rt d S := (rfl)
@[simp] theorem RS.seq_bk {δ S k} : (RS.bk δ S).seq k = .bk δ S := (rfl)
@[simp] theorem RS.seq_ct {δ S k} : (RS.ct δ S).seq k = .ct δ S := (rfl)
@[simp] theorem RS.seq_exc {c δ S k} : (RS.exc c δ S).seq k = .exc c δ S := (rfl)
@[simp] theorem RS.seq_stuck {k} : RS.stuck.seq k = .stuck := (rfl)
/-- an expression's result goes on as a statement -/
def R.into {α : Type} (r : R α) (δ : Loc) (k : α → Sto → RS) : RS := match r with
  | .ok a S => k a S
  | .exc c S => .exc c δ S
  | .stuck => .stuck
@[simp] theorem R.into_ok {α : Type} {a : α} {S δ} {k : α → Sto → RS} : (R.ok a S).into δ k = k a S := (rfl)
@[simp] theorem R.into_exc {α : Type} {c S δ} {k : α → Sto → RS} : (R.exc c S : R α).into δ k = .exc c δ S := (rfl)
@[simp] theorem R.into_stuck {α : Type} {δ} {k : α → Sto → RS} : (R.stuck : R α).into δ k = .stuck := (rfl)

/-- an exception is not looked for here -/
def R.quiet {α : Type} (r : R α) : R α := match r with
  | .exc _ _ => .stuck
  | r => r
@[simp] theorem R.quiet_ok {α : Type} {a : α} {S : Sto} : (R.ok a S).quiet = .ok a S := (rfl)
@[simp] theorem R.quiet_exc {α : Type} {c : Exc} {S : Sto} : (R.exc c S : R α).quiet = .stuck := (rfl)
@[simp] theorem R.quiet_stuck {α : Type} : (R.stuck : R α).quiet = .stuck := (rfl)
/-! ### expressions -/
def mV (i : Nat) : Em := fun δ S => match δ[i]? with
  | some (some d) => .ok d S
  | _ => .stuck
def mC (d : D) : Em := fun _ S => .ok d S
def mB (op : D → D → Sto → R D) (a b : Em) : Em := fun δ S => (a δ S).bind fun x S1 => (b δ S1).bind fun y S2 => op x y S2
def mU (op : D → Sto → R D) (a : Em) : Em := fun δ S => (a δ S).bind fun x S1 => op x S1
def mNil : Am := fun _ S => .ok [] S
def mCons (a : Em) (r : Am) : Am := fun δ S => (a δ S).bind fun x S1 => (r δ S1).bind fun xs S2 => .ok (x :: xs) S2
def mApp (f : List D → Sto → R D) (a : Am) : Em := fun δ S => (a δ S).bind fun xs S1 => f xs S1
def mIfE (c : Tm) (a b : Em) : Em := fun δ S => (c δ S).bind fun k S1 => if k = true then a δ S1 else b δ S1
/-- and, or of truths -/
def mAndV (a b : Em) : Em := fun δ S => (a δ S).bind fun x S1 => match x with
  | .bl true => b δ S1
  | .bl false => .ok (.bl false) S1
  | _ => .stuck
def mOrV (a b : Em) : Em := fun δ S => (a δ S).bind fun x S1 => match x with
  | .bl true => .ok (.bl true) S1
  | .bl false => b δ S1
  | _ => .stuck
def mNotV (a : Em) : Em := fun δ S => (a δ S).bind fun x S1 => match x with
  | .bl k => .ok (.bl (!k)) S1
  | _ => .stuck
def mChain (f g : D → D → Sto → R D) (a b c : Em) : Em := fun δ S => (a δ S).bind fun x S1 => (b δ S1).bind fun y S2 => (f x y S2).bind fun k S3 => match k with
  | .bl true => (c δ S3).bind fun z S4 => g y z S4
  | .bl false => .ok (.bl false) S3
  | _ => .stuck
/-! ### tests -/
def mT (a : Em) : Tm := fun δ S => (a δ S).bind fun x S1 => match x with
  | .bl k => .ok k S1
  | _ => .stuck
def mAnd (a b : Tm) : Tm := fun δ S => (a δ S).bind fun k S1 => if k = true then b δ S1 else .ok false S1
def mOr (a b : Tm) : Tm := fun δ S => (a δ S).bind fun k S1 => if k = true then .ok true S1 else b δ S1
def mNot (a : Tm) : Tm := fun δ S => (a δ S).bind fun k S1 => .ok (!k) S1
def mYes : Tm := fun _ S => .ok true S
/-! ### statements -/
def sSeq (a b : Sm) : Sm := fun δ S => (a δ S).seq b
def sPass : Sm := fun δ S => .nx δ S
def sExpr (e : Em) : Sm := fun δ S => (e δ S).into δ fun _ S1 => .nx δ S1
def sRet (e : Em) : Sm := fun δ S => (e δ S).into δ fun d S1 => .rt d S1
def sRetN : Sm := fun _ S => .rt .non S
def sIf (c : Tm) (a b : Sm) : Sm := fun δ S => (c δ S).into δ fun k S1 => if k = true then a δ S1 else b δ S1
def sBk : Sm := fun δ S => .bk δ S
def sCt : Sm := fun δ S => .ct δ S
/-! ### targets -/
abbrev Gm := D → Loc → Sto → R Loc
def gmName (i : Nat) : Gm := fun d δ S => .ok (δ.set i (some d)) S
def gmNames : List Nat → List D → Loc → Sto → R Loc
  | [], [], δ, S => .ok δ S
  | i :: is, d :: ds, δ, S => gmNames is ds (δ.set i (some d)) S
  | _, _, _, _ => .stuck
def gmTup (is : List Nat) : Gm := fun d δ S => match d with
  | .tup ds => gmNames is ds δ S
  | _ => .stuck
def sAsg (e : Em) (g : Gm) : Sm := fun δ S => (e δ S).into δ fun d S1 => (g d δ S1).into δ fun δ' S2 => .nx δ' S2
def gmSub (o i : Em) (f : D → D → D → Sto → R Unit) : Gm := fun d δ S => (o δ S).bind fun x S1 => (i δ S1).bind fun y S2 => (f x y d S2).bind fun _ S3 => .ok δ S3
/-! ### loops -/
/-- what is walked: the items, and what must stand at each turn -/
abbrev Src := Loc → Sto → R (List D × (Sto → Prop))
open Classical in
noncomputable def loopM (grd : Sto → Prop) (b : D → Sm) : List D → Sm
  | [], δ, S => if grd S then .nx δ S else .stuck
  | x :: xs, δ, S => if grd S then (match b x δ S with
    | .nx δ' S' => loopM grd b xs δ' S'
    | .ct δ' S' => loopM grd b xs δ' S'
    | .bk δ' S' => .nx δ' S'
    | r => r) else .stuck
/-- a list that nobody changes, a tuple, a list that the loop leaves -/
def sItems (e : Em) : Src := fun δ S => (e δ S).bind fun d S1 => match d with
  | .lst ds => .ok (ds, fun _ => True) S1
  | .scr ds => .ok (ds, fun _ => True) S1
  | .tup ds => .ok (ds, fun _ => True) S1
  | .str s => .ok (s.cps.toList.map (fun c => .str ⟨#[c]⟩), fun _ => True) S1
  | .ref n => match S1[n]? with
    | some (.lst ds) => .ok (ds, fun S => S[n]? = some (.lst ds)) S1
    | _ => .stuck
  | _ => .stuck
def rangeD (lo : Int) (n : Nat) : List D := (List.range n).map fun i => .int (lo + (i : Nat))
def lim62 (i : Int) : Bool := decide (-(2 ^ 62) ≤ i ∧ i < 2 ^ 62)
def limR (i j : Int) : Bool := lim62 i && lim62 j && decide (j - i ≤ (sizeLine : Nat))
def sRange1 (e : Em) : Src := fun δ S => (e δ S).bind fun d S1 => match d with
  | .int j => if limR 0 j = true then .ok (rangeD 0 j.toNat, fun _ => True) S1 else .stuck
  | _ => .stuck
def sRange2 (a e : Em) : Src := fun δ S => (a δ S).bind fun x S1 => (e δ S1).bind fun y S2 => match x, y with
  | .int i, .int j => if limR i j = true then .ok (rangeD i (j - i).toNat, fun _ => True) S2 else .stuck
  | _, _ => .stuck
/-- range(len(e)) -/
def lenOf (d : D) (S : Sto) : Option Nat := match d with
  | .lst ds => some ds.length
  | .scr ds => some ds.length
  | .tup ds => some ds.length
  | .str s => some s.length
  | .dct ks _ => some ks.length
  | .ref n => match S[n]? with
    | some (.lst ds) => some ds.length
    | some (.dK ks _) => some ks.length
    | some (.dT ks _) => some ks.length
    | _ => none
  | _ => none
def sRangeLen (e : Em) : Src := fun δ S => (e δ S).bind fun d S1 => match lenOf d S1 with
  | some n => .ok (rangeD 0 n, fun _ => True) S1
  | none => .stuck
noncomputable def sFor (src : Src) (g : Gm) (b : Sm) : Sm := fun δ S => (src δ S).into δ fun p S1 => loopM p.2 (fun x δ S => (g x δ S).into δ b) p.1 δ S1
/-- a comprehension's loop: slots vs forgotten at each turn -/
def wipeD (δ : Loc) : List Nat → Loc
  | [] => δ
  | v :: vs => (wipeD δ vs).set v none
open Classical in
noncomputable def compM (grd : Sto → Prop) (g : Gm) (t : Tm) (e : Em) (δ : Loc) : List D → List D → Sto → R D
  | acc, [], S => if grd S then .ok (.lst acc) S else .stuck
  | acc, x :: xs, S => if grd S then (g x δ S).quiet.bind fun δ' S1 => (t δ' S1).quiet.bind fun k S2 =>
      if k = true then (e δ' S2).quiet.bind fun y S3 => compM grd g t e δ (acc ++ [y]) xs S3 else compM grd g t e δ acc xs S2 else .stuck
noncomputable def mComp (src : Src) (g : Gm) (t : Tm) (e : Em) (vs : List Nat) : Em := fun δ S => (src δ S).bind fun p S1 => compM p.2 g t e (wipeD δ vs) [] p.1 S1
end PM

/-! PM, part 1b: tuples made with all that is known of their objects -/
namespace PM
open PySem PySem.Spec L2 PyProof.Rows
/-- a tuple of whose object all is known, and that has no dict -/
def Tp (H : Hp) (a : Addr) (vs : List V) : Prop := ∃ o, H a = some (.frz o (.tup vs)) ∧ o.dict = none
theorem Tp.sq {K : PySem.W.Frag} {H : Hp} {a : Addr} {vs : List V} (h : Tp H a vs) : SqT K H a vs := let ⟨o, h, _⟩ := h; .inl (.inr ⟨o, h⟩)
theorem Tp.keep {H : Hp} {a p : Addr} {u : HO} {vs : List V} (h : Tp H a vs) (hp : a ≠ p) : Tp (upd H p u) a vs := let ⟨o, h, d⟩ := h; ⟨o, by rw [upd_ne hp]; exact h, d⟩
theorem Tp.up {H : Hp} {a p : Addr} {u : HO} {vs : List V} (h : Tp H a vs) (hp : H p = none) : Tp (upd H p u) a vs := h.keep (let ⟨_, h, _⟩ := h; ne_of_none h hp)
theorem Tp.mk {H : Hp} {p : Addr} {o : Obj} {vs : List V} (d : o.dict = none) : Tp (upd H p (.frz o (.tup vs))) p vs := ⟨o, upd_same, d⟩
/-- what a new one gives -/
def NewT (H : Hp) (vs : List V) (Q : VK) : Prop := ∀ p o, o.dict = none → H p = none → Q (.ref p) (upd H p (.frz o (.tup vs)))
def tTupF (t : TA) : TE := fun σ H Q => t σ H fun vs H1 => vs.length ≤ sizeLine ∧ NewT H1 vs Q
section
variable {X : Cx} {es : List Expr} {t : TA} {pos : Pos}
theorem pe_tupF {x1} (h : PA X es t) : PE X (.Tuple es x1 pos) (tTupF t) := .mk fun pins s σ H Q I hq =>
  wpAny_Tuple_spliced (thn (h.run pos pins s σ H _ I hq) fun us s1 ⟨vs, H1, I1, r, z, q⟩ => ⟨by rw [← r.length]; exact z,
    .ref s1.heap.objs.size, _, I1.laid (t' := s1.toks) (o := .frz { cls := .type "tuple", data := .seq us.toArray } (.tup vs)) (fun b u e => Heap.get?_push_of_some _ e) (Nat.le_refl _)
      ⟨Heap.get?_push_size _ rfl, z, us, r, ⟨_, Heap.get?_push_size _ rfl, rfl, _, rfl⟩⟩, rfl, q _ _ rfl (I1.hok.fresh (Nat.le_refl _))⟩)
def rCatF (K : PySem.W.Frag) : R2 := fun x y H Q => ∃ a b vs ws, x = .ref a ∧ y = .ref b ∧ SqT K H a vs ∧ SqT K H b ws ∧ vs.length + ws.length ≤ sizeLine ∧
  (vs = [] → Q (.ref b) H) ∧ (vs ≠ [] → ws = [] → Q (.ref a) H) ∧ (vs ≠ [] → ws ≠ [] → NewT H (vs ++ ws) Q)
theorem op_catF : OpR X (binaryOp .Add) (rCatF X.K) := by
  intro pins s σ H x y v u Q I rx ry ⟨a, b, vs, ws, e1, e2, ha, hb, hz, q0, q1, q2⟩
  subst e1 e2
  cases rx
  cases ry
  obtain ⟨is, r1, p1, _⟩ := I.tuple ha
  obtain ⟨js, r2, p2, _⟩ := I.tuple hb
  by_cases hx : vs = []
  · subst hx
    cases r1
    exact cat_tup0 p1 p2 ⟨.ref b, H, I, rfl, q0 rfl⟩
  · refine HT.cat_tup p1 p2 (fun z => hx (r1.nil_iff.mp z)) (fun z => ⟨.ref a, H, I, rfl, q1 hx (r2.nil_iff.mp z)⟩) (fun z => ?_) (by rw [← r1.length, ← r2.length]; exact hz)
    exact ⟨.ref s.heap.objs.size, _, I.laid (t' := s.toks) (o := .frz { cls := .type "tuple", data := .seq (is ++ js).toArray } (.tup (vs ++ ws))) (fun b ob q => Heap.get?_push_of_some _ q) (Nat.le_refl _)
      ⟨Heap.get?_push_size _ rfl, by rw [List.length_append]; exact hz, _, r1.append r2, IsTup.new _ _⟩, rfl, q2 hx (fun w => z (r2.nil_iff.mpr w)) _ _ rfl (I.hok.fresh (Nat.le_refl _))⟩
def rSlF (K : PySem.W.Frag) : V → Option Int → Option Int → Hp → VK → Prop := fun x lo hi H Q => ∃ a vs, x = .ref a ∧ SqT K H a vs ∧
  (HT.sIx vs.length 0 lo = 0 ∧ HT.sIx vs.length vs.length hi = vs.length → Q (.ref a) H) ∧ (¬ (HT.sIx vs.length 0 lo = 0 ∧ HT.sIx vs.length vs.length hi = vs.length) → NewT H (cutV vs lo hi) Q)
theorem sl_tupF : SlR X (rSlF X.K) := by
  intro pins s σ H x v vl vu lo hi sl Q I rx hs pl pu ⟨a, vs, e, hx, q1, q2⟩
  subst e
  by_cases hw : HT.sIx vs.length 0 lo = 0 ∧ HT.sIx vs.length vs.length hi = vs.length
  · exact sl_tupA pins s σ H _ v vl vu lo hi sl Q I rx hs pl pu ⟨a, vs, rfl, hx, q1, fun w => absurd hw w⟩
  · cases rx
    obtain ⟨is, r, ht, hz⟩ := I.tuple hx
    have hlen : is.toArray.size = vs.length := by rw [List.size_toArray]; exact r.length.symm
    refine ⟨"tuple", _, PyProof.Rows.slot_tuple_getitem.lookup, ht.typeIs, HT.getItem_tuple_cut ht hs pl pu (by rw [hlen]; exact hw) ?_ (by rw [hlen]; exact hz)⟩
    rw [hlen]
    exact ⟨.ref s.heap.objs.size, _, I.laid (t' := s.toks) (o := .frz { cls := .type "tuple", data := .seq ((is.drop (HT.sIx vs.length 0 lo)).take (HT.sIx vs.length vs.length hi - HT.sIx vs.length 0 lo)).toArray } (.tup (cutV vs lo hi))) (fun b ob q => Heap.get?_push_of_some _ q) (Nat.le_refl _)
      ⟨Heap.get?_push_size _ rfl, Nat.le_trans (cutV_length vs lo hi) hz, _, (r.drop (HT.sIx vs.length 0 lo)).take (HT.sIx vs.length vs.length hi - HT.sIx vs.length 0 lo), IsTup.new _ _⟩, rfl, q2 hw _ _ rfl (I.hok.fresh (Nat.le_refl _))⟩
theorem call_tupleF : CallR X (.type "tuple") (fun xs H Q => ∃ p vs, xs = [.ref p] ∧ ((SqL X.K H p vs ∧ NewT H vs Q) ∨ (SqT X.K H p vs ∧ Q (.ref p) H))) := by
  intro pins s σ H xs us Q I r ⟨p, vs, e, h⟩
  subst e
  obtain ⟨u, e, rx⟩ := vals1 r
  subst e
  cases rx
  rcases h with ⟨hq, q⟩ | ⟨hq, q⟩
  · obtain ⟨is, r', pl, hz⟩ := I.list hq
    have hlen := r'.length
    refine call_tuple_list pl.isList (fun h' kp => ?_) (by simp only [List.size_toArray] <;> omega)
    have I1 : Inv X pins σ H { s with heap := h' } := I.kept (t' := s.toks) kp
    exact ⟨.ref h'.objs.size, _, I1.laid (t' := s.toks) (o := .frz { cls := .type "tuple", data := .seq is.toArray } (.tup vs)) (fun b o e => Heap.get?_push_of_some _ e) (Nat.le_refl _)
      ⟨Heap.get?_push_size _ rfl, hz, is, r', IsTup.new _ _⟩, rfl, q _ _ rfl (I1.hok.fresh (Nat.le_refl _))⟩
  · obtain ⟨is, r', pl, hz⟩ := I.tuple hq
    exact call_tuple_same pl ⟨.ref p, H, I, rfl, q⟩
end
end PM

/-! PM, part 2: how data stand in the abstract heap -/
namespace PM
open PySem L2
/-- the addresses of the numbered objects; those that no data may hold meanwhile -/
structure Z where
  a : List Addr
  b : List Addr
  k : PySem.W.Frag
structure EnvK where
  m : Str → Option Value
  K : PySem.W.Frag
/-- an object of the written part -/
def KL (K : PySem.W.Frag) (a : Addr) (xs : List V) : Prop := ∃ (o : Obj) (its : Array Value) (n : Nat), K.lookup a = some o ∧ o.cls = .type "list" ∧ o.dict = none ∧ o.data = .seq its n ∧ its.size ≤ sizeLine ∧ Vals xs its.toList
def Mk (u : HO) : Prop := (∀ o xs, u ≠ .frz o (.tup xs)) ∧ ∀ o xs, u ≠ .frz o (.lst xs)
def Z.no (z : Z) (x : Addr) : Prop := x ∉ z.a ∧ x ∉ z.b
section
variable (H : Hp) (ι : Z)
mutual
def RD : D → V → Prop
  | .non, v => v = .non
  | .bl b, v => v = .bl b
  | .int i, v => v = .int i
  | .str s, v => v = .str s ∧ s.length ≤ sizeLine
  | .tup ds, v => ∃ a vs, v = .ref a ∧ Tp H a vs ∧ ds.length ≤ sizeLine ∧ RDs ds vs
  | .lst ds, v => ∃ a vs, v = .ref a ∧ H a = some (.lst vs) ∧ ι.no a ∧ ds.length ≤ sizeLine ∧ RDs ds vs
  | .scr ds, v => ∃ a vs, v = .ref a ∧ ((∃ o, H a = some (.frz o (.lst vs))) ∨ KL ι.k a vs) ∧ ds.length ≤ sizeLine ∧ RDs ds vs
  | .dct ks ds, v => ∃ a vs, v = .ref a ∧ Rd H a (.dK (ks.zip vs)) ∧ ι.no a ∧ ks.length = ds.length ∧ ks.length ≤ sizeLine ∧ RDs ds vs
  | .ref n, v => ∃ a, v = .ref a ∧ ι.a[n]? = some a
def RDs : List D → List V → Prop
  | [], vs => vs = []
  | d :: ds, vs => ∃ v r, vs = v :: r ∧ RD d v ∧ RDs ds r
end
variable (mg : EnvK)
def RO (a : Addr) : MO → Prop
  | .lst ds => ∃ vs, H a = some (.lst vs) ∧ ds.length ≤ sizeLine ∧ RDs H ι ds vs
  | .dK ks ds => ∃ vs, H a = some (.dK (ks.zip vs)) ∧ ks.length = ds.length ∧ ks.length ≤ sizeLine ∧ RDs H ι ds vs
  | .dT ks ds => ∃ vs, H a = some (.dT (ks.zip vs)) ∧ ks.length = ds.length ∧ ks.length ≤ sizeLine ∧ RDs H ι ds vs
  | .ins c fs ds => ∃ C dx vs, mg.m c = some (.ref C) ∧ H a = some (.ins C dx (fs.zip vs)) ∧ fs.length = ds.length ∧ RDs H ι ds vs
structure Rep (S : Sto) : Prop where
  kk : ι.k = mg.K
  len : ι.a.length = S.length
  nd : ι.a.Nodup
  bt : ∀ x ∈ ι.b, x ∉ ι.a ∧ ∃ o, H x = some o ∧ Mk o
  obj : ∀ (n : Nat) (a : Addr) (o : MO), ι.a[n]? = some a → S[n]? = some o → RO H ι mg a o
def RX (c : Exc) (cls : Value) (dx : Option Addr) : Prop :=
  (∃ C, mg.m c.cls = some (.ref C) ∧ cls = .ref C) ∧ ((c.fs = [] ∧ c.ds = [] ∧ dx = none) ∨ ∃ d vs, dx = some d ∧ H d = some (.xd (c.fs.zip vs)) ∧ c.fs.length = c.ds.length ∧ RDs H ι c.ds vs)
structure RSt (δ : Loc) (σ : St) : Prop where
  len : δ.length = σ.length
  at' : ∀ (i : Nat) (d : D), δ[i]? = some (some d) → ∃ v, σ[i]? = some (some v) ∧ RD H ι d v
end

structure Lift (ι : Z) (H : Hp) (ι' : Z) (H' : Hp) : Prop where
  pre : ∀ (n : Nat) (a : Addr), ι.a[n]? = some a → ι'.a[n]? = some a
  tup : ∀ a xs, Tp H a xs → Tp H' a xs
  lst : ∀ a xs, ι.no a → H a = some (.lst xs) → H' a = some (.lst xs) ∧ ι'.no a
  scr : ∀ a o xs, H a = some (.frz o (.lst xs)) → H' a = some (.frz o (.lst xs))
  dct : ∀ a xs, ι.no a → Rd H a (.dK xs) → Rd H' a (.dK xs) ∧ ι'.no a
  kk : ι'.k = ι.k
theorem Lift.refl {ι H} : Lift ι H ι H := ⟨fun _ _ h => h, fun _ _ h => h, fun _ _ n h => ⟨h, n⟩, fun _ _ _ h => h, fun _ _ n h => ⟨h, n⟩, rfl⟩
theorem Lift.trans {ι ι1 ι2 H H1 H2} (a : Lift ι H ι1 H1) (b : Lift ι1 H1 ι2 H2) : Lift ι H ι2 H2 :=
  ⟨fun n x h => b.pre n x (a.pre n x h), fun x xs h => b.tup x xs (a.tup x xs h),
   fun x xs n h => let ⟨h1, n1⟩ := a.lst x xs n h; b.lst x xs n1 h1, fun x o xs h => b.scr x o xs (a.scr x o xs h), fun x xs n h => let ⟨h1, n1⟩ := a.dct x xs n h; b.dct x xs n1 h1, b.kk.trans a.kk⟩
structure Step (ι : Z) (H : Hp) (ι' : Z) (H' : Hp) : Prop where
  up : Lift ι H ι' H'
  bb : ι'.b = ι.b
  hid : ∀ x ∈ ι.b, ∀ o, H x = some o → H' x = some o
theorem Step.refl {ι H} : Step ι H ι H := ⟨.refl, rfl, fun _ _ _ h => h⟩
theorem Step.trans {ι ι1 ι2 H H1 H2} (a : Step ι H ι1 H1) (b : Step ι1 H1 ι2 H2) : Step ι H ι2 H2 := ⟨a.up.trans b.up, b.bb.trans a.bb, fun x hx o h => b.hid x (by rw [a.bb]; exact hx) o (a.hid x hx o h)⟩

section
variable {ι ι' : Z} {H H' : Hp} {mg : EnvK}
mutual
theorem RD.mono (s : Lift ι H ι' H') : ∀ (d : D) (v : V), RD H ι d v → RD H' ι' d v
  | .non, _, h => by simp only [RD] at h ⊢; exact h
  | .bl _, _, h => by simp only [RD] at h ⊢; exact h
  | .int _, _, h => by simp only [RD] at h ⊢; exact h
  | .str _, _, h => by simp only [RD] at h ⊢; exact h
  | .tup ds, _, h => by
    simp only [RD] at h ⊢
    obtain ⟨a, vs, e, h1, z, h2⟩ := h
    exact ⟨a, vs, e, s.tup a vs h1, z, RDs.mono s ds vs h2⟩
  | .lst ds, _, h => by
    simp only [RD] at h ⊢
    obtain ⟨a, vs, e, h1, n, z, h2⟩ := h
    obtain ⟨h1, n⟩ := s.lst a vs n h1
    exact ⟨a, vs, e, h1, n, z, RDs.mono s ds vs h2⟩
  | .scr ds, _, h => by
    simp only [RD] at h ⊢
    obtain ⟨a, vs, e, h1, z, h2⟩ := h
    refine ⟨a, vs, e, ?_, z, RDs.mono s ds vs h2⟩
    rcases h1 with ⟨o, h1⟩ | h1
    · exact .inl ⟨o, s.scr a o vs h1⟩
    · rw [s.kk]; exact .inr h1
  | .dct ks ds, _, h => by
    simp only [RD] at h ⊢
    obtain ⟨a, vs, e, h1, n, z, y, h2⟩ := h
    obtain ⟨h1, n⟩ := s.dct a _ n h1
    exact ⟨a, vs, e, h1, n, z, y, RDs.mono s ds vs h2⟩
  | .ref n, _, h => by
    simp only [RD] at h ⊢
    obtain ⟨a, e, h1⟩ := h
    exact ⟨a, e, s.pre n a h1⟩
theorem RDs.mono (s : Lift ι H ι' H') : ∀ (ds : List D) (vs : List V), RDs H ι ds vs → RDs H' ι' ds vs
  | [], _, h => by simp only [RDs] at h ⊢; exact h
  | d :: ds, _, h => by
    simp only [RDs] at h ⊢
    obtain ⟨v, r, e, h1, h2⟩ := h
    exact ⟨v, r, e, RD.mono s d v h1, RDs.mono s ds r h2⟩
end
theorem RSt.mono (s : Lift ι H ι' H') {δ : Loc} {σ : St} (h : RSt H ι δ σ) : RSt H' ι' δ σ :=
  ⟨h.len, fun i d e => let ⟨v, e', r⟩ := h.at' i d e; ⟨v, e', r.mono s⟩⟩
theorem RDs.length : ∀ {ds : List D} {vs : List V}, RDs H ι ds vs → ds.length = vs.length
  | [], _, h => by simp only [RDs] at h; subst h; rfl
  | d :: ds, _, h => by
    simp only [RDs] at h
    obtain ⟨v, r, e, h1, h2⟩ := h
    subst e
    simp [RDs.length h2]
theorem RDs.nil : RDs H ι [] [] := by simp only [RDs]
theorem RDs.cons {d v ds vs} (h1 : RD H ι d v) (h2 : RDs H ι ds vs) : RDs H ι (d :: ds) (v :: vs) := by
  simp only [RDs]; exact ⟨v, vs, rfl, h1, h2⟩
theorem RDs.app : ∀ {ds es : List D} {vs ws : List V}, RDs H ι ds vs → RDs H ι es ws → RDs H ι (ds ++ es) (vs ++ ws)
  | [], _, _, _, h, g => by simp only [RDs] at h; subst h; exact g
  | d :: ds, _, _, _, h, g => by
    simp only [RDs] at h
    obtain ⟨v, r, e, h1, h2⟩ := h
    subst e
    exact .cons h1 (RDs.app h2 g)
theorem RDs.get : ∀ {ds : List D} {vs : List V} {i : Nat} {d : D}, RDs H ι ds vs → ds[i]? = some d → ∃ v, vs[i]? = some v ∧ RD H ι d v
  | [], _, i, d, _, e => by simp at e
  | d :: ds, _, 0, d', h, e => by
    simp only [RDs] at h
    obtain ⟨v, r, e', h1, h2⟩ := h
    subst e'
    simp at e; subst e
    exact ⟨v, rfl, h1⟩
  | d :: ds, _, i + 1, d', h, e => by
    simp only [RDs] at h
    obtain ⟨v, r, e', h1, h2⟩ := h
    subst e'
    simpa using RDs.get h2 (by simpa using e)
theorem RDs.set : ∀ {ds : List D} {vs : List V} {i : Nat} {d : D} {v : V}, RDs H ι ds vs → RD H ι d v → RDs H ι (ds.set i d) (vs.set i v)
  | [], _, i, d, _, h, _ => by simp only [RDs] at h; subst h; exact .nil
  | d :: ds, _, 0, d', _, h, q => by
    simp only [RDs] at h
    obtain ⟨v, r, e', h1, h2⟩ := h
    subst e'
    exact .cons q h2
  | d :: ds, _, i + 1, d', _, h, q => by
    simp only [RDs] at h
    obtain ⟨v, r, e', h1, h2⟩ := h
    subst e'
    exact .cons h1 (RDs.set h2 q)
theorem RDs.drop : ∀ {ds : List D} {vs : List V} (n : Nat), RDs H ι ds vs → RDs H ι (ds.drop n) (vs.drop n)
  | _, _, 0, h => h
  | [], _, n + 1, h => by simp only [RDs] at h; subst h; exact .nil
  | d :: ds, _, n + 1, h => by
    simp only [RDs] at h
    obtain ⟨v, r, e', h1, h2⟩ := h
    subst e'
    exact RDs.drop n h2
theorem RDs.take : ∀ {ds : List D} {vs : List V} (n : Nat), RDs H ι ds vs → RDs H ι (ds.take n) (vs.take n)
  | _, _, 0, h => by simpa using RDs.nil
  | [], _, n + 1, h => by simp only [RDs] at h; subst h; exact .nil
  | d :: ds, _, n + 1, h => by
    simp only [RDs] at h
    obtain ⟨v, r, e', h1, h2⟩ := h
    subst e'
    exact .cons h1 (RDs.take n h2)

/-! ### allocation, writing -/
theorem rd_tracked {a : Addr} {u : HO} (h : Rd H a u) : ∃ o, H a = some o := by
  rcases h with h | ⟨o, h⟩
  · exact ⟨_, h⟩
  · exact ⟨_, h⟩
theorem rd_upd_ne {a p : Addr} {u o : HO} (h : Rd H a u) (n : a ≠ p) : Rd (upd H p o) a u := by
  rcases h with h | ⟨ob, h⟩
  · exact .inl (by rw [L2.upd_ne n]; exact h)
  · exact .inr ⟨ob, by rw [L2.upd_ne n]; exact h⟩
theorem ne_new {a p : Addr} {u : HO} (h : Rd H a u) (hp : H p = none) : a ≠ p := by
  rintro rfl
  obtain ⟨o, e⟩ := rd_tracked h
  rw [e] at hp; cases hp
theorem Step.new {p : Addr} {o : HO} (hp : H p = none) : Step ι H ι (upd H p o) :=
  ⟨⟨fun _ _ h => h, fun a xs h => h.up hp, fun a xs n h => ⟨by rw [upd_ne (ne_of_none h hp)]; exact h, n⟩, fun a o xs h => by rw [upd_ne (ne_of_none h hp)]; exact h, fun a xs n h => ⟨rd_upd_ne h (ne_new h hp), n⟩, rfl⟩, rfl, fun x _ o e => by rw [upd_ne (ne_of_none e hp)]; exact e⟩
abbrev Z.snoc (ι : Z) (p : Addr) : Z := ⟨ι.a ++ [p], ι.b, ι.k⟩
theorem Z.no_snoc {ι : Z} {a p : Addr} (n : ι.no a) (h : a ≠ p) : (ι.snoc p).no a := ⟨by simp [n.1, h], n.2⟩
theorem Step.newRef {p : Addr} {o : HO} (hp : H p = none) : Step ι H (ι.snoc p) (upd H p o) :=
  ⟨⟨fun n a h => by rw [List.getElem?_append_left (List.getElem?_eq_some_iff.mp h).1]; exact h, fun a xs h => h.up hp,
    fun a xs n h => ⟨by rw [upd_ne (ne_of_none h hp)]; exact h, Z.no_snoc n (ne_of_none h hp)⟩, fun a o xs h => by rw [upd_ne (ne_of_none h hp)]; exact h, fun a xs n h => ⟨rd_upd_ne h (ne_new h hp), Z.no_snoc n (ne_new h hp)⟩, rfl⟩, rfl, fun x _ o e => by rw [upd_ne (ne_of_none e hp)]; exact e⟩
theorem Lift.write {a : Addr} {o : HO} (ha : a ∈ ι.a ∨ a ∈ ι.b) (hm : ∀ u, H a = some u → Mk u) : Lift ι H ι (upd H a o) :=
  have ne : ∀ {b : Addr}, ι.no b → b ≠ a := fun n e => by
    subst e
    rcases ha with h | h
    · exact n.1 h
    · exact n.2 h
  ⟨fun _ _ h => h, fun b xs h => h.keep (by rintro rfl; obtain ⟨o, h, _⟩ := h; exact (hm _ h).1 _ _ rfl),
    fun b xs n h => ⟨by rw [upd_ne (ne n)]; exact h, n⟩, fun b o xs h => by rw [upd_ne (by rintro rfl; exact (hm _ h).2 _ _ rfl)]; exact h, fun b xs n h => ⟨rd_upd_ne h (ne n), n⟩, rfl⟩
theorem RO.mono (s : Lift ι H ι' H') {a : Addr} (h' : H' a = H a) : ∀ {o : MO}, RO H ι mg a o → RO H' ι' mg a o
  | .lst ds, ⟨vs, e, z, r⟩ => ⟨vs, h'.trans e, z, r.mono s⟩
  | .dK ks ds, ⟨vs, e, z, y, r⟩ => ⟨vs, h'.trans e, z, y, r.mono s⟩
  | .dT ks ds, ⟨vs, e, z, y, r⟩ => ⟨vs, h'.trans e, z, y, r.mono s⟩
  | .ins c fs ds, ⟨C, dx, vs, m, e, z, r⟩ => ⟨C, dx, vs, m, h'.trans e, z, r.mono s⟩
theorem RO.some {a : Addr} : ∀ {o : MO}, RO H ι mg a o → ∃ u, H a = Option.some u ∧ Mk u
  | .lst ds, ⟨vs, e, z, r⟩ => ⟨_, e, .intro (fun _ _ q => nomatch q) (fun _ _ q => nomatch q)⟩
  | .dK ks ds, ⟨vs, e, z, y, r⟩ => ⟨_, e, .intro (fun _ _ q => nomatch q) (fun _ _ q => nomatch q)⟩
  | .dT ks ds, ⟨vs, e, z, y, r⟩ => ⟨_, e, .intro (fun _ _ q => nomatch q) (fun _ _ q => nomatch q)⟩
  | .ins c fs ds, ⟨C, dx, vs, m, e, z, r⟩ => ⟨_, e, .intro (fun _ _ q => nomatch q) (fun _ _ q => nomatch q)⟩
theorem Rep.has {S : Sto} (r : Rep H ι mg S) {n : Nat} {a : Addr} (h : ι.a[n]? = some a) : ∃ o, S[n]? = some o ∧ RO H ι mg a o := by
  have hn : n < S.length := by rw [← r.len]; exact (List.getElem?_eq_some_iff.mp h).1
  exact ⟨S[n], List.getElem?_eq_getElem hn, r.obj n a _ h (List.getElem?_eq_getElem hn)⟩
theorem Rep.addr {S : Sto} (r : Rep H ι mg S) {n : Nat} {o : MO} (h : S[n]? = some o) : ∃ a, ι.a[n]? = some a ∧ RO H ι mg a o := by
  have hn : n < ι.a.length := by rw [r.len]; exact (List.getElem?_eq_some_iff.mp h).1
  exact ⟨ι.a[n], List.getElem?_eq_getElem hn, r.obj n _ _ (List.getElem?_eq_getElem hn) h⟩
theorem Rep.track {S : Sto} (r : Rep H ι mg S) {a : Addr} (h : a ∈ ι.a) : ∃ u, H a = some u ∧ Mk u := by
  obtain ⟨n, hn⟩ := List.getElem?_of_mem h
  obtain ⟨o, _, ro⟩ := r.has hn
  exact ro.some
theorem Rep.fresh {S : Sto} (r : Rep H ι mg S) {p : Addr} (hp : H p = none) : ι.no p := by
  refine ⟨fun h => ?_, fun h => ?_⟩
  · obtain ⟨u, e, _⟩ := r.track h
    rw [hp] at e; cases e
  · obtain ⟨_, u, e, _⟩ := r.bt p h
    rw [hp] at e; cases e
theorem Rep.new {S : Sto} (r : Rep H ι mg S) {p : Addr} {o : HO} (hp : H p = none) : Rep (upd H p o) ι mg S :=
  ⟨r.kk, r.len, r.nd, fun x hx => ⟨(r.bt x hx).1, let ⟨u, e, q⟩ := (r.bt x hx).2; ⟨u, by rw [L2.upd_ne (ne_of_none e hp)]; exact e, q⟩⟩,
    fun n a m h1 h2 => (r.obj n a m h1 h2).mono (Step.new hp).up (L2.upd_ne (by rintro rfl; exact (r.fresh hp).1 (List.mem_of_getElem? h1)))⟩
theorem Rep.newRef {S : Sto} (r : Rep H ι mg S) {p : Addr} {o : HO} {m : MO} (hp : H p = none) (ho : RO (upd H p o) (ι.snoc p) mg p m) : Rep (upd H p o) (ι.snoc p) mg (S ++ [m]) := by
  refine ⟨r.kk, by simp [r.len], ?_, fun x hx => ?_, fun n a m' h1 h2 => ?_⟩
  · show (ι.a ++ [p]).Nodup
    rw [List.nodup_append]
    refine ⟨r.nd, by simp, fun a ha b hb => ?_⟩
    simp at hb; subst hb
    rintro rfl; exact (r.fresh hp).1 ha
  · obtain ⟨n, u, e, q⟩ := r.bt x hx
    have ne : x ≠ p := ne_of_none e hp
    exact ⟨by simp [n, ne], u, by rw [L2.upd_ne ne]; exact e, q⟩
  · have k1 : (ι.a ++ [p])[n]? = some a := h1
    clear h1
    by_cases hn : n < ι.a.length
    · rw [List.getElem?_append_left hn] at k1
      rw [List.getElem?_append_left (by rw [← r.len]; exact hn)] at h2
      exact (r.obj n a m' k1 h2).mono (Step.newRef hp).up (L2.upd_ne (by rintro rfl; exact (r.fresh hp).1 (List.mem_of_getElem? k1)))
    · have hn' : ι.a.length ≤ n := Nat.le_of_not_lt hn
      rw [List.getElem?_append_right hn'] at k1
      rw [List.getElem?_append_right (by rw [← r.len]; exact hn')] at h2
      have e : n - ι.a.length = 0 := by
        have := (List.getElem?_eq_some_iff.mp k1).1
        simp at this; omega
      rw [e] at k1; rw [← r.len, e] at h2
      simp at k1 h2; subst k1 h2
      exact ho
theorem Rep.write {S : Sto} (r : Rep H ι mg S) {n : Nat} {a : Addr} {o : HO} {m : MO} (hn : ι.a[n]? = some a) (nt : Mk o) (ho : RO (upd H a o) ι mg a m) : Rep (upd H a o) ι mg (S.set n m) ∧ Step ι H ι (upd H a o) := by
  have ha : a ∈ ι.a := List.mem_of_getElem? hn
  have st : Step ι H ι (upd H a o) := ⟨Lift.write (.inl ha) (fun u e => by
    obtain ⟨u', e', q⟩ := r.track ha
    rw [e] at e'; cases e'; exact q), rfl, fun x hx u e => by rw [L2.upd_ne (by rintro rfl; exact (r.bt x hx).1 ha)]; exact e⟩
  refine ⟨⟨r.kk, by simpa using r.len, r.nd, fun x hx => ?_, fun k b m' h1 h2 => ?_⟩, st⟩
  · obtain ⟨n, u, e, q⟩ := r.bt x hx
    exact ⟨n, u, by rw [L2.upd_ne (by rintro rfl; exact n ha)]; exact e, q⟩
  by_cases hk : n = k
  · subst hk
    rw [hn] at h1; cases h1
    have hl : n < S.length := by rw [← r.len]; exact (List.getElem?_eq_some_iff.mp hn).1
    rw [List.getElem?_set_self hl] at h2; cases h2
    exact ho
  · rw [List.getElem?_set_ne hk] at h2
    refine (r.obj k b m' h1 h2).mono st.up (L2.upd_ne ?_)
    rintro rfl
    obtain ⟨l1, e1⟩ := List.getElem?_eq_some_iff.mp hn
    obtain ⟨l2, e2⟩ := List.getElem?_eq_some_iff.mp h1
    exact hk ((List.getElem_inj r.nd).mp (e1.trans e2.symm))
/-- a hidden object is laid, written, told -/
abbrev Z.hide (ι : Z) (p : Addr) : Z := ⟨ι.a, p :: ι.b, ι.k⟩
theorem Lift.hide {p : Addr} {o : HO} (hp : H p = none) : Lift ι H (ι.hide p) (upd H p o) :=
  ⟨fun _ _ h => h, fun a xs h => h.up hp, fun a xs n h => ⟨by rw [upd_ne (ne_of_none h hp)]; exact h, n.1, by simp [n.2, ne_of_none h hp]⟩,
    fun a o xs h => by rw [upd_ne (ne_of_none h hp)]; exact h, fun a xs n h => ⟨rd_upd_ne h (ne_new h hp), n.1, by simp [n.2, ne_new h hp]⟩, rfl⟩
theorem Rep.hide {S : Sto} (r : Rep H ι mg S) {p : Addr} {o : HO} (hp : H p = none) (nt : Mk o) : Rep (upd H p o) (ι.hide p) mg S :=
  ⟨r.kk, r.len, r.nd, fun x hx => by
      rcases List.mem_cons.mp hx with e | hx
      · subst e; exact ⟨(r.fresh hp).1, o, upd_same, nt⟩
      · obtain ⟨n, u, e, q⟩ := r.bt x hx
        exact ⟨n, u, by rw [L2.upd_ne (ne_of_none e hp)]; exact e, q⟩,
    fun n a m h1 h2 => (r.obj n a m h1 h2).mono (Lift.hide hp) (L2.upd_ne (by rintro rfl; exact (r.fresh hp).1 (List.mem_of_getElem? (show ι.a[n]? = some _ from h1))))⟩
theorem Rep.writeHid {S : Sto} (r : Rep H ι mg S) {p : Addr} {o : HO} (hp : p ∈ ι.b) (nt : Mk o) : Rep (upd H p o) ι mg S ∧ Lift ι H ι (upd H p o) := by
  obtain ⟨np, u, e, q⟩ := r.bt p hp
  have st : Lift ι H ι (upd H p o) := Lift.write (.inr hp) (fun u' e' => by rw [e] at e'; cases e'; exact q)
  refine ⟨⟨r.kk, r.len, r.nd, fun x hx => ?_, fun k b m' h1 h2 => (r.obj k b m' h1 h2).mono st (L2.upd_ne (by rintro rfl; exact np (List.mem_of_getElem? h1)))⟩, st⟩
  obtain ⟨n, u, e, q⟩ := r.bt x hx
  by_cases hx' : x = p
  · subst hx'; exact ⟨n, o, upd_same, nt⟩
  · exact ⟨n, u, by rw [L2.upd_ne hx']; exact e, q⟩
theorem Lift.show {p : Addr} {l : List Addr} (h : ι.b = p :: l) : Lift ι H ⟨ι.a, l, ι.k⟩ H :=
  ⟨fun _ _ h => h, fun _ _ h => h, fun a xs n e => ⟨e, n.1, fun q => n.2 (by rw [h]; exact List.mem_cons_of_mem _ q)⟩, fun _ _ _ e => e,
    fun a xs n e => ⟨e, n.1, fun q => n.2 (by rw [h]; exact List.mem_cons_of_mem _ q)⟩, rfl⟩
theorem Rep.show {S : Sto} (r : Rep H ι mg S) {p : Addr} {l : List Addr} (h : ι.b = p :: l) : Rep H ⟨ι.a, l, ι.k⟩ mg S :=
  ⟨r.kk, r.len, r.nd, fun x hx => r.bt x (by rw [h]; exact List.mem_cons_of_mem _ hx), fun n a m h1 h2 => (r.obj n a m h1 h2).mono (Lift.show h) rfl⟩
end
end PM

/-! PM, part 3: judgements -/
namespace PM
open PySem PySem.Spec L2
abbrev _root_.L2.Cx.ek (X : Cx) : EnvK := ⟨X.mg, X.K⟩
abbrev wat (W : WX) (σ : St) : XK := fun c d H => W c d σ H
abbrev Rel (α β : Type) := Hp → Z → α → β → Prop
def REq {α : Type} : Rel α α := fun _ _ a b => b = a
section
variable {mg : EnvK} {α β γ ε : Type}
def G (mg : EnvK) (W : XK) (ι : Z) (H : Hp) (Rl : Rel α β) (r : R α) (Q : β → Hp → Prop) : Prop := match r with
  | .ok a S' => ∀ ι' H' b, Step ι H ι' H' → Rep H' ι' mg S' → Rl H' ι' a b → Q b H'
  | .exc c S' => ∀ ι' H' cls dx, Step ι H ι' H' → Rep H' ι' mg S' → RX H' ι' mg c cls dx → W cls dx H'
  | .stuck => False
variable {W : XK} {ι ι' : Z} {H H' : Hp} {Rl : Rel α β} {r : R α} {Q Q' : β → Hp → Prop}
theorem G.imp (h : G mg W ι H Rl r Q) (q : ∀ b H', Q b H' → Q' b H') : G mg W ι H Rl r Q' := by
  cases r with
  | ok a S => exact fun ι' H' b st rp rl => q _ _ (h ι' H' b st rp rl)
  | exc c S => exact h
  | stuck => exact h
theorem G.step (st : Step ι H ι' H') (h : G mg W ι H Rl r Q) : G mg W ι' H' Rl r Q := by
  cases r with
  | ok a S => exact fun ι2 H2 b s2 rp rl => h ι2 H2 b (st.trans s2) rp rl
  | exc c S => exact fun ι2 H2 b d s2 rp rl => h ι2 H2 b d (st.trans s2) rp rl
  | stuck => exact h
theorem G.bind {Rl2 : Rel γ ε} {k : α → Sto → R γ} {Q2 : ε → Hp → Prop} (h : G mg W ι H Rl2 (r.bind k) Q2) :
    G mg W ι H Rl r (fun b H1 => ∃ ι1 S1 a, Step ι H ι1 H1 ∧ Rep H1 ι1 mg S1 ∧ Rl H1 ι1 a b ∧ G mg W ι1 H1 Rl2 (k a S1) Q2) := by
  cases r with
  | ok a S => exact fun ι' H' b st rp rl => ⟨ι', S, a, st, rp, rl, G.step st h⟩
  | exc c S => exact h
  | stuck => exact h
theorem G.here {a : α} {b : β} {S : Sto} (h : G mg W ι H Rl (.ok a S) Q) (rp : Rep H ι mg S) (rl : Rl H ι a b) : Q b H := h ι H b .refl rp rl
theorem G.at {a : α} {b : β} {S : Sto} (h : G mg W ι H Rl (.ok a S) Q) (st : Step ι H ι' H') (rp : Rep H' ι' mg S) (rl : Rl H' ι' a b) : Q b H' := h ι' H' b st rp rl
end

def tD {α β : Type} (mg : EnvK) (W : WX) (Rl : Rel α β) (m : Loc → Sto → R α) : St → Hp → (β → Hp → Prop) → Prop := fun σ H Q =>
  ∃ ι S δ, Rep H ι mg S ∧ RSt H ι δ σ ∧ G mg (wat W σ) ι H Rl (m δ S) Q
abbrev tDE (mg : EnvK) (W : WX) (m : Em) : TE := tD mg W RD m
def GS (mg : EnvK) (W : WX) (ι : Z) (H : Hp) (r : RS) (D : Ends) : Prop := match r with
  | .nx δ S => ∀ ι' H' σ', Step ι H ι' H' → Rep H' ι' mg S → RSt H' ι' δ σ' → D.nx σ' H'
  | .bk δ S => ∀ ι' H' σ', Step ι H ι' H' → Rep H' ι' mg S → RSt H' ι' δ σ' → D.bk σ' H'
  | .ct δ S => ∀ ι' H' σ', Step ι H ι' H' → Rep H' ι' mg S → RSt H' ι' δ σ' → D.ct σ' H'
  | .rt d S => ∀ ι' H' v, Step ι H ι' H' → Rep H' ι' mg S → RD H' ι' d v → D.rt v H'
  | .exc c δ S => ∀ ι' H' σ' cls dx, Step ι H ι' H' → Rep H' ι' mg S → RSt H' ι' δ σ' → RX H' ι' mg c cls dx → W cls dx σ' H'
  | .stuck => False
section
variable {mg : EnvK} {W : WX} {ι ι' : Z} {H H' : Hp} {r : RS} {D D' : Ends}
theorem GS.step (st : Step ι H ι' H') (h : GS mg W ι H r D) : GS mg W ι' H' r D := by
  cases r with
  | nx δ S => exact fun ι2 H2 b s2 rp rl => h ι2 H2 b (st.trans s2) rp rl
  | bk δ S => exact fun ι2 H2 b s2 rp rl => h ι2 H2 b (st.trans s2) rp rl
  | ct δ S => exact fun ι2 H2 b s2 rp rl => h ι2 H2 b (st.trans s2) rp rl
  | rt d S => exact fun ι2 H2 b s2 rp rl => h ι2 H2 b (st.trans s2) rp rl
  | exc c δ S => exact fun ι2 H2 b d e s2 rp rl => h ι2 H2 b d e (st.trans s2) rp rl
  | stuck => exact h
theorem GS.seq {k : Sm} (h : GS mg W ι H (r.seq k) D) : GS mg W ι H r { D with nx := fun σ1 H1 => ∃ ι1 S1 δ1, Step ι H ι1 H1 ∧ Rep H1 ι1 mg S1 ∧ RSt H1 ι1 δ1 σ1 ∧ GS mg W ι1 H1 (k δ1 S1) D } := by
  cases r with
  | nx δ S => exact fun ι2 H2 b s2 rp rl => ⟨ι2, S, δ, s2, rp, rl, GS.step s2 h⟩
  | bk δ S => exact h
  | ct δ S => exact h
  | rt d S => exact h
  | exc c δ S => exact h
  | stuck => exact h
theorem GS.into {α β : Type} {Rl : Rel α β} {a : R α} {δ : Loc} {σ : St} {k : α → Sto → RS} (rs : RSt H ι δ σ) (h : GS mg W ι H (a.into δ k) D) :
    G mg (wat W σ) ι H Rl a (fun b H1 => ∃ ι1 S1 x, Step ι H ι1 H1 ∧ Rep H1 ι1 mg S1 ∧ Rl H1 ι1 x b ∧ GS mg W ι1 H1 (k x S1) D) := by
  cases a with
  | ok x S => exact fun ι' H' b st rp rl => ⟨ι', S, x, st, rp, rl, GS.step st h⟩
  | exc c S => exact fun ι' H' b d st rp rx => h ι' H' σ b d st rp (rs.mono st.up) rx
  | stuck => exact h
end
def tDS (mg : EnvK) (W : WX) (m : Sm) : TS := fun D σ H => ∃ ι S δ, Rep H ι mg S ∧ RSt H ι δ σ ∧ GS mg W ι H (m δ S) D

section
variable (X : Cx) (W : WX)
def DE (e : Expr) (m : Em) : Prop := PE X e (tDE X.ek W m)
def DT (e : Expr) (m : Tm) : Prop := PT X e (tD X.ek W REq m)
def DW (e : Expr) (m : Tm) : Prop := PW X e (tD X.ek W REq m)
def DA (es : List Expr) (m : Am) : Prop := PA X es (tD X.ek W RDs m)
def DS (st : Stmt) (m : Sm) : Prop := PS X st (tDS X.ek W m)
def DSs (sts : List Stmt) (m : Sm) : Prop := PSs X sts (tDS X.ek W m)
/-- a target: the value is at hand -/
def tDG (mg : EnvK) (W : WX) (g : Gm) : TG := fun v σ H Q => ∃ ι S δ d, Rep H ι mg S ∧ RSt H ι δ σ ∧ RD H ι d v ∧ G mg (wat W σ) ι H RSt (g d δ S) Q
def DG (tg : Expr) (g : Gm) : Prop := PG X tg (tDG X.ek W g)
end
theorem pe_imp {X : Cx} {e : Expr} {t t' : TE} (h : PE X e t) (i : ∀ σ H Q, t' σ H Q → t σ H Q) : PE X e t' := ⟨fun pins s σ H Q I q => h.run pins s σ H Q I (i _ _ _ q)⟩
theorem pt_imp {X : Cx} {e : Expr} {t t' : TT} (h : PT X e t) (i : ∀ σ H Q, t' σ H Q → t σ H Q) : PT X e t' := ⟨fun pins s σ H Q I q => h.run pins s σ H Q I (i _ _ _ q)⟩
theorem pw_imp {X : Cx} {e : Expr} {t t' : TT} (h : PW X e t) (i : ∀ σ H Q, t' σ H Q → t σ H Q) : PW X e t' := ⟨fun w pins s σ H Q I q => h.run w pins s σ H Q I (i _ _ _ q)⟩
theorem pa_imp {X : Cx} {e : List Expr} {t t' : TA} (h : PA X e t) (i : ∀ σ H Q, t' σ H Q → t σ H Q) : PA X e t' := ⟨fun p pins s σ H Q I q => h.run p pins s σ H Q I (i _ _ _ q)⟩
theorem ps_imp {X : Cx} {e : Stmt} {t t' : TS} (h : PS X e t) (i : ∀ D σ H, t' D σ H → t D σ H) : PS X e t' := ⟨fun pins s σ H Q I q => h.run pins s σ H Q I (i _ _ _ q)⟩
theorem pss_imp {X : Cx} {e : List Stmt} {t t' : TS} (h : PSs X e t) (i : ∀ D σ H, t' D σ H → t D σ H) : PSs X e t' := ⟨fun pins s σ H Q I q => h.run pins s σ H Q I (i _ _ _ q)⟩

section
variable {X : Cx} {W : WX} {a b c e : Expr} {es : List Expr} {pos p p2 : Pos} {ma mb mc : Em} {am : Am} {ta tb : Tm}
/-! ### names, constants -/
theorem de_var {i : Nat} {x : Str} (h : PE X (.Name x pos) (tVar i)) : DE X W (.Name x pos) (mV i) := pe_imp h fun σ H Q ⟨ι, S, δ, rp, rs, g⟩ => by
  unfold mV at g
  split at g
  · rename_i d hd
    obtain ⟨v, e, r⟩ := rs.at' i d hd
    exact ⟨v, e, g.here rp r⟩
  · exact g.elim
theorem de_const {d : D} {v : V} (h : PE X e (tC v)) (r : ∀ H ι, RD H ι d v) : DE X W e (mC d) := pe_imp h fun σ H Q ⟨ι, S, δ, rp, rs, g⟩ => G.here (b := v) g rp (r _ _)
theorem de_int {i : Int} {j} : DE X W (.Constant (.int i) j pos) (mC (.int i)) := de_const pe_int fun _ _ => by simp only [RD]
theorem de_bl {i : Bool} {j} : DE X W (.Constant (.bool i) j pos) (mC (.bl i)) := de_const pe_bl fun _ _ => by simp only [RD]
theorem de_non {j} : DE X W (.Constant .none j pos) (mC .non) := de_const pe_non fun _ _ => by simp only [RD]
theorem de_str {x : Str} {j} (h : x.length ≤ sizeLine) : DE X W (.Constant (.str x) j pos) (mC (.str x)) := de_const pe_str fun _ _ => by simp only [RD]; exact ⟨trivial, h⟩

/-! ### arguments, displays -/
theorem da_nil : DA X W [] mNil := pa_imp pa_nil fun σ H Q ⟨ι, S, δ, rp, rs, g⟩ => g.here rp RDs.nil
theorem da_cons (ha : DE X W e ma) (hr : DA X W es am) (hs : starEach (e :: es) X.env = (false, eval e X.env) :: starEach es X.env := by rfl) : DA X W (e :: es) (mCons ma am) :=
  pa_imp (pa_cons ha hr hs) fun σ H Q ⟨ι, S, δ, rp, rs, g⟩ => ⟨ι, S, δ, rp, rs, (G.bind g).imp fun v H1 ⟨ι1, S1, d, st, rp1, rd, g1⟩ =>
    ⟨ι1, S1, δ, rp1, rs.mono st.up, (G.bind g1).imp fun vs H2 ⟨ι2, S2, ds, st2, rp2, rds, g2⟩ => g2.here rp2 (.cons (rd.mono st2.up) rds)⟩⟩
end
def newTup (ds : List D) (S : Sto) : R D := if ds.length ≤ sizeLine then .ok (.tup ds) S else .stuck
def newLst (ds : List D) (S : Sto) : R D := if ds.length ≤ sizeLine then .ok (.lst ds) S else .stuck
def newRef (ds : List D) (S : Sto) : R D := if ds.length ≤ sizeLine then .ok (.ref S.length) (S ++ [.lst ds]) else .stuck
section
variable {mg : EnvK} {W : XK} {ι : Z} {H : Hp} {Q : V → Hp → Prop} {ds : List D} {vs : List V} {S : Sto}
/-- the ways a new list or tuple is taken into the data -/
theorem g_newTup (g : G mg W ι H RD (newTup ds S) Q) (rp : Rep H ι mg S) (r : RDs H ι ds vs) : vs.length ≤ sizeLine ∧ NewT H vs Q := by
  unfold newTup at g
  split at g
  · rename_i h
    refine ⟨by rw [← r.length]; exact h, fun p o d hp => g.at (Step.new hp) (rp.new hp) ?_⟩
    simp only [RD]
    exact ⟨p, vs, rfl, .mk d, h, r.mono (Step.new hp).up⟩
  · exact g.elim
theorem rd_newLst {p : Addr} (rp : Rep H ι mg S) (r : RDs H ι ds vs) (h : ds.length ≤ sizeLine) (hp : H p = none) : RD (upd H p (.lst vs)) ι (.lst ds) (.ref p) := by
  simp only [RD]
  exact ⟨p, vs, rfl, upd_same, rp.fresh hp, h, r.mono (Step.new hp).up⟩
theorem g_newLst (g : G mg W ι H RD (newLst ds S) Q) (rp : Rep H ι mg S) (r : RDs H ι ds vs) : vs.length ≤ sizeLine ∧ ∀ p, H p = none → Q (.ref p) (upd H p (.lst vs)) := by
  unfold newLst at g
  split at g
  · rename_i h
    exact ⟨by rw [← r.length]; exact h, fun p hp => g.at (Step.new hp) (rp.new hp) (rd_newLst rp r h hp)⟩
  · exact g.elim
theorem rep_newRef {p : Addr} {u : HO} {m : MO} (rp : Rep H ι mg S) (hp : H p = none) (ho : RO (upd H p u) (ι.snoc p) mg p m) : Rep (upd H p u) (ι.snoc p) mg (S ++ [m]) ∧ RD (upd H p u) (ι.snoc p) (.ref S.length) (.ref p) := by
  refine ⟨rp.newRef hp ho, ?_⟩
  simp only [RD]
  exact ⟨p, rfl, by rw [← rp.len]; simp⟩
theorem g_newRef (g : G mg W ι H RD (newRef ds S) Q) (rp : Rep H ι mg S) (r : RDs H ι ds vs) : vs.length ≤ sizeLine ∧ ∀ p, H p = none → Q (.ref p) (upd H p (.lst vs)) := by
  unfold newRef at g
  split at g
  · rename_i h
    refine ⟨by rw [← r.length]; exact h, fun p hp => ?_⟩
    have q := rep_newRef (m := .lst ds) (u := .lst vs) rp hp ⟨vs, upd_same, h, r.mono (Step.newRef hp).up⟩
    exact g.at (Step.newRef hp) q.1 q.2
  · exact g.elim
end
section
variable {X : Cx} {W : WX} {a b c e : Expr} {es : List Expr} {pos p p2 : Pos} {ma mb mc : Em} {am : Am} {ta tb : Tm}
theorem de_tup {x1} (h : DA X W es am) : DE X W (.Tuple es x1 pos) (mApp newTup am) := pe_imp (pe_tupF h) fun σ H Q ⟨ι, S, δ, rp, rs, g⟩ =>
  ⟨ι, S, δ, rp, rs, (G.bind g).imp fun vs H1 ⟨ι1, S1, ds, st, rp1, rd, g1⟩ => g_newTup g1 rp1 rd⟩
theorem de_lst (h : DA X W es am) : DE X W (.List es pos) (mApp newLst am) := pe_imp (pe_lst h) fun σ H Q ⟨ι, S, δ, rp, rs, g⟩ =>
  ⟨ι, S, δ, rp, rs, (G.bind g).imp fun vs H1 ⟨ι1, S1, ds, st, rp1, rd, g1⟩ => g_newLst g1 rp1 rd⟩
theorem de_lstR (h : DA X W es am) : DE X W (.List es pos) (mApp newRef am) := pe_imp (pe_lst h) fun σ H Q ⟨ι, S, δ, rp, rs, g⟩ =>
  ⟨ι, S, δ, rp, rs, (G.bind g).imp fun vs H1 ⟨ι1, S1, ds, st, rp1, rd, g1⟩ => g_newRef g1 rp1 rd⟩

/-! ### operators, by values -/
/-- f keeps the rule op of data -/
def OpD (X : Cx) (f : Value → Value → Sem Value) (op : D → D → Sto → R D) : Prop :=
  ∃ r : R2, OpR X f r ∧ ∀ (W : XK) (ι : Z) (S : Sto) (H : Hp) (x y : V) (dx dy : D) (Q : VK), Rep H ι X.ek S → RD H ι dx x → RD H ι dy y → G X.ek W ι H RD (op dx dy S) Q → r x y H Q
theorem de_opR {r : R2} {op : D → D → Sto → R D} (k : ∀ (W : XK) (ι : Z) (S : Sto) (H : Hp) (x y : V) (dx dy : D) (Q : VK), Rep H ι X.ek S → RD H ι dx x → RD H ι dy y → G X.ek W ι H RD (op dx dy S) Q → r x y H Q) {σ : St} {H : Hp} {Q : VK}
    (h : tDE X.ek W (mB op ma mb) σ H Q) : tOp r (tDE X.ek W ma) (tDE X.ek W mb) σ H Q := by
  obtain ⟨ι, S, δ, rp, rs, g⟩ := h
  exact ⟨ι, S, δ, rp, rs, (G.bind g).imp fun v H1 ⟨ι1, S1, d, st, rp1, rd, g1⟩ =>
    ⟨ι1, S1, δ, rp1, rs.mono st.up, (G.bind g1).imp fun v2 H2 ⟨ι2, S2, d2, st2, rp2, rd2, g2⟩ => k _ ι2 S2 H2 v v2 d d2 Q rp2 (rd.mono st2.up) rd2 g2⟩⟩
theorem de_bin {op : Operator} {f : D → D → Sto → R D} (ho : OpD X (binaryOp op) f) (ha : DE X W a ma) (hb : DE X W b mb) : DE X W (.BinOp a op b pos) (mB f ma mb) := by
  obtain ⟨r, hr, k⟩ := ho
  exact pe_imp (pe_op hr ha hb) fun σ H Q h => de_opR k h
theorem de_cmp {op : CmpOp} {f : D → D → Sto → R D} (ho : OpD X (compareOp op) f) (ha : DE X W a ma) (hb : DE X W b mb) (hm : behindInMarks op b = false) : DE X W (.Compare a [op] [b] pos) (mB f ma mb) := by
  obtain ⟨r, hr, k⟩ := ho
  exact pe_imp (pe_cmpR hr ha hb hm) fun σ H Q h => de_opR k h
theorem rd_bl {H : Hp} {ι : Z} {d : D} {k : Bool} (h : RD H ι (.bl k) v) : v = .bl k := by simpa only [RD] using h
/-- a value of truth as a test -/
theorem t_of {m : Em} {σ : St} {H : Hp} {Q : Bool → Hp → Prop} (h : tD X.ek W REq (mT m) σ H Q) : tDE X.ek W m σ H fun x H' => ∃ k, x = .bl k ∧ Q k H' := by
  obtain ⟨ι, S, δ, rp, rs, g⟩ := h
  refine ⟨ι, S, δ, rp, rs, (G.bind g).imp fun v H1 ⟨ι1, S1, d, st, rp1, rd, g1⟩ => ?_⟩
  cases d with
  | bl k => exact ⟨k, by simpa only [RD] using rd, g1.here rp1 rfl⟩
  | _ => exact g1.elim
theorem dt_cmp {op : CmpOp} {f : D → D → Sto → R D} (ho : OpD X (compareOp op) f) (ha : DE X W a ma) (hb : DE X W b mb) (hm : behindInMarks op b = false) : DT X W (.Compare a [op] [b] pos) (mT (mB f ma mb)) := by
  obtain ⟨r, hr, k⟩ := ho
  refine pt_imp (pt_cmpR hr ha hb hm) fun σ H Q h => ?_
  exact de_opR (Q := fun x H' => ∃ k, x = .bl k ∧ Q k H') k (t_of h)
theorem dt_val (h : DE X W e ma) (he : ∀ whole, isTrue e X.env whole = (do let v ← whole; standAt e.pos; holding [v] (truthy v)) := by intro _; rfl) : DT X W e (mT ma) :=
  pt_imp (pt_val h he) fun σ H Q q => t_of q
/-! ### tests -/
theorem t_bind {α β γ ε : Type} {mg : EnvK} {W : WX} {Rl : Rel α β} {Rl2 : Rel γ ε} {m : Loc → Sto → R α} {k : Loc → α → Sto → R γ} {σ : St} {H : Hp} {Q : ε → Hp → Prop} {T : β → Hp → Prop}
    (h : tD mg W Rl2 (fun δ S => (m δ S).bind (k δ)) σ H Q) (f : ∀ ι S δ a b H', Rep H' ι mg S → RSt H' ι δ σ → Rl H' ι a b → G mg (wat W σ) ι H' Rl2 (k δ a S) Q → T b H') : tD mg W Rl m σ H T := by
  obtain ⟨ι, S, δ, rp, rs, g⟩ := h
  exact ⟨ι, S, δ, rp, rs, (G.bind g).imp fun v H1 ⟨ι1, S1, d, st, rp1, rd, g1⟩ => f ι1 S1 δ d v H1 rp1 (rs.mono st.up) rd g1⟩
theorem dw_and1 (ha : DT X W a ta) : DW X W (.BoolOp .And [a] pos) ta := pw_and1 ha
theorem dw_or1 (ha : DT X W a ta) : DW X W (.BoolOp .Or [a] pos) ta := pw_or1 ha
theorem dw_and {rest : List Expr} (ha : DT X W a ta) (hb : DW X W (.BoolOp .And (b :: rest) pos) tb) : DW X W (.BoolOp .And (a :: b :: rest) pos) (mAnd ta tb) :=
  pw_imp (pw_and ha hb) fun σ H Q h => t_bind h fun ι S δ k c H' rp rs e g => by
    rw [show c = k from e]
    cases k with
    | true => exact ⟨ι, S, δ, rp, rs, g⟩
    | false => exact g.here rp rfl
theorem dw_or {rest : List Expr} (ha : DT X W a ta) (hb : DW X W (.BoolOp .Or (b :: rest) pos) tb) : DW X W (.BoolOp .Or (a :: b :: rest) pos) (mOr ta tb) :=
  pw_imp (pw_or ha hb) fun σ H Q h => t_bind h fun ι S δ k c H' rp rs e g => by
    rw [show c = k from e]
    cases k with
    | true => exact g.here rp rfl
    | false => exact ⟨ι, S, δ, rp, rs, g⟩
theorem dw_pt (h : DW X W e ta) : DT X W e ta := PW.pt h
theorem dt_not (ha : DT X W a ta) : DT X W (.UnaryOp .Not a pos) (mNot ta) :=
  pt_imp (pt_not ha) fun σ H Q h => t_bind h fun ι S δ k c H' rp rs e g => by
    rw [show c = k from e]
    exact g.here rp rfl
/-! ### values of truth -/
theorem de_one {op} (h : DE X W a ma) : DE X W (.BoolOp op [a] pos) ma := pe_one h
theorem de_and {rest : List Expr} (ha : DE X W a ma) (hb : DE X W (.BoolOp .And (b :: rest) pos) mb) : DE X W (.BoolOp .And (a :: b :: rest) pos) (mAndV ma mb) :=
  pe_imp (pe_and ha hb) fun σ H Q h => t_bind h fun ι S δ d v H' rp rs e g => by
    cases d with
    | bl k =>
      refine ⟨k, by simpa only [RD] using e, ?_⟩
      cases k with
      | true => exact ⟨ι, S, δ, rp, rs, g⟩
      | false => exact g.here rp (by simp only [RD])
    | _ => exact g.elim
theorem de_or {rest : List Expr} (ha : DE X W a ma) (hb : DE X W (.BoolOp .Or (b :: rest) pos) mb) : DE X W (.BoolOp .Or (a :: b :: rest) pos) (mOrV ma mb) :=
  pe_imp (pe_or ha hb) fun σ H Q h => t_bind h fun ι S δ d v H' rp rs e g => by
    cases d with
    | bl k =>
      refine ⟨k, by simpa only [RD] using e, ?_⟩
      cases k with
      | true => exact g.here rp (by simp only [RD])
      | false => exact ⟨ι, S, δ, rp, rs, g⟩
    | _ => exact g.elim
theorem de_not (ha : DE X W a ma) : DE X W (.UnaryOp .Not a pos) (mNotV ma) :=
  pe_imp (pe_not ha) fun σ H Q h => t_bind h fun ι S δ d v H' rp rs e g => by
    cases d with
    | bl k => exact ⟨k, by simpa only [RD] using e, g.here rp (by simp only [RD])⟩
    | _ => exact g.elim
theorem de_ifE (hc : DT X W c ta) (ha : DE X W a ma) (hb : DE X W b mb) : DE X W (.IfExp c a b pos) (mIfE ta ma mb) :=
  pe_imp (pe_ifExp hc ha hb) fun σ H Q h => t_bind h fun ι S δ k c H' rp rs e g => by
    rw [show c = k from e]
    cases k with
    | true => exact ⟨ι, S, δ, rp, rs, g⟩
    | false => exact ⟨ι, S, δ, rp, rs, g⟩
/-! ### statements -/
variable {st : Stmt} {sts : List Stmt} {m n : Sm} {g : Gm} {tg : Expr}
theorem ds_nil : DSs X W [] sPass := pss_imp pss_nil fun D σ H ⟨ι, S, δ, rp, rs, g⟩ => g ι H σ .refl rp rs
theorem ds_cons (h1 : DS X W st m) (h2 : DSs X W sts n) : DSs X W (st :: sts) (sSeq m n) :=
  pss_imp (pss_cons h1 h2) fun D σ H ⟨ι, S, δ, rp, rs, g⟩ => by
    refine ⟨ι, S, δ, rp, rs, ?_⟩
    have q := GS.seq g
    revert q
    cases m δ S with
    | nx δ1 S1 => exact fun q ι' H' σ' st rp rs => let ⟨ι1, S1, δ1, _, rp1, rs1, g1⟩ := q ι' H' σ' st rp rs; ⟨ι1, S1, δ1, rp1, rs1, g1⟩
    | _ => exact fun q => q
theorem ds_one (h1 : DS X W st m) : DSs X W [st] m := pss_one h1
theorem s_bind {α β : Type} {mg : EnvK} {W : WX} {Rl : Rel α β} {m : Loc → Sto → R α} {k : Loc → α → Sto → RS} {σ : St} {H : Hp} {D : Ends} {T : β → Hp → Prop}
    (h : tDS mg W (fun δ S => (m δ S).into δ (k δ)) D σ H) (f : ∀ ι S δ a b H', Rep H' ι mg S → RSt H' ι δ σ → Rl H' ι a b → GS mg W ι H' (k δ a S) D → T b H') : tD mg W Rl m σ H T := by
  obtain ⟨ι, S, δ, rp, rs, g⟩ := h
  exact ⟨ι, S, δ, rp, rs, (GS.into rs g).imp fun v H1 ⟨ι1, S1, d, st, rp1, rd, g1⟩ => f ι1 S1 δ d v H1 rp1 (rs.mono st.up) rd g1⟩
theorem ds_pass : DS X W (.Pass pos) sPass := ps_imp ps_pass fun D σ H ⟨ι, S, δ, rp, rs, g⟩ => g ι H σ .refl rp rs
theorem ds_brk : DS X W (.Break pos) sBk := ps_imp ps_break fun D σ H ⟨ι, S, δ, rp, rs, g⟩ => g ι H σ .refl rp rs
theorem ds_cont : DS X W (.Continue pos) sCt := ps_imp ps_continue fun D σ H ⟨ι, S, δ, rp, rs, g⟩ => g ι H σ .refl rp rs
theorem ds_expr (he : DE X W e ma) (hs : swapsWith e none pos.line X.env = pure false := by rfl) : DS X W (.Expr e pos) (sExpr ma) :=
  ps_imp (ps_expr he hs) fun D σ H h => s_bind h fun ι S δ d v H' rp rs r g => g ι H' σ .refl rp rs
theorem ds_ret (he : DE X W e ma) : DS X W (.Return (some e) pos) (sRet ma) :=
  ps_imp (ps_ret he) fun D σ H h => s_bind h fun ι S δ d v H' rp rs r g => g ι H' v .refl rp r
theorem ds_retN : DS X W (.Return none pos) sRetN := ps_imp ps_retN fun D σ H ⟨ι, S, δ, rp, rs, g⟩ => g ι H .non .refl rp (by simp only [RD])
theorem ds_if {sa sb : List Stmt} (hc : DT X W c ta) (ha : DSs X W sa m) (hb : DSs X W sb n) : DS X W (.If c sa sb pos) (sIf ta m n) :=
  ps_imp (ps_if hc ha hb) fun D σ H h => s_bind h fun ι S δ k c H' rp rs e g => by
    rw [show c = k from e]
    cases k with
    | true => exact ⟨ι, S, δ, rp, rs, g⟩
    | false => exact ⟨ι, S, δ, rp, rs, g⟩
/-! ### targets, assignments -/
theorem dg_name {i : Nat} {x : Str} (h : PG X (.Name x pos) (gName i)) : DG X W (.Name x pos) (gmName i) :=
  ⟨fun pins s σ H v u Q I r ⟨ι, S, δ, d, rp, rs, rd, g⟩ => h.run pins s σ H v u Q I r (by
    refine g.here rp ⟨by simpa using rs.len, fun j d' e => ?_⟩
    by_cases hj : i = j
    · subst hj
      have hi : i < δ.length := by
        rcases Nat.lt_or_ge i δ.length with h | h
        · exact h
        · rw [List.getElem?_eq_none (by simpa using h)] at e; cases e
      rw [List.getElem?_set_self hi] at e
      cases e
      exact ⟨v, by rw [List.getElem?_set_self (by rw [← rs.len]; exact hi)], rd⟩
    · rw [List.getElem?_set_ne hj] at e
      rw [List.getElem?_set_ne hj]
      exact rs.at' j d' e)⟩
end
end PM

/-! PM, part 4: assignments, loops, comprehensions, calls -/
namespace PM
open PySem PySem.Spec L2
section
variable {X : Cx} {W : WX} {a b c e o : Expr} {es : List Expr} {pos p p2 : Pos} {ma mb mc mo : Em} {am : Am} {ta tb : Tm} {st : Stmt} {sts : List Stmt} {m n : Sm} {g : Gm} {tg : Expr}
theorem ds_asg (he : DE X W e ma) (hg : DG X W tg g) (hs : swapsWithSole [tg] e pos.line X.env = pure false := by rfl) (hw : swappedStores [tg] e X.env = pure none := by rfl)
    (h1 : (assignEach [tg] X.env).map (·.2) = [assign tg X.env] := by rfl) : DS X W (.Assign [tg] e pos) (sAsg ma g) :=
  ps_imp (ps_asg he hg hs hw h1) fun D σ H h => s_bind h fun ι S δ d v H' rp rs r g =>
    ⟨ι, S, δ, d, rp, rs, r, (GS.into rs g).imp fun σ2 H2 ⟨ι2, S2, δ2, st2, rp2, rs2, g2⟩ => g2 ι2 H2 σ2 .refl rp2 rs2⟩
theorem rs_set {H : Hp} {ι : Z} {δ : Loc} {σ : St} {d : D} {v : V} (rs : RSt H ι δ σ) (r : RD H ι d v) (i : Nat) : RSt H ι (δ.set i (some d)) (σ.set i (some v)) := by
  refine ⟨by simpa using rs.len, fun j d' e => ?_⟩
  by_cases hj : i = j
  · subst hj
    have hi : i < δ.length := by
      rcases Nat.lt_or_ge i δ.length with h | h
      · exact h
      · rw [List.getElem?_eq_none (by simpa using h)] at e; cases e
    rw [List.getElem?_set_self hi] at e
    cases e
    exact ⟨v, by rw [List.getElem?_set_self (by rw [← rs.len]; exact hi)], r⟩
  · rw [List.getElem?_set_ne hj] at e
    rw [List.getElem?_set_ne hj]
    exact rs.at' j d' e
theorem ds_set {i : Nat} {x : Str} {p' : Pos} (hN : X.N.Nodup) (hi : X.N[i]? = some x) (hx : L2.Loc X.env.scope x) (he : DE X W e ma) (hs : swapsWith e (some (.Name x p')) pos.line X.env = pure false := by rfl)
    (hf : X.fn x = true ∨ X.env.scope.names.lookup x = some .local := by first | exact .inl rfl | exact .inr rfl | assumption) : DS X W (.Assign [.Name x p'] e pos) (sAsg ma (gmName i)) :=
  ps_imp (ps_set hN hi hx he hs hf) fun D σ H h => s_bind h fun ι S δ d v H' rp rs r g => g ι H' _ .refl rp (rs_set rs r _)
/-- the names of a target tuple -/
inductive Nms (X : Cx) : List Expr → List Nat → TGs → Prop where
  | nil : Nms X [] [] gNil
  | cons {e : Expr} {es : List Expr} {i : Nat} {is : List Nat} {t : TGs} : Nms X es is t → Nms X (e :: es) (i :: is) (gCons (gName i) t)
theorem nms_run {K : PySem.W.Frag} {mg : EnvK} {W : XK} : ∀ {es : List Expr} {is : List Nat} {t : TGs}, Nms X es is t → ∀ {ds : List D} {vs : List V} {δ : Loc} {σ : St} {S : Sto} {H : Hp} {ι : Z} {Q : St → Hp → Prop}, Rep H ι mg S → RSt H ι δ σ → RDs H ι ds vs →
    G mg W ι H RSt (gmNames is ds δ S) Q → vs.length = is.length ∧ t vs σ H Q
  | _, _, _, .nil, [], vs, δ, σ, S, H, ι, Q, rp, rs, r, g => by
    simp only [RDs] at r; subst r
    exact ⟨rfl, rfl, g.here rp rs⟩
  | _, _, _, .nil, d :: ds, vs, δ, σ, S, H, ι, Q, rp, rs, r, g => g.elim
  | _, _, _, .cons h, [], vs, δ, σ, S, H, ι, Q, rp, rs, r, g => g.elim
  | _, _, _, .cons h, d :: ds, vs, δ, σ, S, H, ι, Q, rp, rs, r, g => by
    simp only [RDs] at r
    obtain ⟨v, w, e, r1, r2⟩ := r
    subst e
    obtain ⟨q1, q2⟩ := nms_run (K := K) h rp (rs_set rs r1 _) r2 g
    exact ⟨by simp [q1], v, w, rfl, q2⟩
theorem dg_tup {es : List Expr} {k : Nat} {is : List Nat} {t : TGs} (hc : X.calm = true) (hp : PGs X es t) (nm : Nms X es is t) (hn : (assignEach es X.env).length = is.length := by rfl)
    (hst : (assignEach es X.env).findIdx? (·.1) = none := by rfl) : DG X W (.Tuple es k pos) (gmTup is) :=
  ⟨fun pins s σ H v u Q I r ⟨ι, S, δ, d, rp, rs, rd, g⟩ => (pg_tup hc hp hn hst).run pins s σ H v u Q I r (by
    cases d with
    | tup ds =>
      simp only [RD] at rd
      obtain ⟨a, vs, e, h1, z, h2⟩ := rd
      obtain ⟨q1, q2⟩ := nms_run (K := X.K) nm rp rs h2 g
      exact ⟨a, vs, e, h1.sq, q1, q2⟩
    | _ => exact g.elim)⟩
def PSetD (X : Cx) (f : D → D → D → Sto → R Unit) : Prop := ∃ t : TSet, PSet X t ∧
  ∀ (W : XK) (ι : Z) (S : Sto) (H : Hp) (x y z : V) (dx dy dz : D) (Q : Unit → Hp → Prop), Rep H ι X.ek S → RD H ι dx x → RD H ι dy y → RD H ι dz z → G X.ek W ι H REq (f dx dy dz S) Q → t x y z H (Q ())
theorem dg_sub {f : D → D → D → Sto → R Unit} (ho : DE X W a ma) (hi : DE X W b mb) (hs : PSetD X f) (hq : ∀ v, assign (.Subscript a b pos) X.env v = (do
      let ov ← holding [v] (eval a X.env)
      let iv ← holding [v, ov] (eval b X.env)
      standAt pos
      holding [v, ov, iv] (setItem ov iv v)
      release [v, ov, iv] []) := by intro _; rfl) : DG X W (.Subscript a b pos) (gmSub ma mb f) := by
  obtain ⟨t, ht, k⟩ := hs
  refine ⟨fun pins s σ H v u Q I r ⟨ι, S, δ, d, rp, rs, rd, g⟩ => (pg_sub ho hi ht hq).run pins s σ H v u Q I r ?_⟩
  exact ⟨ι, S, δ, rp, rs, (G.bind g).imp fun x H1 ⟨ι1, S1, dx, st1, rp1, rx, g1⟩ => ⟨ι1, S1, δ, rp1, rs.mono st1.up, (G.bind g1).imp fun y H2 ⟨ι2, S2, dy, st2, rp2, ry, g2⟩ =>
    k _ ι2 S2 H2 x y v dx dy d (fun _ H' => Q σ H') rp2 (rx.mono st2.up) ry (rd.mono (st1.trans st2).up) ((G.bind g2).imp fun _ H3 ⟨ι3, S3, _, st3, rp3, _, g3⟩ => g3.here rp3 (rs.mono ((st1.trans st2).trans st3).up))⟩⟩

/-! ### what is walked -/
/-- J walks the items -/
def RIt (mg : EnvK) : Rel (List D × (Sto → Prop)) It := fun H ι p J => p.1.length ≤ sizeLine ∧ ∀ (i : Nat) (H1 : Hp) (ι1 : Z) (S1 : Sto), Lift ι H ι1 H1 → Rep H1 ι1 mg S1 → p.2 S1 →
  (i < p.1.length → J.go i H1 ∧ ∀ x H2, J.yld i H1 x H2 → ∃ d, p.1[i]? = some d ∧ Step ι1 H1 ι1 H2 ∧ Rep H2 ι1 mg S1 ∧ RD H2 ι1 d x) ∧ (p.1.length ≤ i → J.stop i H1)
abbrev tDI (mg : EnvK) (W : WX) (src : Src) : TI := tD mg W (RIt mg) src
def DI (X : Cx) (W : WX) (tg iter : Expr) (src : Src) : Prop := PI X tg iter (tDI X.ek W src)
theorem pi_imp {X : Cx} {tg iter : Expr} {t t' : TI} (h : PI X tg iter t) (i : ∀ σ H Q, t' σ H Q → t σ H Q) : PI X tg iter t' := ⟨fun pins s σ H Q I q => h.run pins s σ H Q I (i _ _ _ q)⟩
/-- a turn's end -/
def RS.turn (r : RS) (k : Sm) : RS := match r with
  | .nx δ S => k δ S
  | .ct δ S => k δ S
  | .bk δ S => .nx δ S
  | r => r
theorem loopM_cons {grd : Sto → Prop} {b : D → Sm} {x : D} {xs : List D} {δ : Loc} {S : Sto} (h : grd S) : loopM grd b (x :: xs) δ S = (b x δ S).turn (loopM grd b xs) := by
  rw [loopM, if_pos h]
  cases b x δ S <;> rfl
theorem loopM_nil {grd : Sto → Prop} {b : D → Sm} {δ : Loc} {S : Sto} (h : grd S) : loopM grd b [] δ S = .nx δ S := by
  rw [loopM, if_pos h]
theorem loopM_grd {grd : Sto → Prop} {b : D → Sm} {xs : List D} {δ : Loc} {S : Sto} {mg W ι H D} (g : GS mg W ι H (loopM grd b xs δ S) D) : grd S := by
  cases xs with
  | nil =>
    rw [loopM] at g
    split at g
    · assumption
    · exact g.elim
  | cons x xs =>
    rw [loopM] at g
    split at g
    · assumption
    · exact g.elim
theorem GS.turn {mg : EnvK} {W : WX} {ι : Z} {H : Hp} {r : RS} {D : Ends} {k : Sm} (h : GS mg W ι H (r.turn k) D) :
    GS mg W ι H r { D with nx := fun σ1 H1 => ∃ ι1 S1 δ1, Step ι H ι1 H1 ∧ Rep H1 ι1 mg S1 ∧ RSt H1 ι1 δ1 σ1 ∧ GS mg W ι1 H1 (k δ1 S1) D, ct := fun σ1 H1 => ∃ ι1 S1 δ1, Step ι H ι1 H1 ∧ Rep H1 ι1 mg S1 ∧ RSt H1 ι1 δ1 σ1 ∧ GS mg W ι1 H1 (k δ1 S1) D, bk := D.nx } := by
  cases r with
  | nx δ S => exact fun ι2 H2 b s2 rp rl => ⟨ι2, S, δ, s2, rp, rl, GS.step s2 h⟩
  | ct δ S => exact fun ι2 H2 b s2 rp rl => ⟨ι2, S, δ, s2, rp, rl, GS.step s2 h⟩
  | bk δ S => exact h
  | rt d S => exact h
  | exc c δ S => exact h
  | stuck => exact h
theorem GS.imp {mg : EnvK} {W : WX} {ι : Z} {H : Hp} {r : RS} {D D' : Ends} (h : GS mg W ι H r D) (h1 : ∀ σ H, D.nx σ H → D'.nx σ H) (h2 : ∀ σ H, D.rt σ H → D'.rt σ H) (h3 : ∀ σ H, D.bk σ H → D'.bk σ H) (h4 : ∀ σ H, D.ct σ H → D'.ct σ H) : GS mg W ι H r D' := by
  cases r with
  | nx δ S => exact fun ι2 H2 b s2 rp rl => h1 _ _ (h ι2 H2 b s2 rp rl)
  | ct δ S => exact fun ι2 H2 b s2 rp rl => h4 _ _ (h ι2 H2 b s2 rp rl)
  | bk δ S => exact fun ι2 H2 b s2 rp rl => h3 _ _ (h ι2 H2 b s2 rp rl)
  | rt d S => exact fun ι2 H2 b s2 rp rl => h2 _ _ (h ι2 H2 b s2 rp rl)
  | exc c δ S => exact h
  | stuck => exact h
theorem ds_for {iter : Expr} {body : List Stmt} {src : Src} (hp : PassesOwn (model X.prog X.w) X.A X.env X.xe) (hc : X.calm = true) (hi : DI X W tg iter src) (hg : DG X W tg g) (hb : DSs X W body m)
    (hs : ∀ x, foldedSetIterable iter X.env x = pure x := by intro _; rfl) : DS X W (.For tg iter body [] pos) (sFor src g m) :=
  ps_imp (ps_for hp hc hi hg hb hs) fun D σ H h => s_bind h fun ι S δ p J H1 rp rs rit gs => by
    obtain ⟨hz, rit⟩ := rit
    refine ⟨fun i m' σ2 H2 => m' = p.1.length - i ∧ i ≤ p.1.length ∧ ∃ ι2 S2 δ2, Step ι H1 ι2 H2 ∧ Rep H2 ι2 X.ek S2 ∧ RSt H2 ι2 δ2 σ2 ∧ GS X.ek W ι2 H2 (loopM p.2 (fun x δ S => (g x δ S).into δ m) (p.1.drop i) δ2 S2) D,
      ⟨_, rfl, Nat.zero_le _, ι, S, δ, .refl, rp, rs, by rw [List.drop_zero]; exact gs⟩, ?_⟩
    rintro i m' σ2 H2 ⟨rfl, hi, ι2, S2, δ2, st2, rp2, rs2, g2⟩
    have gr := loopM_grd g2
    obtain ⟨q1, q2⟩ := rit i H2 ι2 S2 st2.up rp2 gr
    by_cases hlt : i < p.1.length
    · obtain ⟨q3, q4⟩ := q1 hlt
      refine .inr ⟨q3, fun σ' H' => p.1.length - (i + 1) = p.1.length - (i + 1) ∧ i + 1 ≤ p.1.length ∧ ∃ ι2 S2 δ2, Step ι H1 ι2 H' ∧ Rep H' ι2 X.ek S2 ∧ RSt H' ι2 δ2 σ' ∧ GS X.ek W ι2 H' (loopM p.2 (fun x δ S => (g x δ S).into δ m) (p.1.drop (i + 1)) δ2 S2) D,
        fun σ' H' q => ⟨_, by omega, q⟩, fun x H3 y => ?_⟩
      obtain ⟨d, e, st3, rp3, rd⟩ := q4 x H3 y
      have e2 : p.1.drop i = d :: p.1.drop (i + 1) := by
        have := List.getElem?_eq_some_iff.mp e
        rw [List.drop_eq_getElem_cons hlt, this.2]
      rw [e2, loopM_cons gr] at g2
      have g3 := GS.turn (GS.step st3 g2)
      refine ⟨ι2, S2, δ2, d, rp3, rs2.mono st3.up, rd, (GS.into (rs2.mono st3.up) g3).imp fun σ4 H4 ⟨ι4, S4, δ4, st4, rp4, rs4, g4⟩ => ⟨ι4, S4, δ4, rp4, rs4, ?_⟩⟩
      refine g4.imp (fun σ5 H5 ⟨ι5, S5, δ5, st5, rp5, rs5, g5⟩ => ?_) (fun _ _ q => q) (fun _ _ q => q) (fun σ5 H5 ⟨ι5, S5, δ5, st5, rp5, rs5, g5⟩ => ?_)
      · exact ⟨rfl, hlt, ι5, S5, δ5, st2.trans (st3.trans st5), rp5, rs5, g5⟩
      · exact ⟨rfl, hlt, ι5, S5, δ5, st2.trans (st3.trans st5), rp5, rs5, g5⟩
    · have e : i = p.1.length := by omega
      subst e
      rw [List.drop_length, loopM_nil gr] at g2
      exact .inl ⟨q2 (Nat.le_refl _), g2 ι2 H2 σ2 .refl rp2 rs2⟩

/-! ### sources -/
/-- what is walked, by its value -/
def PIV (X : Cx) (tg : Expr) (r : V → Hp → (It → Hp → Prop) → Prop) : Prop := ∀ (pins : List (Addr × Obj)) (s : Shared) (σ : St) (H : Hp) (x : V) (v : Value) (R : It → Hp → Prop), Inv X pins σ H s → RelV x v → r x H R → wpAny (model X.prog X.w) X.A (pyIter v) (PIE X pins σ tg R) X.xe s
theorem piv_list : PIV X tg (fun x H R => ∃ a, x = .ref a ∧ (∃ xs, SqL X.K H a xs) ∧ R (Itl X.K a) H) := by
  intro pins s σ H x v R I r1 q1
  obtain ⟨a, e, ⟨xs, hq⟩, q⟩ := q1
  subst e
  cases r1
  obtain ⟨its, rv, p, hz⟩ := I.list hq
  refine wpAny_pyIter_list p.isList ?_
  refine ⟨s.heap.objs.size, [s.heap.objs.size], _, _, H, rfl, I.kept (t' := s.toks) fun b o e => Heap.get?_push_of_some _ e, turn_list a _, ⟨_, Heap.get?_push_size _ rfl, rfl, rfl⟩, fun b hb => ?_, q⟩
  have e : b = s.heap.objs.size := by simpa using hb
  subst e
  exact I.fpOk (Nat.le_refl _) (I.hok.fresh (Nat.le_refl _))
theorem piv_tup : PIV X tg (fun x H R => ∃ a, x = .ref a ∧ (∃ xs, SqT X.K H a xs) ∧ R (Itt X.K a) H) := by
  intro pins s σ H x v R I r1 q1
  obtain ⟨a, e, ⟨xs, hq⟩, q⟩ := q1
  subst e
  cases r1
  obtain ⟨its, rv, p, hz⟩ := I.tuple hq
  refine wpAny_pyIter_tuple (show s.heap.IsTuple a its.toArray from p) ?_
  refine ⟨s.heap.objs.size, [s.heap.objs.size], _, _, H, rfl, I.kept (t' := s.toks) fun b o e => Heap.get?_push_of_some _ e, turn_tuple a _, ⟨_, Heap.get?_push_size _ rfl, rfl, rfl⟩, fun b hb => ?_, q⟩
  have e : b = s.heap.objs.size := by simpa using hb
  subst e
  exact I.fpOk (Nat.le_refl _) (I.hok.fresh (Nat.le_refl _))
theorem piv_str : PIV X tg (fun x H R => ∃ y, x = .str y ∧ R (Its y) H) := by
  intro pins s σ H v u R I r1 q
  obtain ⟨x, ex, q⟩ := q
  subst ex
  obtain ⟨t, rfl⟩ := r1
  cases ha : x.cps.all (· < 128)
  · exact wpAny_pyIter_wide ha (pi_one (tk := s.toks) I _ (turn_str _ x t "str_iterator" (.inr rfl)) ⟨_, Heap.get?_push_size _ rfl, rfl, rfl⟩ q)
  · exact wpAny_pyIter_ascii ha (pi_one (tk := s.toks) I _ (turn_str _ x t "str_ascii_iterator" (.inl rfl)) ⟨_, Heap.get?_push_size _ rfl, rfl, rfl⟩ q)
theorem PIV.or {r r' : V → Hp → (It → Hp → Prop) → Prop} (h : PIV X tg r) (h' : PIV X tg r') : PIV X tg (fun x H R => r x H R ∨ r' x H R) := fun pins s σ H x v R I rx q => q.elim (h pins s σ H x v R I rx) (h' pins s σ H x v R I rx)
theorem PIV.pi {r : V → Hp → (It → Hp → Prop) → Prop} {te : TE} (h : PIV X tg r) (he : PE X e te) : PI X tg e (fun σ H R => te σ H fun x H1 => r x H1 R) :=
  ⟨fun pins s σ H R I q => thn (he.run pins s σ H _ I q) fun v s1 ⟨x, H1, I1, r1, q1⟩ => h pins s1 σ H1 x v R I1 r1 q1⟩
theorem scr_sq {K : PySem.W.Frag} {ι : Z} {H : Hp} {a : Addr} {vs : List V} (e : ι.k = K) (h : (∃ o, H a = some (.frz o (.lst vs))) ∨ KL ι.k a vs) : SqL K H a vs := by
  subst e
  exact h.imp (fun h => .inr h) id
theorem get_rds {H : Hp} {ι : Z} {ds : List D} {vs : List V} (r : RDs H ι ds vs) {i : Nat} {x : V} (e : vs[i]? = some x) : ∃ d, ds[i]? = some d ∧ RD H ι d x := by
  have hi : i < ds.length := by rw [r.length]; exact (List.getElem?_eq_some_iff.mp e).1
  obtain ⟨v, e', rd⟩ := r.get (List.getElem?_eq_getElem hi)
  rw [e] at e'; cases e'
  exact ⟨_, List.getElem?_eq_getElem hi, rd⟩
theorem RIt.of_list {mg : EnvK} {K : PySem.W.Frag} {H : Hp} {ι : Z} {ds : List D} {grd : Sto → Prop} {a : Addr} (hz : ds.length ≤ sizeLine)
    (h : ∀ H1 ι1 S1, Lift ι H ι1 H1 → Rep H1 ι1 mg S1 → grd S1 → ∃ vs, SqL K H1 a vs ∧ RDs H1 ι1 ds vs) : RIt mg H ι (ds, grd) (Itl K a) := by
  refine ⟨hz, fun i H1 ι1 S1 l rp gr => ?_⟩
  obtain ⟨vs, hr, r⟩ := h H1 ι1 S1 l rp gr
  have hl := r.length
  refine ⟨fun hi => ?_, fun hi => ⟨vs, hr, by rw [← hl]; exact hi⟩⟩
  have hi' : i < vs.length := by rw [← hl]; exact hi
  refine ⟨⟨vs, vs[i], hr, List.getElem?_eq_getElem hi'⟩, fun x H2 ⟨e, y⟩ => ?_⟩
  subst e
  obtain ⟨d, e, rd⟩ := get_rds r (y vs hr)
  exact ⟨d, e, .refl, rp, rd⟩
theorem RIt.of_tup {mg : EnvK} {K : PySem.W.Frag} {H : Hp} {ι : Z} {ds : List D} {grd : Sto → Prop} {a : Addr} {vs : List V} (hz : ds.length ≤ sizeLine)
    (h : Tp H a vs) (r : RDs H ι ds vs) : RIt mg H ι (ds, grd) (Itt K a) := by
  refine ⟨hz, fun i H1 ι1 S1 l rp gr => ?_⟩
  have hr := l.tup a vs h
  have r := r.mono l
  have hl := r.length
  refine ⟨fun hi => ?_, fun hi => ⟨vs, hr.sq, by rw [← hl]; exact hi⟩⟩
  have hi' : i < vs.length := by rw [← hl]; exact hi
  refine ⟨⟨vs, vs[i], hr.sq, List.getElem?_eq_getElem hi'⟩, fun x H2 ⟨e, y⟩ => ?_⟩
  subst e
  obtain ⟨d, e, rd⟩ := get_rds r (y vs (hr.sq))
  exact ⟨d, e, .refl, rp, rd⟩
theorem di_items (he : DE X W e ma) : DI X W tg e (sItems ma) :=
  pi_imp (((piv_list (X := X) (tg := tg)).or (piv_tup.or piv_str)).pi he) fun σ H R h => t_bind h fun ι S δ d v H' rp rs rd g => by
    cases d with
    | lst ds =>
      simp only [RD] at rd
      obtain ⟨a, vs, e, h1, n, z, h2⟩ := rd
      exact .inl ⟨a, e, ⟨vs, .of h1⟩, g.here rp (RIt.of_list z fun H1 ι1 S1 l _ _ => ⟨vs, .of (l.lst a vs n h1).1, h2.mono l⟩)⟩
    | scr ds =>
      simp only [RD] at rd
      obtain ⟨a, vs, e, h1, z, h2⟩ := rd
      exact .inl ⟨a, e, ⟨vs, scr_sq rp.kk h1⟩, g.here rp (RIt.of_list z fun H1 ι1 S1 l rp1 _ => ⟨vs, scr_sq rp.kk (h1.imp (fun ⟨o, h⟩ => ⟨o, l.scr a o vs h⟩) id), h2.mono l⟩)⟩
    | tup ds =>
      simp only [RD] at rd
      obtain ⟨a, vs, e, h1, z, h2⟩ := rd
      exact .inr (.inl ⟨a, e, ⟨vs, h1.sq⟩, g.here rp (RIt.of_tup z h1 h2)⟩)
    | str y =>
      simp only [RD] at rd
      refine .inr (.inr ⟨y, rd.1, g.here rp ⟨?_, fun i H1 ι1 S1 l rp gr => ⟨fun hi => ?_, fun hi => ?_⟩⟩⟩)
      · rw [List.length_map, Array.length_toList]; exact rd.2
      · have hi : i < y.cps.size := by rw [List.length_map, Array.length_toList] at hi; exact hi
        refine ⟨hi, fun x H2 ⟨e, c, e1, e2⟩ => ?_⟩
        subst e
        refine ⟨.str ⟨#[c]⟩, ?_, .refl, rp, ?_⟩
        · rw [List.getElem?_map, Array.getElem?_toList, e1]; rfl
        · simp only [RD]; exact ⟨e2, by show 1 ≤ sizeLine; decide⟩
      · rw [List.length_map, Array.length_toList] at hi; exact hi
    | ref k =>
      simp only [RD] at rd
      obtain ⟨a, e, h1⟩ := rd
      obtain ⟨o, e2, ro⟩ := rp.has h1
      simp only [e2] at g
      cases o with
      | lst ds =>
        obtain ⟨vs, h3, z, h4⟩ := ro
        refine .inl ⟨a, e, ⟨vs, .of h3⟩, g.here rp (RIt.of_list z fun H1 ι1 S1 l rp1 gr => ?_)⟩
        obtain ⟨ws, h5, _, h6⟩ := rp1.obj k a _ (l.pre k a h1) gr
        exact ⟨ws, .of h5, h6⟩
      | _ => exact g.elim
    | _ => exact g.elim
theorem rangeD_get {lo : Int} {n i : Nat} (h : i < n) : (rangeD lo n)[i]? = some (.int (lo + i)) := by
  unfold rangeD
  rw [List.getElem?_map, List.getElem?_range h]; rfl
theorem RIt.of_range {mg : EnvK} {H : Hp} {ι : Z} {lo : Int} {n : Nat} {grd : Sto → Prop} (hz : n ≤ sizeLine) : RIt mg H ι (rangeD lo n, grd) (Itr lo n) := by
  have hl : (rangeD lo n).length = n := by simp [rangeD]
  refine ⟨by rw [hl]; exact hz, fun i H1 ι1 S1 l rp gr => ⟨fun hi => ?_, fun hi => ?_⟩⟩
  · rw [hl] at hi
    refine ⟨hi, fun x H2 ⟨e, y⟩ => ?_⟩
    subst e
    exact ⟨_, rangeD_get hi, .refl, rp, by simp only [RD]; exact y⟩
  · rw [hl] at hi; exact hi
theorem sz62 : ((sizeLine : Nat) : Int) < 2 ^ 62 := by rw [sizeLine_eq]; decide
theorem di_range1 {p q : Pos} (hg : Gl X "range") (hm : X.mg "range" = none) (ha : DE X W a ma) (hs : starEach [a] X.env = [(false, eval a X.env)] := by rfl) : DI X W tg (.Call (.Name "range" p) [a] [] q) (sRange1 ma) :=
  pi_imp (pi_range1 hg hm (da_cons ha da_nil hs) hs) fun σ H J ⟨ι, S, δ, rp, rs, g⟩ => by
    refine ⟨ι, S, δ, rp, rs, ?_⟩
    unfold sRange1 at g
    unfold mCons mNil
    cases e : ma δ S with
    | ok d S1 =>
      rw [e] at g
      simp only [PM.R.bind_ok] at g ⊢
      intro ι' H' vs st rp' rd
      split at g
      · rename_i j
        split at g
        · rename_i hj
          simp only [RDs, RD] at rd
          obtain ⟨v, r, e, e1, e2⟩ := rd
          subst e e1 e2
          unfold limR lim62 at hj
          simp only [Bool.and_eq_true, decide_eq_true_eq] at hj
          exact ⟨j, rfl, hj.1.2.1, hj.1.2.2, g.at st rp' (RIt.of_range (by omega))⟩
        · exact g.elim
      · exact g.elim
    | exc c S1 => rw [e] at g; exact g
    | stuck => rw [e] at g; exact g.elim
theorem di_range2 {p q : Pos} (hg : Gl X "range") (hm : X.mg "range" = none) (ha : DE X W a ma) (hb : DE X W b mb) (hs : starEach [a, b] X.env = [(false, eval a X.env), (false, eval b X.env)] := by rfl) (hs2 : starEach [b] X.env = [(false, eval b X.env)] := by rfl) :
    DI X W tg (.Call (.Name "range" p) [a, b] [] q) (sRange2 ma mb) :=
  pi_imp (pi_range2 hg hm (da_cons ha (da_cons hb da_nil hs2) (by rw [hs, hs2])) hs hs2) fun σ H J ⟨ι, S, δ, rp, rs, g⟩ => by
    refine ⟨ι, S, δ, rp, rs, ?_⟩
    unfold sRange2 at g
    unfold mCons mNil
    cases e : ma δ S with
    | ok d S1 =>
      rw [e] at g
      simp only [PM.R.bind_ok] at g ⊢
      cases e2 : mb δ S1 with
      | ok d2 S2 =>
        rw [e2] at g
        simp only [PM.R.bind_ok] at g ⊢
        intro ι' H' vs st rp' rd
        split at g
        · rename_i i j
          split at g
          · rename_i hj
            simp only [RDs, RD] at rd
            obtain ⟨v, r, e, e1, v2, r2, e3, e4, e5⟩ := rd
            subst e e3 e1 e4 e5
            unfold limR lim62 at hj
            simp only [Bool.and_eq_true, decide_eq_true_eq] at hj
            exact ⟨i, j, rfl, ⟨hj.1.1.1, hj.1.1.2, hj.1.2.1, hj.1.2.2⟩, g.at st rp' (RIt.of_range (by omega))⟩
          · exact g.elim
        · exact g.elim
      | exc c S2 => rw [e2] at g; exact g
      | stuck => rw [e2] at g; exact g.elim
    | exc c S1 => rw [e] at g; exact g
    | stuck => rw [e] at g; exact g.elim

/-! ### calls -/
/-- a def's promise: it answers as c does -/
def spD (mg : EnvK) (n : Nat) (c : List D → Sto → R D) : Sp := fun vs H Q E => vs.length = n ∧ ∃ ι S ds, Rep H ι mg S ∧ RDs H ι ds vs ∧ G mg E ι H RD (c ds S) Q
structure Has (P : Program) (w : World) (K : PySem.W.Frag) (mg : Str → Option Value) (base : Heap) (k : Nat) (x : Str) (n : Nat) (c : List D → Sto → R D) : Prop where
  ex : ∃ (f : Addr) (fd : FuncData) (ps : List Str), FnOk P w K mg base (L2.CX P w) k f fd ps (spD ⟨mg, K⟩ n c) ∧ mg x = some (.ref f) ∧ PySem.W.keepIn K (.ref f) = true ∧ Binds K fd ps [] ∧ ps.length = n
/-- arguments whose number is known -/
def DAL (X : Cx) (W : WX) (es : List Expr) (m : Am) (n : Nat) : Prop := DA X W es m ∧ ∀ δ S ds S', m δ S = .ok ds S' → ds.length = n
theorem dal_nil : DAL X W [] mNil 0 := ⟨da_nil, fun δ S ds S' h => by simp only [mNil, R.ok.injEq] at h; rw [← h.1]; rfl⟩
theorem dal_cons {n : Nat} (ha : DE X W e ma) (hr : DAL X W es am n) (hs : starEach (e :: es) X.env = (false, eval e X.env) :: starEach es X.env := by rfl) : DAL X W (e :: es) (mCons ma am) (n + 1) :=
  ⟨da_cons ha hr.1 hs, fun δ S ds S' h => by
    unfold mCons at h
    cases h1 : ma δ S with
    | ok x S1 =>
      rw [h1] at h
      simp only [R.bind_ok] at h
      cases h2 : am δ S1 with
      | ok xs S2 =>
        rw [h2] at h
        simp only [R.bind_ok, R.ok.injEq] at h
        rw [← h.1, List.length_cons, hr.2 _ _ _ _ h2]
      | exc c S2 => rw [h2] at h; cases h
      | stuck => rw [h2] at h; cases h
    | exc c S1 => rw [h1] at h; cases h
    | stuck => rw [h1] at h; cases h⟩
theorem de_call {k n : Nat} {x : Str} {cf : List D → Sto → R D} (F : Has X.prog X.w X.K X.mg X.base k x n cf) (hr : Room k X.A) (tk : Takes X W) (hg : Gl X x) (ha : DAL X W (e :: es) am n)
    (hdb : (x == ("__debug__" : Str)) = false := by decide) (he : starEach (e :: es) X.env = (false, eval e X.env) :: starEach es X.env := by rfl) (hpl : (backTo pos (starEach es X.env)).any (·.1) = false := by rfl):
    DE X W (.Call (.Name x p) (e :: es) [] pos) (mApp cf am) := by
  obtain ⟨f, fd, ps, F, hm, hk, hb, hps⟩ := F.ex
  refine pe_imp (pe_callS F hr hg hm hk hb (fun σ => passAt tk σ) ha.1 hdb he hpl) fun σ H Q h => ?_
  obtain ⟨ι, S, δ, rp, rs, g⟩ := h
  refine ⟨ι, S, δ, rp, rs, ?_⟩
  have q := G.bind (Rl := RDs) g
  cases e1 : am δ S with
  | ok ds S1 =>
    rw [e1] at q
    intro ι' H' vs st rp' rd'
    obtain ⟨ι1, S2, ds2, st1, rp1, rd1, g1⟩ := q ι' H' vs st rp' rd'
    exact ⟨by rw [← rd'.length]; exact ha.2 _ _ _ _ e1, ι1, S2, ds2, rp1, rd1, g1⟩
  | exc c S1 => rw [e1] at q; exact q
  | stuck => rw [e1] at q; exact q
end
end PM

/-! PM, part 5: comprehensions, a def's end -/
namespace PM
open PySem PySem.Spec L2
abbrev w0 : WX := fun _ _ _ _ => False
theorem wipe_get (σ : St) (j : Nat) : ∀ vs : List Nat, (wipe σ vs)[j]? = if j ∈ vs then σ[j]?.map (fun _ => none) else σ[j]?
  | [] => by simp [wipe]
  | v :: vs => by
    unfold wipe
    by_cases h : v = j
    · subst h
      have ih := wipe_get σ v vs
      rw [if_pos (by simp), List.getElem?_set]
      simp only [↓reduceIte, wipe_length]
      by_cases hl : v < σ.length
      · rw [if_pos hl, List.getElem?_eq_getElem hl]; rfl
      · rw [if_neg hl, List.getElem?_eq_none (by omega)]; rfl
    · rw [List.getElem?_set_ne h, wipe_get σ j vs]
      by_cases hj : j ∈ vs
      · rw [if_pos hj, if_pos (by simp [hj])]
      · rw [if_neg hj, if_neg (by simp [hj]; exact fun e => h e.symm)]
theorem wipeD_get (δ : Loc) (j : Nat) : ∀ vs : List Nat, (wipeD δ vs)[j]? = if j ∈ vs then δ[j]?.map (fun _ => none) else δ[j]?
  | [] => by simp [wipeD]
  | v :: vs => by
    unfold wipeD
    have hlen : ∀ vs : List Nat, (wipeD δ vs).length = δ.length := fun vs => by
      induction vs with
      | nil => rfl
      | cons v vs ih => unfold wipeD; rw [List.length_set, ih]
    by_cases h : v = j
    · subst h
      rw [if_pos (by simp), List.getElem?_set]
      simp only [↓reduceIte, hlen]
      by_cases hl : v < δ.length
      · rw [if_pos hl, List.getElem?_eq_getElem hl]; rfl
      · rw [if_neg hl, List.getElem?_eq_none (by omega)]; rfl
    · rw [List.getElem?_set_ne h, wipeD_get δ j vs]
      by_cases hj : j ∈ vs
      · rw [if_pos hj, if_pos (by simp [hj])]
      · rw [if_neg hj, if_neg (by simp [hj]; exact fun e => h e.symm)]
theorem wipeD_length (δ : Loc) : ∀ vs : List Nat, (wipeD δ vs).length = δ.length
  | [] => rfl
  | v :: vs => by unfold wipeD; rw [List.length_set, wipeD_length δ vs]
theorem wipe_set {σ : St} {i : Nat} {x : Option V} {vs : List Nat} (h : i ∈ vs) : wipe (σ.set i x) vs = wipe σ vs := by
  apply List.ext_getElem?
  intro j
  rw [wipe_get, wipe_get]
  by_cases hj : j ∈ vs
  · rw [if_pos hj, if_pos hj, List.getElem?_set]
    split
    · rename_i e; subst e
      split
      · rename_i hl; rw [List.getElem?_eq_getElem hl]; rfl
      · rename_i hl; rw [List.getElem?_eq_none (by omega)]
    · rfl
  · rw [if_neg hj, if_neg hj, List.getElem?_set_ne (fun e => hj (by rw [← e]; exact h))]
theorem wipe_wipe (σ : St) (vs : List Nat) : wipe (wipe σ vs) vs = wipe σ vs := by
  apply List.ext_getElem?
  intro j
  rw [wipe_get, wipe_get]
  split
  · cases σ[j]? <;> rfl
  · rfl
section
variable {H : Hp} {ι : Z} {δ : Loc} {σ : St}
theorem RSt.wipe (rs : RSt H ι δ σ) (vs : List Nat) : RSt H ι (wipeD δ vs) (L2.wipe σ vs) := by
  refine ⟨by rw [wipeD_length, wipe_length, rs.len], fun i d e => ?_⟩
  rw [wipeD_get] at e
  rw [wipe_get]
  split at e
  · cases h : δ[i]? with
    | none => rw [h] at e; cases e
    | some o => rw [h] at e; cases e
  · rename_i hi
    rw [if_neg hi]
    exact rs.at' i d e
end
/-- a target that touches the slots vs alone -/
def TgR (vs : List Nat) (gt : TG) (gm : Gm) : Prop := ∀ (mg : EnvK) (W : XK) (ι : Z) (S : Sto) (H : Hp) (δ : Loc) (σ : St) (d : D) (v : V) (Q T : St → Hp → Prop),
  Rep H ι mg S → RSt H ι δ σ → RD H ι d v → G mg W ι H RSt (gm d δ S) Q → (∀ σ2 H2, L2.wipe σ2 vs = L2.wipe σ vs → Q σ2 H2 → T σ2 H2) → gt v σ H T
theorem tgr_name {i : Nat} {vs : List Nat} (h : i ∈ vs) : TgR vs (gName i) (gmName i) := fun mg W ι S H δ σ d v Q T rp rs rd g k => k _ _ (wipe_set h) (g.here rp (rs_set rs rd i))
theorem nms_runW {X : Cx} {mg : EnvK} {W : XK} {vs' : List Nat} : ∀ {es : List Expr} {is : List Nat} {t : TGs}, Nms X es is t → (∀ i ∈ is, i ∈ vs') → ∀ {ds : List D} {vs : List V} {δ : Loc} {σ : St} {S : Sto} {H : Hp} {ι : Z} {Q T : St → Hp → Prop}, Rep H ι mg S → RSt H ι δ σ → RDs H ι ds vs →
    G mg W ι H RSt (gmNames is ds δ S) Q → (∀ σ2 H2, L2.wipe σ2 vs' = L2.wipe σ vs' → Q σ2 H2 → T σ2 H2) → vs.length = is.length ∧ t vs σ H T
  | _, _, _, .nil, hi, [], vs, δ, σ, S, H, ι, Q, T, rp, rs, r, g, k => by
    simp only [RDs] at r; subst r
    exact ⟨rfl, rfl, k _ _ rfl (g.here rp rs)⟩
  | _, _, _, .nil, hi, d :: ds, vs, δ, σ, S, H, ι, Q, T, rp, rs, r, g, k => g.elim
  | _, _, _, .cons h, hi, [], vs, δ, σ, S, H, ι, Q, T, rp, rs, r, g, k => g.elim
  | _, _, _, .cons (i := i) h, hi, d :: ds, vs, δ, σ, S, H, ι, Q, T, rp, rs, r, g, k => by
    simp only [RDs] at r
    obtain ⟨v, w, e, r1, r2⟩ := r
    subst e
    obtain ⟨q1, q2⟩ := nms_runW (W := W) (vs' := vs') h (fun j hj => hi j (List.mem_cons_of_mem _ hj)) rp (rs_set rs r1 _) r2 g (fun σ2 H2 e q => k σ2 H2 (by rw [e]; exact wipe_set (hi i (List.mem_cons_self))) q)
    exact ⟨by simp [q1], v, w, rfl, q2⟩
theorem tgr_tup {X : Cx} {K : PySem.W.Frag} {es : List Expr} {is vs' : List Nat} {t : TGs} (nm : Nms X es is t) (hi : ∀ i ∈ is, i ∈ vs') : TgR vs' (gTup K is.length t) (gmTup is) := fun mg W ι S H δ σ d v Q T rp rs rd g k => by
  cases d with
  | tup ds =>
    simp only [RD] at rd
    obtain ⟨a, vs, e, h1, z, h2⟩ := rd
    obtain ⟨q1, q2⟩ := nms_runW nm hi rp rs h2 g k
    exact ⟨a, vs, e, h1.sq, q1, q2⟩
  | _ => exact g.elim
section
variable {mg : EnvK} {α β γ ε : Type} {W : XK} {ι ι2 : Z} {H H2 : Hp}
theorem G.quiet {Rl : Rel α β} {Rl2 : Rel γ ε} {r : R α} {k : α → Sto → R γ} {Q : ε → Hp → Prop} (W0 : XK) (h : G mg W ι H Rl2 (r.quiet.bind k) Q) :
    G mg W0 ι2 H2 Rl r (fun b H' => ∃ ι' S' a, Step ι2 H2 ι' H' ∧ Rep H' ι' mg S' ∧ Rl H' ι' a b ∧ G mg W ι H Rl2 (k a S') Q) := by
  cases r with
  | ok a S => exact fun ι' H' b st rp rl => ⟨ι', S, a, st, rp, rl, h⟩
  | exc c S => exact h.elim
  | stuck => exact h.elim
end
theorem compM_grd {grd : Sto → Prop} {g : Gm} {t : Tm} {e : Em} {δ : Loc} {acc xs : List D} {S : Sto} {mg W ι H} {Q : V → Hp → Prop} (h : G mg W ι H RD (compM grd g t e δ acc xs S) Q) : grd S := by
  cases xs with
  | nil =>
    rw [compM] at h
    split at h
    · assumption
    · exact h.elim
  | cons x xs =>
    rw [compM] at h
    split at h
    · assumption
    · exact h.elim
section
variable {X : Cx} {W : WX} {pos : Pos} {m : Em} {t : Tm} {g : Gm}
def DTs (X : Cx) (W : WX) (ifs : List Expr) (m : Tm) : Prop := PTs X ifs (tD X.ek W REq m)
theorem dts_nil : DTs X W [] mYes := ⟨fun pins s σ H Q I ⟨ι, S, δ, rp, rs, g⟩ => pts_nil.run pins s σ H Q I (g.here rp rfl)⟩
theorem dts_one {c : Expr} (h : DT X W c t) : DTs X W [c] t := pts_one h
theorem comp_core {tg : Expr} {gt : TG} {src : Src} {vs : List Nat} (hr : TgR vs gt g) {σ : St} {H : Hp} {Q : VK} (h : tDE X.ek W (mComp src g t m vs) σ H Q) :
    tLc (tDI X.ek W src) gt (tD X.ek w0 REq t) (tDE X.ek w0 m) vs σ H Q := by
  refine t_bind h fun ι S δ p J H1 rp rs rit gs => ?_
  obtain ⟨hz, rit⟩ := rit
  intro D hD
  have hno := rp.fresh hD
  refine ⟨fun i m' H2 => m' = p.1.length - i ∧ i ≤ p.1.length ∧ ∃ ι2 S2 accD accV, Lift ι H1 ι2 H2 ∧ ι2.b = D :: ι.b ∧ Rep H2 ι2 X.ek S2 ∧ H2 D = some (.lst accV) ∧ RDs H2 ι2 accD accV ∧ accD.length ≤ i ∧
      (∀ x ∈ ι.b, ∀ o, H1 x = some o → H2 x = some o) ∧ G X.ek (wat W σ) ι H1 RD (compM p.2 g t m (wipeD δ vs) accD (p.1.drop i) S2) Q,
    ⟨_, rfl, Nat.zero_le _, ι.hide D, S, [], [], Lift.hide hD, rfl, rp.hide hD (.intro (fun _ _ z => nomatch z) (fun _ _ z => nomatch z)), upd_same, RDs.nil, Nat.le_refl _, fun x _ o e => by rw [upd_ne (ne_of_none e hD)]; exact e, by rw [List.drop_zero]; exact gs⟩, ?_⟩
  rintro i m' H2 ⟨rfl, hi, ι2, S2, accD, accV, lf, eb, rp2, hH, ra, hl, hid, g2⟩
  have gr := compM_grd g2
  obtain ⟨q1, q2⟩ := rit i H2 ι2 S2 lf rp2 gr
  by_cases hlt : i < p.1.length
  · obtain ⟨q3, q4⟩ := q1 hlt
    refine .inr ⟨q3, fun H' => i + 1 ≤ p.1.length ∧ ∃ ι2 S2 accD accV, Lift ι H1 ι2 H' ∧ ι2.b = D :: ι.b ∧ Rep H' ι2 X.ek S2 ∧ H' D = some (.lst accV) ∧ RDs H' ι2 accD accV ∧ accD.length ≤ i + 1 ∧
      (∀ x ∈ ι.b, ∀ o, H1 x = some o → H' x = some o) ∧ G X.ek (wat W σ) ι H1 RD (compM p.2 g t m (wipeD δ vs) accD (p.1.drop (i + 1)) S2) Q, fun H' q => ⟨_, by omega, rfl, q⟩, fun x H3 y => ?_⟩
    obtain ⟨d, e, st3, rp3, rd⟩ := q4 x H3 y
    have e2 : p.1.drop i = d :: p.1.drop (i + 1) := by
      have := List.getElem?_eq_some_iff.mp e
      rw [List.drop_eq_getElem_cons hlt, this.2]
    rw [e2, compM, if_pos gr] at g2
    have rs3 : RSt H3 ι2 (wipeD δ vs) (L2.wipe σ vs) := (rs.wipe vs).mono (lf.trans st3.up)
    have hDb : D ∈ ι2.b := by rw [eb]; exact List.mem_cons_self
    have sub : ∀ x ∈ ι.b, x ∈ ι2.b := fun x hx => by rw [eb]; exact List.mem_cons_of_mem _ hx
    -- the target
    have gq := G.quiet (ι2 := ι2) (H2 := H3) (Rl := RSt) (fun _ _ _ => False) g2
    refine hr X.ek _ ι2 S2 H3 (wipeD δ vs) (L2.wipe σ vs) d x _ _ rp3 rs3 rd gq ?_
    rw [wipe_wipe]
    · rintro σ2 H4 hw ⟨ι4, S4, δ4, st4, rp4, rs4, g4⟩
      refine ⟨hw, ι4, S4, δ4, rp4, rs4, (G.quiet (ι2 := ι4) (H2 := H4) (Rl := REq) _ g4).imp fun b H5 ⟨ι5, S5, k, st5, rp5, ek, g5⟩ => ?_⟩
      rw [show b = k from ek]
      have st35 : Step ι2 H2 ι5 H5 := (st3.trans st4).trans st5
      cases k with
      | false =>
        rw [if_neg Bool.false_ne_true] at g5 ⊢
        exact ⟨hlt, ι5, S5, accD, accV, lf.trans st35.up, st35.bb.trans eb, rp5, st35.hid D hDb _ hH, ra.mono st35.up, by omega, fun x hx o ex => st35.hid x (sub x hx) o (hid x hx o ex), g5⟩
      | true =>
        rw [if_pos rfl] at g5 ⊢
        refine ⟨ι5, S5, δ4, rp5, rs4.mono st5.up, (G.quiet (ι2 := ι5) (H2 := H5) (Rl := RD) _ g5).imp fun yv H6 ⟨ι6, S6, yd, st6, rp6, ry, g6⟩ => ?_⟩
        have st36 : Step ι2 H2 ι6 H6 := st35.trans st6
        have eb6 : ι6.b = D :: ι.b := st36.bb.trans eb
        have hD6 : D ∈ ι6.b := by rw [eb6]; exact List.mem_cons_self
        have hH6 := st36.hid D hDb _ hH
        have la : accV.length = accD.length := ra.length.symm
        refine ⟨accV, hH6, by omega, hlt, ?_⟩
        obtain ⟨rp7, l7⟩ := rp6.writeHid (o := .lst (accV ++ [yv])) hD6 (.intro (fun _ _ z => nomatch z) (fun _ _ z => nomatch z))
        refine ⟨ι6, S6, accD ++ [yd], accV ++ [yv], (lf.trans st36.up).trans l7, eb6, rp7, upd_same, ((ra.mono st36.up).mono l7).app (.cons (ry.mono l7) .nil), by simp; omega, fun x hx o ex => ?_, g6⟩
        have : x ≠ D := fun z => hno.2 (z ▸ hx)
        rw [upd_ne this]
        exact st36.hid x (sub x hx) o (hid x hx o ex)
  · have e : i = p.1.length := by omega
    subst e
    rw [List.drop_length, compM, if_pos gr] at g2
    refine .inl ⟨q2 (Nat.le_refl _), ?_⟩
    have eb' : ι2.b = D :: ι.b := eb
    refine g2.at (ι' := ⟨ι2.a, ι.b, ι2.k⟩) (H' := H2) ⟨lf.trans (Lift.show eb'), rfl, hid⟩ (rp2.show eb') ?_
    simp only [RD]
    exact ⟨D, accV, rfl, hH, ⟨(rp2.bt D (by rw [eb]; exact List.mem_cons_self)).1, hno.2⟩, by omega, ra.mono (Lift.show eb')⟩
theorem de_comp {elt tg iter : Expr} {ifs : List Expr} {scope : Scope} {own : List (Str × Nat)} {gt : TG} {src : Src} (hc : X.calm = true) (hN : X.N.Nodup) (hi : DI X W tg iter src) (ok : BlkOk X.N X.env.scope scope own)
    (hg : ∀ (s : Shared) (H : Hp) (C : Addr) (cl : List (Str × Addr)) (fp : List Addr), PG (X.blk s H scope (compEnvC scope cl C X.env) fp) tg gt) (hr : TgR (own.map (·.2)) gt g)
    (ht : ∀ (s : Shared) (H : Hp) (C : Addr) (cl : List (Str × Addr)) (fp : List Addr), DTs (X.blk s H scope (compEnvC scope cl C X.env) fp) w0 ifs t)
    (he : ∀ (s : Shared) (H : Hp) (C : Addr) (cl : List (Str × Addr)) (fp : List Addr), DE (X.blk s H scope (compEnvC scope cl C X.env) fp) w0 elt m) (hs : ∀ x, foldedSetIterable iter X.env x = pure x := by intro _; rfl) :
    DE X W (.ListComp elt [⟨tg, iter, ifs, 0⟩] scope pos) (mComp src g t m (own.map (·.2))) :=
  pe_imp (pe_lc (tt := tD X.ek w0 REq t) (te := tDE X.ek w0 m) hc hN hi ok hg ht he hs) fun σ H Q h => comp_core (tg := tg) hr h
theorem ds_setComp {i : Nat} {y : Str} {py spos : Pos} {elt tg iter : Expr} {ifs : List Expr} {scope : Scope} {own : List (Str × Nat)} {gt : TG} {src : Src} (hc : X.calm = true) (hN : X.N.Nodup) (hy : X.N[i]? = some y) (hyl : X.env.scope.names.lookup y = some .local)
    (hsw : swapsWith (.ListComp elt [⟨tg, iter, ifs, 0⟩] scope pos) (some (.Name y py)) spos.line X.env = pure true) (hi : DI X W tg iter src) (ok : BlkOk X.N X.env.scope scope own)
    (hg : ∀ (s : Shared) (H : Hp) (C : Addr) (cl : List (Str × Addr)) (fp : List Addr), PG (X.blk s H scope (compEnvC scope cl C X.env) fp) tg gt) (hr : TgR (own.map (·.2)) gt g)
    (ht : ∀ (s : Shared) (H : Hp) (C : Addr) (cl : List (Str × Addr)) (fp : List Addr), DTs (X.blk s H scope (compEnvC scope cl C X.env) fp) w0 ifs t)
    (he : ∀ (s : Shared) (H : Hp) (C : Addr) (cl : List (Str × Addr)) (fp : List Addr), DE (X.blk s H scope (compEnvC scope cl C X.env) fp) w0 elt m) (hs : ∀ x, foldedSetIterable iter X.env x = pure x := by intro _; rfl) :
    DS X W (.Assign [.Name y py] (.ListComp elt [⟨tg, iter, ifs, 0⟩] scope pos) spos) (sAsg (mComp src g t m (own.map (·.2))) (gmName i)) :=
  ps_imp (ps_setLc (tt := tD X.ek w0 REq t) (te := tDE X.ek w0 m) hc hN hy hyl hsw hi ok hg ht he hs) fun D σ H h =>
    comp_core (tg := tg) hr (s_bind h fun ι S δ d v H' rp rs r g => g ι H' _ .refl rp (rs_set rs r _))
end
end PM

/-! PM, part 6: a def's body and its end -/
namespace PM
open PySem PySem.Spec L2 PyProof.Rows
def runB (body : Sm) (N : Nat) (ds : List D) (S : Sto) : R D := match body (ds.map some ++ List.replicate (N - ds.length) none) S with
  | .nx _ S' => .ok .non S'
  | .rt d S' => .ok d S'
  | .exc c _ S' => .exc c S'
  | _ => .stuck
/-- what is done with a def's objects at its end -/
abbrev Fin := Sto → R D → R D
def FinOk (fin : Fin) : Prop := ∀ (mg : EnvK) (W : XK) (ι : Z) (S : Sto) (H : Hp) (r : R D) (Q : VK), Rep H ι mg S → G mg W ι H RD (fin S r) Q → G mg W ι H RD r Q
def finRaw : Fin := fun _ r => r
theorem finRaw_ok : FinOk finRaw := fun _ _ _ _ _ _ _ _ h => h
section
variable {P : Program} {w : World} {K : PySem.W.Frag} {mg : Str → Option Value} {base : Heap}
theorem rst_start {H : Hp} {ι : Z} {N : List Str} {ds : List D} {vs : List V} (r : RDs H ι ds vs) : RSt H ι (ds.map some ++ List.replicate (N.length - ds.length) none) (L2.start N vs) := by
  have hl := r.length
  refine ⟨by simp [L2.start, hl], fun i d e => ?_⟩
  by_cases hi : i < ds.length
  · rw [List.getElem?_append_left (by simpa using hi), List.getElem?_map] at e
    rw [List.getElem?_eq_getElem hi] at e
    have e2 : ds[i] = d := by simpa using e
    obtain ⟨v, hv, rd⟩ := r.get (List.getElem?_eq_getElem hi)
    refine ⟨v, ?_, by rw [← e2]; exact rd⟩
    unfold L2.start
    rw [List.getElem?_append_left (by simp [← hl, hi]), List.getElem?_map, hv]; rfl
  · rw [List.getElem?_append_right (by simpa using hi)] at e
    have := List.mem_of_getElem? e
    rw [List.mem_replicate] at this
    exact absurd this.2 (by simp)
theorem has_fn {x qual : Str} {st : Stmt} {f : Addr} {fd : FuncData} {N ps : List Str} {k n : Nat} {body : Sm} {fin : Fin} (F : Fun K x qual st f fd) (Sc : FnScope N ps (defScope st)) (hn : ps.length = n) (hf : FinOk fin)
    (h : ∀ (cdv : Value) (A : Around) (outer : List Env) (s : Shared) (H : Hp) (E : XK), Room k (A.deeper (envOfC qual (defScope st) s.heap.objs.size f cdv)) →
      DSs (cxOf (L2.CX P w) P w K mg base N qual (defScope st) f cdv A outer s H E) (fun cls d _ H => E cls d H) (defBody st) body) :
    FnOk P w K mg base (L2.CX P w) (k + 1) f fd ps (spD ⟨mg, K⟩ n (fun ds S => fin S (runB body N.length ds S))) := by
  refine F.okX Sc (fun vs H Q E q => by rw [q.1, hn]) (fun cdv A outer s H vs Q E hr hsp => ?_)
  refine ⟨_, h cdv A outer s H E hr, ?_⟩
  obtain ⟨hl, ι, S, ds, rp, rd, g⟩ := hsp
  have g := hf _ _ _ _ _ _ _ rp g
  refine ⟨ι, S, _, rp, rst_start rd, ?_⟩
  show GS _ _ ι H _ _
  unfold runB at g
  revert g
  cases body (ds.map some ++ List.replicate (N.length - ds.length) none) S with
  | nx δ S' => exact fun g ι' H' σ' st rp rs => g ι' H' .non st rp (by simp only [RD])
  | rt d S' => exact fun g ι' H' v st rp r => g ι' H' v st rp r
  | exc c δ S' => exact fun g ι' H' σ' cls dx st rp rs rx => g ι' H' cls dx st rp rx
  | bk δ S' => exact fun g => g.elim
  | ct δ S' => exact fun g => g.elim
  | stuck => exact fun g => g.elim
theorem has_of {x qual : Str} {st : Stmt} {f : Addr} {fd : FuncData} {N ps : List Str} {k n : Nat} {body : Sm} {fin : Fin} (F : Fun K x qual st f fd) (Sc : FnScope N ps (defScope st)) (hm : mg x = some (.ref f)) (hb : Binds K fd ps []) (hn : ps.length = n) (hf : FinOk fin)
    (h : ∀ (cdv : Value) (A : Around) (outer : List Env) (s : Shared) (H : Hp) (E : XK), Room k (A.deeper (envOfC qual (defScope st) s.heap.objs.size f cdv)) →
      DSs (cxOf (L2.CX P w) P w K mg base N qual (defScope st) f cdv A outer s H E) (fun cls d _ H => E cls d H) (defBody st) body) :
    Has P w K mg base (k + 1) x n (fun ds S => fin S (runB body N.length ds S)) := ⟨f, fd, ps, has_fn F Sc hn hf h, hm, F.kp, hb, hn⟩
theorem has_zero {x qual : Str} {st : Stmt} {f : Addr} {fd : FuncData} {ps : List Str} {n : Nat} (F : Fun K x qual st f fd) (hm : mg x = some (.ref f)) (hb : Binds K fd ps []) (hn : ps.length = n) : Has P w K mg base 0 x n (fun _ _ => .stuck) :=
  ⟨f, fd, ps, ⟨fun vs H Q E q => by rw [q.1, hn], fun A outer s H args us vs Q E _ _ _ _ q => by
    obtain ⟨_, ι, S, ds, _, _, g⟩ := q
    exact g.elim⟩, hm, F.kp, hb, hn⟩
end
/-! ### no new objects are left behind -/
section
variable (n : Nat)
mutual
def D.cl : D → Bool
  | .tup ds => D.cls ds
  | .lst ds => D.cls ds
  | .scr ds => D.cls ds
  | .dct _ ds => D.cls ds
  | .ref m => decide (m < n)
  | _ => true
def D.cls : List D → Bool
  | [] => true
  | d :: ds => D.cl d && D.cls ds
end
def MO.cl : MO → Bool
  | .lst ds => D.cls n ds
  | .dK _ ds => D.cls n ds
  | .dT _ ds => D.cls n ds
  | .ins _ _ ds => D.cls n ds
end
section
variable {H : Hp} {ι : Z} {mg : EnvK}
mutual
theorem RD.cl : ∀ (d : D) (v : V), RD H ι d v → D.cl ι.a.length d = true
  | .non, _, _ => by simp only [D.cl]
  | .bl _, _, _ => by simp only [D.cl]
  | .int _, _, _ => by simp only [D.cl]
  | .str _, _, _ => by simp only [D.cl]
  | .tup ds, _, h => by
    simp only [RD] at h; simp only [D.cl]
    obtain ⟨a, vs, e, h1, z, h2⟩ := h
    exact RDs.cls ds vs h2
  | .lst ds, _, h => by
    simp only [RD] at h; simp only [D.cl]
    obtain ⟨a, vs, e, h1, n, z, h2⟩ := h
    exact RDs.cls ds vs h2
  | .scr ds, _, h => by
    simp only [RD] at h; simp only [D.cl]
    obtain ⟨a, vs, e, h1, z, h2⟩ := h
    exact RDs.cls ds vs h2
  | .dct ks ds, _, h => by
    simp only [RD] at h; simp only [D.cl]
    obtain ⟨a, vs, e, h1, n, z, y, h2⟩ := h
    exact RDs.cls ds vs h2
  | .ref m, _, h => by
    simp only [RD] at h; simp only [D.cl]
    obtain ⟨a, e, h1⟩ := h
    exact decide_eq_true (List.getElem?_eq_some_iff.mp h1).1
theorem RDs.cls : ∀ (ds : List D) (vs : List V), RDs H ι ds vs → D.cls ι.a.length ds = true
  | [], _, _ => by simp only [D.cls]
  | d :: ds, _, h => by
    simp only [RDs] at h; simp only [D.cls]
    obtain ⟨v, r, e, h1, h2⟩ := h
    rw [RD.cl d v h1, RDs.cls ds r h2]; rfl
end
abbrev Z.cut (ι : Z) (n : Nat) : Z := ⟨ι.a.take n, ι.b, ι.k⟩
theorem Z.no_cut {ι : Z} {n : Nat} {a : Addr} (h : ι.no a) : (ι.cut n).no a := ⟨fun q => h.1 (List.mem_of_mem_take q), h.2⟩
mutual
theorem RD.cut (n : Nat) : ∀ (d : D) (v : V), RD H ι d v → D.cl n d = true → RD H (ι.cut n) d v
  | .non, _, h, _ => by simp only [RD] at h ⊢; exact h
  | .bl _, _, h, _ => by simp only [RD] at h ⊢; exact h
  | .int _, _, h, _ => by simp only [RD] at h ⊢; exact h
  | .str _, _, h, _ => by simp only [RD] at h ⊢; exact h
  | .tup ds, _, h, c => by
    simp only [RD] at h ⊢; simp only [D.cl] at c
    obtain ⟨a, vs, e, h1, z, h2⟩ := h
    exact ⟨a, vs, e, h1, z, RDs.cut n ds vs h2 c⟩
  | .lst ds, _, h, c => by
    simp only [RD] at h ⊢; simp only [D.cl] at c
    obtain ⟨a, vs, e, h1, no, z, h2⟩ := h
    exact ⟨a, vs, e, h1, Z.no_cut no, z, RDs.cut n ds vs h2 c⟩
  | .scr ds, _, h, c => by
    simp only [RD] at h ⊢; simp only [D.cl] at c
    obtain ⟨a, vs, e, h1, z, h2⟩ := h
    exact ⟨a, vs, e, h1, z, RDs.cut n ds vs h2 c⟩
  | .dct ks ds, _, h, c => by
    simp only [RD] at h ⊢; simp only [D.cl] at c
    obtain ⟨a, vs, e, h1, no, z, y, h2⟩ := h
    exact ⟨a, vs, e, h1, Z.no_cut no, z, y, RDs.cut n ds vs h2 c⟩
  | .ref m, _, h, c => by
    simp only [RD] at h ⊢; simp only [D.cl, decide_eq_true_eq] at c
    obtain ⟨a, e, h1⟩ := h
    exact ⟨a, e, by rw [List.getElem?_take_of_lt c]; exact h1⟩
theorem RDs.cut (n : Nat) : ∀ (ds : List D) (vs : List V), RDs H ι ds vs → D.cls n ds = true → RDs H (ι.cut n) ds vs
  | [], _, h, _ => by simp only [RDs] at h ⊢; exact h
  | d :: ds, _, h, c => by
    simp only [RDs] at h ⊢; simp only [D.cls, Bool.and_eq_true] at c
    obtain ⟨v, r, e, h1, h2⟩ := h
    exact ⟨v, r, e, RD.cut n d v h1 c.1, RDs.cut n ds r h2 c.2⟩
end
theorem RO.cut (n : Nat) {a : Addr} : ∀ {o : MO}, RO H ι mg a o → o.cl n = true → RO H (ι.cut n) mg a o
  | .lst ds, ⟨vs, e, z, r⟩, c => ⟨vs, e, z, r.cut n _ _ c⟩
  | .dK ks ds, ⟨vs, e, z, y, r⟩, c => ⟨vs, e, z, y, r.cut n _ _ c⟩
  | .dT ks ds, ⟨vs, e, z, y, r⟩, c => ⟨vs, e, z, y, r.cut n _ _ c⟩
  | .ins cc fs ds, ⟨C, dx, vs, m, e, z, r⟩, c => ⟨C, dx, vs, m, e, z, r.cut n _ _ c⟩
theorem RO.cl {a : Addr} : ∀ {o : MO}, RO H ι mg a o → o.cl ι.a.length = true
  | .lst ds, ⟨vs, e, z, r⟩ => RDs.cls ds vs r
  | .dK ks ds, ⟨vs, e, z, y, r⟩ => RDs.cls ds vs r
  | .dT ks ds, ⟨vs, e, z, y, r⟩ => RDs.cls ds vs r
  | .ins cc fs ds, ⟨C, dx, vs, m, e, z, r⟩ => RDs.cls ds vs r
end
/-- the old objects hold no new ones -/
def ClS (S S' : Sto) : Prop := ∀ (m : Nat) (o : MO), m < S.length → S'[m]? = some o → S[m]? = some o ∨ o.cl S.length = true
theorem ClS.refl {S : Sto} : ClS S S := fun _ _ _ h => .inl h
theorem ClS.app {S T : Sto} : ClS S (S ++ T) := fun m o h e => .inl (by rw [List.getElem?_append_left h] at e; exact e)
theorem cut_step {H H' : Hp} {ι ι' : Z} {mg : EnvK} {S S' : Sto} (rp : Rep H ι mg S) (st : Step ι H ι' H') (rp' : Rep H' ι' mg S') (c : ClS S S') : Step ι H (ι'.cut S.length) H' ∧ Rep H' (ι'.cut S.length) mg (S'.take S.length) := by
  have hl : ι.a.length ≤ ι'.a.length := by
    rcases Nat.lt_or_ge ι'.a.length ι.a.length with h | h
    · have := st.up.pre ι'.a.length (ι.a[ι'.a.length]) (List.getElem?_eq_getElem h)
      rw [List.getElem?_eq_none (Nat.le_refl _)] at this; cases this
    · exact h
  refine ⟨⟨⟨fun m a h => ?_, st.up.tup, fun a xs n h => ⟨(st.up.lst a xs n h).1, Z.no_cut (st.up.lst a xs n h).2⟩, st.up.scr, fun a xs n h => ⟨(st.up.dct a xs n h).1, Z.no_cut (st.up.dct a xs n h).2⟩, st.up.kk⟩, st.bb, st.hid⟩,
    ⟨rp'.kk, by simp [rp'.len], rp'.nd.sublist (List.take_sublist _ _), fun x hx => ⟨fun q => (rp'.bt x hx).1 (List.mem_of_mem_take q), (rp'.bt x hx).2⟩, fun m a o h1 h2 => ?_⟩⟩
  · have hm : m < S.length := by rw [← rp.len]; exact (List.getElem?_eq_some_iff.mp h).1
    show (ι'.a.take S.length)[m]? = some a
    rw [List.getElem?_take_of_lt hm]; exact st.up.pre m a h
  · have h1 : (ι'.a.take S.length)[m]? = some a := h1
    have hm : m < S.length := by
      have := (List.getElem?_eq_some_iff.mp h1).1
      simp at this; omega
    rw [List.getElem?_take_of_lt hm] at h1 h2
    refine (rp'.obj m a o h1 h2).cut _ ?_
    rcases c m o hm h2 with q | q
    · have hi : m < ι.a.length := by rw [rp.len]; exact hm
      have := (rp.obj m _ o (List.getElem?_eq_getElem hi) q).cl
      rw [rp.len] at this; exact this
    · exact q
/-! an answer without the new objects' numbers -/
mutual
def fz (rc : List D → Option (List D)) (S : Sto) (n : Nat) : D → Option D
  | .ref m => if m < n then some (.ref m) else match S[m]? with
    | some (.lst ds) => (rc ds).map .lst
    | some (.dK ks ds) => (rc ds).map (.dct ks)
    | _ => none
  | .tup ds => (fzs rc S n ds).map .tup
  | .lst ds => (fzs rc S n ds).map .lst
  | .scr ds => (fzs rc S n ds).map .scr
  | .dct ks ds => (fzs rc S n ds).map (.dct ks)
  | .non => some .non
  | .bl b => some (.bl b)
  | .int i => some (.int i)
  | .str s => some (.str s)
def fzs (rc : List D → Option (List D)) (S : Sto) (n : Nat) : List D → Option (List D)
  | [] => some []
  | d :: ds => (fz rc S n d).bind fun e => (fzs rc S n ds).map (e :: ·)
end
def frz (S : Sto) (n : Nat) : Nat → List D → Option (List D)
  | 0, ds => fzs (fun _ => none) S n ds
  | k + 1, ds => fzs (frz S n k) S n ds
section
variable {H : Hp} {ι : Z} {mg : EnvK} {S : Sto} {n : Nat} {rc : List D → Option (List D)}
mutual
theorem fz_ok (rp : Rep H ι mg S) (hrc : ∀ ds es vs, rc ds = some es → RDs H ι ds vs → RDs H (ι.cut n) es vs) : ∀ (d e : D) (v : V), fz rc S n d = some e → RD H ι d v → RD H (ι.cut n) e v
  | .non, e, v, h, r => by simp only [fz, Option.some.injEq] at h; subst h; simp only [RD] at r ⊢; exact r
  | .bl _, e, v, h, r => by simp only [fz, Option.some.injEq] at h; subst h; simp only [RD] at r ⊢; exact r
  | .int _, e, v, h, r => by simp only [fz, Option.some.injEq] at h; subst h; simp only [RD] at r ⊢; exact r
  | .str _, e, v, h, r => by simp only [fz, Option.some.injEq] at h; subst h; simp only [RD] at r ⊢; exact r
  | .tup ds, e, v, h, r => by
    simp only [fz, Option.map_eq_some_iff] at h
    obtain ⟨es, h, e⟩ := h
    subst e
    simp only [RD] at r ⊢
    obtain ⟨a, vs, e, h1, z, h2⟩ := r
    have q := fzs_ok rp hrc ds es vs h h2
    exact ⟨a, vs, e, h1, by rw [q.length, ← h2.length]; exact z, q⟩
  | .lst ds, e, v, h, r => by
    simp only [fz, Option.map_eq_some_iff] at h
    obtain ⟨es, h, e⟩ := h
    subst e
    simp only [RD] at r ⊢
    obtain ⟨a, vs, e, h1, no, z, h2⟩ := r
    have q := fzs_ok rp hrc ds es vs h h2
    exact ⟨a, vs, e, h1, Z.no_cut no, by rw [q.length, ← h2.length]; exact z, q⟩
  | .scr ds, e, v, h, r => by
    simp only [fz, Option.map_eq_some_iff] at h
    obtain ⟨es, h, e⟩ := h
    subst e
    simp only [RD] at r ⊢
    obtain ⟨a, vs, e, h1, z, h2⟩ := r
    have q := fzs_ok rp hrc ds es vs h h2
    exact ⟨a, vs, e, h1, by rw [q.length, ← h2.length]; exact z, q⟩
  | .dct ks ds, e, v, h, r => by
    simp only [fz, Option.map_eq_some_iff] at h
    obtain ⟨es, h, e⟩ := h
    subst e
    simp only [RD] at r ⊢
    obtain ⟨a, vs, e, h1, no, z, y, h2⟩ := r
    have q := fzs_ok rp hrc ds es vs h h2
    exact ⟨a, vs, e, h1, Z.no_cut no, by rw [q.length, ← h2.length]; exact z, y, q⟩
  | .ref m, e, v, h, r => by
    simp only [RD] at r
    obtain ⟨a, e1, h1⟩ := r
    simp only [fz] at h
    split at h
    · rename_i hm
      cases h
      simp only [RD]
      exact ⟨a, e1, by rw [List.getElem?_take_of_lt hm]; exact h1⟩
    · rename_i hm
      obtain ⟨o, e2, ro⟩ := rp.has h1
      have no : (ι.cut n).no a := by
        refine ⟨fun q => ?_, fun q => (rp.bt a q).1 (List.mem_of_getElem? h1)⟩
        obtain ⟨j, hj⟩ := List.getElem?_of_mem q
        have hjn : j < n := by
          have := (List.getElem?_eq_some_iff.mp hj).1
          simp at this; omega
        rw [List.getElem?_take_of_lt hjn] at hj
        obtain ⟨l1, e3⟩ := List.getElem?_eq_some_iff.mp hj
        obtain ⟨l2, e4⟩ := List.getElem?_eq_some_iff.mp h1
        have := (List.getElem_inj rp.nd).mp (e3.trans e4.symm)
        omega
      rw [e2] at h
      cases o with
      | lst ds =>
        simp only [Option.map_eq_some_iff] at h
        obtain ⟨es, h, e⟩ := h
        subst e
        obtain ⟨vs, h3, z, h4⟩ := ro
        have q := hrc ds es vs h h4
        simp only [RD]
        exact ⟨a, vs, e1, h3, no, by rw [q.length, ← h4.length]; exact z, q⟩
      | dK ks ds =>
        simp only [Option.map_eq_some_iff] at h
        obtain ⟨es, h, e⟩ := h
        subst e
        obtain ⟨vs, h3, z, y, h4⟩ := ro
        have q := hrc ds es vs h h4
        simp only [RD]
        exact ⟨a, vs, e1, .inl h3, no, by rw [q.length, ← h4.length]; exact z, y, q⟩
      | dT ks ds => cases h
      | ins c fs ds => cases h
theorem fzs_ok (rp : Rep H ι mg S) (hrc : ∀ ds es vs, rc ds = some es → RDs H ι ds vs → RDs H (ι.cut n) es vs) : ∀ (ds es : List D) (vs : List V), fzs rc S n ds = some es → RDs H ι ds vs → RDs H (ι.cut n) es vs
  | [], es, vs, h, r => by simp only [fzs, Option.some.injEq] at h; subst h; simp only [RDs] at r ⊢; exact r
  | d :: ds, es, vs, h, r => by
    simp only [fzs] at h
    simp only [RDs] at r
    obtain ⟨v, w, e, h1, h2⟩ := r
    cases h3 : fz rc S n d with
    | none => rw [h3] at h; cases h
    | some d' =>
      rw [h3] at h
      simp only [Option.bind_some, Option.map_eq_some_iff] at h
      obtain ⟨es', h, e'⟩ := h
      subst e' e
      exact .cons (fz_ok rp hrc d d' v h3 h1) (fzs_ok rp hrc ds es' w h h2)
end
theorem frz_ok (rp : Rep H ι mg S) : ∀ (k : Nat) (ds es : List D) (vs : List V), frz S n k ds = some es → RDs H ι ds vs → RDs H (ι.cut n) es vs
  | 0, ds, es, vs, h, r => fzs_ok rp (fun _ _ _ q => by cases q) ds es vs h r
  | k + 1, ds, es, vs, h, r => fzs_ok rp (fun _ _ _ q r => frz_ok rp k _ _ _ q r) ds es vs h r
end
open Classical in
/-- a def's new lists and dicts are changed no more behind it -/
noncomputable def finFrz (k : Nat) : Fin := fun S r => match r with
  | .ok d S' => if ClS S S' then (match frz S' S.length k [d] with
    | some [e] => .ok e (S'.take S.length)
    | _ => .stuck) else .stuck
  | .exc c S' => if ClS S S' ∧ D.cls S.length c.ds = true then .exc c (S'.take S.length) else .stuck
  | .stuck => .stuck
theorem RX.cut {H : Hp} {ι : Z} {mg : EnvK} {c : Exc} {cls : Value} {dx : Option Addr} (n : Nat) (h : RX H ι mg c cls dx) (q : D.cls n c.ds = true) : RX H (ι.cut n) mg c cls dx := by
  refine ⟨h.1, ?_⟩
  rcases h.2 with z | ⟨d, vs, e1, e2, e3, r⟩
  · exact .inl z
  · exact .inr ⟨d, vs, e1, e2, e3, r.cut n _ _ q⟩
theorem finFrz_ok {k : Nat} : FinOk (finFrz k) := fun mg W ι S H r Q rp g => by
  unfold finFrz at g
  cases r with
  | ok d S' =>
    simp only at g
    split at g
    · rename_i c
      intro ι' H' v st rp' rd
      obtain ⟨st2, rp2⟩ := cut_step rp st rp' c
      split at g
      · rename_i e he
        have q := frz_ok (n := S.length) rp' k [d] [e] [v] he (.cons rd .nil)
        simp only [RDs] at q
        obtain ⟨v', r', e', q, _⟩ := q
        cases e'
        exact g _ H' v st2 rp2 q
      · exact g.elim
    · exact g.elim
  | exc c S' =>
    simp only at g
    split at g
    · rename_i h
      intro ι' H' cls dx st rp' rx
      obtain ⟨st2, rp2⟩ := cut_step rp st rp' h.1
      exact g _ H' cls dx st2 rp2 (rx.cut _ h.2)
    · exact g.elim
  | stuck => exact g.elim
/-! an answer that holds one new list which the caller may change -/
structure Sub (n : Nat) (ι ι' : Z) : Prop where
  at' : ∀ (m : Nat) (a : Addr), m < n → ι.a[m]? = some a → ι'.a[m]? = some a
  no : ∀ a, ι.no a → ι'.no a
  k : ι'.k = ι.k
section
variable {H : Hp} {ι ι' : Z} {mg : EnvK} {n : Nat}
mutual
theorem RD.sub (s : Sub n ι ι') : ∀ (d : D) (v : V), RD H ι d v → D.cl n d = true → RD H ι' d v
  | .non, _, h, _ => by simp only [RD] at h ⊢; exact h
  | .bl _, _, h, _ => by simp only [RD] at h ⊢; exact h
  | .int _, _, h, _ => by simp only [RD] at h ⊢; exact h
  | .str _, _, h, _ => by simp only [RD] at h ⊢; exact h
  | .tup ds, _, h, c => by
    simp only [RD] at h ⊢; simp only [D.cl] at c
    obtain ⟨a, vs, e, h1, z, h2⟩ := h
    exact ⟨a, vs, e, h1, z, RDs.sub s ds vs h2 c⟩
  | .lst ds, _, h, c => by
    simp only [RD] at h ⊢; simp only [D.cl] at c
    obtain ⟨a, vs, e, h1, no, z, h2⟩ := h
    exact ⟨a, vs, e, h1, s.no _ no, z, RDs.sub s ds vs h2 c⟩
  | .scr ds, _, h, c => by
    simp only [RD] at h ⊢; simp only [D.cl] at c
    obtain ⟨a, vs, e, h1, z, h2⟩ := h
    exact ⟨a, vs, e, by rw [s.k]; exact h1, z, RDs.sub s ds vs h2 c⟩
  | .dct ks ds, _, h, c => by
    simp only [RD] at h ⊢; simp only [D.cl] at c
    obtain ⟨a, vs, e, h1, no, z, y, h2⟩ := h
    exact ⟨a, vs, e, h1, s.no _ no, z, y, RDs.sub s ds vs h2 c⟩
  | .ref m, _, h, c => by
    simp only [RD] at h ⊢; simp only [D.cl, decide_eq_true_eq] at c
    obtain ⟨a, e, h1⟩ := h
    exact ⟨a, e, s.at' m a c h1⟩
theorem RDs.sub (s : Sub n ι ι') : ∀ (ds : List D) (vs : List V), RDs H ι ds vs → D.cls n ds = true → RDs H ι' ds vs
  | [], _, h, _ => by simp only [RDs] at h ⊢; exact h
  | d :: ds, _, h, c => by
    simp only [RDs] at h ⊢; simp only [D.cls, Bool.and_eq_true] at c
    obtain ⟨v, r, e, h1, h2⟩ := h
    exact ⟨v, r, e, RD.sub s d v h1 c.1, RDs.sub s ds r h2 c.2⟩
end
theorem RO.sub (s : Sub n ι ι') {a : Addr} : ∀ {o : MO}, RO H ι mg a o → o.cl n = true → RO H ι' mg a o
  | .lst ds, ⟨vs, e, z, r⟩, c => ⟨vs, e, z, r.sub s _ _ c⟩
  | .dK ks ds, ⟨vs, e, z, y, r⟩, c => ⟨vs, e, z, y, r.sub s _ _ c⟩
  | .dT ks ds, ⟨vs, e, z, y, r⟩, c => ⟨vs, e, z, y, r.sub s _ _ c⟩
  | .ins cc fs ds, ⟨C, dx, vs, m, e, z, r⟩, c => ⟨C, dx, vs, m, e, z, r.sub s _ _ c⟩
end
theorem keep_step {H H' : Hp} {ι ι' : Z} {mg : EnvK} {S S' : Sto} {m : Nat} {a : Addr} {ds : List D} (rp : Rep H ι mg S) (st : Step ι H ι' H') (rp' : Rep H' ι' mg S') (c : ClS S S') (hm : S.length ≤ m) (ha : ι'.a[m]? = some a) (hd : S'[m]? = some (.lst ds)) (hc : D.cls S.length ds = true) :
    ∃ ι2 : Z, Step ι H ι2 H' ∧ Rep H' ι2 mg (S'.take S.length ++ [.lst ds]) ∧ RD H' ι2 (.ref S.length) (.ref a) ∧ Sub S.length ι' ι2 := by
  obtain ⟨st2, rp2⟩ := cut_step rp st rp' c
  have hlen : (ι'.a.take S.length).length = S.length := by
    have hml : m < ι'.a.length := (List.getElem?_eq_some_iff.mp ha).1
    rw [List.length_take]; omega
  have notin : a ∉ ι'.a.take S.length := fun hmem => by
    obtain ⟨j, hj⟩ := List.getElem?_of_mem hmem
    have hjn : j < S.length := by
      have := (List.getElem?_eq_some_iff.mp hj).1
      omega
    rw [List.getElem?_take_of_lt hjn] at hj
    obtain ⟨l1, e3⟩ := List.getElem?_eq_some_iff.mp hj
    obtain ⟨l2, e4⟩ := List.getElem?_eq_some_iff.mp ha
    have := (List.getElem_inj rp'.nd).mp (e3.trans e4.symm)
    omega
  have sub : Sub S.length ι' ⟨ι'.a.take S.length ++ [a], ι'.b, ι'.k⟩ := by
    refine ⟨fun j b hj h => ?_, fun b n => ⟨fun h => ?_, n.2⟩, rfl⟩
    · show (ι'.a.take S.length ++ [a])[j]? = some b
      rw [List.getElem?_append_left (by omega), List.getElem?_take_of_lt hj]; exact h
    · rcases List.mem_append.mp h with h | h
      · exact n.1 (List.mem_of_mem_take h)
      · have : b = a := by simpa using h
        subst this
        exact n.1 (List.mem_of_getElem? ha)
  refine ⟨⟨ι'.a.take S.length ++ [a], ι'.b, ι'.k⟩, ⟨⟨fun j b h => ?_, st.up.tup, fun b xs n h => ⟨(st.up.lst b xs n h).1, sub.no _ (st.up.lst b xs n h).2⟩, st.up.scr, fun b xs n h => ⟨(st.up.dct b xs n h).1, sub.no _ (st.up.dct b xs n h).2⟩, st.up.kk⟩, st.bb, st.hid⟩, ?_, ?_, sub⟩
  · have hj : j < S.length := by rw [← rp.len]; exact (List.getElem?_eq_some_iff.mp h).1
    exact sub.at' j b hj (st.up.pre j b h)
  · refine ⟨rp'.kk, by simp; have := rp'.len; have := hlen; rw [List.length_take] at this; omega, ?_, fun x hx => ⟨fun h => ?_, (rp'.bt x hx).2⟩, fun j b o h1 h2 => ?_⟩
    · rw [List.nodup_append]
      refine ⟨rp2.nd, by simp, fun x hx y hy => ?_⟩
      have : y = a := by simpa using hy
      subst this
      rintro rfl; exact notin hx
    · rcases List.mem_append.mp h with h | h
      · exact (rp'.bt x hx).1 (List.mem_of_mem_take h)
      · have : x = a := by simpa using h
        subst this
        exact (rp'.bt x hx).1 (List.mem_of_getElem? ha)
    · have h1 : (ι'.a.take S.length ++ [a])[j]? = some b := h1
      have hS : (S'.take S.length).length = S.length := by
        have := rp'.len; have := hlen; rw [List.length_take] at this ⊢; omega
      by_cases hj : j < S.length
      · rw [List.getElem?_append_left (by omega)] at h1
        rw [List.getElem?_append_left (by omega)] at h2
        rw [List.getElem?_take_of_lt hj] at h1 h2
        refine (rp'.obj j b o h1 h2).sub sub ?_
        rcases c j o hj h2 with q | q
        · have hi : j < ι.a.length := by rw [rp.len]; exact hj
          have := (rp.obj j _ o (List.getElem?_eq_getElem hi) q).cl
          rw [rp.len] at this; exact this
        · exact q
      · rw [List.getElem?_append_right (by omega)] at h1
        rw [List.getElem?_append_right (by omega)] at h2
        have e : j - S.length = 0 := by
          have := (List.getElem?_eq_some_iff.mp h1).1
          simp at this; omega
        rw [hlen, e] at h1; rw [hS, e] at h2
        simp at h1 h2; subst h1 h2
        exact (rp'.obj m a _ ha hd).sub sub hc
  · simp only [RD]
    refine ⟨a, rfl, ?_⟩
    show (ι'.a.take S.length ++ [a])[S.length]? = some a
    rw [List.getElem?_append_right (by omega), hlen]; simp
open Classical in
/-- the answer is a new list that the caller may change -/
noncomputable def finKeep : Fin := fun S r => match r with
  | .ok (.ref m) S' => match S'[m]? with
    | some (.lst ds) => if ClS S S' ∧ S.length ≤ m ∧ D.cls S.length ds = true then .ok (.ref S.length) (S'.take S.length ++ [.lst ds]) else .stuck
    | _ => .stuck
  | _ => .stuck
theorem finKeep_ok : FinOk finKeep := fun mg W ι S H r Q rp g => by
  unfold finKeep at g
  split at g
  · rename_i m S'
    split at g
    · rename_i ds hd
      split at g
      · rename_i c
        intro ι' H' v st rp' rd
        simp only [RD] at rd
        obtain ⟨a, e, h1⟩ := rd
        subst e
        obtain ⟨ι2, st2, rp2, r2, _⟩ := keep_step rp st rp' c.1 c.2.1 h1 hd c.2.2
        exact g ι2 H' _ st2 rp2 r2
      · exact g.elim
    · exact g.elim
  · exact g.elim
open Classical in
/-- the answer is a tuple with such a list at its second place -/
noncomputable def finKeepT : Fin := fun S r => match r with
  | .ok (.tup (x :: .ref m :: ys)) S' => match S'[m]? with
    | some (.lst ds) => if ClS S S' ∧ S.length ≤ m ∧ D.cls S.length ds = true ∧ D.cls S.length (x :: ys) = true then .ok (.tup (x :: .ref S.length :: ys)) (S'.take S.length ++ [.lst ds]) else .stuck
    | _ => .stuck
  | .exc c S' => if ClS S S' ∧ D.cls S.length c.ds = true then .exc c (S'.take S.length) else .stuck
  | _ => .stuck
theorem finKeepT_ok : FinOk finKeepT := fun mg W ι S H r Q rp g => by
  unfold finKeepT at g
  split at g
  · rename_i x m ys S'
    split at g
    · rename_i ds hd
      split at g
      · rename_i c
        intro ι' H' v st rp' rd
        simp only [RD, RDs] at rd
        obtain ⟨t, vs, e, h0, z, v1, r1, e1, rx, v2, r2, e2, ⟨a, e3, h1⟩, rys⟩ := rd
        subst e e1 e2 e3
        obtain ⟨ι2, st2, rp2, rr, sub⟩ := keep_step rp st rp' c.1 c.2.1 h1 hd c.2.2.1
        have hc := c.2.2.2
        simp only [D.cls, Bool.and_eq_true] at hc
        refine g ι2 H' _ st2 rp2 ?_
        simp only [RD, RDs]
        simp only [RD] at rr
        exact ⟨t, _, rfl, h0, z, v1, _, rfl, rx.sub sub _ _ hc.1, _, _, rfl, rr, rys.sub sub _ _ hc.2⟩
      · exact g.elim
    · exact g.elim
  · rename_i c S'
    split at g
    · rename_i h
      intro ι' H' cls dx st rp' rx
      obtain ⟨st2, rp2⟩ := cut_step rp st rp' h.1
      exact g _ H' cls dx st2 rp2 (rx.cut _ h.2)
    · exact g.elim
  · exact g.elim
end PM

/-! PM, part 7: operators -/
namespace PM
open PySem PySem.Spec L2 PyProof.Rows
/-! ### lists as they are read -/
def asL (S : Sto) : D → Option (List D)
  | .lst ds => some ds
  | .ref n => match S[n]? with
    | some (.lst ds) => some ds
    | _ => none
  | _ => none
def rdL (S : Sto) : D → Option (List D)
  | .scr ds => some ds
  | d => asL S d
def rdS (S : Sto) : D → Option (List D)
  | .tup ds => some ds
  | d => rdL S d
section
variable {H : Hp} {ι : Z} {mg : EnvK} {S : Sto} {d : D} {v : V} {ds : List D}
theorem asL_ok (rp : Rep H ι mg S) (r : RD H ι d v) (h : asL S d = some ds) : ∃ a vs, v = .ref a ∧ H a = some (.lst vs) ∧ RDs H ι ds vs ∧ ds.length ≤ sizeLine := by
  cases d with
  | lst es =>
    simp only [asL, Option.some.injEq] at h; subst h
    simp only [RD] at r
    obtain ⟨a, vs, e, h1, n, z, h2⟩ := r
    exact ⟨a, vs, e, h1, h2, z⟩
  | ref n =>
    simp only [RD] at r
    obtain ⟨a, e, h1⟩ := r
    obtain ⟨o, e2, ro⟩ := rp.has h1
    simp only [asL, e2] at h
    cases o with
    | lst es =>
      simp only [Option.some.injEq] at h; subst h
      obtain ⟨vs, h3, z, h4⟩ := ro
      exact ⟨a, vs, e, h3, h4, z⟩
    | _ => cases h
  | _ => cases h
theorem rdL_ok (rp : Rep H ι mg S) (r : RD H ι d v) (h : rdL S d = some ds) : ∃ a vs, v = .ref a ∧ SqL mg.K H a vs ∧ RDs H ι ds vs ∧ ds.length ≤ sizeLine := by
  cases d with
  | scr es =>
    simp only [rdL, Option.some.injEq] at h; subst h
    simp only [RD] at r
    obtain ⟨a, vs, e, h1, z, h2⟩ := r
    exact ⟨a, vs, e, scr_sq rp.kk h1, h2, z⟩
  | lst es => obtain ⟨a, vs, e, h1, h2, z⟩ := asL_ok rp r h; exact ⟨a, vs, e, .of h1, h2, z⟩
  | ref es => obtain ⟨a, vs, e, h1, h2, z⟩ := asL_ok rp r h; exact ⟨a, vs, e, .of h1, h2, z⟩
  | _ => cases h
theorem rdS_ok (rp : Rep H ι mg S) (r : RD H ι d v) (h : rdS S d = some ds) : ∃ a vs, v = .ref a ∧ (SqL mg.K H a vs ∨ SqT mg.K H a vs) ∧ RDs H ι ds vs ∧ ds.length ≤ sizeLine := by
  cases d with
  | tup es =>
    simp only [rdS, Option.some.injEq] at h; subst h
    simp only [RD] at r
    obtain ⟨a, vs, e, h1, z, h2⟩ := r
    exact ⟨a, vs, e, .inr (h1.sq), h2, z⟩
  | lst es => obtain ⟨a, vs, e, h1, h2, z⟩ := rdL_ok rp r h; exact ⟨a, vs, e, .inl h1, h2, z⟩
  | scr es => obtain ⟨a, vs, e, h1, h2, z⟩ := rdL_ok rp r h; exact ⟨a, vs, e, .inl h1, h2, z⟩
  | ref es => obtain ⟨a, vs, e, h1, h2, z⟩ := rdL_ok rp r h; exact ⟨a, vs, e, .inl h1, h2, z⟩
  | _ => cases h
end
section
variable {X : Cx}
theorem opd_int {f : Value → Value → Sem Value} {C : Int → Int → Prop} [∀ i j, Decidable (C i j)] {g : Int → Int → V} {g' : Int → Int → D} (h : OpR X f (rI C g)) (hg : ∀ H ι i j, RD H ι (g' i j) (g i j)) :
    OpD X f (fun x y S => match x, y with
      | .int i, .int j => if C i j then .ok (g' i j) S else .stuck
      | _, _ => .stuck) := by
  refine ⟨_, h, fun W ι S H x y dx dy Q rp rx ry q => ?_⟩
  dsimp only at q
  split at q
  · rename_i i j
    split at q
    · simp only [RD] at rx ry
      exact ⟨i, j, rx, ry, by assumption, q.here rp (hg _ _ i j)⟩
    · exact q.elim
  · exact q.elim
theorem opd_int0 {f : Value → Value → Sem Value} {g : Int → Int → V} {g' : Int → Int → D} (h : OpR X f (rI0 g)) (hg : ∀ H ι i j, RD H ι (g' i j) (g i j)) :
    OpD X f (fun x y S => match x, y with
      | .int i, .int j => .ok (g' i j) S
      | _, _ => .stuck) := by
  refine ⟨_, h, fun W ι S H x y dx dy Q rp rx ry q => ?_⟩
  dsimp only at q
  split at q
  · rename_i i j
    simp only [RD] at rx ry
    exact ⟨i, j, rx, ry, q.here rp (hg _ _ i j)⟩
  · exact q.elim
def opSub (x y : D) (S : Sto) : R D := match x, y with
  | .int i, .int j => .ok (.int (i - j)) S
  | _, _ => .stuck
theorem opSub_ok : OpD X (binaryOp .Sub) opSub := opd_int0 op_sub fun _ _ _ _ => by simp only [RD]
instance (i j : Int) : Decidable (CDiv i j) := by unfold CDiv; infer_instance
instance (i j : Int) : Decidable (CPow i j) := by unfold CPow; infer_instance
instance (i j : Int) : Decidable (CMul i j) := by unfold CMul; infer_instance
def opDiv (x y : D) (S : Sto) : R D := match x, y with
  | .int i, .int j => if CDiv i j then .ok (.int (i / j)) S else .stuck
  | _, _ => .stuck
theorem opDiv_ok : OpD X (binaryOp .FloorDiv) opDiv := opd_int op_fdiv fun _ _ _ _ => by simp only [RD]
def opMod (x y : D) (S : Sto) : R D := match x, y with
  | .int i, .int j => if 0 < j then .ok (.int (i % j)) S else .stuck
  | _, _ => .stuck
theorem opMod_ok : OpD X (binaryOp .Mod) opMod := opd_int (C := fun _ j => 0 < j) op_mod fun _ _ _ _ => by simp only [RD]
def opPow (x y : D) (S : Sto) : R D := match x, y with
  | .int i, .int j => if CPow i j then .ok (.int (i ^ j.toNat)) S else .stuck
  | _, _ => .stuck
theorem opPow_ok : OpD X (binaryOp .Pow) opPow := opd_int op_pow fun _ _ _ _ => by simp only [RD]
def opLt (x y : D) (S : Sto) : R D := match x, y with
  | .int i, .int j => .ok (.bl (decide (i < j))) S
  | _, _ => .stuck
theorem opLt_ok : OpD X (compareOp .Lt) opLt := opd_int0 op_lt fun _ _ _ _ => by simp only [RD]
def opLe (x y : D) (S : Sto) : R D := match x, y with
  | .int i, .int j => .ok (.bl (decide (i ≤ j))) S
  | _, _ => .stuck
theorem opLe_ok : OpD X (compareOp .LtE) opLe := opd_int0 op_le fun _ _ _ _ => by simp only [RD]
def opGt (x y : D) (S : Sto) : R D := match x, y with
  | .int i, .int j => .ok (.bl (decide (j < i))) S
  | _, _ => .stuck
theorem opGt_ok : OpD X (compareOp .Gt) opGt := opd_int0 op_gt fun _ _ _ _ => by simp only [RD]
/-- >= of numbers, of texts -/
def opGe (x y : D) (S : Sto) : R D := match x, y with
  | .int i, .int j => .ok (.bl (decide (j ≤ i))) S
  | .str i, .str j => .ok (.bl (!decide (i.cps.toList < j.cps.toList))) S
  | _, _ => .stuck
theorem opGe_ok : OpD X (compareOp .GtE) opGe := by
  refine ⟨_, op_ge.or op_ge_str, fun W ι S H x y dx dy Q rp rx ry q => ?_⟩
  unfold opGe at q
  split at q
  · rename_i i j
    simp only [RD] at rx ry
    exact .inl ⟨i, j, rx, ry, q.here rp (by simp only [RD])⟩
  · rename_i i j
    simp only [RD] at rx ry
    exact .inr ⟨i, j, rx.1, ry.1, q.here rp (by simp only [RD])⟩
  · exact q.elim
def opAdd (x y : D) (S : Sto) : R D := match x, y with
  | .int i, .int j => .ok (.int (i + j)) S
  | .str a, .str b => if a.length + b.length ≤ sizeLine then .ok (.str (a ++ b)) S else .stuck
  | .tup a, .tup b => newTup (a ++ b) S
  | x, y => match asL S x, asL S y with
    | some a, some b => newLst (a ++ b) S
    | _, _ => .stuck
theorem str_len_app (a b : Str) : (a ++ b).length = a.length + b.length := by
  show (a.cps ++ b.cps).size = _
  simp [Array.size_append]; rfl
theorem opAdd_ok : OpD X (binaryOp .Add) opAdd := by
  refine ⟨_, op_add.or (op_add_str.or (op_catF.or op_cat)), fun W ι S H x y dx dy Q rp rx ry q => ?_⟩
  unfold opAdd at q
  split at q
  · rename_i i j
    simp only [RD] at rx ry
    exact .inl ⟨i, j, rx, ry, q.here rp (by simp only [RD])⟩
  · rename_i a b
    split at q
    · rename_i h
      simp only [RD] at rx ry
      exact .inr (.inl ⟨a, b, rx.1, ry.1, h, q.here rp (by simp only [RD]; exact ⟨trivial, by rw [str_len_app]; exact h⟩)⟩)
    · exact q.elim
  · rename_i a b
    have rx' := rx
    have ry' := ry
    simp only [RD] at rx ry
    obtain ⟨p, vs, e1, h1, z1, r1⟩ := rx
    obtain ⟨p2, vs2, e2, h2, z2, r2⟩ := ry
    have hz : (a ++ b).length ≤ sizeLine := by
      unfold newTup at q
      split at q
      · assumption
      · exact q.elim
    have q' := g_newTup q rp (r1.app r2)
    refine .inr (.inr (.inl ⟨p, p2, vs, vs2, e1, e2, h1.sq, h2.sq, by rw [← r1.length, ← r2.length, ← List.length_append]; exact hz, fun z => ?_, fun _ z => ?_, fun _ _ => q'.2⟩))
    · unfold newTup at q
      rw [if_pos hz] at q
      subst z
      have : a = [] := List.length_eq_zero_iff.mp (by rw [r1.length]; rfl)
      subst this
      rw [← e2]
      exact q.here rp (by simpa using ry')
    · unfold newTup at q
      rw [if_pos hz] at q
      subst z
      have : b = [] := List.length_eq_zero_iff.mp (by rw [r2.length]; rfl)
      subst this
      rw [← e1]
      exact q.here rp (by simpa using rx')
  · split at q
    · rename_i a b ha hb
      obtain ⟨p, vs, e1, h1, r1, z1⟩ := asL_ok rp rx ha
      obtain ⟨p2, vs2, e2, h2, r2, z2⟩ := asL_ok rp ry hb
      have q' := g_newLst q rp (r1.app r2)
      exact .inr (.inr (.inr ⟨p, p2, vs, vs2, e1, e2, h1, h2, by rw [← List.length_append]; exact q'.1, q'.2⟩))
    · exact q.elim
/-- the same, a list that may be changed -/
def opAddR (x y : D) (S : Sto) : R D := match asL S x, asL S y with
  | some a, some b => newRef (a ++ b) S
  | _, _ => .stuck
theorem opAddR_ok : OpD X (binaryOp .Add) opAddR := by
  refine ⟨_, op_cat, fun W ι S H x y dx dy Q rp rx ry q => ?_⟩
  unfold opAddR at q
  split at q
  · rename_i a b ha hb
    obtain ⟨p, vs, e1, h1, r1, z1⟩ := asL_ok rp rx ha
    obtain ⟨p2, vs2, e2, h2, r2, z2⟩ := asL_ok rp ry hb
    have q' := g_newRef q rp (r1.app r2)
    exact ⟨p, p2, vs, vs2, e1, e2, h1, h2, by rw [← List.length_append]; exact q'.1, q'.2⟩
  · exact q.elim
def opMul (x y : D) (S : Sto) : R D := match x, y with
  | .int i, .int j => if CMul i j then .ok (.int (i * j)) S else .stuck
  | x, .int k => match asL S x with
    | some ds => if -(2 ^ 63) ≤ k ∧ k < 2 ^ 63 ∧ ds.length * k.toNat ≤ sizeLine then newLst (List.replicate k.toNat ds).flatten S else .stuck
    | none => .stuck
  | _, _ => .stuck
theorem rds_flat {H : Hp} {ι : Z} {ds : List D} {vs : List V} (r : RDs H ι ds vs) : ∀ k : Nat, RDs H ι (List.replicate k ds).flatten (List.replicate k vs).flatten
  | 0 => by simpa using RDs.nil
  | k + 1 => by rw [List.replicate_succ, List.replicate_succ, List.flatten_cons, List.flatten_cons]; exact r.app (rds_flat r k)
theorem opMul_ok : OpD X (binaryOp .Mult) opMul := by
  refine ⟨_, op_mul.or op_rep, fun W ι S H x y dx dy Q rp rx ry q => ?_⟩
  unfold opMul at q
  split at q
  · rename_i i j
    split at q
    · simp only [RD] at rx ry
      exact .inl ⟨i, j, rx, ry, by assumption, q.here rp (by simp only [RD])⟩
    · exact q.elim
  · rename_i k _
    split at q
    · rename_i ds hds
      split at q
      · rename_i h
        obtain ⟨p, vs, e1, h1, r1, z1⟩ := asL_ok rp rx hds
        simp only [RD] at ry
        have q' := g_newLst q rp (rds_flat r1 k.toNat)
        exact .inr ⟨p, k, vs, e1, ry, h1, h.1, h.2.1, by rw [← r1.length]; exact h.2.2, q'.2⟩
      · exact q.elim
    · exact q.elim
  · exact q.elim
/-! ### ==, != -/
section
variable (rc : List D → Option (List PyData)) (S : Sto)
mutual
def tp : D → Option PyData
  | .non => some .none
  | .bl b => some (.bool b)
  | .int i => some (.int i)
  | .str s => some (.str s)
  | .tup ds => (tps ds).map .tuple
  | .lst ds => (tps ds).map .list
  | .scr ds => (tps ds).map .list
  | .dct _ _ => none
  | .ref n => match S[n]? with
    | some (.lst ds) => (rc ds).map .list
    | _ => none
def tps : List D → Option (List PyData)
  | [] => some []
  | d :: ds => (tp d).bind fun e => (tps ds).map (e :: ·)
end
end
/-- the data behind, numbers of objects looked up k times -/
def tpk (S : Sto) : Nat → List D → Option (List PyData)
  | 0, ds => tps (fun _ => none) S ds
  | k + 1, ds => tps (tpk S k) S ds
def tpd (S : Sto) (d : D) : Option PyData := tp (tpk S 1) S d
section
variable {H : Hp} {ι : Z} {mg : EnvK} {S : Sto} {rc : List D → Option (List PyData)}
mutual
theorem tp_ok (rp : Rep H ι mg S) (hrc : ∀ ds es vs, rc ds = some es → RDs H ι ds vs → DpAll mg.K H vs es) : ∀ (d : D) (e : PyData) (v : V), tp rc S d = some e → RD H ι d v → Dp mg.K H v e
  | .non, e, v, h, r => by simp only [tp, Option.some.injEq] at h; subst h; simp only [RD] at r; subst r; exact .non
  | .bl b, e, v, h, r => by simp only [tp, Option.some.injEq] at h; subst h; simp only [RD] at r; subst r; exact .bl b
  | .int i, e, v, h, r => by simp only [tp, Option.some.injEq] at h; subst h; simp only [RD] at r; subst r; exact .int i
  | .str s, e, v, h, r => by simp only [tp, Option.some.injEq] at h; subst h; simp only [RD] at r; rw [r.1]; exact .str s
  | .tup ds, e, v, h, r => by
    simp only [tp, Option.map_eq_some_iff] at h
    obtain ⟨es, h, e⟩ := h
    subst e
    simp only [RD] at r
    obtain ⟨a, vs, e, h1, z, h2⟩ := r
    subst e
    exact .tup h1.sq (tps_ok rp hrc ds es vs h h2)
  | .lst ds, e, v, h, r => by
    simp only [tp, Option.map_eq_some_iff] at h
    obtain ⟨es, h, e⟩ := h
    subst e
    simp only [RD] at r
    obtain ⟨a, vs, e, h1, no, z, h2⟩ := r
    subst e
    exact .lst (.of h1) (tps_ok rp hrc ds es vs h h2)
  | .scr ds, e, v, h, r => by
    simp only [tp, Option.map_eq_some_iff] at h
    obtain ⟨es, h, e⟩ := h
    subst e
    simp only [RD] at r
    obtain ⟨a, vs, e, h1, z, h2⟩ := r
    subst e
    exact .lst (scr_sq rp.kk h1) (tps_ok rp hrc ds es vs h h2)
  | .dct ks ds, e, v, h, r => by simp only [tp] at h; cases h
  | .ref m, e, v, h, r => by
    simp only [RD] at r
    obtain ⟨a, e1, h1⟩ := r
    subst e1
    obtain ⟨o, e2, ro⟩ := rp.has h1
    simp only [tp, e2] at h
    cases o with
    | lst ds =>
      simp only [Option.map_eq_some_iff] at h
      obtain ⟨es, h, e⟩ := h
      subst e
      obtain ⟨vs, h3, z, h4⟩ := ro
      exact .lst (.of h3) (hrc ds es vs h h4)
    | _ => cases h
theorem tps_ok (rp : Rep H ι mg S) (hrc : ∀ ds es vs, rc ds = some es → RDs H ι ds vs → DpAll mg.K H vs es) : ∀ (ds : List D) (es : List PyData) (vs : List V), tps rc S ds = some es → RDs H ι ds vs → DpAll mg.K H vs es
  | [], es, vs, h, r => by simp only [tps, Option.some.injEq] at h; subst h; simp only [RDs] at r; subst r; exact .nil
  | d :: ds, es, vs, h, r => by
    simp only [tps] at h
    simp only [RDs] at r
    obtain ⟨v, w, e, h1, h2⟩ := r
    subst e
    cases h3 : tp rc S d with
    | none => rw [h3] at h; cases h
    | some d' =>
      rw [h3] at h
      simp only [Option.bind_some, Option.map_eq_some_iff] at h
      obtain ⟨es', h, e'⟩ := h
      subst e'
      exact .cons (tp_ok rp hrc d d' v h3 h1) (tps_ok rp hrc ds es' w h h2)
end
theorem tpk_ok (rp : Rep H ι mg S) : ∀ (k : Nat) (ds : List D) (es : List PyData) (vs : List V), tpk S k ds = some es → RDs H ι ds vs → DpAll mg.K H vs es
  | 0, ds, es, vs, h, r => tps_ok rp (fun _ _ _ q => by cases q) ds es vs h r
  | k + 1, ds, es, vs, h, r => tps_ok rp (fun _ _ _ q r => tpk_ok rp k _ _ _ q r) ds es vs h r
theorem tpd_ok (rp : Rep H ι mg S) {d : D} {e : PyData} {v : V} (h : tpd S d = some e) (r : RD H ι d v) : Dp mg.K H v e := tp_ok rp (fun _ _ _ q r => tpk_ok rp 1 _ _ _ q r) d e v h r
end
/-- atoms, told apart without more -/
def scalD : D → D → Option Bool
  | .non, .non => some true | .non, .int _ => some false | .int _, .non => some false | .non, .bl _ => some false | .bl _, .non => some false | .non, .str _ => some false | .str _, .non => some false
  | .int i, .int j => some (decide (i = j)) | .bl i, .bl j => some (decide (i = j)) | .str i, .str j => some (decide (i = j))
  | .int _, .str _ => some false | .str _, .int _ => some false | .bl _, .str _ => some false | .str _, .bl _ => some false
  | _, _ => none
theorem scalD_ok {H : Hp} {ι : Z} {dx dy : D} {x y : V} {k : Bool} (h : scalD dx dy = some k) (rx : RD H ι dx x) (ry : RD H ι dy y) : scal x y = true ∧ decide (x = y) = k := by
  unfold scalD at h
  split at h <;> first
    | (cases h; done)
    | (simp only [Option.some.injEq] at h; subst h; simp only [RD] at rx ry; first | (subst rx; subst ry; exact ⟨rfl, by simp⟩) | (obtain ⟨rx, _⟩ := rx; subst rx; subst ry; exact ⟨rfl, by simp⟩) | (obtain ⟨ry, _⟩ := ry; subst rx; subst ry; exact ⟨rfl, by simp⟩) | (obtain ⟨rx, _⟩ := rx; obtain ⟨ry, _⟩ := ry; subst rx; subst ry; exact ⟨rfl, by simp⟩))
/-- are they equal? -/
def eqD (S : Sto) (x y : D) : Option Bool := match scalD x y with
  | some k => some k
  | none => match tpd S x, tpd S y with
    | some p, some q => if SeqAt.shaped p = true ∧ SeqAt.shaped q = true then some (p.eqv q) else none
    | _, _ => none
def opEq (x y : D) (S : Sto) : R D := match eqD S x y with
  | some k => .ok (.bl k) S
  | none => .stuck
def opNe (x y : D) (S : Sto) : R D := match eqD S x y with
  | some k => .ok (.bl (!k)) S
  | none => .stuck
theorem opEq_ok {k : Nat} (hr : Room k X.A) : OpD X (compareOp .Eq) opEq := by
  refine ⟨_, op_eq.or (op_eqD hr.units), fun W ι S H x y dx dy Q rp rx ry q => ?_⟩
  unfold opEq eqD at q
  split at q
  · rename_i k hk
    split at hk
    · rename_i k' hs
      cases hk
      obtain ⟨h1, h2⟩ := scalD_ok hs rx ry
      exact .inl ⟨h1, q.here rp (by simp only [RD]; rw [h2])⟩
    · split at hk
      · rename_i p p' hp hp'
        split at hk
        · rename_i hsh
          cases hk
          exact .inr ⟨p, p', tpd_ok rp hp rx, tpd_ok rp hp' ry, hsh.1, hsh.2, q.here rp (by simp only [RD])⟩
        · cases hk
      · cases hk
  · exact q.elim
theorem opNe_ok {k : Nat} (hr : Room k X.A) : OpD X (compareOp .NotEq) opNe := by
  refine ⟨_, op_ne.or (op_neD hr.units), fun W ι S H x y dx dy Q rp rx ry q => ?_⟩
  unfold opNe eqD at q
  split at q
  · rename_i k hk
    split at hk
    · rename_i k' hs
      cases hk
      obtain ⟨h1, h2⟩ := scalD_ok hs rx ry
      exact .inl ⟨h1, q.here rp (by simp only [RD]; rw [h2])⟩
    · split at hk
      · rename_i p p' hp hp'
        split at hk
        · rename_i hsh
          cases hk
          exact .inr ⟨p, p', tpd_ok rp hp rx, tpd_ok rp hp' ry, hsh.1, hsh.2, q.here rp (by simp only [RD])⟩
        · cases hk
      · cases hk
  · exact q.elim
/-! ### is None -/
def isNon : D → Bool
  | .non => true
  | _ => false
def opIsN (x y : D) (S : Sto) : R D := match y with
  | .non => .ok (.bl (isNon x)) S
  | _ => .stuck
def opNotN (x y : D) (S : Sto) : R D := match y with
  | .non => .ok (.bl (!isNon x)) S
  | _ => .stuck
theorem isNon_ok {H : Hp} {ι : Z} {d : D} {v : V} (r : RD H ι d v) : decide (v = .non) = isNon d := by
  cases d <;> simp only [RD] at r
  · subst r; rfl
  · subst r; rfl
  · subst r; rfl
  · rw [r.1]; rfl
  all_goals (obtain ⟨a, r⟩ := r; first | (obtain ⟨vs, r, _⟩ := r; subst r; rfl) | (obtain ⟨r, _⟩ := r; subst r; rfl))
theorem opIsN_ok : OpD X (compareOp .Is) opIsN := by
  refine ⟨_, op_isN, fun W ι S H x y dx dy Q rp rx ry q => ?_⟩
  unfold opIsN at q
  split at q
  · simp only [RD] at ry
    exact ⟨ry, q.here rp (by simp only [RD]; rw [isNon_ok rx])⟩
  · exact q.elim
theorem opNotN_ok : OpD X (compareOp .IsNot) opNotN := by
  refine ⟨_, op_notN, fun W ι S H x y dx dy Q rp rx ry q => ?_⟩
  unfold opNotN at q
  split at q
  · simp only [RD] at ry
    exact ⟨ry, q.here rp (by simp only [RD]; rw [isNon_ok rx])⟩
  · exact q.elim
end
end PM

/-! PM, part 8: dicts, subscripts, slices, built-in calls, methods -/
namespace PM
open PySem PySem.Spec L2 PyProof.Rows
/-! ### tables -/
def OV (H : Hp) (ι : Z) : Option D → Option V → Prop
  | some x, ov => ∃ w, ov = some w ∧ RD H ι x w
  | none, ov => ov = none
section
variable {κ : Type} [DecidableEq κ]
def getK : List κ → List D → κ → Option D
  | k :: ks, d :: ds, j => if k = j then some d else getK ks ds j
  | _, _, _ => none
def insK (ks : List κ) (k : κ) : List κ := if k ∈ ks then ks else ks ++ [k]
def insD (ks : List κ) (ds : List D) (k : κ) (d : D) : List D := if k ∈ ks then List.zipWith (fun j x => if j = k then d else x) ks ds else ds ++ [d]
theorem getK_val {H : Hp} {ι : Z} {k : κ} : ∀ {ks : List κ} {ds : List D} {vs : List V}, ks.length = ds.length → RDs H ι ds vs → OV H ι (getK ks ds k) (valV (ks.zip vs) k)
  | [], [], vs, _, r => by simp only [getK, List.zip_nil_left]; rfl
  | j :: ks, d :: ds, vs, h, r => by
    simp only [RDs] at r
    obtain ⟨v, w, e, r1, r2⟩ := r
    subst e
    simp only [getK, List.zip_cons_cons]
    by_cases hj : j = k
    · rw [if_pos hj, valV_pos (p := (j, v)) hj]
      exact ⟨v, rfl, r1⟩
    · rw [if_neg hj, valV_neg (p := (j, v)) hj]
      exact getK_val (by simpa using h) r2
theorem zip_any {k : κ} : ∀ {ks : List κ} {vs : List V}, ks.length = vs.length → ((ks.zip vs).any fun kv => decide (kv.1 = k)) = decide (k ∈ ks)
  | [], [], _ => by simp
  | j :: ks, v :: vs, h => by
    rw [List.zip_cons_cons, List.any_cons, zip_any (by simpa using h)]
    by_cases hj : j = k
    · simp [hj]
    · have : ¬ k = j := fun e => hj e.symm
      simp [hj, this]
theorem insK_put {H : Hp} {ι : Z} {k : κ} {d : D} {v : V} {ks : List κ} {ds : List D} {vs : List V} (h : ks.length = ds.length) (r : RDs H ι ds vs) (rd : RD H ι d v) :
    ∃ ws, putK (ks.zip vs) k v = (insK ks k).zip ws ∧ (insK ks k).length = (insD ks ds k d).length ∧ RDs H ι (insD ks ds k d) ws := by
  have hl : ks.length = vs.length := by rw [h, r.length]
  unfold putK insK insD
  rw [zip_any hl]
  by_cases hk : k ∈ ks
  · rw [if_pos (by simpa using hk), if_pos hk, if_pos hk]
    refine ⟨List.zipWith (fun j x => if j = k then v else x) ks vs, ?_, by simp [h], ?_⟩
    · clear hk h r
      induction ks generalizing vs with
      | nil => rfl
      | cons j ks ih =>
        cases vs with
        | nil => cases hl
        | cons x vs =>
          rw [List.zip_cons_cons, List.map_cons, List.zipWith_cons_cons, List.zip_cons_cons, ih (by simpa using hl)]
          by_cases hj : j = k
          · rw [if_pos hj, if_pos hj]
          · rw [if_neg hj, if_neg hj]
    · clear hk
      induction ks generalizing ds vs with
      | nil => exact .nil
      | cons j ks ih =>
        cases ds with
        | nil => cases h
        | cons x ds =>
          simp only [RDs] at r
          obtain ⟨y, w, e, r1, r2⟩ := r
          subst e
          rw [List.zipWith_cons_cons, List.zipWith_cons_cons]
          refine .cons ?_ (ih (by simpa using h) r2 (by simpa using hl))
          by_cases hj : j = k
          · rw [if_pos hj, if_pos hj]; exact rd
          · rw [if_neg hj, if_neg hj]; exact r1
  · rw [if_neg (by simpa using hk), if_neg hk, if_neg hk]
    exact ⟨vs ++ [v], by rw [List.zip_append hl]; rfl, by simp [h], r.app (.cons rd .nil)⟩
end
def keyOf : D → Option Key
  | .int i => some (.inl i)
  | .str s => some (.inr s)
  | _ => none
def keysOf : List D → Option (List Key)
  | [] => some []
  | d :: ds => (keyOf d).bind fun k => (keysOf ds).map (k :: ·)
def tkeyOf : D → Option (List Key)
  | _ => none
theorem keyOf_ok {H : Hp} {ι : Z} {d : D} {v : V} {k : Key} (r : RD H ι d v) (h : keyOf d = some k) : v = kV k := by
  cases d <;> simp only [keyOf, Option.some.injEq] at h <;> first | (cases h; done) | (subst h; simp only [RD] at r; first | exact r | exact r.1)
theorem keysOf_ok {H : Hp} {ι : Z} : ∀ {ds : List D} {vs : List V} {k : List Key}, RDs H ι ds vs → keysOf ds = some k → vs = k.map kV
  | [], vs, k, r, h => by simp only [keysOf, Option.some.injEq] at h; subst h; simp only [RDs] at r; exact r
  | d :: ds, vs, k, r, h => by
    simp only [RDs] at r
    obtain ⟨v, w, e, r1, r2⟩ := r
    subst e
    simp only [keysOf] at h
    cases h1 : keyOf d with
    | none => rw [h1] at h; cases h
    | some k1 =>
      rw [h1] at h
      simp only [Option.bind_some, Option.map_eq_some_iff] at h
      obtain ⟨ks, h2, e⟩ := h
      subst e
      rw [keyOf_ok r1 h1, keysOf_ok r2 h2]; rfl
theorem tkeyOf_ok {H : Hp} {ι : Z} {d : D} {v : V} {k : List Key} (r : RD H ι d v) (h : tkeyOf d = some k) : ∃ b, v = .ref b ∧ H b = some (.tup (k.map kV)) := by
  cases h
def dkOf (S : Sto) : D → Option (List Key × List D)
  | .dct ks ds => some (ks, ds)
  | .ref n => match S[n]? with
    | some (.dK ks ds) => some (ks, ds)
    | _ => none
  | _ => none
def dtOf (S : Sto) : D → Option (List (List Key) × List D)
  | .ref n => match S[n]? with
    | some (.dT ks ds) => some (ks, ds)
    | _ => none
  | _ => none
section
variable {H : Hp} {ι : Z} {mg : EnvK} {S : Sto} {d e : D} {v u : V}
theorem dkOf_ok {p : List Key × List D} (rp : Rep H ι mg S) (r : RD H ι d v) (h : dkOf S d = some p) : ∃ a vs, v = .ref a ∧ Rd H a (.dK (p.1.zip vs)) ∧ p.1.length = p.2.length ∧ RDs H ι p.2 vs := by
  cases d with
  | dct ks ds =>
    simp only [dkOf, Option.some.injEq] at h; subst h
    simp only [RD] at r
    obtain ⟨a, vs, e, h1, n, z, y, h2⟩ := r
    exact ⟨a, vs, e, h1, z, h2⟩
  | ref n =>
    simp only [RD] at r
    obtain ⟨a, e, h1⟩ := r
    obtain ⟨o, e2, ro⟩ := rp.has h1
    simp only [dkOf, e2] at h
    cases o with
    | dK ks ds =>
      simp only [Option.some.injEq] at h; subst h
      obtain ⟨vs, h3, z, y, h4⟩ := ro
      exact ⟨a, vs, e, .inl h3, z, h4⟩
    | _ => cases h
  | _ => cases h
theorem dtOf_ok {p : List (List Key) × List D} (rp : Rep H ι mg S) (r : RD H ι d v) (h : dtOf S d = some p) : ∃ a vs, v = .ref a ∧ H a = some (.dT (p.1.zip vs)) ∧ p.1.length = p.2.length ∧ RDs H ι p.2 vs := by
  cases d with
  | ref n =>
    simp only [RD] at r
    obtain ⟨a, e, h1⟩ := r
    obtain ⟨o, e2, ro⟩ := rp.has h1
    simp only [dtOf, e2] at h
    cases o with
    | dT ks ds =>
      simp only [Option.some.injEq] at h; subst h
      obtain ⟨vs, h3, z, y, h4⟩ := ro
      exact ⟨a, vs, e, h3, z, h4⟩
    | _ => cases h
  | _ => cases h
/-- what a dict has at a key -/
def dget (S : Sto) (x y : D) : Option (Option D) := match dkOf S x with
  | some p => match keyOf y with
    | some k => some (getK p.1 p.2 k)
    | none => none
  | none => match dtOf S x with
    | some p => match tkeyOf y with
      | some k => some (getK p.1 p.2 k)
      | none => none
    | none => none
theorem dget_ok {o : Option D} (rp : Rep H ι mg S) (r : RD H ι d v) (rk : RD H ι e u) (h : dget S d e = some o) : ∃ a ov, v = .ref a ∧ DGet H a u ov ∧ OV H ι o ov := by
  unfold dget at h
  split at h
  · rename_i p hp
    split at h
    · rename_i k hk
      cases h
      obtain ⟨a, vs, e1, h1, h2, h3⟩ := dkOf_ok rp r hp
      exact ⟨a, valV (p.1.zip vs) k, e1, .inl ⟨_, k, h1, keyOf_ok rk hk, rfl⟩, getK_val (k := k) h2 h3⟩
    · cases h
  · split at h
    · rename_i p hp
      split at h
      · rename_i k hk
        cases h
        obtain ⟨a, vs, e1, h1, h2, h3⟩ := dtOf_ok rp r hp
        obtain ⟨b, e2, h4⟩ := tkeyOf_ok rk hk
        exact ⟨a, valV (p.1.zip vs) k, e1, .inr ⟨_, k, b, .inl h1, e2, h4, rfl⟩, getK_val (k := k) h2 h3⟩
      · cases h
    · cases h
end
/-! ### in -/
def isFlat : D → Bool
  | .non => true | .bl _ => true | .int _ => true | .str _ => true
  | _ => false
def scalAny (x : D) : List D → Option Bool
  | [] => some false
  | d :: ds => (scalD d x).bind fun k => (scalAny x ds).map (k || ·)
theorem eqV_scal {x y : V} (h : scal x y = true) (f : flatV x = true) : eqV x y = decide (x = y) := by
  cases x <;> cases y <;> first | (cases h; done) | (cases f; done) | rfl | (simp only [eqV, V.bl.injEq, V.int.injEq, V.str.injEq]; exact Bool.beq_eq_decide_eq _ _)
theorem flat_v {H : Hp} {ι : Z} {d : D} {v : V} (r : RD H ι d v) (h : isFlat d = true) : flatV v = true := by
  cases d <;> simp only [RD] at r <;> first | (cases h; done) | (subst r; rfl) | (rw [r.1]; rfl)
theorem scalD_flat {d x : D} {k : Bool} (h : scalD d x = some k) : isFlat d = true := by
  cases d <;> cases x <;> first | rfl | cases h
theorem scalAny_ok {H : Hp} {ι : Z} {x : D} {v : V} (r : RD H ι x v) (fx : flatV v = true) : ∀ {ds : List D} {vs : List V} {k : Bool}, RDs H ι ds vs → scalAny x ds = some k → vs.all flatV = true ∧ inV v vs = k
  | [], vs, k, rs, h => by simp only [scalAny, Option.some.injEq] at h; subst h; simp only [RDs] at rs; subst rs; exact ⟨rfl, rfl⟩
  | d :: ds, vs, k, rs, h => by
    simp only [RDs] at rs
    obtain ⟨w, r2, e, r3, r4⟩ := rs
    subst e
    simp only [scalAny] at h
    cases h1 : scalD d x with
    | none => rw [h1] at h; cases h
    | some k1 =>
      rw [h1] at h
      simp only [Option.bind_some, Option.map_eq_some_iff] at h
      obtain ⟨k2, h2, e⟩ := h
      subst e
      obtain ⟨q1, q2⟩ := scalAny_ok r fx r4 h2
      obtain ⟨s1, s2⟩ := scalD_ok h1 r3 r
      have fw : flatV w = true := flat_v r3 (scalD_flat h1)
      have t1 := eqV_scal s1 fw
      refine ⟨by rw [List.all_cons, fw, q1]; rfl, ?_⟩
      show (eqV w v || inV v r2) = _
      rw [t1, s2, q2]
/-- is x in y? -/
def inDa (S : Sto) (x y : D) : Option Bool := match x, y with
  | .str a, .str z => match a.cps.toList with
    | [c] => some (decide (c ∈ z.cps.toList))
    | _ => none
  | x, y => match dget S y x with
    | some o => some o.isSome
    | none => match rdS S y with
      | some ds => match (if isFlat x = true then scalAny x ds else none) with
        | some k => some k
        | none => match tpd S x, tpd S y with
          | some p, some (.list ps) => if SeqAt.shaped p = true ∧ SeqAt.shaped (.list ps) = true then some (ps.any fun z => PyData.eqv z p) else none
          | _, _ => none
      | none => none
def opIn (x y : D) (S : Sto) : R D := match inDa S x y with
  | some k => .ok (.bl k) S
  | none => .stuck
def opNotIn (x y : D) (S : Sto) : R D := match inDa S x y with
  | some k => .ok (.bl (!k)) S
  | none => .stuck
section
variable {X : Cx}
theorem op_din (hu : X.A.units + 1 < cLine) : OpR X (compareOp .In) (fun y x H Q => ∃ a o, x = .ref a ∧ DGet H a y o ∧ Q (.bl o.isSome) H) := by
  intro pins s σ H x y v u Q I rx ry h
  obtain ⟨a, o, e, g, q⟩ := h
  subst e
  cases ry
  exact d_in hu I g rx fun s3 I3 => ⟨.bl o.isSome, H, I3, rfl, q⟩
theorem op_dnotin (hu : X.A.units + 1 < cLine) : OpR X (compareOp .NotIn) (fun y x H Q => ∃ a o, x = .ref a ∧ DGet H a y o ∧ Q (.bl (!o.isSome)) H) := by
  intro pins s σ H x y v u Q I rx ry h
  obtain ⟨a, o, e, g, q⟩ := h
  subst e
  cases ry
  exact d_notIn hu I g rx fun s3 I3 => ⟨.bl (!o.isSome), H, I3, rfl, q⟩
/-- what stands behind inDa's answer -/
theorem inDa_ok {H : Hp} {ι : Z} {S : Sto} {x y : D} {v u : V} {k : Bool} (rp : Rep H ι X.ek S) (rx : RD H ι x v) (ry : RD H ι y u) (h : inDa S x y = some k) :
    (∃ (c : Nat) (z : Str), v = .str ⟨#[c]⟩ ∧ u = .str z ∧ k = decide (c ∈ z.cps.toList)) ∨ (∃ a o, u = .ref a ∧ DGet H a v o ∧ k = o.isSome) ∨
    (∃ p xs, u = .ref p ∧ (SqL X.K H p xs ∨ SqT X.K H p xs) ∧ flatV v = true ∧ xs.all flatV = true ∧ k = inV v xs) ∨
    (∃ d ds, Dp X.K H v d ∧ Dp X.K H u (.list ds) ∧ SeqAt.shaped d = true ∧ SeqAt.shaped (.list ds) = true ∧ k = ds.any fun z => PyData.eqv z d) := by
  unfold inDa at h
  split at h
  · rename_i a z
    split at h
    · rename_i c hc
      cases h
      simp only [RD] at rx ry
      have e : a = ⟨#[c]⟩ := by
        obtain ⟨cps⟩ := a
        have : cps.toList = [c] := hc
        congr
        rw [← Array.toArray_toList (xs := cps), this]
      exact .inl ⟨c, z, by rw [rx.1, e], ry.1, rfl⟩
    · cases h
  · split at h
    · rename_i o ho
      cases h
      obtain ⟨a, ov, e, g, q⟩ := dget_ok rp ry rx ho
      refine .inr (.inl ⟨a, ov, e, g, ?_⟩)
      cases o with
      | some x => obtain ⟨w, e2, _⟩ := q; rw [e2]; rfl
      | none => rw [q]; rfl
    · split at h
      · rename_i ds hds
        obtain ⟨a, vs, e, hq, hr, hz⟩ := rdS_ok rp ry hds
        split at h
        · rename_i k' hk
          cases h
          split at hk
          · rename_i hf
            have fx := flat_v rx hf
            obtain ⟨q1, q2⟩ := scalAny_ok rx fx hr hk
            exact .inr (.inr (.inl ⟨a, vs, e, hq, fx, q1, q2.symm⟩))
          · cases hk
        · split at h
          · rename_i p ps hp hps
            split at h
            · rename_i hs
              cases h
              exact .inr (.inr (.inr ⟨p, ps, tpd_ok rp hp rx, tpd_ok rp hps ry, hs.1, hs.2, rfl⟩))
            · cases h
          · cases h
      · cases h
theorem opIn_ok {k : Nat} (hr : Room k X.A) : OpD X (compareOp .In) opIn := by
  refine ⟨_, op_in_sign.or ((op_din (hu_of hr)).or (op_in_seq.or (op_inD (by have := hr.un; omega)))), fun W ι S H x y dx dy Q rp rx ry q => ?_⟩
  unfold opIn at q
  split at q
  · rename_i k hk
    have q := q.here (b := V.bl k) rp (by simp only [RD])
    rcases inDa_ok rp rx ry hk with ⟨c, z, e1, e2, e3⟩ | ⟨a, o, e1, g, e2⟩ | ⟨p, xs, e, h1, h2, h3, e2⟩ | ⟨d, ds, h1, h2, h3, h4, e⟩
    · subst e3; exact .inl ⟨c, z, e1, e2, q⟩
    · subst e2; exact .inr (.inl ⟨a, o, e1, g, q⟩)
    · subst e2; exact .inr (.inr (.inl ⟨p, xs, e, h1, h2, h3, q⟩))
    · subst e; exact .inr (.inr (.inr ⟨d, ds, h1, h2, h3, h4, q⟩))
  · exact q.elim
theorem opNotIn_ok {k : Nat} (hr : Room k X.A) : OpD X (compareOp .NotIn) opNotIn := by
  refine ⟨_, op_notIn_sign.or ((op_dnotin (hu_of hr)).or (op_notIn_seq.or (op_notInD (by have := hr.un; omega)))), fun W ι S H x y dx dy Q rp rx ry q => ?_⟩
  unfold opNotIn at q
  split at q
  · rename_i k hk
    have q := q.here (b := V.bl (!k)) rp (by simp only [RD])
    rcases inDa_ok rp rx ry hk with ⟨c, z, e1, e2, e3⟩ | ⟨a, o, e1, g, e2⟩ | ⟨p, xs, e, h1, h2, h3, e2⟩ | ⟨d, ds, h1, h2, h3, h4, e⟩
    · subst e3; exact .inl ⟨c, z, e1, e2, q⟩
    · subst e2; exact .inr (.inl ⟨a, o, e1, g, q⟩)
    · subst e2; exact .inr (.inr (.inl ⟨p, xs, e, h1, h2, h3, q⟩))
    · subst e; exact .inr (.inr (.inr ⟨d, ds, h1, h2, h3, h4, q⟩))
  · exact q.elim
/-! ### subscripts -/
def IxD (X : Cx) (op : D → D → Sto → R D) : Prop :=
  ∃ r : R2, IxR X r ∧ ∀ (W : XK) (ι : Z) (S : Sto) (H : Hp) (x y : V) (dx dy : D) (Q : VK), Rep H ι X.ek S → RD H ι dx x → RD H ι dy y → G X.ek W ι H RD (op dx dy S) Q → r x y H Q
theorem ix_dict (hu : X.A.units + 1 < cLine) : IxR X (fun x y H Q => ∃ a v, x = .ref a ∧ DGet H a y (some v) ∧ Q v H) := by
  intro value slice pins s σ H x y v u Q I rx ry h hs
  obtain ⟨a, w, e, g, q⟩ := h
  subst e
  cases rx
  exact tail_any (dict_typeIs I g) PySem.F.slot_dict_getitem.lookup (d_getItem hu I g ry fun w' s3 I3 rw' => ⟨w, H, I3, rw', q⟩) hs
def opIx (x y : D) (S : Sto) : R D := match x, y with
  | .str z, .int i => match atI z.cps.toList i with
    | some c => .ok (.str ⟨#[c]⟩) S
    | none => .stuck
  | x, y => match dget S x y with
    | some (some d) => .ok d S
    | some none => .stuck
    | none => match rdS S x with
      | some ds => match y with
        | .int i => match atI ds i with
          | some d => .ok d S
          | none => .stuck
        | _ => .stuck
      | none => .stuck
theorem atI_ok {H : Hp} {ι : Z} {ds : List D} {vs : List V} {i : Int} {d : D} (r : RDs H ι ds vs) (h : atI ds i = some d) : ∃ v, atI vs i = some v ∧ RD H ι d v := by
  unfold atI at h ⊢
  rw [← r.length]
  cases hj : ixN ds.length i with
  | none => rw [hj] at h; cases h
  | some j =>
    rw [hj] at h
    exact r.get h
theorem opIx_ok {k : Nat} (hr : Room k X.A) : IxD X opIx := by
  refine ⟨_, ix_str.or ((ix_dict (hu_of hr)).or (ix_list.or ix_tup)), fun W ι S H x y dx dy Q rp rx ry q => ?_⟩
  unfold opIx at q
  split at q
  · rename_i z i
    split at q
    · rename_i c hc
      simp only [RD] at rx ry
      exact .inl ⟨z, i, c, rx.1, ry, rx.2, hc, q.here rp (by simp only [RD]; exact ⟨trivial, by show 1 ≤ sizeLine; decide⟩)⟩
    · exact q.elim
  · split at q
    · rename_i d hd
      obtain ⟨a, ov, e, g, w, e2, rw'⟩ := dget_ok rp rx ry hd
      subst e2
      exact .inr (.inl ⟨a, w, e, g, q.here rp rw'⟩)
    · exact q.elim
    · split at q
      · rename_i ds hds
        obtain ⟨a, vs, e, hq, h2, hz⟩ := rdS_ok rp rx hds
        cases dy with
        | int i =>
          dsimp only at q
          split at q
          · rename_i d hd
            obtain ⟨w, hw, rw'⟩ := atI_ok h2 hd
            simp only [RD] at ry
            rcases hq with hq | hq
            · exact .inr (.inr (.inl ⟨a, vs, i, w, e, ry, hq, hw, q.here rp rw'⟩))
            · exact .inr (.inr (.inr ⟨a, vs, i, w, e, ry, hq, hw, q.here rp rw'⟩))
          · exact q.elim
        | _ => exact q.elim
      · exact q.elim
variable {W : WX} {a b e o : Expr} {es : List Expr} {pos p p2 apos : Pos} {ma mb mo : Em} {am : Am}
theorem de_ix {f : D → D → Sto → R D} (ho : IxD X f) (ha : DE X W a ma) (hb : DE X W b mb) (hs : PlainIx b := by exact fun _ _ => rfl) : DE X W (.Subscript a b pos) (mB f ma mb) := by
  obtain ⟨r, hr, k⟩ := ho
  exact pe_imp (pe_ix hr ha hb hs) fun σ H Q h => de_opR k h
/-! ### stores -/
theorem PSet.or {t t' : TSet} (h : PSet X t) (h' : PSet X t') : PSet X (fun o i v H Q => t o i v H Q ∨ t' o i v H Q) := fun pins s σ H o i v ov iv u Q I ro ri rv q =>
  q.elim (h pins s σ H o i v ov iv u Q I ro ri rv) (h' pins s σ H o i v ov iv u Q I ro ri rv)
theorem set_dict (hu : X.A.units + 1 < cLine) : PSet X (fun o i v H Q => ∃ a H', o = .ref a ∧ DPut H a i v H' ∧ Q H') := by
  intro pins s σ H o i v ov iv u Q I ro ri rv h
  obtain ⟨a, H', e, g, q⟩ := h
  subst e
  cases ro
  exact d_setItem hu I g ri rv fun s4 I4 => ⟨H', I4, q⟩
def opSet (x y z : D) (S : Sto) : R Unit := match x with
  | .ref n => match S[n]? with
    | some (.lst ds) => match y with
      | .int i => match ixN ds.length i with
        | some j => .ok () (S.set n (.lst (ds.set j z)))
        | none => .stuck
      | _ => .stuck
    | some (.dK ks ds) => match keyOf y with
      | some k => if ks.length < sizeLine then .ok () (S.set n (.dK (insK ks k) (insD ks ds k z))) else .stuck
      | none => .stuck
    | some (.dT ks ds) => match tkeyOf y with
      | some k => if ks.length < sizeLine then .ok () (S.set n (.dT (insK ks k) (insD ks ds k z))) else .stuck
      | none => .stuck
    | _ => .stuck
  | _ => .stuck
theorem insK_len {κ : Type} [DecidableEq κ] (ks : List κ) (k : κ) : (insK ks k).length ≤ ks.length + 1 := by
  unfold insK
  split
  · omega
  · simp
theorem opSet_ok {k : Nat} (hr : Room k X.A) : PSetD X opSet := by
  refine ⟨_, PSet.or set_list (set_dict (hu_of hr)), fun W ι S H x y z dx dy dz Q rp rx ry rz q => ?_⟩
  unfold opSet at q
  split at q
  · rename_i n
    simp only [RD] at rx
    obtain ⟨a, e, h1⟩ := rx
    obtain ⟨o, e2, ro⟩ := rp.has h1
    simp only [e2] at q
    cases o with
    | lst ds =>
      obtain ⟨vs, h3, hz, h4⟩ := ro
      dsimp only at q
      split at q
      · rename_i i
        split at q
        · rename_i j hj
          simp only [RD] at ry
          refine .inl ⟨a, vs, i, j, e, ry, h3, by rw [← h4.length]; exact hj, ?_⟩
          have st : Lift ι H ι (upd H a (.lst (vs.set j z))) := Lift.write (.inl (List.mem_of_getElem? h1)) (fun _ e' => by rw [h3] at e'; cases e'; exact .intro (fun _ _ q => nomatch q) (fun _ _ q => nomatch q))
          obtain ⟨rp2, st2⟩ := rp.write (m := .lst (ds.set j dz)) (o := .lst (vs.set j z)) h1 (.intro (fun _ _ q => nomatch q) (fun _ _ q => nomatch q)) ⟨_, upd_same, by simpa using hz, (h4.mono st).set (rz.mono st)⟩
          exact q.at st2 rp2 rfl
        · exact q.elim
      · exact q.elim
    | dK ks ds =>
      obtain ⟨vs, h3, hl, hz, h4⟩ := ro
      dsimp only at q
      split at q
      · rename_i k hk
        split at q
        · rename_i hlt
          have lv : (ks.zip vs).length = ks.length := by rw [List.length_zip, ← h4.length, hl]; simp
          obtain ⟨ws0, p1, p2, p3⟩ := insK_put (k := k) hl h4 rz
          have st : Lift ι H ι (upd H a (.dK ((insK ks k).zip ws0))) := Lift.write (.inl (List.mem_of_getElem? h1)) (fun _ e' => by rw [h3] at e'; cases e'; exact .intro (fun _ _ q => nomatch q) (fun _ _ q => nomatch q))
          obtain ⟨rp2, st2⟩ := rp.write (m := .dK (insK ks k) (insD ks ds k dz)) (o := .dK ((insK ks k).zip ws0)) h1 (.intro (fun _ _ q => nomatch q) (fun _ _ q => nomatch q)) ⟨_, upd_same, p2, by have := insK_len ks k; omega, p3.mono st⟩
          refine .inr ⟨a, _, e, .inl ⟨_, k, h3, keyOf_ok ry hk, by rw [lv]; exact hlt, rfl⟩, ?_⟩
          rw [p1]
          exact q.at st2 rp2 rfl
        · exact q.elim
      · exact q.elim
    | dT ks ds =>
      obtain ⟨vs, h3, hl, hz, h4⟩ := ro
      dsimp only at q
      split at q
      · rename_i k hk
        split at q
        · rename_i hlt
          have lv : (ks.zip vs).length = ks.length := by rw [List.length_zip, ← h4.length, hl]; simp
          obtain ⟨ws0, p1, p2, p3⟩ := insK_put (k := k) hl h4 rz
          have st : Lift ι H ι (upd H a (.dT ((insK ks k).zip ws0))) := Lift.write (.inl (List.mem_of_getElem? h1)) (fun _ e' => by rw [h3] at e'; cases e'; exact .intro (fun _ _ q => nomatch q) (fun _ _ q => nomatch q))
          obtain ⟨rp2, st2⟩ := rp.write (m := .dT (insK ks k) (insD ks ds k dz)) (o := .dT ((insK ks k).zip ws0)) h1 (.intro (fun _ _ q => nomatch q) (fun _ _ q => nomatch q)) ⟨_, upd_same, p2, by have := insK_len ks k; omega, p3.mono st⟩
          obtain ⟨b, eb, hb⟩ := tkeyOf_ok ry hk
          refine .inr ⟨a, _, e, .inr ⟨_, k, b, h3, eb, hb, by rw [lv]; exact hlt, rfl⟩, ?_⟩
          rw [p1]
          exact q.at st2 rp2 rfl
        · exact q.elim
      · exact q.elim
    | ins c fs ds => exact q.elim
  · exact q.elim
end
end PM

/-! PM, part 9: slices, built-in calls, methods -/
namespace PM
open PySem PySem.Spec L2 PyProof.Rows
abbrev Om := Loc → Sto → R (Option Int)
def mNo : Om := fun _ S => .ok none S
def mPt (e : Em) : Om := fun δ S => (e δ S).bind fun x S1 => match x with
  | .int i => .ok (some i) S1
  | _ => .stuck
def mSl (f : D → Option Int → Option Int → Sto → R D) (a : Em) (lo hi : Om) : Em := fun δ S => (a δ S).bind fun x S1 => (lo δ S1).bind fun l S2 => (hi δ S2).bind fun u S3 => f x l u S3
def cutD {α : Type} (xs : List α) (lo hi : Option Int) : List α := (xs.drop (HT.sIx xs.length 0 lo)).take (HT.sIx xs.length xs.length hi - HT.sIx xs.length 0 lo)
def opSl (x : D) (lo hi : Option Int) (S : Sto) : R D := match x with
  | .str z => .ok (.str (cutS z lo hi)) S
  | .tup ds => .ok (.tup (cutD ds lo hi)) S
  | x => match rdL S x with
    | some ds => .ok (.lst (cutD ds lo hi)) S
    | none => .stuck
theorem cutD_le {α : Type} (xs : List α) (lo hi : Option Int) : (cutD xs lo hi).length ≤ xs.length := by
  unfold cutD
  rw [List.length_take, List.length_drop]; omega
theorem cutS_le (z : Str) (lo hi : Option Int) : (cutS z lo hi).length ≤ z.length := by
  have h : (cutS z lo hi).length = (cutD z.cps.toList lo hi).length := by
    unfold cutS cutD Str.length
    simp
  rw [h]
  have := cutD_le z.cps.toList lo hi
  simpa [Str.length] using this
theorem rds_cut {H : Hp} {ι : Z} {ds : List D} {vs : List V} (r : RDs H ι ds vs) (lo hi : Option Int) : RDs H ι (cutD ds lo hi) (cutV vs lo hi) := by
  unfold cutD cutV
  rw [r.length]
  exact (r.drop _).take _
section
variable {X : Cx} {W : WX} {a b e o : Expr} {es : List Expr} {pos p p2 apos : Pos} {ma mb mo : Em} {am : Am} {lo hi : Option Expr} {ml mh : Om} {tg : Expr}
def DO (X : Cx) (W : WX) (e : Option Expr) (m : Om) : Prop := PO X e (tD X.ek W REq m)
theorem do_none : DO X W none mNo := ⟨fun pins s σ H Q I ⟨ι, S, δ, rp, rs, g⟩ => po_none.run pins s σ H Q I (g.here rp rfl)⟩
theorem do_some (h : DE X W e ma) : DO X W (some e) (mPt ma) := ⟨fun pins s σ H Q I q => (po_some h).run pins s σ H Q I (t_bind q fun ι S δ d v H' rp rs r g => by
    cases d with
    | int i => simp only [RD] at r; exact ⟨i, r, g.here rp rfl⟩
    | _ => exact g.elim)⟩
theorem de_slice (ha : DE X W a ma) (hl : DO X W lo ml) (hh : DO X W hi mh) : DE X W (.Subscript a (.Slice lo hi none p2) pos) (mSl opSl ma ml mh) :=
  pe_imp (pe_slice (sl_str.or (sl_tupF.or sl_list)) ha hl hh) fun σ H Q h => t_bind h fun ι S δ d v H1 rp rs rd g => ⟨ι, S, δ, rp, rs, (G.bind g).imp fun l H2 ⟨ι2, S2, l', st2, rp2, el, g2⟩ =>
    ⟨ι2, S2, δ, rp2, rs.mono st2.up, (G.bind g2).imp fun u H3 ⟨ι3, S3, u', st3, rp3, eu, g3⟩ => by
      rw [show l = l' from el, show u = u' from eu]
      have rd3 := rd.mono (st2.trans st3).up
      unfold opSl at g3
      split at g3
      · simp only [RD] at rd3
        exact .inl ⟨_, rd3.1, rd3.2, g3.here rp3 (by simp only [RD]; exact ⟨trivial, Nat.le_trans (cutS_le _ l' u') rd3.2⟩)⟩
      · simp only [RD] at rd3
        obtain ⟨t, vs, e, h1, z, h2⟩ := rd3
        have hz := Nat.le_trans (cutD_le _ l' u') z
        refine .inr (.inl ⟨t, vs, e, h1.sq, fun w => ?_, fun _ p o d hp => g3.at (Step.new hp) (rp3.new hp) ?_⟩)
        · refine g3.here rp3 ?_
          unfold cutD
          rw [h2.length, w.1, w.2, List.drop_zero, Nat.sub_zero, ← h2.length, List.take_length]
          simp only [RD]
          exact ⟨t, vs, rfl, h1, z, h2⟩
        · simp only [RD]
          exact ⟨p, _, rfl, Tp.mk d, hz, (rds_cut h2 l' u').mono (Step.new hp).up⟩
      · split at g3
        · rename_i ds hds
          obtain ⟨t, vs, e, h1, h2, z⟩ := rdL_ok rp3 rd3 hds
          exact .inr (.inr ⟨t, vs, e, h1, fun p hp => g3.at (Step.new hp) (rp3.new hp) (rd_newLst rp3 (rds_cut h2 l' u') (Nat.le_trans (cutD_le _ _ _) z) hp)⟩)
        · exact g3.elim⟩⟩
/-! ### built-in calls -/
def CallD (X : Cx) (f : Value) (c : List D → Sto → R D) : Prop :=
  ∃ r, CallR X f r ∧ ∀ (W : XK) (ι : Z) (S : Sto) (H : Hp) (xs : List V) (dxs : List D) (Q : VK), Rep H ι X.ek S → RDs H ι dxs xs → G X.ek W ι H RD (c dxs S) Q → r xs H Q
theorem de_callB {x : Str} {id : String} {c : List D → Sto → R D} (hc : CallD X (.builtin id) c) (hg : Gl X x) (hm : X.mg x = none) (hv : bootBuiltins x = some (.builtin id)) (ha : DA X W (e :: es) am) (hn : x ≠ "__name__" := by decide) (hdb : (x == ("__debug__" : Str)) = false := by decide)
    (he : starEach (e :: es) X.env = (false, eval e X.env) :: starEach es X.env := by rfl) (hpl : (backTo pos (starEach es X.env)).any (·.1) = false := by rfl) : DE X W (.Call (.Name x p) (e :: es) [] pos) (mApp c am) := by
  obtain ⟨r, hr, k⟩ := hc
  exact pe_imp (pe_callB hr hg hm hv ha hn hdb he hpl) fun σ H Q h => t_bind h fun ι S δ ds vs H1 rp rs rd g => k _ ι S H1 vs ds Q rp rd g
theorem de_callTy {x : Str} {T : String} {c : List D → Sto → R D} (hc : CallD X (.type T) c) (hg : Gl X x) (hm : X.mg x = none) (hv : bootBuiltins x = some (.type T)) (ha : DA X W (e :: es) am) (hn : x ≠ "__name__" := by decide) (hdb : (x == ("__debug__" : Str)) = false := by decide)
    (he : starEach (e :: es) X.env = (false, eval e X.env) :: starEach es X.env := by rfl) (hpl : (backTo pos (starEach es X.env)).any (·.1) = false := by rfl) : DE X W (.Call (.Name x p) (e :: es) [] pos) (mApp c am) := by
  obtain ⟨r, hr, k⟩ := hc
  exact pe_imp (pe_callTy hr hg hm hv ha hn hdb he hpl) fun σ H Q h => t_bind h fun ι S δ ds vs H1 rp rs rd g => k _ ι S H1 vs ds Q rp rd g
theorem rds_one {H : Hp} {ι : Z} {d : D} {vs : List V} (r : RDs H ι [d] vs) : ∃ v, vs = [v] ∧ RD H ι d v := by
  simp only [RDs] at r
  obtain ⟨v, w, e, h, e2⟩ := r
  subst e2
  exact ⟨v, e, h⟩
theorem rds_two {H : Hp} {ι : Z} {d d' : D} {vs : List V} (r : RDs H ι [d, d'] vs) : ∃ v v', vs = [v, v'] ∧ RD H ι d v ∧ RD H ι d' v' := by
  simp only [RDs] at r
  obtain ⟨v, w, e, h, v', w', e2, h2, e3⟩ := r
  subst e3 e2
  exact ⟨v, v', e, h, h2⟩
/-- len -/
def cLen (ds : List D) (S : Sto) : R D := match ds with
  | [d] => match lenOf d S with
    | some n => .ok (.int n) S
    | none => .stuck
  | _ => .stuck
theorem call_lenRd : CallR X (.builtin "len") (fun xs H Q => ∃ a kvs, xs = [V.ref a] ∧ Rd H a (.dK kvs) ∧ Q (.int kvs.length) H) := by
  intro pins s σ H xs us Q I r h
  obtain ⟨a, kvs, rfl, ha, q⟩ := h
  obtain ⟨u, rfl, ru⟩ := vals1 r
  cases ru
  exact d_len I ha fun t s' I' => ⟨.int kvs.length, H, I', ⟨t, rfl⟩, q⟩
/-- what a length stands for -/
theorem lenOf_ok {H : Hp} {ι : Z} {S : Sto} {d : D} {v : V} {n : Nat} (rp : Rep H ι X.ek S) (r : RD H ι d v) (h : lenOf d S = some n) :
    n ≤ sizeLine ∧ ((∃ p ys, v = .ref p ∧ (SqL X.K H p ys ∨ SqT X.K H p ys) ∧ n = ys.length) ∨ (∃ z, v = .str z ∧ z.length ≤ sizeLine ∧ n = z.length) ∨ (∃ a kvs, v = .ref a ∧ Rd H a (.dK kvs) ∧ n = kvs.length) ∨ (∃ a kvs, v = .ref a ∧ H a = some (.dT kvs) ∧ n = kvs.length)) := by
  cases d with
  | str z =>
    simp only [lenOf, Option.some.injEq] at h; subst h
    simp only [RD] at r
    exact ⟨r.2, .inr (.inl ⟨z, r.1, r.2, rfl⟩)⟩
  | tup ds =>
    simp only [lenOf, Option.some.injEq] at h; subst h
    obtain ⟨a, vs, e, hq, h2, z⟩ := rdS_ok (ds := ds) rp r rfl
    exact ⟨z, .inl ⟨a, vs, e, hq, h2.length⟩⟩
  | lst ds =>
    simp only [lenOf, Option.some.injEq] at h; subst h
    obtain ⟨a, vs, e, hq, h2, z⟩ := rdS_ok (ds := ds) rp r rfl
    exact ⟨z, .inl ⟨a, vs, e, hq, h2.length⟩⟩
  | scr ds =>
    simp only [lenOf, Option.some.injEq] at h; subst h
    obtain ⟨a, vs, e, hq, h2, z⟩ := rdS_ok (ds := ds) rp r rfl
    exact ⟨z, .inl ⟨a, vs, e, hq, h2.length⟩⟩
  | dct ks ds =>
    simp only [lenOf, Option.some.injEq] at h; subst h
    simp only [RD] at r
    obtain ⟨a, vs, e, h1, n, z, y, h2⟩ := r
    exact ⟨y, .inr (.inr (.inl ⟨a, _, e, h1, by rw [List.length_zip, ← h2.length, z]; simp⟩))⟩
  | ref m =>
    simp only [RD] at r
    obtain ⟨a, e, h1⟩ := r
    obtain ⟨o, e2, ro⟩ := rp.has h1
    simp only [lenOf, e2] at h
    cases o with
    | lst ds =>
      simp only [Option.some.injEq] at h; subst h
      obtain ⟨vs, h3, z, h4⟩ := ro
      exact ⟨z, .inl ⟨a, vs, e, .inl (.of h3), h4.length⟩⟩
    | dK ks ds =>
      simp only [Option.some.injEq] at h; subst h
      obtain ⟨vs, h3, z, y, h4⟩ := ro
      exact ⟨y, .inr (.inr (.inl ⟨a, _, e, .inl h3, by rw [List.length_zip, ← h4.length, z]; simp⟩))⟩
    | dT ks ds =>
      simp only [Option.some.injEq] at h; subst h
      obtain ⟨vs, h3, z, y, h4⟩ := ro
      exact ⟨y, .inr (.inr (.inr ⟨a, _, e, h3, by rw [List.length_zip, ← h4.length, z]; simp⟩))⟩
    | ins c fs ds => cases h
  | _ => cases h
theorem cLen_ok : CallD X (.builtin "len") cLen := by
  refine ⟨_, CallR.or call_len_seq (CallR.or call_len_str (CallR.or call_lenRd call_len_dT)), fun W ι S H xs dxs Q rp rx q => ?_⟩
  unfold cLen at q
  split at q
  · rename_i d
    obtain ⟨v, e, r⟩ := rds_one rx
    subst e
    split at q
    · rename_i n hn
      have q := q.here (b := V.int n) rp (by simp only [RD])
      obtain ⟨_, ⟨p, ys, e, hq, e2⟩ | ⟨z, e, hz, e2⟩ | ⟨a, kvs, e, hq, e2⟩ | ⟨a, kvs, e, hq, e2⟩⟩ := lenOf_ok rp r hn
      · subst e e2; exact .inl ⟨p, ys, rfl, hq, q⟩
      · subst e e2; exact .inr (.inl ⟨z, rfl, hz, q⟩)
      · subst e e2; exact .inr (.inr (.inl ⟨a, kvs, rfl, hq, q⟩))
      · subst e e2; exact .inr (.inr (.inr ⟨a, kvs, rfl, hq, q⟩))
    · exact q.elim
  · exact q.elim
/-- for .. in range(len(e)) -/
theorem di_rangeLen {q r s : Pos} (hg : Gl X "range") (hm : X.mg "range" = none) (hg2 : Gl X "len") (hm2 : X.mg "len" = none) (ha : DE X W a ma) (hs : starEach [.Call (.Name "len" p) [a] [] q] X.env = [(false, eval (.Call (.Name "len" p) [a] [] q) X.env)] := by rfl)
    (hs2 : starEach [a] X.env = [(false, eval a X.env)] := by rfl) (hpl : (backTo q (starEach [] X.env)).any (·.1) = false := by rfl) : DI X W tg (.Call (.Name "range" r) [.Call (.Name "len" p) [a] [] q] [] s) (sRangeLen ma) :=
  pi_imp (pi_range1 hg hm (pa_cons (pe_callB (CallR.or call_len_seq (CallR.or call_len_str (CallR.or call_lenRd call_len_dT))) hg2 hm2 boot_len (pa_cons ha pa_nil hs2) (he := hs2) (hpl := hpl)) pa_nil hs) hs) fun σ H J h => t_bind h fun ι S δ d v H1 rp rs rd g => by
    split at g
    · rename_i n hn
      obtain ⟨hz, q⟩ := lenOf_ok rp rd hn
      have fin : ∃ j : Int, [V.int (n : Int)] = [V.int j] ∧ -(2 ^ 62) ≤ j ∧ j < 2 ^ 62 ∧ J (Itr 0 j.toNat) H1 := by
        have := sz62
        exact ⟨n, rfl, by omega, by omega, g.here rp (RIt.of_range (n := n) hz)⟩
      rcases q with ⟨p, ys, e, hq, e2⟩ | ⟨z, e, hz, e2⟩ | ⟨a, kvs, e, hq, e2⟩ | ⟨a, kvs, e, hq, e2⟩
      · subst e e2; exact .inl ⟨p, ys, rfl, hq, fin⟩
      · subst e e2; exact .inr (.inl ⟨z, rfl, hz, fin⟩)
      · subst e e2; exact .inr (.inr (.inl ⟨a, kvs, rfl, hq, fin⟩))
      · subst e e2; exact .inr (.inr (.inr ⟨a, kvs, rfl, hq, fin⟩))
    · exact g.elim
/-- list(x), tuple(x) -/
def cList (ds : List D) (S : Sto) : R D := match ds with
  | [d] => match rdS S d with
    | some es => .ok (.lst es) S
    | none => .stuck
  | _ => .stuck
theorem cList_ok : CallD X (.type "list") cList := by
  refine ⟨_, call_list_of, fun W ι S H xs dxs Q rp rx q => ?_⟩
  unfold cList at q
  split at q
  · rename_i d
    obtain ⟨v, e, r⟩ := rds_one rx
    subst e
    split at q
    · rename_i es hes
      obtain ⟨a, vs, e, hq, h2, z⟩ := rdS_ok rp r hes
      subst e
      exact ⟨a, vs, rfl, hq, fun p hp => q.at (Step.new hp) (rp.new hp) (rd_newLst rp h2 z hp)⟩
    · exact q.elim
  · exact q.elim
/-- .. a list that may be changed -/
def cListR (ds : List D) (S : Sto) : R D := match ds with
  | [d] => match rdS S d with
    | some es => .ok (.ref S.length) (S ++ [.lst es])
    | none => .stuck
  | _ => .stuck
theorem cListR_ok : CallD X (.type "list") cListR := by
  refine ⟨_, call_list_of, fun W ι S H xs dxs Q rp rx q => ?_⟩
  unfold cListR at q
  split at q
  · rename_i d
    obtain ⟨v, e, r⟩ := rds_one rx
    subst e
    split at q
    · rename_i es hes
      obtain ⟨a, vs, e, hq, h2, z⟩ := rdS_ok rp r hes
      subst e
      refine ⟨a, vs, rfl, hq, fun p hp => ?_⟩
      have q2 := rep_newRef (m := .lst es) (u := .lst vs) rp hp ⟨vs, upd_same, z, h2.mono (Step.newRef hp).up⟩
      exact q.at (Step.newRef hp) q2.1 q2.2
    · exact q.elim
  · exact q.elim
def cTuple (ds : List D) (S : Sto) : R D := match ds with
  | [d] => match rdS S d with
    | some es => .ok (.tup es) S
    | none => .stuck
  | _ => .stuck
theorem cTuple_ok : CallD X (.type "tuple") cTuple := by
  refine ⟨_, call_tupleF, fun W ι S H xs dxs Q rp rx q => ?_⟩
  unfold cTuple at q
  split at q
  · rename_i d
    obtain ⟨v, e, r⟩ := rds_one rx
    subst e
    split at q
    · rename_i es hes
      have lst : rdL S d = some es → ∃ p ys, [v] = [V.ref p] ∧ ((SqL X.K H p ys ∧ NewT H ys Q) ∨ (SqT X.K H p ys ∧ Q (.ref p) H)) := fun h => by
        obtain ⟨a, vs, e, hq, h2, z⟩ := rdL_ok rp r h
        subst e
        exact ⟨a, vs, rfl, .inl ⟨hq, fun p o dd hp => q.at (Step.new hp) (rp.new hp) (by simp only [RD]; exact ⟨p, vs, rfl, Tp.mk dd, z, h2.mono (Step.new hp).up⟩)⟩⟩
      cases d with
      | tup ds =>
        simp only [rdS, Option.some.injEq] at hes; subst hes
        have r' := r
        simp only [RD] at r
        obtain ⟨a, vs, e, h1, z, h2⟩ := r
        subst e
        exact ⟨a, vs, rfl, .inr ⟨h1.sq, q.here rp r'⟩⟩
      | lst ds => exact lst hes
      | scr ds => exact lst hes
      | ref ds => exact lst hes
      | _ => cases hes
    · exact q.elim
  · exact q.elim
/-- isinstance(x, T) of a built-in class -/
def tyN (S : Sto) : D → Option String
  | .non => some "NoneType" | .bl _ => some "bool" | .int _ => some "int" | .str _ => some "str"
  | .tup _ => some "tuple" | .lst _ => some "list" | .scr _ => some "list" | .dct _ _ => some "dict"
  | .ref n => match S[n]? with
    | some (.lst _) => some "list"
    | some (.dK _ _) => some "dict"
    | some (.dT _ _) => some "dict"
    | _ => none
def opIsi (T : String) (d : D) (S : Sto) : R D := match tyN S d with
  | some t => match kitB t T with
    | some k => .ok (.bl k) S
    | none => .stuck
  | none => .stuck
theorem tyN_ok {H : Hp} {ι : Z} {S : Sto} {d : D} {v : V} {t : String} (rp : Rep H ι X.ek S) (r : RD H ι d v) (h : tyN S d = some t) : TyX X.K H v (.type t) := by
  cases d with
  | non => simp only [tyN, Option.some.injEq] at h; subst h; simp only [RD] at r; subst r; exact .base .non
  | bl b => simp only [tyN, Option.some.injEq] at h; subst h; simp only [RD] at r; subst r; exact .base (.bl b)
  | int b => simp only [tyN, Option.some.injEq] at h; subst h; simp only [RD] at r; subst r; exact .base (.int b)
  | str b => simp only [tyN, Option.some.injEq] at h; subst h; simp only [RD] at r; rw [r.1]; exact .base (.str b)
  | tup ds =>
    simp only [tyN, Option.some.injEq] at h; subst h; simp only [RD] at r
    obtain ⟨a, vs, e, h1, _⟩ := r
    subst e; obtain ⟨o, h1, _⟩ := h1; exact .fTuple h1
  | lst ds =>
    simp only [tyN, Option.some.injEq] at h; subst h; simp only [RD] at r
    obtain ⟨a, vs, e, h1, _⟩ := r
    subst e; exact .base (.lst h1)
  | scr ds =>
    simp only [tyN, Option.some.injEq] at h; subst h; simp only [RD] at r
    obtain ⟨a, vs, e, h1, _⟩ := r
    subst e
    rcases h1 with ⟨o, h1⟩ | ⟨o, its, n, h1, h2, _⟩
    · exact .base (.frz h1)
    · rw [show ι.k = X.K from rp.kk] at h1
      exact .kList h1 h2
  | dct ks ds =>
    simp only [tyN, Option.some.injEq] at h; subst h; simp only [RD] at r
    obtain ⟨a, vs, e, h1, _⟩ := r
    subst e
    rcases h1 with h1 | ⟨o, h1⟩
    · exact .base (.dK h1)
    · exact .fDict h1
  | ref n =>
    simp only [RD] at r
    obtain ⟨a, e, h1⟩ := r
    subst e
    obtain ⟨o, e2, ro⟩ := rp.has h1
    simp only [tyN, e2] at h
    cases o with
    | lst ds => simp only [Option.some.injEq] at h; subst h; obtain ⟨vs, h3, _⟩ := ro; exact .base (.lst h3)
    | dK ks ds => simp only [Option.some.injEq] at h; subst h; obtain ⟨vs, h3, _⟩ := ro; exact .base (.dK h3)
    | dT ks ds => simp only [Option.some.injEq] at h; subst h; obtain ⟨vs, h3, _⟩ := ro; exact .base (.dT h3)
    | ins c fs ds => cases h
theorem de_isi {x : Str} {T : String} {q : Pos} (hg : Gl X "isinstance") (hm : X.mg "isinstance" = none) (ha : DE X W a ma) (hT : PE X (.Name x q) (tC (.ty T)))
    (hs : starEach [a, .Name x q] X.env = (false, eval a X.env) :: starEach [.Name x q] X.env := by rfl) (hs2 : starEach [.Name x q] X.env = [(false, eval (.Name x q) X.env)] := by rfl)
    (hpl : (backTo pos (starEach [.Name x q] X.env)).any (·.1) = false := by rfl) : DE X W (.Call (.Name "isinstance" p) [a, .Name x q] [] pos) (mU (opIsi T) ma) :=
  pe_imp (pe_callB call_isi hg hm (by decide +kernel) (pa_cons ha (pa_cons hT pa_nil hs2) hs) (he := hs) (hpl := hpl)) fun σ H Q h => t_bind h fun ι S δ d v H1 rp rs rd g => by
    unfold opIsi at g
    split at g
    · rename_i t ht
      split at g
      · rename_i k hk
        exact ⟨v, .ty T, .type t, .type T, k, rfl, .ty T, tyN_ok rp rd ht, kit_ty hk, g.here rp (by simp only [RD])⟩
      · exact g.elim
    · exact g.elim
/-! ### methods of built-in types -/
def mMt (chk : Sto → D → Bool) (c : D → List D → Sto → R D) (o : Em) (a : Am) : Em := fun δ S => (o δ S).bind fun x S1 => if chk S1 x = true then (a δ S1).bind fun xs S2 => c x xs S2 else .stuck
def isLst (S : Sto) (d : D) : Bool := (rdL S d).isSome
def MtD (X : Cx) (id : String) (c : D → List D → Sto → R D) : Prop :=
  ∃ r, MtR X id r ∧ ∀ (W : XK) (ι : Z) (S : Sto) (H : Hp) (x : V) (xs : List V) (dx : D) (dxs : List D) (Q : VK), Rep H ι X.ek S → RD H ι dx x → RDs H ι dxs xs → G X.ek W ι H RD (c dx dxs S) Q → r x xs H Q
theorem de_mlist {name : Str} {id : String} {c : D → List D → Sto → R D} (slot : Slot "list" name id) (hty : typeOf (.builtin id) = pure (.type "method_descriptor")) (hm : MtD X id c) (ho : DE X W o mo) (ha : DA X W (e :: es) am)
    (hbase : attributeBase o name X.env (eval o X.env) = eval o X.env := by rfl)
    (hfew : ((backTo p (starEach (e :: es) X.env)).all (fun x => !x.1) && (backToKw p (keywordEach [] X.env)).all (fun x => x.1.isSome)
      && decide ((e :: es).length + ([] : List Keyword).length + (if ([] : List Keyword).isEmpty then 0 else 1) < 30)) = true := by rfl)
    (hline : (apos.endLine == p.line) = true := by rfl) (hs : starEach (e :: es) X.env = (false, eval e X.env) :: starEach es X.env := by rfl) (hplain : (backTo p (starEach es X.env)).any (·.1) = false := by rfl) :
    DE X W (.Call (.Attribute o name apos) (e :: es) [] p) (mMt isLst c mo am) := by
  obtain ⟨r, hr, k⟩ := hm
  exact pe_imp (pe_bm PySem.F.plainAttrs_list slot hty hr ho ha hbase hfew hline hs hplain) fun σ H Q h => t_bind h fun ι S δ d v H1 rp rs rd g => by
    split at g
    · rename_i hl
      unfold isLst at hl
      cases hd : rdL S d with
      | none => rw [hd] at hl; cases hl
      | some ds =>
        obtain ⟨a, vs, e, h1, h2, z⟩ := rdL_ok rp rd hd
        refine ⟨by subst e; exact .inl ⟨rfl, vs, h1⟩, ι, S, δ, rp, rs, (G.bind g).imp fun xs H2 ⟨ι2, S2, ds2, st2, rp2, rd2, g2⟩ => k _ ι2 S2 H2 v xs d ds2 Q rp2 (rd.mono st2.up) rd2 g2⟩
    · exact g.elim
def cAppend (x : D) (ds : List D) (S : Sto) : R D := match x, ds with
  | .ref n, [d] => match S[n]? with
    | some (.lst es) => if es.length < sizeLine then .ok .non (S.set n (.lst (es ++ [d]))) else .stuck
    | _ => .stuck
  | _, _ => .stuck
theorem cAppend_ok : MtD X "list.append" cAppend := by
  refine ⟨_, mt_append, fun W ι S H x xs dx dxs Q rp rx rs q => ?_⟩
  unfold cAppend at q
  split at q
  · rename_i n d
    obtain ⟨v, e, r⟩ := rds_one rs
    subst e
    simp only [RD] at rx
    obtain ⟨a, e, h1⟩ := rx
    obtain ⟨o, e2, ro⟩ := rp.has h1
    simp only [e2] at q
    cases o with
    | lst es =>
      obtain ⟨vs, h3, hz, h4⟩ := ro
      dsimp only at q
      split at q
      · rename_i hlt
        have st : Lift ι H ι (upd H a (.lst (vs ++ [v]))) := Lift.write (.inl (List.mem_of_getElem? h1)) (fun _ e' => by rw [h3] at e'; cases e'; exact .intro (fun _ _ q => nomatch q) (fun _ _ q => nomatch q))
        obtain ⟨rp2, st2⟩ := rp.write (m := .lst (es ++ [d])) (o := .lst (vs ++ [v])) h1 (.intro (fun _ _ q => nomatch q) (fun _ _ q => nomatch q)) ⟨_, upd_same, by simp; omega, (h4.mono st).app (.cons (r.mono st) .nil)⟩
        exact ⟨a, vs, v, e, rfl, h3, by rw [← h4.length]; exact hlt, q.at st2 rp2 (by simp only [RD])⟩
      · exact q.elim
    | _ => exact q.elim
  · exact q.elim
def cExtend (x : D) (ds : List D) (S : Sto) : R D := match x, ds with
  | .ref n, [d] => match S[n]?, asL S d with
    | some (.lst es), some fs => if es.length + fs.length ≤ sizeLine then .ok .non (S.set n (.lst (es ++ fs))) else .stuck
    | _, _ => .stuck
  | _, _ => .stuck
theorem cExtend_ok : MtD X "list.extend" cExtend := by
  refine ⟨_, mt_extend, fun W ι S H x xs dx dxs Q rp rx rs q => ?_⟩
  unfold cExtend at q
  split at q
  · rename_i n d
    obtain ⟨v, e, r⟩ := rds_one rs
    subst e
    simp only [RD] at rx
    obtain ⟨a, e, h1⟩ := rx
    obtain ⟨o, e2, ro⟩ := rp.has h1
    split at q
    · rename_i es fs h5 hfs
      rw [e2] at h5
      cases h5
      obtain ⟨vs, h3, hz, h4⟩ := ro
      obtain ⟨b, ws, eb, h6, h7, _⟩ := asL_ok rp r hfs
      subst eb
      split at q
      · rename_i hlt
        have st : Lift ι H ι (upd H a (.lst (vs ++ ws))) := Lift.write (.inl (List.mem_of_getElem? h1)) (fun _ e' => by rw [h3] at e'; cases e'; exact .intro (fun _ _ q => nomatch q) (fun _ _ q => nomatch q))
        obtain ⟨rp2, st2⟩ := rp.write (m := .lst (es ++ fs)) (o := .lst (vs ++ ws)) h1 (.intro (fun _ _ q => nomatch q) (fun _ _ q => nomatch q)) ⟨_, upd_same, by simp; omega, (h4.mono st).app (h7.mono st)⟩
        exact ⟨a, b, vs, ws, e, rfl, h3, h6, by rw [← h4.length, ← h7.length]; exact hlt, q.at st2 rp2 (by simp only [RD])⟩
      · exact q.elim
    · exact q.elim
  · exact q.elim
/-- sep.join(xs) -/
def strsOf : List D → Option (List Str)
  | [] => some []
  | .str s :: ds => (strsOf ds).map (s :: ·)
  | _ :: _ => none
theorem strsOf_ok {H : Hp} {ι : Z} : ∀ {ds : List D} {vs : List V} {ys : List Str}, RDs H ι ds vs → strsOf ds = some ys → vs = ys.map V.str
  | [], vs, ys, r, h => by simp only [strsOf, Option.some.injEq] at h; subst h; simp only [RDs] at r; exact r
  | d :: ds, vs, ys, r, h => by
    simp only [RDs] at r
    obtain ⟨v, w, e, r1, r2⟩ := r
    subst e
    cases d with
    | str s =>
      simp only [strsOf, Option.map_eq_some_iff] at h
      obtain ⟨zs, h2, e⟩ := h
      subst e
      simp only [RD] at r1
      rw [r1.1, strsOf_ok r2 h2]; rfl
    | _ => simp only [strsOf] at h; cases h
def opJoin (x y : D) (S : Sto) : R D := match x with
  | .str a => match rdS S y with
    | some ds => match strsOf ds with
      | some ys => if (ys.map (·.length)).sum + ys.length * a.length ≤ 16777216 ∧ (Txt.join a ys).length ≤ sizeLine then .ok (.str (Txt.join a ys)) S else .stuck
      | none => .stuck
    | none => .stuck
  | _ => .stuck
def mJoin (a b : Em) : Em := fun δ S => (a δ S).bind fun x S1 => match x with
  | .str _ => (b δ S1).bind fun y S2 => opJoin x y S2
  | _ => .stuck
theorem de_join (ho : DE X W o mo) (ha : DE X W a ma) (hs : starEach [a] X.env = [(false, eval a X.env)] := by rfl) (hbase : attributeBase o "join" X.env (eval o X.env) = eval o X.env := by rfl) (hline : (apos.endLine == pos.line) = true := by rfl) :
    DE X W (.Call (.Attribute o "join" apos) [a] [] pos) (mJoin mo ma) :=
  pe_imp (pe_join ho ha hs hbase hline) fun σ H Q h => t_bind h fun ι S δ d v H1 rp rs rd g => by
    cases d with
    | str z =>
      simp only [RD] at rd
      refine ⟨⟨z, rd.1⟩, ι, S, δ, rp, rs, (G.bind g).imp fun y H2 ⟨ι2, S2, dy, st2, rp2, rd2, g2⟩ => ?_⟩
      unfold opJoin at g2
      dsimp only at g2
      split at g2
      · rename_i ds hds
        obtain ⟨p, vs, e, hq, h2, hz⟩ := rdS_ok rp2 rd2 hds
        split at g2
        · rename_i ys hys
          have e2 := strsOf_ok h2 hys
          subst e2
          split at g2
          · rename_i hc
            exact ⟨z, p, ys, rd.1, by rw [e], hq, hc.1, g2.here rp2 (by simp only [RD]; exact ⟨trivial, hc.2⟩)⟩
          · exact g2.elim
        · exact g2.elim
      · exact g2.elim
    | _ => exact g.elim
end
end PM

/-! PM, part 10: chains, all, any, sum, a module's constants, a law's end -/
namespace PM
open PySem PySem.Spec L2 PyProof.Rows
section
variable {X : Cx} {W : WX} {a b c e o : Expr} {es : List Expr} {pos p p2 apos : Pos} {ma mb mc mo : Em} {am : Am}
theorem chain_imp {f g : D → D → Sto → R D} {r r' : R2} (k : ∀ (W : XK) (ι : Z) (S : Sto) (H : Hp) (x y : V) (dx dy : D) (Q : VK), Rep H ι X.ek S → RD H ι dx x → RD H ι dy y → G X.ek W ι H RD (f dx dy S) Q → r x y H Q)
    (k' : ∀ (W : XK) (ι : Z) (S : Sto) (H : Hp) (x y : V) (dx dy : D) (Q : VK), Rep H ι X.ek S → RD H ι dx x → RD H ι dy y → G X.ek W ι H RD (g dx dy S) Q → r' x y H Q) {σ : L2.St} {H : Hp} {Q : VK}
    (h : tDE X.ek W (mChain f g ma mb mc) σ H Q) : tChain r r' (tDE X.ek W ma) (tDE X.ek W mb) (tDE X.ek W mc) σ H Q := by
  refine t_bind h fun ι S δ d v H1 rp rs rd gg => ⟨ι, S, δ, rp, rs, (G.bind gg).imp fun v2 H2 ⟨ι2, S2, d2, st2, rp2, rd2, g2⟩ => ?_⟩
  refine k _ ι2 S2 H2 v v2 d d2 _ rp2 (rd.mono st2.up) rd2 ((G.bind g2).imp fun z H3 ⟨ι3, S3, dz, st3, rp3, rz, g3⟩ => ?_)
  cases dz with
  | bl kk =>
    refine ⟨kk, by simpa only [RD] using rz, ?_⟩
    cases kk with
    | true =>
      rw [if_pos rfl]
      exact ⟨ι3, S3, δ, rp3, rs.mono (st2.trans st3).up, (G.bind g3).imp fun v4 H4 ⟨ι4, S4, d4, st4, rp4, rd4, g4⟩ => k' _ ι4 S4 H4 v2 v4 d2 d4 _ rp4 (rd2.mono (st3.trans st4).up) rd4 g4⟩
    | false =>
      rw [if_neg Bool.false_ne_true]
      exact g3.here rp3 (by simp only [RD])
  | _ => exact g3.elim
theorem de_chain {op op' : CmpOp} {f g : D → D → Sto → R D} (ho : OpD X (compareOp op) f) (ho' : OpD X (compareOp op') g) (ha : DE X W a ma) (hb : DE X W b mb) (hc : DE X W c mc)
    (hm : lastMarks [op, op'] [b, c] = false := by with_unfolding_all rfl) : DE X W (.Compare a [op, op'] [b, c] pos) (mChain f g ma mb mc) := by
  obtain ⟨r, hr, k⟩ := ho
  obtain ⟨r', hr', k'⟩ := ho'
  exact pe_imp (pe_chain hr hr' ha hb hc hm) fun σ H Q h => chain_imp k k' h
theorem dt_chain {op op' : CmpOp} {f g : D → D → Sto → R D} (ho : OpD X (compareOp op) f) (ho' : OpD X (compareOp op') g) (ha : DE X W a ma) (hb : DE X W b mb) (hc : DE X W c mc)
    (hm : lastMarks [op, op'] [b, c] = false := by with_unfolding_all rfl) : DT X W (.Compare a [op, op'] [b, c] pos) (mT (mChain f g ma mb mc)) := by
  obtain ⟨r, hr, k⟩ := ho
  obtain ⟨r', hr', k'⟩ := ho'
  exact pt_imp (pt_chain hr hr' ha hb hc hm) fun σ H Q h => chain_imp (Q := fun x H' => ∃ k, x = .bl k ∧ Q k H') k k' (t_of h)
/-! ### all, any, sum -/
def blsOf : List D → Option (List Bool)
  | [] => some []
  | .bl b :: ds => (blsOf ds).map (b :: ·)
  | _ :: _ => none
def intsOf : List D → Option (List Int)
  | [] => some []
  | .int b :: ds => (intsOf ds).map (b :: ·)
  | _ :: _ => none
theorem blsOf_ok {H : Hp} {ι : Z} : ∀ {ds : List D} {vs : List V} {ys : List Bool}, RDs H ι ds vs → blsOf ds = some ys → vs = ys.map V.bl
  | [], vs, ys, r, h => by simp only [blsOf, Option.some.injEq] at h; subst h; simp only [RDs] at r; exact r
  | d :: ds, vs, ys, r, h => by
    simp only [RDs] at r
    obtain ⟨v, w, e, r1, r2⟩ := r
    subst e
    cases d with
    | bl s =>
      simp only [blsOf, Option.map_eq_some_iff] at h
      obtain ⟨zs, h2, e⟩ := h
      subst e
      simp only [RD] at r1
      rw [r1, blsOf_ok r2 h2]; rfl
    | _ => simp only [blsOf] at h; cases h
theorem intsOf_ok {H : Hp} {ι : Z} : ∀ {ds : List D} {vs : List V} {ys : List Int}, RDs H ι ds vs → intsOf ds = some ys → vs = ys.map V.int
  | [], vs, ys, r, h => by simp only [intsOf, Option.some.injEq] at h; subst h; simp only [RDs] at r; exact r
  | d :: ds, vs, ys, r, h => by
    simp only [RDs] at r
    obtain ⟨v, w, e, r1, r2⟩ := r
    subst e
    cases d with
    | int s =>
      simp only [intsOf, Option.map_eq_some_iff] at h
      obtain ⟨zs, h2, e⟩ := h
      subst e
      simp only [RD] at r1
      rw [r1, intsOf_ok r2 h2]; rfl
    | _ => simp only [intsOf] at h; cases h
def cBls (f : List Bool → Bool) (ds : List D) (S : Sto) : R D := match ds with
  | [d] => match rdL S d with
    | some es => match blsOf es with
      | some bs => .ok (.bl (f bs)) S
      | none => .stuck
    | none => .stuck
  | _ => .stuck
abbrev cAll : List D → Sto → R D := cBls fun bs => bs.all id
abbrev cAny : List D → Sto → R D := cBls fun bs => bs.any id
def cSum (ds : List D) (S : Sto) : R D := match ds with
  | [d] => match rdL S d with
    | some es => match intsOf es with
      | some bs => .ok (.int bs.sum) S
      | none => .stuck
    | none => .stuck
  | _ => .stuck
theorem cAll_ok (hc : X.calm = true) : CallD X (.builtin "all") cAll := by
  refine ⟨_, cr_all hc, fun W ι S H xs dxs Q rp rx q => ?_⟩
  unfold cAll cBls at q
  split at q
  · obtain ⟨v, e, r⟩ := rds_one rx
    subst e
    split at q
    · rename_i es hes
      obtain ⟨a, vs, e, hq, h2, z⟩ := rdL_ok rp r hes
      subst e
      split at q
      · rename_i bs hbs
        rw [blsOf_ok h2 hbs] at hq
        exact ⟨a, bs, rfl, hq, q.here rp (by simp only [RD])⟩
      · exact q.elim
    · exact q.elim
  · exact q.elim
theorem cAny_ok (hc : X.calm = true) : CallD X (.builtin "any") cAny := by
  refine ⟨_, cr_any hc, fun W ι S H xs dxs Q rp rx q => ?_⟩
  unfold cAny cBls at q
  split at q
  · obtain ⟨v, e, r⟩ := rds_one rx
    subst e
    split at q
    · rename_i es hes
      obtain ⟨a, vs, e, hq, h2, z⟩ := rdL_ok rp r hes
      subst e
      split at q
      · rename_i bs hbs
        rw [blsOf_ok h2 hbs] at hq
        exact ⟨a, bs, rfl, hq, q.here rp (by simp only [RD])⟩
      · exact q.elim
    · exact q.elim
  · exact q.elim
theorem cSum_ok (hc : X.calm = true) : CallD X (.builtin "sum") cSum := by
  refine ⟨_, cr_sum hc, fun W ι S H xs dxs Q rp rx q => ?_⟩
  unfold cSum at q
  split at q
  · obtain ⟨v, e, r⟩ := rds_one rx
    subst e
    split at q
    · rename_i es hes
      obtain ⟨a, vs, e, hq, h2, z⟩ := rdL_ok rp r hes
      subst e
      split at q
      · rename_i bs hbs
        rw [intsOf_ok h2 hbs] at hq
        exact ⟨a, bs, rfl, hq, q.here rp (by simp only [RD])⟩
      · exact q.elim
    · exact q.elim
  · exact q.elim
/-! ### -n, a module's constants -/
def opNeg (x : D) (S : Sto) : R D := match x with
  | .int i => .ok (.int (-i)) S
  | _ => .stuck
theorem de_neg (ha : DE X W a ma) : DE X W (.UnaryOp .USub a pos) (mU opNeg ma) :=
  pe_imp (pe_un un_neg ha) fun σ H Q h => t_bind h fun ι S δ d v H1 rp rs rd g => by
    unfold opNeg at g
    split at g
    · simp only [RD] at rd
      exact ⟨_, rd, g.here rp (by simp only [RD])⟩
    · exact g.elim
theorem de_gint {x : Str} {i : Int} (hg : Gl X x) (hm : ∃ t, X.mg x = some (.int i t)) (hd : (x == ("__debug__" : Str)) = false := by decide) : DE X W (.Name x pos) (mC (.int i)) := by
  obtain ⟨t, hm⟩ := hm
  exact de_const (v := V.int i) (pe_glob hg hm ⟨t, rfl⟩ hd) fun _ _ => by simp only [RD]
theorem de_gstr {x i : Str} (hg : Gl X x) (hm : ∃ t, X.mg x = some (.str i t)) (hi : i.length ≤ sizeLine) (hd : (x == ("__debug__" : Str)) = false := by decide) : DE X W (.Name x pos) (mC (.str i)) := by
  obtain ⟨t, hm⟩ := hm
  exact de_const (v := V.str i) (pe_glob hg hm ⟨t, rfl⟩ hd) fun _ _ => by simp only [RD]; exact ⟨trivial, hi⟩
end
/-! ### a law's end -/
def spLaw (K : PySem.W.Frag) : Sp := fun vs H Q _ => ∃ (a : Addr) (ns : List Int), vs = [.ref a] ∧ Only H ∧ SqL K H a (ns.map V.int) ∧ ns.length ≤ 63 ∧ ∀ H', Q (.bl true) H'
theorem rds_ints {H : Hp} {ι : Z} : ∀ ns : List Int, RDs H ι (ns.map D.int) (ns.map V.int)
  | [] => .nil
  | n :: ns => .cons (by simp only [RD]) (rds_ints ns)
theorem law_fn {P : Program} {w : World} {K : PySem.W.Frag} {mg : Str → Option Value} {base : Heap} {k : Nat} {f : Addr} {fd : FuncData} {ps : List Str} {c : List D → Sto → R D} (F : FnOk P w K mg base (L2.CX P w) k f fd ps (spD ⟨mg, K⟩ 1 c))
    (h : ∀ ns : List Int, ns.length ≤ 63 → ∃ S', c [.scr (ns.map D.int)] [] = .ok (.bl true) S') : FnOk P w K mg base (L2.CX P w) k f fd ps (spLaw K) :=
  F.imp fun vs H Q E ⟨a, ns, e, ho, hs, hl, q⟩ => by
    subst e
    have hz : ns.length ≤ sizeLine := Nat.le_trans hl (by decide)
    have hr : (∃ o, H a = some (.frz o (.lst (ns.map V.int)))) ∨ KL K a (ns.map V.int) := by
      rcases hs with (hs | ⟨o, hs⟩) | hs
      · rcases ho a with n | ⟨o, xs, n⟩
        · rw [n] at hs; cases hs
        · rw [n] at hs; cases hs
      · exact .inl ⟨o, hs⟩
      · exact .inr hs
    obtain ⟨S', e⟩ := h ns hl
    refine ⟨rfl, ⟨[], [], K⟩, [], [.scr (ns.map D.int)], ⟨rfl, rfl, List.nodup_nil, (fun _ h => by cases h), (fun _ _ _ h => by cases h)⟩, .cons ?_ .nil, ?_⟩
    · simp only [RD]
      exact ⟨a, _, rfl, hr, by simpa using hz, rds_ints ns⟩
    · rw [e]
      intro ι' H' v st rp r
      have : v = .bl true := by simpa only [RD] using r
      subst this
      exact q H'
theorem walk {l : PySem.W.OpenLaw} {N : Nat} {x : Str} {q : Program} {loose : List Str} {XP : (Str → Option Value) → Heap → Prop} {YP : World → Heap → Prop} {d : DefRec} {K : Params → PySem.W.Frag} (hn : l.most = some 63) (hdf : d.params.defaults = []) (hr : Room N callerA)
    (hY : ∀ (w : World) (h : Heap), YP w h → (K w.params).In h)
    (F : ∀ (w : World) (mg : Str → Option Value) (fa : Addr) (h : Heap), (K w.params).In h → h.Ns mainGlobals mg → mg d.name = some (.ref fa) →
      ∃ fd : FuncData, (∀ (s : Shared) (u : Value), BindsTo s fd ⟨[u], []⟩ [(x, u)]) ∧ ∀ base : Heap, (K w.params).In base → base.Ns mainGlobals mg → FnOk l.prog w (K w.params) mg base (L2.CX l.prog w) N fa fd [x] (spLaw (K w.params))) :
    PySem.W.WalkO q loose XP YP l.row.toRowW d [] (fun f vs => PySem.call f vs) :=
  L2.walk_of (n := 63) (k := N) (x := x) (CX := fun w => L2.CX l.prog w) (sp := fun w => spLaw (K w.params)) hn (by decide) hdf hr hY F (fun _ _ a ns hl ho hS => ⟨a, ns, rfl, ho, hS, hl, fun _ => rfl⟩) fun _ _ _ _ _ z => by
    obtain ⟨_, _, _, _, _, _, _, _, _, _, _, _, z⟩ := z
    exact z.elim
end PM

/-! PM, part 11: the functions unfolded; loops and comprehensions by lemmas -/
namespace PM
open PySem L2
section
variable {δ : Loc} {S : Sto} {a b c o : Em} {t u : Tm} {r : Am} {s1 s2 : Sm} {d : D} {ds : List D}
@[simp] theorem mV_eq {i : Nat} : mV i δ S = match δ[i]? with | some (some d) => .ok d S | _ => .stuck := (rfl)
@[simp] theorem mC_eq : mC d δ S = .ok d S := (rfl)
@[simp] theorem mB_eq {op} : mB op a b δ S = (a δ S).bind fun x S1 => (b δ S1).bind fun y S2 => op x y S2 := (rfl)
@[simp] theorem mU_eq {op} : mU op a δ S = (a δ S).bind fun x S1 => op x S1 := (rfl)
@[simp] theorem mNil_eq : mNil δ S = .ok [] S := (rfl)
@[simp] theorem mCons_eq : mCons a r δ S = (a δ S).bind fun x S1 => (r δ S1).bind fun xs S2 => .ok (x :: xs) S2 := (rfl)
@[simp] theorem mApp_eq {f} : mApp f r δ S = (r δ S).bind fun xs S1 => f xs S1 := (rfl)
@[simp] theorem mIfE_eq : mIfE t a b δ S = (t δ S).bind fun k S1 => if k = true then a δ S1 else b δ S1 := (rfl)
@[simp] theorem mT_eq : mT a δ S = (a δ S).bind fun x S1 => match x with | .bl k => .ok k S1 | _ => .stuck := (rfl)
@[simp] theorem mAnd_eq : mAnd t u δ S = (t δ S).bind fun k S1 => if k = true then u δ S1 else .ok false S1 := (rfl)
@[simp] theorem mOr_eq : mOr t u δ S = (t δ S).bind fun k S1 => if k = true then .ok true S1 else u δ S1 := (rfl)
@[simp] theorem mNot_eq : mNot t δ S = (t δ S).bind fun k S1 => .ok (!k) S1 := (rfl)
@[simp] theorem mYes_eq : mYes δ S = .ok true S := (rfl)
@[simp] theorem mAndV_eq : mAndV a b δ S = (a δ S).bind fun x S1 => match x with | .bl true => b δ S1 | .bl false => .ok (.bl false) S1 | _ => .stuck := (rfl)
@[simp] theorem mOrV_eq : mOrV a b δ S = (a δ S).bind fun x S1 => match x with | .bl true => .ok (.bl true) S1 | .bl false => b δ S1 | _ => .stuck := (rfl)
@[simp] theorem mNotV_eq : mNotV a δ S = (a δ S).bind fun x S1 => match x with | .bl k => .ok (.bl (!k)) S1 | _ => .stuck := (rfl)
@[simp] theorem mChain_eq {f g} : mChain f g a b c δ S = (a δ S).bind fun x S1 => (b δ S1).bind fun y S2 => (f x y S2).bind fun k S3 => match k with
  | .bl true => (c δ S3).bind fun z S4 => g y z S4
  | .bl false => .ok (.bl false) S3
  | _ => .stuck := (rfl)
@[simp] theorem sSeq_eq : sSeq s1 s2 δ S = (s1 δ S).seq s2 := (rfl)
@[simp] theorem sPass_eq : sPass δ S = .nx δ S := (rfl)
@[simp] theorem sExpr_eq : sExpr a δ S = (a δ S).into δ fun _ S1 => .nx δ S1 := (rfl)
@[simp] theorem sRet_eq : sRet a δ S = (a δ S).into δ fun d S1 => .rt d S1 := (rfl)
@[simp] theorem sRetN_eq : sRetN δ S = .rt .non S := (rfl)
@[simp] theorem sIf_eq : sIf t s1 s2 δ S = (t δ S).into δ fun k S1 => if k = true then s1 δ S1 else s2 δ S1 := (rfl)
@[simp] theorem sAsg_eq {g} : sAsg a g δ S = (a δ S).into δ fun d S1 => (g d δ S1).into δ fun δ' S2 => .nx δ' S2 := (rfl)
@[simp] theorem gmName_eq {i : Nat} : gmName i d δ S = .ok (δ.set i (some d)) S := (rfl)
@[simp] theorem gmTup_eq {is : List Nat} : gmTup is (.tup ds) δ S = gmNames is ds δ S := (rfl)
@[simp] theorem gmNames_nil : gmNames [] [] δ S = .ok δ S := (rfl)
@[simp] theorem gmNames_cons {i : Nat} {is : List Nat} : gmNames (i :: is) (d :: ds) δ S = gmNames is ds (δ.set i (some d)) S := (rfl)
@[simp] theorem gmSub_eq {f} : gmSub a b f d δ S = (a δ S).bind fun x S1 => (b δ S1).bind fun y S2 => (f x y d S2).bind fun _ S3 => .ok δ S3 := (rfl)
@[simp] theorem mNo_eq : mNo δ S = .ok none S := (rfl)
@[simp] theorem mPt_eq : mPt a δ S = (a δ S).bind fun x S1 => match x with | .int i => .ok (some i) S1 | _ => .stuck := (rfl)
@[simp] theorem mSl_eq {f} {lo hi : Om} : mSl f a lo hi δ S = (a δ S).bind fun x S1 => (lo δ S1).bind fun l S2 => (hi δ S2).bind fun u S3 => f x l u S3 := (rfl)
@[simp] theorem mMt_eq {chk c} : mMt chk c o r δ S = (o δ S).bind fun x S1 => if chk S1 x = true then (r δ S1).bind fun xs S2 => c x xs S2 else .stuck := (rfl)
@[simp] theorem mJoin_eq : mJoin a b δ S = (a δ S).bind fun x S1 => match x with | .str _ => (b δ S1).bind fun y S2 => opJoin x y S2 | _ => .stuck := (rfl)
@[simp] theorem sItems_eq : sItems a δ S = (a δ S).bind (β := List D × (Sto → Prop)) fun d S1 => match d with
  | .lst ds => .ok (ds, fun _ => True) S1
  | .scr ds => .ok (ds, fun _ => True) S1
  | .tup ds => .ok (ds, fun _ => True) S1
  | .str s => .ok (s.cps.toList.map (fun c => .str ⟨#[c]⟩), fun _ => True) S1
  | .ref n => match S1[n]? with
    | some (.lst ds) => .ok (ds, fun S => S[n]? = some (.lst ds)) S1
    | _ => .stuck
  | _ => .stuck := (rfl)
@[simp] theorem sRange1_eq : sRange1 a δ S = (a δ S).bind (β := List D × (Sto → Prop)) fun d S1 => match d with
  | .int j => if limR 0 j = true then .ok (rangeD 0 j.toNat, fun _ => True) S1 else .stuck
  | _ => .stuck := (rfl)
@[simp] theorem sRangeLen_eq : sRangeLen a δ S = (a δ S).bind (β := List D × (Sto → Prop)) fun d S1 => match lenOf d S1 with
  | some n => .ok (rangeD 0 n, fun _ => True) S1
  | none => .stuck := (rfl)
def loopB (g : Gm) (s : Sm) : D → Sm := fun x δ S => (g x δ S).into δ s
theorem loopB_eq {g s} {x : D} : loopB g s x δ S = (g x δ S).into δ s := rfl
@[simp] theorem sFor_eq {src g s} : sFor src g s δ S = (src δ S).into δ fun p S1 => loopM p.2 (loopB g s) p.1 δ S1 := (rfl)
@[simp] theorem mComp_eq {src g vs} : mComp src g t a vs δ S = (src δ S).bind fun p S1 => compM p.2 g t a (wipeD δ vs) [] p.1 S1 := (rfl)
@[simp] theorem lenOf_lst : lenOf (.lst ds) S = some ds.length := (rfl)
@[simp] theorem lenOf_tup : lenOf (.tup ds) S = some ds.length := (rfl)
@[simp] theorem lenOf_scr : lenOf (.scr ds) S = some ds.length := (rfl)
@[simp] theorem lenOf_str {s} : lenOf (.str s) S = some s.length := (rfl)
@[simp] theorem cLen_eq : cLen [d] S = match lenOf d S with | some n => .ok (.int n) S | none => .stuck := (rfl)
end
/-! ### loops that leave the objects -/
section
variable {grd : Sto → Prop} {g : Gm} {t : Tm} {e : Em} {δ : Loc} {S : Sto}
theorem compM_nil {acc : List D} (h : grd S) : compM grd g t e δ acc [] S = .ok (.lst acc) S := by
  rw [compM, if_pos h]
theorem compM_cons {acc xs : List D} {x : D} (h : grd S) : compM grd g t e δ acc (x :: xs) S = (g x δ S).quiet.bind fun δ' S1 => (t δ' S1).quiet.bind fun k S2 =>
    if k = true then (e δ' S2).quiet.bind fun y S3 => compM grd g t e δ (acc ++ [y]) xs S3 else compM grd g t e δ acc xs S2 := by
  rw [compM, if_pos h]
theorem comp_pure (f : D → D) (hg : grd S) : ∀ (ds acc : List D), (∀ x ∈ ds, ∃ δ', g x δ S = .ok δ' S ∧ t δ' S = .ok true S ∧ e δ' S = .ok (f x) S) → compM grd g t e δ acc ds S = .ok (.lst (acc ++ ds.map f)) S
  | [], acc, _ => by rw [compM_nil hg]; simp
  | x :: ds, acc, h => by
    obtain ⟨δ', h1, h2, h3⟩ := h x (by simp)
    rw [compM_cons hg, h1]
    simp only [R.quiet_ok, R.bind_ok, h2, h3, if_pos]
    rw [comp_pure f hg ds _ fun y hy => h y (by simp [hy])]
    simp
theorem comp_filt (p : D → Bool) (f : D → D) (hg : grd S) : ∀ (ds acc : List D), (∀ x ∈ ds, ∃ δ', g x δ S = .ok δ' S ∧ t δ' S = .ok (p x) S ∧ (p x = true → e δ' S = .ok (f x) S)) → compM grd g t e δ acc ds S = .ok (.lst (acc ++ (ds.filter p).map f)) S
  | [], acc, _ => by rw [compM_nil hg]; simp
  | x :: ds, acc, h => by
    obtain ⟨δ', h1, h2, h3⟩ := h x (by simp)
    rw [compM_cons hg, h1]
    simp only [R.quiet_ok, R.bind_ok, h2]
    by_cases hp : p x = true
    · rw [if_pos hp, h3 hp]
      simp only [R.quiet_ok, R.bind_ok]
      rw [comp_filt p f hg ds _ fun y hy => h y (by simp [hy]), List.filter_cons_of_pos hp]
      simp
    · rw [if_neg hp, comp_filt p f hg ds _ fun y hy => h y (by simp [hy]), List.filter_cons_of_neg hp]
/-- a comprehension over a mapped list -/
theorem comp_map {α : Type} (i : α → D) (f : α → D) (hg : grd S) (xs : List α) (acc : List D) (h : ∀ x ∈ xs, ∃ δ', g (i x) δ S = .ok δ' S ∧ t δ' S = .ok true S ∧ e δ' S = .ok (f x) S) :
    compM grd g t e δ acc (xs.map i) S = .ok (.lst (acc ++ xs.map f)) S := by
  induction xs generalizing acc with
  | nil => rw [List.map_nil, compM_nil hg]; simp
  | cons x xs ih =>
    obtain ⟨δ', h1, h2, h3⟩ := h x (by simp)
    rw [List.map_cons, compM_cons hg, h1]
    simp only [R.quiet_ok, R.bind_ok, h2, h3, if_pos]
    rw [ih _ fun y hy => h y (by simp [hy])]
    simp
end
/-- a loop by what holds behind each turn -/
theorem loop_inv {b : D → Sm} (I : Nat → Loc → Sto → Prop) : ∀ (ds : List D) (n : Nat) (δ : Loc) (S : Sto), I n δ S →
    (∀ i x δ S, ds[i]? = some x → I (n + i) δ S → ∃ δ' S', (b x δ S = .nx δ' S' ∨ b x δ S = .ct δ' S') ∧ I (n + i + 1) δ' S') → ∃ δ' S', loopM (fun _ => True) b ds δ S = .nx δ' S' ∧ I (n + ds.length) δ' S'
  | [], n, δ, S, h0, _ => ⟨δ, S, by rw [loopM, if_pos trivial], h0⟩
  | x :: ds, n, δ, S, h0, hs => by
    obtain ⟨δ1, S1, h1, h2⟩ := hs 0 x δ S rfl h0
    have e : loopM (fun _ => True) b (x :: ds) δ S = loopM (fun _ => True) b ds δ1 S1 := by
      rw [loopM, if_pos trivial]
      rcases h1 with h1 | h1 <;> rw [h1]
    obtain ⟨δ2, S2, h3, h4⟩ := loop_inv I ds (n + 1) δ1 S1 h2 fun i y δ S hy hI => by
      have := hs (i + 1) y δ S (by simpa using hy) (by rw [show n + (i + 1) = n + 1 + i by omega]; exact hI)
      rwa [show n + (i + 1) + 1 = n + 1 + i + 1 by omega] at this
    exact ⟨δ2, S2, by rw [e]; exact h3, by rw [List.length_cons, show n + (ds.length + 1) = n + 1 + ds.length by omega]; exact h4⟩
/-- the same, the loop's end given a name: «generalize hL : loopM _ _ _ _ _ = r» -/
theorem loop_of {b : D → Sm} {ds : List D} {δ : Loc} {S : Sto} {r : RS} (hL : loopM (fun _ => True) b ds δ S = r) (I : Nat → Loc → Sto → Prop) (h0 : I 0 δ S)
    (hs : ∀ i x δ S, ds[i]? = some x → I i δ S → ∃ δ' S', (b x δ S = .nx δ' S' ∨ b x δ S = .ct δ' S') ∧ I (i + 1) δ' S') : ∃ δ' S', r = .nx δ' S' ∧ I ds.length δ' S' := by
  obtain ⟨δ', S', h1, h2⟩ := loop_inv I ds 0 δ S h0 fun i x δ S hx hI => by
    have := hs i x δ S hx (by rwa [Nat.zero_add] at hI)
    rwa [Nat.zero_add]
  exact ⟨δ', S', hL.symm.trans h1, by rwa [Nat.zero_add] at h2⟩
/-- .. where a turn may also return -/
theorem loop_ret {b : D → Sm} {ds : List D} {δ : Loc} {S : Sto} {r : RS} (hL : loopM (fun _ => True) b ds δ S = r) (I : Nat → Loc → Sto → Prop) (E : RS → Prop) (h0 : I 0 δ S)
    (hs : ∀ i x δ S, ds[i]? = some x → I i δ S → (∃ δ' S', (b x δ S = .nx δ' S' ∨ b x δ S = .ct δ' S') ∧ I (i + 1) δ' S') ∨ (∃ d S', b x δ S = .rt d S' ∧ E (.rt d S')) ∨ (∃ δ' S', b x δ S = .bk δ' S' ∧ E (.nx δ' S')) ∨ (∃ c δ' S', b x δ S = .exc c δ' S' ∧ E (.exc c δ' S'))) : (∃ δ' S', r = .nx δ' S' ∧ I ds.length δ' S') ∨ E r := by
  subst hL
  suffices H : ∀ (ds : List D) (n : Nat) (δ : Loc) (S : Sto), I n δ S → (∀ i x δ S, ds[i]? = some x → I (n + i) δ S → (∃ δ' S', (b x δ S = .nx δ' S' ∨ b x δ S = .ct δ' S') ∧ I (n + i + 1) δ' S') ∨ (∃ d S', b x δ S = .rt d S' ∧ E (.rt d S')) ∨ (∃ δ' S', b x δ S = .bk δ' S' ∧ E (.nx δ' S')) ∨ (∃ c δ' S', b x δ S = .exc c δ' S' ∧ E (.exc c δ' S'))) →
      (∃ δ' S', loopM (fun _ => True) b ds δ S = .nx δ' S' ∧ I (n + ds.length) δ' S') ∨ E (loopM (fun _ => True) b ds δ S) by
    have := H ds 0 δ S h0 fun i x δ S hx hI => by
      have := hs i x δ S hx (by rwa [Nat.zero_add] at hI)
      rwa [Nat.zero_add]
    rwa [Nat.zero_add] at this
  intro ds
  induction ds with
  | nil => intro n δ S h0 _; exact .inl ⟨δ, S, by rw [loopM, if_pos trivial], h0⟩
  | cons x ds ih =>
    intro n δ S h0 hs
    rcases hs 0 x δ S rfl h0 with ⟨δ1, S1, h1, h2⟩ | ⟨d, S1, h1, h2⟩ | ⟨δ1, S1, h1, h2⟩ | ⟨c, δ1, S1, h1, h2⟩
    · have e : loopM (fun _ => True) b (x :: ds) δ S = loopM (fun _ => True) b ds δ1 S1 := by
        rw [loopM, if_pos trivial]
        rcases h1 with h1 | h1 <;> rw [h1]
      rw [e, List.length_cons, show n + (ds.length + 1) = n + 1 + ds.length by omega]
      refine ih (n + 1) δ1 S1 h2 fun i y δ S hy hI => ?_
      have := hs (i + 1) y δ S (by simpa using hy) (by rw [show n + (i + 1) = n + 1 + i by omega]; exact hI)
      rwa [show n + (i + 1) + 1 = n + 1 + i + 1 by omega] at this
    · exact .inr (by rw [loopM, if_pos trivial, h1]; exact h2)
    · exact .inr (by rw [loopM, if_pos trivial, h1]; exact h2)
    · exact .inr (by rw [loopM, if_pos trivial, h1]; exact h2)
/-- a comprehension whose elements change objects, by what holds behind each turn: out i is the i-th element -/
theorem comp_of {g : Gm} {t : Tm} {e : Em} {δ : Loc} {S : Sto} {ds : List D} {r : R D} (hL : compM (fun _ => True) g t e δ [] ds S = r) (I : List D → Sto → Prop) (h0 : I [] S)
    (hs : ∀ (i : Nat) x acc S, ds[i]? = some x → I acc S → ∃ δ' S1 k S2, g x δ S = .ok δ' S1 ∧ t δ' S1 = .ok k S2 ∧ (k = true → ∃ y S3, e δ' S2 = .ok y S3 ∧ I (acc ++ [y]) S3) ∧ (k = false → I acc S2)) : ∃ acc S', r = .ok (.lst acc) S' ∧ I acc S' := by
  subst hL
  suffices H : ∀ (ds acc : List D) (S : Sto), I acc S → (∀ (i : Nat) x acc S, ds[i]? = some x → I acc S → ∃ δ' S1 k S2, g x δ S = .ok δ' S1 ∧ t δ' S1 = .ok k S2 ∧ (k = true → ∃ y S3, e δ' S2 = .ok y S3 ∧ I (acc ++ [y]) S3) ∧ (k = false → I acc S2)) →
      ∃ acc' S', compM (fun _ => True) g t e δ acc ds S = .ok (.lst acc') S' ∧ I acc' S' from H ds [] S h0 hs
  intro ds
  induction ds with
  | nil => intro acc S h0 _; exact ⟨acc, S, compM_nil trivial, h0⟩
  | cons x ds ih =>
    intro acc S h0 hs
    obtain ⟨δ', S1, k, S2, h1, h2, h3, h4⟩ := hs 0 x acc S rfl h0
    rw [compM_cons trivial, h1]
    simp only [R.quiet_ok, R.bind_ok, h2]
    have hs' : ∀ (i : Nat) x acc S, ds[i]? = some x → I acc S → ∃ δ' S1 k S2, g x δ S = .ok δ' S1 ∧ t δ' S1 = .ok k S2 ∧ (k = true → ∃ y S3, e δ' S2 = .ok y S3 ∧ I (acc ++ [y]) S3) ∧ (k = false → I acc S2) := fun i y acc S hy hI => hs (i + 1) y acc S (by simpa using hy) hI
    cases k with
    | true =>
      obtain ⟨y, S3, h5, h6⟩ := h3 rfl
      rw [if_pos rfl, h5]
      simp only [R.quiet_ok, R.bind_ok]
      exact ih _ S3 h6 hs'
    | false =>
      rw [if_neg Bool.false_ne_true]
      exact ih _ S2 (h4 rfl) hs'
theorem rangeD_get' {lo : Int} {n i : Nat} {x : D} (h : (rangeD lo n)[i]? = some x) : i < n ∧ x = .int (lo + i) := by
  unfold rangeD at h
  rw [List.getElem?_map] at h
  have hi : i < n := by
    rcases Nat.lt_or_ge i n with h' | h'
    · exact h'
    · rw [List.getElem?_eq_none (by simpa using h')] at h; cases h
  rw [List.getElem?_range hi] at h
  exact ⟨hi, by simpa using h.symm⟩
@[simp] theorem rangeD_length {lo : Int} {n : Nat} : (rangeD lo n).length = n := by simp [rangeD]
theorem rangeD_map {n : Nat} : rangeD 0 n = (List.range n).map fun i => D.int ((i : Nat) : Int) := by simp [rangeD]
theorem limR_ok {i j : Int} (h : 0 ≤ i ∧ i ≤ 1000000 ∧ 0 ≤ j ∧ j ≤ 1000000) : limR i j = true := by
  have : (1000000 : Nat) ≤ sizeLine := by decide
  unfold limR lim62
  simp only [Bool.and_eq_true, decide_eq_true_eq]
  refine ⟨⟨⟨by omega, by omega⟩, by omega, by omega⟩, by omega⟩
/-! ### data without objects -/
mutual
theorem cl_mono {n m : Nat} (h : n ≤ m) : ∀ d : D, D.cl n d = true → D.cl m d = true
  | .non, _ => rfl
  | .bl _, _ => rfl
  | .int _, _ => rfl
  | .str _, _ => rfl
  | .tup ds, q => by simp only [D.cl] at q ⊢; exact cls_mono h ds q
  | .lst ds, q => by simp only [D.cl] at q ⊢; exact cls_mono h ds q
  | .scr ds, q => by simp only [D.cl] at q ⊢; exact cls_mono h ds q
  | .dct _ ds, q => by simp only [D.cl] at q ⊢; exact cls_mono h ds q
  | .ref k, q => by simp only [D.cl, decide_eq_true_eq] at q ⊢; omega
theorem cls_mono {n m : Nat} (h : n ≤ m) : ∀ ds : List D, D.cls n ds = true → D.cls m ds = true
  | [], _ => rfl
  | d :: ds, q => by
    simp only [D.cls, Bool.and_eq_true] at q ⊢
    exact ⟨cl_mono h d q.1, cls_mono h ds q.2⟩
end
mutual
theorem fz_cl {rc : List D → Option (List D)} {S : Sto} {n : Nat} : ∀ d : D, D.cl n d = true → fz rc S n d = some d
  | .non, _ => rfl
  | .bl _, _ => rfl
  | .int _, _ => rfl
  | .str _, _ => rfl
  | .tup ds, q => by simp only [D.cl] at q; simp only [fz, fzs_cl ds q]; rfl
  | .lst ds, q => by simp only [D.cl] at q; simp only [fz, fzs_cl ds q]; rfl
  | .scr ds, q => by simp only [D.cl] at q; simp only [fz, fzs_cl ds q]; rfl
  | .dct _ ds, q => by simp only [D.cl] at q; simp only [fz, fzs_cl ds q]; rfl
  | .ref k, q => by simp only [D.cl, decide_eq_true_eq] at q; simp only [fz, if_pos q]
theorem fzs_cl {rc : List D → Option (List D)} {S : Sto} {n : Nat} : ∀ ds : List D, D.cls n ds = true → fzs rc S n ds = some ds
  | [], _ => rfl
  | d :: ds, q => by
    simp only [D.cls, Bool.and_eq_true] at q
    simp only [fzs, fz_cl d q.1, fzs_cl ds q.2]; rfl
end
theorem frz_cl {S : Sto} {n k : Nat} {ds : List D} (h : D.cls n ds = true) : frz S n k ds = some ds := by
  cases k <;> exact fzs_cl ds h
theorem cls_all {n : Nat} {ds : List D} (h : ∀ d ∈ ds, D.cl n d = true) : D.cls n ds = true := by
  induction ds with
  | nil => rfl
  | cons d ds ih => simp only [D.cls, Bool.and_eq_true]; exact ⟨h d (by simp), ih fun x hx => h x (by simp [hx])⟩
theorem cls_map {α : Type} {n : Nat} {f : α → D} {xs : List α} (h : ∀ x ∈ xs, D.cl n (f x) = true) : D.cls n (xs.map f) = true :=
  cls_all fun d hd => by
    obtain ⟨x, hx, e⟩ := List.mem_map.mp hd
    rw [← e]; exact h x hx
theorem cls_app {n : Nat} {ds es : List D} (h : D.cls n ds = true) (g : D.cls n es = true) : D.cls n (ds ++ es) = true := by
  induction ds with
  | nil => exact g
  | cons d ds ih =>
    simp only [D.cls, List.cons_append, Bool.and_eq_true] at h ⊢
    exact ⟨h.1, ih h.2⟩
/-- a def whose new objects stand behind the old ones, and whose answer holds none -/
theorem finFrz_app {k : Nat} {S T : Sto} {d : D} (h : D.cl S.length d = true) : finFrz k S (.ok d (S ++ T)) = .ok d S := by
  unfold finFrz
  have e : frz (S ++ T) S.length k [d] = some [d] := frz_cl (by simp only [D.cls, h]; rfl)
  simp only [if_pos (ClS.app (S := S) (T := T)), e]
  rw [List.take_left]
/-- .. whose answer is its own new list -/
theorem finFrz_ref {k m : Nat} {S T : Sto} {ds : List D} (hm : S.length ≤ m) (hd : (S ++ T)[m]? = some (.lst ds)) (h : D.cls S.length ds = true) : finFrz (k + 1) S (.ok (.ref m) (S ++ T)) = .ok (.lst ds) S := by
  unfold finFrz
  have e : frz (S ++ T) S.length (k + 1) [.ref m] = some [.lst ds] := by
    show fzs (frz (S ++ T) S.length k) (S ++ T) S.length [.ref m] = _
    simp only [fzs, fz, if_neg (Nat.not_lt.mpr hm), hd, frz_cl h]; rfl
  simp only [if_pos (ClS.app (S := S) (T := T)), e]
  rw [List.take_left]
end PM

/-! PM, part 12: operators at their values -/
namespace PM
open PySem L2
@[simp] theorem ofString_inj {s t : String} : (Str.ofString s = Str.ofString t) ↔ s = t := by
  constructor
  · intro h
    rw [Str.ofString_eq_toList, Str.ofString_eq_toList] at h
    have h1 : (s.toList.map Char.toNat).toArray = (t.toList.map Char.toNat).toArray := by injection h
    have h2 : s.toList.map Char.toNat = t.toList.map Char.toNat := by simpa using h1
    have h3 : ∀ l r : List Char, l.map Char.toNat = r.map Char.toNat → l = r := by
      intro l
      induction l with
      | nil => intro r h; cases r with
        | nil => rfl
        | cons c r => simp at h
      | cons c l ih =>
        intro r h
        cases r with
        | nil => simp at h
        | cons d r =>
          simp only [List.map_cons, List.cons.injEq] at h
          have : c = d := by
            have h4 : c.val.toNat = d.val.toNat := h.1
            exact Char.ext (UInt32.toNat_inj.mp h4)
          rw [this, ih r h.2]
    exact String.toList_inj.mp (h3 _ _ h2)
  · intro h; rw [h]
section
variable {S : Sto} {i j : Int} {a b : Str} {ds es : List D} {d e : D} {n : Nat}
@[simp] theorem opAdd_int : opAdd (.int i) (.int j) S = .ok (.int (i + j)) S := (rfl)
@[simp] theorem opSub_int : opSub (.int i) (.int j) S = .ok (.int (i - j)) S := (rfl)
@[simp] theorem opLt_int : opLt (.int i) (.int j) S = .ok (.bl (decide (i < j))) S := (rfl)
@[simp] theorem opLe_int : opLe (.int i) (.int j) S = .ok (.bl (decide (i ≤ j))) S := (rfl)
@[simp] theorem opGt_int : opGt (.int i) (.int j) S = .ok (.bl (decide (j < i))) S := (rfl)
@[simp] theorem opGe_int : opGe (.int i) (.int j) S = .ok (.bl (decide (j ≤ i))) S := (rfl)
@[simp] theorem opNeg_int : opNeg (.int i) S = .ok (.int (-i)) S := (rfl)
theorem opMul_r (h : -18446744073709551616 < j ∧ j < 18446744073709551616) : opMul (.int i) (.int j) S = .ok (.int (i * j)) S := by
  show (if CMul i j then _ else _) = _
  rw [if_pos (.inr (by simpa using h))]
theorem opMul_l (h : -18446744073709551616 < i ∧ i < 18446744073709551616) : opMul (.int i) (.int j) S = .ok (.int (i * j)) S := by
  show (if CMul i j then _ else _) = _
  rw [if_pos (.inl (by simpa using h))]
theorem opMod_pos (h : 0 < j) : opMod (.int i) (.int j) S = .ok (.int (i % j)) S := by
  show (if 0 < j then _ else _) = _
  rw [if_pos h]
theorem opDiv_pos (h : 0 < j ∧ j < 1073741824) : opDiv (.int i) (.int j) S = .ok (.int (i / j)) S := by
  show (if CDiv i j then _ else _) = _
  rw [if_pos (show CDiv i j from h)]
theorem opPow_int (h : 0 ≤ j ∧ j ≤ 1000000 ∧ i.natAbs < 18446744073709551616) : opPow (.int i) (.int j) S = .ok (.int (i ^ j.toNat)) S := by
  show (if CPow i j then _ else _) = _
  rw [if_pos (by unfold CPow; simpa using h)]
theorem opAdd_str (h : a.length + b.length ≤ sizeLine) : opAdd (.str a) (.str b) S = .ok (.str (a ++ b)) S := by
  show (if _ then _ else _) = _
  rw [if_pos h]
theorem opAdd_tup (h : ds.length + es.length ≤ sizeLine) : opAdd (.tup ds) (.tup es) S = .ok (.tup (ds ++ es)) S := by
  show newTup _ _ = _
  unfold newTup
  rw [if_pos (by simpa using h)]
theorem opAdd_lst (h : ds.length + es.length ≤ sizeLine) : opAdd (.lst ds) (.lst es) S = .ok (.lst (ds ++ es)) S := by
  show newLst _ _ = _
  unfold newLst
  rw [if_pos (by simpa using h)]
theorem opAdd_refl (hn : S[n]? = some (.lst ds)) (h : ds.length + es.length ≤ sizeLine) : opAdd (.ref n) (.lst es) S = .ok (.lst (ds ++ es)) S := by
  simp only [opAdd, asL, hn]
  unfold newLst
  rw [if_pos (by simpa using h)]
theorem opAddR_refl (hn : S[n]? = some (.lst ds)) (h : ds.length + es.length ≤ sizeLine) : opAddR (.ref n) (.lst es) S = .ok (.ref S.length) (S ++ [.lst (ds ++ es)]) := by
  simp only [opAddR, asL, hn]
  unfold newRef
  rw [if_pos (by simpa using h)]
@[simp] theorem opEq_str : opEq (.str a) (.str b) S = .ok (.bl (decide (a = b))) S := (rfl)
@[simp] theorem opEq_int : opEq (.int i) (.int j) S = .ok (.bl (decide (i = j))) S := (rfl)
@[simp] theorem opNe_str : opNe (.str a) (.str b) S = .ok (.bl (!decide (a = b))) S := (rfl)
@[simp] theorem opNe_int : opNe (.int i) (.int j) S = .ok (.bl (!decide (i = j))) S := (rfl)
@[simp] theorem opEq_bl {x y : Bool} : opEq (.bl x) (.bl y) S = .ok (.bl (decide (x = y))) S := (rfl)
@[simp] theorem opNe_bl {x y : Bool} : opNe (.bl x) (.bl y) S = .ok (.bl (!decide (x = y))) S := (rfl)
@[simp] theorem opIsN_non : opIsN d .non S = .ok (.bl (isNon d)) S := (rfl)
@[simp] theorem opNotN_non : opNotN d .non S = .ok (.bl (!isNon d)) S := (rfl)
theorem opEq_of {k : Bool} (h : eqD S d e = some k) : opEq d e S = .ok (.bl k) S := by unfold opEq; rw [h]
theorem opNe_of {k : Bool} (h : eqD S d e = some k) : opNe d e S = .ok (.bl (!k)) S := by unfold opNe; rw [h]
/-! subscripts -/
@[simp] theorem atI_cast {α : Type} (xs : List α) (k : Nat) : atI xs (k : Int) = xs[k]? := by
  unfold atI ixN
  rw [if_pos (by omega)]
  by_cases h : k < xs.length
  · rw [if_pos (by omega)]; simp
  · rw [if_neg (by omega), List.getElem?_eq_none (by omega)]; rfl
@[simp] theorem atI_0 {α : Type} (xs : List α) : atI xs 0 = xs[0]? := atI_cast xs 0
@[simp] theorem atI_1 {α : Type} (xs : List α) : atI xs 1 = xs[1]? := atI_cast xs 1
@[simp] theorem atI_2 {α : Type} (xs : List α) : atI xs 2 = xs[2]? := atI_cast xs 2
@[simp] theorem atI_3 {α : Type} (xs : List α) : atI xs 3 = xs[3]? := atI_cast xs 3
theorem atI_of {α : Type} (xs : List α) (h : 0 ≤ i) : atI xs i = xs[i.toNat]? := by
  obtain ⟨k, rfl⟩ : ∃ k : Nat, i = k := ⟨i.toNat, by omega⟩
  rw [atI_cast]; rfl
def at1 (o : Option D) (S : Sto) : R D := match o with
  | some d => .ok d S
  | none => .stuck
@[simp] theorem at1_some : at1 (some d) S = .ok d S := (rfl)
@[simp] theorem at1_none : at1 none S = .stuck := (rfl)
@[simp] theorem opIx_lst : opIx (.lst ds) (.int i) S = at1 (atI ds i) S := (rfl)
@[simp] theorem opIx_tup : opIx (.tup ds) (.int i) S = at1 (atI ds i) S := (rfl)
@[simp] theorem opIx_scr : opIx (.scr ds) (.int i) S = at1 (atI ds i) S := (rfl)
theorem opIx_ref (h : S[n]? = some (.lst ds)) : opIx (.ref n) (.int i) S = at1 (atI ds i) S := by
  simp only [opIx, dget, dkOf, dtOf, h, rdS, rdL, asL]; rfl
theorem opIx_str : opIx (.str a) (.int i) S = match atI a.cps.toList i with | some c => .ok (.str ⟨#[c]⟩) S | none => .stuck := rfl
@[simp] theorem ixN_0 (m : Nat) : ixN (m + 1) 0 = some 0 := by
  unfold ixN; rw [if_pos (by omega), if_pos (by omega)]; rfl
@[simp] theorem ixN_1 (m : Nat) : ixN (m + 2) 1 = some 1 := by
  unfold ixN; rw [if_pos (by omega), if_pos (by omega)]; rfl
theorem opSet_lst {z : D} {k : Nat} (h : S[n]? = some (.lst ds)) (hi : ixN ds.length i = some k) : opSet (.ref n) (.int i) z S = .ok () (S.set n (.lst (ds.set k z))) := by
  simp only [opSet, h, hi]
@[simp] theorem opSl_str {lo hi} : opSl (.str a) lo hi S = .ok (.str (cutS a lo hi)) S := (rfl)
@[simp] theorem opSl_tup {lo hi} : opSl (.tup ds) lo hi S = .ok (.tup (cutD ds lo hi)) S := (rfl)
@[simp] theorem opSl_lst {lo hi} : opSl (.lst ds) lo hi S = .ok (.lst (cutD ds lo hi)) S := (rfl)
@[simp] theorem opSl_scr {lo hi} : opSl (.scr ds) lo hi S = .ok (.lst (cutD ds lo hi)) S := (rfl)
/-! displays, calls -/
theorem newTup_ok (h : ds.length ≤ sizeLine) : newTup ds S = .ok (.tup ds) S := by unfold newTup; rw [if_pos h]
theorem newLst_ok (h : ds.length ≤ sizeLine) : newLst ds S = .ok (.lst ds) S := by unfold newLst; rw [if_pos h]
theorem newRef_ok (h : ds.length ≤ sizeLine) : newRef ds S = .ok (.ref S.length) (S ++ [.lst ds]) := by unfold newRef; rw [if_pos h]
theorem szl : (1000000 : Nat) ≤ sizeLine := by decide
@[simp] theorem newTup_0 : newTup [] S = .ok (.tup []) S := newTup_ok (by show 0 ≤ sizeLine; decide)
@[simp] theorem newTup_1 {a : D} : newTup [a] S = .ok (.tup [a]) S := newTup_ok (by show 1 ≤ sizeLine; decide)
@[simp] theorem newTup_2 {a b : D} : newTup [a, b] S = .ok (.tup [a, b]) S := newTup_ok (by show 2 ≤ sizeLine; decide)
@[simp] theorem newTup_3 {a b c : D} : newTup [a, b, c] S = .ok (.tup [a, b, c]) S := newTup_ok (by show 3 ≤ sizeLine; decide)
@[simp] theorem newTup_4 {a b c e : D} : newTup [a, b, c, e] S = .ok (.tup [a, b, c, e]) S := newTup_ok (by show 4 ≤ sizeLine; decide)
@[simp] theorem newLst_0 : newLst [] S = .ok (.lst []) S := newLst_ok (by show 0 ≤ sizeLine; decide)
@[simp] theorem newLst_1 {a : D} : newLst [a] S = .ok (.lst [a]) S := newLst_ok (by show 1 ≤ sizeLine; decide)
@[simp] theorem newLst_2 {a b : D} : newLst [a, b] S = .ok (.lst [a, b]) S := newLst_ok (by show 2 ≤ sizeLine; decide)
@[simp] theorem newLst_3 {a b c : D} : newLst [a, b, c] S = .ok (.lst [a, b, c]) S := newLst_ok (by show 3 ≤ sizeLine; decide)
@[simp] theorem newLst_4 {a b c e : D} : newLst [a, b, c, e] S = .ok (.lst [a, b, c, e]) S := newLst_ok (by show 4 ≤ sizeLine; decide)
@[simp] theorem newRef_0 : newRef [] S = .ok (.ref S.length) (S ++ [.lst []]) := newRef_ok (by show 0 ≤ sizeLine; decide)
@[simp] theorem newRef_1 {a : D} : newRef [a] S = .ok (.ref S.length) (S ++ [.lst [a]]) := newRef_ok (by show 1 ≤ sizeLine; decide)
@[simp] theorem newRef_2 {a b : D} : newRef [a, b] S = .ok (.ref S.length) (S ++ [.lst [a, b]]) := newRef_ok (by show 2 ≤ sizeLine; decide)
@[simp] theorem cList_lst : cList [.lst ds] S = .ok (.lst ds) S := (rfl)
@[simp] theorem cList_tup : cList [.tup ds] S = .ok (.lst ds) S := (rfl)
@[simp] theorem cTuple_lst : cTuple [.lst ds] S = .ok (.tup ds) S := (rfl)
@[simp] theorem cTuple_tup : cTuple [.tup ds] S = .ok (.tup ds) S := (rfl)
theorem cTuple_ref (h : S[n]? = some (.lst ds)) : cTuple [.ref n] S = .ok (.tup ds) S := by simp only [cTuple, rdS, rdL, asL, h]
@[simp] theorem isLst_lst : isLst S (.lst ds) = true := (rfl)
theorem isLst_ref (h : S[n]? = some (.lst ds)) : isLst S (.ref n) = true := by simp only [isLst, rdL, asL, h]; rfl
theorem cAppend_ref (h : S[n]? = some (.lst ds)) (hl : ds.length < sizeLine) : cAppend (.ref n) [d] S = .ok .non (S.set n (.lst (ds ++ [d]))) := by simp only [cAppend, h, if_pos hl]
theorem cExtend_ref (h : S[n]? = some (.lst ds)) (hl : ds.length + es.length ≤ sizeLine) : cExtend (.ref n) [.lst es] S = .ok .non (S.set n (.lst (ds ++ es))) := by simp only [cExtend, h, asL, if_pos hl]
/-! isinstance -/
def opIsiK (t T : String) (S : Sto) : R D := match kitB t T with
  | some k => .ok (.bl k) S
  | none => .stuck
@[simp] theorem isi_non {T} : opIsi T .non S = opIsiK "NoneType" T S := (rfl)
@[simp] theorem isi_bl {T b} : opIsi T (.bl b) S = opIsiK "bool" T S := (rfl)
@[simp] theorem isi_int {T} : opIsi T (.int i) S = opIsiK "int" T S := (rfl)
@[simp] theorem isi_str {T} : opIsi T (.str a) S = opIsiK "str" T S := (rfl)
@[simp] theorem isi_tup {T} : opIsi T (.tup ds) S = opIsiK "tuple" T S := (rfl)
@[simp] theorem isi_lst {T} : opIsi T (.lst ds) S = opIsiK "list" T S := (rfl)
@[simp] theorem isi_dct {T ks} : opIsi T (.dct ks ds) S = opIsiK "dict" T S := (rfl)
theorem isi_ref {T} (h : S[n]? = some (.lst ds)) : opIsi T (.ref n) S = opIsiK "list" T S := by simp only [opIsi, tyN, h]; rfl
theorem isiK_of {t T : String} {k : Bool} (h : kitB t T = some k) : opIsiK t T S = .ok (.bl k) S := by unfold opIsiK; rw [h]
@[simp] theorem isiK_tt : opIsiK "tuple" "tuple" S = .ok (.bl true) S := isiK_of (by decide +kernel)
@[simp] theorem isiK_it : opIsiK "int" "tuple" S = .ok (.bl false) S := isiK_of (by decide +kernel)
@[simp] theorem isiK_st : opIsiK "str" "tuple" S = .ok (.bl false) S := isiK_of (by decide +kernel)
@[simp] theorem isiK_nt : opIsiK "NoneType" "tuple" S = .ok (.bl false) S := isiK_of (by decide +kernel)
@[simp] theorem isiK_bt : opIsiK "bool" "tuple" S = .ok (.bl false) S := isiK_of (by decide +kernel)
@[simp] theorem isiK_lt : opIsiK "list" "tuple" S = .ok (.bl false) S := isiK_of (by decide +kernel)
@[simp] theorem isiK_ii : opIsiK "int" "int" S = .ok (.bl true) S := isiK_of (by decide +kernel)
@[simp] theorem isiK_bi : opIsiK "bool" "int" S = .ok (.bl true) S := isiK_of (by decide +kernel)
@[simp] theorem isiK_ti : opIsiK "tuple" "int" S = .ok (.bl false) S := isiK_of (by decide +kernel)
@[simp] theorem isiK_si : opIsiK "str" "int" S = .ok (.bl false) S := isiK_of (by decide +kernel)
@[simp] theorem isiK_ni : opIsiK "NoneType" "int" S = .ok (.bl false) S := isiK_of (by decide +kernel)
@[simp] theorem isiK_li : opIsiK "list" "int" S = .ok (.bl false) S := isiK_of (by decide +kernel)
@[simp] theorem isiK_ib : opIsiK "int" "bool" S = .ok (.bl false) S := isiK_of (by decide +kernel)
@[simp] theorem isiK_bb : opIsiK "bool" "bool" S = .ok (.bl true) S := isiK_of (by decide +kernel)
@[simp] theorem isiK_tb : opIsiK "tuple" "bool" S = .ok (.bl false) S := isiK_of (by decide +kernel)
@[simp] theorem isiK_sb : opIsiK "str" "bool" S = .ok (.bl false) S := isiK_of (by decide +kernel)
@[simp] theorem isiK_nb : opIsiK "NoneType" "bool" S = .ok (.bl false) S := isiK_of (by decide +kernel)
@[simp] theorem isiK_lb : opIsiK "list" "bool" S = .ok (.bl false) S := isiK_of (by decide +kernel)
@[simp] theorem isiK_ss : opIsiK "str" "str" S = .ok (.bl true) S := isiK_of (by decide +kernel)
@[simp] theorem isiK_is : opIsiK "int" "str" S = .ok (.bl false) S := isiK_of (by decide +kernel)
@[simp] theorem isiK_ns : opIsiK "NoneType" "str" S = .ok (.bl false) S := isiK_of (by decide +kernel)
@[simp] theorem isiK_bs : opIsiK "bool" "str" S = .ok (.bl false) S := isiK_of (by decide +kernel)
@[simp] theorem isiK_ts : opIsiK "tuple" "str" S = .ok (.bl false) S := isiK_of (by decide +kernel)
@[simp] theorem isiK_ls : opIsiK "list" "str" S = .ok (.bl false) S := isiK_of (by decide +kernel)
@[simp] theorem isiK_ll : opIsiK "list" "list" S = .ok (.bl true) S := isiK_of (by decide +kernel)
@[simp] theorem isiK_tl : opIsiK "tuple" "list" S = .ok (.bl false) S := isiK_of (by decide +kernel)
@[simp] theorem isiK_dd : opIsiK "dict" "dict" S = .ok (.bl true) S := isiK_of (by decide +kernel)
@[simp] theorem isiK_nd : opIsiK "NoneType" "dict" S = .ok (.bl false) S := isiK_of (by decide +kernel)
end
/-! objects -/
@[simp] theorem sto_snoc {S : Sto} {o : MO} : (S ++ [o])[S.length]? = some o := by simp
theorem sto_set {S : Sto} {n : Nat} {o u : MO} (h : S[n]? = some u) : (S.set n o)[n]? = some o := by
  rw [List.getElem?_set_self (List.getElem?_eq_some_iff.mp h).1]
@[simp] theorem sto_snoc_set {S : Sto} {o u : MO} : (S ++ [o]).set S.length u = S ++ [u] := by simp
@[simp] theorem set_set' {α : Type} {S : List α} {n : Nat} {a b : α} : (S.set n a).set n b = S.set n b := List.set_set _
end PM

/-! PM, part 13: labels (plain) -/
namespace PM
open PySem L2
def alpha : Str := Str.ofString "abcdefghijklmnopqrstuvwxyz"
theorem alpha_cps : alpha.cps.toList = List.range' 97 26 := by decide +kernel
theorem alpha_at {i : Int} (h0 : 0 ≤ i) (h : i < 26) : atI alpha.cps.toList i = some (97 + i.toNat) := by
  rw [atI_of _ h0, alpha_cps, List.getElem?_range' (by omega)]
  simp
theorem opIx_alpha {S : Sto} {i : Int} (h0 : 0 ≤ i) (h : i < 26) : opIx (.str (Str.ofString "abcdefghijklmnopqrstuvwxyz")) (.int i) S = .ok (.str ⟨#[97 + i.toNat]⟩) S := by
  show opIx (.str alpha) _ _ = _
  rw [opIx_str, alpha_at h0 h]
/-- a sign of a label -/
def sg (i : Int) : Nat := 97 + (i % 26).toNat
theorem sg_lo (i : Int) : 97 ≤ sg i := Nat.le_add_right _ _
theorem sg_hi (i : Int) : sg i < 123 := by unfold sg; omega
def labB (c : Int) : List Nat := (List.range (c % 7).toNat).map fun (k : Nat) => sg (c / 49 % 26 + c / 1274 * (k : Int))
def labA (c : Int) : Nat := (c / 7 % (c % 7 + 1)).toNat
def labL (c : Int) (k : Nat) : List Nat := (labB c).take (labA c) ++ [sg (c / 49 + 3 * (k : Int))] ++ (labB c).drop (labA c)
/-- the k-th label -/
def lab (c : Int) (k : Nat) : Str := ⟨(labL c k).toArray⟩
theorem labB_len (c : Int) : (labB c).length = (c % 7).toNat := by simp [labB]
theorem labA_le {c : Int} (h : 0 ≤ c) : labA c ≤ (labB c).length := by
  rw [labB_len]; unfold labA
  have h1 : 0 < c % 7 + 1 := by omega
  have h2 := Int.emod_lt_of_pos (c / 7) h1
  have h3 := Int.emod_nonneg (c / 7) (show c % 7 + 1 ≠ 0 by omega)
  generalize c / 7 % (c % 7 + 1) = z at *
  omega
theorem lab_len {c : Int} (h : 0 ≤ c) (k : Nat) : (lab c k).length = (c % 7).toNat + 1 := by
  show (labL c k).toArray.size = _
  have := labA_le h
  rw [List.size_toArray, labL, List.length_append, List.length_append, List.length_take, List.length_drop, labB_len] at *
  simp; omega
theorem lab_le {c : Int} (h : 0 ≤ c) (k : Nat) : (lab c k).length ≤ 7 := by rw [lab_len h]; omega
theorem labL_az (c : Int) (k : Nat) : ∀ x ∈ labL c k, 97 ≤ x ∧ x < 123 := by
  intro x hx
  have hb : ∀ y ∈ labB c, 97 ≤ y ∧ y < 123 := fun y hy => by
    obtain ⟨j, _, e⟩ := List.mem_map.mp hy
    rw [← e]; exact ⟨sg_lo _, sg_hi _⟩
  simp only [labL, List.mem_append, List.mem_singleton] at hx
  rcases hx with (hx | hx) | hx
  · exact hb x (List.mem_of_mem_take hx)
  · rw [hx]; exact ⟨sg_lo _, sg_hi _⟩
  · exact hb x (List.mem_of_mem_drop hx)
theorem lab_inj {c : Int} {i j : Nat} (hi : i < 8) (hj : j < 8) (h : lab c i = lab c j) : i = j := by
  have h1 : labL c i = labL c j := by
    have : (labL c i).toArray = (labL c j).toArray := by injection h
    simpa using this
  unfold labL at h1
  simp only [List.append_assoc] at h1
  have h2 := List.append_cancel_left h1
  simp only [List.cons_append, List.cons.injEq] at h2
  have h3 := h2.1
  unfold sg at h3
  omega
def labs (c : Int) (m : Nat) : List Str := (List.range m).map (lab c)
theorem labs_len (c : Int) (m : Nat) : (labs c m).length = m := by simp [labs]
theorem labs_nodup (c : Int) {m : Nat} (hm : m ≤ 8) : (labs c m).Nodup := by
  unfold labs List.Nodup
  rw [List.pairwise_map]
  refine List.Pairwise.imp_of_mem (fun {i j} hi hj h => ?_) List.nodup_range
  intro e
  simp at hi hj
  exact h (lab_inj (by omega) (by omega) e)
theorem mem_labs {c : Int} {m : Nat} {s : Str} (h : s ∈ labs c m) : ∃ k, k < m ∧ s = lab c k := by
  obtain ⟨k, hk, e⟩ := List.mem_map.mp h
  exact ⟨k, by simpa using hk, e.symm⟩
/-- texts of letters a to z, of one to seven -/
def IsLab (s : Str) : Prop := (∀ x ∈ s.cps.toList, 97 ≤ x ∧ x < 123) ∧ 1 ≤ s.length ∧ s.length ≤ 8
theorem lab_is {c : Int} (h : 0 ≤ c) (k : Nat) : IsLab (lab c k) := by
  refine ⟨fun x hx => labL_az c k x (by simpa [lab] using hx), ?_, ?_⟩
  · rw [lab_len h]; omega
  · have := lab_le h k; omega
theorem labs_is {c : Int} (h : 0 ≤ c) {m : Nat} : ∀ s ∈ labs c m, IsLab s := fun s hs => by
  obtain ⟨k, _, e⟩ := mem_labs hs
  rw [e]; exact lab_is h k
theorem IsLab.ok {s : Str} (h : IsLab s) : PyData.strOk s = true := by
  unfold PyData.strOk
  rw [Array.all_eq_true']
  intro x hx
  have := h.1 x (by simpa using hx)
  simp; omega
/-! joining the base -/
theorem strsOf_map {α : Type} (f : α → Str) : ∀ xs : List α, strsOf (xs.map fun x => D.str (f x)) = some (xs.map f)
  | [] => rfl
  | x :: xs => by simp only [List.map_cons, strsOf, strsOf_map f xs]; rfl
theorem joinL_nil : ∀ ps : List (List Nat), TL.joinL [] ps = ps.flatten
  | [] => rfl
  | [p] => by simp [TL.joinL]
  | p :: q :: r => by simp only [TL.joinL, List.nil_append, joinL_nil (q :: r), List.flatten_cons]
theorem join_map {α : Type} {S : Sto} (f : α → Nat) (xs : List α) (h : xs.length ≤ 1000) : opJoin (.str (Str.ofString "")) (.lst (xs.map fun x => .str ⟨#[f x]⟩)) S = .ok (.str ⟨(xs.map f).toArray⟩) S := by
  have e : (Txt.join (Str.ofString "") (xs.map fun x => (⟨#[f x]⟩ : Str))).cps.toList = xs.map f := by
    rw [TL.join_eq]
    show TL.tl _ = _
    rw [TL.tl_join, show TL.tl (Str.ofString "") = [] from rfl, joinL_nil, List.map_map]
    induction xs with
    | nil => rfl
    | cons x xs ih => simp only [List.map_cons, List.flatten_cons, ih (by simp at h; omega)]; rfl
  have e2 : Txt.join (Str.ofString "") (xs.map fun x => (⟨#[f x]⟩ : Str)) = ⟨(xs.map f).toArray⟩ := by
    rw [← e]
  have sz : (1000 : Nat) ≤ 16777216 := by decide
  have sl : (1000 : Nat) ≤ sizeLine := by decide
  simp only [opJoin, rdS, rdL, asL, strsOf_map]
  rw [if_pos, e2]
  refine ⟨?_, ?_⟩
  · rw [show (Str.ofString "").length = 0 from rfl, Nat.mul_zero, Nat.add_zero, List.map_map]
    have : ((xs.map ((fun s : Str => s.length) ∘ fun x => (⟨#[f x]⟩ : Str)))).sum = xs.length := by
      clear e e2 h
      induction xs with
      | nil => rfl
      | cons x xs ih => simp only [List.map_cons, List.sum_cons, ih, List.length_cons]; show 1 + _ = _; omega
    rw [this]; omega
  · rw [e2]
    show (xs.map f).toArray.size ≤ _
    simp; omega
theorem cutS_to {z : Str} {i : Int} (h : 0 ≤ i) (h2 : i.toNat ≤ z.length) : cutS z none (some i) = ⟨(z.cps.toList.take i.toNat).toArray⟩ := by
  obtain ⟨k, rfl⟩ : ∃ k : Nat, i = k := ⟨i.toNat, by omega⟩
  have h2 : k ≤ z.length := h2
  unfold cutS
  rw [HT.sIx_none, HT.sIx_nat, List.drop_zero, Nat.sub_zero, Nat.min_eq_left h2]; rfl
theorem cutS_from {z : Str} {i : Int} (h : 0 ≤ i) (h2 : i.toNat ≤ z.length) : cutS z (some i) none = ⟨(z.cps.toList.drop i.toNat).toArray⟩ := by
  obtain ⟨k, rfl⟩ : ∃ k : Nat, i = k := ⟨i.toNat, by omega⟩
  have h2 : k ≤ z.length := h2
  unfold cutS
  rw [HT.sIx_none, HT.sIx_nat, Nat.min_eq_left h2]
  have : (z.cps.toList.drop k).take (z.length - k) = z.cps.toList.drop k := by
    rw [List.take_of_length_le]; simp [Str.length]
  rw [this]; rfl
theorem str_app (a b : List Nat) : (⟨a.toArray⟩ : Str) ++ ⟨b.toArray⟩ = ⟨(a ++ b).toArray⟩ := by
  show (⟨a.toArray ++ b.toArray⟩ : Str) = _
  simp
end PM

/-! PM, part 14: bodies (plain) -/
namespace PM
open PySem L2
inductive B where
  | num (n : Int) | inp (k : Int) | make (ls : List Str) (bs : List B) | get (b : B) (l : Str) | put (b : B) (l : Str) (c : B) | sum (b c : B) | ite (b c d : B) | call (f : Str) (bs : List B)
def fldD (ls : List Str) (ds : List D) : List D := List.zipWith (fun l d => .tup [.str l, d]) ls ds
mutual
def bd : B → D
  | .num n => .tup [.str "number", .int n]
  | .inp k => .tup [.str "input", .int k]
  | .make ls bs => .tup [.str "make", .tup (fldD ls (bds bs))]
  | .get b l => .tup [.str "get", bd b, .str l]
  | .put b l c => .tup [.str "put", bd b, .str l, bd c]
  | .sum b c => .tup [.str "sum", bd b, bd c]
  | .ite b c d => .tup [.str "if", bd b, bd c, bd d]
  | .call f bs => .tup [.str "call", .str f, .tup (bds bs)]
def bds : List B → List D
  | [] => []
  | b :: bs => bd b :: bds bs
end
theorem bds_map : ∀ bs : List B, bds bs = bs.map bd
  | [] => rfl
  | b :: bs => by rw [bds, bds_map bs]; rfl
def kidsB : B → List B
  | .num _ => [] | .inp _ => []
  | .make _ bs => bs
  | .get b _ => [b]
  | .put b _ c => [b, c]
  | .sum b c => [b, c]
  | .ite b c d => [b, c, d]
  | .call _ bs => bs
/-- bodies of a depth, of few parts, of labels -/
inductive WB : Nat → B → Prop where
  | num {d n} : WB (d + 1) (.num n)
  | inp {d k} : WB (d + 1) (.inp k)
  | make {d ls bs} : ls.length = bs.length → bs.length ≤ 4 → (∀ l ∈ ls, IsLab l) → (∀ b ∈ bs, WB d b) → WB (d + 1) (.make ls bs)
  | get {d b l} : WB d b → IsLab l → WB (d + 1) (.get b l)
  | put {d b l c} : WB d b → IsLab l → WB d c → WB (d + 1) (.put b l c)
  | sum {d b c} : WB d b → WB d c → WB (d + 1) (.sum b c)
  | ite {d b c e} : WB d b → WB d c → WB d e → WB (d + 1) (.ite b c e)
  | call {d f bs} : IsLab f → bs.length ≤ 4 → (∀ b ∈ bs, WB d b) → WB (d + 1) (.call f bs)
theorem WB.kids {d : Nat} {b : B} (h : WB (d + 1) b) : ∀ c ∈ kidsB b, WB d c := by
  cases h with
  | num => intro c h; cases h
  | inp => intro c h; cases h
  | make _ _ _ h => exact h
  | get h _ => intro c hc; simp only [kidsB, List.mem_singleton] at hc; rw [hc]; exact h
  | put h _ h2 => intro c hc; simp only [kidsB, List.mem_cons, List.not_mem_nil, or_false] at hc; rcases hc with rfl | rfl <;> assumption
  | sum h h2 => intro c hc; simp only [kidsB, List.mem_cons, List.not_mem_nil, or_false] at hc; rcases hc with rfl | rfl <;> assumption
  | ite h h2 h3 => intro c hc; simp only [kidsB, List.mem_cons, List.not_mem_nil, or_false] at hc; rcases hc with rfl | rfl | rfl <;> assumption
  | call _ _ h => exact h
theorem WB.few {d : Nat} {b : B} (h : WB d b) : (kidsB b).length ≤ 4 := by
  cases h <;> simp [kidsB] <;> assumption
theorem WB.pos {d : Nat} {b : B} (h : WB d b) : ∃ e, d = e + 1 := by
  cases h <;> exact ⟨_, rfl⟩
theorem WB.mono {d e : Nat} {b : B} (h : WB d b) : d ≤ e → WB e b := by
  induction h generalizing e with
  | num => intro he; obtain ⟨e, rfl⟩ : ∃ f, e = f + 1 := ⟨e - 1, by omega⟩; exact .num
  | inp => intro he; obtain ⟨e, rfl⟩ : ∃ f, e = f + 1 := ⟨e - 1, by omega⟩; exact .inp
  | make h1 h2 h3 h4 ih => intro he; obtain ⟨e, rfl⟩ : ∃ f, e = f + 1 := ⟨e - 1, by omega⟩; exact .make h1 h2 h3 fun b hb => ih b hb (by omega)
  | get h1 h2 ih => intro he; obtain ⟨e, rfl⟩ : ∃ f, e = f + 1 := ⟨e - 1, by omega⟩; exact .get (ih (by omega)) h2
  | put h1 h2 h3 ih1 ih3 => intro he; obtain ⟨e, rfl⟩ : ∃ f, e = f + 1 := ⟨e - 1, by omega⟩; exact .put (ih1 (by omega)) h2 (ih3 (by omega))
  | sum h1 h3 ih1 ih3 => intro he; obtain ⟨e, rfl⟩ : ∃ f, e = f + 1 := ⟨e - 1, by omega⟩; exact .sum (ih1 (by omega)) (ih3 (by omega))
  | ite h1 h2 h3 ih1 ih2 ih3 => intro he; obtain ⟨e, rfl⟩ : ∃ f, e = f + 1 := ⟨e - 1, by omega⟩; exact .ite (ih1 (by omega)) (ih2 (by omega)) (ih3 (by omega))
  | call h1 h2 h3 ih => intro he; obtain ⟨e, rfl⟩ : ∃ f, e = f + 1 := ⟨e - 1, by omega⟩; exact .call h1 h2 fun b hb => ih b hb (by omega)
/-- no objects in a body -/
theorem bd_cl (n : Nat) {d : Nat} {b : B} (h : WB d b) : D.cl n (bd b) = true := by
  induction h with
  | num => rfl
  | inp => rfl
  | make h1 h2 h3 h4 ih =>
    rename_i d ls bs
    simp only [bd, D.cl, D.cls, Bool.true_and, Bool.and_true]
    rw [bds_map]
    clear h1 h2 h3 h4
    induction bs generalizing ls with
    | nil => cases ls <;> rfl
    | cons b bs ih2 =>
      cases ls with
      | nil => rfl
      | cons l ls =>
        simp only [fldD, List.map_cons, List.zipWith_cons_cons, D.cls, D.cl, Bool.true_and, Bool.and_true, Bool.and_eq_true]
        exact ⟨ih b (by simp), ih2 fun c hc => ih c (by simp [hc])⟩
  | get h1 h2 ih => simp only [bd, D.cl, D.cls, ih]; rfl
  | put h1 h2 h3 ih1 ih3 => simp only [bd, D.cl, D.cls, ih1, ih3]; rfl
  | sum h1 h3 ih1 ih3 => simp only [bd, D.cl, D.cls, ih1, ih3]; rfl
  | ite h1 h2 h3 ih1 ih2 ih3 => simp only [bd, D.cl, D.cls, ih1, ih2, ih3]; rfl
  | call h1 h2 h3 ih =>
    simp only [bd, D.cl, D.cls, Bool.true_and, Bool.and_true]
    rw [bds_map]
    exact cls_map ih
/-! places -/
abbrev P := List Nat
def pd (p : P) : D := .tup (p.map fun (i : Nat) => .int (i : Int))
def enumFrom {α : Type} : Nat → List α → List (Nat × α)
  | _, [] => []
  | i, x :: xs => (i, x) :: enumFrom (i + 1) xs
def lpl : Nat → B → List (P × B)
  | 0, _ => []
  | d + 1, b => (enumFrom 0 (kidsB b)).flatMap (fun q => (lpl d q.2).map fun r => (q.1 :: r.1, r.2)) ++ [([], b)]
def plc (d : Nat) (b : B) : List P := (lpl d b).map (·.1)
def atB : B → P → Option B
  | b, [] => some b
  | b, i :: p => (kidsB b)[i]?.bind fun c => atB c p
theorem enumFrom_mem {α : Type} {i j : Nat} {x : α} : ∀ {n : Nat} {xs : List α}, (j, x) ∈ enumFrom n xs → n ≤ j ∧ xs[j - n]? = some x
  | n, [], h => by cases h
  | n, y :: ys, h => by
    simp only [enumFrom, List.mem_cons, Prod.mk.injEq] at h
    rcases h with ⟨e1, e2⟩ | h
    · subst e1 e2; simp
    · obtain ⟨h1, h2⟩ := enumFrom_mem (i := i) h
      refine ⟨by omega, ?_⟩
      rw [show j - n = (j - (n + 1)) + 1 by omega]
      simpa using h2
theorem lpl_at : ∀ {d : Nat} {b x : B} {p : P}, (p, x) ∈ lpl d b → atB b p = some x
  | 0, _, _, _, h => by cases h
  | d + 1, b, x, p, h => by
    simp only [lpl, List.mem_append, List.mem_flatMap, List.mem_map, List.mem_singleton, Prod.mk.injEq] at h
    rcases h with ⟨⟨j, c⟩, hq, ⟨r, y⟩, hr, e1, e2⟩ | ⟨e1, e2⟩
    · subst e1 e2
      obtain ⟨_, hj⟩ := enumFrom_mem (i := 0) hq
      simp only [atB]
      rw [show j - 0 = j from rfl] at hj
      rw [hj]
      exact lpl_at hr
    · subst e1 e2; rfl
theorem enumFrom_length {α : Type} : ∀ (n : Nat) (xs : List α), (enumFrom n xs).length = xs.length
  | _, [] => rfl
  | n, x :: xs => by simp [enumFrom, enumFrom_length (n + 1) xs]
theorem enumFrom_snd {α : Type} : ∀ (n : Nat) (xs : List α), (enumFrom n xs).map (·.2) = xs
  | _, [] => rfl
  | n, x :: xs => by simp [enumFrom, enumFrom_snd (n + 1) xs]
theorem sum_le {l : List Nat} {m : Nat} (h : ∀ x ∈ l, x ≤ m) : l.sum ≤ l.length * m := by
  induction l with
  | nil => simp
  | cons x xs ih =>
    rw [List.sum_cons, List.length_cons, Nat.add_mul]
    have := h x (by simp)
    have := ih fun y hy => h y (by simp [hy])
    omega
theorem lpl_len : ∀ {d : Nat} {b : B}, WB d b → (lpl d b).length ≤ 5 ^ d
  | 0, _, h => by obtain ⟨e, h⟩ := h.pos; omega
  | d + 1, b, h => by
    simp only [lpl, List.length_append, List.length_flatMap, List.length_map, List.length_singleton]
    have h1 : ∀ x ∈ (enumFrom 0 (kidsB b)).map (fun q => (lpl d q.2).length), x ≤ 5 ^ d := by
      intro x hx
      obtain ⟨⟨j, c⟩, hq, e⟩ := List.mem_map.mp hx
      subst e
      refine lpl_len (h.kids c ?_)
      have := List.mem_map_of_mem (f := (·.2)) hq
      rwa [enumFrom_snd] at this
    have h2 := sum_le h1
    rw [List.length_map, enumFrom_length] at h2
    have h3 := h.few
    have h4 : (kidsB b).length * 5 ^ d ≤ 4 * 5 ^ d := Nat.mul_le_mul_right _ h3
    have h5 : 1 ≤ 5 ^ d := Nat.one_le_pow _ _ (by decide)
    rw [Nat.pow_succ]; omega
theorem lpl_wb : ∀ {d : Nat} {b x : B} {p : P}, WB d b → (p, x) ∈ lpl d b → WB d x ∧ p.length ≤ d
  | 0, _, _, _, _, h => by cases h
  | d + 1, b, x, p, hb, h => by
    simp only [lpl, List.mem_append, List.mem_flatMap, List.mem_map, List.mem_singleton, Prod.mk.injEq] at h
    rcases h with ⟨⟨j, c⟩, hq, ⟨r, y⟩, hr, e1, e2⟩ | ⟨e1, e2⟩
    · subst e1 e2
      have := List.mem_map_of_mem (f := (·.2)) hq
      rw [enumFrom_snd] at this
      obtain ⟨h1, h2⟩ := lpl_wb (hb.kids c this) hr
      exact ⟨h1.mono (by omega), by simp; exact h2⟩
    · subst e1 e2; exact ⟨hb, by simp⟩
theorem pd_cl (n : Nat) (p : P) : D.cl n (pd p) = true := by
  simp only [pd, D.cl]; exact cls_map fun _ _ => rfl
theorem zip_snd {ls : List Str} {ds : List D} (h : ls.length = ds.length) (f : D → D) (hf : ∀ l d, f (.tup [.str l, d]) = d) : (fldD ls ds).map f = ds := by
  induction ls generalizing ds with
  | nil => cases ds with
    | nil => rfl
    | cons d ds => cases h
  | cons l ls ih =>
    cases ds with
    | nil => cases h
    | cons d ds => simp only [fldD, List.zipWith_cons_cons, List.map_cons, hf]; exact congrArg _ (ih (by simpa using h))
theorem mem_fldD {ls : List Str} {ds : List D} {x : D} (h : x ∈ fldD ls ds) : ∃ l d, x = .tup [.str l, d] ∧ l ∈ ls ∧ d ∈ ds := by
  induction ls generalizing ds with
  | nil => cases h
  | cons l ls ih =>
    cases ds with
    | nil => cases h
    | cons d ds =>
      simp only [fldD, List.zipWith_cons_cons, List.mem_cons] at h
      rcases h with h | h
      · exact ⟨l, d, h, by simp, by simp⟩
      · obtain ⟨l', d', e, h1, h2⟩ := ih h
        exact ⟨l', d', e, by simp [h1], by simp [h2]⟩
end PM

/-! PM, part 15: equality of plain data -/
namespace PM
open PySem L2
/-- no objects, no dicts, of a depth -/
def pl : Nat → D → Bool
  | _, .non => true
  | _, .bl _ => true
  | _, .int _ => true
  | _, .str s => PyData.strOk s
  | n + 1, .tup ds => ds.all (pl n)
  | n + 1, .lst ds => ds.all (pl n)
  | n + 1, .scr ds => ds.all (pl n)
  | _, _ => false
def TpL (n : Nat) (ds : List D) : Prop := ∃ es, (∀ rc S, tps rc S ds = some es) ∧ PyData.canLayAll0 es = true ∧ PyData.depthAll es ≤ n
theorem tpl_of {n : Nat} (ih : ∀ d, pl n d = true → ∃ e, (∀ rc S, tp rc S d = some e) ∧ PyData.canLay0 e = true ∧ e.depth ≤ n) : ∀ ds : List D, ds.all (pl n) = true → TpL n ds
  | [], _ => ⟨[], fun _ _ => rfl, rfl, Nat.zero_le _⟩
  | d :: ds, h => by
    rw [List.all_cons, Bool.and_eq_true] at h
    obtain ⟨e, h1, h2, h3⟩ := ih d h.1
    obtain ⟨es, k1, k2, k3⟩ := tpl_of ih ds h.2
    refine ⟨e :: es, fun rc S => ?_, ?_, ?_⟩
    · simp only [tps, h1, k1, Option.bind_some, Option.map_some]
    · simp only [PyData.canLayAll0, h2, k2]; rfl
    · simp only [PyData.depthAll]; omega
theorem pl_tp : ∀ {n : Nat} (d : D), pl n d = true → ∃ e, (∀ rc S, tp rc S d = some e) ∧ PyData.canLay0 e = true ∧ e.depth ≤ n
  | n, .non, _ => ⟨.none, fun _ _ => rfl, rfl, Nat.zero_le _⟩
  | n, .bl b, _ => ⟨.bool b, fun _ _ => rfl, rfl, Nat.zero_le _⟩
  | n, .int b, _ => ⟨.int b, fun _ _ => rfl, rfl, Nat.zero_le _⟩
  | n, .str b, h => ⟨.str b, fun _ _ => rfl, by cases n <;> exact h, Nat.zero_le _⟩
  | n + 1, .tup ds, h => by
    obtain ⟨es, h1, h2, h3⟩ := tpl_of (fun d => pl_tp d) ds h
    exact ⟨.tuple es, fun rc S => by simp only [tp, h1]; rfl, h2, by simp only [PyData.depth]; omega⟩
  | n + 1, .lst ds, h => by
    obtain ⟨es, h1, h2, h3⟩ := tpl_of (fun d => pl_tp d) ds h
    exact ⟨.list es, fun rc S => by simp only [tp, h1]; rfl, h2, by simp only [PyData.depth]; omega⟩
  | n + 1, .scr ds, h => by
    obtain ⟨es, h1, h2, h3⟩ := tpl_of (fun d => pl_tp d) ds h
    exact ⟨.list es, fun rc S => by simp only [tp, h1]; rfl, h2, by simp only [PyData.depth]; omega⟩
  | 0, .tup ds, h => by cases h
  | 0, .lst ds, h => by cases h
  | 0, .scr ds, h => by cases h
  | 0, .dct _ _, h => by cases h
  | 0, .ref _, h => by cases h
  | n + 1, .dct _ _, h => by cases h
  | n + 1, .ref _, h => by cases h
theorem pl_mono : ∀ {n m : Nat} (d : D), n ≤ m → pl n d = true → pl m d = true
  | n, m, .non, _, _ => by cases m <;> rfl
  | n, m, .bl _, _, _ => by cases m <;> rfl
  | n, m, .int _, _, _ => by cases m <;> rfl
  | n, m, .str _, _, h => by cases n <;> cases m <;> exact h
  | n + 1, m + 1, .tup ds, l, h => by
    simp only [pl, List.all_eq_true] at h ⊢
    exact fun d hd => pl_mono d (by omega) (h d hd)
  | n + 1, m + 1, .lst ds, l, h => by
    simp only [pl, List.all_eq_true] at h ⊢
    exact fun d hd => pl_mono d (by omega) (h d hd)
  | n + 1, m + 1, .scr ds, l, h => by
    simp only [pl, List.all_eq_true] at h ⊢
    exact fun d hd => pl_mono d (by omega) (h d hd)
  | n + 1, 0, .tup ds, l, h => by omega
  | n + 1, 0, .lst ds, l, h => by omega
  | n + 1, 0, .scr ds, l, h => by omega
  | 0, _, .tup ds, _, h => by cases h
  | 0, _, .lst ds, _, h => by cases h
  | 0, _, .scr ds, _, h => by cases h
  | 0, _, .dct _ _, _, h => by cases h
  | 0, _, .ref _, _, h => by cases h
  | n + 1, _, .dct _ _, _, h => by cases h
  | n + 1, _, .ref _, _, h => by cases h
theorem shaped_of {n : Nat} {e : PyData} (h : PyData.canLay0 e = true) (l : e.depth ≤ n) (hn : n ≤ 64) : SeqAt.shaped e = true := by
  unfold SeqAt.shaped
  rw [h, decide_eq_true (Nat.le_trans l hn)]; rfl
theorem eqD_self {S : Sto} {n : Nat} {d : D} (h : pl n d = true) (hn : n ≤ 64) : eqD S d d = some true := by
  unfold eqD
  cases hs : scalD d d with
  | some k =>
    simp only
    cases d <;> simp only [scalD, decide_true] at hs <;> first | exact hs.symm | cases hs
  | none =>
    obtain ⟨e, h1, h2, h3⟩ := pl_tp d h
    have e1 : tpd S d = some e := h1 _ _
    simp only [e1]
    rw [if_pos ⟨shaped_of h2 h3 hn, shaped_of h2 h3 hn⟩, SeqAt.eqv_refl _ h2]
theorem eqD_lr {S : Sto} {n k : Nat} {ds : List D} (hs : S[k]? = some (.lst ds)) (h : pl (n + 1) (.lst ds) = true) (hn : n + 1 ≤ 64) : eqD S (.ref k) (.lst ds) = some true := by
  obtain ⟨es, h1, h2, h3⟩ := tpl_of (fun d => pl_tp d) ds h
  have e1 : tpd S (.lst ds) = some (.list es) := by simp only [tpd, tp, h1]; rfl
  have e2 : tpd S (.ref k) = some (.list es) := by simp only [tpd, tp, hs, tpk, h1]; rfl
  have h4 : PyData.canLay0 (.list es) = true := h2
  have h5 : (PyData.list es).depth ≤ n + 1 := by simp only [PyData.depth]; omega
  unfold eqD
  simp only [scalD, e1, e2]
  rw [if_pos ⟨shaped_of h4 h5 hn, shaped_of h4 h5 hn⟩, SeqAt.eqv_refl _ h4]
theorem eqD_lst_nil {S : Sto} {n : Nat} {ds : List D} (h : pl n (.lst ds) = true) (hn : n ≤ 64) : eqD S (.lst ds) (.lst []) = some (decide (ds = [])) := by
  obtain ⟨n, rfl⟩ : ∃ m, n = m + 1 := by cases n with
    | zero => cases h
    | succ n => exact ⟨n, rfl⟩
  obtain ⟨es, h1, h2, h3⟩ := tpl_of (fun d => pl_tp d) ds h
  have e1 : tpd S (.lst ds) = some (.list es) := by simp only [tpd, tp, h1]; rfl
  have e2 : tpd S (.lst []) = some (.list []) := rfl
  have h4 : PyData.canLay0 (.list es) = true := h2
  have h5 : (PyData.list es).depth ≤ n + 1 := by simp only [PyData.depth]; omega
  unfold eqD
  simp only [scalD, e1, e2]
  rw [if_pos ⟨shaped_of h4 h5 hn, by decide⟩]
  cases ds with
  | nil =>
    have := h1 (fun _ => none) S
    simp only [tps, Option.some.injEq] at this
    subst this; rfl
  | cons d ds =>
    have := h1 (fun _ => none) S
    simp only [tps] at this
    cases h6 : tp (fun _ => none) S d with
    | none => rw [h6] at this; cases this
    | some e =>
      rw [h6, Option.bind_some, Option.map_eq_some_iff] at this
      obtain ⟨es', _, e'⟩ := this
      subst e'
      rfl
theorem pl_lit {n : Nat} {s : Str} (h : PyData.strOk s = true) : pl n (.str s) = true := by cases n <;> exact h
theorem pl_all {n : Nat} {ds : List D} (h : ∀ d ∈ ds, pl n d = true) : ds.all (pl n) = true := List.all_eq_true.mpr h
/-- bodies -/
theorem pl_bd {d : Nat} {b : B} (h : WB d b) : pl (3 * d) (bd b) = true := by
  have hs : ∀ {s : Str}, IsLab s → PyData.strOk s = true := fun h => h.ok
  induction h with
  | num => rename_i d n; rw [show 3 * (d + 1) = (3 * d + 2) + 1 by omega]; simp only [bd, pl, List.all_cons, List.all_nil]; decide +kernel
  | inp => rename_i d n; rw [show 3 * (d + 1) = (3 * d + 2) + 1 by omega]; simp only [bd, pl, List.all_cons, List.all_nil]; decide +kernel
  | make h1 h2 h3 h4 ih =>
    rename_i d ls bs
    rw [show 3 * (d + 1) = (3 * d + 2) + 1 by omega]
    simp only [bd, pl, List.all_cons, List.all_nil]
    refine Bool.and_eq_true_iff.mpr ⟨by decide +kernel, Bool.and_eq_true_iff.mpr ⟨pl_all fun x hx => ?_, rfl⟩⟩
    obtain ⟨l, y, e, hl, hy⟩ := mem_fldD hx
    subst e
    rw [bds_map] at hy
    obtain ⟨b, hb, e⟩ := List.mem_map.mp hy
    subst e
    simp only [pl, List.all_cons, List.all_nil, Bool.and_true, Bool.and_eq_true]
    exact ⟨(h3 l hl).ok, ih b hb⟩
  | get h1 h2 ih =>
    rename_i d b l
    rw [show 3 * (d + 1) = (3 * d + 2) + 1 by omega]
    simp only [bd, pl, List.all_cons, List.all_nil, Bool.and_true, Bool.and_eq_true]
    exact ⟨by decide +kernel, pl_mono _ (by omega) ih, hs h2⟩
  | put h1 h2 h3 ih1 ih3 =>
    rename_i d b l c
    rw [show 3 * (d + 1) = (3 * d + 2) + 1 by omega]
    simp only [bd, pl, List.all_cons, List.all_nil, Bool.and_true, Bool.and_eq_true]
    exact ⟨by decide +kernel, pl_mono _ (by omega) ih1, hs h2, pl_mono _ (by omega) ih3⟩
  | sum h1 h3 ih1 ih3 =>
    rename_i d b c
    rw [show 3 * (d + 1) = (3 * d + 2) + 1 by omega]
    simp only [bd, pl, List.all_cons, List.all_nil, Bool.and_true, Bool.and_eq_true]
    exact ⟨by decide +kernel, pl_mono _ (by omega) ih1, pl_mono _ (by omega) ih3⟩
  | ite h1 h2 h3 ih1 ih2 ih3 =>
    rename_i d b c e
    rw [show 3 * (d + 1) = (3 * d + 2) + 1 by omega]
    simp only [bd, pl, List.all_cons, List.all_nil, Bool.and_true, Bool.and_eq_true]
    exact ⟨by decide +kernel, pl_mono _ (by omega) ih1, pl_mono _ (by omega) ih2, pl_mono _ (by omega) ih3⟩
  | call h1 h2 h3 ih =>
    rename_i d f bs
    rw [show 3 * (d + 1) = (3 * d + 2) + 1 by omega]
    simp only [bd, pl, List.all_cons, List.all_nil, Bool.and_true, Bool.and_eq_true]
    refine ⟨by decide +kernel, hs h1, pl_all fun x hx => ?_⟩
    rw [bds_map] at hx
    obtain ⟨b, hb, e⟩ := List.mem_map.mp hx
    subst e
    exact pl_mono _ (by omega) (ih b hb)
end PM

/-! PM, part 16: for the makers of bodies -/
namespace PM
open PySem L2
theorem scalAny_strs (l : Str) : ∀ xs : List Str, scalAny (.str l) (xs.map D.str) = some (decide (l ∈ xs))
  | [] => rfl
  | x :: xs => by
    simp only [List.map_cons, scalAny, scalD, scalAny_strs l xs, Option.bind_some, Option.map_some, List.mem_cons, Bool.decide_or, Option.some.injEq]
    rw [show decide (x = l) = decide (l = x) from by simp only [eq_comm]]
theorem opNotIn_strs {S : Sto} (l : Str) (xs : List Str) : opNotIn (.str l) (.lst (xs.map D.str)) S = .ok (.bl (!decide (l ∈ xs))) S := by
  have : inDa S (.str l) (.lst (xs.map D.str)) = some (decide (l ∈ xs)) := by
    simp only [inDa, dget, dkOf, dtOf, rdS, rdL, asL, isFlat, if_pos, scalAny_strs]
  unfold opNotIn; rw [this]
theorem opIn_strs {S : Sto} (l : Str) (xs : List Str) : opIn (.str l) (.lst (xs.map D.str)) S = .ok (.bl (decide (l ∈ xs))) S := by
  have : inDa S (.str l) (.lst (xs.map D.str)) = some (decide (l ∈ xs)) := by
    simp only [inDa, dget, dkOf, dtOf, rdS, rdL, asL, isFlat, if_pos, scalAny_strs]
  unfold opIn; rw [this]
theorem opIx_map {α : Type} {f : α → D} {xs : List α} {j : Int} (h0 : 0 ≤ j) (h : j < xs.length) : ∃ x ∈ xs, ∀ S, opIx (.lst (xs.map f)) (.int j) S = .ok (f x) S := by
  have hj : j.toNat < xs.length := by omega
  refine ⟨xs[j.toNat], List.getElem_mem _, fun S => ?_⟩
  rw [opIx_lst, atI_of _ h0, List.getElem?_map, List.getElem?_eq_getElem hj]; rfl
theorem finFrz_set {k n : Nat} {S T : Sto} {o : MO} {d : D} (hn : n < S.length) (ho : o.cl S.length = true) (h : D.cl S.length d = true) : finFrz k S (.ok d (S.set n o ++ T)) = .ok d (S.set n o) := by
  unfold finFrz
  have e : frz (S.set n o ++ T) S.length k [d] = some [d] := frz_cl (by simp only [D.cls, h]; rfl)
  have c : ClS S (S.set n o ++ T) := fun m u hm hu => by
    rw [List.getElem?_append_left (by simpa using hm), List.getElem?_set] at hu
    split at hu
    · cases hu; exact .inr ho
    · exact .inl hu
  simp only [if_pos c, e]
  rw [List.take_left' (by simp)]
/-- a state: two ints -/
def IsSt (S : Sto) (n : Nat) : Prop := ∃ a b : Int, 0 ≤ a ∧ S[n]? = some (.lst [.int a, .int b])
def NxSt (S : Sto) (n : Nat) (T : Sto) : Prop := ∃ a b : Int, 0 ≤ a ∧ T = S.set n (.lst [.int a, .int b])
theorem IsSt.lt {S : Sto} {n : Nat} (h : IsSt S n) : n < S.length := by
  obtain ⟨a, b, _, h⟩ := h
  exact (List.getElem?_eq_some_iff.mp h).1
theorem NxSt.is {S T : Sto} {n : Nat} (h : NxSt S n T) (hn : n < S.length) : IsSt T n := by
  obtain ⟨a, b, h0, e⟩ := h
  subst e
  exact ⟨a, b, h0, by rw [List.getElem?_set_self hn]⟩
theorem set_get {α : Type} {l : List α} {n : Nat} {x : α} (h : l[n]? = some x) : l.set n x = l := by
  apply List.ext_getElem?
  intro i
  rw [List.getElem?_set]
  split
  · rename_i e; subst e
    rw [if_pos (List.getElem?_eq_some_iff.mp h).1, h]
  · rfl
theorem NxSt.refl {S : Sto} {n : Nat} (h : IsSt S n) : NxSt S n S := by
  obtain ⟨a, b, h0, h⟩ := h
  exact ⟨a, b, h0, (set_get h).symm⟩
theorem NxSt.len {S T : Sto} {n : Nat} (h : NxSt S n T) : T.length = S.length := by
  obtain ⟨a, b, h0, e⟩ := h
  subst e; simp
theorem NxSt.trans {S T U : Sto} {n : Nat} (h : NxSt S n T) (g : NxSt T n U) : NxSt S n U := by
  obtain ⟨a, b, h0, e⟩ := h
  obtain ⟨a', b', h0', e'⟩ := g
  subst e e'
  exact ⟨a', b', h0', by rw [List.set_set]⟩
theorem IsSt.app {S T : Sto} {n : Nat} (h : IsSt S n) : IsSt (S ++ T) n := by
  have hl := h.lt
  obtain ⟨a, b, h0, h⟩ := h
  exact ⟨a, b, h0, by rw [List.getElem?_append_left hl]; exact h⟩
theorem NxSt.app {S T U : Sto} {n : Nat} (hn : n < S.length) (h : NxSt (S ++ T) n U) : ∃ S', U = S' ++ T ∧ NxSt S n S' := by
  obtain ⟨a, b, h0, e⟩ := h
  exact ⟨_, by rw [e, List.set_append_left _ _ hn], a, b, h0, rfl⟩
theorem NxSt.frz {k n : Nat} {S S' T : Sto} {d : D} (hn : n < S.length) (h : NxSt S n S') (hd : D.cl S.length d = true) : finFrz k S (.ok d (S' ++ T)) = .ok d S' := by
  obtain ⟨a, b, h0, e⟩ := h
  subst e
  exact finFrz_set hn rfl hd
def knD (kn : List (Str × Nat)) : D := .lst (kn.map fun p => .tup [.str p.1, .int (p.2 : Int)])
def KnOk (kn : List (Str × Nat)) : Prop := ∀ p ∈ kn, IsLab p.1 ∧ p.2 ≤ 4
theorem pl_kn {kn : List (Str × Nat)} (h : KnOk kn) : pl 2 (knD kn) = true := by
  refine pl_all fun d hd => ?_
  obtain ⟨p, hp, e⟩ := List.mem_map.mp hd
  subst e
  simp only [pl, List.all_cons, List.all_nil, Bool.and_true]
  exact (h p hp).1.ok
theorem opNe_kn {S : Sto} {kn : List (Str × Nat)} (h : KnOk kn) : opNe (knD kn) (.lst []) S = .ok (.bl (!decide (kn = []))) S := by
  have := eqD_lst_nil (S := S) (pl_kn h) (by decide)
  unfold knD
  rw [opNe_of this]
  simp
theorem bds_len (bs : List B) : (bds bs).length = bs.length := by rw [bds_map]; simp
theorem bds_app (bs : List B) (b : B) : bds (bs ++ [b]) = bds bs ++ [bd b] := by simp [bds_map]
theorem fldD_app {ls : List Str} {bs : List B} (h : ls.length = bs.length) (l : Str) (b : B) : fldD (ls ++ [l]) (bds (bs ++ [b])) = fldD ls (bds bs) ++ [.tup [.str l, bd b]] := by
  rw [bds_app, fldD, List.zipWith_append (by rw [h, bds_len])]; rfl
theorem fldD_len {ls : List Str} {bs : List B} (h : ls.length = bs.length) : (fldD ls (bds bs)).length = bs.length := by
  rw [fldD, List.length_zipWith, bds_len, h, Nat.min_self]
theorem fldD_names {ls : List Str} {bs : List B} (h : ls.length = bs.length) {grd : Sto → Prop} {S : Sto} {g : Gm} {t : Tm} {e : Em} {δ : Loc} (hg : grd S) (hh : ∀ l d, ∃ δ', g (.tup [.str l, d]) δ S = .ok δ' S ∧ t δ' S = .ok true S ∧ e δ' S = .ok (.str l) S) :
    compM grd g t e δ [] (fldD ls (bds bs)) S = .ok (.lst (ls.map .str)) S := by
  have e1 : fldD ls (bds bs) = (ls.zip bs).map fun p => .tup [.str p.1, bd p.2] := by
    rw [fldD, bds_map, List.zipWith_map_right, List.zip, List.map_zipWith]
  rw [e1, comp_map _ (fun p : Str × B => D.str p.1) hg _ _ fun p _ => hh p.1 _, List.nil_append]
  rw [show (fun p : Str × B => D.str p.1) = D.str ∘ Prod.fst from rfl, ← List.map_map, List.map_fst_zip (by omega)]
theorem fldD_cl {n d : Nat} {ls : List Str} {bs : List B} (h : ∀ b ∈ bs, WB d b) : D.cls n (fldD ls (bds bs)) = true := by
  refine cls_all fun x hx => ?_
  obtain ⟨l, y, e, _, hy⟩ := mem_fldD hx
  rw [bds_map] at hy
  obtain ⟨b, hb, e'⟩ := List.mem_map.mp hy
  subst e e'
  simp only [D.cl, D.cls, bd_cl n (h b hb)]; rfl
/-- a comprehension without a test, by what holds behind each turn -/
theorem comp_ofN {g : Gm} {e : Em} {δ : Loc} {S : Sto} {ds : List D} {r : R D} (hL : compM (fun _ => True) g mYes e δ [] ds S = r) (I : Nat → List D → Sto → Prop) (h0 : I 0 [] S)
    (hs : ∀ (i : Nat) x acc S, ds[i]? = some x → I i acc S → ∃ δ' S1 y S2, g x δ S = .ok δ' S1 ∧ e δ' S1 = .ok y S2 ∧ I (i + 1) (acc ++ [y]) S2) : ∃ acc S', r = .ok (.lst acc) S' ∧ I ds.length acc S' := by
  subst hL
  suffices H : ∀ (ds acc : List D) (n : Nat) (S : Sto), I n acc S → (∀ (i : Nat) x acc S, ds[i]? = some x → I (n + i) acc S → ∃ δ' S1 y S2, g x δ S = .ok δ' S1 ∧ e δ' S1 = .ok y S2 ∧ I (n + i + 1) (acc ++ [y]) S2) →
      ∃ acc' S', compM (fun _ => True) g mYes e δ acc ds S = .ok (.lst acc') S' ∧ I (n + ds.length) acc' S' by
    have := H ds [] 0 S h0 (fun i x acc S hx hI => by
      have := hs i x acc S hx (by rwa [Nat.zero_add] at hI)
      rwa [Nat.zero_add])
    rwa [Nat.zero_add] at this
  intro ds
  induction ds with
  | nil => intro acc n S h0 _; exact ⟨acc, S, compM_nil trivial, h0⟩
  | cons x ds ih =>
    intro acc n S h0 hs
    obtain ⟨δ', S1, y, S2, h1, h2, h3⟩ := hs 0 x acc S rfl h0
    rw [compM_cons trivial, h1]
    simp only [R.quiet_ok, R.bind_ok, mYes_eq, h2, if_pos]
    rw [List.length_cons, show n + (ds.length + 1) = n + 1 + ds.length by omega]
    refine ih _ (n + 1) S2 h3 fun i y acc S hy hI => ?_
    have := hs (i + 1) y acc S (by simpa using hy) (by rwa [show n + (i + 1) = n + 1 + i by omega])
    rwa [show n + (i + 1) + 1 = n + 1 + i + 1 by omega] at this
end PM

/-! PM, part 17: for kids and places -/
namespace PM
open PySem L2
section
variable {g : Gm} {t : Tm} {e : Em} {δ : Loc} {S : Sto} {acc xs : List D} {x : D}
@[simp] theorem compT_nil : compM (fun _ => True) g t e δ acc [] S = .ok (.lst acc) S := compM_nil trivial
theorem compT_cons : compM (fun _ => True) g t e δ acc (x :: xs) S = (g x δ S).quiet.bind fun δ' S1 => (t δ' S1).quiet.bind fun k S2 =>
    if k = true then (e δ' S2).quiet.bind fun y S3 => compM (fun _ => True) g t e δ (acc ++ [y]) xs S3 else compM (fun _ => True) g t e δ acc xs S2 := compM_cons trivial
end
@[simp] theorem cutD_1 {a : D} {ds : List D} : cutD (a :: ds) (some 1) none = ds := by
  unfold cutD
  rw [show (1 : Int) = ((1 : Nat) : Int) from rfl, HT.sIx_none, HT.sIx_nat]
  simp
theorem fldD_vals {ls : List Str} {bs : List B} (h : ls.length = bs.length) {grd : Sto → Prop} {S : Sto} {g : Gm} {t : Tm} {e : Em} {δ : Loc} (hg : grd S) (hh : ∀ l d, ∃ δ', g (.tup [.str l, d]) δ S = .ok δ' S ∧ t δ' S = .ok true S ∧ e δ' S = .ok d S) :
    compM grd g t e δ [] (fldD ls (bds bs)) S = .ok (.lst (bds bs)) S := by
  have e1 : fldD ls (bds bs) = (ls.zip bs).map fun p => .tup [.str p.1, bd p.2] := by
    rw [fldD, bds_map, List.zipWith_map_right, List.zip, List.map_zipWith]
  rw [e1, comp_map _ (fun p : Str × B => bd p.2) hg _ _ fun p _ => hh p.1 _, List.nil_append]
  rw [show (fun p : Str × B => bd p.2) = bd ∘ Prod.snd from rfl, ← List.map_map, List.map_snd_zip (by omega), bds_map]
/-- is it a tuple? -/
theorem isi_bd {S : Sto} (b : B) : opIsi "tuple" (bd b) S = .ok (.bl true) S := by cases b <;> simp [bd]
def lplK (d i : Nat) (ks : List B) : List (P × B) := (enumFrom i ks).flatMap (fun q => (lpl d q.2).map fun r => (q.1 :: r.1, r.2))
theorem lpl_succ (d : Nat) (b : B) : lpl (d + 1) b = lplK d 0 (kidsB b) ++ [([], b)] := rfl
theorem lplK_nil (d i : Nat) : lplK d i [] = [] := rfl
theorem lplK_cons (d i : Nat) (c : B) (ks : List B) : lplK d i (c :: ks) = ((lpl d c).map fun r => (i :: r.1, r.2)) ++ lplK d (i + 1) ks := rfl
theorem drop_get {α : Type} {l : List α} {i : Nat} {x : α} (h : l[i]? = some x) : l.drop i = x :: l.drop (i + 1) := by
  obtain ⟨hl, e⟩ := List.getElem?_eq_some_iff.mp h
  rw [List.drop_eq_getElem_cons hl, e]
/-- a loop that leaves the objects -/
theorem loop_same {grd : Sto → Prop} {b : D → Sm} {S : Sto} {r : RS} (hg : grd S) (I : Loc → Prop) : ∀ {ds : List D} {δ : Loc}, loopM grd b ds δ S = r → I δ → (∀ x ∈ ds, ∀ δ, I δ → ∃ δ', (b x δ S = .nx δ' S ∨ b x δ S = .ct δ' S) ∧ I δ') → ∃ δ', r = .nx δ' S ∧ I δ'
  | [], δ, hL, h0, _ => ⟨δ, by rw [← hL, loopM, if_pos hg], h0⟩
  | x :: ds, δ, hL, h0, hs => by
    obtain ⟨δ1, h1, h2⟩ := hs x (by simp) δ h0
    have e : loopM grd b ds δ1 S = r := by
      rw [loopM, if_pos hg] at hL
      rcases h1 with h1 | h1 <;> rw [h1] at hL <;> exact hL
    exact loop_same hg I e h2 fun y hy => hs y (by simp [hy])
theorem pd_cons (i : Nat) (p : P) : (D.tup (.int (i : Int) :: p.map fun (i : Nat) => .int (i : Int))) = pd (i :: p) := rfl
def rD (r : P × B) : D := .tup [pd r.1, bd r.2]
theorem rD_cl {d n : Nat} {b : B} (h : WB d b) : D.cls n ((lpl d b).map rD) = true := by
  refine cls_map fun r hr => ?_
  obtain ⟨h1, _⟩ := lpl_wb (p := r.1) (x := r.2) h hr
  simp only [rD, D.cl, D.cls, pd_cl, bd_cl n h1]; rfl
theorem pd_cls (n : Nat) (ps : List P) : D.cls n (ps.map pd) = true := cls_map fun p _ => pd_cl n p
theorem pl_pds (ps : List P) : pl 3 (.lst (ps.map pd)) = true := by
  refine pl_all fun d hd => ?_
  obtain ⟨p, hp, e⟩ := List.mem_map.mp hd
  subst e
  refine pl_all fun d hd => ?_
  obtain ⟨i, hi, e⟩ := List.mem_map.mp hd
  subst e; rfl
theorem finKeep_app {S T : Sto} {ds : List D} {m : Nat} (hm : S.length ≤ m) (hd : (S ++ T)[m]? = some (.lst ds)) (h : D.cls S.length ds = true) : finKeep S (.ok (.ref m) (S ++ T)) = .ok (.ref S.length) (S ++ [.lst ds]) := by
  unfold finKeep
  simp only [hd, List.take_left]
  rw [if_pos ⟨ClS.app, hm, h⟩]
end PM

/-! PM, part 18: for the laws -/
namespace PM
open PySem L2
theorem lab_known {s : Str} (h : s.cps.toList.all (fun x => decide (97 ≤ x ∧ x < 123)) = true) (h1 : 1 ≤ s.length) (h2 : s.length ≤ 8) : IsLab s :=
  ⟨fun x hx => by have := List.all_eq_true.mp h x hx; simpa using this, h1, h2⟩
theorem isLab_f : IsLab (Str.ofString "f") := lab_known (by decide +kernel) (by decide +kernel) (by decide +kernel)
theorem isLab_g : IsLab (Str.ofString "g") := lab_known (by decide +kernel) (by decide +kernel) (by decide +kernel)
theorem isLab_h : IsLab (Str.ofString "h") := lab_known (by decide +kernel) (by decide +kernel) (by decide +kernel)
theorem labs_ne {c : Int} {m : Nat} (h : 0 < m) : labs c m ≠ [] := by
  intro e
  have := congrArg List.length e
  rw [labs_len] at this; simp at this; omega
theorem pl_bds {α : Type} {xs : List α} {f : α → B} {d : Nat} (h : ∀ x ∈ xs, WB d (f x)) : pl (3 * d + 1) (.lst (xs.map fun x => bd (f x))) = true := by
  refine pl_all fun y hy => ?_
  obtain ⟨x, hx, e⟩ := List.mem_map.mp hy
  subst e
  exact pl_bd (h x hx)
theorem isi_lt (p : P) {S : Sto} : opIsi "tuple" (pd p) S = .ok (.bl true) S := by simp [pd]
/-- a cell of a script -/
def cellv (ns : List Int) (j : Nat) : Int := if h : j < ns.length then ns[j] * 48271 % 2147483647 else 0
theorem cellv_lo (ns : List Int) (j : Nat) : 0 ≤ cellv ns j := by unfold cellv; split <;> omega
theorem cellv_hi (ns : List Int) (j : Nat) : cellv ns j < 2147483647 := by unfold cellv; split <;> omega
end PM

/-! PM, part 19: dicts made, texts sorted, is of truths, index -/
namespace PM
open PySem PySem.Spec L2 PyProof.Rows
/-! ### the order of texts -/
def leS (a b : Str) : Bool := !ltCps b.cps.toList a.cps.toList
theorem lt_irr : ∀ a : List Nat, ltCps a a = false
  | [] => rfl
  | x :: a => by simp only [ltCps, lt_irr a, Bool.and_false, Bool.or_false]; exact decide_eq_false (Nat.lt_irrefl x)
theorem lt_tri : ∀ a b : List Nat, ltCps a b = false → ltCps b a = false → a = b
  | [], [], _, _ => rfl
  | [], y :: b, h, _ => by cases h
  | x :: a, [], _, h => by cases h
  | x :: a, y :: b, h1, h2 => by
    simp only [ltCps, Bool.or_eq_false_iff, Bool.and_eq_false_iff, decide_eq_false_iff_not] at h1 h2
    have e : x = y := by omega
    subst e
    simp only [beq_self_eq_true, Bool.true_eq_false, false_or] at h1 h2
    rw [lt_tri a b h1.2 h2.2]
theorem lt_cot : ∀ a b c : List Nat, ltCps c a = true → ltCps c b = true ∨ ltCps b a = true
  | [], _, [], h => by cases h
  | [], _, _ :: _, h => by cases h
  | x :: a, [], [], _ => .inr rfl
  | x :: a, y :: b, [], _ => .inl rfl
  | x :: a, [], z :: c, _ => .inr rfl
  | x :: a, y :: b, z :: c, h => by
    simp only [ltCps, Bool.or_eq_true, Bool.and_eq_true, decide_eq_true_eq, beq_iff_eq] at h ⊢
    rcases h with h | ⟨e, h⟩
    · by_cases h1 : z < y
      · exact .inl (.inl h1)
      · exact .inr (.inl (by omega))
    · subst e
      rcases Nat.lt_trichotomy z y with h1 | h1 | h1
      · exact .inl (.inl h1)
      · subst h1
        rcases lt_cot a b c h with h2 | h2
        · exact .inl (.inr ⟨rfl, h2⟩)
        · exact .inr (.inr ⟨rfl, h2⟩)
      · exact .inr (.inl h1)
theorem str_ext {a b : Str} (h : a.cps.toList = b.cps.toList) : a = b := by
  obtain ⟨a⟩ := a
  obtain ⟨b⟩ := b
  have : a = b := by simpa using congrArg List.toArray h
  rw [this]
theorem leS_anti {a b : Str} (h1 : leS a b = true) (h2 : leS b a = true) : a = b := by
  unfold leS at h1 h2
  simp only [Bool.not_eq_true'] at h1 h2
  exact str_ext (lt_tri _ _ h2 h1)
theorem leS_trans {a b c : Str} (h1 : leS a b = true) (h2 : leS b c = true) : leS a c = true := by
  unfold leS at *
  simp only [Bool.not_eq_true'] at *
  cases h : ltCps c.cps.toList a.cps.toList with
  | false => rfl
  | true =>
    rcases lt_cot _ b.cps.toList _ h with h3 | h3
    · rw [h3] at h2; cases h2
    · rw [h3] at h1; cases h1
theorem lt_asym : ∀ a b : List Nat, ltCps a b = true → ltCps b a = false
  | [], [], h => by cases h
  | [], _ :: _, _ => rfl
  | _ :: _, [], h => by cases h
  | x :: a, y :: b, h => by
    simp only [ltCps, Bool.or_eq_true, Bool.and_eq_true, decide_eq_true_eq, beq_iff_eq] at h
    simp only [ltCps, Bool.or_eq_false_iff, Bool.and_eq_false_iff, decide_eq_false_iff_not]
    rcases h with h | ⟨e, h⟩
    · exact ⟨by omega, .inl (by simp; omega)⟩
    · subst e
      exact ⟨Nat.lt_irrefl _, .inr (lt_asym a b h)⟩
theorem leS_total (a b : Str) : leS a b = true ∨ leS b a = true := by
  unfold leS
  cases h : ltCps b.cps.toList a.cps.toList with
  | false => exact .inl rfl
  | true => exact .inr (by rw [lt_asym _ _ h]; rfl)
def sortStr (xs : List Str) : List Str := xs.mergeSort leS
theorem sortStr_perm (xs : List Str) : (sortStr xs).Perm xs := List.mergeSort_perm xs leS
theorem sortStr_sorted (xs : List Str) : (sortStr xs).Pairwise fun a b => leS a b = true :=
  List.pairwise_mergeSort (le := leS) (fun a b c h1 h2 => leS_trans h1 h2) (fun a b => by rw [Bool.or_eq_true]; exact leS_total a b) xs
theorem pw_of_sortedS : ∀ {ys : List Str}, sortedS ys = true → ys.Pairwise fun a b => leS a b = true
  | [], _ => .nil
  | [x], _ => .cons (by simp) .nil
  | x :: y :: r, h => by
    have h' : leS x y = true ∧ sortedS (y :: r) = true := by
      simp only [sortedS, risingS, Bool.and_eq_true] at h
      exact ⟨h.1, h.2⟩
    have ih := pw_of_sortedS h'.2
    refine .cons (fun z hz => ?_) ih
    rcases List.mem_cons.mp hz with e | hz
    · rw [e]; exact h'.1
    · exact leS_trans h'.1 (List.rel_of_pairwise_cons ih hz)
theorem sorted_uniq : ∀ {l m : List Str}, l.Perm m → l.Pairwise (fun a b => leS a b = true) → m.Pairwise (fun a b => leS a b = true) → l = m
  | [], m, p, _, _ => p.nil_eq
  | x :: l, [], p, _, _ => by have := p.length_eq; simp at this
  | x :: l, y :: m, p, hl, hm => by
    have e : x = y := by
      have h1 : x ∈ y :: m := p.mem_iff.mp (by simp)
      have h2 : y ∈ x :: l := p.mem_iff.mpr (by simp)
      rcases List.mem_cons.mp h1 with e | h1
      · exact e
      rcases List.mem_cons.mp h2 with e | h2
      · exact e.symm
      · exact leS_anti (List.rel_of_pairwise_cons hl h2) (List.rel_of_pairwise_cons hm h1)
    subst e
    rw [sorted_uniq p.cons_inv hl.tail hm.tail]
theorem sortStr_eq {xs ys : List Str} (p : ys.Perm xs) (h : sortedS ys = true) : ys = sortStr xs :=
  sorted_uniq (p.trans (sortStr_perm xs).symm) (pw_of_sortedS h) (sortStr_sorted xs)
section
variable {X : Cx}
/-- sorted(xs), texts, any number of them -/
theorem cr_sortedT : CallR X (.builtin "sorted") (fun vs H Q => ∃ (a : Addr) (zs : List Str), vs = [V.ref a] ∧ SqL X.K H a (zs.map V.str) ∧ ∀ p : Addr, H p = none → Q (.ref p) (upd H p (.lst ((sortStr zs).map V.str)))) := by
  intro pins s σ H vs us Q I r ⟨a, zs, e, hs, q⟩
  subst e
  obtain ⟨is, rv, hl, hz⟩ := I.list hs
  rw [Vals.ref1 r]
  refine PyProof.Rows.sorted_strsAny hl.isList rv.strs (by rw [← rv.length]; exact hz) fun out ys h1 h2 h3 => ?_
  obtain ⟨ep, he⟩ := PyProof.Rows.sortedAll_at s.heap is out
  have e := sortStr_eq h2 h3
  subst e
  have hl2 : ((sortStr zs).map V.str).length ≤ sizeLine := by rw [List.length_map, h2.length_eq]; rw [List.length_map] at hz; exact hz
  exact ⟨.ref _, upd H (s.heap.objs.size + 1) (.lst ((sortStr zs).map V.str)), I.laid (t' := s.toks) (fun _ _ => PyProof.Rows.sortedAll_old) (Nat.le_succ _) ⟨hl2, out.toList, ep, vals_of_strs h1, he⟩, rfl, q _ (I.hok.fresh (Nat.le_succ _))⟩
def cSorted (ds : List D) (S : Sto) : R D := match ds with
  | [d] => match rdL S d with
    | some es => match strsOf es with
      | some zs => .ok (.lst ((sortStr zs).map .str)) S
      | none => .stuck
    | none => .stuck
  | _ => .stuck
theorem rds_strs {H : Hp} {ι : Z} : ∀ {ds : List D} {vs : List V} {ys : List Str}, RDs H ι ds vs → strsOf ds = some ys → ∀ z ∈ ys, z.length ≤ sizeLine
  | [], vs, ys, r, h => by simp only [strsOf, Option.some.injEq] at h; subst h; simp
  | d :: ds, vs, ys, r, h => by
    simp only [RDs] at r
    obtain ⟨v, w, e, r1, r2⟩ := r
    cases d with
    | str s =>
      simp only [strsOf, Option.map_eq_some_iff] at h
      obtain ⟨zs, h2, e⟩ := h
      subst e
      simp only [RD] at r1
      intro z hz
      rcases List.mem_cons.mp hz with e | hz
      · rw [e]; exact r1.2
      · exact rds_strs r2 h2 z hz
    | _ => simp only [strsOf] at h; cases h
theorem rds_mapstr {H : Hp} {ι : Z} : ∀ {ys : List Str}, (∀ z ∈ ys, z.length ≤ sizeLine) → RDs H ι (ys.map .str) (ys.map V.str)
  | [], _ => .nil
  | y :: ys, h => .cons (by simp only [RD]; exact ⟨trivial, h y (by simp)⟩) (rds_mapstr fun z hz => h z (by simp [hz]))
theorem cSorted_ok : CallD X (.builtin "sorted") cSorted := by
  refine ⟨_, cr_sortedT, fun W ι S H xs dxs Q rp rx q => ?_⟩
  unfold cSorted at q
  split at q
  · rename_i d
    obtain ⟨v, e, r⟩ := rds_one rx
    subst e
    split at q
    · rename_i es hes
      obtain ⟨a, vs, e, hq, h2, z⟩ := rdL_ok rp r hes
      subst e
      split at q
      · rename_i zs hzs
        have ev := strsOf_ok h2 hzs
        subst ev
        refine ⟨a, zs, rfl, hq, fun p hp => q.at (Step.new hp) (rp.new hp) (rd_newLst rp (rds_mapstr fun x hx => rds_strs h2 hzs x ((sortStr_perm zs).mem_iff.mp hx)) ?_ hp)⟩
        have := h2.length
        rw [List.length_map] at this ⊢
        rw [(sortStr_perm zs).length_eq, ← this]; exact z
      · exact q.elim
    · exact q.elim
  · exact q.elim
/-! ### is True, is not True -/
def opIsB (x y : D) (S : Sto) : R D := match x, y with
  | .bl a, .bl b => .ok (.bl (decide (a = b))) S
  | _, _ => .stuck
def opNotB (x y : D) (S : Sto) : R D := match x, y with
  | .bl a, .bl b => .ok (.bl (!decide (a = b))) S
  | _, _ => .stuck
theorem opIsB_ok : OpD X (compareOp .Is) opIsB := by
  refine ⟨_, op_isBl, fun W ι S H x y dx dy Q rp rx ry q => ?_⟩
  unfold opIsB at q
  split at q
  · simp only [RD] at rx ry
    exact ⟨_, _, rx, ry, q.here rp (by simp only [RD])⟩
  · exact q.elim
theorem opNotB_ok : OpD X (compareOp .IsNot) opNotB := by
  refine ⟨_, op_notBl, fun W ι S H x y dx dy Q rp rx ry q => ?_⟩
  unfold opNotB at q
  split at q
  · simp only [RD] at rx ry
    exact ⟨_, _, rx, ry, q.here rp (by simp only [RD])⟩
  · exact q.elim
/-! ### l.index(x) -/
def cIndex (d : D) (xs : List D) (S : Sto) : R D := match xs with
  | [x] => match tpd S d, tpd S x with
    | some (.list ps), some p => if SeqAt.shaped (.list ps) = true ∧ SeqAt.shaped p = true then (match ps.findIdx? fun z => PyData.eqv z p with
      | some j => .ok (.int (j : Nat)) S
      | none => .stuck) else .stuck
    | _, _ => .stuck
  | _ => .stuck
theorem cIndex_ok {k : Nat} (hr : Room k X.A) : MtD X "list.index" cIndex := by
  refine ⟨_, mt_indexD (by have := hr.un; omega), fun W ι S H x xs dx dxs Q rp rx rs q => ?_⟩
  unfold cIndex at q
  split at q
  · rename_i d
    obtain ⟨v, e, r⟩ := rds_one rs
    subst e
    split at q
    · rename_i ps p hps hp
      split at q
      · rename_i hs
        split at q
        · rename_i j hj
          have h1 := tpd_ok rp hps rx
          have h2 := tpd_ok rp hp r
          rw [List.findIdx?_eq_some_iff_getElem] at hj
          obtain ⟨hl, h3, h4⟩ := hj
          obtain ⟨a, ea⟩ : ∃ a, x = .ref a := by cases h1; exact ⟨_, rfl⟩
          subst ea
          refine ⟨a, v, p, ps, j, ps[j], rfl, rfl, h1, h2, hs.1, hs.2, List.getElem?_eq_getElem hl, h3, fun m z hm hz => ?_, q.here rp (by simp only [RD])⟩
          obtain ⟨hm2, e⟩ := List.getElem?_eq_some_iff.mp hz
          have := h4 m hm
          rw [e] at this
          simpa using this
        · exact q.elim
      · exact q.elim
    · exact q.elim
  · exact q.elim
end
end PM

/-! PM, part 20: dicts made -/
namespace PM
open PySem PySem.Spec L2 PyProof.Rows
section
variable {X : Cx} {W : WX} {pos : Pos}
/-! ### {} -/
def mNewK : Em := fun _ S => .ok (.ref S.length) (S ++ [.dK [] []])
@[simp] theorem mNewK_eq {δ : PM.Loc} {S : Sto} : mNewK δ S = .ok (.ref S.length) (S ++ [.dK [] []]) := (rfl)
theorem de_newK : DE X W (.Dict [] [] pos) mNewK := pe_imp pe_dnewK fun σ H Q ⟨ι, S, δ, rp, rs, g⟩ p hp => by
  have q2 := rep_newRef (m := .dK [] []) (u := .dK []) rp hp ⟨[], upd_same, rfl, Nat.zero_le _, .nil⟩
  exact G.at g (Step.newRef hp) q2.1 q2.2
/-! ### list(d) -/
def keyD : Key → D
  | .inl i => .int i
  | .inr s => .str s
def keyFit : Key → Bool
  | .inr s => decide (s.length ≤ sizeLine)
  | .inl _ => true
def cListK (ds : List D) (S : Sto) : R D := match ds with
  | [.ref n] => match S[n]? with
    | some (.dK ks _) => if ks.all keyFit = true then .ok (.lst (ks.map keyD)) S else .stuck
    | _ => .stuck
  | _ => .stuck
theorem rds_keys {H : Hp} {ι : Z} : ∀ {ks : List Key}, ks.all keyFit = true → RDs H ι (ks.map keyD) (ks.map kV)
  | [], _ => .nil
  | .inl i :: ks, h => .cons (by simp only [keyD, RD]; rfl) (rds_keys (by simpa [keyFit] using h))
  | .inr s :: ks, h => by
    simp only [List.all_cons, Bool.and_eq_true, keyFit, decide_eq_true_eq] at h
    exact .cons (by simp only [keyD, RD]; exact ⟨rfl, h.1⟩) (rds_keys h.2)
theorem cListK_ok (hc : X.calm = true) : CallD X (.type "list") cListK := by
  refine ⟨_, call_list_dK hc, fun W ι S H xs dxs Q rp rx q => ?_⟩
  unfold cListK at q
  split at q
  · rename_i n
    obtain ⟨v, e, r⟩ := rds_one rx
    subst e
    simp only [RD] at r
    obtain ⟨a, e, h1⟩ := r
    subst e
    obtain ⟨o, e2, ro⟩ := rp.has h1
    rw [e2] at q
    cases o with
    | dK ks ds =>
      dsimp only at q
      split at q
      · rename_i hk
        obtain ⟨vs, h3, hz, hl, h4⟩ := ro
        refine ⟨a, _, rfl, h3, fun p hp => ?_⟩
        have e3 : (ks.zip vs).map (fun kv => kV kv.1) = ks.map kV := by
          rw [show (fun kv : Key × V => kV kv.1) = kV ∘ Prod.fst from rfl, ← List.map_map, List.map_fst_zip (by rw [hz, h4.length]; omega)]
        rw [e3]
        exact q.at (Step.new hp) (rp.new hp) (rd_newLst rp (rds_keys hk) (by rw [List.length_map]; exact hl) hp)
      · exact q.elim
    | _ => exact q.elim
  · exact q.elim
/-! ### dict(pairs) -/
def pairOf : D → Option (Key × D)
  | .tup [k, d] => (keyOf k).map fun k => (k, d)
  | _ => none
def pairsD : List D → Option (List (Key × D))
  | [] => some []
  | d :: ds => (pairOf d).bind fun p => (pairsD ds).map (p :: ·)
def mergeD : List Key → List D → List (Key × D) → List Key × List D
  | ks, ds, [] => (ks, ds)
  | ks, ds, p :: ps => mergeD (insK ks p.1) (insD ks ds p.1 p.2) ps
theorem mergeD_ok {H : Hp} {ι : Z} : ∀ {ps : List (Key × D)} {kvs : List (Key × V)} {ks : List Key} {ds : List D} {vs : List V}, Paired (fun (p : Key × D) (kv : Key × V) => p.1 = kv.1 ∧ RD H ι p.2 kv.2) ps kvs →
    ks.length = ds.length → RDs H ι ds vs → ∃ ws, mergeK (ks.zip vs) kvs = (mergeD ks ds ps).1.zip ws ∧ (mergeD ks ds ps).1.length = (mergeD ks ds ps).2.length ∧ RDs H ι (mergeD ks ds ps).2 ws
  | _, _, ks, ds, vs, .nil, hl, r => ⟨vs, rfl, hl, r⟩
  | p :: ps, kv :: kvs, ks, ds, vs, .cons h t, hl, r => by
    obtain ⟨ws, e, hl2, r2⟩ := insK_put (k := p.1) hl r h.2
    obtain ⟨us, e2, hl3, r3⟩ := mergeD_ok t hl2 r2
    refine ⟨us, ?_, hl3, r3⟩
    show mergeK (putK (ks.zip vs) kv.1 kv.2) kvs = _
    rw [← h.1, e]; exact e2
theorem pairsD_ok {H : Hp} {ι : Z} : ∀ {es : List D} {vs : List V} {ps : List (Key × D)}, RDs H ι es vs → pairsD es = some ps → ∃ (as : List Addr) (kvs : List (Key × V)), vs = as.map V.ref ∧ Paired (fun a kv => Tp H a [kV kv.1, kv.2]) as kvs ∧ Paired (fun (p : Key × D) (kv : Key × V) => p.1 = kv.1 ∧ RD H ι p.2 kv.2) ps kvs
  | [], vs, ps, r, h => by
    simp only [pairsD, Option.some.injEq] at h
    simp only [RDs] at r
    subst h r
    exact ⟨[], [], rfl, .nil, .nil⟩
  | d :: es, vs, ps, r, h => by
    simp only [RDs] at r
    obtain ⟨v, w, e, r1, r2⟩ := r
    subst e
    simp only [pairsD] at h
    cases h1 : pairOf d with
    | none => rw [h1] at h; cases h
    | some p =>
      rw [h1] at h
      simp only [Option.bind_some, Option.map_eq_some_iff] at h
      obtain ⟨ps', h2, e⟩ := h
      subst e
      obtain ⟨as, kvs, e1, q1, q2⟩ := pairsD_ok r2 h2
      subst e1
      unfold pairOf at h1
      split at h1
      · rename_i k x
        rw [Option.map_eq_some_iff] at h1
        obtain ⟨kk, hk, e⟩ := h1
        subst e
        simp only [RD] at r1
        obtain ⟨a, us, e, t, z, r3⟩ := r1
        subst e
        obtain ⟨u1, u2, e, r4, r5⟩ := rds_two r3
        subst e
        rw [keyOf_ok r4 hk] at t
        exact ⟨a :: as, (kk, u2) :: kvs, rfl, .cons t q1, .cons ⟨rfl, r5⟩ q2⟩
      · cases h1
theorem pairsD_len : ∀ {es : List D} {ps : List (Key × D)}, pairsD es = some ps → ps.length = es.length
  | [], ps, h => by simp only [pairsD, Option.some.injEq] at h; subst h; rfl
  | d :: es, ps, h => by
    simp only [pairsD] at h
    cases h1 : pairOf d with
    | none => rw [h1] at h; cases h
    | some p =>
      rw [h1] at h
      simp only [Option.bind_some, Option.map_eq_some_iff] at h
      obtain ⟨ps', h2, e⟩ := h
      subst e
      simp [pairsD_len h2]
theorem mergeD_len : ∀ (ps : List (Key × D)) (ks : List Key) (ds : List D), (mergeD ks ds ps).1.length ≤ ks.length + ps.length
  | [], ks, ds => Nat.le_refl _
  | p :: ps, ks, ds => by
    have := mergeD_len ps (insK ks p.1) (insD ks ds p.1 p.2)
    have := insK_len ks p.1
    simp only [mergeD, List.length_cons]; omega
end
section
variable {X : Cx} {pins : List (Addr × Obj)} {σ : L2.St} {H : Hp} {s : Shared}
/-- the pairs, at the level of the library -/
theorem pairs_at (I : Inv X pins σ H s) : ∀ {as : List Addr} {kvs : List (Key × V)}, Paired (fun a kv => Tp H a [kV kv.1, kv.2]) as kvs →
    ∃ (vs : List (Value × Value)) (prs : List (Key × Value)), KV kvs prs ∧ vs.length = as.length ∧ prs.length = as.length ∧ ∀ (j : Nat) (k v : Value), vs[j]? = some (k, v) → ∃ (b : Addr) (kk : Key), as[j]? = some b ∧ PySem.PairAt s.heap b k v ∧ prs[j]? = some (kk, v) ∧ (mixKind X.prog X.w).is kk k = true
  | _, _, .nil => ⟨[], [], .nil, rfl, rfl, fun j k v h => by simp at h⟩
  | a :: as, kv :: kvs, .cons h t => by
    obtain ⟨vs, prs, h1, h2, h3, h4⟩ := pairs_at I t
    obtain ⟨is, rv, ht, _⟩ := I.tuple (h.sq (K := X.K))
    obtain ⟨u, y, ei, ru, ry⟩ := vals2 rv
    subst ei
    refine ⟨(u, y) :: vs, (kv.1, y) :: prs, .cons ⟨rfl, ry⟩ h1, by simp [h2], by simp [h3], fun j k v hj => ?_⟩
    cases j with
    | zero =>
      simp only [List.getElem?_cons_zero, Option.some.injEq, Prod.mk.injEq] at hj
      obtain ⟨e1, e2⟩ := hj
      subst e1 e2
      exact ⟨a, kv.1, rfl, .inl ht, rfl, kV_is ru⟩
    | succ j =>
      obtain ⟨b, kk, q1, q2, q3, q4⟩ := h4 j k v (by simpa using hj)
      exact ⟨b, kk, by simpa using q1, q2, by simpa using q3, q4⟩
theorem cr_dictT (hcalm : X.calm = true) : CallR X (.type "dict") (fun xs H Q => ∃ (a : Addr) (as : List Addr) (kvs : List (Key × V)), xs = [.ref a] ∧ Tp H a (as.map V.ref) ∧ Paired (fun a kv => Tp H a [kV kv.1, kv.2]) as kvs ∧
    ∀ p, H p = none → Q (.ref p) (upd H p (.dK (mergeK [] kvs)))) := by
  intro pins s σ H xs us Q I r ⟨a, as, kvs, e, ⟨o, ho, hd⟩, hp, q⟩
  subst e
  obtain ⟨u, eu, rx⟩ := vals1 r
  subst eu
  cases rx
  obtain ⟨hg, hz, is, rv, o2, hg2, hc, n, hdat⟩ := (show ObjOk X.prog X.w H s.heap a (.frz o (.tup (as.map V.ref))) from I.hok a _ ho)
  rw [hg] at hg2
  cases hg2
  have ei := refs_at rv
  subst ei
  rw [List.length_map] at hz
  obtain ⟨vs, prs, rel, h2, h3, h4⟩ := pairs_at I hp
  refine PySem.call_dict_pairs (knd := mixKind X.prog X.w) (kvs := prs) (PySem.PairArg.tuple a _ (fun j => as[j]?.getD 0) vs) (I.ok.hd hcalm) ⟨⟨o, n, hg, hc, hd, hdat⟩, by simp [h2], fun j k v hj => ?_⟩ ⟨by rw [h3, h2], fun j k v hj => ?_⟩ (by rw [h2]; exact hz) fun h' tk hd' hk => ?_
  · obtain ⟨b, kk, q1, q2, q3, q4⟩ := h4 j k v hj
    refine ⟨?_, ?_⟩
    · simp [q1]
    · simp only [q1, Option.getD_some]; exact q2
  · obtain ⟨b, kk, q1, q2, q3, q4⟩ := h4 j k v hj
    exact ⟨kk, q3, q4⟩
  · have hm : (s.heap.objs.size == sysModules) = false := beq_eq_false_iff_ne.mpr (Nat.ne_of_gt I.big)
    have hlen : (mergeK [] kvs).length ≤ sizeLine := by
      refine Nat.le_trans (length_mergeK kvs []) ?_
      rw [List.length_nil, Nat.zero_add, rel.length, h3]
      exact hz
    exact ⟨.ref s.heap.objs.size, upd H s.heap.objs.size (.dK (mergeK [] kvs)), I.laid (t' := tk) (fun b o e => hk b o (by simp) e) (Nat.le_refl _) (show ObjOk X.prog X.w _ _ _ (.dK (mergeK [] kvs)) from ⟨hlen, hm, PySem.merged [] prs, KV.merge rel .nil, hd'⟩), rfl, q _ (I.hok.fresh (Nat.le_refl _))⟩
theorem dict_fin {W : XK} {ι : Z} {S : Sto} {Q : VK} (rp : Rep H ι X.ek S) {es : List D} {vs : List V} {ps : List (Key × D)} (r : RDs H ι es vs) (hz : es.length ≤ sizeLine) (hp : pairsD es = some ps)
    (q : ∀ p ws, H p = none → (mergeD [] [] ps).1.length = (mergeD [] [] ps).2.length → (mergeD [] [] ps).1.length ≤ sizeLine → RDs H ι (mergeD [] [] ps).2 ws → Q (.ref p) (upd H p (.dK ((mergeD [] [] ps).1.zip ws)))) :
    ∃ (as : List Addr) (kvs : List (Key × V)), vs = as.map V.ref ∧ Paired (fun a kv => Tp H a [kV kv.1, kv.2]) as kvs ∧ ∀ p, H p = none → Q (.ref p) (upd H p (.dK (mergeK [] kvs))) := by
  obtain ⟨as, kvs, e, h1, h2⟩ := pairsD_ok r hp
  refine ⟨as, kvs, e, h1, fun p hpn => ?_⟩
  obtain ⟨ws, e2, hl, r2⟩ := mergeD_ok (ks := []) (ds := []) (vs := []) h2 rfl .nil
  have e3 : mergeK [] kvs = (mergeD [] [] ps).1.zip ws := e2
  rw [e3]
  refine q p ws hpn hl ?_ r2
  refine Nat.le_trans (mergeD_len _ [] []) ?_
  rw [List.length_nil, Nat.zero_add, pairsD_len hp]; exact hz
/-- the pairs of a tuple or list -/
def itP (S : Sto) : D → Option (List (Key × D))
  | .tup es => pairsD es
  | d => (rdL S d).bind pairsD
theorem dict_call {W : XK} {ι : Z} {S : Sto} {Q : VK} (rp : Rep H ι X.ek S) {d : D} {xs : List V} {ps : List (Key × D)} (rx : RDs H ι [d] xs) (h : itP S d = some ps)
    (q : ∀ p ws, H p = none → (mergeD [] [] ps).1.length = (mergeD [] [] ps).2.length → (mergeD [] [] ps).1.length ≤ sizeLine → RDs H ι (mergeD [] [] ps).2 ws → Q (.ref p) (upd H p (.dK ((mergeD [] [] ps).1.zip ws)))) :
    (∃ (a : Addr) (as : List Addr) (kvs : List (Key × V)), xs = [.ref a] ∧ Tp H a (as.map V.ref) ∧ Paired (fun a kv => Tp H a [kV kv.1, kv.2]) as kvs ∧ ∀ p, H p = none → Q (.ref p) (upd H p (.dK (mergeK [] kvs)))) ∨
    (∃ (a : Addr) (ps : List Addr) (kvs : List (Key × V)), xs = [.ref a] ∧ SqL X.K H a (ps.map V.ref) ∧ Paired (fun p kv => SqT X.K H p [kV kv.1, kv.2]) ps kvs ∧ ∀ p, H p = none → Q (.ref p) (upd H p (.dK (mergeK [] kvs)))) := by
  obtain ⟨v, e, r⟩ := rds_one rx
  subst e
  unfold itP at h
  split at h
  · rename_i es
    simp only [RD] at r
    obtain ⟨a, vs, e, t, z, r2⟩ := r
    subst e
    obtain ⟨as, kvs, e, h1, h2⟩ := dict_fin (W := W) rp r2 z h q
    subst e
    exact .inl ⟨a, as, kvs, rfl, t, h1, h2⟩
  · rename_i d _
    rw [Option.bind_eq_some_iff] at h
    obtain ⟨es, hes, hps⟩ := h
    obtain ⟨a, vs, e, hq, r2, z⟩ := rdL_ok rp r hes
    subst e
    obtain ⟨as, kvs, e, h1, h2⟩ := dict_fin (W := W) rp r2 z hps q
    subst e
    exact .inr ⟨a, as, kvs, rfl, hq, L2.Paired.mapP h1 fun _ _ h => h.sq, h2⟩
def cDict (ds : List D) (S : Sto) : R D := match ds with
  | [d] => match itP S d with
    | some ps => .ok (.dct (mergeD [] [] ps).1 (mergeD [] [] ps).2) S
    | none => .stuck
  | _ => .stuck
theorem cDict_ok (hc : X.calm = true) : CallD X (.type "dict") cDict := by
  refine ⟨_, CallR.or (cr_dictT hc) (call_dictP hc), fun W ι S H xs dxs Q rp rx q => ?_⟩
  unfold cDict at q
  split at q
  · split at q
    · rename_i ps hps
      refine dict_call (W := W) rp rx hps fun p ws hpn hl hz r2 => q.at (Step.new hpn) (rp.new hpn) ?_
      simp only [RD]
      exact ⟨p, ws, rfl, .inl upd_same, rp.fresh hpn, hl, hz, r2.mono (Step.new hpn).up⟩
    · exact q.elim
  · exact q.elim
/-- .. a dict that may be changed -/
def cDictR (ds : List D) (S : Sto) : R D := match ds with
  | [d] => match itP S d with
    | some ps => .ok (.ref S.length) (S ++ [.dK (mergeD [] [] ps).1 (mergeD [] [] ps).2])
    | none => .stuck
  | _ => .stuck
theorem cDictR_ok (hc : X.calm = true) : CallD X (.type "dict") cDictR := by
  refine ⟨_, CallR.or (cr_dictT hc) (call_dictP hc), fun W ι S H xs dxs Q rp rx q => ?_⟩
  unfold cDictR at q
  split at q
  · split at q
    · rename_i ps hps
      refine dict_call (W := W) rp rx hps fun p ws hpn hl hz r2 => ?_
      have q2 := rep_newRef (m := .dK (mergeD [] [] ps).1 (mergeD [] [] ps).2) (u := .dK ((mergeD [] [] ps).1.zip ws)) rp hpn ⟨ws, upd_same, hl, hz, r2.mono (Step.newRef hpn).up⟩
      exact q.at (Step.newRef hpn) q2.1 q2.2
    · exact q.elim
  · exact q.elim
end
end PM

/-! PM, part 21: kinds and values (plain) -/
namespace PM
open PySem L2
inductive K where
  | num | blk (n : Int) | rc (ls : List Str) (ks : List K) (r : Option Int)
inductive Vl where
  | num (n : Int) | rc (ls : List Str) (vs : List Vl)
def rD0 : Option Int → D
  | none => .non
  | some n => .int n
mutual
def kd : K → D
  | .num => .tup [.str "number"]
  | .blk n => .tup [.str "blank", .int n]
  | .rc ls ks r => .tup [.str "record", .tup (fldD ls (kds ks)), rD0 r]
def kds : List K → List D
  | [] => []
  | k :: ks => kd k :: kds ks
end
mutual
def vd : Vl → D
  | .num n => .int n
  | .rc ls vs => .tup (fldD ls (vds vs))
def vds : List Vl → List D
  | [] => []
  | v :: vs => vd v :: vds vs
end
theorem kds_map : ∀ ks : List K, kds ks = ks.map kd
  | [] => rfl
  | k :: ks => by rw [kds, kds_map ks]; rfl
theorem vds_map : ∀ vs : List Vl, vds vs = vs.map vd
  | [] => rfl
  | v :: vs => by rw [vds, vds_map vs]; rfl
def lkp : List Str → List Vl → Str → Option Vl
  | l :: ls, v :: vs, x => if l = x then some v else lkp ls vs x
  | _, _, _ => none
mutual
def isB : K → Vl → Bool
  | .blk _, _ => true
  | .num, .num _ => true
  | .num, .rc _ _ => false
  | .rc _ _ _, .num _ => false
  | .rc ls ks r, .rc ls' vs => isBs ls ks ls' vs && (r.isSome || decide (ls'.length = ls.length))
def isBs : List Str → List K → List Str → List Vl → Bool
  | l :: ls, k :: ks, ls', vs => (match lkp ls' vs l with | some v => isB k v | none => false) && isBs ls ks ls' vs
  | _, _, _, _ => true
end
/-- kinds of labels, of a depth -/
inductive WK : Nat → K → Prop where
  | num {d} : WK (d + 1) .num
  | blk {d n} : WK (d + 1) (.blk n)
  | rc {d ls ks r} : ls.length = ks.length → ks.length ≤ 4 → ls.Nodup → (∀ l ∈ ls, IsLab l) → (∀ k ∈ ks, WK d k) → WK (d + 1) (.rc ls ks r)
/-- values of labels, of a depth, of so many fields -/
inductive WV (m : Nat) : Nat → Vl → Prop where
  | num {d n} : WV m (d + 1) (.num n)
  | rc {d ls vs} : ls.length = vs.length → vs.length ≤ m → ls.Nodup → (∀ l ∈ ls, IsLab l) → (∀ v ∈ vs, WV m d v) → WV m (d + 1) (.rc ls vs)
theorem WV.mono {m d e : Nat} {v : Vl} (h : WV m d v) : d ≤ e → WV m e v := by
  induction h generalizing e with
  | num => intro he; obtain ⟨e, rfl⟩ : ∃ f, e = f + 1 := ⟨e - 1, by omega⟩; exact .num
  | rc h1 h2 h3 h4 h5 ih => intro he; obtain ⟨e, rfl⟩ : ∃ f, e = f + 1 := ⟨e - 1, by omega⟩; exact .rc h1 h2 h3 h4 fun v hv => ih v hv (by omega)
theorem WK.mono {d e : Nat} {k : K} (h : WK d k) : d ≤ e → WK e k := by
  induction h generalizing e with
  | num => intro he; obtain ⟨e, rfl⟩ : ∃ f, e = f + 1 := ⟨e - 1, by omega⟩; exact .num
  | blk => intro he; obtain ⟨e, rfl⟩ : ∃ f, e = f + 1 := ⟨e - 1, by omega⟩; exact .blk
  | rc h1 h2 h3 h4 h5 ih => intro he; obtain ⟨e, rfl⟩ : ∃ f, e = f + 1 := ⟨e - 1, by omega⟩; exact .rc h1 h2 h3 h4 fun v hv => ih v hv (by omega)
/-! dicts of them -/
theorem fldD_cons (l : Str) (ls : List Str) (d : D) (ds : List D) : fldD (l :: ls) (d :: ds) = .tup [.str l, d] :: fldD ls ds := rfl
theorem pairsD_fld : ∀ {ls : List Str} {ds : List D}, ls.length = ds.length → pairsD (fldD ls ds) = some ((ls.map Sum.inr).zip ds)
  | [], [], _ => rfl
  | l :: ls, d :: ds, h => by
    rw [fldD_cons, pairsD, pairsD_fld (by simpa using h)]; rfl
theorem insK_new {ks : List Key} {k : Key} (h : k ∉ ks) : insK ks k = ks ++ [k] := by unfold insK; rw [if_neg h]
theorem insD_new {ks : List Key} {ds : List D} {k : Key} {d : D} (h : k ∉ ks) : insD ks ds k d = ds ++ [d] := by unfold insD; rw [if_neg h]
theorem mergeD_new : ∀ {ks2 ks : List Key} {ds2 ds : List D}, (ks ++ ks2).Nodup → ks2.length = ds2.length → mergeD ks ds (ks2.zip ds2) = (ks ++ ks2, ds ++ ds2)
  | [], ks, [], ds, _, _ => by simp [mergeD]
  | k :: ks2, ks, d :: ds2, ds, h, hl => by
    have hk : k ∉ ks := fun hk => by
      rw [List.nodup_append] at h
      exact h.2.2 k hk k (by simp) rfl
    rw [List.zip_cons_cons, mergeD, insK_new hk, insD_new hk, mergeD_new (by simpa using h) (by simpa using hl)]
    simp
theorem nodup_inr {ls : List Str} (h : ls.Nodup) : (ls.map (Sum.inr : Str → Key)).Nodup := by
  unfold List.Nodup at *
  rw [List.pairwise_map]
  exact h.imp fun {a b} n e => n (Sum.inr.inj e)
theorem cDict_fld {S : Sto} {ls : List Str} {ds : List D} (h : ls.length = ds.length) (hn : ls.Nodup) : cDict [.tup (fldD ls ds)] S = .ok (.dct (ls.map .inr) ds) S := by
  have e : itP S (.tup (fldD ls ds)) = some ((ls.map Sum.inr).zip ds) := pairsD_fld h
  have e2 := mergeD_new (ks := []) (ks2 := ls.map Sum.inr) (ds := []) (ds2 := ds) (by simpa using nodup_inr hn) (by simpa using h)
  simp only [cDict, e, e2, List.nil_append]
theorem getK_lkp : ∀ {ls : List Str} {vs : List Vl} (l : Str), ls.length = vs.length → getK (ls.map (Sum.inr : Str → Key)) (vds vs) (.inr l) = (lkp ls vs l).map vd
  | [], [], l, _ => rfl
  | x :: ls, v :: vs, l, h => by
    simp only [List.map_cons, vds, getK, lkp, Sum.inr.injEq]
    split
    · rfl
    · exact getK_lkp l (by simpa using h)
@[simp] theorem dget_dct {S : Sto} {ks : List Key} {ds : List D} {l : Str} : dget S (.dct ks ds) (.str l) = some (getK ks ds (.inr l)) := rfl
theorem opIx_dct {S : Sto} {ks : List Key} {ds : List D} {l : Str} {d : D} (h : getK ks ds (.inr l) = some d) : opIx (.dct ks ds) (.str l) S = .ok d S := by
  simp only [opIx, dget_dct, h]
theorem opNotIn_dct {S : Sto} {ks : List Key} {ds : List D} {l : Str} : opNotIn (.str l) (.dct ks ds) S = .ok (.bl (!(getK ks ds (.inr l)).isSome)) S := by
  simp only [opNotIn, inDa, dget_dct]
theorem isi_vd {S : Sto} (v : Vl) : opIsi "tuple" (vd v) S = .ok (.bl (match v with | .rc _ _ => true | .num _ => false)) S := by cases v <;> simp [vd]
theorem vds_len (vs : List Vl) : (vds vs).length = vs.length := by rw [vds_map]; simp
theorem kds_len (vs : List K) : (kds vs).length = vs.length := by rw [kds_map]; simp
theorem lkp_mem : ∀ {ls : List Str} {vs : List Vl} {l : Str} {v : Vl}, lkp ls vs l = some v → v ∈ vs
  | l :: ls, v :: vs, x, w, h => by
    simp only [lkp] at h
    split at h
    · cases h; simp
    · simp [lkp_mem h]
  | [], _, _, _, h => by cases h
  | _ :: _, [], _, _, h => by cases h
end PM

/-! PM, part 22: for the makers of kinds and values -/
namespace PM
open PySem L2
theorem comp_filtm {α : Type} {grd : Sto → Prop} {g : Gm} {t : Tm} {e : Em} {δ : Loc} {S : Sto} (i : α → D) (p : α → Bool) (f : α → D) (hg : grd S) (xs : List α) (acc : List D)
    (h : ∀ x ∈ xs, ∃ δ', g (i x) δ S = .ok δ' S ∧ t δ' S = .ok (p x) S ∧ (p x = true → e δ' S = .ok (f x) S)) : compM grd g t e δ acc (xs.map i) S = .ok (.lst (acc ++ (xs.filter p).map f)) S := by
  induction xs generalizing acc with
  | nil => rw [List.map_nil, compM_nil hg]; simp
  | cons x xs ih =>
    obtain ⟨δ', h1, h2, h3⟩ := h x (by simp)
    rw [List.map_cons, compM_cons hg, h1]
    simp only [R.quiet_ok, R.bind_ok, h2]
    cases hp : p x with
    | true =>
      rw [if_pos rfl, h3 hp]
      simp only [R.quiet_ok, R.bind_ok]
      rw [ih _ fun y hy => h y (by simp [hy]), List.filter_cons_of_pos hp]
      simp
    | false =>
      rw [if_neg (by simp), ih _ fun y hy => h y (by simp [hy]), List.filter_cons_of_neg (by simp [hp])]
theorem fldD_snoc {ls : List Str} {ds : List D} (h : ls.length = ds.length) (l : Str) (d : D) : fldD (ls ++ [l]) (ds ++ [d]) = fldD ls ds ++ [.tup [.str l, d]] := by
  rw [fldD, List.zipWith_append h]; rfl
theorem cutD_to {α : Type} {xs : List α} {i : Int} (h : 0 ≤ i) : cutD xs none (some i) = xs.take i.toNat := by
  obtain ⟨k, rfl⟩ : ∃ k : Nat, i = k := ⟨i.toNat, by omega⟩
  unfold cutD
  rw [HT.sIx_none, HT.sIx_nat, List.drop_zero, Nat.sub_zero]
  show xs.take (min k xs.length) = xs.take k
  rcases Nat.le_total k xs.length with h | h
  · rw [Nat.min_eq_left h]
  · rw [Nat.min_eq_right h, List.take_length, List.take_of_length_le h]
theorem cutD_from {α : Type} {xs : List α} {i : Int} (h : 0 ≤ i) : cutD xs (some i) none = xs.drop i.toNat := by
  obtain ⟨k, rfl⟩ : ∃ k : Nat, i = k := ⟨i.toNat, by omega⟩
  unfold cutD
  rw [HT.sIx_none, HT.sIx_nat]
  show (xs.drop (min k xs.length)).take (xs.length - min k xs.length) = xs.drop k
  rcases Nat.le_total k xs.length with h | h
  · rw [Nat.min_eq_left h, List.take_of_length_le (by simp)]
  · rw [Nat.min_eq_right h, Nat.sub_self, List.take_zero, List.drop_eq_nil_of_le h]
/-! lists of texts, lists of these -/
def wD (w : List Str) : D := .lst (w.map .str)
def WOk (w : List Str) : Prop := ∀ l ∈ w, IsLab l
theorem tps_strs {rc : List D → Option (List PyData)} {S : Sto} : ∀ w : List Str, tps rc S (w.map .str) = some (w.map .str)
  | [] => rfl
  | l :: w => by simp only [List.map_cons, tps, tp, tps_strs w, Option.bind_some, Option.map_some]
theorem tps_ws {rc : List D → Option (List PyData)} {S : Sto} : ∀ ws : List (List Str), tps rc S (ws.map wD) = some (ws.map fun w => .list (w.map .str))
  | [] => rfl
  | w :: ws => by simp only [List.map_cons, tps, wD, tp, tps_strs, Option.map_some, Option.bind_some]; simp only [tps_ws ws, Option.map_some]
theorem lay_strs : ∀ {w : List Str}, WOk w → PyData.canLayAll0 (w.map .str) = true ∧ PyData.depthAll (w.map .str) = 0
  | [], _ => ⟨rfl, rfl⟩
  | l :: w, h => by
    obtain ⟨h1, h2⟩ := lay_strs (w := w) fun x hx => h x (by simp [hx])
    simp only [List.map_cons, PyData.canLayAll0, PyData.depthAll, PyData.canLay0, PyData.depth, h1, h2]
    exact ⟨by rw [(h l (by simp)).ok]; rfl, rfl⟩
theorem lay_ws : ∀ {ws : List (List Str)}, (∀ w ∈ ws, WOk w) → PyData.canLayAll0 (ws.map fun w => .list (w.map .str)) = true ∧ PyData.depthAll (ws.map fun w => .list (w.map .str)) ≤ 1
  | [], _ => ⟨rfl, by decide⟩
  | w :: ws, h => by
    obtain ⟨h1, h2⟩ := lay_ws (ws := ws) fun x hx => h x (by simp [hx])
    obtain ⟨h3, h4⟩ := lay_strs (h w (by simp))
    simp only [List.map_cons, PyData.canLayAll0, PyData.depthAll, PyData.canLay0, PyData.depth, h1, h3, h4]
    exact ⟨rfl, by omega⟩
theorem eqv_strs : ∀ a b : List Str, PyData.eqvAll (a.map .str) (b.map .str) = decide (a = b)
  | [], [] => by simp [PyData.eqvAll]
  | [], y :: b => by simp [PyData.eqvAll]
  | x :: a, [] => by simp [PyData.eqvAll]
  | x :: a, y :: b => by
    simp only [List.map_cons, PyData.eqvAll, PyData.eqv, eqv_strs a b, List.cons.injEq, Bool.decide_and]
    congr 1
theorem sh_w {w : List Str} (h : WOk w) : SeqAt.shaped (.list (w.map .str)) = true := by
  obtain ⟨h1, h2⟩ := lay_strs h
  exact shaped_of (n := 1) h1 (by simp only [PyData.depth, h2]; decide) (by decide)
theorem sh_ws {ws : List (List Str)} (h : ∀ w ∈ ws, WOk w) : SeqAt.shaped (.list (ws.map fun w => .list (w.map .str))) = true := by
  obtain ⟨h1, h2⟩ := lay_ws h
  exact shaped_of (n := 2) h1 (by simp only [PyData.depth]; omega) (by decide)
theorem tpd_w {S : Sto} (w : List Str) : tpd S (wD w) = some (.list (w.map .str)) := by
  simp only [tpd, wD, tp, tps_strs]; rfl
theorem tpd_ws {S : Sto} {q : Nat} {ws : List (List Str)} (h : S[q]? = some (.lst (ws.map wD))) : tpd S (.ref q) = some (.list (ws.map fun w => .list (w.map .str))) := by
  simp only [tpd, tp, h, tpk, tps_ws]; rfl
theorem any_ws (w : List Str) : ∀ ws : List (List Str), ((ws.map fun w => PyData.list (w.map .str)).any fun z => PyData.eqv z (.list (w.map .str))) = decide (w ∈ ws)
  | [] => by simp
  | x :: ws => by
    simp only [List.map_cons, List.any_cons, any_ws w ws, PyData.eqv, eqv_strs, List.mem_cons, Bool.decide_or]
    rw [show decide (x = w) = decide (w = x) from by simp only [eq_comm]]
theorem opNotIn_ws {S : Sto} {q : Nat} {ws : List (List Str)} {w : List Str} (h : S[q]? = some (.lst (ws.map wD))) (hw : WOk w) (hs : ∀ w ∈ ws, WOk w) : opNotIn (wD w) (.ref q) S = .ok (.bl (!decide (w ∈ ws))) S := by
  have e : inDa S (wD w) (.ref q) = some (decide (w ∈ ws)) := by
    have h1 := tpd_w (S := S) w
    have h2 := tpd_ws h
    unfold wD at h1
    simp only [inDa, wD, dget, dkOf, dtOf, h, rdS, rdL, asL, isFlat, h1, h2]
    simp only [Bool.false_eq_true, if_false, sh_w hw, sh_ws hs, and_self, if_true, any_ws]
  simp only [opNotIn, e]
theorem cIndex_ws {S : Sto} {q : Nat} {ws : List (List Str)} {w : List Str} (h : S[q]? = some (.lst (ws.map wD))) (hw : WOk w) (hs : ∀ w ∈ ws, WOk w) (hm : w ∈ ws) : ∃ j : Nat, j < ws.length ∧ cIndex (.ref q) [wD w] S = .ok (.int j) S := by
  have h1 := any_ws w ws
  rw [decide_eq_true hm] at h1
  cases hf : (ws.map fun w => PyData.list (w.map .str)).findIdx? (fun z => PyData.eqv z (.list (w.map .str))) with
  | none =>
    rw [List.findIdx?_eq_none_iff] at hf
    rw [List.any_eq_true] at h1
    obtain ⟨x, hx, e⟩ := h1
    rw [hf x hx] at e; cases e
  | some j =>
    refine ⟨j, ?_, ?_⟩
    · rw [List.findIdx?_eq_some_iff_getElem] at hf
      obtain ⟨hl, _⟩ := hf
      simpa using hl
    · simp only [cIndex, tpd_w, tpd_ws h, sh_w hw, sh_ws hs, and_self, if_true, hf]
/-! a state beside a list of lists of texts -/
def KSt (S : Sto) (n q M : Nat) : Prop := ∃ (a b : Int) (ws : List (List Str)), 0 ≤ a ∧ S[n]? = some (.lst [.int a, .int b]) ∧ S[q]? = some (.lst (ws.map wD)) ∧ (∀ w ∈ ws, WOk w) ∧ ws.length + b.toNat ≤ M
/-- only n and q changed -/
def KNx (S T : Sto) (n q : Nat) : Prop := T.length = S.length ∧ ∀ i, i ≠ n → i ≠ q → T[i]? = S[i]?
theorem KNx.refl {S : Sto} {n q : Nat} : KNx S S n q := ⟨rfl, fun _ _ _ => rfl⟩
theorem KNx.trans {S T U : Sto} {n q : Nat} (a : KNx S T n q) (b : KNx T U n q) : KNx S U n q := ⟨b.1.trans a.1, fun i h1 h2 => (b.2 i h1 h2).trans (a.2 i h1 h2)⟩
theorem KNx.set1 {S : Sto} {n q : Nat} {o : MO} : KNx S (S.set n o) n q := ⟨by simp, fun i h1 _ => by rw [List.getElem?_set_ne (Ne.symm h1)]⟩
theorem KNx.set2 {S : Sto} {n q : Nat} {o : MO} : KNx S (S.set q o) n q := ⟨by simp, fun i _ h2 => by rw [List.getElem?_set_ne (Ne.symm h2)]⟩
theorem strsOf_id : ∀ xs : List Str, strsOf (xs.map D.str) = some xs
  | [] => rfl
  | x :: xs => by simp only [List.map_cons, strsOf, strsOf_id xs]; rfl
/-- a comprehension, indexed, with tests that may change objects -/
theorem comp_ofI {g : Gm} {t : Tm} {e : Em} {δ : Loc} {S : Sto} {ds : List D} {r : R D} (hL : compM (fun _ => True) g t e δ [] ds S = r) (I : Nat → List D → Sto → Prop) (h0 : I 0 [] S)
    (hs : ∀ (i : Nat) x acc S, ds[i]? = some x → I i acc S → ∃ δ' S1 k S2, g x δ S = .ok δ' S1 ∧ t δ' S1 = .ok k S2 ∧ (k = true → ∃ y S3, e δ' S2 = .ok y S3 ∧ I (i + 1) (acc ++ [y]) S3) ∧ (k = false → I (i + 1) acc S2)) : ∃ acc S', r = .ok (.lst acc) S' ∧ I ds.length acc S' := by
  subst hL
  suffices H : ∀ (ds acc : List D) (n : Nat) (S : Sto), I n acc S → (∀ (i : Nat) x acc S, ds[i]? = some x → I (n + i) acc S → ∃ δ' S1 k S2, g x δ S = .ok δ' S1 ∧ t δ' S1 = .ok k S2 ∧ (k = true → ∃ y S3, e δ' S2 = .ok y S3 ∧ I (n + i + 1) (acc ++ [y]) S3) ∧ (k = false → I (n + i + 1) acc S2)) →
      ∃ acc' S', compM (fun _ => True) g t e δ acc ds S = .ok (.lst acc') S' ∧ I (n + ds.length) acc' S' by
    have := H ds [] 0 S h0 (fun i x acc S hx hI => by
      have := hs i x acc S hx (by rwa [Nat.zero_add] at hI)
      rwa [Nat.zero_add])
    rwa [Nat.zero_add] at this
  intro ds
  induction ds with
  | nil => intro acc n S h0 _; exact ⟨acc, S, compM_nil trivial, h0⟩
  | cons x ds ih =>
    intro acc n S h0 hs
    obtain ⟨δ', S1, k, S2, h1, h2, h3, h4⟩ := hs 0 x acc S rfl h0
    rw [compM_cons trivial, h1]
    simp only [R.quiet_ok, R.bind_ok, h2]
    rw [List.length_cons, show n + (ds.length + 1) = n + 1 + ds.length by omega]
    have hs' : ∀ (i : Nat) x acc S, ds[i]? = some x → I (n + 1 + i) acc S → ∃ δ' S1 k S2, g x δ S = .ok δ' S1 ∧ t δ' S1 = .ok k S2 ∧ (k = true → ∃ y S3, e δ' S2 = .ok y S3 ∧ I (n + 1 + i + 1) (acc ++ [y]) S3) ∧ (k = false → I (n + 1 + i + 1) acc S2) := fun i y acc S hy hI => by
      have := hs (i + 1) y acc S (by simpa using hy) (by rwa [show n + (i + 1) = n + 1 + i by omega])
      rwa [show n + (i + 1) + 1 = n + 1 + i + 1 by omega] at this
    cases k with
    | true =>
      obtain ⟨y, S3, h5, h6⟩ := h3 rfl
      rw [if_pos rfl, h5]
      simp only [R.quiet_ok, R.bind_ok]
      exact ih _ (n + 1) S3 h6 hs'
    | false =>
      rw [if_neg Bool.false_ne_true]
      exact ih _ (n + 1) S2 (h4 rfl) hs'
theorem labs_at {ls : List Str} (h : ls.length = 4) {i : Int} (h0 : 0 ≤ i) (h1 : i < 4) : ∃ l ∈ ls, ∀ S, opIx (.lst (ls.map .str)) (.int i) S = .ok (.str l) S := opIx_map h0 (by omega)
end PM

/-! PM, part 23: dicts that are filled, the values of kinds -/
namespace PM
open PySem L2
section
variable {S : Sto} {m : Nat} {ks : List Key} {ds : List D} {l : Str} {d : D}
theorem opSet_new (h : S[m]? = some (.dK ks ds)) (hl : ks.length < sizeLine) (hn : Sum.inr l ∉ ks) : opSet (.ref m) (.str l) d S = .ok () (S.set m (.dK (ks ++ [.inr l]) (ds ++ [d]))) := by
  simp only [opSet, h, keyOf, if_pos hl, insK_new hn, insD_new hn]
theorem dget_ref (h : S[m]? = some (.dK ks ds)) : dget S (.ref m) (.str l) = some (getK ks ds (.inr l)) := by
  simp only [dget, dkOf, h, keyOf]
theorem opIx_dK (h : S[m]? = some (.dK ks ds)) (hg : getK ks ds (.inr l) = some d) : opIx (.ref m) (.str l) S = .ok d S := by
  simp only [opIx, dget_ref h, hg]
theorem opNotIn_dK (h : S[m]? = some (.dK ks ds)) : opNotIn (.str l) (.ref m) S = .ok (.bl (!(getK ks ds (.inr l)).isSome)) S := by
  simp only [opNotIn, inDa, dget_ref h]
theorem cListK_inr {ls : List Str} (h : S[m]? = some (.dK (ls.map .inr) ds)) (hl : ∀ l ∈ ls, IsLab l) : cListK [.ref m] S = .ok (.lst (ls.map .str)) S := by
  have hc : (ls.map (Sum.inr : Str → Key)).all keyFit = true := by
    rw [List.all_map, List.all_eq_true]
    intro x hx
    have := (hl x hx).2.2
    exact decide_eq_true (Nat.le_trans (Nat.le_trans this (by decide)) szl)
  simp only [cListK, h, hc, if_pos, List.map_map]
  rfl
end
theorem lkp_none : ∀ {ls : List Str} {vs : List Vl} {l : Str}, ls.length = vs.length → (lkp ls vs l = none ↔ l ∉ ls)
  | [], [], l, _ => by simp [lkp]
  | x :: ls, v :: vs, l, h => by
    simp only [lkp]
    split
    · rename_i e; simp [e]
    · rename_i e
      rw [lkp_none (by simpa using h)]
      have : ¬ l = x := fun q => e q.symm
      simp [this]
theorem lkp_map (f : Str → Vl) : ∀ {ls : List Str} {l : Str}, l ∈ ls → lkp ls (ls.map f) l = some (f l)
  | x :: ls, l, h => by
    simp only [List.map_cons, lkp]
    split
    · rename_i e; rw [e]
    · rename_i e
      rcases List.mem_cons.mp h with h | h
      · exact absurd h.symm e
      · exact lkp_map f h
theorem lkp_get : ∀ {ls : List Str} {vs : List Vl} {j : Nat} {l : Str} {v : Vl}, ls.Nodup → ls[j]? = some l → vs[j]? = some v → lkp ls vs l = some v
  | x :: ls, w :: vs, 0, l, v, _, h1, h2 => by
    simp only [List.getElem?_cons_zero, Option.some.injEq] at h1 h2
    simp only [lkp, h1, h2, if_pos]
  | x :: ls, w :: vs, j + 1, l, v, hn, h1, h2 => by
    simp only [List.getElem?_cons_succ] at h1 h2
    have hx : x ≠ l := fun e => by
      have := (List.nodup_cons.mp hn).1
      rw [e] at this
      exact this (List.mem_of_getElem? h1)
    simp only [lkp, if_neg hx]
    exact lkp_get (List.nodup_cons.mp hn).2 h1 h2
  | [], _, j, _, _, _, h1, _ => by simp at h1
  | _ :: _, [], j, _, _, _, _, h2 => by simp at h2
theorem isBs_of {ls' : List Str} {vs' : List Vl} : ∀ {ls : List Str} {ks : List K}, (∀ (j : Nat) l k, ls[j]? = some l → ks[j]? = some k → ∃ v, lkp ls' vs' l = some v ∧ isB k v = true) → isBs ls ks ls' vs' = true
  | [], _, _ => by rw [isBs]; intros; contradiction
  | _ :: _, [], _ => by rw [isBs]; intros; contradiction
  | l :: ls, k :: ks, h => by
    obtain ⟨v, h1, h2⟩ := h 0 l k rfl rfl
    rw [isBs, h1]
    simp only [h2, Bool.true_and]
    exact isBs_of fun j l k h1 h2 => h (j + 1) l k (by simpa using h1) (by simpa using h2)
theorem WV.more {m m' d : Nat} {v : Vl} (hm : m ≤ m') (h : WV m d v) : WV m' d v := by
  induction h with
  | num => exact .num
  | rc h1 h2 h3 h4 h5 ih => exact .rc h1 (by omega) h3 h4 ih
theorem vds_app (a b : List Vl) : vds (a ++ b) = vds a ++ vds b := by simp [vds_map]
theorem isLab_z : IsLab (Str.ofString "zzzzzzzz") := lab_known (by decide +kernel) (by decide +kernel) (by decide +kernel)
theorem isLab_a : IsLab (Str.ofString "a") := lab_known (by decide +kernel) (by decide +kernel) (by decide +kernel)
theorem vd_cl {m d n : Nat} {v : Vl} (h : WV m d v) : D.cl n (vd v) = true := by
  induction h with
  | num => rfl
  | rc h1 h2 h3 h4 h5 ih =>
    rename_i d ls vs
    simp only [vd, D.cl]
    refine cls_all fun x hx => ?_
    obtain ⟨l, y, e, _, hy⟩ := mem_fldD hx
    rw [vds_map] at hy
    obtain ⟨b, hb, e'⟩ := List.mem_map.mp hy
    subst e e'
    simp only [D.cl, D.cls, ih b hb]; rfl
/-- the values by the sorted labels -/
def valOf (fl : List Str) (fv : List Vl) (l : Str) : Vl := (lkp fl fv l).getD (.num 0)
def sortV (fl : List Str) (fv : List Vl) : Vl := .rc (sortStr fl) ((sortStr fl).map (valOf fl fv))
theorem lkp_some {fl : List Str} {fv : List Vl} {l : Str} (h : fl.length = fv.length) (hl : l ∈ fl) : lkp fl fv l = some (valOf fl fv l) := by
  unfold valOf
  cases e : lkp fl fv l with
  | none => exact absurd hl ((lkp_none h).mp e)
  | some v => rfl
theorem sortV_wv {m d : Nat} {fl : List Str} {fv : List Vl} (h : fl.length = fv.length) (hm : fv.length ≤ m) (hn : fl.Nodup) (hl : ∀ l ∈ fl, IsLab l) (hv : ∀ v ∈ fv, WV m d v) : WV m (d + 1) (sortV fl fv) := by
  refine .rc (by simp) ?_ ((sortStr_perm fl).nodup_iff.mpr hn) (fun l hx => hl l ((sortStr_perm fl).mem_iff.mp hx)) fun v hx => ?_
  · rw [List.length_map, (sortStr_perm fl).length_eq, h]; exact hm
  · obtain ⟨l, hl, e⟩ := List.mem_map.mp hx
    subst e
    exact hv _ (lkp_mem (lkp_some h ((sortStr_perm fl).mem_iff.mp hl)))
theorem sortV_vd (fl : List Str) (fv : List Vl) : vd (sortV fl fv) = .tup ((sortStr fl).map fun l => .tup [.str l, vd (valOf fl fv l)]) := by
  simp only [sortV, vd, vds_map, List.map_map, fldD]
  congr 1
  generalize sortStr fl = xs
  induction xs with
  | nil => rfl
  | cons x xs ih => simp only [List.map_cons, List.zipWith_cons_cons, ih]; rfl
theorem sortV_lkp {fl : List Str} {fv : List Vl} {l : Str} (h : fl.length = fv.length) (hl : l ∈ fl) : lkp (sortStr fl) ((sortStr fl).map (valOf fl fv)) l = lkp fl fv l := by
  rw [lkp_map _ ((sortStr_perm fl).mem_iff.mpr hl), lkp_some h hl]
end PM

/-! PM, part 24: values bent -/
namespace PM
open PySem L2
@[simp] theorem newLst_5 {S : Sto} {a b c d e : D} : newLst [a, b, c, d, e] S = .ok (.lst [a, b, c, d, e]) S := newLst_ok (by show 5 ≤ sizeLine; exact Nat.le_trans (by decide) szl)
theorem pl_vd {m d : Nat} {v : Vl} (h : WV m d v) : pl (2 * d) (vd v) = true := by
  induction h with
  | num => rename_i d n; cases h : 2 * (d + 1) <;> rfl
  | rc h1 h2 h3 h4 h5 ih =>
    rename_i d ls vs
    rw [show 2 * (d + 1) = (2 * d + 1) + 1 by omega]
    simp only [vd, pl]
    refine pl_all fun x hx => ?_
    obtain ⟨l, y, e, hl, hy⟩ := mem_fldD hx
    rw [vds_map] at hy
    obtain ⟨b, hb, e'⟩ := List.mem_map.mp hy
    subst e e'
    simp only [pl, List.all_cons, List.all_nil, Bool.and_true, Bool.and_eq_true]
    exact ⟨(h4 l hl).ok, ih b hb⟩
theorem eqD_tup_nil {S : Sto} {n : Nat} {ds : List D} (h : pl n (.tup ds) = true) (hn : n ≤ 64) : eqD S (.tup ds) (.tup []) = some (decide (ds = [])) := by
  obtain ⟨n, rfl⟩ : ∃ m, n = m + 1 := by cases n with
    | zero => cases h
    | succ n => exact ⟨n, rfl⟩
  obtain ⟨es, h1, h2, h3⟩ := tpl_of (fun d => pl_tp d) ds h
  have e1 : tpd S (.tup ds) = some (.tuple es) := by simp only [tpd, tp, h1]; rfl
  have e2 : tpd S (.tup []) = some (.tuple []) := rfl
  have h4 : PyData.canLay0 (.tuple es) = true := h2
  have h5 : (PyData.tuple es).depth ≤ n + 1 := by simp only [PyData.depth]; omega
  unfold eqD
  simp only [scalD, e1, e2]
  rw [if_pos ⟨shaped_of h4 h5 hn, by decide⟩]
  cases ds with
  | nil =>
    have := h1 (fun _ => none) S
    simp only [tps, Option.some.injEq] at this
    subst this; rfl
  | cons d ds =>
    have := h1 (fun _ => none) S
    simp only [tps] at this
    cases h6 : tp (fun _ => none) S d with
    | none => rw [h6] at this; cases this
    | some e =>
      rw [h6, Option.bind_some, Option.map_eq_some_iff] at this
      obtain ⟨es', _, e'⟩ := this
      subst e'
      rfl
theorem cDictR_lst {S : Sto} {ls : List Str} {ds : List D} (h : ls.length = ds.length) (hn : ls.Nodup) : cDictR [.lst (fldD ls ds)] S = .ok (.ref S.length) (S ++ [.dK (ls.map .inr) ds]) := by
  have e : itP S (.lst (fldD ls ds)) = some ((ls.map Sum.inr).zip ds) := by
    simp only [itP, rdL, asL, Option.bind_some]; exact pairsD_fld h
  have e2 := mergeD_new (ks := []) (ks2 := ls.map Sum.inr) (ds := []) (ds2 := ds) (by simpa using nodup_inr hn) (by simpa using h)
  simp only [cDictR, e, e2, List.nil_append]
theorem fld_zip {ls : List Str} {vs : List Vl} (h : ls.length = vs.length) : fldD ls (vds vs) = (ls.zip vs).map fun p => .tup [.str p.1, vd p.2] := by
  rw [fldD, vds_map, List.zipWith_map_right, List.zip, List.map_zipWith]
theorem fld_of_zip (ps : List (Str × Vl)) : ps.map (fun p => D.tup [.str p.1, vd p.2]) = fldD (ps.map (·.1)) (vds (ps.map (·.2))) := by
  induction ps with
  | nil => rfl
  | cons p ps ih => simp only [List.map_cons, vds, fldD_cons, ih]
theorem fldD_cut {ls : List Str} {vs : List Vl} {i : Nat} {l : Str} {v w : Vl} (h : ls.length = vs.length) (h1 : ls[i]? = some l) (h2 : vs[i]? = some v) :
    (fldD ls (vds vs)).take i ++ [.tup [.str l, vd w]] ++ (fldD ls (vds vs)).drop (i + 1) = fldD ls (vds (vs.set i w)) := by
  induction ls generalizing vs i with
  | nil => cases h1
  | cons x ls ih =>
    cases vs with
    | nil => cases h2
    | cons y vs =>
      cases i with
      | zero =>
        simp only [List.getElem?_cons_zero, Option.some.injEq] at h1 h2
        subst h1 h2
        simp [vds, fldD_cons]
      | succ i =>
        simp only [List.getElem?_cons_succ] at h1 h2
        have := ih (by simpa using h) h1 h2
        simp only [vds, fldD_cons, List.take_succ_cons, List.cons_append, List.drop_succ_cons, List.set_cons_succ, this]
theorem loopT_nil {b : D → Sm} {δ : Loc} {S : Sto} : loopM (fun _ => True) b [] δ S = .nx δ S := by rw [loopM, if_pos trivial]
theorem loopT_cons {b : D → Sm} {x : D} {xs : List D} {δ : Loc} {S : Sto} : loopM (fun _ => True) b (x :: xs) δ S = match b x δ S with
    | .nx δ' S' => loopM (fun _ => True) b xs δ' S'
    | .ct δ' S' => loopM (fun _ => True) b xs δ' S'
    | .bk δ' S' => .nx δ' S'
    | r => r := by rw [loopM, if_pos trivial] <;> rfl
end PM

/-! PM, part 25: len(set(texts)) -/
namespace PM
open PySem PySem.Spec L2 PyProof.Rows
/-- how many different ones among the first i -/
def ndist (zs : List Str) : Nat → Nat
  | 0 => 0
  | i + 1 => if (zs.take i).any (· == zs.getD i Str.empty) then ndist zs i else ndist zs i + 1
theorem ndist_le (zs : List Str) : ∀ i, ndist zs i ≤ i
  | 0 => Nat.le_refl _
  | i + 1 => by
    have := ndist_le zs i
    unfold ndist; split <;> omega
def memT (zs : List Str) (i : Nat) : Str → Bool := fun z => (zs.take i).any (· == z)
theorem memT_succ (zs : List Str) {i : Nat} (h : i < zs.length) (z : Str) : (memT zs i z || decide (z = zs.getD i Str.empty)) = memT zs (i + 1) z := by
  have e : zs.take (i + 1) = zs.take i ++ [zs.getD i Str.empty] := by
    rw [List.take_add_one, List.getElem?_eq_getElem h, List.getD_eq_getElem?_getD, List.getElem?_eq_getElem h]; rfl
  unfold memT
  rw [e, List.any_append]
  simp only [List.any_cons, List.any_nil, Bool.or_false]
  congr 1
  by_cases q : z = zs.getD i Str.empty
  · rw [q]; simp
  · rw [decide_eq_false q]
    exact (beq_eq_false_iff_ne.mpr fun e => q e.symm).symm
section
variable {pr : Program} {wd : World} {B : Around} {R : Result → Shared → Prop} {it : Addr} {fp wr : List Addr} {Gn : Array GenState → Array GenState → Prop} {m : Nat} {Pi : Nat → Value → Prop} {Si : Nat → Shared → Prop}
theorem set_loop (W : WalksS pr wd B.in1 it fp wr Gn m Pi Si) {d : Addr} (hd : d ∉ fp) {zs : List Str} (hz : zs.length = m) (hb : m + 1 < scanBound) (hv : ∀ i v, Pi i v → ∃ t, v = .str (zs.getD i Str.empty) t) :
    ∀ (j i : Nat) (u : Shared), i + j = m → Si i u → u.heap.SetOf (PySem.strKind pr wd) d (memT zs i) (ndist zs i) →
      (∀ u', Moved (d :: wr) Gn u u' → u'.heap.SetOf (PySem.strKind pr wd) d (memT zs m) (ndist zs m) → R (.ok (.ret .none)) u') → codeAny (model pr wd) B (.builtin "set.update.loop" ⟨[.ref d, .ref it], []⟩) R u := by
  have nw : d ∉ wr := fun z => hd (W.sub _ z)
  have le : ∀ b ∈ wr, b ∈ d :: wr := fun b z => List.mem_cons_of_mem _ z
  have mv : ∀ {u u' : Shared} {S n}, u.heap.SetOf (PySem.strKind pr wd) d S n → Moved wr Gn u u' → u'.heap.SetOf (PySem.strKind pr wd) d S n := fun k q => let ⟨o, es, ep, t, ho, r⟩ := k; ⟨o, es, ep, t, q.heap d _ nw ho, r⟩
  intro j
  induction j with
  | zero =>
    intro i u hi st k fin
    obtain rfl : i = m := hi
    refine codeAny_builtin PyProof.Rows.F.entry_set_update_loop (by
      rw [Around.under_plainId PyProof.Rows.F.plain_set_update_loop _]
      exact wpAny_bind (W.done u _ _ st fun u' q => wpAny_pure (fin u' (q.mono le) (mv k q))))
  | succ j ih =>
    intro i u hi st k fin
    have lt : i < m := by omega
    refine codeAny_builtin PyProof.Rows.F.entry_set_update_loop ?_
    rw [Around.under_plainId PyProof.Rows.F.plain_set_update_loop _]
    refine wpAny_bind (m := pyNext (.ref it)) (W.item i u _ _ lt st fun v u' hP st' q => ?_)
    obtain ⟨t, rfl⟩ := hv i v hP
    refine wpAny_bind (m := holding [Value.str (zs.getD i Str.empty) t] (setAdd d (.str (zs.getD i Str.empty) t))) (wpAny_holding ?_)
    unfold setAdd
    refine wpAny_holding (wpAny_bind ((PySem.strKind pr wd).pyHash (k := zs.getD i Str.empty) (strKind_is _ _ _ _) ?_))
    have := ndist_le zs i
    refine wpAny_setAddHashed_of (knd := PySem.strKind pr wd) (s := { u' with toks := u'.toks + 1 }) (strKind_is _ _ _ _) rfl (show u'.heap.SetOf _ _ _ _ from mv k q) (by omega) fun h' sb k2 => ?_
    have k3 : h'.SetOf (PySem.strKind pr wd) d (memT zs (i + 1)) (ndist zs (i + 1)) := PyProof.Rows.SetOf_congr k2 (memT_succ zs (by omega)) rfl
    refine wpAny_pure ⟨plainId_quiet PyProof.Rows.F.plain_set_update_loop _, ih (i + 1) _ (by omega) (W.frame _ u' _ _ st' (Nat.le_succ _) fun b z o e => (sb.2 b fun y => hd (y ▸ z)).trans e) k3 fun u'' q2 k4 => fin u'' ?_ k4⟩
    exact Moved.trans W.gtrans ((q.mono le).then_heap (Nat.le_succ _) fun b o z e => (sb.2 b fun y => z (y ▸ List.mem_cons_self)).trans e) q2
end
section
variable {prog : Program} {w : World} {A : Around} {E : Value → Shared → Prop} {s : Shared}
set_option maxHeartbeats 3200000 in
theorem set_of_texts {l : Addr} {its : Array Value} {zs : List Str} {Q : Value → Shared → Prop} (hA : A.handled = none) (hl : s.heap.IsList l its) (hi : StrsAre its.toList zs) (hb : zs.length + 1 < scanBound)
    (fin : ∀ (h' : Heap) (tk : Nat), h'.SetOf (PySem.strKind prog w) s.heap.objs.size (memT zs zs.length) (ndist zs zs.length) → (∀ b o, b < s.heap.objs.size → s.heap.get? b = some o → h'.get? b = some o) → Q (.ref s.heap.objs.size) { s with heap := h', toks := tk }) :
    wpAny (model prog w) A (call (.type "set") [.ref l]) Q E s := by
  have mro := PySem.F.called_set.mro
  obtain ⟨_, _, mro⟩ := mro
  have made := PySem.F.called_set.made
  have sub := PySem.F.called_set.sub
  refine wpAny_call (codeAny_of_tree (show wpAny _ _ (callAny (.type "set") _) _ _ _ from wpAny_pure ⟨Code.quiet_builtin _ (by decide +kernel), codeAny_builtin PySem.F.entry_type_call ?_⟩))
  rw [Around.under_plain (weight_type_call_type "set" [.ref l] []) rfl]
  have nt := PySem.F.called_set.notType
  have cc := PySem.F.called_set.canCreate
  have tc := PySem.F.typeCall_set_1 (.ref l)
  repeat any_goals (first | assumption | wp_step)
  refine codeAny_mono (code_set_new_1 (.ref l) (E := E) (Q₁ := fun ob s1 => ∃ f : Bool, ob = .ref s.heap.objs.size ∧ s1 = { s with heap := s.heap.push { cls := .type "set", dict := none, data := .set #[] 0 (.fresh 0 0 f) } }) fun f => ⟨f, rfl, rfl⟩) fun r s1 hr => ?_
  rcases r with ⟨e⟩ | ⟨fl⟩
  · exact hr
  cases fl
  case ret ob =>
    obtain ⟨f, e1, e2⟩ := hr
    subst e1 e2
    generalize hN : s.heap.push { cls := .type "set", dict := none, data := .set #[] 0 (.fresh 0 0 f) } = N
    have gN : N.get? s.heap.objs.size = some { cls := .type "set", dict := none, data := .set #[] 0 (.fresh 0 0 f) } := by rw [← hN]; exact Heap.get?_push_size _ rfl
    have old : ∀ b o, s.heap.get? b = some o → N.get? b = some o := fun b o e => by rw [← hN]; exact Heap.get?_push_of_some _ e
    have sN : N.objs.size = s.heap.objs.size + 1 := by rw [← hN, Heap.size_push]
    have ty : Shared.TypeIs { s with heap := N } (.ref s.heap.objs.size) "set" := ⟨_, gN, rfl⟩
    have il := PySem.F.called_set.init.lookup
    have ib := PySem.F.called_set.init.bind (.ref s.heap.objs.size)
    repeat any_goals (first | assumption | wp_step)
    refine codeAny_mono (codeAny_call_builtin (R := wants (fun r s2 => r = .none ∧ ∃ h' tk, s2 = { s with heap := h', toks := tk } ∧ h'.SetOf (PySem.strKind prog w) s.heap.objs.size (memT zs zs.length) (ndist zs zs.length) ∧
      (∀ b o, b < s.heap.objs.size → s.heap.get? b = some o → h'.get? b = some o)) E) PySem.F.called_set.init.plain PySem.F.entry_set_init (check_set_init_1 ty ?_)) fun r2 s2 hr2 => ?_
    · obtain ⟨⟨cl, dd, dat, sl⟩, ho, hc, n, hdat⟩ := id hl
      simp only at hc hdat
      subst hc hdat
      have ho2 := old _ _ ho
      have sb1 := PySem.F.sub_list_set
      have sb2 := PySem.F.sub_list_frozenset
      have nd : (Value.type "list" == Value.type "dict") = false := by decide
      have hl2 : N.IsList l its := ⟨_, ho2, rfl, n, rfl⟩
      unfold Builtin.«set.__init__» noKeywords Builtin.Frozenset.updateFrom
      generalize hPI : pyIter = PI
      wp_walk
      subst hPI
      refine wpAny_pyIter_list hl2 (wpAny_bind (wpAny_runValue ?_))
      have lt : l < s.heap.objs.size := Heap.lt_size ho
      have ne : l ≠ N.objs.size := fun e => Nat.ne_of_lt (Nat.lt_succ_of_lt lt) (e.trans sN)
      have hz : zs.length = its.size := by rw [← StrsAre.len_eq hi, Array.length_toList]
      refine set_loop ((Walks.list (by simp [hA]) _ l ne its).toS) (d := s.heap.objs.size) (by simp only [List.mem_cons, List.mem_singleton, List.not_mem_nil, or_false, not_or]; exact ⟨fun e => Nat.ne_of_lt (Nat.lt_succ_self _) (e.trans sN), Nat.ne_of_gt lt⟩) hz (by rw [← hz]; exact hb)
        (fun i v hv => SS.strs_at hi i v (by rw [Array.getElem?_toList]; exact hv)) its.size 0 _ (by omega) ⟨⟨_, Heap.get?_push_size _ rfl, rfl, rfl⟩, hl2.push _⟩ ?beginS ?endS
      case beginS => exact PyProof.Rows.SetOf_congr ((PyProof.Rows.setObjOf_fresh (knd := PySem.strKind prog w) f).setOf (Heap.get?_push_of_some _ gN) (by unfold scanBound; omega)) (fun _ => rfl) rfl
      case endS =>
        intro u mv k
        rw [← hz] at k
        obtain ⟨h', g', d', tk', os'⟩ := u
        have eg : g' = s.gens := mv.gens
        have ed : d' = s.drawn := mv.drawn
        have eo : os' = s.os := mv.os
        subst eg ed eo
        refine wpAny_pure (wpAny_pure ⟨rfl, h', tk', rfl, k, fun b o hb e => mv.heap b o ?_ (Heap.get?_push_of_some _ (old b o e))⟩)
        simp only [List.mem_cons, List.mem_singleton, List.not_mem_nil, or_false, not_or]
        exact ⟨Nat.ne_of_lt hb, fun e => Nat.ne_of_lt (Nat.lt_succ_of_lt hb) (e.trans sN)⟩
    · rcases r2 with ⟨e⟩ | ⟨fl⟩
      · exact hr2
      cases fl
      case ret r =>
        obtain ⟨e1, h', tk, e2, k, old2⟩ := hr2
        subst e1 e2
        repeat any_goals (first | assumption | wp_step)
        exact fin _ _ k old2
      all_goals exact hr2.elim
  all_goals exact hr.elim
end
section
variable {X : Cx}
theorem pe_lenSetT {a : Expr} {ta : TE} {p p2 q pos : Pos} (hc : X.calm = true) (hg : Gl X "len") (hm : X.mg "len" = none) (hg2 : Gl X "set") (hm2 : X.mg "set" = none) (ha : PE X a ta)
    (na : starEach [a] X.env = (false, eval a X.env) :: starEach [] X.env := by rfl) : PE X (.Call (.Name "len" p) [.Call (.Name "set" p2) [a] [] q] [] pos)
      (fun σ H Q => ta σ H fun x H1 => ∃ (l : Addr) (zs : List Str), x = .ref l ∧ SqL X.K H1 l (zs.map V.str) ∧ zs.length ≤ 4000 ∧ Q (.int (ndist zs zs.length : Nat)) H1) := .mk fun pins s σ H Q I h => by
  refine Call_ (ld_blt I hg hm boot_len (PyProof.Rows.callWith_builtin1 (PyProof.Rows.args_cons ?_ rfl) rfl rfl))
  refine Call_ (ld_blt I hg2 hm2 boot_set (PyProof.Rows.callWith_type1 (PyProof.Rows.args_cons (thn (ha.run pins s σ H _ I h) fun v s1 ⟨x, H1, I1, r1, l, zs, e, hq, hl, q1⟩ => PyProof.Rows.args_nil ?_) na) na rfl))
  subst e
  cases r1
  obtain ⟨is, r, pl, hz⟩ := I1.list hq
  refine set_of_texts (I1.ok.hd hc) pl.isList (zs := zs) (by simpa using strsAre_of r) (by unfold scanBound; omega) fun h' tk k old => PyProof.Rows.args_nil ?_
  obtain ⟨o, es, ep, t, ho, hex, hd, _, _, _, hf, hn⟩ := k
  have I2 : Inv X pins σ H1 { s1 with heap := h', toks := tk } := I1.kept fun b o e => old b o (Heap.lt_size e) e
  have := ndist_le zs zs.length
  exact call_len_set ho hex hd hf (by rw [hn]; omega) ⟨.int (ndist zs zs.length : Nat), H1, I2.tok _, ⟨_, by rw [hn]⟩, q1⟩
end
/-- len(set(e)) of texts -/
def mLenSet (a : Em) : Em := fun δ S => (a δ S).bind fun d S1 => match rdL S1 d with
  | some es => match strsOf es with
    | some zs => if zs.length ≤ 4000 then .ok (.int (ndist zs zs.length : Nat)) S1 else .stuck
    | none => .stuck
  | none => .stuck
theorem de_lenSet {X : Cx} {W : WX} {a : Expr} {ma : Em} {p p2 q pos : Pos} (hc : X.calm = true) (hg : Gl X "len") (hm : X.mg "len" = none) (hg2 : Gl X "set") (hm2 : X.mg "set" = none) (ha : DE X W a ma)
    (na : starEach [a] X.env = (false, eval a X.env) :: starEach [] X.env := by rfl) : DE X W (.Call (.Name "len" p) [.Call (.Name "set" p2) [a] [] q] [] pos) (mLenSet ma) :=
  pe_imp (pe_lenSetT hc hg hm hg2 hm2 ha na) fun σ H Q h => t_bind h fun ι S δ d v H1 rp rs rd g => by
    split at g
    · rename_i es hes
      obtain ⟨a, vs, e, hq, h2, z⟩ := rdL_ok rp rd hes
      subst e
      split at g
      · rename_i zs hzs
        split at g
        · rename_i hl
          have ev := strsOf_ok h2 hzs
          subst ev
          exact ⟨a, zs, rfl, hq, hl, g.here rp (by simp only [RD])⟩
        · exact g.elim
      · exact g.elim
    · exact g.elim
end PM

/-! PM, part 26: {i: j} -/
namespace PM
open PySem PySem.Spec L2 PyProof.Rows
section
variable {X : Cx} {W : WX} {pos : Pos}
def mDispI (i j : Int) : Em := fun _ S => .ok (.ref S.length) (S ++ [.dK [.inl i] [.int j]])
@[simp] theorem mDispI_eq {i j : Int} {δ : PM.Loc} {S : Sto} : mDispI i j δ S = .ok (.ref S.length) (S ++ [.dK [.inl i] [.int j]]) := (rfl)
theorem pe_negC {a : Expr} {i : Int} (h : PE X a (tC (.int i))) : PE X (.UnaryOp .USub a pos) (tC (.int (-i))) := pe_imp (pe_un un_neg h) fun σ H Q q => ⟨i, rfl, q⟩
theorem de_dispI {k v : Expr} {i j : Int} (hk : PE X k (tC (.int i))) (hv : PE X v (tC (.int j))) : DE X W (.Dict [some k] [v] pos) (mDispI i j) :=
  pe_imp (pe_disp (pps_cons hk hv pps_nil) rfl rfl (by simp) (by simp)) fun σ H Q ⟨ι, S, δ, rp, rs, g⟩ p hp => by
    have q2 := rep_newRef (m := .dK [.inl i] [.int j]) (u := .dK [(.inl i, .int j)]) rp hp ⟨[.int j], upd_same, rfl, by show 1 ≤ sizeLine; exact Nat.le_trans (by decide) szl, .cons (by simp only [RD]) .nil⟩
    refine ⟨upd_same, [(.inl i, .int j)], rfl, by simp, ?_⟩
    rw [upd_upd]
    exact G.at g (Step.newRef hp) q2.1 q2.2
end
end PM

/-! PM, part 27: things, and what a kind is (plain) -/
namespace PM
open PySem L2
/-- plain things of a depth, of bounded width -/
def th : Nat → D → Bool
  | _, .non => true
  | _, .bl _ => true
  | _, .int _ => true
  | _, .str s => PyData.strOk s && decide (s.length ≤ 1000)
  | n + 1, .tup ds => decide (ds.length ≤ 1000) && ds.all (th n)
  | n + 1, .lst ds => decide (ds.length ≤ 1000) && ds.all (th n)
  | _, _ => false
theorem blsOf_map {α : Type} (f : α → Bool) : ∀ xs : List α, blsOf (xs.map fun x => D.bl (f x)) = some (xs.map f)
  | [] => rfl
  | x :: xs => by simp only [List.map_cons, blsOf, blsOf_map f xs]; rfl
theorem cAll_map {α : Type} {S : Sto} (f : α → Bool) (xs : List α) : cAll [.lst (xs.map fun x => D.bl (f x))] S = .ok (.bl (xs.all f)) S := by
  simp only [cAll, cBls, rdL, asL, blsOf_map, List.all_map]
  rfl
def alphaS : Str := Str.ofString "abcdefghijklmnopqrstuvwxyz"
def azS (s : Str) : Bool := s.cps.toList.all fun c => decide (c ∈ alphaS.cps.toList)
def isWordD : D → Bool
  | .str s => decide (1 ≤ s.length) && (decide (s.length ≤ 8) && azS s)
  | _ => false
theorem opIn_sign {S : Sto} {c : Nat} {z : Str} : opIn (.str ⟨#[c]⟩) (.str z) S = .ok (.bl (decide (c ∈ z.cps.toList))) S := by
  simp only [opIn, inDa]
def isPairD : D → Bool
  | .tup [a, _] => isWordD a
  | _ => false
def isWholeD : D → Bool
  | .int _ => true
  | _ => false
def isRestD : D → Bool
  | .non => true
  | .int i => decide (0 ≤ i)
  | _ => false
def labD : D → Str
  | .tup (.str s :: _) => s
  | _ => Str.empty
def sndD : D → D
  | .tup [_, b] => b
  | _ => .non
/-- rising labels, as told by sorted and set -/
def ascS (ls : List Str) : Bool := decide (ls = sortStr ls) && decide (ndist ls ls.length = ls.length)
def rowIn (f : D → Bool) : D → Bool
  | .tup ps => ps.all isPairD && (ascS (ps.map labD) && ps.all fun p => f (sndD p))
  | _ => false
def blankIn : List D → Bool
  | [.int i] => decide (0 ≤ i)
  | _ => false
def recIn (f : D → Bool) : List D → Bool
  | [fs, r] => isRestD r && rowIn f fs
  | _ => false
def kindIn : Nat → D → Bool
  | n + 1, .tup (.str s :: r) => if s = Str.ofString "number" then r.isEmpty else if s = Str.ofString "blank" then blankIn r else decide (s = Str.ofString "record") && recIn (kindIn n) r
  | _, _ => false
theorem az_iff {s : Str} : azS s = true ↔ ∀ x ∈ s.cps.toList, 97 ≤ x ∧ x < 123 := by
  unfold azS
  rw [List.all_eq_true]
  have : ∀ c, c ∈ alphaS.cps.toList ↔ 97 ≤ c ∧ c < 123 := fun c => by
    rw [show alphaS.cps.toList = List.range' 97 26 from alpha_cps, List.mem_range'_1]
  constructor
  · intro h x hx; exact (this x).mp (of_decide_eq_true (h x hx))
  · intro h x hx; exact decide_eq_true ((this x).mpr (h x hx))
theorem word_lab {s : Str} : isWordD (.str s) = true ↔ IsLab s := by
  simp only [isWordD, Bool.and_eq_true, decide_eq_true_eq, az_iff, IsLab]
  constructor
  · rintro ⟨a, b, c⟩; exact ⟨c, a, b⟩
  · rintro ⟨c, a, b⟩; exact ⟨a, b, c⟩
theorem pair_is {d : D} (h : isPairD d = true) : ∃ s b, d = .tup [.str s, b] ∧ IsLab s := by
  unfold isPairD at h
  split at h
  · rename_i a b
    cases a <;> first
      | (cases h; done)
      | exact ⟨_, b, rfl, word_lab.mp h⟩
  · cases h
theorem eqD_w {S : Sto} {a b : List Str} (ha : WOk a) (hb : WOk b) : eqD S (.lst (a.map .str)) (.lst (b.map .str)) = some (decide (a = b)) := by
  have h1 := tpd_w (S := S) a
  have h2 := tpd_w (S := S) b
  unfold wD at h1 h2
  unfold eqD
  simp only [scalD, h1, h2, sh_w ha, sh_w hb, and_self, if_true, PyData.eqv, eqv_strs]
theorem sort_wok {a : List Str} (h : WOk a) : WOk (sortStr a) := fun x hx => h x ((sortStr_perm a).mem_iff.mp hx)
theorem th_mono : ∀ {n m : Nat} (d : D), n ≤ m → th n d = true → th m d = true
  | n, m, .non, _, _ => by cases m <;> rfl
  | n, m, .bl _, _, _ => by cases m <;> rfl
  | n, m, .int _, _, _ => by cases m <;> rfl
  | n, m, .str _, _, h => by cases n <;> cases m <;> exact h
  | n + 1, m + 1, .tup ds, l, h => by
    simp only [th, Bool.and_eq_true, List.all_eq_true] at h ⊢
    exact ⟨h.1, fun d hd => th_mono d (by omega) (h.2 d hd)⟩
  | n + 1, m + 1, .lst ds, l, h => by
    simp only [th, Bool.and_eq_true, List.all_eq_true] at h ⊢
    exact ⟨h.1, fun d hd => th_mono d (by omega) (h.2 d hd)⟩
  | n + 1, 0, .tup ds, l, h => by omega
  | n + 1, 0, .lst ds, l, h => by omega
  | 0, _, .tup ds, _, h => by cases h
  | 0, _, .lst ds, _, h => by cases h
  | 0, _, .scr ds, _, h => by cases h
  | n + 1, _, .scr ds, _, h => by cases h
  | 0, _, .dct _ _, _, h => by cases h
  | 0, _, .ref _, _, h => by cases h
  | n + 1, _, .dct _ _, _, h => by cases h
  | n + 1, _, .ref _, _, h => by cases h
theorem th_pair {n : Nat} {a b : D} (h : th n (.tup [a, b]) = true) : th n a = true ∧ th n b = true := by
  cases n with
  | zero => cases h
  | succ n =>
    simp only [th, List.all_cons, List.all_nil, Bool.and_true, Bool.and_eq_true] at h
    exact ⟨th_mono _ (by omega) h.2.1, th_mono _ (by omega) h.2.2⟩
end PM

/-! PM, part 28: kinds that are kinds; their knots, their blanks (plain) -/
namespace PM
open PySem L2
inductive VK : Nat → K → Prop where
  | num {d} : VK (d + 1) .num
  | blk {d n} : 0 ≤ n → VK (d + 1) (.blk n)
  | rc {d ls ks r} : ls.length = ks.length → ascS ls = true → (∀ l ∈ ls, IsLab l) → (∀ k ∈ ks, VK d k) → (∀ i, r = some i → 0 ≤ i) → VK (d + 1) (.rc ls ks r)
theorem fld_kd {f : D → Bool} {ps : List D} (h1 : ∀ p ∈ ps, isPairD p = true) (h2 : ∀ p ∈ ps, f (sndD p) = true) {n : Nat} (h : ∀ d, f d = true → ∃ k, d = kd k ∧ VK n k) :
    ∃ ks, ps = fldD (ps.map labD) (kds ks) ∧ ks.length = ps.length ∧ (∀ k ∈ ks, VK n k) ∧ ∀ l ∈ ps.map labD, IsLab l := by
  induction ps with
  | nil => exact ⟨[], rfl, rfl, by simp, by simp⟩
  | cons p ps ih =>
    obtain ⟨ks, e, hl, hv, hw⟩ := ih (fun q hq => h1 q (by simp [hq])) (fun q hq => h2 q (by simp [hq]))
    obtain ⟨s, b, e2, hs⟩ := pair_is (h1 p (by simp))
    have h3 := h2 p (by simp)
    subst e2
    obtain ⟨k, ek, vk⟩ := h b h3
    subst ek
    refine ⟨k :: ks, ?_, by simp [hl], ?_, ?_⟩
    · rw [List.map_cons, kds, show labD (.tup [.str s, kd k]) = s from rfl, fldD_cons, ← e]
    · intro x hx
      rcases List.mem_cons.mp hx with hx | hx
      · rw [hx]; exact vk
      · exact hv x hx
    · intro x hx
      rw [List.map_cons] at hx
      rcases List.mem_cons.mp hx with hx | hx
      · rw [hx]; exact hs
      · exact hw x hx
theorem kindIn_kd : ∀ (n : Nat) {d : D}, kindIn n d = true → ∃ k, d = kd k ∧ VK n k := by
  intro n
  induction n with
  | zero => intro d h; cases d <;> cases h
  | succ n ih =>
    intro d h
    have hd : ∃ s r, d = .tup (.str s :: r) := by
      cases d with
      | tup ds =>
        cases ds with
        | nil => cases h
        | cons x r => cases x <;> first
          | (cases h; done)
          | exact ⟨_, r, rfl⟩
      | _ => cases h
    obtain ⟨s, r, e⟩ := hd
    subst e
    · rw [kindIn] at h
      split at h
      · rename_i c
        subst c
        cases r with
        | nil => exact ⟨.num, rfl, .num⟩
        | cons x r => cases h
      · split at h
        · rename_i c
          subst c
          unfold blankIn at h
          split at h
          · rename_i i
            exact ⟨.blk i, rfl, .blk (of_decide_eq_true h)⟩
          · cases h
        · rw [Bool.and_eq_true, decide_eq_true_eq] at h
          obtain ⟨c, h⟩ := h
          subst c
          unfold recIn at h
          split at h
          · rename_i fs rt
            rw [Bool.and_eq_true] at h
            obtain ⟨hr, h⟩ := h
            unfold rowIn at h
            split at h
            · rename_i ps
              rw [Bool.and_eq_true, Bool.and_eq_true] at h
              obtain ⟨h1, h2, h3⟩ := h
              obtain ⟨ks, e, hl, hv, hw⟩ := fld_kd (f := kindIn n) (List.all_eq_true.mp h1) (List.all_eq_true.mp h3) (fun d h => ih h)
              have e2 : ∃ r, rt = rD0 r ∧ ∀ i, r = some i → 0 ≤ i := by
                cases rt <;> first
                  | (cases hr; done)
                  | exact ⟨none, rfl, fun _ h => by cases h⟩
                  | exact ⟨some _, rfl, fun i h => by cases h; exact of_decide_eq_true hr⟩
              obtain ⟨r, e2, h4⟩ := e2
              subst e2
              refine ⟨.rc (ps.map labD) ks r, ?_, .rc (by rw [List.length_map, hl]) h2 hw hv h4⟩
              rw [kd, ← e]
            · cases h
          · cases h
/-! knots -/
mutual
def kn : K → Nat
  | .num => 1
  | .blk _ => 1
  | .rc _ ks _ => 1 + kns ks
def kns : List K → Nat
  | [] => 0
  | k :: ks => kn k + kns ks
end
theorem kns_sum : ∀ ks : List K, kns ks = (ks.map kn).sum
  | [] => rfl
  | k :: ks => by rw [kns, kns_sum ks, List.map_cons, List.sum_cons]
/-! blanks: their numbers, their labels -/
abbrev OL := Option (List Str)
abbrev Mp := List (Int × OL)
def restO (ls : List Str) : Option Int → Mp
  | some i => [(i, some ls)]
  | none => []
mutual
def occ : K → Mp
  | .num => []
  | .blk n => [(n, none)]
  | .rc ls ks r => occs ks ++ restO ls r
def occs : List K → Mp
  | [] => []
  | k :: ks => occ k ++ occs ks
end
def look : Mp → Int → Option OL
  | [], _ => none
  | p :: m, n => if p.1 = n then some p.2 else look m n
def putB (m : Mp) (o : Int × OL) : Mp × Bool := match look m o.1 with
  | none => (m ++ [o], true)
  | some l => (m, decide (l = o.2))
def pa : Mp → Mp → Mp × Bool
  | m, [] => (m, true)
  | m, o :: r => ((pa (putB m o).1 r).1, (putB m o).2 && (pa (putB m o).1 r).2)
theorem pa_app : ∀ (m a b : Mp), pa m (a ++ b) = ((pa (pa m a).1 b).1, (pa m a).2 && (pa (pa m a).1 b).2)
  | m, [], b => by simp [pa]
  | m, o :: a, b => by simp only [List.cons_append, pa, pa_app (putB m o).1 a b, Bool.and_assoc]
def olD : OL → D
  | none => .non
  | some w => wD w
theorem intsOf_map {α : Type} (f : α → Int) : ∀ xs : List α, intsOf (xs.map fun x => D.int (f x)) = some (xs.map f)
  | [] => rfl
  | x :: xs => by simp only [List.map_cons, intsOf, intsOf_map f xs]; rfl
theorem cSum_map {α : Type} {S : Sto} (f : α → Int) (xs : List α) : cSum [.lst (xs.map fun x => D.int (f x))] S = .ok (.int (xs.map f).sum) S := by
  simp only [cSum, rdL, asL, intsOf_map]
theorem fld_zipK {ls : List Str} {ks : List K} (h : ls.length = ks.length) : fldD ls (kds ks) = (ls.zip ks).map fun p => .tup [.str p.1, kd p.2] := by
  rw [fldD, kds_map, List.zipWith_map_right, List.zip, List.map_zipWith]
theorem sum_zip {ls : List Str} {ks : List K} (h : ls.length = ks.length) : ((ls.zip ks).map fun p => ((kn p.2 : Nat) : Int)).sum = (kns ks : Nat) := by
  induction ls generalizing ks with
  | nil => cases ks with
    | nil => rfl
    | cons k ks => cases h
  | cons l ls ih =>
    cases ks with
    | nil => cases h
    | cons k ks =>
      simp only [List.zip_cons_cons, List.map_cons, List.sum_cons, kns, ih (by simpa using h)]
      omega
theorem zip_mem {ls : List Str} {ks : List K} {p : Str × K} (h : p ∈ ls.zip ks) : p.1 ∈ ls ∧ p.2 ∈ ks := by
  obtain ⟨a, b⟩ := p
  exact ⟨(List.of_mem_zip h).1, (List.of_mem_zip h).2⟩
theorem eqD_ol {S : Sto} {a b : OL} (ha : ∀ w, a = some w → WOk w) (hb : ∀ w, b = some w → WOk w) : eqD S (olD a) (olD b) = some (decide (a = b)) := by
  cases a with
  | none =>
    cases b with
    | none => rfl
    | some b =>
      have h2 := tpd_w (S := S) b
      unfold wD at h2
      have h1 : tpd S .non = some .none := rfl
      unfold eqD
      simp only [olD, wD, scalD, h1, h2, sh_w (hb b rfl), show SeqAt.shaped PyData.none = true from by decide, and_self, if_true, PyData.eqv]
      simp
  | some a =>
    cases b with
    | none =>
      have h2 := tpd_w (S := S) a
      unfold wD at h2
      have h1 : tpd S .non = some .none := rfl
      unfold eqD
      simp only [olD, wD, scalD, h1, h2, sh_w (ha a rfl), show SeqAt.shaped PyData.none = true from by decide, and_self, if_true, PyData.eqv]
      simp
    | some b =>
      have := eqD_w (S := S) (ha a rfl) (hb b rfl)
      simp only [olD, wD, this, Option.some.injEq]
def mpO (m : Mp) : MO := .dK (m.map fun p => .inl p.1) (m.map fun p => olD p.2)
def MpOk (m : Mp) : Prop := ∀ p ∈ m, ∀ w, p.2 = some w → WOk w
theorem getK_look : ∀ (m : Mp) (n : Int), getK (m.map fun p => (Sum.inl p.1 : Key)) (m.map fun p => olD p.2) (.inl n) = (look m n).map olD
  | [], n => rfl
  | p :: m, n => by
    simp only [List.map_cons, getK, look, Sum.inl.injEq]
    split
    · rfl
    · exact getK_look m n
theorem look_mem : ∀ {m : Mp} {n : Int} {l : OL}, look m n = some l → (n, l) ∈ m
  | p :: m, n, l, h => by
    simp only [look] at h
    split at h
    · rename_i e
      cases h
      rw [← e]; simp
    · simp [look_mem h]
theorem look_none : ∀ {m : Mp} {n : Int}, look m n = none → (Sum.inl n : Key) ∉ m.map fun p => (Sum.inl p.1 : Key)
  | [], _, _ => by simp
  | p :: m, n, h => by
    simp only [look] at h
    split at h
    · cases h
    · rename_i e
      simp only [List.map_cons, List.mem_cons, Sum.inl.injEq, not_or]
      exact ⟨fun q => e q.symm, look_none h⟩
section
variable {S : Sto} {q : Nat} {m : Mp} {n : Int}
theorem dget_int {ks : List Key} {ds : List D} (h : S[q]? = some (.dK ks ds)) : dget S (.ref q) (.int n) = some (getK ks ds (.inl n)) := by
  simp only [dget, dkOf, h, keyOf]
theorem opNotIn_mp (h : S[q]? = some (mpO m)) : opNotIn (.int n) (.ref q) S = .ok (.bl (!(look m n).isSome)) S := by
  simp only [opNotIn, inDa, dget_int h, getK_look, Option.isSome_map]
theorem opIx_mp {l : OL} (h : S[q]? = some (mpO m)) (hl : look m n = some l) : opIx (.ref q) (.int n) S = .ok (olD l) S := by
  simp only [opIx, dget_int h, getK_look, hl, Option.map_some]
theorem opSet_mp {l : OL} (h : S[q]? = some (mpO m)) (hl : look m n = none) (hm : m.length < sizeLine) : opSet (.ref q) (.int n) (olD l) S = .ok () (S.set q (mpO (m ++ [(n, l)]))) := by
  have hn := look_none hl
  have h' : S[q]? = some (.dK (m.map fun p => .inl p.1) (m.map fun p => olD p.2)) := h
  simp only [opSet, h', keyOf, List.length_map, if_pos hm, insK_new hn, insD_new hn]
  simp only [mpO, List.map_append, List.map_cons, List.map_nil]
end
theorem putB_ok {m : Mp} {o : Int × OL} (h : MpOk m) (ho : ∀ w, o.2 = some w → WOk w) : MpOk (putB m o).1 := by
  unfold putB
  split
  · intro p hp
    rcases List.mem_append.mp hp with hp | hp
    · exact h p hp
    · rw [List.mem_singleton.mp hp]; exact ho
  · exact h
theorem putB_len (m : Mp) (o : Int × OL) : (putB m o).1.length ≤ m.length + 1 := by
  unfold putB; split <;> simp
theorem pa_ok : ∀ {r m : Mp}, MpOk m → MpOk r → MpOk (pa m r).1
  | [], m, h, _ => h
  | o :: r, m, h, hr => by
    rw [pa]
    exact pa_ok (r := r) (putB_ok h (hr o (by simp))) fun p hp => hr p (by simp [hp])
theorem pa_len : ∀ (r m : Mp), (pa m r).1.length ≤ m.length + r.length
  | [], m => Nat.le_refl _
  | o :: r, m => by
    have h1 := pa_len r (putB m o).1
    have h2 := putB_len m o
    simp only [pa, List.length_cons]; omega
mutual
theorem occ_len : ∀ k : K, (occ k).length ≤ kn k
  | .num => by simp [occ]
  | .blk _ => by simp [occ, kn]
  | .rc ls ks r => by
    have := occs_len ks
    simp only [occ, kn, List.length_append]
    cases r <;> simp [restO] <;> omega
theorem occs_len : ∀ ks : List K, (occs ks).length ≤ kns ks
  | [] => by simp [occs]
  | k :: ks => by
    have := occ_len k
    have := occs_len ks
    simp only [occs, kns, List.length_append]; omega
end
theorem mpOk_app {a b : Mp} (h : MpOk a) (g : MpOk b) : MpOk (a ++ b) := fun p hp => by
  rcases List.mem_append.mp hp with hp | hp
  · exact h p hp
  · exact g p hp
theorem occ_ok : ∀ (n : Nat) {k : K}, VK n k → MpOk (occ k) := by
  intro n
  induction n with
  | zero => intro k h; cases h
  | succ n ih =>
    intro k h
    cases h with
    | num => intro p hp; simp [occ] at hp
    | blk h => intro p hp w hw; simp only [occ, List.mem_singleton] at hp; subst hp; cases hw
    | rc h1 h2 h3 h4 h5 =>
      rename_i ls ks r
      rw [occ]
      refine mpOk_app ?_ ?_
      · clear h1
        induction ks with
        | nil => intro p hp; simp [occs] at hp
        | cons k ks ih2 => rw [occs]; exact mpOk_app (ih (h4 k (by simp))) (ih2 fun x hx => h4 x (by simp [hx]))
      · cases r with
        | none => intro p hp; simp [restO] at hp
        | some i =>
          intro p hp w hw
          simp only [restO, List.mem_singleton] at hp
          subst hp
          cases hw
          exact h3
theorem occs_ok {n : Nat} : ∀ {ks : List K}, (∀ k ∈ ks, VK n k) → MpOk (occs ks)
  | [], _ => fun p hp => by simp [occs] at hp
  | k :: ks, h => by rw [occs]; exact mpOk_app (occ_ok n (h k (by simp))) (occs_ok fun x hx => h x (by simp [hx]))
end PM

/-! PM, part 29: the dict of what was seen -/
namespace PM
open PySem L2
section
variable {κ : Type} [DecidableEq κ]
theorem getK_app {k j : κ} {d : D} : ∀ {ks : List κ} {ds : List D}, ks.length = ds.length → getK (ks ++ [k]) (ds ++ [d]) j = match getK ks ds j with
    | some e => some e
    | none => if k = j then some d else none
  | [], [], _ => by simp only [List.nil_append, getK]
  | x :: ks, y :: ds, h => by
    simp only [List.cons_append, getK]
    by_cases c : x = j
    · simp only [if_pos c]
    · simp only [if_neg c]; exact getK_app (by simpa using h)
theorem getK_none {j : κ} : ∀ {ks : List κ} {ds : List D}, j ∉ ks → getK ks ds j = none
  | [], _, _ => rfl
  | x :: ks, [], _ => rfl
  | x :: ks, y :: ds, h => by
    have : ¬ x = j := fun e => h (by simp [e])
    simp only [getK, if_neg this]
    exact getK_none fun q => h (by simp [q])
theorem getK_upd {k j : κ} {d : D} : ∀ {ks : List κ} {ds : List D}, ks.length = ds.length → k ∈ ks → getK ks (List.zipWith (fun i x => if i = k then d else x) ks ds) j = if k = j then some d else getK ks ds j
  | x :: ks, y :: ds, h, hk => by
    simp only [List.zipWith_cons_cons, getK]
    by_cases c : x = j
    · subst c
      by_cases c2 : x = k
      · simp [c2]
      · have : ¬ k = x := fun e => c2 e.symm
        simp [c2, this]
    · simp only [if_neg c]
      by_cases c2 : k ∈ ks
      · exact getK_upd (by simpa using h) c2
      · have e : k = x := by
          rcases List.mem_cons.mp hk with e | e
          · exact e
          · exact absurd e c2
        have hz : List.zipWith (fun i x => if i = k then d else x) ks ds = ds := by
          have hl : ks.length = ds.length := by simpa using h
          clear h hk
          induction ks generalizing ds with
          | nil => cases ds with
            | nil => rfl
            | cons y ds => cases hl
          | cons z ks ih =>
            cases ds with
            | nil => cases hl
            | cons y ds =>
              have : ¬ z = k := fun q => c2 (by simp [q])
              simp only [List.zipWith_cons_cons, if_neg this]
              rw [ih ds (fun q => c2 (by simp [q])) (by simpa using hl)]
        rw [hz]
        have : ¬ k = j := by rw [e]; exact c
        rw [if_neg this]
theorem getK_ins {k j : κ} {d : D} {ks : List κ} {ds : List D} (h : ks.length = ds.length) : getK (insK ks k) (insD ks ds k d) j = if k = j then some d else getK ks ds j := by
  unfold insK insD
  by_cases c : k ∈ ks
  · rw [if_pos c, if_pos c]; exact getK_upd h c
  · rw [if_neg c, if_neg c, getK_app h]
    by_cases e : k = j
    · subst e; rw [getK_none c]
    · rw [if_neg e, if_neg e]; cases getK ks ds j <;> rfl
theorem ins_len {k : κ} {d : D} {ks : List κ} {ds : List D} (h : ks.length = ds.length) : (insK ks k).length = (insD ks ds k d).length := by
  unfold insK insD
  split <;> simp [h]
end
/-- what stands for labels in the dict: no list that may still change (B) -/
def OLs (S : Sto) (B : Nat → Prop) : OL → D → Prop
  | none, d => d = .non
  | some w, d => ∃ i, d = .ref i ∧ ¬ B i ∧ S[i]? = some (.lst (w.map .str))
structure SR (S : Sto) (q : Nat) (B : Nat → Prop) (m : Mp) (c : Nat) : Prop where
  ok : MpOk m
  bq : B q
  dict : ∃ ks vs, S[q]? = some (.dK ks vs) ∧ ks.length = vs.length ∧ ks.length ≤ m.length + 1 ∧ getK ks vs (.inl (-1)) = some (.int c) ∧
    (∀ n : Int, 0 ≤ n → look m n = none → getK ks vs (.inl n) = none) ∧ ∀ (n : Int) l, 0 ≤ n → look m n = some l → ∃ d, getK ks vs (.inl n) = some d ∧ OLs S B l d
/-- all but B stays -/
structure Fq (S T : Sto) (B : Nat → Prop) : Prop where
  len : S.length ≤ T.length
  old : ∀ i, i < S.length → ¬ B i → T[i]? = S[i]?
theorem Fq.refl {S : Sto} {B : Nat → Prop} : Fq S S B := ⟨Nat.le_refl _, fun _ _ _ => rfl⟩
theorem Fq.trans {S T U : Sto} {B : Nat → Prop} (a : Fq S T B) (b : Fq T U B) : Fq S U B := ⟨Nat.le_trans a.len b.len, fun i h n => (b.old i (Nat.lt_of_lt_of_le h a.len) n).trans (a.old i h n)⟩
theorem Fq.mono {S T : Sto} {B B' : Nat → Prop} (h : Fq S T B) (g : ∀ i, B i → B' i) : Fq S T B' := ⟨h.len, fun i hi n => h.old i hi fun b => n (g i b)⟩
/-- what is new may be counted among B or not -/
theorem Fq.drop {S T : Sto} {B B' : Nat → Prop} (h : Fq S T B) (g : ∀ i, i < S.length → B i → B' i) : Fq S T B' := ⟨h.len, fun i hi n => h.old i hi fun b => n (g i hi b)⟩
theorem Fq.set {S : Sto} {q : Nat} {B : Nat → Prop} {o : MO} (h : B q) : Fq S (S.set q o) B := ⟨by simp, fun i _ n => by
  have : q ≠ i := fun e => n (by rw [← e]; exact h)
  rw [List.getElem?_set_ne this]⟩
theorem Fq.snoc {S : Sto} {B : Nat → Prop} {o : MO} : Fq S (S ++ [o]) B := ⟨by simp, fun i h _ => by rw [List.getElem?_append_left h]⟩
theorem OLs.keep {S T : Sto} {B : Nat → Prop} {l : OL} {d : D} (h : OLs S B l d) (f : Fq S T B) : OLs T B l d := by
  cases l with
  | none => exact h
  | some w =>
    obtain ⟨i, e, n, hi⟩ := h
    exact ⟨i, e, n, by rw [f.old i (List.getElem?_eq_some_iff.mp hi).1 n]; exact hi⟩
theorem SR.keep {S T : Sto} {q : Nat} {B : Nat → Prop} {m : Mp} {c : Nat} (h : SR S q B m c) (f : Fq S T B) (e : T[q]? = S[q]?) : SR T q B m c := by
  obtain ⟨ok, bq, ks, vs, h1, h2, h3, h4, h5, h6⟩ := h
  exact ⟨ok, bq, ks, vs, e.trans h1, h2, h3, h4, h5, fun n l hn hl => let ⟨d, g, o⟩ := h6 n l hn hl; ⟨d, g, o.keep f⟩⟩
/-- other B that agree on what stands -/
theorem SR.other {S : Sto} {q : Nat} {B B' : Nat → Prop} {m : Mp} {c : Nat} (h : SR S q B m c) (bq' : B' q) (g : ∀ i, i < S.length → B' i → B i) : SR S q B' m c := by
  obtain ⟨ok, bq, ks, vs, h1, h2, h3, h4, h5, h6⟩ := h
  refine ⟨ok, bq', ks, vs, h1, h2, h3, h4, h5, fun n l hn hl => ?_⟩
  obtain ⟨d, gd, o⟩ := h6 n l hn hl
  refine ⟨d, gd, ?_⟩
  cases l with
  | none => exact o
  | some w =>
    obtain ⟨i, e, nb, hi⟩ := o
    exact ⟨i, e, fun b => nb (g i (List.getElem?_eq_some_iff.mp hi).1 b), hi⟩
theorem eqD_ols {S : Sto} {B : Nat → Prop} {a b : OL} {d e : D} (ha : OLs S B a d) (hb : OLs S B b e) (wa : ∀ w, a = some w → WOk w) (wb : ∀ w, b = some w → WOk w) : eqD S d e = some (decide (a = b)) := by
  have tr : ∀ {i : Nat} {w : List Str}, S[i]? = some (.lst (w.map .str)) → tpd S (.ref i) = some (.list (w.map .str)) := fun h => by simp only [tpd, tp, h, tpk, tps_strs]; rfl
  have tn : tpd S .non = some .none := rfl
  have sn : SeqAt.shaped PyData.none = true := by decide
  cases a with
  | none =>
    obtain rfl : d = .non := ha
    cases b with
    | none => obtain rfl : e = .non := hb; rfl
    | some b =>
      obtain ⟨i, e1, n, hi⟩ := hb
      subst e1
      unfold eqD
      simp only [scalD, tn, tr hi, sn, sh_w (wb b rfl), and_self, if_true, PyData.eqv]
      simp
  | some a =>
    obtain ⟨i, e1, n, hi⟩ := ha
    subst e1
    cases b with
    | none =>
      obtain rfl : e = .non := hb
      unfold eqD
      simp only [scalD, tn, tr hi, sn, sh_w (wa a rfl), and_self, if_true, PyData.eqv]
      simp
    | some b =>
      obtain ⟨j, e2, n2, hj⟩ := hb
      subst e2
      unfold eqD
      simp only [scalD, tr hi, tr hj, sh_w (wa a rfl), sh_w (wb b rfl), and_self, if_true, PyData.eqv, eqv_strs, Option.some.injEq]
def numD : D → Bool
  | .int i => decide (0 ≤ i)
  | _ => false
theorem look_app {n : Int} {l : OL} : ∀ {m : Mp}, look m n = none → ∀ j, look (m ++ [(n, l)]) j = if n = j then some l else look m j
  | [], _, j => by simp [look]
  | p :: m, hk, j => by
    simp only [look] at hk
    split at hk
    · cases hk
    · rename_i e
      simp only [List.cons_append, look]
      by_cases e2 : p.1 = j
      · rw [if_pos e2, if_pos e2, if_neg (fun q => e (by rw [e2, q]))]
      · rw [if_neg e2, if_neg e2]; exact look_app hk j
end PM

/-! PM, part 30: what the law's look at a thing finds (plain) -/
namespace PM
open PySem PySem.Spec L2
/-- does s stand behind the last of lw? -/
def asc1 (lw : List Str) (s : Str) : Bool := match lw.getLast? with
  | none => true
  | some x => decide (x.cps.toList < s.cps.toList)
abbrev MC := Mp × Nat
def putC (m : MC) (o : Int × OL) : Option MC := if (putB m.1 o).2 = true then some ((putB m.1 o).1, m.2) else none
/-- the pairs of a row, one by one -/
def goodPs (f : MC → D → Option MC) : MC → List Str → List D → Option (MC × List Str)
  | m, lw, [] => some (m, lw)
  | m, lw, p :: ps => match p with
    | .tup [.str s, b] => if isWordD (.str s) = true ∧ asc1 lw s = true then (match f m b with
      | some m' => goodPs f m' (lw ++ [s]) ps
      | none => none) else none
    | _ => none
def goodB (m : MC) : List D → Option MC
  | [.int i] => if 0 ≤ i then putC m (i, none) else none
  | _ => none
def goodT (m : MC) (lw : List Str) : D → Option MC
  | .non => some m
  | .int i => if 0 ≤ i then putC m (i, some lw) else none
  | _ => none
def goodR (f : MC → D → Option MC) (m : MC) : List D → Option MC
  | [.tup ps, rt] => match goodPs f m [] ps with
    | some (m', lw) => goodT m' lw rt
    | none => none
  | _ => none
def goodD : Nat → MC → D → Option MC
  | n + 1, m, .tup (.str s :: r) => if s = Str.ofString "number" then (if r.isEmpty = true then some (m.1, m.2 + 1) else none)
    else if s = Str.ofString "blank" then goodB (m.1, m.2 + 1) r
    else if s = Str.ofString "record" then goodR (goodD n) (m.1, m.2 + 1) r else none
  | _, _, _ => none
theorem ltC_iff : ∀ a b : List Nat, ltCps a b = decide (a < b)
  | [], [] => by simp [ltCps]
  | [], y :: b => by simp [ltCps]
  | x :: a, [] => by simp [ltCps]
  | x :: a, y :: b => by
    simp only [ltCps, ltC_iff a b]
    rw [Bool.eq_iff_iff]
    simp only [Bool.or_eq_true, Bool.and_eq_true, decide_eq_true_eq, beq_iff_eq, List.cons_lt_cons_iff]
/-- rising, one by one -/
def chain : List Str → List Str → Bool
  | _, [] => true
  | lw, s :: r => asc1 lw s && chain (lw ++ [s]) r
def ltS (a b : Str) : Prop := ltCps a.cps.toList b.cps.toList = true
theorem asc1_some {lw : List Str} {x s : Str} (h : lw.getLast? = some x) : asc1 lw s = true ↔ ltS x s := by
  unfold asc1 ltS; rw [h, ltC_iff]
theorem ltS_trans {a b c : Str} (h1 : ltS a b) (h2 : ltS b c) : ltS a c := by
  unfold ltS at *
  cases h : ltCps a.cps.toList c.cps.toList with
  | true => rfl
  | false =>
    cases h3 : ltCps c.cps.toList a.cps.toList with
    | true =>
      rcases lt_cot a.cps.toList b.cps.toList c.cps.toList h3 with h4 | h4
      · rw [lt_asym _ _ h2] at h4; cases h4
      · rw [lt_asym _ _ h1] at h4; cases h4
    | false =>
      have e := lt_tri _ _ h h3
      rw [e] at h1
      rw [lt_asym _ _ h1] at h2; cases h2
theorem chain_iff : ∀ {ls lw : List Str}, chain lw ls = true ↔ (ls.Pairwise ltS ∧ ∀ x, lw.getLast? = some x → ∀ s ∈ ls, ltS x s)
  | [], lw => by simp [chain]
  | s :: r, lw => by
    have hl : (lw ++ [s]).getLast? = some s := by simp
    rw [chain, Bool.and_eq_true, chain_iff (ls := r), List.pairwise_cons]
    constructor
    · rintro ⟨h1, h2, h3⟩
      have h4 := h3 s hl
      refine ⟨⟨h4, h2⟩, fun x hx y hy => ?_⟩
      have h5 := (asc1_some hx).mp h1
      rcases List.mem_cons.mp hy with e | hy
      · rw [e]; exact h5
      · exact ltS_trans h5 (h4 y hy)
    · rintro ⟨⟨h4, h2⟩, h3⟩
      refine ⟨?_, h2, fun x hx y hy => ?_⟩
      · cases hg : lw.getLast? with
        | none => unfold asc1; rw [hg]
        | some x => exact (asc1_some hg).mpr (h3 x hg s (by simp))
      · rw [hl] at hx; cases hx; exact h4 y hy
theorem ndist_iff (zs : List Str) : ∀ i, i ≤ zs.length → (ndist zs i = i ↔ (zs.take i).Nodup)
  | 0, _ => by simp [ndist]
  | i + 1, h => by
    have ih := ndist_iff zs i (by omega)
    have hl := ndist_le zs i
    have e : zs.take (i + 1) = zs.take i ++ [zs.getD i Str.empty] := by
      rw [List.take_add_one, List.getElem?_eq_getElem (by omega), List.getD_eq_getElem?_getD, List.getElem?_eq_getElem (by omega)]; rfl
    rw [e, List.nodup_append]
    unfold ndist
    by_cases c : (zs.take i).any (· == zs.getD i Str.empty) = true
    · rw [if_pos c]
      constructor
      · intro q; omega
      · rintro ⟨_, _, q⟩
        rw [List.any_eq_true] at c
        obtain ⟨x, hx, e⟩ := c
        exact absurd (beq_iff_eq.mp e) (q x hx _ (by simp))
    · rw [if_neg c]
      constructor
      · intro q
        refine ⟨ih.mp (by omega), by simp, fun a ha b hb e => ?_⟩
        rw [List.mem_singleton.mp hb] at e
        exact c (List.any_eq_true.mpr ⟨a, ha, beq_iff_eq.mpr e⟩)
      · rintro ⟨q, _⟩
        have := ih.mpr q
        omega
theorem ltS_le {a b : Str} : ltS a b ↔ (leS a b = true ∧ a ≠ b) := by
  unfold ltS leS
  constructor
  · intro h
    refine ⟨by rw [lt_asym _ _ h]; rfl, fun e => ?_⟩
    subst e
    rw [lt_irr] at h; cases h
  · rintro ⟨h, n⟩
    simp only [Bool.not_eq_true'] at h
    cases c : ltCps a.cps.toList b.cps.toList with
    | true => rfl
    | false => exact absurd (str_ext (lt_tri _ _ c h)) n
theorem ascS_iff {ls : List Str} : ascS ls = true ↔ ls.Pairwise ltS := by
  unfold ascS
  rw [Bool.and_eq_true, decide_eq_true_eq, decide_eq_true_eq, ndist_iff ls ls.length (Nat.le_refl _), List.take_length]
  constructor
  · rintro ⟨h, n⟩
    have hs := sortStr_sorted ls
    rw [← h] at hs
    exact (List.pairwise_and_iff.mpr ⟨hs, n⟩).imp fun h => ltS_le.mpr h
  · intro h
    have h1 : ls.Pairwise (fun a b => leS a b = true) := h.imp fun q => (ltS_le.mp q).1
    have h2 : ls.Nodup := h.imp fun q => (ltS_le.mp q).2
    exact ⟨sorted_uniq (sortStr_perm ls).symm h1 (sortStr_sorted ls), h2⟩
theorem chain_asc {ls : List Str} : chain [] ls = ascS ls := by
  rw [Bool.eq_iff_iff, ascS_iff, chain_iff]
  simp
end PM

/-! PM, part 31: the look finds what kindIn and pa find (plain) -/
namespace PM
open PySem PySem.Spec L2
def okC (m : MC) (o : Mp) (c : Nat) : Option MC := if (pa m.1 o).2 = true then some ((pa m.1 o).1, m.2 + c) else none
theorem goodPs_yes {f : MC → D → Option MC} : ∀ {ls : List Str} {ks : List K} {m : MC} {lw : List Str}, ls.length = ks.length → (∀ l ∈ ls, IsLab l) → chain lw ls = true → (∀ k ∈ ks, ∀ m, f m (kd k) = okC m (occ k) (kn k)) →
    goodPs f m lw (fldD ls (kds ks)) = if (pa m.1 (occs ks)).2 = true then some (((pa m.1 (occs ks)).1, m.2 + kns ks), lw ++ ls) else none
  | [], [], m, lw, _, _, _, _ => by
    rw [show fldD [] (kds []) = [] from rfl, goodPs, occs, pa, kns, if_pos rfl, Nat.add_zero, List.append_nil]
  | l :: ls, k :: ks, m, lw, h, hl, hc, hf => by
    rw [chain, Bool.and_eq_true] at hc
    rw [kds, fldD_cons, goodPs, if_pos ⟨word_lab.mpr (hl l (by simp)), hc.1⟩, hf k (by simp) m, occs, pa_app, kns]
    unfold okC
    cases c1 : (pa m.1 (occ k)).2 with
    | false => simp
    | true =>
      simp only [if_true, Bool.true_and]
      rw [goodPs_yes (show ls.length = ks.length by simpa using h) (fun x hx => hl x (by simp [hx])) hc.2 fun k hk => hf k (by simp [hk])]
      simp only [List.append_assoc, List.singleton_append, Nat.add_assoc]
theorem goodPs_no {n : Nat} {f : MC → D → Option MC} (hn : ∀ d m, kindIn n d = false → f m d = none) : ∀ {ps : List D} {m : MC} {lw : List Str} {r : MC × List Str}, goodPs f m lw ps = some r →
    (∀ p ∈ ps, isPairD p = true) ∧ chain lw (ps.map labD) = true ∧ ∀ p ∈ ps, kindIn n (sndD p) = true
  | [], _, _, _, _ => ⟨by simp, rfl, by simp⟩
  | p :: ps, m, lw, r, h => by
    unfold goodPs at h
    split at h
    · rename_i s b
      split at h
      · rename_i hc
        split at h
        · rename_i m' hm
          obtain ⟨h1, h2, h3⟩ := goodPs_no hn h
          have hk : kindIn n b = true := by
            cases c : kindIn n b with
            | true => rfl
            | false => rw [hn b m c] at hm; cases hm
          refine ⟨fun q hq => ?_, ?_, fun q hq => ?_⟩
          · rcases List.mem_cons.mp hq with e | hq
            · subst e; exact hc.1
            · exact h1 q hq
          · rw [List.map_cons, chain, Bool.and_eq_true]; exact ⟨hc.2, h2⟩
          · rcases List.mem_cons.mp hq with e | hq
            · subst e; exact hk
            · exact h3 q hq
        · cases h
      · cases h
    · cases h
theorem goodD_no : ∀ (n : Nat) (d : D) (m : MC), kindIn n d = false → goodD n m d = none := by
  intro n
  induction n with
  | zero => intro d m _; unfold goodD; rfl
  | succ n ih =>
    intro d m h
    cases hg : goodD (n + 1) m d with
    | none => rfl
    | some r =>
      exfalso
      have hd : ∃ s r, d = .tup (.str s :: r) := by
        cases d with
        | tup ds =>
          cases ds with
          | nil => cases hg
          | cons x r => cases x <;> first
            | (cases hg; done)
            | exact ⟨_, r, rfl⟩
        | _ => cases hg
      obtain ⟨s, r, e⟩ := hd
      subst e
      rw [goodD] at hg
      rw [kindIn] at h
      split at hg
      · rename_i c
        rw [if_pos c] at h
        split at hg
        · rename_i c2; rw [c2] at h; cases h
        · cases hg
      · rename_i c
        rw [if_neg c] at h
        split at hg
        · rename_i c2
          rw [if_pos c2] at h
          unfold goodB at hg
          split at hg
          · split at hg
            · rename_i i hi
              simp only [blankIn] at h
              rw [decide_eq_true hi] at h; cases h
            · cases hg
          · cases hg
        · rename_i c2
          rw [if_neg c2] at h
          split at hg
          · rename_i c3
            rw [decide_eq_true c3, Bool.true_and] at h
            unfold goodR at hg
            split at hg
            · rename_i ps rt
              split at hg
              · rename_i m' lw hp
                obtain ⟨h1, h2, h3⟩ := goodPs_no (n := n) (fun d m => ih d m) hp
                have hr : isRestD rt = true := by
                  unfold goodT at hg
                  split at hg
                  · rfl
                  · split at hg
                    · rename_i i hi; exact decide_eq_true hi
                    · cases hg
                  · cases hg
                simp only [recIn, rowIn, hr, Bool.true_and] at h
                rw [chain_asc] at h2
                rw [List.all_eq_true.mpr h1, h2, List.all_eq_true.mpr h3] at h
                cases h
              · cases hg
            · cases hg
          · cases hg
theorem goodD_yes : ∀ (n : Nat) {k : K} (m : MC), VK n k → goodD n m (kd k) = okC m (occ k) (kn k) := by
  intro n
  induction n with
  | zero => intro k m h; cases h
  | succ n ih =>
    intro k m h
    have n1 : ¬ Str.ofString "blank" = Str.ofString "number" := by simp
    have n2 : ¬ Str.ofString "record" = Str.ofString "number" := by simp
    have n3 : ¬ Str.ofString "record" = Str.ofString "blank" := by simp
    cases h with
    | num => simp only [kd, goodD, if_pos, List.isEmpty_nil, okC, occ, pa, kn]
    | blk h =>
      rename_i i
      simp only [kd, goodD, if_neg n1, if_pos, goodB, if_pos h, putC, okC, occ, pa, kn, Bool.and_true]
    | rc h1 h2 h3 h4 h5 =>
      rename_i ls ks r
      rw [kd, goodD, if_neg n2, if_neg n3, if_pos rfl, goodR, goodPs_yes h1 h3 (by rw [chain_asc]; exact h2) (fun k hk m => ih m (h4 k hk))]
      unfold okC
      rw [occ, pa_app]
      simp only [List.nil_append, kn]
      cases c1 : (pa m.1 (occs ks)).2 with
      | false => simp
      | true =>
        cases r with
        | none => simp [goodT, rD0, restO, pa, Nat.add_assoc]
        | some i =>
          have hi := h5 i rfl
          simp [goodT, rD0, restO, pa, hi, putC, Nat.add_assoc]
mutual
def sz : D → Nat
  | .tup ds => 1 + szs ds
  | .lst ds => 1 + szs ds
  | _ => 1
def szs : List D → Nat
  | [] => 0
  | d :: ds => sz d + szs ds
end
theorem eqD_ref_nil {S : Sto} {f : Nat} {w : List Str} (h : S[f]? = some (.lst (w.map .str))) (hw : WOk w) : eqD S (.ref f) (.lst []) = some (decide (w = [])) := by
  have h1 : tpd S (.ref f) = some (.list (w.map .str)) := by simp only [tpd, tp, h, tpk, tps_strs]; rfl
  have h2 := tpd_w (S := S) []
  unfold wD at h2
  simp only [List.map_nil] at h2
  unfold eqD
  simp only [scalD, h1, h2, sh_w hw, show SeqAt.shaped (.list []) = true from by decide, and_self, if_true, PyData.eqv]
  have := eqv_strs w []
  simp only [List.map_nil] at this
  rw [this]
theorem opIx_last {S : Sto} {f : Nat} {w : List Str} {x : Str} (h : S[f]? = some (.lst (w.map .str))) (hx : w.getLast? = some x) : opIx (.ref f) (.int (-1)) S = .ok (.str x) S := by
  have hne : 0 < w.length := by
    cases w with
    | nil => cases hx
    | cons a w => simp
  rw [opIx_ref h]
  have : atI (w.map D.str) (-1) = some (.str x) := by
    unfold atI ixN
    rw [if_neg (by omega), if_pos (by rw [List.length_map]; omega)]
    rw [List.getLast?_eq_getElem?] at hx
    simp only [Option.bind_some, List.length_map, List.getElem?_map]
    rw [show (-1 + (w.length : Int)).toNat = w.length - 1 by omega, hx]; rfl
  rw [this]; rfl
theorem sr_inc {S : Sto} {q : Nat} {B : Nat → Prop} {m : Mp} {c : Nat} (h : SR S q B m c) (hz : m.length < 200000) :
    opIx (.ref q) (.int (-1)) S = .ok (.int c) S ∧ ∃ S1, opSet (.ref q) (.int (-1)) (.int ((c : Int) + 1)) S = .ok () S1 ∧ SR S1 q B m (c + 1) ∧ Fq S S1 (· = q) := by
  obtain ⟨ok, bq, ks, vs, h1, h2, h3, h4, h5, h6⟩ := h
  have hl : ks.length < sizeLine := Nat.lt_of_lt_of_le (by omega) szl
  have hm : (Sum.inl (-1) : Key) ∈ ks := by
    by_cases q : (Sum.inl (-1) : Key) ∈ ks
    · exact q
    · rw [getK_none q] at h4; cases h4
  refine ⟨by simp only [opIx, dget_int h1, h4], S.set q (.dK (insK ks (.inl (-1))) (insD ks vs (.inl (-1)) (.int ((c : Int) + 1)))), by simp only [opSet, h1, keyOf, if_pos hl], ⟨ok, bq, _, _, sto_set h1, ins_len h2, ?_, ?_, ?_, ?_⟩, .set rfl⟩
  · unfold insK; rw [if_pos hm]; exact h3
  · rw [getK_ins h2, if_pos rfl]; rfl
  · intro n hn hk
    rw [getK_ins h2, if_neg (fun e => by have := Sum.inl.inj e; omega)]
    exact h5 n hn hk
  · intro n l hn hk
    obtain ⟨d, g, o⟩ := h6 n l hn hk
    refine ⟨d, ?_, o.keep (.set bq)⟩
    rw [getK_ins h2, if_neg (fun e => by have := Sum.inl.inj e; omega)]
    exact g
end PM

/-! PM, part 32: kinds as things; their size -/
namespace PM
open PySem L2
theorem th_str {n : Nat} {s : Str} : th n (.str s) = (PyData.strOk s && decide (s.length ≤ 1000)) := by cases n <;> rfl
theorem th_int {n : Nat} {i : Int} : th n (.int i) = true := by cases n <;> rfl
theorem th_non {n : Nat} : th n .non = true := by cases n <;> rfl
theorem th_lab {n : Nat} {s : Str} (h : IsLab s) : th n (.str s) = true := by
  rw [th_str, h.ok, decide_eq_true (by have := h.2.2; omega)]; rfl
theorem th_tup {n : Nat} {ds : List D} (h : ds.length ≤ 1000) (g : ∀ d ∈ ds, th n d = true) : th (n + 1) (.tup ds) = true := by
  simp only [th, Bool.and_eq_true, List.all_eq_true]
  exact ⟨decide_eq_true h, g⟩
theorem th_tup_inv {n : Nat} {ds : List D} (h : th (n + 1) (.tup ds) = true) : ds.length ≤ 1000 ∧ ∀ d ∈ ds, th n d = true := by
  simp only [th, Bool.and_eq_true, List.all_eq_true, decide_eq_true_eq] at h; exact h
theorem th_rec {n : Nat} {fs r : D} (h : th n fs = true) (g : th n r = true) : th (n + 1) (.tup [.str "record", fs, r]) = true :=
  th_tup (by simp) (by simp [h, g, th_str]; decide +kernel)
theorem th_fld {n : Nat} {l : Str} {d : D} (hl : PyData.strOk l = true ∧ l.length ≤ 1000) (h : th n d = true) : th (n + 1) (.tup [.str l, d]) = true :=
  th_tup (by simp) (by simp [h, th_str, hl])
theorem th_kd {d : Nat} {k : K} (h : WK d k) : th (3 * d) (kd k) = true := by
  induction h with
  | num => rename_i d; exact th_tup (n := 3 * d + 2) (by simp) (by simp [th_str]; decide +kernel)
  | blk => rename_i d n; exact th_tup (n := 3 * d + 2) (by simp) (by simp [th_str, th_int]; decide +kernel)
  | rc h1 h2 h3 h4 h5 ih =>
    rename_i d ls ks r
    refine th_rec (n := 3 * d + 2) (th_tup ?_ fun x hx => ?_) (by cases r <;> simp [rD0, th_int, th_non])
    · rw [fldD, List.length_zipWith, kds_len]; omega
    · obtain ⟨l, y, e, hl, hy⟩ := mem_fldD hx
      rw [kds_map] at hy
      obtain ⟨b, hb, e'⟩ := List.mem_map.mp hy
      subst e e'
      exact th_fld ⟨(h4 l hl).ok, by have := (h4 l hl).2.2; omega⟩ (ih b hb)
theorem szs_app : ∀ a b : List D, szs (a ++ b) = szs a + szs b
  | [], b => by simp [szs]
  | x :: a, b => by simp only [List.cons_append, szs, szs_app a b]; omega
theorem szs_fld : ∀ {ls : List Str} {ks : List K}, ls.length = ks.length → (∀ k ∈ ks, sz (kd k) + 2 ≤ 6 * kn k) → szs (fldD ls (kds ks)) ≤ 6 * kns ks
  | [], [], _, _ => by simp [fldD, kds, szs]
  | l :: ls, k :: ks, h, g => by
    have := szs_fld (ls := ls) (ks := ks) (by simpa using h) fun k hk => g k (by simp [hk])
    have := g k (by simp)
    rw [kds, fldD_cons, szs, kns]
    simp only [sz, szs]; omega
theorem sz_kd {d : Nat} {k : K} (h : WK d k) : sz (kd k) + 2 ≤ 6 * kn k := by
  induction h with
  | num => simp [kd, sz, szs, kn]
  | blk => simp [kd, sz, szs, kn]
  | rc h1 h2 h3 h4 h5 ih =>
    rename_i d ls ks r
    have := szs_fld h1 ih
    have e : sz (rD0 r) = 1 := by cases r <;> simp [rD0, sz]
    simp only [kd, sz, szs, kn, e]; omega
theorem kns_app : ∀ a b : List K, kns (a ++ b) = kns a + kns b
  | [], b => by simp [kns]
  | x :: a, b => by simp only [List.cons_append, kns, kns_app a b]; omega
/-- a state with its budget beside a list of lists of texts -/
def KS2 (S : Sto) (n q M : Nat) (b : Int) : Prop := ∃ (a : Int) (ws : List (List Str)), 0 ≤ a ∧ S[n]? = some (.lst [.int a, .int b]) ∧ S[q]? = some (.lst (ws.map wD)) ∧ (∀ w ∈ ws, WOk w) ∧ ws.length + b.toNat ≤ M
/-- and what is left of the budget behind a kind -/
def KE2 (S : Sto) (n q M B : Nat) (k : K) : Prop := ∃ b, KS2 S n q M b ∧ kn k + 4 * b.toNat ≤ B
theorem pl_kd {d : Nat} {k : K} (h : WK d k) : pl (3 * d) (kd k) = true := by
  induction h with
  | num => rename_i d; rw [show 3 * (d + 1) = (3 * d + 2) + 1 by omega]; simp only [kd, pl, List.all_cons, List.all_nil]; decide +kernel
  | blk => rename_i d n; rw [show 3 * (d + 1) = (3 * d + 2) + 1 by omega]; simp only [kd, pl, List.all_cons, List.all_nil]; decide +kernel
  | rc h1 h2 h3 h4 h5 ih =>
    rename_i d ls ks r
    rw [show 3 * (d + 1) = (3 * d + 2) + 1 by omega]
    simp only [kd, pl, List.all_cons, List.all_nil, Bool.and_true, Bool.and_eq_true]
    refine ⟨by decide +kernel, pl_all fun x hx => ?_, by cases r <;> rfl⟩
    obtain ⟨l, y, e, hl, hy⟩ := mem_fldD hx
    rw [kds_map] at hy
    obtain ⟨b, hb, e'⟩ := List.mem_map.mp hy
    subst e e'
    simp only [pl, List.all_cons, List.all_nil, Bool.and_true, Bool.and_eq_true]
    exact ⟨(h4 l hl).ok, ih b hb⟩
end PM

namespace K_k02
open PySem PySem.Spec L2 PM PyProof.Rows
def top (i : Nat) : Stmt := PySem.Challenge.pw_fieldrest_k02_kinds.main.body.getD i (.Pass ⟨0, 0, 0, 0⟩)
inductive Fn where
  | is_whole
  | is_word
  | is_pair
  | is_rest
  | is_row
  | is_kind_in
  | knots
  | blanks_in
  | put_blank
  | is_kind
  | _law_cell
  | _law_next
  | _law_labels
  | _law_kind
  | _law_odd
  | _law_changed
  | _law_word
  | _law_number
  | _law_blank
  | _law_good
  | _law_due
  | _law_merged
  | _law_thing
  | law
def N_is_whole : List Str := ["thing"]
def N_is_word : List Str := ["thing", "sign"]
def N_is_pair : List Str := ["thing"]
def N_is_rest : List Str := ["thing"]
def N_is_row : List Str := ["fields", "deep", "pair", "labels"]
def N_is_kind_in : List Str := ["thing", "deep"]
def N_knots : List Str := ["kind", "pair"]
def N_blanks_in : List Str := ["kind", "found", "good", "pair"]
def N_put_blank : List Str := ["found", "number", "labels"]
def N_is_kind : List Str := ["thing"]
def N__law_cell : List Str := ["_law_script", "_law_k"]
def N__law_next : List Str := ["_law_state"]
def N__law_labels : List Str := ["_law_cell_here", "_law_many", "_law_signs", "_law_size", "_law_at", "_law_step", "_law_base", "_law_k", "_law_found", "_law_sign"]
def N__law_kind : List Str := ["_law_state", "_law_labels_here", "_law_met", "_law_left", "_law_number_here", "_law_picked", "_law_words", "_law_label", "_law_fields"]
def N__law_odd : List Str := ["_law_number_here", "_law_inner", "_law_some"]
def N__law_changed : List Str := ["_law_kind_here", "_law_path", "_law_odd_here", "_law_at", "_law_inner"]
def N__law_word : List Str := ["_law_thing_here", "_law_sign"]
def N__law_number : List Str := ["_law_thing_here"]
def N__law_blank : List Str := ["_law_seen", "_law_number_here", "_law_labels_here"]
def N__law_good : List Str := ["_law_thing_here", "_law_left", "_law_seen", "_law_labels_here", "_law_pair"]
def N__law_due : List Str := ["_law_thing_here", "_law_seen"]
def N__law_merged : List Str := ["_law_kind_here", "_law_many", "_law_rest", "_law_inner", "_law_label"]
def N__law_thing : List Str := ["_law_kind_here", "_law_labels_here", "_law_way", "_law_number_here", "_law_thing_here", "_law_k", "_law_signs", "_law_size", "_law_words", "_law_word_here"]
def N_law : List Str := ["_law_script", "_law_labels_here", "_law_state", "_law_met", "_law_kind_here", "_law_things", "_law_size", "_law_k", "_law_thing_here", "_law_found"]
abbrev Cs := Fn → List D → Sto → R D
noncomputable def b_is_whole (C : Cs) : Sm :=
  (sRet (mAndV (mU (opIsi "int") (mV 0)) (mNotV (mU (opIsi "bool") (mV 0)))))
noncomputable def b_is_word (C : Cs) : Sm :=
  (sRet (mAndV (mU (opIsi "str") (mV 0)) (mAndV (mChain opLe opLe (mC (.int 1)) (mApp cLen (mCons (mV 0) mNil)) (mC (.int 8))) (mApp cAll (mCons (mComp (sItems (mV 0)) (gmName 1) mYes (mB opIn (mV 1) (mC (.str "abcdefghijklmnopqrstuvwxyz"))) [1]) mNil)))))
noncomputable def b_is_pair (C : Cs) : Sm :=
  (sRet (mAndV (mU (opIsi "tuple") (mV 0)) (mAndV (mB opEq (mApp cLen (mCons (mV 0) mNil)) (mC (.int 2))) (mApp (C .is_word) (mCons (mB opIx (mV 0) (mC (.int 0))) mNil)))))
noncomputable def b_is_rest (C : Cs) : Sm :=
  (sRet (mOrV (mB opIsN (mV 0) (mC .non)) (mAndV (mApp (C .is_whole) (mCons (mV 0) mNil)) (mB opGe (mV 0) (mC (.int 0))))))
noncomputable def b_is_row (C : Cs) : Sm :=
  (sSeq (sIf (mOr (mNot (mT (mU (opIsi "tuple") (mV 0)))) (mNot (mT (mApp cAll (mCons (mComp (sItems (mV 0)) (gmName 2) mYes (mApp (C .is_pair) (mCons (mV 2) mNil)) [2]) mNil))))) (sRet (mC (.bl false))) sPass) (sSeq (sAsg (mComp (sItems (mV 0)) (gmName 2) mYes (mB opIx (mV 2) (mC (.int 0))) [2]) (gmName 3)) (sSeq (sIf (mOr (mT (mB opNe (mV 3) (mApp cSorted (mCons (mV 3) mNil)))) (mT (mB opNe (mLenSet (mV 3)) (mApp cLen (mCons (mV 3) mNil))))) (sRet (mC (.bl false))) sPass) (sRet (mApp cAll (mCons (mComp (sItems (mV 0)) (gmName 2) mYes (mApp (C .is_kind_in) (mCons (mB opIx (mV 2) (mC (.int 1))) (mCons (mV 1) mNil))) [2]) mNil))))))
noncomputable def b_is_kind_in (C : Cs) : Sm :=
  (sSeq (sIf (mOr (mT (mB opEq (mV 1) (mC (.int 0)))) (mOr (mNot (mT (mU (opIsi "tuple") (mV 0)))) (mOr (mT (mB opLt (mApp cLen (mCons (mV 0) mNil)) (mC (.int 1)))) (mNot (mT (mU (opIsi "str") (mB opIx (mV 0) (mC (.int 0))))))))) (sRet (mC (.bl false))) sPass) (sSeq (sIf (mT (mB opEq (mB opIx (mV 0) (mC (.int 0))) (mC (.str "number")))) (sRet (mB opEq (mApp cLen (mCons (mV 0) mNil)) (mC (.int 1)))) sPass) (sSeq (sIf (mT (mB opEq (mB opIx (mV 0) (mC (.int 0))) (mC (.str "blank")))) (sRet (mAndV (mB opEq (mApp cLen (mCons (mV 0) mNil)) (mC (.int 2))) (mAndV (mApp (C .is_whole) (mCons (mB opIx (mV 0) (mC (.int 1))) mNil)) (mB opGe (mB opIx (mV 0) (mC (.int 1))) (mC (.int 0)))))) sPass) (sRet (mAndV (mB opEq (mB opIx (mV 0) (mC (.int 0))) (mC (.str "record"))) (mAndV (mB opEq (mApp cLen (mCons (mV 0) mNil)) (mC (.int 3))) (mAndV (mApp (C .is_rest) (mCons (mB opIx (mV 0) (mC (.int 2))) mNil)) (mApp (C .is_row) (mCons (mB opIx (mV 0) (mC (.int 1))) (mCons (mB opSub (mV 1) (mC (.int 1))) mNil))))))))))
noncomputable def b_knots (C : Cs) : Sm :=
  (sSeq (sIf (mT (mB opNe (mB opIx (mV 0) (mC (.int 0))) (mC (.str "record")))) (sRet (mC (.int 1))) sPass) (sRet (mB opAdd (mC (.int 1)) (mApp cSum (mCons (mComp (sItems (mB opIx (mV 0) (mC (.int 1)))) (gmName 1) mYes (mApp (C .knots) (mCons (mB opIx (mV 1) (mC (.int 1))) mNil)) [1]) mNil)))))
noncomputable def b_blanks_in (C : Cs) : Sm :=
  (sSeq (sIf (mT (mB opEq (mB opIx (mV 0) (mC (.int 0))) (mC (.str "blank")))) (sRet (mApp (C .put_blank) (mCons (mV 1) (mCons (mB opIx (mV 0) (mC (.int 1))) (mCons (mC .non) mNil))))) sPass) (sSeq (sAsg (mC (.bl true)) (gmName 2)) (sSeq (sIf (mT (mB opEq (mB opIx (mV 0) (mC (.int 0))) (mC (.str "record")))) (sSeq (sFor (sItems (mB opIx (mV 0) (mC (.int 1)))) (gmName 3) (sAsg (mAndV (mApp (C .blanks_in) (mCons (mB opIx (mV 3) (mC (.int 1))) (mCons (mV 1) mNil))) (mV 2)) (gmName 2))) (sIf (mT (mB opNotN (mB opIx (mV 0) (mC (.int 2))) (mC .non))) (sAsg (mAndV (mApp (C .put_blank) (mCons (mV 1) (mCons (mB opIx (mV 0) (mC (.int 2))) (mCons (mComp (sItems (mB opIx (mV 0) (mC (.int 1)))) (gmName 3) mYes (mB opIx (mV 3) (mC (.int 0))) [3]) mNil)))) (mV 2)) (gmName 2)) sPass)) sPass) (sRet (mV 2)))))
noncomputable def b_put_blank (C : Cs) : Sm :=
  (sSeq (sIf (mT (mB opNotIn (mV 1) (mV 0))) (sAsg (mV 2) (gmSub (mV 0) (mV 1) opSet)) sPass) (sRet (mB opEq (mB opIx (mV 0) (mV 1)) (mV 2))))
noncomputable def b_is_kind (C : Cs) : Sm :=
  (sRet (mAndV (mApp (C .is_kind_in) (mCons (mV 0) (mCons (mC (.int 12)) mNil))) (mAndV (mB opLe (mApp (C .knots) (mCons (mV 0) mNil)) (mC (.int 200))) (mApp (C .blanks_in) (mCons (mV 0) (mCons mNewK mNil))))))
noncomputable def b__law_cell (C : Cs) : Sm :=
  (sSeq (sIf (mT (mB opLt (mV 1) (mApp cLen (mCons (mV 0) mNil)))) (sRet (mB opMod (mB opMul (mB opIx (mV 0) (mV 1)) (mC (.int 48271))) (mC (.int 2147483647)))) sPass) (sRet (mC (.int 0))))
noncomputable def b__law_next (C : Cs) : Sm :=
  (sSeq (sAsg (mB opMod (mB opAdd (mB opMul (mB opIx (mV 0) (mC (.int 0))) (mC (.int 48271))) (mC (.int 11))) (mC (.int 2147483647))) (gmSub (mV 0) (mC (.int 0)) opSet)) (sSeq (sAsg (mB opSub (mB opIx (mV 0) (mC (.int 1))) (mC (.int 1))) (gmSub (mV 0) (mC (.int 1)) opSet)) (sRet (mB opDiv (mB opIx (mV 0) (mC (.int 0))) (mC (.int 7))))))
noncomputable def b__law_labels (C : Cs) : Sm :=
  (sSeq (sAsg (mC (.str "abcdefghijklmnopqrstuvwxyz")) (gmName 2)) (sSeq (sAsg (mB opMod (mV 0) (mC (.int 7))) (gmName 3)) (sSeq (sAsg (mB opMod (mB opDiv (mV 0) (mC (.int 7))) (mB opAdd (mV 3) (mC (.int 1)))) (gmName 4)) (sSeq (sAsg (mB opMod (mB opDiv (mV 0) (mC (.int 49))) (mC (.int 26))) (gmName 5)) (sSeq (sAsg (mJoin (mC (.str "")) (mComp (sRange1 (mV 3)) (gmName 7) mYes (mB opIx (mV 2) (mB opMod (mB opAdd (mV 5) (mB opMul (mB opDiv (mV 0) (mC (.int 1274))) (mV 7))) (mC (.int 26)))) [7])) (gmName 6)) (sSeq (sAsg (mApp newRef mNil) (gmName 8)) (sSeq (sFor (sRange1 (mV 1)) (gmName 7) (sSeq (sAsg (mB opIx (mV 2) (mB opMod (mB opAdd (mB opDiv (mV 0) (mC (.int 49))) (mB opMul (mC (.int 3)) (mV 7))) (mC (.int 26)))) (gmName 9)) (sExpr (mMt isLst cAppend (mV 8) (mCons (mB opAdd (mB opAdd (mSl opSl (mV 6) mNo (mPt (mV 4))) (mV 9)) (mSl opSl (mV 6) (mPt (mV 4)) mNo)) mNil))))) (sRet (mV 8)))))))))
noncomputable def b__law_kind (C : Cs) : Sm :=
  (sSeq (sAsg (mApp (C ._law_next) (mCons (mV 0) mNil)) (gmName 4)) (sSeq (sIf (mOr (mT (mB opLe (mV 3) (mC (.int 1)))) (mOr (mT (mB opLe (mB opIx (mV 0) (mC (.int 1))) (mC (.int 0)))) (mT (mB opLt (mB opMod (mV 4) (mC (.int 7))) (mC (.int 2)))))) (sRet (mApp newTup (mCons (mC (.str "number")) mNil))) sPass) (sSeq (sIf (mT (mB opEq (mB opMod (mV 4) (mC (.int 7))) (mC (.int 2)))) (sRet (mApp newTup (mCons (mC (.str "blank")) (mCons (mB opMul (mB opMul (mB opIx (mV 2) (mC (.int 0))) (mC (.int 2))) (mB opMod (mB opDiv (mV 4) (mC (.int 7))) (mC (.int 3)))) mNil)))) sPass) (sSeq (sAsg (mSl opSl (mApp newLst (mCons (mB opIx (mV 1) (mB opMod (mB opDiv (mV 4) (mC (.int 7))) (mC (.int 4)))) (mCons (mB opIx (mV 1) (mB opMod (mB opDiv (mV 4) (mC (.int 28))) (mC (.int 4)))) (mCons (mB opIx (mV 1) (mB opMod (mB opDiv (mV 4) (mC (.int 112))) (mC (.int 4)))) mNil)))) mNo (mPt (mB opMod (mB opDiv (mV 4) (mC (.int 448))) (mC (.int 4))))) (gmName 5)) (sSeq (sAsg (mComp (sItems (mApp cSorted (mCons (mV 1) mNil))) (gmName 7) (mT (mB opIn (mV 7) (mV 5))) (mV 7) [7]) (gmName 6)) (sSeq (sAsg (mApp cTuple (mCons (mComp (sItems (mV 6)) (gmName 7) mYes (mApp newTup (mCons (mV 7) (mCons (mApp (C ._law_kind) (mCons (mV 0) (mCons (mV 1) (mCons (mV 2) (mCons (mB opSub (mV 3) (mC (.int 1))) mNil))))) mNil))) [7]) mNil)) (gmName 8)) (sSeq (sIf (mT (mB opEq (mB opMod (mB opDiv (mV 4) (mC (.int 1792))) (mC (.int 2))) (mC (.int 0)))) (sRet (mApp newTup (mCons (mC (.str "record")) (mCons (mV 8) (mCons (mC .non) mNil))))) sPass) (sSeq (sIf (mT (mB opNotIn (mV 6) (mB opIx (mV 2) (mC (.int 1))))) (sExpr (mMt isLst cAppend (mB opIx (mV 2) (mC (.int 1))) (mCons (mV 6) mNil))) sPass) (sRet (mApp newTup (mCons (mC (.str "record")) (mCons (mV 8) (mCons (mB opMul (mB opIx (mV 2) (mC (.int 0))) (mB opAdd (mC (.int 1)) (mB opMul (mC (.int 2)) (mMt isLst cIndex (mB opIx (mV 2) (mC (.int 1))) (mCons (mV 6) mNil))))) mNil)))))))))))))
noncomputable def b__law_odd (C : Cs) : Sm :=
  (sSeq (sAsg (mApp newLst (mCons (mC .non) (mCons (mC (.bl true)) (mCons (mC (.int 0)) (mCons (mC (.str "number")) (mCons (mApp newLst mNil) (mCons (mApp newTup mNil) (mCons (mApp newTup (mCons (mC (.str "number")) (mCons (mC (.int 1)) mNil))) (mCons (mApp newTup (mCons (mC (.str "number")) mNil)) (mCons (mApp newLst (mCons (mC (.str "number")) mNil)) (mCons (mApp newTup (mCons (mC (.str "blank")) mNil)) (mCons (mApp newTup (mCons (mC (.str "blank")) (mCons (mU opNeg (mC (.int 1))) mNil))) mNil)))))))))))) (gmName 2)) (sSeq (sAsg (mB opAdd (mV 2) (mApp newLst (mCons (mApp newTup (mCons (mC (.str "blank")) (mCons (mC (.bl true)) mNil))) (mCons (mApp newTup (mCons (mC (.str "blank")) (mCons (mC (.str "0")) mNil))) (mCons (mApp newTup (mCons (mC (.str "blank")) (mCons (mC (.int 0)) mNil))) (mCons (mApp newTup (mCons (mC (.str "blank")) (mCons (mC (.int 7)) (mCons (mC (.int 7)) mNil)))) mNil)))))) (gmName 2)) (sSeq (sAsg (mB opAdd (mV 2) (mApp newLst (mCons (mApp newTup (mCons (mC (.str "blanks")) (mCons (mC (.int 7)) mNil))) (mCons (mApp newTup (mCons (mC (.str "Number")) mNil)) (mCons (mApp newTup (mCons (mC (.str "n")) mNil)) mNil))))) (gmName 2)) (sSeq (sAsg (mB opAdd (mV 2) (mApp newLst (mCons (mApp newTup (mCons (mC (.str "record")) (mCons (mApp newTup mNil) (mCons (mC .non) mNil)))) (mCons (mApp newTup (mCons (mC (.str "record")) (mCons (mApp newLst mNil) (mCons (mC .non) mNil)))) (mCons (mApp newTup (mCons (mC (.str "record")) (mCons (mApp newTup mNil) mNil))) mNil))))) (gmName 2)) (sSeq (sAsg (mB opAdd (mV 2) (mApp newLst (mCons (mApp newTup (mCons (mC (.str "record")) (mCons (mApp newTup mNil) (mCons (mC (.bl true)) mNil)))) (mCons (mApp newTup (mCons (mC (.str "record")) (mCons (mApp newTup mNil) (mCons (mU opNeg (mC (.int 1))) mNil)))) mNil)))) (gmName 2)) (sSeq (sAsg (mB opAdd (mV 2) (mApp newLst (mCons (mApp newTup (mCons (mC (.str "record")) (mCons (mApp newTup mNil) (mCons (mC (.str "1")) mNil)))) (mCons (mApp newTup (mCons (mC (.str "record")) (mCons (mApp newTup mNil) (mCons (mC (.int 7)) mNil)))) (mCons (mApp newTup (mCons (mC (.str "record")) (mCons (mApp newTup (mCons (mApp newTup (mCons (mC (.str "a")) (mCons (mV 1) mNil))) mNil)) (mCons (mC (.int 7)) mNil)))) (mCons (mApp newTup (mCons (mC (.str "record")) (mCons (mApp newTup (mCons (mC (.str "a")) mNil)) (mCons (mC .non) mNil)))) mNil)))))) (gmName 2)) (sSeq (sAsg (mB opAdd (mV 2) (mApp newLst (mCons (mApp newTup (mCons (mC (.str "record")) (mCons (mApp newTup (mCons (mApp newTup (mCons (mC (.str "b")) (mCons (mV 1) mNil))) (mCons (mApp newTup (mCons (mC (.str "a")) (mCons (mV 1) mNil))) mNil))) (mCons (mC .non) mNil)))) (mCons (mApp newTup (mCons (mC (.str "record")) (mCons (mApp newTup (mCons (mApp newTup (mCons (mC (.str "a")) (mCons (mV 1) mNil))) (mCons (mApp newTup (mCons (mC (.str "a")) (mCons (mV 1) mNil))) mNil))) (mCons (mC .non) mNil)))) mNil)))) (gmName 2)) (sSeq (sAsg (mB opAdd (mV 2) (mApp newLst (mCons (mApp newTup (mCons (mC (.str "record")) (mCons (mApp newTup (mCons (mApp newTup (mCons (mC (.str "")) (mCons (mV 1) mNil))) mNil)) (mCons (mC .non) mNil)))) (mCons (mApp newTup (mCons (mC (.str "record")) (mCons (mApp newTup (mCons (mApp newTup (mCons (mC (.str "abcdefghi")) (mCons (mV 1) mNil))) mNil)) (mCons (mC .non) mNil)))) mNil)))) (gmName 2)) (sSeq (sAsg (mB opAdd (mV 2) (mApp newLst (mCons (mApp newTup (mCons (mC (.str "record")) (mCons (mApp newTup (mCons (mApp newTup (mCons (mC (.str "abcdefgh")) (mCons (mV 1) mNil))) mNil)) (mCons (mC .non) mNil)))) (mCons (mApp newTup (mCons (mC (.str "record")) (mCons (mApp newTup (mCons (mApp newTup (mCons (mC (.str "A")) (mCons (mV 1) mNil))) mNil)) (mCons (mC .non) mNil)))) mNil)))) (gmName 2)) (sSeq (sAsg (mB opAdd (mV 2) (mApp newLst (mCons (mApp newTup (mCons (mC (.str "record")) (mCons (mApp newTup (mCons (mApp newTup (mCons (mC (.str "a1")) (mCons (mV 1) mNil))) mNil)) (mCons (mC .non) mNil)))) (mCons (mApp newTup (mCons (mC (.str "record")) (mCons (mApp newTup (mCons (mApp newTup (mCons (mC (.int 5)) (mCons (mV 1) mNil))) mNil)) (mCons (mC .non) mNil)))) mNil)))) (gmName 2)) (sSeq (sAsg (mB opAdd (mV 2) (mApp newLst (mCons (mApp newTup (mCons (mC (.str "record")) (mCons (mApp newTup (mCons (mApp newTup (mCons (mC .non) (mCons (mV 1) mNil))) mNil)) (mCons (mC .non) mNil)))) mNil))) (gmName 2)) (sSeq (sAsg (mB opAdd (mV 2) (mApp newLst (mCons (mApp newTup (mCons (mC (.str "record")) (mCons (mApp newTup (mCons (mApp newLst (mCons (mC (.str "a")) (mCons (mV 1) mNil))) mNil)) (mCons (mC .non) mNil)))) (mCons (mApp newTup (mCons (mC (.str "record")) (mCons (mApp newTup (mCons (mApp newTup (mCons (mC (.str "a")) (mCons (mV 1) (mCons (mC (.int 1)) mNil)))) mNil)) (mCons (mC .non) mNil)))) mNil)))) (gmName 2)) (sSeq (sAsg (mB opAdd (mV 2) (mApp newLst (mCons (mApp newTup (mCons (mC (.str "record")) (mCons (mApp newTup (mCons (mApp newTup (mCons (mC (.str "a")) mNil)) mNil)) (mCons (mC .non) mNil)))) mNil))) (gmName 2)) (sSeq (sAsg (mB opAdd (mV 2) (mApp newLst (mCons (mApp newTup (mCons (mC (.str "record")) (mCons (mApp newTup (mCons (mApp newTup (mCons (mC (.str "a")) (mCons (mApp newTup (mCons (mC (.str "blank")) (mCons (mC (.int 8)) mNil))) mNil))) (mCons (mApp newTup (mCons (mC (.str "b")) (mCons (mApp newTup (mCons (mC (.str "blank")) (mCons (mC (.int 8)) mNil))) mNil))) mNil))) (mCons (mC (.int 8)) mNil)))) (mCons (mApp newTup (mCons (mC (.str "record")) (mCons (mApp newTup (mCons (mApp newTup (mCons (mC (.str "a")) (mCons (mV 1) mNil))) mNil)) (mCons (mC .non) (mCons (mC (.int 1)) mNil))))) mNil)))) (gmName 2)) (sSeq (sAsg (mB opAdd (mV 2) (mApp newLst (mCons (mApp newTup (mCons (mC (.str "record")) (mCons (mApp newTup (mCons (mApp newTup (mCons (mC (.str "a")) (mCons (mApp newTup (mCons (mC (.str "record")) (mCons (mApp newTup mNil) (mCons (mC (.int 9)) mNil)))) mNil))) mNil)) (mCons (mC (.int 9)) mNil)))) (mCons (mApp newTup (mCons (mC (.str "record")) (mCons (mApp newTup (mCons (mApp newTup (mCons (mC (.str "a")) (mCons (mApp newTup (mCons (mC (.str "blank")) (mCons (mC (.int 9)) mNil))) mNil))) mNil)) (mCons (mC (.int 10)) mNil)))) mNil)))) (gmName 2)) (sSeq (sAsg (mB opAdd (mV 2) (mApp newLst (mCons (mApp newTup (mCons (mC (.str "records")) (mCons (mApp newTup mNil) (mCons (mC .non) mNil)))) mNil))) (gmName 2)) (sSeq (sAsg (mB opAdd (mV 2) (mApp newLst (mCons (mApp newTup (mCons (mC (.str "record")) (mCons (mApp newTup (mCons (mApp newTup (mCons (mC (.str "a")) (mCons (mApp newTup (mCons (mC (.str "record")) (mCons (mApp newTup (mCons (mApp newTup (mCons (mC (.str "a")) (mCons (mV 1) mNil))) mNil)) (mCons (mC (.int 9)) mNil)))) mNil))) mNil)) (mCons (mC (.int 9)) mNil)))) (mCons (mApp newTup (mCons (mC (.int 5)) mNil)) (mCons (mApp newTup (mCons (mC .non) (mCons (mC (.int 1)) mNil))) (mCons (mApp newTup (mCons (mC (.str "record")) (mCons (mC .non) (mCons (mC .non) mNil)))) mNil)))))) (gmName 2)) (sRet (mB opIx (mV 2) (mB opMod (mV 0) (mApp cLen (mCons (mV 2) mNil))))))))))))))))))))))
noncomputable def b__law_changed (C : Cs) : Sm :=
  (sSeq (sIf (mOr (mT (mB opNe (mB opIx (mV 0) (mC (.int 0))) (mC (.str "record")))) (mOr (mT (mB opEq (mB opIx (mV 0) (mC (.int 1))) (mApp newTup mNil))) (mT (mB opEq (mB opMod (mV 1) (mC (.int 4))) (mC (.int 0)))))) (sRet (mV 2)) sPass) (sSeq (sAsg (mB opMod (mB opDiv (mV 1) (mC (.int 4))) (mApp cLen (mCons (mB opIx (mV 0) (mC (.int 1))) mNil))) (gmName 3)) (sSeq (sAsg (mApp newTup (mCons (mB opIx (mB opIx (mB opIx (mV 0) (mC (.int 1))) (mV 3)) (mC (.int 0))) (mCons (mApp (C ._law_changed) (mCons (mB opIx (mB opIx (mB opIx (mV 0) (mC (.int 1))) (mV 3)) (mC (.int 1))) (mCons (mB opDiv (mV 1) (mC (.int 16))) (mCons (mV 2) mNil)))) mNil))) (gmName 4)) (sRet (mApp newTup (mCons (mC (.str "record")) (mCons (mB opAdd (mB opAdd (mSl opSl (mB opIx (mV 0) (mC (.int 1))) mNo (mPt (mV 3))) (mApp newTup (mCons (mV 4) mNil))) (mSl opSl (mB opIx (mV 0) (mC (.int 1))) (mPt (mB opAdd (mV 3) (mC (.int 1)))) mNo)) (mCons (mB opIx (mV 0) (mC (.int 2))) mNil))))))))
noncomputable def b__law_word (C : Cs) : Sm :=
  (sSeq (sIf (mOr (mNot (mT (mU (opIsi "str") (mV 0)))) (mNot (mT (mChain opLe opLe (mC (.int 1)) (mApp cLen (mCons (mV 0) mNil)) (mC (.int 8)))))) (sRet (mC (.bl false))) sPass) (sRet (mApp cAll (mCons (mComp (sItems (mV 0)) (gmName 1) mYes (mB opIn (mV 1) (mC (.str "abcdefghijklmnopqrstuvwxyz"))) [1]) mNil))))
noncomputable def b__law_number (C : Cs) : Sm :=
  (sRet (mAndV (mU (opIsi "int") (mV 0)) (mAndV (mNotV (mU (opIsi "bool") (mV 0))) (mB opGe (mV 0) (mC (.int 0))))))
noncomputable def b__law_blank (C : Cs) : Sm :=
  (sSeq (sIf (mAnd (mT (mB opIn (mV 1) (mV 0))) (mT (mB opNe (mB opIx (mV 0) (mV 1)) (mV 2)))) (sRet (mC (.bl false))) sPass) (sSeq (sAsg (mV 2) (gmSub (mV 0) (mV 1) opSet)) (sRet (mC (.bl true)))))
noncomputable def b__law_good (C : Cs) : Sm :=
  (sSeq (sIf (mOr (mT (mB opEq (mV 1) (mC (.int 0)))) (mOr (mNot (mT (mU (opIsi "tuple") (mV 0)))) (mOr (mT (mB opEq (mApp cLen (mCons (mV 0) mNil)) (mC (.int 0)))) (mNot (mT (mU (opIsi "str") (mB opIx (mV 0) (mC (.int 0))))))))) (sRet (mC (.bl false))) sPass) (sSeq (sAsg (mB opAdd (mB opIx (mV 2) (mU opNeg (mC (.int 1)))) (mC (.int 1))) (gmSub (mV 2) (mU opNeg (mC (.int 1))) opSet)) (sSeq (sIf (mT (mB opEq (mB opIx (mV 0) (mC (.int 0))) (mC (.str "number")))) (sRet (mB opEq (mApp cLen (mCons (mV 0) mNil)) (mC (.int 1)))) sPass) (sSeq (sIf (mT (mB opEq (mB opIx (mV 0) (mC (.int 0))) (mC (.str "blank")))) (sRet (mAndV (mB opEq (mApp cLen (mCons (mV 0) mNil)) (mC (.int 2))) (mAndV (mApp (C ._law_number) (mCons (mB opIx (mV 0) (mC (.int 1))) mNil)) (mApp (C ._law_blank) (mCons (mV 2) (mCons (mB opIx (mV 0) (mC (.int 1))) (mCons (mC .non) mNil))))))) sPass) (sSeq (sIf (mOr (mT (mB opNe (mB opIx (mV 0) (mC (.int 0))) (mC (.str "record")))) (mOr (mT (mB opNe (mApp cLen (mCons (mV 0) mNil)) (mC (.int 3)))) (mNot (mT (mU (opIsi "tuple") (mB opIx (mV 0) (mC (.int 1)))))))) (sRet (mC (.bl false))) sPass) (sSeq (sAsg (mApp newRef mNil) (gmName 3)) (sSeq (sFor (sItems (mB opIx (mV 0) (mC (.int 1)))) (gmName 4) (sSeq (sIf (mOr (mNot (mT (mU (opIsi "tuple") (mV 4)))) (mOr (mT (mB opNe (mApp cLen (mCons (mV 4) mNil)) (mC (.int 2)))) (mNot (mT (mApp (C ._law_word) (mCons (mB opIx (mV 4) (mC (.int 0))) mNil)))))) (sRet (mC (.bl false))) sPass) (sSeq (sIf (mOr (mAnd (mT (mB opNe (mV 3) (mApp newLst mNil))) (mT (mB opGe (mB opIx (mV 3) (mU opNeg (mC (.int 1)))) (mB opIx (mV 4) (mC (.int 0)))))) (mNot (mT (mApp (C ._law_good) (mCons (mB opIx (mV 4) (mC (.int 1))) (mCons (mB opSub (mV 1) (mC (.int 1))) (mCons (mV 2) mNil))))))) (sRet (mC (.bl false))) sPass) (sExpr (mMt isLst cAppend (mV 3) (mCons (mB opIx (mV 4) (mC (.int 0))) mNil)))))) (sRet (mOrV (mB opIsN (mB opIx (mV 0) (mC (.int 2))) (mC .non)) (mAndV (mApp (C ._law_number) (mCons (mB opIx (mV 0) (mC (.int 2))) mNil)) (mApp (C ._law_blank) (mCons (mV 2) (mCons (mB opIx (mV 0) (mC (.int 2))) (mCons (mV 3) mNil))))))))))))))
noncomputable def b__law_due (C : Cs) : Sm :=
  (sSeq (sAsg (mDispI (-1) (0)) (gmName 1)) (sRet (mAndV (mApp (C ._law_good) (mCons (mV 0) (mCons (mC (.int 12)) (mCons (mV 1) mNil)))) (mB opLe (mB opIx (mV 1) (mU opNeg (mC (.int 1)))) (mC (.int 200))))))
noncomputable def b__law_merged (C : Cs) : Sm :=
  (sSeq (sIf (mT (mB opEq (mB opIx (mV 0) (mC (.int 0))) (mC (.str "blank")))) (sRet (mApp newTup (mCons (mC (.str "blank")) (mCons (mB opMod (mB opIx (mV 0) (mC (.int 1))) (mV 1)) mNil)))) sPass) (sSeq (sIf (mT (mB opEq (mB opIx (mV 0) (mC (.int 0))) (mC (.str "number")))) (sRet (mV 0)) sPass) (sSeq (sAsg (mB opIx (mV 0) (mC (.int 2))) (gmName 2)) (sSeq (sIf (mT (mB opNotN (mV 2) (mC .non))) (sAsg (mB opMod (mV 2) (mV 1)) (gmName 2)) sPass) (sRet (mApp newTup (mCons (mC (.str "record")) (mCons (mApp cTuple (mCons (mComp (sItems (mB opIx (mV 0) (mC (.int 1)))) (gmTup [4, 3]) mYes (mApp newTup (mCons (mV 4) (mCons (mApp (C ._law_merged) (mCons (mV 3) (mCons (mV 1) mNil))) mNil))) [4, 3]) mNil)) (mCons (mV 2) mNil)))))))))
noncomputable def b__law_thing (C : Cs) : Sm :=
  (sSeq (sIf (mT (mB opEq (mB opMod (mV 2) (mC (.int 4))) (mC (.int 0)))) (sRet (mApp (C ._law_merged) (mCons (mV 0) (mCons (mB opAdd (mC (.int 2)) (mB opMod (mV 3) (mC (.int 3)))) mNil)))) sPass) (sSeq (sIf (mT (mB opEq (mB opMod (mV 2) (mC (.int 4))) (mC (.int 1)))) (sSeq (sAsg (mV 0) (gmName 4)) (sSeq (sFor (sRange1 (mB opMod (mV 3) (mC (.int 12)))) (gmName 5) (sAsg (mApp newTup (mCons (mC (.str "record")) (mCons (mApp newTup (mCons (mApp newTup (mCons (mB opIx (mV 1) (mB opMod (mV 5) (mC (.int 4)))) (mCons (mV 4) mNil))) mNil)) (mCons (mC .non) mNil)))) (gmName 4))) (sRet (mV 4)))) sPass) (sSeq (sIf (mAnd (mT (mB opEq (mB opMod (mV 2) (mC (.int 4))) (mC (.int 2)))) (mT (mB opEq (mB opMod (mB opDiv (mV 2) (mC (.int 4))) (mC (.int 4))) (mC (.int 0))))) (sSeq (sAsg (mC (.str "abcdefghijklmnopqrstuvwxyz")) (gmName 6)) (sSeq (sAsg (mB opIx (mApp newLst (mCons (mB opMod (mB opDiv (mV 3) (mC (.int 2))) (mC (.int 210))) (mCons (mB opAdd (mC (.int 199)) (mB opMod (mB opDiv (mV 3) (mC (.int 2))) (mC (.int 3)))) mNil))) (mB opMod (mV 3) (mC (.int 2)))) (gmName 7)) (sSeq (sAsg (mComp (sRange1 (mV 7)) (gmName 5) mYes (mB opAdd (mB opIx (mV 6) (mB opDiv (mV 5) (mC (.int 26)))) (mB opIx (mV 6) (mB opMod (mV 5) (mC (.int 26))))) [5]) (gmName 8)) (sRet (mApp newTup (mCons (mC (.str "record")) (mCons (mApp cTuple (mCons (mComp (sItems (mV 8)) (gmName 9) mYes (mApp newTup (mCons (mV 9) (mCons (mApp newTup (mCons (mC (.str "number")) mNil)) mNil))) [9]) mNil)) (mCons (mC .non) mNil)))))))) sPass) (sRet (mApp (C ._law_changed) (mCons (mV 0) (mCons (mB opDiv (mV 2) (mC (.int 4))) (mCons (mApp (C ._law_odd) (mCons (mV 3) (mCons (mApp newTup (mCons (mC (.str "number")) mNil)) mNil))) mNil))))))))
noncomputable def b_law (C : Cs) : Sm :=
  (sSeq (sAsg (mApp (C ._law_labels) (mCons (mApp (C ._law_cell) (mCons (mV 0) (mCons (mC (.int 2)) mNil))) (mCons (mC (.int 4)) mNil))) (gmName 1)) (sSeq (sAsg (mApp newRef (mCons (mB opAdd (mC (.int 1)) (mB opMod (mApp (C ._law_cell) (mCons (mV 0) (mCons (mC (.int 0)) mNil))) (mC (.int 2147483645)))) (mCons (mB opAdd (mC (.int 1)) (mB opMod (mApp (C ._law_cell) (mCons (mV 0) (mCons (mC (.int 1)) mNil))) (mC (.int 40)))) mNil))) (gmName 2)) (sSeq (sAsg (mApp newLst (mCons (mB opAdd (mC (.int 1)) (mB opMod (mApp (C ._law_cell) (mCons (mV 0) (mCons (mC (.int 3)) mNil))) (mB opPow (mC (.int 10)) (mC (.int 6))))) (mCons (mApp newRef mNil) mNil))) (gmName 3)) (sSeq (sAsg (mApp (C ._law_kind) (mCons (mV 2) (mCons (mV 1) (mCons (mV 3) (mCons (mB opAdd (mC (.int 2)) (mB opMod (mB opDiv (mApp (C ._law_cell) (mCons (mV 0) (mCons (mC (.int 1)) mNil))) (mC (.int 40))) (mC (.int 11)))) mNil))))) (gmName 4)) (sSeq (sAsg (mApp newRef (mCons (mV 4) mNil)) (gmName 5)) (sSeq (sFor (sItems (mApp newLst (mCons (mC (.int 8)) (mCons (mC (.int 9)) mNil)))) (gmName 6) (sExpr (mMt isLst cAppend (mV 5) (mCons (mApp newTup (mCons (mC (.str "record")) (mCons (mApp newTup (mCons (mApp newTup (mCons (mSl opSl (mB opAdd (mB opIx (mV 1) (mC (.int 0))) (mC (.str "aaaaaaaaa"))) mNo (mPt (mV 6))) (mCons (mApp newTup (mCons (mC (.str "number")) mNil)) mNil))) mNil)) (mCons (mC .non) mNil)))) mNil)))) (sSeq (sFor (sRange1 (mC (.int 4))) (gmName 7) (sExpr (mMt isLst cAppend (mV 5) (mCons (mApp (C ._law_thing) (mCons (mV 4) (mCons (mV 1) (mCons (mApp (C ._law_cell) (mCons (mV 0) (mCons (mB opAdd (mC (.int 4)) (mB opMul (mC (.int 2)) (mV 7))) mNil))) (mCons (mApp (C ._law_cell) (mCons (mV 0) (mCons (mB opAdd (mC (.int 5)) (mB opMul (mC (.int 2)) (mV 7))) mNil))) mNil))))) mNil)))) (sSeq (sFor (sItems (mB opAdd (mV 5) (mSl opSl (mV 5) mNo (mPt (mC (.int 2)))))) (gmName 8) (sSeq (sAsg (mApp (C .is_kind) (mCons (mV 8) mNil)) (gmName 9)) (sIf (mOr (mNot (mT (mU (opIsi "bool") (mV 9)))) (mT (mB opNe (mV 9) (mApp (C ._law_due) (mCons (mV 8) mNil))))) (sRet (mC (.bl false))) sPass))) (sRet (mC (.bl true)))))))))))
noncomputable def body (C : Cs) : Fn → Sm
  | .is_whole => b_is_whole C
  | .is_word => b_is_word C
  | .is_pair => b_is_pair C
  | .is_rest => b_is_rest C
  | .is_row => b_is_row C
  | .is_kind_in => b_is_kind_in C
  | .knots => b_knots C
  | .blanks_in => b_blanks_in C
  | .put_blank => b_put_blank C
  | .is_kind => b_is_kind C
  | ._law_cell => b__law_cell C
  | ._law_next => b__law_next C
  | ._law_labels => b__law_labels C
  | ._law_kind => b__law_kind C
  | ._law_odd => b__law_odd C
  | ._law_changed => b__law_changed C
  | ._law_word => b__law_word C
  | ._law_number => b__law_number C
  | ._law_blank => b__law_blank C
  | ._law_good => b__law_good C
  | ._law_due => b__law_due C
  | ._law_merged => b__law_merged C
  | ._law_thing => b__law_thing C
  | .law => b_law C
def slots : Fn → Nat
  | .is_whole => 1
  | .is_word => 2
  | .is_pair => 1
  | .is_rest => 1
  | .is_row => 4
  | .is_kind_in => 2
  | .knots => 2
  | .blanks_in => 4
  | .put_blank => 3
  | .is_kind => 1
  | ._law_cell => 2
  | ._law_next => 1
  | ._law_labels => 10
  | ._law_kind => 9
  | ._law_odd => 3
  | ._law_changed => 5
  | ._law_word => 2
  | ._law_number => 1
  | ._law_blank => 3
  | ._law_good => 5
  | ._law_due => 2
  | ._law_merged => 5
  | ._law_thing => 10
  | .law => 10
def nm : Fn → Str
  | .is_whole => "is_whole"
  | .is_word => "is_word"
  | .is_pair => "is_pair"
  | .is_rest => "is_rest"
  | .is_row => "is_row"
  | .is_kind_in => "is_kind_in"
  | .knots => "knots"
  | .blanks_in => "blanks_in"
  | .put_blank => "put_blank"
  | .is_kind => "is_kind"
  | ._law_cell => "_law_cell"
  | ._law_next => "_law_next"
  | ._law_labels => "_law_labels"
  | ._law_kind => "_law_kind"
  | ._law_odd => "_law_odd"
  | ._law_changed => "_law_changed"
  | ._law_word => "_law_word"
  | ._law_number => "_law_number"
  | ._law_blank => "_law_blank"
  | ._law_good => "_law_good"
  | ._law_due => "_law_due"
  | ._law_merged => "_law_merged"
  | ._law_thing => "_law_thing"
  | .law => "law"
def ar : Fn → Nat
  | .is_whole => 1
  | .is_word => 1
  | .is_pair => 1
  | .is_rest => 1
  | .is_row => 2
  | .is_kind_in => 2
  | .knots => 1
  | .blanks_in => 2
  | .put_blank => 3
  | .is_kind => 1
  | ._law_cell => 2
  | ._law_next => 1
  | ._law_labels => 2
  | ._law_kind => 4
  | ._law_odd => 2
  | ._law_changed => 3
  | ._law_word => 1
  | ._law_number => 1
  | ._law_blank => 3
  | ._law_good => 3
  | ._law_due => 1
  | ._law_merged => 2
  | ._law_thing => 4
  | .law => 1
noncomputable def fin : Fn → PM.Fin
  | .is_whole => finRaw
  | .is_word => finRaw
  | .is_pair => finRaw
  | .is_rest => finRaw
  | .is_row => finRaw
  | .is_kind_in => finRaw
  | .knots => finRaw
  | .blanks_in => finRaw
  | .put_blank => finRaw
  | .is_kind => (finFrz 0)
  | ._law_cell => finRaw
  | ._law_next => finRaw
  | ._law_labels => (finFrz 1)
  | ._law_kind => finRaw
  | ._law_odd => finRaw
  | ._law_changed => finRaw
  | ._law_word => finRaw
  | ._law_number => finRaw
  | ._law_blank => finRaw
  | ._law_good => finRaw
  | ._law_due => (finFrz 0)
  | ._law_merged => finRaw
  | ._law_thing => finRaw
  | .law => finRaw
/-- what the defs answer, to a depth of calls -/
noncomputable def run : Nat → Cs
  | 0, _ => fun _ _ => .stuck
  | k + 1, f => fun ds S => fin f S (runB (body (run k) f) (slots f) ds S)

end K_k02
section
namespace K_k02
open PySem L2 PM
theorem run_succ (k : Nat) (f : Fn) (ds : List D) (S : Sto) : run (k + 1) f ds S = fin f S (runB (body (run k) f) (slots f) ds S) := rfl
theorem next_ok {k n : Nat} {S : Sto} {a b : Int} (h : S[n]? = some (.lst [.int a, .int b])) :
    run (k + 1) ._law_next [.ref n] S = .ok (.int ((a * 48271 + 11) % 2147483647 / 7)) (S.set n (.lst [.int ((a * 48271 + 11) % 2147483647), .int (b - 1)])) := by
  have e : ∀ o : MO, (S.set n o)[n]? = some o := fun o => sto_set h
  rw [run_succ]
  simp only [body, fin, slots, runB, b__law_next]
  simp [opIx_ref h, opMul_r, opMod_pos, opDiv_pos, opSet_lst h, opIx_ref (e _), opSet_lst (e _), finRaw]
theorem cell_ok {k : Nat} {S : Sto} {ns : List Int} {j : Nat} : run (k + 1) ._law_cell [.scr (ns.map .int), .int j] S = .ok (.int (cellv ns j)) S := by
  rw [run_succ]
  simp only [body, fin, slots, runB, b__law_cell]
  by_cases h : j < ns.length
  · simp [h, opMul_r, opMod_pos, finRaw, cellv]
  · simp [h, finRaw, cellv]

end K_k02
end
section
namespace K_k02
open PySem L2 PM
theorem labels_ok {k : Nat} {S : Sto} {c : Int} {m : Nat} (h0 : 0 ≤ c) (hm : m ≤ 8) : run (k + 1) ._law_labels [.int c, .int m] S = .ok (.lst ((labs c m).map .str)) S := by
  rw [run_succ]
  simp only [body, fin, slots, runB, b__law_labels]
  have h7 : 0 ≤ c % 7 ∧ c % 7 < 7 := ⟨by omega, by omega⟩
  have hA : 0 ≤ c / 7 % (c % 7 + 1) := Int.emod_nonneg _ (by omega)
  have l1 : limR 0 (c % 7) = true := limR_ok (by omega)
  have l2 : limR 0 (m : Int) = true := limR_ok (by omega)
  simp [opMod_pos, opDiv_pos, l1, l2, show (0 : Int) < c % 7 + 1 by omega, wipeD, rangeD_map]
  rw [comp_map (f := fun (k : Nat) => D.str ⟨#[sg (c / 49 % 26 + c / 1274 * (k : Int))]⟩) (hg := trivial) (h := fun x hx => by
    have hx : x < (c % 7).toNat := by simpa using hx
    refine ⟨_, rfl, rfl, ?_⟩
    have b0 := Int.emod_nonneg (c / 49 + c / 1274 * (x : Int)) (show (26 : Int) ≠ 0 by decide)
    have b1 := Int.emod_lt_of_pos (c / 49 + c / 1274 * (x : Int)) (show (0 : Int) < 26 by decide)
    simp [opDiv_pos, opMul_r (show -18446744073709551616 < (x : Int) ∧ (x : Int) < 18446744073709551616 by omega), opMod_pos, opIx_alpha b0 b1, sg])]
  simp only [R.bind_ok, List.nil_append]
  rw [join_map (fun k : Nat => sg (c / 49 % 26 + c / 1274 * (k : Int))) _ (by simp; omega)]
  have hle : (c / 7 % (c % 7 + 1)).toNat ≤ (⟨(labB c).toArray⟩ : Str).length := by
    have := labA_le h0
    simpa [labA, Str.length] using this
  have hlen : (labB c).length ≤ 7 := by rw [labB_len]; omega
  rw [show (List.range (c % 7).toNat).map (fun k : Nat => sg (c / 49 % 26 + c / 1274 * (k : Int))) = labB c from rfl]
  simp [l2, rangeD_map]
  generalize hL : loopM _ _ _ _ _ = r
  obtain ⟨δ', S', e, ⟨a, b, eδ⟩, eS⟩ := loop_of hL (fun i δ S' => (∃ a b, δ = [some (.int c), some (.int m), some (.str (Str.ofString "abcdefghijklmnopqrstuvwxyz")), some (.int (c % 7)), some (.int (c / 7 % (c % 7 + 1))), some (.int (c / 49 % 26)), some (.str ⟨(labB c).toArray⟩), a, some (.ref S.length), b]) ∧ S' = S ++ [.lst ((labs c i).map .str)])
    ⟨⟨_, _, rfl⟩, by simp [labs]⟩ (fun i x δ S1 hx ⟨⟨a, b, hδ⟩, hS⟩ => by
      rw [List.getElem?_map] at hx
      have hi : i < m := by
        rcases Nat.lt_or_ge i m with h | h
        · exact h
        · rw [List.getElem?_eq_none (by simpa using h)] at hx; cases hx
      rw [List.getElem?_range hi] at hx
      have ex : x = .int (i : Int) := by simpa using hx.symm
      subst hδ hS ex
      have b0 := Int.emod_nonneg (c / 49 + 3 * (i : Int)) (show (26 : Int) ≠ 0 by decide)
      have b1 := Int.emod_lt_of_pos (c / 49 + 3 * (i : Int)) (show (0 : Int) < 26 by decide)
      have hl : ((labs c i).map D.str).length < sizeLine := by rw [List.length_map, labs_len]; exact Nat.lt_of_lt_of_le (by omega) szl
      have z1 : (⟨((labB c).take (c / 7 % (c % 7 + 1)).toNat).toArray⟩ : Str).length + (⟨#[sg (c / 49 + 3 * (i : Int))]⟩ : Str).length ≤ sizeLine := by
        refine Nat.le_trans ?_ szl
        show _ + 1 ≤ _
        simp [Str.length]; omega
      have z2 : (⟨((labB c).take (c / 7 % (c % 7 + 1)).toNat ++ [sg (c / 49 + 3 * (i : Int))]).toArray⟩ : Str).length + (⟨((labB c).drop (c / 7 % (c % 7 + 1)).toNat).toArray⟩ : Str).length ≤ sizeLine := by
        refine Nat.le_trans ?_ szl
        simp [Str.length]; omega
      refine ⟨_, _, .inl ?_, ⟨some (.int i), some (.str ⟨#[sg (c / 49 + 3 * (i : Int))]⟩), rfl⟩, rfl⟩
      have hs : (⟨#[97 + ((c / 49 + 3 * (i : Int)) % 26).toNat]⟩ : Str) = ⟨#[sg (c / 49 + 3 * (i : Int))]⟩ := rfl
      have e1 : (⟨((labB c).take (c / 7 % (c % 7 + 1)).toNat).toArray⟩ : Str) ++ ⟨#[sg (c / 49 + 3 * (i : Int))]⟩ = ⟨((labB c).take (c / 7 % (c % 7 + 1)).toNat ++ [sg (c / 49 + 3 * (i : Int))]).toArray⟩ := str_app _ [sg (c / 49 + 3 * (i : Int))]
      have e2 := str_app ((labB c).take (c / 7 % (c % 7 + 1)).toNat ++ [sg (c / 49 + 3 * (i : Int))]) ((labB c).drop (c / 7 % (c % 7 + 1)).toNat)
      simp [loopB_eq, opDiv_pos, opMul_l, opMod_pos, opIx_alpha b0 b1, isLst_ref, cutS_to hA hle, cutS_from hA hle, hs]
      rw [opAdd_str z1, e1]
      simp only [R.bind_ok]
      rw [opAdd_str z2, e2]
      simp only [R.bind_ok]
      rw [cAppend_ref sto_snoc hl]
      simp
      rw [labs, labs, List.range_succ]
      simp [lab, labL, labA])
  subst e eδ eS
  simp
  exact finFrz_ref (Nat.le_refl _) sto_snoc (cls_map fun _ _ => rfl)

end K_k02
end
section
namespace K_k02
open PySem L2 PM
theorem whole_ok {k n : Nat} {S : Sto} {d : D} (h : th n d = true) : run (k + 1) .is_whole [d] S = .ok (.bl (isWholeD d)) S := by
  rw [run_succ]
  simp only [body, fin, slots, runB, b_is_whole]
  cases d <;> first
    | (cases n <;> cases h; done)
    | simp [finRaw, isWholeD]
theorem word_ok {k n : Nat} {S : Sto} {d : D} (h : th n d = true) : run (k + 1) .is_word [d] S = .ok (.bl (isWordD d)) S := by
  rw [run_succ]
  simp only [body, fin, slots, runB, b_is_word]
  cases d with
  | str s =>
    simp [wipeD]
    by_cases h1 : 1 ≤ s.length
    · have h1' : (1 : Int) ≤ (s.length : Int) := by omega
      by_cases h2 : s.length ≤ 8
      · have h2' : (s.length : Int) ≤ 8 := by omega
        simp [h1', h2']
        rw [comp_map (i := fun c : Nat => D.str ⟨#[c]⟩) (f := fun c => .bl (decide (c ∈ alphaS.cps.toList))) (hg := trivial) (h := fun c _ => ⟨_, rfl, rfl, by simp [opIn_sign, alphaS]⟩)]
        simp [cAll_map, finRaw, isWordD, h1, h2, azS]
      · have h2' : ¬ (s.length : Int) ≤ 8 := by omega
        simp [h1', h2', finRaw, isWordD, h1, h2]
    · have h1' : ¬ (1 : Int) ≤ (s.length : Int) := by omega
      simp [h1', finRaw, isWordD, h1]
  | _ => first
    | (cases n <;> cases h; done)
    | simp [finRaw, isWordD]
theorem lword_ok {k n : Nat} {S : Sto} {d : D} (h : th n d = true) : run (k + 1) ._law_word [d] S = .ok (.bl (isWordD d)) S := by
  rw [run_succ]
  simp only [body, fin, slots, runB, b__law_word]
  cases d with
  | str s =>
    simp [wipeD]
    by_cases h1 : 1 ≤ s.length
    · have h1' : (1 : Int) ≤ (s.length : Int) := by omega
      by_cases h2 : s.length ≤ 8
      · have h2' : (s.length : Int) ≤ 8 := by omega
        simp [h1', h2', wipeD]
        rw [comp_map (i := fun c : Nat => D.str ⟨#[c]⟩) (f := fun c => .bl (decide (c ∈ alphaS.cps.toList))) (hg := trivial) (h := fun c _ => ⟨_, rfl, rfl, by simp [opIn_sign, alphaS]⟩)]
        simp [cAll_map, finRaw, isWordD, h1, h2, azS]
      · have h2' : ¬ (s.length : Int) ≤ 8 := by omega
        simp [h1', h2', finRaw, isWordD, h1, h2]
    · have h1' : ¬ (1 : Int) ≤ (s.length : Int) := by omega
      simp [h1', finRaw, isWordD, h1]
  | _ => first
    | (cases n <;> cases h; done)
    | simp [finRaw, isWordD]
theorem rest_ok {k n : Nat} {S : Sto} {d : D} (h : th n d = true) : run (k + 2) .is_rest [d] S = .ok (.bl (isRestD d)) S := by
  have hw := whole_ok (k := k) (S := S) h
  rw [run_succ]
  simp only [body, fin, slots, runB, b_is_rest]
  cases d <;> first
    | (cases n <;> cases h; done)
    | simp [finRaw, isRestD, isNon, hw, isWholeD]
theorem pair_ok {k n : Nat} {S : Sto} {d : D} (h : th n d = true) : run (k + 2) .is_pair [d] S = .ok (.bl (isPairD d)) S := by
  rw [run_succ]
  simp only [body, fin, slots, runB, b_is_pair]
  cases d with
  | tup ds =>
    cases n with
    | zero => cases h
    | succ n =>
    match ds, h with
    | [], _ => simp [finRaw, isPairD]
    | [a], _ => simp [finRaw, isPairD]
    | [a, b], h =>
      have ha : th n a = true := by simp [th] at h; exact h.1
      simp [finRaw, isPairD, word_ok (k := k) ha]
    | a :: b :: c :: r, _ =>
      have : ¬ ((r.length : Int) + 1 + 1 + 1 = 2) := by omega
      simp [finRaw, isPairD, this]
  | _ => first
    | (cases n <;> cases h; done)
    | simp [finRaw, isPairD]

end K_k02
end
section
namespace K_k02
open PySem L2 PM
theorem row_ok {k n m : Nat} {S : Sto} {d : D} (hd : th (m + 1) d = true) (hC : ∀ x, th m x = true → run (k + 2) .is_kind_in [x, .int n] S = .ok (.bl (kindIn n x)) S) :
    run (k + 3) .is_row [d, .int n] S = .ok (.bl (rowIn (kindIn n) d)) S := by
  rw [run_succ]
  simp only [body, fin, slots, runB, b_is_row]
  cases d with
  | tup ps =>
    have hps : ∀ p ∈ ps, th m p = true := by
      simp only [th, Bool.and_eq_true, List.all_eq_true] at hd
      exact hd.2
    have hlen : ps.length ≤ 1000 := by
      simp only [th, Bool.and_eq_true, decide_eq_true_eq] at hd
      exact hd.1
    simp [wipeD]
    have e1 := comp_pure (grd := fun _ => True) (g := gmName 2) (t := mYes) (e := mApp (run (k + 2) .is_pair) (mCons (mV 2) mNil)) (δ := [some (.tup ps), some (.int n), none, none]) (S := S) (fun p => .bl (isPairD p)) trivial ps [] fun p hp => ⟨_, rfl, rfl, by simp [pair_ok (k := k) (hps p hp)]⟩
    obtain ⟨b1, hb1⟩ : ∃ b, b = ps.all isPairD := ⟨_, rfl⟩
    have hA : ∀ S, cAll [.lst (ps.map fun p => .bl (isPairD p))] S = .ok (.bl b1) S := fun S => by rw [cAll_map, hb1]
    rw [e1]
    simp [hA]
    cases b1 with
    | false => simp [finRaw, rowIn, ← hb1]
    | true =>
      have c1 := hb1.symm
      have hpr : ∀ p ∈ ps, ∃ s b, p = .tup [.str s, b] ∧ IsLab s := fun p hp => pair_is (List.all_eq_true.mp c1 p hp)
      have e2 := comp_pure (grd := fun _ => True) (g := gmName 2) (t := mYes) (e := mB opIx (mV 2) (mC (.int 0))) (δ := [some (.tup ps), some (.int n), none, none]) (S := S) (fun p => .str (labD p)) trivial ps [] fun p hp => by
        obtain ⟨s, b, e, _⟩ := hpr p hp
        subst e
        exact ⟨_, rfl, rfl, by simp [labD]⟩
      have hw : WOk (ps.map labD) := fun x hx => by
        obtain ⟨p, hp, e⟩ := List.mem_map.mp hx
        obtain ⟨s, b, e2, h⟩ := hpr p hp
        subst e e2
        exact h
      have e3 : ps.map (fun p => D.str (labD p)) = (ps.map labD).map .str := by rw [List.map_map]; rfl
      rw [e3, List.nil_append] at e2
      have hs : cSorted [.lst ((ps.map labD).map .str)] S = .ok (.lst ((sortStr (ps.map labD)).map .str)) S := by simp only [cSorted, rdL, asL, strsOf_id]
      have hset : mLenSet (mV 3) [some (.tup ps), some (.int n), none, some (.lst ((ps.map labD).map .str))] S = .ok (.int (ndist (ps.map labD) (ps.map labD).length : Nat)) S := by
        simp only [mLenSet, mV_eq, List.getElem?_cons_succ, List.getElem?_cons_zero, R.bind_ok, rdL, asL, strsOf_id]
        rw [if_pos (by rw [List.length_map]; omega)]
      have hne := opNe_of (eqD_w (S := S) hw (sort_wok hw))
      have hk := comp_pure (grd := fun _ => True) (g := gmName 2) (t := mYes) (e := mApp (run (k + 2) .is_kind_in) (mCons (mB opIx (mV 2) (mC (.int 1))) (mCons (mV 1) mNil))) (δ := [some (.tup ps), some (.int n), none, some (.lst ((ps.map labD).map .str))]) (S := S) (fun p => .bl (kindIn n (sndD p))) trivial ps [] fun p hp => by
        obtain ⟨s, b, e, _⟩ := hpr p hp
        have ht := hps p hp
        subst e
        have hb : th m b = true := (th_pair ht).2
        exact ⟨_, rfl, rfl, by simp [sndD, hC b hb]⟩
      obtain ⟨b2, hb2⟩ : ∃ b, b = ps.all fun p => kindIn n (sndD p) := ⟨_, rfl⟩
      have hA2 : ∀ S, cAll [.lst (ps.map fun p => .bl (kindIn n (sndD p)))] S = .ok (.bl b2) S := fun S => by rw [cAll_map, hb2]
      rw [List.nil_append] at hk
      generalize hlw : ps.map labD = lw at *
      have hrow : rowIn (kindIn n) (.tup ps) = (ascS lw && b2) := by simp only [rowIn, c1, Bool.true_and, ← hb2, hlw]
      rw [hrow]
      simp [wipeD, e2, hs, hne]
      by_cases d1 : lw = sortStr lw
      · by_cases d2 : ndist lw lw.length = lw.length
        · have d2' : ((ndist lw lw.length : Nat) : Int) = lw.length := by rw [d2]
          simp [← d1, hset, d2', wipeD, hk, hA2, finRaw, ascS, d2]
        · have d2' : ¬ ((ndist lw lw.length : Nat) : Int) = lw.length := by omega
          simp [← d1, hset, d2', finRaw, ascS, d2]
      · simp [d1, finRaw, ascS]
  | _ => first
    | (cases hd; done)
    | simp [finRaw, rowIn]
theorem kindin_ok : ∀ (n : Nat) {m j : Nat} {S : Sto} {d : D}, th m d = true → 2 * n + 4 ≤ j → run j .is_kind_in [d, .int n] S = .ok (.bl (kindIn n d)) S := by
  intro n
  induction n with
  | zero =>
    intro m j S d hd hj
    obtain ⟨j, rfl⟩ : ∃ i, j = i + 1 := ⟨j - 1, by omega⟩
    rw [run_succ]
    simp only [body, fin, slots, runB, b_is_kind_in]
    simp [finRaw, kindIn]
  | succ n ih =>
    intro m j S d hd hj
    obtain ⟨j, rfl⟩ : ∃ i, j = i + 6 := ⟨j - 6, by omega⟩
    have hn : ¬ ((n : Int) + 1 = 0) := by omega
    have ih' : ∀ {S : Sto} {x : D} {m : Nat}, th m x = true → run (j + 4) .is_kind_in [x, .int n] S = .ok (.bl (kindIn n x)) S := fun h => ih h (by omega)
    rw [run_succ]
    simp only [body, fin, slots, runB, b_is_kind_in]
    cases d with
    | tup ds =>
      cases m with
      | zero => cases hd
      | succ m =>
      have hds : ∀ x ∈ ds, th m x = true := by
        simp only [th, Bool.and_eq_true, List.all_eq_true] at hd
        exact hd.2
      cases ds with
      | nil => simp [hn, finRaw, kindIn]
      | cons x r =>
        have hx := hds x (by simp)
        have hlt : ¬ ((r.length : Int) + 1 < 1) := by omega
        cases x with
        | str s =>
          by_cases c1 : s = Str.ofString "number"
          · cases r with
            | nil => simp [hn, c1, finRaw, kindIn]
            | cons y r =>
              have : ¬ ((r.length : Int) + 1 + 1 = 1) := by omega
              have h2 : ¬ ((r.length : Int) + 1 + 1 < 1) := by omega
              simp [hn, c1, finRaw, kindIn, this, h2]
          by_cases c2 : s = Str.ofString "blank"
          · have hk0 : kindIn (n + 1) (.tup (.str s :: r)) = blankIn r := by rw [kindIn, if_neg c1, if_pos c2]
            rw [hk0]
            have c4 : ¬ Str.ofString "blank" = Str.ofString "number" := by rw [← c2]; exact c1
            match r, hds with
            | [], _ => simp [hn, c2, finRaw, blankIn]
            | [y], hds =>
              have hy := hds y (by simp)
              have hw := whole_ok (k := j + 4) (S := S) hy
              cases y <;> first
                | (cases m <;> cases hy; done)
                | simp [hn, c2, finRaw, blankIn, hw, isWholeD]
            | y :: z :: r, _ =>
              have h1 : ¬ ((r.length : Int) + 1 + 1 + 1 = 2) := by omega
              have h2 : ¬ ((r.length : Int) + 1 + 1 + 1 < 1) := by omega
              cases y <;> simp [hn, c2, finRaw, blankIn, h1, h2]
          have hk0 : kindIn (n + 1) (.tup (.str s :: r)) = (decide (s = Str.ofString "record") && recIn (kindIn n) r) := by rw [kindIn, if_neg c1, if_neg c2]
          rw [hk0]
          by_cases c3 : s = Str.ofString "record"
          · match r, hds with
            | [], _ => simp [hn, c3, finRaw, recIn]
            | [y], hds => simp [hn, c3, finRaw, recIn]
            | [y, z], hds =>
              have hy := hds y (by simp)
              have hz := hds z (by simp)
              have hr := rest_ok (k := j + 3) (S := S) hz
              have hw := row_ok (k := j + 2) (n := n) (S := S) (th_mono y (Nat.le_succ m) hy) (fun x hx => ih' hx)
              cases h5 : isRestD z with
              | true => rw [h5] at hr; simp [hn, c3, finRaw, recIn, hr, hw, h5]
              | false => rw [h5] at hr; simp [hn, c3, finRaw, recIn, hr, h5]
            | y :: z :: w :: r, _ =>
              have h1 : ¬ ((r.length : Int) + 1 + 1 + 1 + 1 = 3) := by omega
              have h2 : ¬ ((r.length : Int) + 1 + 1 + 1 + 1 < 1) := by omega
              simp [hn, c3, finRaw, recIn, h1, h2]
          · simp [hn, hlt, c1, c2, c3, finRaw]
        | _ => first
          | (cases m <;> cases hx; done)
          | simp [hn, hlt, finRaw, kindIn]
    | _ => first
      | (cases m <;> cases hd; done)
      | simp [hn, finRaw, kindIn]

end K_k02
end
section
namespace K_k02
open PySem L2 PM
theorem knots_ok : ∀ (n : Nat) {j : Nat} {S : Sto} {k : K}, VK n k → n ≤ j → run j .knots [kd k] S = .ok (.int (kn k : Nat)) S := by
  intro n
  induction n with
  | zero => intro j S k h; cases h
  | succ n ih =>
    intro j S k h hj
    obtain ⟨j, rfl⟩ : ∃ i, j = i + 1 := ⟨j - 1, by omega⟩
    rw [run_succ]
    simp only [body, fin, slots, runB, b_knots]
    cases h with
    | num => simp [kd, finRaw, kn]
    | blk h => simp [kd, finRaw, kn]
    | rc h1 h2 h3 h4 h5 =>
      rename_i ls ks r
      simp [kd, wipeD]
      rw [fld_zipK h1, comp_map (i := fun p : Str × K => .tup [.str p.1, kd p.2]) (f := fun p => .int (kn p.2 : Nat)) (hg := trivial) (h := fun p hp => ⟨_, rfl, rfl, by simp [ih (h4 p.2 (zip_mem hp).2) (show n ≤ j by omega)]⟩)]
      have hs : cSum [.lst ((ls.zip ks).map fun p => D.int ((kn p.2 : Nat) : Int))] S = .ok (.int (kns ks : Nat)) S := by rw [cSum_map, sum_zip h1]
      simp [hs, finRaw, kn]

end K_k02
end
section
namespace K_k02
open PySem L2 PM
theorem put_ok {k q : Nat} {S : Sto} {m : Mp} {n : Int} {l : OL} (h : S[q]? = some (mpO m)) (hm : MpOk m) (hl : ∀ w, l = some w → WOk w) (hz : m.length < 100000) :
    run (k + 1) .put_blank [.ref q, .int n, olD l] S = .ok (.bl (putB m (n, l)).2) (S.set q (mpO (putB m (n, l)).1)) := by
  rw [run_succ]
  simp only [body, fin, slots, runB, b_put_blank]
  have h1 := opNotIn_mp (n := n) h
  cases hk : look m n with
  | none =>
    rw [hk] at h1
    have h2 := opSet_mp (l := l) h hk (Nat.lt_of_lt_of_le (by omega) szl)
    have h3 : (S.set q (mpO (m ++ [(n, l)])))[q]? = some (mpO (m ++ [(n, l)])) := sto_set h
    have h4 : look (m ++ [(n, l)]) n = some l := by
      clear h h1 h2 h3 hm hz
      induction m with
      | nil => simp [look]
      | cons p m ih =>
        simp only [look] at hk
        split at hk
        · cases hk
        · rename_i e
          simp only [List.cons_append, look, if_neg e]
          exact ih hk
    have h5 := opIx_mp h3 h4
    have hp : putB m (n, l) = (m ++ [(n, l)], true) := by simp only [putB, hk]
    have h6 := opEq_of (eqD_ol (S := S.set q (mpO (m ++ [(n, l)]))) hl hl)
    rw [hp]
    simp [h1, h2, h5, h6, finRaw]
  | some l' =>
    rw [hk] at h1
    have h5 := opIx_mp h hk
    have hp : putB m (n, l) = (m, decide (l' = l)) := by simp only [putB, hk]
    have h6 := opEq_of (eqD_ol (S := S) (fun w e => hm _ (look_mem hk) w e) hl)
    rw [hp, set_get h]
    simp [h1, h5, h6, finRaw]

end K_k02
end
section
namespace K_k02
open PySem L2 PM
theorem bl_loop {C : Cs} {q : Nat} {k0 : Option D} : ∀ {ls : List Str} {ks : List K} {S : Sto} {m : Mp} {g : Bool} {x3 : Option D}, ls.length = ks.length → S[q]? = some (mpO m) → MpOk m → MpOk (occs ks) → m.length + (occs ks).length ≤ 1000 →
    (∀ k ∈ ks, ∀ {S : Sto} {m : Mp}, S[q]? = some (mpO m) → MpOk m → MpOk (occ k) → m.length + (occ k).length ≤ 1000 → C .blanks_in [kd k, .ref q] S = .ok (.bl (pa m (occ k)).2) (S.set q (mpO (pa m (occ k)).1))) →
    ∃ x3', loopM (fun _ => True) (loopB (gmName 3) (sAsg (mAndV (mApp (C .blanks_in) (mCons (mB opIx (mV 3) (mC (.int 1))) (mCons (mV 1) mNil))) (mV 2)) (gmName 2))) (fldD ls (kds ks)) [k0, some (.ref q), some (.bl g), x3] S =
      .nx [k0, some (.ref q), some (.bl ((pa m (occs ks)).2 && g)), x3'] (S.set q (mpO (pa m (occs ks)).1))
  | [], [], S, m, g, x3, _, hS, _, _, _, _ => ⟨x3, by rw [show fldD [] (kds []) = [] from rfl, loopT_nil, occs, pa, set_get hS]; simp⟩
  | l :: ls, k :: ks, S, m, g, x3, h, hS, hm, ho, hz, hC => by
    rw [occs] at ho hz
    rw [List.length_append] at hz
    have ho1 : MpOk (occ k) := fun p hp => ho p (by simp [hp])
    have ho2 : MpOk (occs ks) := fun p hp => ho p (by simp [hp])
    have e1 := hC k (by simp) hS hm ho1 (by omega)
    have hS2 : (S.set q (mpO (pa m (occ k)).1))[q]? = some (mpO (pa m (occ k)).1) := sto_set hS
    have hl := pa_len (occ k) m
    obtain ⟨x3', e2⟩ := bl_loop (g := (pa m (occ k)).2 && g) (x3 := some (.tup [.str l, kd k])) (show ls.length = ks.length by simpa using h) hS2 (pa_ok hm ho1) ho2 (by omega) fun k hk => hC k (by simp [hk])
    refine ⟨x3', ?_⟩
    rw [kds, fldD_cons, loopT_cons]
    rw [List.set_set] at e2
    have e3 : (pa m (occs (k :: ks))) = ((pa (pa m (occ k)).1 (occs ks)).1, (pa m (occ k)).2 && (pa (pa m (occ k)).1 (occs ks)).2) := by rw [occs, pa_app]
    rw [e3]
    have e4 : ((pa m (occ k)).2 && (pa (pa m (occ k)).1 (occs ks)).2 && g) = ((pa (pa m (occ k)).1 (occs ks)).2 && ((pa m (occ k)).2 && g)) := by
      cases (pa m (occ k)).2 <;> cases (pa (pa m (occ k)).1 (occs ks)).2 <;> rfl
    rw [e4, ← e2]
    cases h5 : (pa m (occ k)).2 with
    | true => rw [h5] at e1; simp [loopB_eq, e1]
    | false => rw [h5] at e1; simp [loopB_eq, e1]
theorem blanks_ok {q : Nat} : ∀ (n : Nat) {j : Nat} {S : Sto} {k : K} {m : Mp}, VK n k → n + 1 ≤ j → S[q]? = some (mpO m) → MpOk m → MpOk (occ k) → m.length + (occ k).length ≤ 1000 →
    run j .blanks_in [kd k, .ref q] S = .ok (.bl (pa m (occ k)).2) (S.set q (mpO (pa m (occ k)).1)) := by
  intro n
  induction n with
  | zero => intro j S k m h; cases h
  | succ n ih =>
    intro j S k m h hj hS hm ho hz
    obtain ⟨j, rfl⟩ : ∃ i, j = i + 2 := ⟨j - 2, by omega⟩
    rw [run_succ]
    simp only [body, fin, slots, runB, b_blanks_in]
    cases h with
    | num => simp [kd, finRaw, occ, pa, set_get hS]
    | blk h =>
      rename_i i
      have hp := put_ok (k := j) (l := none) (n := i) hS hm (by simp) (by omega)
      simp only [olD] at hp
      simp [kd, hp, finRaw, occ, pa]
    | rc h1 h2 h3 h4 h5 =>
      rename_i ls ks r
      rw [occ, List.length_append] at hz
      rw [occ] at ho
      have ho1 : MpOk (occs ks) := fun p hp => ho p (by simp [hp])
      simp [kd, wipeD]
      generalize hL : loopM _ _ _ _ _ = z
      obtain ⟨x3', e⟩ := bl_loop (C := run (j + 1)) (k0 := some (.tup [.str "record", .tup (fldD ls (kds ks)), rD0 r])) (g := true) (x3 := none) h1 hS hm ho1 (by omega) fun k hk {S m} a b c d => ih (h4 k hk) (by omega) a b c d
      rw [e] at hL
      subst hL
      have hS2 : (S.set q (mpO (pa m (occs ks)).1))[q]? = some (mpO (pa m (occs ks)).1) := sto_set hS
      have hl := pa_len (occs ks) m
      cases r with
      | none =>
        simp [rD0, isNon, finRaw, occ, restO]
      | some i =>
        have hp := put_ok (k := j) (l := some ls) (n := i) hS2 (pa_ok hm ho1) (fun w hw => by cases hw; exact h3) (by omega)
        have ha : (mApp (run (j + 1) .put_blank) (mCons (mV 1) (mCons (mB opIx (mV 0) (mC (.int 2))) (mCons (mComp (sItems (mB opIx (mV 0) (mC (.int 1)))) (gmName 3) mYes (mB opIx (mV 3) (mC (.int 0))) [3]) mNil)))) [some (.tup [.str "record", .tup (fldD ls (kds ks)), rD0 (some i)]), some (.ref q), some (.bl ((pa m (occs ks)).2 && true)), x3'] (S.set q (mpO (pa m (occs ks)).1)) = .ok (.bl (putB (pa m (occs ks)).1 (i, some ls)).2) (S.set q (mpO (putB (pa m (occs ks)).1 (i, some ls)).1)) := by
          have e5 : ls.map D.str = (ls.zip ks).map fun p => D.str p.1 := by
            rw [show (fun p : Str × K => D.str p.1) = D.str ∘ Prod.fst from rfl, ← List.map_map, List.map_fst_zip (by omega)]
          simp [wipeD, rD0]
          rw [fld_zipK h1, comp_map (i := fun p : Str × K => .tup [.str p.1, kd p.2]) (f := fun p => .str p.1) (hg := trivial) (h := fun p _ => ⟨_, rfl, rfl, by simp⟩), List.nil_append, ← e5]
          simp only [olD, wD] at hp
          simp [hp]
        have e6 : (pa m (occs ks ++ [(i, some ls)])) = ((putB (pa m (occs ks)).1 (i, some ls)).1, (pa m (occs ks)).2 && (putB (pa m (occs ks)).1 (i, some ls)).2) := by rw [pa_app]; simp [pa]
        have hc : ∀ U, (mT (mB opNotN (mB opIx (mV 0) (mC (.int 2))) (mC .non))) [some (.tup [.str "record", .tup (fldD ls (kds ks)), rD0 (some i)]), some (.ref q), some (.bl ((pa m (occs ks)).2 && true)), x3'] U = .ok true U := fun U => by simp [rD0, isNon]
        rw [occ, restO, e6]
        simp only [RS.seq_nx, sSeq_eq, sIf_eq, hc, R.into_ok, if_true, sAsg_eq, mAndV_eq, ha, R.bind_ok]
        cases (putB (pa m (occs ks)).1 (i, some ls)).2 with
        | true => simp [finRaw]
        | false => simp [finRaw]

end K_k02
end
section
namespace K_k02
open PySem L2 PM
theorem is_kind_no {m j : Nat} {S : Sto} {d : D} (hd : th m d = true) (h : kindIn 12 d = false) : run (j + 30) .is_kind [d] S = .ok (.bl false) S := by
  have h1 : run (j + 29) .is_kind_in [d, .int 12] S = .ok (.bl false) S := by
    have := kindin_ok 12 (j := j + 29) (S := S) hd (by omega)
    rw [h] at this; exact this
  rw [run_succ]
  simp only [body, fin, slots, runB, b_is_kind]
  have hf : finFrz 0 S (.ok (.bl false) S) = .ok (.bl false) S := by
    have := finFrz_app (k := 0) (S := S) (T := []) (d := .bl false) rfl
    simpa only [List.append_nil] using this
  simp [h1, hf]
theorem is_kind_yes {j : Nat} {S : Sto} {k : K} (hd : kindIn 12 (kd k) = true) {m : Nat} (ht : th m (kd k) = true) (h : VK 12 k) : run (j + 30) .is_kind [kd k] S = .ok (.bl (decide (kn k ≤ 200) && (pa [] (occ k)).2)) S := by
  have h1 : run (j + 29) .is_kind_in [kd k, .int 12] S = .ok (.bl true) S := by
    have := kindin_ok 12 (j := j + 29) (S := S) ht (by omega)
    rw [hd] at this; exact this
  have h2 := knots_ok 12 (j := j + 29) (S := S) h (by omega)
  rw [run_succ]
  simp only [body, fin, slots, runB, b_is_kind]
  have hf : ∀ b T, finFrz 0 S (.ok (.bl b) (S ++ T)) = .ok (.bl b) S := fun b T => finFrz_app rfl
  by_cases c : kn k ≤ 200
  · have c' : ((kn k : Nat) : Int) ≤ 200 := by omega
    have hlen := occ_len k
    have hS : (S ++ [mpO []])[S.length]? = some (mpO []) := sto_snoc
    have h3 := blanks_ok (q := S.length) 12 (j := j + 29) (S := S ++ [mpO []]) (m := []) h (by omega) hS (fun p hp => by cases hp) (occ_ok 12 h) (by simp; omega)
    rw [sto_snoc_set] at h3
    have e : (S ++ [MO.dK [] []]) = S ++ [mpO []] := rfl
    simp [h1, h2, c', c, e, h3, hf]
  · have c' : ¬ ((kn k : Nat) : Int) ≤ 200 := by omega
    have hf0 : finFrz 0 S (.ok (.bl false) S) = .ok (.bl false) S := by simpa using hf false []
    simp [h1, h2, c', c, hf0]

end K_k02
end
section
namespace K_k02
open PySem L2 PM
theorem lnum_ok {k n : Nat} {S : Sto} {d : D} (h : th n d = true) : run (k + 1) ._law_number [d] S = .ok (.bl (numD d)) S := by
  rw [run_succ]
  simp only [body, fin, slots, runB, b__law_number]
  cases d <;> first
    | (cases n <;> cases h; done)
    | simp [finRaw, numD]
theorem lblank_ok {k q c : Nat} {S : Sto} {m : Mp} {n : Int} {l : OL} {dl : D} {B : Nat → Prop} (h : SR S q B m c) (hn : 0 ≤ n) (hl : OLs S B l dl) (wl : ∀ w, l = some w → WOk w) (hz : m.length < 100000) :
    ∃ T, run (k + 1) ._law_blank [.ref q, .int n, dl] S = .ok (.bl (putB m (n, l)).2) T ∧ Fq S T (· = q) ∧ ((putB m (n, l)).2 = true → SR T q B (putB m (n, l)).1 c) := by
  obtain ⟨ok, bq, ks, vs, h1, h2, h3, h4, h5, h6⟩ := h
  have hlen : ks.length < sizeLine := Nat.lt_of_lt_of_le (by omega) szl
  have hset : opSet (.ref q) (.int n) dl S = .ok () (S.set q (.dK (insK ks (.inl n)) (insD ks vs (.inl n) dl))) := by simp only [opSet, h1, PM.keyOf, if_pos hlen]
  have hin : opIn (.int n) (.ref q) S = .ok (.bl (getK ks vs (.inl n)).isSome) S := by simp only [opIn, inDa, dget_int h1]
  have hS : (S.set q (.dK (insK ks (.inl n)) (insD ks vs (.inl n) dl)))[q]? = some (.dK (insK ks (.inl n)) (insD ks vs (.inl n) dl)) := sto_set h1
  have nm1 : ¬ (Sum.inl n : Key) = .inl (-1) := fun e => by have := Sum.inl.inj e; omega
  have srl : ∀ {m' : Mp}, MpOk m' → (insK ks (Sum.inl n : Key)).length ≤ m'.length + 1 → (∀ j, look m' j = if n = j then some l else look m j) → SR (S.set q (.dK (insK ks (.inl n)) (insD ks vs (.inl n) dl))) q B m' c := fun ok' hl' hlk =>
    ⟨ok', bq, _, _, hS, ins_len h2, hl', by rw [getK_ins h2, if_neg nm1]; exact h4, fun j hj hj2 => by
      rw [hlk] at hj2
      rw [getK_ins h2]
      by_cases e : n = j
      · rw [if_pos e] at hj2; cases hj2
      · rw [if_neg e] at hj2
        rw [if_neg (fun q => e (Sum.inl.inj q))]; exact h5 j hj hj2, fun j l' hj hj2 => by
      rw [hlk] at hj2
      rw [getK_ins h2]
      by_cases e : n = j
      · rw [if_pos e] at hj2
        cases hj2
        rw [if_pos (by rw [e])]
        exact ⟨dl, rfl, hl.keep (.set bq)⟩
      · rw [if_neg e] at hj2
        rw [if_neg (fun q => e (Sum.inl.inj q))]
        obtain ⟨d, g, o⟩ := h6 j l' hj hj2
        exact ⟨d, g, o.keep (.set bq)⟩⟩
  rw [run_succ]
  simp only [body, fin, slots, runB, b__law_blank]
  cases hk : look m n with
  | none =>
    rw [h5 n hn hk] at hin
    have hp : putB m (n, l) = (m ++ [(n, l)], true) := by simp only [putB, hk]
    rw [hp]
    refine ⟨_, ?_, .set rfl, fun _ => srl (by have := putB_ok (o := (n, l)) ok wl; rwa [hp] at this) ?_ ?_⟩
    · simp [hin, hset, finRaw]
    · have := insK_len ks (.inl n : Key); simp; omega
    · exact look_app hk
  | some l' =>
    obtain ⟨d, hd, od⟩ := h6 n l' hn hk
    rw [hd] at hin
    have hix : opIx (.ref q) (.int n) S = .ok d S := by simp only [opIx, dget_int h1, hd]
    have hne := opNe_of (eqD_ols od hl (fun w e => ok _ (look_mem hk) w e) wl)
    have hp : putB m (n, l) = (m, decide (l' = l)) := by simp only [putB, hk]
    rw [hp]
    by_cases e : l' = l
    · subst e
      have hmem : (Sum.inl n : Key) ∈ ks := by
        by_cases q : (Sum.inl n : Key) ∈ ks
        · exact q
        · rw [getK_none q] at hd; cases hd
      refine ⟨_, ?_, .set rfl, fun _ => srl ok ?_ ?_⟩
      · simp [hin, hix, hne, hset, finRaw]
      · unfold insK; rw [if_pos hmem]; exact h3
      · intro j
        by_cases q : n = j
        · rw [if_pos q, ← q, hk]
        · rw [if_neg q]
    · refine ⟨S, ?_, .refl, fun h => by simp [e] at h⟩
      simp [hin, hix, hne, e, finRaw]

end K_k02
end
section
namespace K_k02
open PySem L2 PM
theorem good_loop {C : Cs} {n q f mm : Nat} {B : Nat → Prop} {d0 : Option D} (bf : B f)
    (hW : ∀ {S : Sto} {x : D}, th mm x = true → C ._law_word [x] S = .ok (.bl (isWordD x)) S)
    (hC : ∀ {S : Sto} {x : D} {m : Mp} {c : Nat}, th mm x = true → (∀ i, B i → i < S.length) → SR S q B m c → m.length + sz x ≤ 100000 → ∃ T, Fq S T (· = q) ∧ (match goodD n (m, c) x with
      | some r => C ._law_good [x, .int n, .ref q] S = .ok (.bl true) T ∧ SR T q B r.1 r.2 ∧ r.1.length ≤ m.length + sz x
      | none => C ._law_good [x, .int n, .ref q] S = .ok (.bl false) T)) (qf : f ≠ q) :
    ∀ {ps : List D} {S : Sto} {m : Mp} {c : Nat} {lw : List Str} {x4 : Option D}, (∀ p ∈ ps, th mm p = true) → (∀ i, B i → i < S.length) → SR S q B m c → m.length + szs ps ≤ 100000 → S[f]? = some (.lst (lw.map .str)) → WOk lw → lw.length + ps.length ≤ 1000 →
    ∃ T, Fq S T (fun i => i = q ∨ i = f) ∧ (match goodPs (goodD n) (m, c) lw ps with
      | some (r, lw') => (∃ x4', loopM (fun _ => True) (loopB (gmName 4) (sSeq (sIf (mOr (mNot (mT (mU (opIsi "tuple") (mV 4)))) (mOr (mT (mB opNe (mApp cLen (mCons (mV 4) mNil)) (mC (.int 2)))) (mNot (mT (mApp (C ._law_word) (mCons (mB opIx (mV 4) (mC (.int 0))) mNil)))))) (sRet (mC (.bl false))) sPass) (sSeq (sIf (mOr (mAnd (mT (mB opNe (mV 3) (mApp newLst mNil))) (mT (mB opGe (mB opIx (mV 3) (mU opNeg (mC (.int 1)))) (mB opIx (mV 4) (mC (.int 0)))))) (mNot (mT (mApp (C ._law_good) (mCons (mB opIx (mV 4) (mC (.int 1))) (mCons (mB opSub (mV 1) (mC (.int 1))) (mCons (mV 2) mNil))))))) (sRet (mC (.bl false))) sPass) (sExpr (mMt isLst cAppend (mV 3) (mCons (mB opIx (mV 4) (mC (.int 0))) mNil)))))) ps [d0, some (.int ((n : Int) + 1)), some (.ref q), some (.ref f), x4] S = .nx [d0, some (.int ((n : Int) + 1)), some (.ref q), some (.ref f), x4'] T) ∧
          SR T q B r.1 r.2 ∧ r.1.length ≤ m.length + szs ps ∧ T[f]? = some (.lst (lw'.map .str)) ∧ WOk lw'
      | none => loopM (fun _ => True) (loopB (gmName 4) (sSeq (sIf (mOr (mNot (mT (mU (opIsi "tuple") (mV 4)))) (mOr (mT (mB opNe (mApp cLen (mCons (mV 4) mNil)) (mC (.int 2)))) (mNot (mT (mApp (C ._law_word) (mCons (mB opIx (mV 4) (mC (.int 0))) mNil)))))) (sRet (mC (.bl false))) sPass) (sSeq (sIf (mOr (mAnd (mT (mB opNe (mV 3) (mApp newLst mNil))) (mT (mB opGe (mB opIx (mV 3) (mU opNeg (mC (.int 1)))) (mB opIx (mV 4) (mC (.int 0)))))) (mNot (mT (mApp (C ._law_good) (mCons (mB opIx (mV 4) (mC (.int 1))) (mCons (mB opSub (mV 1) (mC (.int 1))) (mCons (mV 2) mNil))))))) (sRet (mC (.bl false))) sPass) (sExpr (mMt isLst cAppend (mV 3) (mCons (mB opIx (mV 4) (mC (.int 0))) mNil)))))) ps [d0, some (.int ((n : Int) + 1)), some (.ref q), some (.ref f), x4] S = .rt (.bl false) T)
  | [], S, m, c, lw, x4, _, _, hS, _, hf, hw, _ => ⟨S, .refl, ⟨x4, loopT_nil⟩, hS, by simp [szs], hf, hw⟩
  | p :: ps, S, m, c, lw, x4, hp, hbd, hS, hz, hf, hw, hl => by
    have hp0 := hp p (by simp)
    have bad : isPairD p = false → goodPs (goodD n) (m, c) lw (p :: ps) = none := fun h => by
      unfold goodPs
      split
      · rename_i s b
        rw [if_neg (fun q => by rw [show isPairD (.tup [.str s, b]) = isWordD (.str s) from rfl] at h; rw [h] at q; cases q.1)]
      · rfl
    by_cases hpr : isPairD p = true
    · obtain ⟨s, b, e, hs⟩ := pair_is hpr
      subst e
      have hlab : goodPs (goodD n) (m, c) lw (.tup [.str s, b] :: ps) = if asc1 lw s = true then (match goodD n (m, c) b with | some m' => goodPs (goodD n) m' (lw ++ [s]) ps | none => none) else none := by
        rw [goodPs]
        by_cases q : asc1 lw s = true
        · rw [if_pos ⟨word_lab.mpr hs, q⟩, if_pos q] <;> (cases goodD n (m, c) b <;> rfl)
        · rw [if_neg (fun h => q h.2), if_neg q]
      rw [hlab]
      have hwd := hW (S := S) (th_pair hp0).1
      rw [word_lab.mpr hs] at hwd
      have hne := opNe_of (eqD_ref_nil hf hw)
      have hb := (th_pair hp0).2
      by_cases ha : asc1 lw s = true
      · rw [if_pos ha]
        have hz1 : m.length + sz b ≤ 100000 := by simp only [szs, sz] at hz; omega
        obtain ⟨T1, fr, hr⟩ := hC hb hbd hS hz1
        have hcond : ∀ (Q : RS), True := fun _ => trivial
        have hT1f : T1[f]? = some (.lst (lw.map .str)) := by rw [fr.old f (List.getElem?_eq_some_iff.mp hf).1 qf]; exact hf
        have hcase : lw = [] ∨ (¬ lw = [] ∧ ∃ x, opIx (.ref f) (.int (-1)) S = .ok (.str x) S ∧ opGe (.str x) (.str s) S = .ok (.bl false) S) := by
          cases hg : lw.getLast? with
          | none => exact .inl (List.getLast?_eq_none_iff.mp hg)
          | some x =>
            have hlne : ¬ lw = [] := fun e => by rw [e] at hg; cases hg
            have hlt : x.cps.toList < s.cps.toList := by
              have := ha
              unfold asc1 at this; rw [hg] at this; exact of_decide_eq_true this
            refine .inr ⟨hlne, x, opIx_last hf hg, ?_⟩
            show R.ok (D.bl (!decide (x.cps.toList < s.cps.toList))) S = _
            rw [decide_eq_true hlt]; rfl
        cases hgd : goodD n (m, c) b with
        | none =>
          rw [hgd] at hr
          refine ⟨T1, fr.mono fun i h => .inl h, ?_⟩
          simp only at hr ⊢
          rw [loopT_cons]
          have e : loopB (gmName 4) (sSeq (sIf (mOr (mNot (mT (mU (opIsi "tuple") (mV 4)))) (mOr (mT (mB opNe (mApp cLen (mCons (mV 4) mNil)) (mC (.int 2)))) (mNot (mT (mApp (C ._law_word) (mCons (mB opIx (mV 4) (mC (.int 0))) mNil)))))) (sRet (mC (.bl false))) sPass) (sSeq (sIf (mOr (mAnd (mT (mB opNe (mV 3) (mApp newLst mNil))) (mT (mB opGe (mB opIx (mV 3) (mU opNeg (mC (.int 1)))) (mB opIx (mV 4) (mC (.int 0)))))) (mNot (mT (mApp (C ._law_good) (mCons (mB opIx (mV 4) (mC (.int 1))) (mCons (mB opSub (mV 1) (mC (.int 1))) (mCons (mV 2) mNil))))))) (sRet (mC (.bl false))) sPass) (sExpr (mMt isLst cAppend (mV 3) (mCons (mB opIx (mV 4) (mC (.int 0))) mNil))))) (.tup [.str s, b]) [d0, some (.int ((n : Int) + 1)), some (.ref q), some (.ref f), x4] S = .rt (.bl false) T1 := by
            rcases hcase with h0 | ⟨h0, x, hix, hge⟩
            · simp [loopB_eq, hwd, hne, h0, hr]
            · simp [loopB_eq, hwd, hne, h0, hix, hge, hr]
          rw [e]
        | some r =>
          obtain ⟨rm, rc⟩ := r
          rw [hgd] at hr
          obtain ⟨hr, hsr, hlen⟩ := hr
          have hcap : (lw.map D.str).length < sizeLine := by
            rw [List.length_map]; simp at hl; exact Nat.lt_of_lt_of_le (by omega) szl
          have hf2 : (T1.set f (.lst ((lw ++ [s]).map .str)))[f]? = some (.lst ((lw ++ [s]).map .str)) := sto_set hT1f
          have hap : cAppend (.ref f) [.str s] T1 = .ok .non (T1.set f (.lst ((lw ++ [s]).map .str))) := by rw [cAppend_ref hT1f hcap]; simp
          have hsr2 : SR (T1.set f (.lst ((lw ++ [s]).map .str))) q B rm rc := hsr.keep (.set bf) (by rw [List.getElem?_set_ne qf])
          have hw2 : WOk (lw ++ [s]) := fun x hx => by
            rcases List.mem_append.mp hx with hx | hx
            · exact hw x hx
            · rw [List.mem_singleton.mp hx]; exact hs
          simp only [szs, sz] at hz
          have hlen : rm.length ≤ m.length + sz b := hlen
          obtain ⟨T2, fr2, hr2⟩ := good_loop (d0 := d0) bf hW hC qf (ps := ps) (m := rm) (c := rc) (lw := lw ++ [s]) (x4 := some (.tup [.str s, b])) (fun p h => hp p (by simp [h])) (fun i h => by rw [List.length_set]; exact Nat.lt_of_lt_of_le (hbd i h) fr.len) hsr2 (by omega) hf2 hw2 (by simp at hl ⊢; omega)
          have e : loopB (gmName 4) (sSeq (sIf (mOr (mNot (mT (mU (opIsi "tuple") (mV 4)))) (mOr (mT (mB opNe (mApp cLen (mCons (mV 4) mNil)) (mC (.int 2)))) (mNot (mT (mApp (C ._law_word) (mCons (mB opIx (mV 4) (mC (.int 0))) mNil)))))) (sRet (mC (.bl false))) sPass) (sSeq (sIf (mOr (mAnd (mT (mB opNe (mV 3) (mApp newLst mNil))) (mT (mB opGe (mB opIx (mV 3) (mU opNeg (mC (.int 1)))) (mB opIx (mV 4) (mC (.int 0)))))) (mNot (mT (mApp (C ._law_good) (mCons (mB opIx (mV 4) (mC (.int 1))) (mCons (mB opSub (mV 1) (mC (.int 1))) (mCons (mV 2) mNil))))))) (sRet (mC (.bl false))) sPass) (sExpr (mMt isLst cAppend (mV 3) (mCons (mB opIx (mV 4) (mC (.int 0))) mNil))))) (.tup [.str s, b]) [d0, some (.int ((n : Int) + 1)), some (.ref q), some (.ref f), x4] S = .nx [d0, some (.int ((n : Int) + 1)), some (.ref q), some (.ref f), some (.tup [.str s, b])] (T1.set f (.lst ((lw ++ [s]).map .str))) := by
            rcases hcase with h0 | ⟨h0, x, hix, hge⟩
            · simp [loopB_eq, hwd, hne, h0, hr, isLst_ref hT1f]
              rw [hap]; simp [h0]
            · simp [loopB_eq, hwd, hne, h0, hix, hge, hr, isLst_ref hT1f]
              rw [hap]; simp
          refine ⟨T2, ((fr.mono fun i h => .inl h).trans (.set (.inr rfl))).trans fr2, ?_⟩
          rw [loopT_cons, e]
          simp only
          cases hq : goodPs (goodD n) (rm, rc) (lw ++ [s]) ps with
          | none => rw [hq] at hr2; exact hr2
          | some z =>
            obtain ⟨z, lw'⟩ := z
            rw [hq] at hr2
            obtain ⟨a1, a2, a3, a4, a5⟩ := hr2
            exact ⟨a1, a2, by simp only [szs, sz] at hlen ⊢; omega, a4, a5⟩
      · rw [if_neg ha]
        refine ⟨S, .refl, ?_⟩
        simp only
        rw [loopT_cons]
        cases hg : lw.getLast? with
        | none => unfold asc1 at ha; rw [hg] at ha; exact absurd rfl ha
        | some x =>
          have hlne : ¬ lw = [] := fun e => by rw [e] at hg; cases hg
          have hix := opIx_last hf hg
          have hlt : ¬ (x.cps.toList < s.cps.toList) := fun h => ha (by unfold asc1; rw [hg]; exact decide_eq_true h)
          have hge : opGe (.str x) (.str s) S = .ok (.bl true) S := by
            show R.ok (D.bl (!decide (x.cps.toList < s.cps.toList))) S = _
            rw [decide_eq_false hlt]; rfl
          simp [loopB_eq, hwd, hne, hlne, hix, hge]
    · have hpr : isPairD p = false := by simpa using hpr
      refine ⟨S, .refl, ?_⟩
      rw [bad hpr]
      simp only
      rw [loopT_cons]
      cases p with
      | tup ds =>
        match ds, hp0, hpr with
        | [], _, _ => simp [loopB_eq]
        | [a], _, _ => simp [loopB_eq]
        | [a, b], hp0, hpr =>
          have ha := hW (S := S) (th_pair hp0).1
          rw [show isWordD a = false from hpr] at ha
          simp [loopB_eq, ha]
        | a :: b :: c :: r, _, _ =>
          have : ¬ ((r.length : Int) + 1 + 1 + 1 = 2) := by omega
          simp [loopB_eq, this]
      | _ => first
        | (cases mm <;> cases hp0; done)
        | simp [loopB_eq]

end K_k02
end
section
namespace K_k02
open PySem L2 PM
theorem good_ok : ∀ (n : Nat) {j mm q c : Nat} {S : Sto} {x : D} {m : Mp} {B : Nat → Prop}, 2 * n + 3 ≤ j → th mm x = true → (∀ i, B i → i < S.length) → SR S q B m c → m.length + sz x ≤ 100000 → ∃ T, Fq S T (· = q) ∧ (match goodD n (m, c) x with
      | some r => run j ._law_good [x, .int n, .ref q] S = .ok (.bl true) T ∧ SR T q B r.1 r.2 ∧ r.1.length ≤ m.length + sz x
      | none => run j ._law_good [x, .int n, .ref q] S = .ok (.bl false) T) := by
  intro n
  induction n with
  | zero =>
    intro j mm q c S x m B hj hx hbd hS hz
    obtain ⟨j, rfl⟩ : ∃ i, j = i + 1 := ⟨j - 1, by omega⟩
    refine ⟨S, .refl, ?_⟩
    have : goodD 0 (m, c) x = none := by unfold goodD; rfl
    rw [this]
    simp only
    rw [run_succ]
    simp only [body, fin, slots, runB, b__law_good]
    simp [finRaw]
  | succ n ih =>
    intro j mm q c S x m B hj hx hbd hS hz
    obtain ⟨j, rfl⟩ : ∃ i, j = i + 3 := ⟨j - 3, by omega⟩
    have hn : ¬ ((n : Int) + 1 = 0) := by omega
    by_cases hform : ∃ s r, x = .tup (.str s :: r)
    · obtain ⟨s, r, e⟩ := hform
      subst e
      cases mm with
      | zero => cases hx
      | succ mm =>
      have hr : ∀ y ∈ r, th mm y = true := by
        simp only [th, Bool.and_eq_true, List.all_eq_true] at hx
        exact fun y hy => hx.2 y (by simp [hy])
      obtain ⟨hix, S1, hset, hS1, hf1⟩ := sr_inc hS (by omega)
      by_cases c1 : s = Str.ofString "number"
      · refine ⟨S1, hf1, ?_⟩
        rw [goodD, if_pos c1]
        cases r with
        | nil =>
          simp only [List.isEmpty_nil, if_true]
          refine ⟨?_, hS1, Nat.le_add_right _ _⟩
          rw [run_succ]
          simp only [body, fin, slots, runB, b__law_good]
          simp [hn, hix, hset, c1, finRaw]
        | cons y r =>
          simp only [List.isEmpty_cons, Bool.false_eq_true, if_false]
          rw [run_succ]
          simp only [body, fin, slots, runB, b__law_good]
          have h1 : ¬ ((r.length : Int) + 1 + 1 = 0) := by omega
          have h2 : ¬ ((r.length : Int) + 1 + 1 = 1) := by omega
          simp [hn, hix, hset, c1, finRaw, h1, h2]
      by_cases c2 : s = Str.ofString "blank"
      · rw [goodD, if_neg c1, if_pos c2]
        match r, hr with
        | [], _ =>
          refine ⟨S1, hf1, ?_⟩
          simp only [goodB]
          rw [run_succ]
          simp only [body, fin, slots, runB, b__law_good]
          simp [hn, hix, hset, c2, finRaw]
        | [y], hr =>
          have hy := hr y (by simp)
          have hnum := lnum_ok (k := j + 1) (S := S1) hy
          by_cases hi : ∃ i : Int, y = .int i ∧ 0 ≤ i
          · obtain ⟨i, e, hi⟩ := hi
            subst e
            obtain ⟨T, hb, hf, hsr⟩ := lblank_ok (k := j + 1) (l := none) (dl := .non) hS1 hi rfl (by simp) (by simp only [sz, szs] at hz; omega)
            refine ⟨T, hf1.trans hf, ?_⟩
            · simp only [goodB, if_pos hi, putC]
              have hnum : run (j + 2) ._law_number [.int i] S1 = .ok (.bl true) S1 := by rw [hnum]; simp [numD, hi]
              cases hp : (putB m (i, none)).2 with
              | true =>
                rw [hp] at hb hsr
                simp only [if_true]
                refine ⟨?_, hsr rfl, ?_⟩
                · rw [run_succ]
                  simp only [body, fin, slots, runB, b__law_good]
                  simp [hn, hix, hset, c2, finRaw, hnum, hb]
                · have := putB_len m (i, none); simp only [sz, szs]; omega
              | false =>
                rw [hp] at hb
                simp only [Bool.false_eq_true, if_false]
                rw [run_succ]
                simp only [body, fin, slots, runB, b__law_good]
                simp [hn, hix, hset, c2, finRaw, hnum, hb]
          · have hg0 : goodB (m, c + 1) [y] = none := by
              cases y with
              | int i => simp only [goodB]; rw [if_neg (fun h => hi ⟨_, rfl, h⟩)]
              | _ => rfl
            have hnf : numD y = false := by
              cases y with
              | int i => exact decide_eq_false (fun h => hi ⟨_, rfl, h⟩)
              | _ => rfl
            rw [hnf] at hnum
            refine ⟨S1, hf1, ?_⟩
            simp only [hg0]
            rw [run_succ]
            simp only [body, fin, slots, runB, b__law_good]
            simp [hn, hix, hset, c2, finRaw, hnum]
        | y :: z :: r, _ =>
          refine ⟨S1, hf1, ?_⟩
          have h0 : goodB (m, c + 1) (y :: z :: r) = none := by cases y <;> rfl
          simp only [h0]
          rw [run_succ]
          simp only [body, fin, slots, runB, b__law_good]
          have h1 : ¬ ((r.length : Int) + 1 + 1 + 1 = 0) := by omega
          have h2 : ¬ ((r.length : Int) + 1 + 1 + 1 = 2) := by omega
          simp [hn, hix, hset, c2, finRaw, h1, h2]
      · have gD : goodD (n + 1) (m, c) (.tup (.str s :: r)) = if s = Str.ofString "record" then goodR (goodD n) (m, c + 1) r else none := by rw [goodD, if_neg c1, if_neg c2]
        rw [gD]
        by_cases c3 : s = Str.ofString "record"
        · rw [if_pos c3]
          match r, hr, hz with
          | [], _, _ =>
            refine ⟨S1, hf1, ?_⟩
            simp only [goodR]
            rw [run_succ]
            simp only [body, fin, slots, runB, b__law_good]
            simp [hn, hix, hset, c3, finRaw]
          | [y], _, _ =>
            refine ⟨S1, hf1, ?_⟩
            have h0 : goodR (goodD n) (m, c + 1) [y] = none := by cases y <;> rfl
            simp only [h0]
            rw [run_succ]
            simp only [body, fin, slots, runB, b__law_good]
            simp [hn, hix, hset, c3, finRaw]
          | [fs, rt], hr, hz =>
            have hfs := hr fs (by simp)
            have hrt := hr rt (by simp)
            cases fs with
            | tup ps =>
              cases mm with
              | zero => cases hfs
              | succ mm =>
              have hps : ps.length ≤ 1000 ∧ ∀ p ∈ ps, th mm p = true := by
                simp only [th, Bool.and_eq_true, List.all_eq_true, decide_eq_true_eq] at hfs
                exact hfs
              have hbd1 : ∀ i, B i → i < S1.length := fun i h => Nat.lt_of_lt_of_le (hbd i h) hf1.len
              have hS2 : SR (S1 ++ [.lst []]) q (fun i => B i ∨ i = S1.length) m (c + 1) := by
                have h1 : SR S1 q (fun i => B i ∨ i = S1.length) m (c + 1) := hS1.other (.inl hS1.bq) fun i hi h => h.elim id fun e => absurd e (Nat.ne_of_lt hi)
                refine h1.keep .snoc ?_
                rw [List.getElem?_append_left (hbd1 q hS1.bq)]
              have hbd2 : ∀ i, (B i ∨ i = S1.length) → i < (S1 ++ [MO.lst []]).length := fun i h => by
                simp only [List.length_append, List.length_cons, List.length_nil]
                rcases h with h | h
                · have := hbd1 i h; omega
                · omega
              have hfq : S1.length ≠ q := fun e => by have := hbd1 q hS1.bq; omega
              simp only [sz, szs] at hz
              obtain ⟨T, fr, hL⟩ := good_loop (C := run (j + 2)) (n := n) (q := q) (f := S1.length) (mm := mm) (d0 := some (.tup [.str s, .tup ps, rt])) (B := fun i => B i ∨ i = S1.length) (.inr rfl)
                (fun {S x} h => lword_ok (k := j + 1) h) (fun {S x m c} h1 h2 h3 h4 => ih (by omega) h1 h2 h3 h4) hfq
                (ps := ps) (S := S1 ++ [.lst []]) (m := m) (c := c + 1) (lw := []) (x4 := none) hps.2 hbd2 hS2 (by omega) (by simp) (fun x hx => by cases hx) (by simp; omega)
              have fr1 : Fq S1 T (· = q) := (Fq.snoc.trans fr).drop fun i hi h => h.elim id fun e => absurd e (Nat.ne_of_lt hi)
              rw [show goodR (goodD n) (m, c + 1) [.tup ps, rt] = (match goodPs (goodD n) (m, c + 1) [] ps with | some (m', lw) => goodT m' lw rt | none => none) from rfl]
              cases hg : goodPs (goodD n) (m, c + 1) [] ps with
              | none =>
                rw [hg] at hL
                refine ⟨T, hf1.trans fr1, ?_⟩
                simp only at hL ⊢
                rw [run_succ]
                simp only [body, fin, slots, runB, b__law_good]
                subst c3
                simp [hn, hix, hset, finRaw]
                rw [hL]
                simp
              | some z =>
                obtain ⟨⟨m', c'⟩, lw'⟩ := z
                rw [hg] at hL
                obtain ⟨⟨x4', hL⟩, hsr, hlen, hTf, hw'⟩ := hL
                have hsr : SR T q (fun i => B i ∨ i = S1.length) m' c' := hsr
                have hlen : m'.length ≤ m.length + szs ps := hlen
                have hsrB : SR T q B m' c' := hsr.other hS1.bq fun i _ h => .inl h
                have hnB : ¬ B S1.length := fun h => Nat.lt_irrefl _ (hbd1 _ h)
                have hfT := hf1.trans fr1
                simp only
                subst c3
                have hnum := lnum_ok (k := j + 1) (S := T) hrt
                by_cases hi : ∃ i : Int, rt = .int i ∧ 0 ≤ i
                · obtain ⟨i, e, hi⟩ := hi
                  subst e
                  obtain ⟨U, hb, hf, hsu⟩ := lblank_ok (k := j + 1) (l := some lw') (dl := .ref S1.length) hsrB hi ⟨_, rfl, hnB, hTf⟩ (fun w e => by cases e; exact hw') (by omega)
                  refine ⟨U, hfT.trans hf, ?_⟩
                  have hnum : run (j + 2) ._law_number [.int i] T = .ok (.bl true) T := by rw [hnum]; simp [numD, hi]
                  simp only [goodT, if_pos hi, putC]
                  cases hp : (putB m' (i, some lw')).2 with
                  | true =>
                    rw [hp] at hb hsu
                    simp only [if_true]
                    refine ⟨?_, hsu rfl, ?_⟩
                    · rw [run_succ]
                      simp only [body, fin, slots, runB, b__law_good]
                      simp [hn, hix, hset, finRaw]
                      rw [hL]
                      simp [isNon, hnum, hb]
                    · have := putB_len m' (i, some lw'); simp only [sz, szs]; omega
                  | false =>
                    rw [hp] at hb
                    simp only [Bool.false_eq_true, if_false]
                    rw [run_succ]
                    simp only [body, fin, slots, runB, b__law_good]
                    simp [hn, hix, hset, finRaw]
                    rw [hL]
                    simp [isNon, hnum, hb]
                · by_cases hno : rt = .non
                  · subst hno
                    refine ⟨T, hfT, ?_⟩
                    simp only [goodT]
                    refine ⟨?_, hsrB, by simp only [sz, szs]; omega⟩
                    rw [run_succ]
                    simp only [body, fin, slots, runB, b__law_good]
                    simp [hn, hix, hset, finRaw]
                    rw [hL]
                    simp [isNon]
                  · refine ⟨T, hfT, ?_⟩
                    have h0 : goodT (m', c') lw' rt = none := by
                      cases rt with
                      | int i => simp only [goodT]; rw [if_neg (fun h => hi ⟨_, rfl, h⟩)]
                      | non => exact absurd rfl hno
                      | _ => rfl
                    have hnf : numD rt = false := by
                      cases rt with
                      | int i => exact decide_eq_false (fun h => hi ⟨_, rfl, h⟩)
                      | _ => rfl
                    have hnn : isNon rt = false := by cases rt <;> first | rfl | exact absurd rfl hno
                    rw [hnf] at hnum
                    simp only [h0]
                    rw [run_succ]
                    simp only [body, fin, slots, runB, b__law_good]
                    simp [hn, hix, hset, finRaw]
                    rw [hL]
                    simp [hnn, hnum]
            | _ => first
              | (cases mm <;> cases hfs; done)
              | (refine ⟨S1, hf1, ?_⟩
                 simp only [goodR]
                 rw [run_succ]
                 simp only [body, fin, slots, runB, b__law_good]
                 simp [hn, hix, hset, c3, finRaw])
          | a :: b :: y :: r, _, _ =>
            refine ⟨S1, hf1, ?_⟩
            have h0 : goodR (goodD n) (m, c + 1) (a :: b :: y :: r) = none := by cases a <;> rfl
            simp only [h0]
            rw [run_succ]
            simp only [body, fin, slots, runB, b__law_good]
            have h1 : ¬ ((r.length : Int) + 1 + 1 + 1 + 1 = 0) := by omega
            have h2 : ¬ ((r.length : Int) + 1 + 1 + 1 + 1 = 3) := by omega
            simp [hn, hix, hset, c3, finRaw, h1, h2]
        · rw [if_neg c3]
          refine ⟨S1, hf1, ?_⟩
          simp only
          rw [run_succ]
          simp only [body, fin, slots, runB, b__law_good]
          have h1 : ¬ ((r.length : Int) + 1 = 0) := by omega
          simp [hn, hix, hset, c1, c2, c3, finRaw, h1]
    · have hg : goodD (n + 1) (m, c) x = none := by
        unfold goodD
        split
        · rename_i s r _; exact absurd ⟨_, _, rfl⟩ hform
        · rfl
      refine ⟨S, .refl, ?_⟩
      rw [hg]
      simp only
      rw [run_succ]
      simp only [body, fin, slots, runB, b__law_good]
      cases x with
      | tup ds =>
        cases mm with
        | zero => cases hx
        | succ mm =>
        cases ds with
        | nil => simp [hn, finRaw]
        | cons y r =>
          have hy : th mm y = true := by
            simp only [th, Bool.and_eq_true, List.all_eq_true] at hx
            exact hx.2 y (by simp)
          have hlt : ¬ ((r.length : Int) + 1 = 0) := by omega
          cases y with
          | str s => exact absurd ⟨_, _, rfl⟩ hform
          | _ => first
            | (cases mm <;> cases hy; done)
            | simp [hn, hlt, finRaw]
      | _ => first
        | (cases mm <;> cases hx; done)
        | simp [hn, finRaw]

end K_k02
end
section
namespace K_k02
open PySem L2 PM
def dueD (d : D) : Bool := match goodD 12 ([], 0) d with
  | some r => decide (r.2 ≤ 200)
  | none => false
theorem due_ok {j m : Nat} {S : Sto} {d : D} (h : th m d = true) (hs : sz d ≤ 100000) : run (j + 30) ._law_due [d] S = .ok (.bl (dueD d)) S := by
  have hS : (S ++ [MO.dK [.inl (-1)] [.int 0]])[S.length]? = some (.dK [.inl (-1)] [.int 0]) := sto_snoc
  have hsr : SR (S ++ [MO.dK [.inl (-1)] [.int 0]]) S.length (fun i => i = S.length) [] 0 := by
    refine ⟨(fun p hp => nomatch hp), rfl, [.inl (-1)], [.int 0], hS, rfl, by simp, by simp [getK], fun n hn _ => ?_, fun n l _ hl => nomatch hl⟩
    simp only [getK]
    rw [if_neg (fun e => by have := Sum.inl.inj e; omega)]
  obtain ⟨T, fr, hg⟩ := good_ok 12 (j := j + 29) (by omega) h (fun i e => by simp [e]) hsr (by simp; omega)
  have hlen : S.length < T.length := by have := fr.len; simp at this; omega
  have hfin : ∀ b, finFrz 0 S (.ok (.bl b) T) = .ok (.bl b) S := fun b => by
    have e : T = S ++ T.drop S.length := by
      have h1 : T.take S.length = S := by
        apply List.ext_getElem?
        intro i
        rw [List.getElem?_take]
        split
        · rename_i hi
          rw [fr.old i (by simp; omega) (by omega), List.getElem?_append_left hi]
        · rename_i hi
          rw [List.getElem?_eq_none (by omega)]
      conv => lhs; rw [← List.take_append_drop S.length T, h1]
    rw [e]
    exact finFrz_app rfl
  rw [run_succ]
  simp only [body, fin, slots, runB, b__law_due]
  unfold dueD
  rw [show (((12 : Nat) : Int)) = 12 from rfl] at hg
  cases hgd : goodD 12 ([], 0) d with
  | none =>
    rw [hgd] at hg
    simp only at hg
    simp [hg, hfin]
  | some r =>
    rw [hgd] at hg
    obtain ⟨hg, hsr, _⟩ := hg
    obtain ⟨ok, bq, ks, vs, h1, h2, h3, h4, h5, h6⟩ := hsr
    have hix : opIx (.ref S.length) (.int (-1)) T = .ok (.int r.2) T := by simp only [opIx, dget_int h1, h4]
    have : decide ((r.2 : Int) ≤ 200) = decide (r.2 ≤ 200) := by simp only [decide_eq_decide]; omega
    simp [hg, hix, hfin, this]
theorem both_ok {m : Nat} {d : D} (h : th m d = true) (hs : sz d ≤ 100000) : ∃ b, (∀ j S, run (j + 30) ._law_due [d] S = .ok (.bl b) S) ∧ ∀ j S, run (j + 30) .is_kind [d] S = .ok (.bl b) S := by
  refine ⟨dueD d, fun j S => due_ok h hs, fun j S => ?_⟩
  cases hk : kindIn 12 d with
  | false =>
    have : dueD d = false := by unfold dueD; rw [goodD_no 12 d _ hk]
    rw [this]; exact is_kind_no h hk
  | true =>
    obtain ⟨k, e, hv⟩ := kindIn_kd 12 hk
    subst e
    rw [is_kind_yes hk h hv]
    have : dueD (kd k) = (decide (kn k ≤ 200) && (pa [] (occ k)).2) := by
      unfold dueD
      rw [goodD_yes 12 _ hv]
      unfold okC
      cases hp : (pa [] (occ k)).2 with
      | true => simp
      | false => simp
    rw [this]

end K_k02
end
section
namespace K_k02
open PySem L2 PM
theorem next_is {k n : Nat} {S : Sto} (h : IsSt S n) : ∃ (v b : Int) (T : Sto), 0 ≤ v ∧ run (k + 1) ._law_next [.ref n] S = .ok (.int v) T ∧ NxSt S n T ∧ ∃ a, T[n]? = some (.lst [.int a, .int b]) := by
  have hn := h.lt
  obtain ⟨a, b, h0, h⟩ := h
  have hT : (S.set n (.lst [.int ((a * 48271 + 11) % 2147483647), .int (b - 1)]))[n]? = some (.lst [.int ((a * 48271 + 11) % 2147483647), .int (b - 1)]) := by rw [List.getElem?_set_self hn]
  exact ⟨_, _, _, by omega, next_ok h, ⟨_, _, by omega, rfl⟩, _, hT⟩

end K_k02
end
section
namespace K_k02
open PySem L2 PM
theorem kind2_ok {n q : Nat} (nq : n ≠ q) {w : Int} (hw : 0 ≤ w ∧ w < 1000000000) {ls : List Str} (h4 : ls.length = 4) (hn : ls.Nodup) (hl : ∀ l ∈ ls, IsLab l) : ∀ (d : Nat) {k M : Nat} {S : Sto} {l b : Int}, l = d + 1 → d + 2 ≤ k → M ≤ 1000 → KS2 S n q M b →
    ∃ kk T, run k ._law_kind [.ref n, .lst (ls.map .str), .lst [.int w, .ref q], .int l] S = .ok (kd kk) T ∧ WK (d + 1) kk ∧ KE2 T n q M (4 * b.toNat + 1) kk ∧ KNx S T n q := by
  intro d
  induction d with
  | zero =>
    intro k M S l b hd hk hM hs
    obtain ⟨k, rfl⟩ : ∃ j, k = j + 2 := ⟨k - 2, by omega⟩
    obtain ⟨a, ws, h0, hS, hq, hws, hb⟩ := hs
    have hr := next_ok (k := k) hS
    refine ⟨.num, _, ?_, .num, ⟨b - 1, ⟨(a * 48271 + 11) % 2147483647, ws, ?_, sto_set hS, by rw [List.getElem?_set_ne nq]; exact hq, hws, by omega⟩, by rw [kn]; omega⟩, .set1⟩
    · rw [run_succ]
      simp only [body, fin, slots, runB, b__law_kind]
      simp [hr, hd, kd, finRaw]
    · omega
  | succ d ih =>
    intro k M S l b hd hk hM hs
    obtain ⟨k, rfl⟩ : ∃ j, k = j + 2 := ⟨k - 2, by omega⟩
    obtain ⟨a, ws, h0, hS, hq, hws, hb⟩ := hs
    have hr := next_ok (k := k) hS
    have hT := sto_set (o := .lst [.int ((a * 48271 + 11) % 2147483647), .int (b - 1)]) hS
    have hqT : (S.set n (.lst [.int ((a * 48271 + 11) % 2147483647), .int (b - 1)]))[q]? = some (.lst (ws.map wD)) := by rw [List.getElem?_set_ne nq]; exact hq
    have hx : KNx S (S.set n (.lst [.int ((a * 48271 + 11) % 2147483647), .int (b - 1)])) n q := .set1
    have hv : 0 ≤ (a * 48271 + 11) % 2147483647 := by omega
    have hv2 : 0 ≤ (a * 48271 + 11) % 2147483647 / 7 := by omega
    generalize S.set n (.lst [.int ((a * 48271 + 11) % 2147483647), .int (b - 1)]) = T at *
    generalize (a * 48271 + 11) % 2147483647 = a' at *
    generalize a' / 7 = v at *
    rw [run_succ]
    simp only [body, fin, slots, runB, b__law_kind]
    have hl1 : ¬ l ≤ 1 := by omega
    simp [hr, hl1, opIx_ref hT, opMod_pos]
    by_cases c1 : b - 1 ≤ 0
    · refine ⟨.num, T, ?_, .num, ⟨b - 1, ⟨a', ws, hv, hT, hqT, hws, by omega⟩, by rw [kn]; omega⟩, hx⟩
      simp [c1, kd, finRaw]
    by_cases c2 : v % 7 < 2
    · refine ⟨.num, T, ?_, .num, ⟨b - 1, ⟨a', ws, hv, hT, hqT, hws, by omega⟩, by rw [kn]; omega⟩, hx⟩
      simp [c1, c2, kd, finRaw]
    by_cases c3 : v % 7 = 2
    · refine ⟨.blk (w * 2 * (v / 7 % 3)), T, ?_, .blk, ⟨b - 1, ⟨a', ws, hv, hT, hqT, hws, by omega⟩, by rw [kn]; omega⟩, hx⟩
      simp [c1, c3, kd, finRaw, opMul_l (show -18446744073709551616 < w ∧ w < 18446744073709551616 by omega), opMul_l (show -18446744073709551616 < w * 2 ∧ w * 2 < 18446744073709551616 by omega), opDiv_pos, opMod_pos]
    obtain ⟨l1, hl1', e1⟩ := labs_at h4 (show 0 ≤ v / 7 % 4 by omega) (by omega)
    obtain ⟨l2, hl2', e2⟩ := labs_at h4 (show 0 ≤ v / 28 % 4 by omega) (by omega)
    obtain ⟨l3, hl3', e3⟩ := labs_at h4 (show 0 ≤ v / 112 % 4 by omega) (by omega)
    have eS : ∀ S, cSorted [.lst (ls.map .str)] S = .ok (.lst ((sortStr ls).map .str)) S := fun S => by
      simp only [cSorted, rdL, asL, strsOf_id]
    simp [c1, c2, c3, opDiv_pos, opMod_pos, e1, e2, e3, cutD_to (show 0 ≤ v / 448 % 4 by omega), eS, wipeD]
    have ep : List.take (v / 448 % 4).toNat [D.str l1, D.str l2, D.str l3] = ([l1, l2, l3].take (v / 448 % 4).toNat).map D.str := by rw [List.map_take]; rfl
    rw [ep]
    generalize [l1, l2, l3].take (v / 448 % 4).toNat = pk
    rw [comp_filtm (i := D.str) (p := fun x => decide (x ∈ pk)) (f := D.str) trivial _ _ fun x _ => ⟨_, rfl, by simp [opIn_strs], fun _ => by simp⟩]
    have ww : ∀ x ∈ (sortStr ls).filter fun x => decide (x ∈ pk), x ∈ ls := fun x hx => (sortStr_perm ls).mem_iff.mp (List.mem_filter.mp hx).1
    have wn : ((sortStr ls).filter fun x => decide (x ∈ pk)).Nodup := List.Nodup.sublist List.filter_sublist ((sortStr_perm ls).nodup_iff.mpr hn)
    have wl : ((sortStr ls).filter fun x => decide (x ∈ pk)).length ≤ 4 := Nat.le_trans (List.length_filter_le _ _) (by rw [(sortStr_perm ls).length_eq, h4]; exact Nat.le_refl _)
    generalize ((sortStr ls).filter fun x => decide (x ∈ pk)) = wds at *
    have wok : WOk wds := fun x hx => hl x (ww x hx)
    simp [wipeD]
    generalize hC : compM _ _ _ _ _ _ _ _ = r
    obtain ⟨acc, T2, e, ks, b2, e4, e5, e6, ⟨a2, ws2, k0, kS, kq, kws, kb⟩, e8, e10⟩ := comp_ofN hC (fun i acc S' => ∃ ks b', acc = fldD (wds.take i) (kds ks) ∧ ks.length = i ∧ (∀ k ∈ ks, WK (d + 1) k) ∧ KS2 S' n q (M - 1) b' ∧ KNx T S' n q ∧ kns ks + 4 * b'.toNat ≤ 4 * (b - 1).toNat + ks.length)
      ⟨[], b - 1, rfl, rfl, by simp, ⟨a', ws, hv, hT, hqT, hws, by omega⟩, .refl, by simp [kns]⟩ (fun i x acc S1 hx hI => by
        obtain ⟨ks, b1, e4, e5, e6, e7, e8, e9⟩ := hI
        rw [List.getElem?_map] at hx
        obtain ⟨y, hy, ex⟩ := Option.map_eq_some_iff.mp hx
        obtain ⟨kk, U, g1, g2, ⟨b3, g3, g5⟩, g4⟩ := ih (k := k + 1) (l := l - 1) (by omega) (by omega) (by omega) e7
        subst e4 ex
        have hi : i < wds.length := (List.getElem?_eq_some_iff.mp hy).1
        refine ⟨_, S1, .tup [.str y, kd kk], U, rfl, ?_, ks ++ [kk], b3, ?_, by simp [e5], ?_, g3, e8.trans g4, by rw [kns_app, List.length_append]; simp only [kns, List.length_cons, List.length_nil]; omega⟩
        · simp [g1]
        · have ht : wds.take (i + 1) = wds.take i ++ [y] := by rw [List.take_add_one, hy]; rfl
          rw [ht, show kds (ks ++ [kk]) = kds ks ++ [kd kk] from by simp [kds_map], fldD_snoc (by rw [kds_len, e5, List.length_take]; omega)]
        · intro x hx
          rcases List.mem_append.mp hx with hx | hx
          · exact e6 x hx
          · rw [List.mem_singleton.mp hx]; exact g2)
    subst e e4
    have hM1 : 1 ≤ M := by omega
    rw [List.length_map] at e5
    rw [List.length_map, List.take_length]
    have hlen : wds.length = ks.length := e5.symm
    simp
    by_cases c5 : v / 1792 % 2 = 0
    · refine ⟨.rc wds ks none, T2, ?_, .rc hlen (by omega) wn wok e6, ⟨b2, ⟨a2, ws2, k0, kS, kq, kws, by omega⟩, by rw [kn]; omega⟩, hx.trans e8⟩
      simp [c5, kd, finRaw, rD0, opDiv_pos, opMod_pos]
    have hni := opNotIn_ws kq wok kws
    rw [wD] at hni
    by_cases c6 : wds ∈ ws2
    · obtain ⟨j, hj, hji⟩ := cIndex_ws kq wok kws c6
      rw [wD] at hji
      refine ⟨.rc wds ks (some (w * (1 + 2 * (j : Int)))), T2, ?_, .rc hlen (by omega) wn wok e6, ⟨b2, ⟨a2, ws2, k0, kS, kq, kws, by omega⟩, by rw [kn]; omega⟩, hx.trans e8⟩
      simp [c5, c6, opDiv_pos, opMod_pos, hni, hji, isLst_ref kq, kd, finRaw, rD0, opMul_l, opMul_l (show -18446744073709551616 < w ∧ w < 18446744073709551616 by omega)]
    · have hcap : (ws2.map wD).length < sizeLine := by rw [List.length_map]; exact Nat.lt_of_lt_of_le (by omega) szl
      have hq3 : (T2.set q (.lst ((ws2 ++ [wds]).map wD)))[q]? = some (.lst ((ws2 ++ [wds]).map wD)) := sto_set kq
      have kws3 : ∀ w ∈ ws2 ++ [wds], WOk w := fun x hx => by
        rcases List.mem_append.mp hx with hx | hx
        · exact kws x hx
        · rw [List.mem_singleton.mp hx]; exact wok
      obtain ⟨j, hj, hji⟩ := cIndex_ws hq3 wok kws3 (by simp)
      have e9 : ws2.map wD ++ [wD wds] = (ws2 ++ [wds]).map wD := by simp
      have hap : cAppend (.ref q) [.lst (wds.map .str)] T2 = .ok .non (T2.set q (.lst ((ws2 ++ [wds]).map wD))) := by rw [cAppend_ref kq hcap, ← e9]; rfl
      rw [wD] at hji
      refine ⟨.rc wds ks (some (w * (1 + 2 * (j : Int)))), T2.set q (.lst ((ws2 ++ [wds]).map wD)), ?_, .rc hlen (by omega) wn wok e6, ⟨b2, ⟨a2, ws2 ++ [wds], k0, by rw [List.getElem?_set_ne (Ne.symm nq)]; exact kS, hq3, kws3, by simp; omega⟩, by rw [kn]; omega⟩, (hx.trans e8).trans .set2⟩
      generalize T2.set q (.lst ((ws2 ++ [wds]).map wD)) = T3 at *
      simp [c5, c6, opDiv_pos, opMod_pos, hni, hji, hap, isLst_ref kq, isLst_ref hq3, kd, finRaw, rD0, opMul_l, opMul_l (show -18446744073709551616 < w ∧ w < 18446744073709551616 by omega)]

end K_k02
end
section
namespace K_k02
open PySem L2 PM
def OddD (d : D) : Bool := th 8 d && decide (sz d ≤ 40)
theorem nl_ok {ds : List D} {S : Sto} (h : ds.length ≤ 100) : newLst ds S = .ok (.lst ds) S := newLst_ok (Nat.le_trans h (Nat.le_trans (by decide) szl))
theorem al_ok {a b : List D} {S : Sto} (h : a.length + b.length ≤ 100) : opAdd (.lst a) (.lst b) S = .ok (.lst (a ++ b)) S := opAdd_lst (Nat.le_trans h (Nat.le_trans (by decide) szl))
theorem atI_all {xs : List D} {P : D → Bool} (h : xs.all P = true) {i : Int} (h0 : 0 ≤ i) (h1 : i < xs.length) : ∃ r, (∀ S : Sto, at1 (atI xs i) S = .ok r S) ∧ P r = true := by
  obtain ⟨w, hw, ew⟩ := opIx_map (f := fun d : D => d) (xs := xs) (j := i) h0 h1
  refine ⟨w, fun S => ?_, List.all_eq_true.mp h w hw⟩
  have := ew S
  rw [opIx_lst, List.map_id'] at this
  exact this
theorem at_gen {xs : List D} {P : D → Bool} {i : Int} {S : Sto} {q : R D} (hL : at1 (atI xs i) S = q) (h : xs.all P = true) (h0 : 0 ≤ i) (h1 : i < xs.length) : ∃ r, q = .ok r S ∧ P r = true := by
  obtain ⟨r, a, b⟩ := atI_all h h0 h1
  exact ⟨r, by rw [← hL, a], b⟩
theorem odd_ok {k : Nat} {S : Sto} {n : Int} : ∃ r, run (k + 1) ._law_odd [.int n, .tup [.str "number"]] S = .ok r S ∧ OddD r = true := by
  rw [run_succ]
  simp only [body, fin, slots, runB, b__law_odd]
  simp [nl_ok, al_ok, opMod_pos]
  generalize hL : at1 _ S = q
  obtain ⟨r, h1, h2⟩ := at_gen (P := OddD) hL (by decide +kernel) (Int.emod_nonneg _ (by decide)) (Int.emod_lt_of_pos _ (by decide))
  subst h1
  exact ⟨r, by simp [finRaw], h2⟩

end K_k02
end
section
namespace K_k02
open PySem L2 PM
theorem szs_cut {ds : List D} {i : Nat} {x : D} (h : ds[i]? = some x) : szs (ds.take i) + sz x + szs (ds.drop (i + 1)) = szs ds := by
  induction ds generalizing i with
  | nil => cases h
  | cons y ds ih =>
    cases i with
    | zero =>
      simp only [List.getElem?_cons_zero, Option.some.injEq] at h
      subst h
      simp [szs]
    | succ i =>
      simp only [List.getElem?_cons_succ] at h
      have := ih h
      simp only [List.take_succ_cons, List.drop_succ_cons, szs]; omega
theorem changed_ok {m : Nat} {o : D} (ho : th m o = true) : ∀ (d : Nat) {k : Nat} {S : Sto} {kk : K} {p : Int}, WK d kk → d ≤ 20 → d + 1 ≤ k → 0 ≤ p →
    ∃ r, run k ._law_changed [kd kk, .int p, o] S = .ok r S ∧ th (3 * d + m) r = true ∧ sz r ≤ sz (kd kk) + sz o := by
  intro d
  induction d with
  | zero => intro k S kk p h; cases h
  | succ d ih =>
    intro k S kk p hk hd hj hp
    obtain ⟨k, rfl⟩ : ∃ j, k = j + 1 := ⟨k - 1, by omega⟩
    have hto : th (3 * (d + 1) + m) o = true := th_mono _ (by omega) ho
    have hth := th_kd hk
    have hpl := pl_kd hk
    rw [run_succ]
    simp only [body, fin, slots, runB, b__law_changed]
    cases hk with
    | num => exact ⟨o, by simp [kd, finRaw], hto, by omega⟩
    | blk => exact ⟨o, by simp [kd, finRaw], hto, by omega⟩
    | rc h1 h2 h3 h4 h5 =>
      rename_i ls ks r
      have hplf : pl (3 * d + 2) (.tup (fldD ls (kds ks))) = true := by
        rw [show 3 * (d + 1) = (3 * d + 2) + 1 by omega] at hpl
        simp only [kd, pl, List.all_cons, List.all_nil, Bool.and_true, Bool.and_eq_true] at hpl ⊢
        exact hpl.2.1
      have heq : ∀ S, opEq (.tup (fldD ls (kds ks))) (.tup []) S = .ok (.bl (decide (fldD ls (kds ks) = []))) S := fun S => opEq_of (eqD_tup_nil hplf (by omega))
      have hlf : (fldD ls (kds ks)).length = ls.length := by rw [fldD, List.length_zipWith, kds_len, h1, Nat.min_self]
      simp [kd, heq, opMod_pos]
      have hc : (if fldD ls (kds ks) = [] then R.ok true S else R.ok (decide (p % 4 = 0)) S) = R.ok (decide (fldD ls (kds ks) = [] ∨ p % 4 = 0)) S := by
        by_cases q1 : fldD ls (kds ks) = []
        · simp [q1]
        · simp [q1]
      rw [hc]
      by_cases c2 : fldD ls (kds ks) = [] ∨ p % 4 = 0
      · refine ⟨o, ?_, hto, by omega⟩
        simp [c2, finRaw]
      · have hne : 0 < ls.length := by
          rcases Nat.eq_zero_or_pos ls.length with h | h
          · exact absurd (.inl (List.eq_nil_of_length_eq_zero (by rw [hlf, h]))) c2
          · exact h
        have j0 := Int.emod_nonneg (p / 4) (show (ls.length : Int) ≠ 0 by omega)
        have j1 := Int.emod_lt_of_pos (p / 4) (show (0 : Int) < ls.length by omega)
        obtain ⟨l, hlj⟩ : ∃ l, ls[(p / 4 % ls.length).toNat]? = some l := ⟨_, List.getElem?_eq_getElem (by omega)⟩
        obtain ⟨v, hvj⟩ : ∃ v, ks[(p / 4 % ls.length).toNat]? = some v := ⟨_, List.getElem?_eq_getElem (by omega)⟩
        have hfj : (fldD ls (kds ks))[(p / 4 % ls.length).toNat]? = some (.tup [.str l, kd v]) := by
          rw [fldD, List.getElem?_zipWith, hlj, kds_map, List.getElem?_map, hvj]; rfl
        have hat : ∀ S, at1 (atI (fldD ls (kds ks)) (p / 4 % ls.length)) S = .ok (.tup [.str l, kd v]) S := fun S => by
          rw [atI_of _ j0, hfj]; rfl
        obtain ⟨w, hw, ww, ws⟩ := ih (k := k) (S := S) (p := p / 16) (h5 v (List.mem_of_getElem? hvj)) (by omega) (by omega) (by omega)
        have hz1 : ((fldD ls (kds ks)).take (p / 4 % (ls.length : Int)).toNat).length + [D.tup [.str l, w]].length ≤ sizeLine := by
          have := List.length_take_le (p / 4 % (ls.length : Int)).toNat (fldD ls (kds ks))
          simp; exact Nat.le_trans (by omega) szl
        have hz2 : ((fldD ls (kds ks)).take (p / 4 % (ls.length : Int)).toNat ++ [D.tup [.str l, w]]).length + ((fldD ls (kds ks)).drop (p / 4 % (ls.length : Int) + 1).toNat).length ≤ sizeLine := by
          simp; exact Nat.le_trans (by omega) szl
        refine ⟨.tup [.str "record", .tup ((fldD ls (kds ks)).take (p / 4 % (ls.length : Int)).toNat ++ [D.tup [.str l, w]] ++ (fldD ls (kds ks)).drop (p / 4 % (ls.length : Int) + 1).toNat), rD0 r], ?_, ?_, ?_⟩
        · simp [c2, opDiv_pos, hlf, opMod_pos (show (0 : Int) < ls.length by omega), hat, hw, cutD_to j0, cutD_from (show 0 ≤ p / 4 % (ls.length : Int) + 1 by omega)]
          rw [opAdd_tup hz1]
          simp only [R.bind_ok]
          rw [opAdd_tup hz2]
          simp [finRaw]
        · rw [show 3 * (d + 1) + m = 3 * d + 2 + m + 1 by omega]
          have h0 : th (3 * d + 2) (.tup (fldD ls (kds ks))) = true ∧ th (3 * d + 2) (rD0 r) = true := by
            rw [show 3 * (d + 1) = 3 * d + 2 + 1 by omega] at hth
            have := (th_tup_inv hth).2
            exact ⟨this _ (by simp), this _ (by simp)⟩
          refine th_rec ?_ (th_mono _ (by omega) h0.2)
          have h6 := (th_tup_inv (n := 3 * d + 1) h0.1).2
          refine th_mono (n := 3 * d + 1 + m + 1) _ (by omega) (th_tup ?_ fun x hx => ?_)
          · simp; omega
          · rcases List.mem_append.mp hx with hx | hx
            · rcases List.mem_append.mp hx with hx | hx
              · exact th_mono _ (by omega) (h6 x (List.mem_of_mem_take hx))
              · rw [List.mem_singleton.mp hx]
                refine th_mono (n := 3 * d + m + 1) _ (by omega) (th_fld ?_ ww)
                have := h4 l (List.mem_of_getElem? hlj)
                exact ⟨this.ok, by have := this.2.2; omega⟩
            · exact th_mono _ (by omega) (h6 x (List.mem_of_mem_drop hx))
        · have hcut := szs_cut hfj
          rw [show (p / 4 % (ls.length : Int) + 1).toNat = (p / 4 % (ls.length : Int)).toNat + 1 by omega]
          simp only [sz, szs, szs_app, kd] at hcut ws ⊢
          omega

end K_k02
end
section
namespace K_k02
open PySem L2 PM
mutual
def mrg (w : Int) : K → K
  | .num => .num
  | .blk n => .blk (n % w)
  | .rc ls ks r => .rc ls (mrgs w ks) (r.map (· % w))
def mrgs (w : Int) : List K → List K
  | [] => []
  | k :: ks => mrg w k :: mrgs w ks
end
theorem mrgs_map (w : Int) : ∀ ks : List K, mrgs w ks = ks.map (mrg w)
  | [] => rfl
  | k :: ks => by rw [mrgs, mrgs_map w ks]; rfl
theorem mrg_wk {w : Int} {d : Nat} {k : K} (h : WK d k) : WK d (mrg w k) ∧ kn (mrg w k) = kn k := by
  induction h with
  | num => exact ⟨.num, rfl⟩
  | blk => exact ⟨.blk, rfl⟩
  | rc h1 h2 h3 h4 h5 ih =>
    rename_i d ls ks r
    rw [mrg, mrgs_map]
    refine ⟨.rc (by simpa using h1) (by simpa using h2) h3 h4 fun x hx => ?_, ?_⟩
    · obtain ⟨y, hy, e⟩ := List.mem_map.mp hx
      subst e; exact (ih y hy).1
    · rw [kn, kn, kns_sum, kns_sum, List.map_map]
      congr 2
      exact List.map_congr_left fun y hy => (ih y hy).2
theorem merged_ok {w : Int} (hw : 0 < w) : ∀ (d : Nat) {k : Nat} {S : Sto} {kk : K}, WK d kk → d ≤ k → run k ._law_merged [kd kk, .int w] S = .ok (kd (mrg w kk)) S := by
  intro d
  induction d with
  | zero => intro k S kk h; cases h
  | succ d ih =>
    intro k S kk hk hj
    obtain ⟨k, rfl⟩ : ∃ j, k = j + 1 := ⟨k - 1, by omega⟩
    rw [run_succ]
    simp only [body, fin, slots, runB, b__law_merged]
    cases hk with
    | num => simp [kd, mrg, finRaw]
    | blk => simp [kd, mrg, finRaw, opMod_pos hw]
    | rc h1 h2 h3 h4 h5 =>
      rename_i ls ks r
      have hf : fldD ls (kds (mrgs w ks)) = (ls.zip ks).map fun p => .tup [.str p.1, kd (mrg w p.2)] := by
        rw [mrgs_map, fld_zipK (by simpa using h1), List.zip_map_right, List.map_map]; rfl
      have hc : ∀ {S : Sto} {x0 x2 : Option D}, compM (fun _ => True) (gmTup [4, 3]) mYes (mApp newTup (mCons (mV 4) (mCons (mApp (run k ._law_merged) (mCons (mV 3) (mCons (mV 1) mNil))) mNil))) [x0, some (.int w), x2, none, none] [] (fldD ls (kds ks)) S = .ok (.lst (fldD ls (kds (mrgs w ks)))) S := by
        intro S x0 x2
        rw [fld_zipK h1, hf, comp_map (i := fun p : Str × K => .tup [.str p.1, kd p.2]) (f := fun p => .tup [.str p.1, kd (mrg w p.2)]) (hg := trivial) (h := fun p hp => by
          have := ih (k := k) (S := S) (h5 p.2 (zip_mem hp).2) (by omega)
          exact ⟨[x0, some (.int w), x2, some (kd p.2), some (.str p.1)], by simp, rfl, by simp [this]⟩)]
        rfl
      cases r with
      | none => simp [kd, mrg, finRaw, rD0, isNon, wipeD, hc]
      | some i => simp [kd, mrg, finRaw, rD0, isNon, wipeD, hc, opMod_pos hw]

end K_k02
end
section
namespace K_k02
open PySem L2 PM
def OkT (d : D) : Prop := th 100 d = true ∧ sz d ≤ 5000
theorem word_ok2 {i j : Int} (h0 : 0 ≤ i) (h1 : i < 26) (g0 : 0 ≤ j) (g1 : j < 26) : IsLab (⟨[97 + i.toNat, 97 + j.toNat].toArray⟩ : Str) := by
  refine ⟨fun x hx => ?_, ?_, ?_⟩
  · simp at hx
    rcases hx with e | e <;> subst e <;> omega
  · show 1 ≤ 2; decide
  · show 2 ≤ 8; decide
theorem thing_ok {ls : List Str} (h4 : ls.length = 4) (hl : ∀ l ∈ ls, IsLab l) {k : Nat} {S : Sto} {kk : K} {w n : Int} (hk : WK 12 kk) (hs : kn kk ≤ 200) (hw : 0 ≤ w) (hn : 0 ≤ n) : ∃ r, run (k + 20) ._law_thing [kd kk, .lst (ls.map .str), .int w, .int n] S = .ok r S ∧ OkT r := by
  rw [run_succ]
  simp only [body, fin, slots, runB, b__law_thing]
  have hth := th_kd hk
  have hsz := sz_kd hk
  simp [opMod_pos, opDiv_pos]
  by_cases c0 : w % 4 = 0
  · obtain ⟨wk, e⟩ := mrg_wk (w := 2 + n % 3) hk
    have := merged_ok (w := 2 + n % 3) (by omega) 12 (k := k + 19) (S := S) hk (by omega)
    have s2 := sz_kd wk
    refine ⟨kd (mrg (2 + n % 3) kk), by simp [c0, this, finRaw], th_mono _ (by omega) (th_kd wk), by omega⟩
  by_cases c1 : w % 4 = 1
  · have l1 : limR 0 (n % 12) = true := limR_ok (by omega)
    simp [c0, c1, l1, rangeD_map, opMod_pos]
    generalize hL : loopM _ _ _ _ _ = r
    obtain ⟨δ', S', e, ⟨t, x5, x6, x7, x8, x9, eδ, ht, hz⟩, eS⟩ := loop_of hL (fun i δ S' => (∃ t x5 x6 x7 x8 x9, δ = [some (kd kk), some (.lst (ls.map .str)), some (.int w), some (.int n), some t, x5, x6, x7, x8, x9] ∧ th (36 + 3 * i) t = true ∧ sz t ≤ 1200 + 10 * i) ∧ S' = S)
      ⟨⟨_, _, _, _, _, _, rfl, hth, by omega⟩, rfl⟩ (fun i x δ S1 hx ⟨⟨t, x5, x6, x7, x8, x9, hδ, ht, hz⟩, hS⟩ => by
        rw [List.getElem?_map] at hx
        obtain ⟨y, hy, ex⟩ := Option.map_eq_some_iff.mp hx
        obtain ⟨l, hl1, el⟩ := labs_at h4 (show (0 : Int) ≤ (y : Int) % 4 by omega) (by omega)
        have := el S1
        rw [opIx_lst] at this
        subst hδ ex hS
        refine ⟨[some (kd kk), some (.lst (ls.map .str)), some (.int w), some (.int n), some (.tup [.str "record", .tup [.tup [.str l, t]], .non]), some (.int y), x6, x7, x8, x9], S1, .inl ?_, ⟨_, _, _, _, _, _, rfl, ?_, ?_⟩, rfl⟩
        · simp [loopB_eq, opMod_pos, this]
        · have hlab := hl l hl1
          exact th_rec (n := 36 + 3 * i + 2) (th_tup (n := 36 + 3 * i + 1) (by simp) (by simp; exact th_fld ⟨hlab.ok, by have := hlab.2.2; omega⟩ ht)) th_non
        · simp only [sz, szs]; omega)
    subst e eδ eS
    refine ⟨t, by simp [finRaw], ?_, ?_⟩
    · exact th_mono _ (by simp; omega) ht
    · simp at hz; omega
  by_cases c2 : w % 4 = 2 ∧ w / 4 % 4 = 0
  · simp [c0, c1, c2.1, c2.2, opMod_pos, opDiv_pos]
    generalize hL : at1 _ S = q
    obtain ⟨z, ez, hz⟩ : ∃ z : Int, q = .ok (.int z) S ∧ 0 ≤ z ∧ z ≤ 210 := by
      obtain ⟨r, h1, h2⟩ := at_gen (P := fun d => match d with | .int z => decide (0 ≤ z ∧ z ≤ 210) | _ => false) hL (by simp; omega) (Int.emod_nonneg _ (by decide)) (Int.emod_lt_of_pos _ (by decide))
      cases r with
      | int z => exact ⟨z, h1, of_decide_eq_true h2⟩
      | _ => cases h2
    subst ez
    have l1 : limR 0 z = true := limR_ok (by omega)
    simp [l1, rangeD_map, wipeD]
    rw [comp_map (i := fun i : Nat => D.int i) (f := fun i : Nat => D.str (⟨[97 + ((i : Int) / 26).toNat, 97 + ((i : Int) % 26).toNat].toArray⟩ : Str)) (hg := trivial) (h := fun x hx => by
      have hx : x < z.toNat := by simpa using hx
      refine ⟨_, rfl, rfl, ?_⟩
      simp [opDiv_pos, opMod_pos, opIx_alpha (show 0 ≤ (x : Int) / 26 by omega) (by omega), opIx_alpha (show 0 ≤ (x : Int) % 26 by omega) (by omega)]
      have z1 : (⟨[97 + ((x : Int) / 26).toNat].toArray⟩ : Str).length + (⟨[97 + ((x : Int) % 26).toNat].toArray⟩ : Str).length ≤ sizeLine := Nat.le_trans (show 2 ≤ 1000 by decide) (Nat.le_trans (by decide) szl)
      have := str_app [97 + ((x : Int) / 26).toNat] [97 + ((x : Int) % 26).toNat]
      have h3 := opAdd_str (S := S) z1
      rw [this] at h3
      exact h3)]
    simp [wipeD]
    rw [comp_map (i := fun i : Nat => D.str ⟨#[97 + ((i : Int) / 26).toNat, 97 + ((i : Int) % 26).toNat]⟩) (f := fun i : Nat => D.tup [.str ⟨#[97 + ((i : Int) / 26).toNat, 97 + ((i : Int) % 26).toNat]⟩, .tup [.str "number"]]) (hg := trivial) (h := fun x hx => ⟨_, rfl, rfl, by simp⟩)]
    refine ⟨.tup [.str "record", .tup ((List.range z.toNat).map fun i : Nat => D.tup [.str ⟨#[97 + ((i : Int) / 26).toNat, 97 + ((i : Int) % 26).toNat]⟩, .tup [.str "number"]]), .non], by simp [finRaw], ?_, ?_⟩
    · refine th_rec (n := 99) (th_tup (n := 98) (by simp; omega) fun x hx => ?_) th_non
      obtain ⟨i, hi, e⟩ := List.mem_map.mp hx
      subst e
      have hi : i < z.toNat := by simpa using hi
      have hlab := word_ok2 (show 0 ≤ (i : Int) / 26 by omega) (show (i : Int) / 26 < 26 by omega) (show 0 ≤ (i : Int) % 26 by omega) (show (i : Int) % 26 < 26 by omega)
      exact th_fld (n := 97) ⟨hlab.ok, by have := hlab.2.2; exact Nat.le_trans this (by decide)⟩ (th_tup (n := 96) (by simp) (by simp [th_str]; decide +kernel))
    · have h5 : ∀ xs : List Nat, szs (xs.map fun i : Nat => D.tup [.str ⟨#[97 + ((i : Int) / 26).toNat, 97 + ((i : Int) % 26).toNat]⟩, .tup [.str "number"]]) = 4 * xs.length := by
        intro xs
        induction xs with
        | nil => rfl
        | cons x xs ih => simp only [List.map_cons, szs, ih, sz, List.length_cons]; omega
      simp only [sz, szs, h5, List.length_range]
      omega
  · simp [c0, c1, opMod_pos, opDiv_pos]
    obtain ⟨o, ho, hod⟩ := odd_ok (k := k + 18) (S := S) (n := n)
    simp only [OddD, Bool.and_eq_true, decide_eq_true_eq] at hod
    obtain ⟨r, hr, ht, hz⟩ := changed_ok (m := 8) hod.1 12 (k := k + 19) (S := S) (p := w / 4) hk (by omega) (by omega) (by omega)
    refine ⟨r, ?_, th_mono _ (by omega) ht, by omega⟩
    by_cases q2 : w % 4 = 2
    · have q3 : ¬ w / 4 % 4 = 0 := fun h => c2 ⟨q2, h⟩
      simp [q2, q3, ho, hr, finRaw, opMod_pos, opDiv_pos]
    · simp [q2, ho, hr, finRaw, opMod_pos, opDiv_pos]

end K_k02
end
section
namespace K_k02
open PySem L2 PM
theorem az_ok {s : Str} (h : ∀ x ∈ s.cps.toList, 97 ≤ x ∧ x < 123) : PyData.strOk s = true := by
  unfold PyData.strOk
  rw [Array.all_eq_true']
  intro x hx
  have := h x (by simpa using hx)
  simp; omega
theorem main_ok (ns : List Int) (hns : ns.length ≤ 63) : ∃ S', run 60 .law [.scr (ns.map D.int)] [] = .ok (.bl true) S' := by
  have ec : ∀ (j : Nat) S, run 59 ._law_cell [.scr (ns.map D.int), .int j] S = .ok (.int (cellv ns j)) S := fun j S => cell_ok (k := 58) (j := j)
  have e0 : ∀ S, run 59 ._law_cell [.scr (ns.map D.int), .int 0] S = .ok (.int (cellv ns 0)) S := ec 0
  have e1 : ∀ S, run 59 ._law_cell [.scr (ns.map D.int), .int 1] S = .ok (.int (cellv ns 1)) S := ec 1
  have e2 : ∀ S, run 59 ._law_cell [.scr (ns.map D.int), .int 2] S = .ok (.int (cellv ns 2)) S := ec 2
  have e3 : ∀ S, run 59 ._law_cell [.scr (ns.map D.int), .int 3] S = .ok (.int (cellv ns 3)) S := ec 3
  have zz := cellv_lo ns
  have z0 := zz 0
  have z1 := zz 1
  have z2 := zz 2
  have z3 := zz 3
  generalize cellv ns 0 = c0 at *
  generalize cellv ns 1 = c1 at *
  generalize cellv ns 2 = c2 at *
  generalize cellv ns 3 = c3 at *
  have hL : run 59 ._law_labels [.int c2, .int 4] [] = .ok (.lst ((labs c2 4).map .str)) [] := labels_ok (k := 58) (m := 4) z2 (by decide)
  have h4 := labs_len c2 4
  have hn := labs_nodup c2 (m := 4) (by decide)
  have hl := labs_is z2 (m := 4)
  generalize labs c2 4 = ls at *
  have hp : ∀ S, opPow (.int 10) (.int 6) S = .ok (.int 1000000) S := fun S => opPow_int (by decide)
  obtain ⟨kk, T, hk, wk, ⟨b, _, hkn⟩, kx⟩ := kind2_ok (n := 0) (q := 1) (by decide) (w := 1 + c3 % 1000000) (by omega) h4 hn hl (1 + c1 / 40 % 11).toNat (k := 59) (M := 40) (S := [.lst [.int (1 + c0 % 2147483645), .int (1 + c1 % 40)], .lst []]) (l := 2 + c1 / 40 % 11) (b := 1 + c1 % 40) (by omega) (by omega) (by decide)
    ⟨1 + c0 % 2147483645, [], by omega, rfl, rfl, by simp, by simp; omega⟩
  have hT : T.length = 2 := kx.1
  have wk : WK 12 kk := wk.mono (by omega)
  have hkn : kn kk ≤ 200 := by omega
  rw [run_succ]
  simp only [body, fin, slots, runB, b_law]
  obtain ⟨l0, e0'⟩ : ∃ l, ls[0]? = some l := ⟨_, List.getElem?_eq_getElem (by omega)⟩
  have hl0 := hl l0 (List.mem_of_getElem? e0')
  simp [e0, e1, e2, e3, hL, opMod_pos, opDiv_pos, hp, hk]
  have hokk : OkT (kd kk) := ⟨th_mono _ (by omega) (th_kd wk), by have := sz_kd wk; omega⟩
  have hS : (T ++ [MO.lst [kd kk]])[T.length]? = some (.lst [kd kk]) := sto_snoc
  generalize hL1 : loopM _ _ _ _ _ = r
  obtain ⟨δ', S', e, ⟨x6, eδ⟩, ds, eS, hds, hlen⟩ := loop_of hL1 (fun i δ S' => (∃ x6, δ = [some (.scr (ns.map D.int)), some (.lst (ls.map .str)), some (.ref 0), some (.lst [.int (1 + c3 % 1000000), .ref 1]), some (kd kk), some (.ref T.length), x6, none, none, none]) ∧ ∃ ds, S' = T ++ [.lst ds] ∧ (∀ d ∈ ds, OkT d) ∧ ds.length = i + 1)
    ⟨⟨_, rfl⟩, _, rfl, by simpa using hokk, rfl⟩ (fun i x δ S1 hx ⟨⟨x6, hδ⟩, ds, hS1, hds, hlen⟩ => by
      have hi : i < 2 := by
        have := (List.getElem?_eq_some_iff.mp hx).1
        simpa using this
      have hx2 : ∃ j : Nat, x = .int j ∧ j ≤ 9 := by
        have := List.mem_of_getElem? hx
        simp at this
        rcases this with e | e
        · exact ⟨8, e, by omega⟩
        · exact ⟨9, e, by omega⟩
      obtain ⟨j, ex, hj⟩ := hx2
      subst hδ ex hS1
      have ha : l0.length + (Str.ofString "aaaaaaaaa").length ≤ sizeLine := by
        rw [show (Str.ofString "aaaaaaaaa").length = 9 from by decide +kernel]
        have := hl0.2.2
        exact Nat.le_trans (by omega) szl
      have hlen9 : (j : Int).toNat ≤ (l0 ++ Str.ofString "aaaaaaaaa").length := by
        have e9 : (l0 ++ Str.ofString "aaaaaaaaa").length = l0.length + 9 := by
          show (l0.cps ++ (Str.ofString "aaaaaaaaa").cps).size = _
          rw [Array.size_append, show (Str.ofString "aaaaaaaaa").cps.size = 9 from by decide +kernel]; rfl
        rw [e9]; omega
      have hw : PyData.strOk (⟨((l0 ++ Str.ofString "aaaaaaaaa").cps.toList.take (j : Int).toNat).toArray⟩ : Str) = true := az_ok fun x hx => by
        have h1 : x ∈ (l0 ++ Str.ofString "aaaaaaaaa").cps.toList := List.mem_of_mem_take (by simpa using hx)
        have h2 : x ∈ (l0.cps ++ (Str.ofString "aaaaaaaaa").cps).toList := h1
        rw [Array.toList_append, List.mem_append] at h2
        rcases h2 with h2 | h2
        · exact hl0.1 x h2
        · rw [show (Str.ofString "aaaaaaaaa").cps.toList = List.replicate 9 97 from by decide +kernel] at h2
          have := List.eq_of_mem_replicate h2
          omega
      have hw2 : (⟨((l0 ++ Str.ofString "aaaaaaaaa").cps.toList.take (j : Int).toNat).toArray⟩ : Str).length ≤ 1000 := by
        show (List.take _ _).toArray.size ≤ _
        simp; omega
      have hcap : ds.length < sizeLine := Nat.lt_of_lt_of_le (by omega) szl
      have hcut := cutS_to (z := l0 ++ Str.ofString "aaaaaaaaa") (i := (j : Int)) (by omega) hlen9
      refine ⟨[some (.scr (ns.map D.int)), some (.lst (ls.map .str)), some (.ref 0), some (.lst [.int (1 + c3 % 1000000), .ref 1]), some (kd kk), some (.ref T.length), some (.int j), none, none, none],
        T ++ [.lst (ds ++ [.tup [.str "record", .tup [.tup [.str ⟨((l0 ++ Str.ofString "aaaaaaaaa").cps.toList.take (j : Int).toNat).toArray⟩, .tup [.str "number"]]], .non]])], .inl ?_, ⟨_, rfl⟩, _, rfl, fun d hd => ?_, by simp [hlen]⟩
      · simp [loopB_eq, e0', isLst_ref sto_snoc]
        rw [opAdd_str ha]
        simp [hcut]
        rw [cAppend_ref sto_snoc hcap]
        simp
      · rcases List.mem_append.mp hd with hd | hd
        · exact hds d hd
        · rw [List.mem_singleton.mp hd]
          refine ⟨th_rec (n := 99) (th_tup (n := 98) (by simp) ?_) th_non, by simp [sz, szs]⟩
          intro x hx
          rw [List.mem_singleton.mp hx]
          exact th_fld (n := 97) ⟨hw, hw2⟩ (th_tup (n := 96) (by simp) (by simp [th_str]; decide +kernel)))
  subst e eδ eS
  have l4 : limR 0 4 = true := limR_ok (by omega)
  simp [l4, rangeD_map]
  clear hL1
  generalize hL1 : loopM _ _ _ _ _ = r
  obtain ⟨δ', S', e, ⟨x7, eδ⟩, ds, eS, hds, hlen⟩ := loop_of hL1 (fun i δ S' => (∃ x7, δ = [some (.scr (ns.map D.int)), some (.lst (ls.map .str)), some (.ref 0), some (.lst [.int (1 + c3 % 1000000), .ref 1]), some (kd kk), some (.ref T.length), x6, x7, none, none]) ∧ ∃ ds, S' = T ++ [.lst ds] ∧ (∀ d ∈ ds, OkT d) ∧ ds.length = i + 3)
    ⟨⟨_, rfl⟩, _, rfl, hds, hlen⟩ (fun i x δ S1 hx ⟨⟨x7, hδ⟩, ds, hS1, hds, hlen⟩ => by
      have hi : i < 4 := by
        have := (List.getElem?_eq_some_iff.mp hx).1
        simpa using this
      rw [List.getElem?_map] at hx
      obtain ⟨y, hy, ex⟩ := Option.map_eq_some_iff.mp hx
      subst hδ ex hS1
      have f1 := ec (4 + 2 * y) (T ++ [.lst ds])
      have f2 := ec (5 + 2 * y) (T ++ [.lst ds])
      obtain ⟨r, hr, ok⟩ := thing_ok h4 hl (k := 39) (S := T ++ [.lst ds]) wk hkn (zz (4 + 2 * y)) (zz (5 + 2 * y))
      have hcap : ds.length < sizeLine := Nat.lt_of_lt_of_le (by omega) szl
      refine ⟨[some (.scr (ns.map D.int)), some (.lst (ls.map .str)), some (.ref 0), some (.lst [.int (1 + c3 % 1000000), .ref 1]), some (kd kk), some (.ref T.length), x6, some (.int y), none, none],
        T ++ [.lst (ds ++ [r])], .inl ?_, ⟨_, rfl⟩, _, rfl, fun d hd => ?_, by simp [hlen]⟩
      · rw [show (((4 + 2 * y : Nat)) : Int) = 4 + 2 * (y : Int) by omega] at f1
        rw [show (((5 + 2 * y : Nat)) : Int) = 5 + 2 * (y : Int) by omega] at f2
        simp [loopB_eq, isLst_ref sto_snoc, opMul_l, f1, f2, hr]
        rw [cAppend_ref sto_snoc hcap]
        simp
      · rcases List.mem_append.mp hd with hd | hd
        · exact hds d hd
        · rw [List.mem_singleton.mp hd]; exact ok)
  subst e eδ eS
  have hsl : opSl (.ref T.length) none (some 2) (T ++ [.lst ds]) = .ok (.lst (ds.take 2)) (T ++ [.lst ds]) := by
    have := cutD_to (xs := ds) (i := 2) (by omega)
    simp only [opSl, rdL, asL, sto_snoc, this]; rfl
  have hz : ds.length + (ds.take 2).length ≤ sizeLine := by
    have := List.length_take_le 2 ds
    have hlen : ds.length = 7 := by simpa using hlen
    exact Nat.le_trans (by omega) szl
  simp [hsl, opAdd_refl sto_snoc hz]
  clear hL1
  generalize hL1 : loopM _ _ _ _ _ = r
  obtain ⟨δ', S', e, ⟨x8, x9, eδ⟩, eS⟩ := loop_of hL1 (fun i δ S' => (∃ x8 x9, δ = [some (.scr (ns.map D.int)), some (.lst (ls.map .str)), some (.ref 0), some (.lst [.int (1 + c3 % 1000000), .ref 1]), some (kd kk), some (.ref T.length), x6, x7, x8, x9]) ∧ S' = T ++ [.lst ds])
    ⟨⟨_, _, rfl⟩, rfl⟩ (fun i x δ S1 hx ⟨⟨x8, x9, hδ⟩, hS1⟩ => by
      subst hδ hS1
      have hm : OkT x := by
        rcases List.mem_append.mp (List.mem_of_getElem? hx) with h | h
        · exact hds x h
        · exact hds x (List.mem_of_mem_take h)
      obtain ⟨b, h1, h2⟩ := both_ok hm.1 (by have := hm.2; omega)
      have h1 := h1 29 (T ++ [.lst ds])
      have h2 := h2 29 (T ++ [.lst ds])
      refine ⟨_, _, .inl ?_, ⟨some x, some (.bl b), rfl⟩, rfl⟩
      simp [loopB_eq, h1, h2, opIsB])
  subst e eδ eS
  simp [finRaw]

end K_k02
end
namespace K_k02
open PySem PySem.Spec L2 PM PyProof.Rows
structure Mgs (mg : Str → Option Value) : Prop where
  m_all : mg "all" = none
  m_bool : mg "bool" = none
  m_int : mg "int" = none
  m_isinstance : mg "isinstance" = none
  m_len : mg "len" = none
  m_range : mg "range" = none
  m_set : mg "set" = none
  m_sorted : mg "sorted" = none
  m_str : mg "str" = none
  m_sum : mg "sum" = none
  m_tuple : mg "tuple" = none
  g_MOST_KIND_DEEP : ∃ t, mg "MOST_KIND_DEEP" = some (.int 12 t)
  g_MOST_KNOTS : ∃ t, mg "MOST_KNOTS" = some (.int 200 t)
  g_MOST_SIGNS : ∃ t, mg "MOST_SIGNS" = some (.int 8 t)
  g_SMALL : ∃ t, mg "SMALL" = some (.str "abcdefghijklmnopqrstuvwxyz" t)
section
variable {w : World} {K : PySem.W.Frag} {mg : Str → Option Value} {base : Heap} {k : Nat} {C : Cs}
theorem sc_is_whole : FnScope N_is_whole ["thing"] (defScope (top 3)) := ⟨rfl, rfl, rfl, by decide +kernel, rfl, by decide +kernel, by decide +kernel⟩
theorem der_is_whole (hC : ∀ g, Has PySem.Challenge.rw_fieldrest_k02_kinds.prog w K mg base k (nm g) (ar g) (C g)) (M : Mgs mg) (f : Addr) (cdv : Value) (A : Around) (outer : List Env) (s : Shared) (H : Hp) (E : XK) (hr : Room k (A.deeper (envOfC "is_whole" (defScope (top 3)) s.heap.objs.size f cdv))) :
    DSs (cxOf (L2.CX PySem.Challenge.rw_fieldrest_k02_kinds.prog w) PySem.Challenge.rw_fieldrest_k02_kinds.prog w K mg base N_is_whole "is_whole" (defScope (top 3)) f cdv A outer s H E) (fun cls d _ H => E cls d H) (defBody (top 3)) (b_is_whole C) := by
  have nd := sc_is_whole.nd
  have tk : Takes (cxOf (L2.CX PySem.Challenge.rw_fieldrest_k02_kinds.prog w) PySem.Challenge.rw_fieldrest_k02_kinds.prog w K mg base N_is_whole "is_whole" (defScope (top 3)) f cdv A outer s H E) (fun cls d _ H => E cls d H) := takes_of rfl rfl rfl rfl
  exact (ds_one (ds_ret (de_and (de_isi (by rfl) M.m_isinstance (de_var (pv 0)) (pe_bltn (v := .ty "int") (by rfl) M.m_int (by decide +kernel) rfl)) (de_one (de_not (de_isi (by rfl) M.m_isinstance (de_var (pv 0)) (pe_bltn (v := .ty "bool") (by rfl) M.m_bool (by decide +kernel) rfl)))))))
theorem sc_is_word : FnScope N_is_word ["thing"] (defScope (top 4)) := ⟨rfl, rfl, rfl, by decide +kernel, rfl, by decide +kernel, by decide +kernel⟩
theorem der_is_word (hC : ∀ g, Has PySem.Challenge.rw_fieldrest_k02_kinds.prog w K mg base k (nm g) (ar g) (C g)) (M : Mgs mg) (f : Addr) (cdv : Value) (A : Around) (outer : List Env) (s : Shared) (H : Hp) (E : XK) (hr : Room k (A.deeper (envOfC "is_word" (defScope (top 4)) s.heap.objs.size f cdv))) :
    DSs (cxOf (L2.CX PySem.Challenge.rw_fieldrest_k02_kinds.prog w) PySem.Challenge.rw_fieldrest_k02_kinds.prog w K mg base N_is_word "is_word" (defScope (top 4)) f cdv A outer s H E) (fun cls d _ H => E cls d H) (defBody (top 4)) (b_is_word C) := by
  have nd := sc_is_word.nd
  have tk : Takes (cxOf (L2.CX PySem.Challenge.rw_fieldrest_k02_kinds.prog w) PySem.Challenge.rw_fieldrest_k02_kinds.prog w K mg base N_is_word "is_word" (defScope (top 4)) f cdv A outer s H E) (fun cls d _ H => E cls d H) := takes_of rfl rfl rfl rfl
  exact (ds_one (ds_ret (de_and (de_isi (by rfl) M.m_isinstance (de_var (pv 0)) (pe_bltn (v := .ty "str") (by rfl) M.m_str (by decide +kernel) rfl)) (de_and (de_chain opLe_ok opLe_ok de_int (de_callB cLen_ok (by rfl) M.m_len (by decide +kernel) (da_cons (de_var (pv 0)) da_nil)) (de_gint (by rfl) M.g_MOST_SIGNS)) (de_one (de_callB (cAll_ok rfl) (by rfl) M.m_all (by decide +kernel) (da_cons (de_comp (own := [("sign", 1)]) rfl nd (di_items (de_var (pv 0))) (blkOk_by (N := N_is_word) (sc := (defScope (top 4))) (own := [("sign", 1)]) (by decide +kernel)) (fun _ _ _ _ _ => pg_name (i := 1) nd rfl (Or.inl rfl)) (tgr_name (by decide)) (fun _ _ _ _ _ => dts_nil) (fun _ _ _ _ _ => (de_cmp (opIn_ok hr) (de_var (pv 1)) (de_gstr (by rfl) M.g_SMALL (by decide +kernel)) rfl))) da_nil)))))))
theorem sc_is_pair : FnScope N_is_pair ["thing"] (defScope (top 5)) := ⟨rfl, rfl, rfl, by decide +kernel, rfl, by decide +kernel, by decide +kernel⟩
theorem der_is_pair (hC : ∀ g, Has PySem.Challenge.rw_fieldrest_k02_kinds.prog w K mg base k (nm g) (ar g) (C g)) (M : Mgs mg) (f : Addr) (cdv : Value) (A : Around) (outer : List Env) (s : Shared) (H : Hp) (E : XK) (hr : Room k (A.deeper (envOfC "is_pair" (defScope (top 5)) s.heap.objs.size f cdv))) :
    DSs (cxOf (L2.CX PySem.Challenge.rw_fieldrest_k02_kinds.prog w) PySem.Challenge.rw_fieldrest_k02_kinds.prog w K mg base N_is_pair "is_pair" (defScope (top 5)) f cdv A outer s H E) (fun cls d _ H => E cls d H) (defBody (top 5)) (b_is_pair C) := by
  have nd := sc_is_pair.nd
  have tk : Takes (cxOf (L2.CX PySem.Challenge.rw_fieldrest_k02_kinds.prog w) PySem.Challenge.rw_fieldrest_k02_kinds.prog w K mg base N_is_pair "is_pair" (defScope (top 5)) f cdv A outer s H E) (fun cls d _ H => E cls d H) := takes_of rfl rfl rfl rfl
  exact (ds_one (ds_ret (de_and (de_isi (by rfl) M.m_isinstance (de_var (pv 0)) (pe_bltn (v := .ty "tuple") (by rfl) M.m_tuple (by decide +kernel) rfl)) (de_and (de_cmp (opEq_ok hr) (de_callB cLen_ok (by rfl) M.m_len (by decide +kernel) (da_cons (de_var (pv 0)) da_nil)) de_int (nomark _)) (de_one (de_call (hC .is_word) hr tk (by rfl) (dal_cons (de_ix (opIx_ok hr) (de_var (pv 0)) de_int) dal_nil)))))))
theorem sc_is_rest : FnScope N_is_rest ["thing"] (defScope (top 9)) := ⟨rfl, rfl, rfl, by decide +kernel, rfl, by decide +kernel, by decide +kernel⟩
theorem der_is_rest (hC : ∀ g, Has PySem.Challenge.rw_fieldrest_k02_kinds.prog w K mg base k (nm g) (ar g) (C g)) (M : Mgs mg) (f : Addr) (cdv : Value) (A : Around) (outer : List Env) (s : Shared) (H : Hp) (E : XK) (hr : Room k (A.deeper (envOfC "is_rest" (defScope (top 9)) s.heap.objs.size f cdv))) :
    DSs (cxOf (L2.CX PySem.Challenge.rw_fieldrest_k02_kinds.prog w) PySem.Challenge.rw_fieldrest_k02_kinds.prog w K mg base N_is_rest "is_rest" (defScope (top 9)) f cdv A outer s H E) (fun cls d _ H => E cls d H) (defBody (top 9)) (b_is_rest C) := by
  have nd := sc_is_rest.nd
  have tk : Takes (cxOf (L2.CX PySem.Challenge.rw_fieldrest_k02_kinds.prog w) PySem.Challenge.rw_fieldrest_k02_kinds.prog w K mg base N_is_rest "is_rest" (defScope (top 9)) f cdv A outer s H E) (fun cls d _ H => E cls d H) := takes_of rfl rfl rfl rfl
  exact (ds_one (ds_ret (de_or (de_cmp opIsN_ok (de_var (pv 0)) de_non (nomark _)) (de_one (de_and (de_call (hC .is_whole) hr tk (by rfl) (dal_cons (de_var (pv 0)) dal_nil)) (de_one (de_cmp opGe_ok (de_var (pv 0)) de_int (nomark _))))))))
theorem sc_is_row : FnScope N_is_row ["fields", "deep"] (defScope (top 10)) := ⟨rfl, rfl, rfl, by decide +kernel, rfl, by decide +kernel, by decide +kernel⟩
theorem der_is_row (hC : ∀ g, Has PySem.Challenge.rw_fieldrest_k02_kinds.prog w K mg base k (nm g) (ar g) (C g)) (M : Mgs mg) (f : Addr) (cdv : Value) (A : Around) (outer : List Env) (s : Shared) (H : Hp) (E : XK) (hr : Room k (A.deeper (envOfC "is_row" (defScope (top 10)) s.heap.objs.size f cdv))) :
    DSs (cxOf (L2.CX PySem.Challenge.rw_fieldrest_k02_kinds.prog w) PySem.Challenge.rw_fieldrest_k02_kinds.prog w K mg base N_is_row "is_row" (defScope (top 10)) f cdv A outer s H E) (fun cls d _ H => E cls d H) (defBody (top 10)) (b_is_row C) := by
  have nd := sc_is_row.nd
  have tk : Takes (cxOf (L2.CX PySem.Challenge.rw_fieldrest_k02_kinds.prog w) PySem.Challenge.rw_fieldrest_k02_kinds.prog w K mg base N_is_row "is_row" (defScope (top 10)) f cdv A outer s H E) (fun cls d _ H => E cls d H) := takes_of rfl rfl rfl rfl
  exact (ds_cons (ds_if (dw_pt (dw_or (dt_not (dt_val (de_isi (by rfl) M.m_isinstance (de_var (pv 0)) (pe_bltn (v := .ty "tuple") (by rfl) M.m_tuple (by decide +kernel) rfl)))) (dw_or1 (dt_not (dt_val (de_callB (cAll_ok rfl) (by rfl) M.m_all (by decide +kernel) (da_cons (de_comp (own := [("pair", 2)]) rfl nd (di_items (de_var (pv 0))) (blkOk_by (N := N_is_row) (sc := (defScope (top 10))) (own := [("pair", 2)]) (by decide +kernel)) (fun _ _ _ _ _ => pg_name (i := 2) nd rfl (Or.inl rfl)) (tgr_name (by decide)) (fun _ _ _ _ _ => dts_nil) (fun _ _ _ _ _ => (de_call (hC .is_pair) hr takes0 (by rfl) (dal_cons (de_var (pv 2)) dal_nil)))) da_nil))))))) (ds_one (ds_ret de_bl)) ds_nil)
    (ds_cons (ds_setComp (own := [("pair", 2)]) (i := 3) rfl nd rfl rfl (sw_true rfl rfl rfl (by decide +kernel)) (di_items (de_var (pv 0))) (blkOk_by (N := N_is_row) (sc := (defScope (top 10))) (own := [("pair", 2)]) (by decide +kernel)) (fun _ _ _ _ _ => pg_name (i := 2) nd rfl (Or.inl rfl)) (tgr_name (by decide)) (fun _ _ _ _ _ => dts_nil) (fun _ _ _ _ _ => (de_ix (opIx_ok hr) (de_var (pv 2)) de_int)))
    (ds_cons (ds_if (dw_pt (dw_or (dt_cmp (opNe_ok hr) (de_var (pv 3)) (de_callB cSorted_ok (by rfl) M.m_sorted (by decide +kernel) (da_cons (de_var (pv 3)) da_nil)) (nomark _)) (dw_or1 (dt_cmp (opNe_ok hr) (de_lenSet rfl (by rfl) M.m_len (by rfl) M.m_set (de_var (pv 3))) (de_callB cLen_ok (by rfl) M.m_len (by decide +kernel) (da_cons (de_var (pv 3)) da_nil)) (nomark _))))) (ds_one (ds_ret de_bl)) ds_nil)
    (ds_one (ds_ret (de_callB (cAll_ok rfl) (by rfl) M.m_all (by decide +kernel) (da_cons (de_comp (own := [("pair", 2)]) rfl nd (di_items (de_var (pv 0))) (blkOk_by (N := N_is_row) (sc := (defScope (top 10))) (own := [("pair", 2)]) (by decide +kernel)) (fun _ _ _ _ _ => pg_name (i := 2) nd rfl (Or.inl rfl)) (tgr_name (by decide)) (fun _ _ _ _ _ => dts_nil) (fun _ _ _ _ _ => (de_call (hC .is_kind_in) hr takes0 (by rfl) (dal_cons (de_ix (opIx_ok hr) (de_var (pv 2)) de_int) (dal_cons (de_var (pv 1)) dal_nil))))) da_nil)))))))
theorem sc_is_kind_in : FnScope N_is_kind_in ["thing", "deep"] (defScope (top 11)) := ⟨rfl, rfl, rfl, by decide +kernel, rfl, by decide +kernel, by decide +kernel⟩
theorem der_is_kind_in (hC : ∀ g, Has PySem.Challenge.rw_fieldrest_k02_kinds.prog w K mg base k (nm g) (ar g) (C g)) (M : Mgs mg) (f : Addr) (cdv : Value) (A : Around) (outer : List Env) (s : Shared) (H : Hp) (E : XK) (hr : Room k (A.deeper (envOfC "is_kind_in" (defScope (top 11)) s.heap.objs.size f cdv))) :
    DSs (cxOf (L2.CX PySem.Challenge.rw_fieldrest_k02_kinds.prog w) PySem.Challenge.rw_fieldrest_k02_kinds.prog w K mg base N_is_kind_in "is_kind_in" (defScope (top 11)) f cdv A outer s H E) (fun cls d _ H => E cls d H) (defBody (top 11)) (b_is_kind_in C) := by
  have nd := sc_is_kind_in.nd
  have tk : Takes (cxOf (L2.CX PySem.Challenge.rw_fieldrest_k02_kinds.prog w) PySem.Challenge.rw_fieldrest_k02_kinds.prog w K mg base N_is_kind_in "is_kind_in" (defScope (top 11)) f cdv A outer s H E) (fun cls d _ H => E cls d H) := takes_of rfl rfl rfl rfl
  exact (ds_cons (ds_if (dw_pt (dw_or (dt_cmp (opEq_ok hr) (de_var (pv 1)) de_int (nomark _)) (dw_or (dt_not (dt_val (de_isi (by rfl) M.m_isinstance (de_var (pv 0)) (pe_bltn (v := .ty "tuple") (by rfl) M.m_tuple (by decide +kernel) rfl)))) (dw_or (dt_cmp opLt_ok (de_callB cLen_ok (by rfl) M.m_len (by decide +kernel) (da_cons (de_var (pv 0)) da_nil)) de_int (nomark _)) (dw_or1 (dt_not (dt_val (de_isi (by rfl) M.m_isinstance (de_ix (opIx_ok hr) (de_var (pv 0)) de_int) (pe_bltn (v := .ty "str") (by rfl) M.m_str (by decide +kernel) rfl))))))))) (ds_one (ds_ret de_bl)) ds_nil)
    (ds_cons (ds_if (dt_cmp (opEq_ok hr) (de_ix (opIx_ok hr) (de_var (pv 0)) de_int) (de_str (by decide +kernel)) (nomark _)) (ds_one (ds_ret (de_cmp (opEq_ok hr) (de_callB cLen_ok (by rfl) M.m_len (by decide +kernel) (da_cons (de_var (pv 0)) da_nil)) de_int (nomark _)))) ds_nil)
    (ds_cons (ds_if (dt_cmp (opEq_ok hr) (de_ix (opIx_ok hr) (de_var (pv 0)) de_int) (de_str (by decide +kernel)) (nomark _)) (ds_one (ds_ret (de_and (de_cmp (opEq_ok hr) (de_callB cLen_ok (by rfl) M.m_len (by decide +kernel) (da_cons (de_var (pv 0)) da_nil)) de_int (nomark _)) (de_and (de_call (hC .is_whole) hr tk (by rfl) (dal_cons (de_ix (opIx_ok hr) (de_var (pv 0)) de_int) dal_nil)) (de_one (de_cmp opGe_ok (de_ix (opIx_ok hr) (de_var (pv 0)) de_int) de_int (nomark _))))))) ds_nil)
    (ds_one (ds_ret (de_and (de_cmp (opEq_ok hr) (de_ix (opIx_ok hr) (de_var (pv 0)) de_int) (de_str (by decide +kernel)) (nomark _)) (de_and (de_cmp (opEq_ok hr) (de_callB cLen_ok (by rfl) M.m_len (by decide +kernel) (da_cons (de_var (pv 0)) da_nil)) de_int (nomark _)) (de_and (de_call (hC .is_rest) hr tk (by rfl) (dal_cons (de_ix (opIx_ok hr) (de_var (pv 0)) de_int) dal_nil)) (de_one (de_call (hC .is_row) hr tk (by rfl) (dal_cons (de_ix (opIx_ok hr) (de_var (pv 0)) de_int) (dal_cons (de_bin opSub_ok (de_var (pv 1)) de_int) dal_nil))))))))))))
theorem sc_knots : FnScope N_knots ["kind"] (defScope (top 12)) := ⟨rfl, rfl, rfl, by decide +kernel, rfl, by decide +kernel, by decide +kernel⟩
theorem der_knots (hC : ∀ g, Has PySem.Challenge.rw_fieldrest_k02_kinds.prog w K mg base k (nm g) (ar g) (C g)) (M : Mgs mg) (f : Addr) (cdv : Value) (A : Around) (outer : List Env) (s : Shared) (H : Hp) (E : XK) (hr : Room k (A.deeper (envOfC "knots" (defScope (top 12)) s.heap.objs.size f cdv))) :
    DSs (cxOf (L2.CX PySem.Challenge.rw_fieldrest_k02_kinds.prog w) PySem.Challenge.rw_fieldrest_k02_kinds.prog w K mg base N_knots "knots" (defScope (top 12)) f cdv A outer s H E) (fun cls d _ H => E cls d H) (defBody (top 12)) (b_knots C) := by
  have nd := sc_knots.nd
  have tk : Takes (cxOf (L2.CX PySem.Challenge.rw_fieldrest_k02_kinds.prog w) PySem.Challenge.rw_fieldrest_k02_kinds.prog w K mg base N_knots "knots" (defScope (top 12)) f cdv A outer s H E) (fun cls d _ H => E cls d H) := takes_of rfl rfl rfl rfl
  exact (ds_cons (ds_if (dt_cmp (opNe_ok hr) (de_ix (opIx_ok hr) (de_var (pv 0)) de_int) (de_str (by decide +kernel)) (nomark _)) (ds_one (ds_ret de_int)) ds_nil)
    (ds_one (ds_ret (de_bin opAdd_ok de_int (de_callB (cSum_ok rfl) (by rfl) M.m_sum (by decide +kernel) (da_cons (de_comp (own := [("pair", 1)]) rfl nd (di_items (de_ix (opIx_ok hr) (de_var (pv 0)) de_int)) (blkOk_by (N := N_knots) (sc := (defScope (top 12))) (own := [("pair", 1)]) (by decide +kernel)) (fun _ _ _ _ _ => pg_name (i := 1) nd rfl (Or.inl rfl)) (tgr_name (by decide)) (fun _ _ _ _ _ => dts_nil) (fun _ _ _ _ _ => (de_call (hC .knots) hr takes0 (by rfl) (dal_cons (de_ix (opIx_ok hr) (de_var (pv 1)) de_int) dal_nil)))) da_nil))))))
theorem sc_blanks_in : FnScope N_blanks_in ["kind", "found"] (defScope (top 13)) := ⟨rfl, rfl, rfl, by decide +kernel, rfl, by decide +kernel, by decide +kernel⟩
theorem der_blanks_in (hC : ∀ g, Has PySem.Challenge.rw_fieldrest_k02_kinds.prog w K mg base k (nm g) (ar g) (C g)) (M : Mgs mg) (f : Addr) (cdv : Value) (A : Around) (outer : List Env) (s : Shared) (H : Hp) (E : XK) (hr : Room k (A.deeper (envOfC "blanks_in" (defScope (top 13)) s.heap.objs.size f cdv))) :
    DSs (cxOf (L2.CX PySem.Challenge.rw_fieldrest_k02_kinds.prog w) PySem.Challenge.rw_fieldrest_k02_kinds.prog w K mg base N_blanks_in "blanks_in" (defScope (top 13)) f cdv A outer s H E) (fun cls d _ H => E cls d H) (defBody (top 13)) (b_blanks_in C) := by
  have nd := sc_blanks_in.nd
  have tk : Takes (cxOf (L2.CX PySem.Challenge.rw_fieldrest_k02_kinds.prog w) PySem.Challenge.rw_fieldrest_k02_kinds.prog w K mg base N_blanks_in "blanks_in" (defScope (top 13)) f cdv A outer s H E) (fun cls d _ H => E cls d H) := takes_of rfl rfl rfl rfl
  exact (ds_cons (ds_if (dt_cmp (opEq_ok hr) (de_ix (opIx_ok hr) (de_var (pv 0)) de_int) (de_str (by decide +kernel)) (nomark _)) (ds_one (ds_ret (de_call (hC .put_blank) hr tk (by rfl) (dal_cons (de_var (pv 1)) (dal_cons (de_ix (opIx_ok hr) (de_var (pv 0)) de_int) (dal_cons de_non dal_nil)))))) ds_nil)
    (ds_cons (ds_set (i := 2) nd rfl (Or.inl rfl) de_bl)
    (ds_cons (ds_if (dt_cmp (opEq_ok hr) (de_ix (opIx_ok hr) (de_var (pv 0)) de_int) (de_str (by decide +kernel)) (nomark _)) (ds_cons (ds_for (passes_of rfl) rfl (di_items (de_ix (opIx_ok hr) (de_var (pv 0)) de_int)) (dg_name (pg_name (i := 3) nd rfl (Or.inl rfl))) (ds_one (ds_set (i := 2) nd rfl (Or.inl rfl) (de_and (de_call (hC .blanks_in) hr tk (by rfl) (dal_cons (de_ix (opIx_ok hr) (de_var (pv 3)) de_int) (dal_cons (de_var (pv 1)) dal_nil))) (de_one (de_var (pv 2)))))))
    (ds_one (ds_if (dt_cmp opNotN_ok (de_ix (opIx_ok hr) (de_var (pv 0)) de_int) de_non (nomark _)) (ds_one (ds_set (i := 2) nd rfl (Or.inl rfl) (de_and (de_call (hC .put_blank) hr tk (by rfl) (dal_cons (de_var (pv 1)) (dal_cons (de_ix (opIx_ok hr) (de_var (pv 0)) de_int) (dal_cons (de_comp (own := [("pair", 3)]) rfl nd (di_items (de_ix (opIx_ok hr) (de_var (pv 0)) de_int)) (blkOk_by (N := N_blanks_in) (sc := (defScope (top 13))) (own := [("pair", 3)]) (by decide +kernel)) (fun _ _ _ _ _ => pg_name (i := 3) nd rfl (Or.inl rfl)) (tgr_name (by decide)) (fun _ _ _ _ _ => dts_nil) (fun _ _ _ _ _ => (de_ix (opIx_ok hr) (de_var (pv 3)) de_int))) dal_nil)))) (de_one (de_var (pv 2)))))) ds_nil))) ds_nil)
    (ds_one (ds_ret (de_var (pv 2)))))))
theorem sc_put_blank : FnScope N_put_blank ["found", "number", "labels"] (defScope (top 14)) := ⟨rfl, rfl, rfl, by decide +kernel, rfl, by decide +kernel, by decide +kernel⟩
theorem der_put_blank (hC : ∀ g, Has PySem.Challenge.rw_fieldrest_k02_kinds.prog w K mg base k (nm g) (ar g) (C g)) (M : Mgs mg) (f : Addr) (cdv : Value) (A : Around) (outer : List Env) (s : Shared) (H : Hp) (E : XK) (hr : Room k (A.deeper (envOfC "put_blank" (defScope (top 14)) s.heap.objs.size f cdv))) :
    DSs (cxOf (L2.CX PySem.Challenge.rw_fieldrest_k02_kinds.prog w) PySem.Challenge.rw_fieldrest_k02_kinds.prog w K mg base N_put_blank "put_blank" (defScope (top 14)) f cdv A outer s H E) (fun cls d _ H => E cls d H) (defBody (top 14)) (b_put_blank C) := by
  have nd := sc_put_blank.nd
  have tk : Takes (cxOf (L2.CX PySem.Challenge.rw_fieldrest_k02_kinds.prog w) PySem.Challenge.rw_fieldrest_k02_kinds.prog w K mg base N_put_blank "put_blank" (defScope (top 14)) f cdv A outer s H E) (fun cls d _ H => E cls d H) := takes_of rfl rfl rfl rfl
  exact (ds_cons (ds_if (dt_cmp (opNotIn_ok hr) (de_var (pv 1)) (de_var (pv 0)) rfl) (ds_one (ds_asg (de_var (pv 2)) (dg_sub (de_var (pv 0)) (de_var (pv 1)) (opSet_ok hr)))) ds_nil)
    (ds_one (ds_ret (de_cmp (opEq_ok hr) (de_ix (opIx_ok hr) (de_var (pv 0)) (de_var (pv 1))) (de_var (pv 2)) (nomark _)))))
theorem sc_is_kind : FnScope N_is_kind ["thing"] (defScope (top 15)) := ⟨rfl, rfl, rfl, by decide +kernel, rfl, by decide +kernel, by decide +kernel⟩
theorem der_is_kind (hC : ∀ g, Has PySem.Challenge.rw_fieldrest_k02_kinds.prog w K mg base k (nm g) (ar g) (C g)) (M : Mgs mg) (f : Addr) (cdv : Value) (A : Around) (outer : List Env) (s : Shared) (H : Hp) (E : XK) (hr : Room k (A.deeper (envOfC "is_kind" (defScope (top 15)) s.heap.objs.size f cdv))) :
    DSs (cxOf (L2.CX PySem.Challenge.rw_fieldrest_k02_kinds.prog w) PySem.Challenge.rw_fieldrest_k02_kinds.prog w K mg base N_is_kind "is_kind" (defScope (top 15)) f cdv A outer s H E) (fun cls d _ H => E cls d H) (defBody (top 15)) (b_is_kind C) := by
  have nd := sc_is_kind.nd
  have tk : Takes (cxOf (L2.CX PySem.Challenge.rw_fieldrest_k02_kinds.prog w) PySem.Challenge.rw_fieldrest_k02_kinds.prog w K mg base N_is_kind "is_kind" (defScope (top 15)) f cdv A outer s H E) (fun cls d _ H => E cls d H) := takes_of rfl rfl rfl rfl
  exact (ds_one (ds_ret (de_and (de_call (hC .is_kind_in) hr tk (by rfl) (dal_cons (de_var (pv 0)) (dal_cons (de_gint (by rfl) M.g_MOST_KIND_DEEP) dal_nil))) (de_and (de_cmp opLe_ok (de_call (hC .knots) hr tk (by rfl) (dal_cons (de_var (pv 0)) dal_nil)) (de_gint (by rfl) M.g_MOST_KNOTS) (nomark _)) (de_one (de_call (hC .blanks_in) hr tk (by rfl) (dal_cons (de_var (pv 0)) (dal_cons de_newK dal_nil))))))))
theorem sc__law_cell : FnScope N__law_cell ["_law_script", "_law_k"] (defScope (top 17)) := ⟨rfl, rfl, rfl, by decide +kernel, rfl, by decide +kernel, by decide +kernel⟩
theorem der__law_cell (hC : ∀ g, Has PySem.Challenge.rw_fieldrest_k02_kinds.prog w K mg base k (nm g) (ar g) (C g)) (M : Mgs mg) (f : Addr) (cdv : Value) (A : Around) (outer : List Env) (s : Shared) (H : Hp) (E : XK) (hr : Room k (A.deeper (envOfC "_law_cell" (defScope (top 17)) s.heap.objs.size f cdv))) :
    DSs (cxOf (L2.CX PySem.Challenge.rw_fieldrest_k02_kinds.prog w) PySem.Challenge.rw_fieldrest_k02_kinds.prog w K mg base N__law_cell "_law_cell" (defScope (top 17)) f cdv A outer s H E) (fun cls d _ H => E cls d H) (defBody (top 17)) (b__law_cell C) := by
  have nd := sc__law_cell.nd
  have tk : Takes (cxOf (L2.CX PySem.Challenge.rw_fieldrest_k02_kinds.prog w) PySem.Challenge.rw_fieldrest_k02_kinds.prog w K mg base N__law_cell "_law_cell" (defScope (top 17)) f cdv A outer s H E) (fun cls d _ H => E cls d H) := takes_of rfl rfl rfl rfl
  exact (ds_cons (ds_if (dt_cmp opLt_ok (de_var (pv 1)) (de_callB cLen_ok (by rfl) M.m_len (by decide +kernel) (da_cons (de_var (pv 0)) da_nil)) (nomark _)) (ds_one (ds_ret (de_bin opMod_ok (de_bin opMul_ok (de_ix (opIx_ok hr) (de_var (pv 0)) (de_var (pv 1))) de_int) de_int))) ds_nil)
    (ds_one (ds_ret de_int)))
theorem sc__law_next : FnScope N__law_next ["_law_state"] (defScope (top 18)) := ⟨rfl, rfl, rfl, by decide +kernel, rfl, by decide +kernel, by decide +kernel⟩
theorem der__law_next (hC : ∀ g, Has PySem.Challenge.rw_fieldrest_k02_kinds.prog w K mg base k (nm g) (ar g) (C g)) (M : Mgs mg) (f : Addr) (cdv : Value) (A : Around) (outer : List Env) (s : Shared) (H : Hp) (E : XK) (hr : Room k (A.deeper (envOfC "_law_next" (defScope (top 18)) s.heap.objs.size f cdv))) :
    DSs (cxOf (L2.CX PySem.Challenge.rw_fieldrest_k02_kinds.prog w) PySem.Challenge.rw_fieldrest_k02_kinds.prog w K mg base N__law_next "_law_next" (defScope (top 18)) f cdv A outer s H E) (fun cls d _ H => E cls d H) (defBody (top 18)) (b__law_next C) := by
  have nd := sc__law_next.nd
  have tk : Takes (cxOf (L2.CX PySem.Challenge.rw_fieldrest_k02_kinds.prog w) PySem.Challenge.rw_fieldrest_k02_kinds.prog w K mg base N__law_next "_law_next" (defScope (top 18)) f cdv A outer s H E) (fun cls d _ H => E cls d H) := takes_of rfl rfl rfl rfl
  exact (ds_cons (ds_asg (de_bin opMod_ok (de_bin opAdd_ok (de_bin opMul_ok (de_ix (opIx_ok hr) (de_var (pv 0)) de_int) de_int) de_int) de_int) (dg_sub (de_var (pv 0)) de_int (opSet_ok hr)))
    (ds_cons (ds_asg (de_bin opSub_ok (de_ix (opIx_ok hr) (de_var (pv 0)) de_int) de_int) (dg_sub (de_var (pv 0)) de_int (opSet_ok hr)))
    (ds_one (ds_ret (de_bin opDiv_ok (de_ix (opIx_ok hr) (de_var (pv 0)) de_int) de_int)))))
theorem sc__law_labels : FnScope N__law_labels ["_law_cell_here", "_law_many"] (defScope (top 19)) := ⟨rfl, rfl, rfl, by decide +kernel, rfl, by decide +kernel, by decide +kernel⟩
theorem der__law_labels (hC : ∀ g, Has PySem.Challenge.rw_fieldrest_k02_kinds.prog w K mg base k (nm g) (ar g) (C g)) (M : Mgs mg) (f : Addr) (cdv : Value) (A : Around) (outer : List Env) (s : Shared) (H : Hp) (E : XK) (hr : Room k (A.deeper (envOfC "_law_labels" (defScope (top 19)) s.heap.objs.size f cdv))) :
    DSs (cxOf (L2.CX PySem.Challenge.rw_fieldrest_k02_kinds.prog w) PySem.Challenge.rw_fieldrest_k02_kinds.prog w K mg base N__law_labels "_law_labels" (defScope (top 19)) f cdv A outer s H E) (fun cls d _ H => E cls d H) (defBody (top 19)) (b__law_labels C) := by
  have nd := sc__law_labels.nd
  have tk : Takes (cxOf (L2.CX PySem.Challenge.rw_fieldrest_k02_kinds.prog w) PySem.Challenge.rw_fieldrest_k02_kinds.prog w K mg base N__law_labels "_law_labels" (defScope (top 19)) f cdv A outer s H E) (fun cls d _ H => E cls d H) := takes_of rfl rfl rfl rfl
  exact (ds_cons (ds_set (i := 2) nd rfl (Or.inr rfl) (de_str (by decide +kernel)))
    (ds_cons (ds_set (i := 3) nd rfl (Or.inl rfl) (de_bin opMod_ok (de_var (pv 0)) de_int))
    (ds_cons (ds_set (i := 4) nd rfl (Or.inl rfl) (de_bin opMod_ok (de_bin opDiv_ok (de_var (pv 0)) de_int) (de_bin opAdd_ok (de_var (pv 3)) de_int)))
    (ds_cons (ds_set (i := 5) nd rfl (Or.inr rfl) (de_bin opMod_ok (de_bin opDiv_ok (de_var (pv 0)) de_int) de_int))
    (ds_cons (ds_set (i := 6) nd rfl (Or.inl rfl) (de_join (de_str (by decide +kernel)) (de_comp (own := [("_law_k", 7)]) rfl nd (di_range1 (by rfl) M.m_range (de_var (pv 3))) (blkOk_by (N := N__law_labels) (sc := (defScope (top 19))) (own := [("_law_k", 7)]) (by decide +kernel)) (fun _ _ _ _ _ => pg_name (i := 7) nd rfl (Or.inl rfl)) (tgr_name (by decide)) (fun _ _ _ _ _ => dts_nil) (fun _ _ _ _ _ => (de_ix (opIx_ok hr) (de_var (pv 2)) (de_bin opMod_ok (de_bin opAdd_ok (de_var (pv 5)) (de_bin opMul_ok (de_bin opDiv_ok (de_var (pv 0)) de_int) (de_var (pv 7)))) de_int))))))
    (ds_cons (ds_set (i := 8) nd rfl (Or.inl rfl) (de_lstR da_nil))
    (ds_cons (ds_for (passes_of rfl) rfl (di_range1 (by rfl) M.m_range (de_var (pv 1))) (dg_name (pg_name (i := 7) nd rfl (Or.inl rfl))) (ds_cons (ds_set (i := 9) nd rfl (Or.inl rfl) (de_ix (opIx_ok hr) (de_var (pv 2)) (de_bin opMod_ok (de_bin opAdd_ok (de_bin opDiv_ok (de_var (pv 0)) de_int) (de_bin opMul_ok de_int (de_var (pv 7)))) de_int)))
    (ds_one (ds_expr (de_mlist PySem.F.slot_list_append PySem.F.type_list_append cAppend_ok (de_var (pv 8)) (da_cons (de_bin opAdd_ok (de_bin opAdd_ok (de_slice (de_var (pv 6)) do_none (do_some (de_var (pv 4)))) (de_var (pv 9))) (de_slice (de_var (pv 6)) (do_some (de_var (pv 4))) do_none)) da_nil))))))
    (ds_one (ds_ret (de_var (pv 8)))))))))))
theorem sc__law_kind : FnScope N__law_kind ["_law_state", "_law_labels_here", "_law_met", "_law_left"] (defScope (top 20)) := ⟨rfl, rfl, rfl, by decide +kernel, rfl, by decide +kernel, by decide +kernel⟩
theorem der__law_kind (hC : ∀ g, Has PySem.Challenge.rw_fieldrest_k02_kinds.prog w K mg base k (nm g) (ar g) (C g)) (M : Mgs mg) (f : Addr) (cdv : Value) (A : Around) (outer : List Env) (s : Shared) (H : Hp) (E : XK) (hr : Room k (A.deeper (envOfC "_law_kind" (defScope (top 20)) s.heap.objs.size f cdv))) :
    DSs (cxOf (L2.CX PySem.Challenge.rw_fieldrest_k02_kinds.prog w) PySem.Challenge.rw_fieldrest_k02_kinds.prog w K mg base N__law_kind "_law_kind" (defScope (top 20)) f cdv A outer s H E) (fun cls d _ H => E cls d H) (defBody (top 20)) (b__law_kind C) := by
  have nd := sc__law_kind.nd
  have tk : Takes (cxOf (L2.CX PySem.Challenge.rw_fieldrest_k02_kinds.prog w) PySem.Challenge.rw_fieldrest_k02_kinds.prog w K mg base N__law_kind "_law_kind" (defScope (top 20)) f cdv A outer s H E) (fun cls d _ H => E cls d H) := takes_of rfl rfl rfl rfl
  exact (ds_cons (ds_set (i := 4) nd rfl (Or.inl rfl) (de_call (hC ._law_next) hr tk (by rfl) (dal_cons (de_var (pv 0)) dal_nil)))
    (ds_cons (ds_if (dw_pt (dw_or (dt_cmp opLe_ok (de_var (pv 3)) de_int (nomark _)) (dw_or (dt_cmp opLe_ok (de_ix (opIx_ok hr) (de_var (pv 0)) de_int) de_int (nomark _)) (dw_or1 (dt_cmp opLt_ok (de_bin opMod_ok (de_var (pv 4)) de_int) de_int (nomark _)))))) (ds_one (ds_ret (de_tup (da_cons (de_str (by decide +kernel)) da_nil)))) ds_nil)
    (ds_cons (ds_if (dt_cmp (opEq_ok hr) (de_bin opMod_ok (de_var (pv 4)) de_int) de_int (nomark _)) (ds_one (ds_ret (de_tup (da_cons (de_str (by decide +kernel)) (da_cons (de_bin opMul_ok (de_bin opMul_ok (de_ix (opIx_ok hr) (de_var (pv 2)) de_int) de_int) (de_bin opMod_ok (de_bin opDiv_ok (de_var (pv 4)) de_int) de_int)) da_nil))))) ds_nil)
    (ds_cons (ds_set (i := 5) nd rfl (Or.inr rfl) (de_slice (de_lst (da_cons (de_ix (opIx_ok hr) (de_var (pv 1)) (de_bin opMod_ok (de_bin opDiv_ok (de_var (pv 4)) de_int) de_int)) (da_cons (de_ix (opIx_ok hr) (de_var (pv 1)) (de_bin opMod_ok (de_bin opDiv_ok (de_var (pv 4)) de_int) de_int)) (da_cons (de_ix (opIx_ok hr) (de_var (pv 1)) (de_bin opMod_ok (de_bin opDiv_ok (de_var (pv 4)) de_int) de_int)) da_nil)))) do_none (do_some (de_bin opMod_ok (de_bin opDiv_ok (de_var (pv 4)) de_int) de_int))))
    (ds_cons (ds_setComp (own := [("_law_label", 7)]) (i := 6) rfl nd rfl rfl (sw_true rfl rfl rfl (by decide +kernel)) (di_items (de_callB cSorted_ok (by rfl) M.m_sorted (by decide +kernel) (da_cons (de_var (pv 1)) da_nil))) (blkOk_by (N := N__law_kind) (sc := (defScope (top 20))) (own := [("_law_label", 7)]) (by decide +kernel)) (fun _ _ _ _ _ => pg_name (i := 7) nd rfl (Or.inl rfl)) (tgr_name (by decide)) (fun _ _ _ _ _ => dts_one (dt_cmp (opIn_ok hr) (de_var (pv 7)) (de_var (pv 5)) rfl)) (fun _ _ _ _ _ => (de_var (pv 7))))
    (ds_cons (ds_set (i := 8) nd rfl (Or.inl rfl) (de_callTy cTuple_ok (by rfl) M.m_tuple (by decide +kernel) (da_cons (de_comp (own := [("_law_label", 7)]) rfl nd (di_items (de_var (pv 6))) (blkOk_by (N := N__law_kind) (sc := (defScope (top 20))) (own := [("_law_label", 7)]) (by decide +kernel)) (fun _ _ _ _ _ => pg_name (i := 7) nd rfl (Or.inl rfl)) (tgr_name (by decide)) (fun _ _ _ _ _ => dts_nil) (fun _ _ _ _ _ => (de_tup (da_cons (de_var (pv 7)) (da_cons (de_call (hC ._law_kind) hr takes0 (by rfl) (dal_cons (de_var (pv 0)) (dal_cons (de_var (pv 1)) (dal_cons (de_var (pv 2)) (dal_cons (de_bin opSub_ok (de_var (pv 3)) de_int) dal_nil))))) da_nil))))) da_nil)))
    (ds_cons (ds_if (dt_cmp (opEq_ok hr) (de_bin opMod_ok (de_bin opDiv_ok (de_var (pv 4)) de_int) de_int) de_int (nomark _)) (ds_one (ds_ret (de_tup (da_cons (de_str (by decide +kernel)) (da_cons (de_var (pv 8)) (da_cons de_non da_nil)))))) ds_nil)
    (ds_cons (ds_if (dt_cmp (opNotIn_ok hr) (de_var (pv 6)) (de_ix (opIx_ok hr) (de_var (pv 2)) de_int) rfl) (ds_one (ds_expr (de_mlist PySem.F.slot_list_append PySem.F.type_list_append cAppend_ok (de_ix (opIx_ok hr) (de_var (pv 2)) de_int) (da_cons (de_var (pv 6)) da_nil)))) ds_nil)
    (ds_one (ds_ret (de_tup (da_cons (de_str (by decide +kernel)) (da_cons (de_var (pv 8)) (da_cons (de_bin opMul_ok (de_ix (opIx_ok hr) (de_var (pv 2)) de_int) (de_bin opAdd_ok de_int (de_bin opMul_ok de_int (de_mlist PySem.F.slot_list_index PySem.F.type_list_index (cIndex_ok hr) (de_ix (opIx_ok hr) (de_var (pv 2)) de_int) (da_cons (de_var (pv 6)) da_nil))))) da_nil))))))))))))))
theorem sc__law_odd : FnScope N__law_odd ["_law_number_here", "_law_inner"] (defScope (top 21)) := ⟨rfl, rfl, rfl, by decide +kernel, rfl, by decide +kernel, by decide +kernel⟩
theorem der__law_odd (hC : ∀ g, Has PySem.Challenge.rw_fieldrest_k02_kinds.prog w K mg base k (nm g) (ar g) (C g)) (M : Mgs mg) (f : Addr) (cdv : Value) (A : Around) (outer : List Env) (s : Shared) (H : Hp) (E : XK) (hr : Room k (A.deeper (envOfC "_law_odd" (defScope (top 21)) s.heap.objs.size f cdv))) :
    DSs (cxOf (L2.CX PySem.Challenge.rw_fieldrest_k02_kinds.prog w) PySem.Challenge.rw_fieldrest_k02_kinds.prog w K mg base N__law_odd "_law_odd" (defScope (top 21)) f cdv A outer s H E) (fun cls d _ H => E cls d H) (defBody (top 21)) (b__law_odd C) := by
  have nd := sc__law_odd.nd
  have tk : Takes (cxOf (L2.CX PySem.Challenge.rw_fieldrest_k02_kinds.prog w) PySem.Challenge.rw_fieldrest_k02_kinds.prog w K mg base N__law_odd "_law_odd" (defScope (top 21)) f cdv A outer s H E) (fun cls d _ H => E cls d H) := takes_of rfl rfl rfl rfl
  exact (ds_cons (ds_set (i := 2) nd rfl (Or.inl rfl) (de_lst (da_cons de_non (da_cons de_bl (da_cons de_int (da_cons (de_str (by decide +kernel)) (da_cons (de_lst da_nil) (da_cons (de_tup da_nil) (da_cons (de_tup (da_cons (de_str (by decide +kernel)) (da_cons de_int da_nil))) (da_cons (de_tup (da_cons (de_str (by decide +kernel)) da_nil)) (da_cons (de_lst (da_cons (de_str (by decide +kernel)) da_nil)) (da_cons (de_tup (da_cons (de_str (by decide +kernel)) da_nil)) (da_cons (de_tup (da_cons (de_str (by decide +kernel)) (da_cons (de_neg de_int) da_nil))) da_nil)))))))))))))
    (ds_cons (ds_set (i := 2) nd rfl (Or.inl rfl) (de_bin opAdd_ok (de_var (pv 2)) (de_lst (da_cons (de_tup (da_cons (de_str (by decide +kernel)) (da_cons de_bl da_nil))) (da_cons (de_tup (da_cons (de_str (by decide +kernel)) (da_cons (de_str (by decide +kernel)) da_nil))) (da_cons (de_tup (da_cons (de_str (by decide +kernel)) (da_cons de_int da_nil))) (da_cons (de_tup (da_cons (de_str (by decide +kernel)) (da_cons de_int (da_cons de_int da_nil)))) da_nil)))))))
    (ds_cons (ds_set (i := 2) nd rfl (Or.inl rfl) (de_bin opAdd_ok (de_var (pv 2)) (de_lst (da_cons (de_tup (da_cons (de_str (by decide +kernel)) (da_cons de_int da_nil))) (da_cons (de_tup (da_cons (de_str (by decide +kernel)) da_nil)) (da_cons (de_tup (da_cons (de_str (by decide +kernel)) da_nil)) da_nil))))))
    (ds_cons (ds_set (i := 2) nd rfl (Or.inl rfl) (de_bin opAdd_ok (de_var (pv 2)) (de_lst (da_cons (de_tup (da_cons (de_str (by decide +kernel)) (da_cons (de_tup da_nil) (da_cons de_non da_nil)))) (da_cons (de_tup (da_cons (de_str (by decide +kernel)) (da_cons (de_lst da_nil) (da_cons de_non da_nil)))) (da_cons (de_tup (da_cons (de_str (by decide +kernel)) (da_cons (de_tup da_nil) da_nil))) da_nil))))))
    (ds_cons (ds_set (i := 2) nd rfl (Or.inl rfl) (de_bin opAdd_ok (de_var (pv 2)) (de_lst (da_cons (de_tup (da_cons (de_str (by decide +kernel)) (da_cons (de_tup da_nil) (da_cons de_bl da_nil)))) (da_cons (de_tup (da_cons (de_str (by decide +kernel)) (da_cons (de_tup da_nil) (da_cons (de_neg de_int) da_nil)))) da_nil)))))
    (ds_cons (ds_set (i := 2) nd rfl (Or.inl rfl) (de_bin opAdd_ok (de_var (pv 2)) (de_lst (da_cons (de_tup (da_cons (de_str (by decide +kernel)) (da_cons (de_tup da_nil) (da_cons (de_str (by decide +kernel)) da_nil)))) (da_cons (de_tup (da_cons (de_str (by decide +kernel)) (da_cons (de_tup da_nil) (da_cons de_int da_nil)))) (da_cons (de_tup (da_cons (de_str (by decide +kernel)) (da_cons (de_tup (da_cons (de_tup (da_cons (de_str (by decide +kernel)) (da_cons (de_var (pv 1)) da_nil))) da_nil)) (da_cons de_int da_nil)))) (da_cons (de_tup (da_cons (de_str (by decide +kernel)) (da_cons (de_tup (da_cons (de_str (by decide +kernel)) da_nil)) (da_cons de_non da_nil)))) da_nil)))))))
    (ds_cons (ds_set (i := 2) nd rfl (Or.inl rfl) (de_bin opAdd_ok (de_var (pv 2)) (de_lst (da_cons (de_tup (da_cons (de_str (by decide +kernel)) (da_cons (de_tup (da_cons (de_tup (da_cons (de_str (by decide +kernel)) (da_cons (de_var (pv 1)) da_nil))) (da_cons (de_tup (da_cons (de_str (by decide +kernel)) (da_cons (de_var (pv 1)) da_nil))) da_nil))) (da_cons de_non da_nil)))) (da_cons (de_tup (da_cons (de_str (by decide +kernel)) (da_cons (de_tup (da_cons (de_tup (da_cons (de_str (by decide +kernel)) (da_cons (de_var (pv 1)) da_nil))) (da_cons (de_tup (da_cons (de_str (by decide +kernel)) (da_cons (de_var (pv 1)) da_nil))) da_nil))) (da_cons de_non da_nil)))) da_nil)))))
    (ds_cons (ds_set (i := 2) nd rfl (Or.inl rfl) (de_bin opAdd_ok (de_var (pv 2)) (de_lst (da_cons (de_tup (da_cons (de_str (by decide +kernel)) (da_cons (de_tup (da_cons (de_tup (da_cons (de_str (by decide +kernel)) (da_cons (de_var (pv 1)) da_nil))) da_nil)) (da_cons de_non da_nil)))) (da_cons (de_tup (da_cons (de_str (by decide +kernel)) (da_cons (de_tup (da_cons (de_tup (da_cons (de_str (by decide +kernel)) (da_cons (de_var (pv 1)) da_nil))) da_nil)) (da_cons de_non da_nil)))) da_nil)))))
    (ds_cons (ds_set (i := 2) nd rfl (Or.inl rfl) (de_bin opAdd_ok (de_var (pv 2)) (de_lst (da_cons (de_tup (da_cons (de_str (by decide +kernel)) (da_cons (de_tup (da_cons (de_tup (da_cons (de_str (by decide +kernel)) (da_cons (de_var (pv 1)) da_nil))) da_nil)) (da_cons de_non da_nil)))) (da_cons (de_tup (da_cons (de_str (by decide +kernel)) (da_cons (de_tup (da_cons (de_tup (da_cons (de_str (by decide +kernel)) (da_cons (de_var (pv 1)) da_nil))) da_nil)) (da_cons de_non da_nil)))) da_nil)))))
    (ds_cons (ds_set (i := 2) nd rfl (Or.inl rfl) (de_bin opAdd_ok (de_var (pv 2)) (de_lst (da_cons (de_tup (da_cons (de_str (by decide +kernel)) (da_cons (de_tup (da_cons (de_tup (da_cons (de_str (by decide +kernel)) (da_cons (de_var (pv 1)) da_nil))) da_nil)) (da_cons de_non da_nil)))) (da_cons (de_tup (da_cons (de_str (by decide +kernel)) (da_cons (de_tup (da_cons (de_tup (da_cons de_int (da_cons (de_var (pv 1)) da_nil))) da_nil)) (da_cons de_non da_nil)))) da_nil)))))
    (ds_cons (ds_set (i := 2) nd rfl (Or.inl rfl) (de_bin opAdd_ok (de_var (pv 2)) (de_lst (da_cons (de_tup (da_cons (de_str (by decide +kernel)) (da_cons (de_tup (da_cons (de_tup (da_cons de_non (da_cons (de_var (pv 1)) da_nil))) da_nil)) (da_cons de_non da_nil)))) da_nil))))
    (ds_cons (ds_set (i := 2) nd rfl (Or.inl rfl) (de_bin opAdd_ok (de_var (pv 2)) (de_lst (da_cons (de_tup (da_cons (de_str (by decide +kernel)) (da_cons (de_tup (da_cons (de_lst (da_cons (de_str (by decide +kernel)) (da_cons (de_var (pv 1)) da_nil))) da_nil)) (da_cons de_non da_nil)))) (da_cons (de_tup (da_cons (de_str (by decide +kernel)) (da_cons (de_tup (da_cons (de_tup (da_cons (de_str (by decide +kernel)) (da_cons (de_var (pv 1)) (da_cons de_int da_nil)))) da_nil)) (da_cons de_non da_nil)))) da_nil)))))
    (ds_cons (ds_set (i := 2) nd rfl (Or.inl rfl) (de_bin opAdd_ok (de_var (pv 2)) (de_lst (da_cons (de_tup (da_cons (de_str (by decide +kernel)) (da_cons (de_tup (da_cons (de_tup (da_cons (de_str (by decide +kernel)) da_nil)) da_nil)) (da_cons de_non da_nil)))) da_nil))))
    (ds_cons (ds_set (i := 2) nd rfl (Or.inl rfl) (de_bin opAdd_ok (de_var (pv 2)) (de_lst (da_cons (de_tup (da_cons (de_str (by decide +kernel)) (da_cons (de_tup (da_cons (de_tup (da_cons (de_str (by decide +kernel)) (da_cons (de_tup (da_cons (de_str (by decide +kernel)) (da_cons de_int da_nil))) da_nil))) (da_cons (de_tup (da_cons (de_str (by decide +kernel)) (da_cons (de_tup (da_cons (de_str (by decide +kernel)) (da_cons de_int da_nil))) da_nil))) da_nil))) (da_cons de_int da_nil)))) (da_cons (de_tup (da_cons (de_str (by decide +kernel)) (da_cons (de_tup (da_cons (de_tup (da_cons (de_str (by decide +kernel)) (da_cons (de_var (pv 1)) da_nil))) da_nil)) (da_cons de_non (da_cons de_int da_nil))))) da_nil)))))
    (ds_cons (ds_set (i := 2) nd rfl (Or.inl rfl) (de_bin opAdd_ok (de_var (pv 2)) (de_lst (da_cons (de_tup (da_cons (de_str (by decide +kernel)) (da_cons (de_tup (da_cons (de_tup (da_cons (de_str (by decide +kernel)) (da_cons (de_tup (da_cons (de_str (by decide +kernel)) (da_cons (de_tup da_nil) (da_cons de_int da_nil)))) da_nil))) da_nil)) (da_cons de_int da_nil)))) (da_cons (de_tup (da_cons (de_str (by decide +kernel)) (da_cons (de_tup (da_cons (de_tup (da_cons (de_str (by decide +kernel)) (da_cons (de_tup (da_cons (de_str (by decide +kernel)) (da_cons de_int da_nil))) da_nil))) da_nil)) (da_cons de_int da_nil)))) da_nil)))))
    (ds_cons (ds_set (i := 2) nd rfl (Or.inl rfl) (de_bin opAdd_ok (de_var (pv 2)) (de_lst (da_cons (de_tup (da_cons (de_str (by decide +kernel)) (da_cons (de_tup da_nil) (da_cons de_non da_nil)))) da_nil))))
    (ds_cons (ds_set (i := 2) nd rfl (Or.inl rfl) (de_bin opAdd_ok (de_var (pv 2)) (de_lst (da_cons (de_tup (da_cons (de_str (by decide +kernel)) (da_cons (de_tup (da_cons (de_tup (da_cons (de_str (by decide +kernel)) (da_cons (de_tup (da_cons (de_str (by decide +kernel)) (da_cons (de_tup (da_cons (de_tup (da_cons (de_str (by decide +kernel)) (da_cons (de_var (pv 1)) da_nil))) da_nil)) (da_cons de_int da_nil)))) da_nil))) da_nil)) (da_cons de_int da_nil)))) (da_cons (de_tup (da_cons de_int da_nil)) (da_cons (de_tup (da_cons de_non (da_cons de_int da_nil))) (da_cons (de_tup (da_cons (de_str (by decide +kernel)) (da_cons de_non (da_cons de_non da_nil)))) da_nil)))))))
    (ds_one (ds_ret (de_ix (opIx_ok hr) (de_var (pv 2)) (de_bin opMod_ok (de_var (pv 0)) (de_callB cLen_ok (by rfl) M.m_len (by decide +kernel) (da_cons (de_var (pv 2)) da_nil)))))))))))))))))))))))
theorem sc__law_changed : FnScope N__law_changed ["_law_kind_here", "_law_path", "_law_odd_here"] (defScope (top 22)) := ⟨rfl, rfl, rfl, by decide +kernel, rfl, by decide +kernel, by decide +kernel⟩
theorem der__law_changed (hC : ∀ g, Has PySem.Challenge.rw_fieldrest_k02_kinds.prog w K mg base k (nm g) (ar g) (C g)) (M : Mgs mg) (f : Addr) (cdv : Value) (A : Around) (outer : List Env) (s : Shared) (H : Hp) (E : XK) (hr : Room k (A.deeper (envOfC "_law_changed" (defScope (top 22)) s.heap.objs.size f cdv))) :
    DSs (cxOf (L2.CX PySem.Challenge.rw_fieldrest_k02_kinds.prog w) PySem.Challenge.rw_fieldrest_k02_kinds.prog w K mg base N__law_changed "_law_changed" (defScope (top 22)) f cdv A outer s H E) (fun cls d _ H => E cls d H) (defBody (top 22)) (b__law_changed C) := by
  have nd := sc__law_changed.nd
  have tk : Takes (cxOf (L2.CX PySem.Challenge.rw_fieldrest_k02_kinds.prog w) PySem.Challenge.rw_fieldrest_k02_kinds.prog w K mg base N__law_changed "_law_changed" (defScope (top 22)) f cdv A outer s H E) (fun cls d _ H => E cls d H) := takes_of rfl rfl rfl rfl
  exact (ds_cons (ds_if (dw_pt (dw_or (dt_cmp (opNe_ok hr) (de_ix (opIx_ok hr) (de_var (pv 0)) de_int) (de_str (by decide +kernel)) (nomark _)) (dw_or (dt_cmp (opEq_ok hr) (de_ix (opIx_ok hr) (de_var (pv 0)) de_int) (de_tup da_nil) (nomark _)) (dw_or1 (dt_cmp (opEq_ok hr) (de_bin opMod_ok (de_var (pv 1)) de_int) de_int (nomark _)))))) (ds_one (ds_ret (de_var (pv 2)))) ds_nil)
    (ds_cons (ds_set (i := 3) nd rfl (Or.inl rfl) (de_bin opMod_ok (de_bin opDiv_ok (de_var (pv 1)) de_int) (de_callB cLen_ok (by rfl) M.m_len (by decide +kernel) (da_cons (de_ix (opIx_ok hr) (de_var (pv 0)) de_int) da_nil))))
    (ds_cons (ds_set (i := 4) nd rfl (Or.inl rfl) (de_tup (da_cons (de_ix (opIx_ok hr) (de_ix (opIx_ok hr) (de_ix (opIx_ok hr) (de_var (pv 0)) de_int) (de_var (pv 3))) de_int) (da_cons (de_call (hC ._law_changed) hr tk (by rfl) (dal_cons (de_ix (opIx_ok hr) (de_ix (opIx_ok hr) (de_ix (opIx_ok hr) (de_var (pv 0)) de_int) (de_var (pv 3))) de_int) (dal_cons (de_bin opDiv_ok (de_var (pv 1)) de_int) (dal_cons (de_var (pv 2)) dal_nil)))) da_nil))))
    (ds_one (ds_ret (de_tup (da_cons (de_str (by decide +kernel)) (da_cons (de_bin opAdd_ok (de_bin opAdd_ok (de_slice (de_ix (opIx_ok hr) (de_var (pv 0)) de_int) do_none (do_some (de_var (pv 3)))) (de_tup (da_cons (de_var (pv 4)) da_nil))) (de_slice (de_ix (opIx_ok hr) (de_var (pv 0)) de_int) (do_some (de_bin opAdd_ok (de_var (pv 3)) de_int)) do_none)) (da_cons (de_ix (opIx_ok hr) (de_var (pv 0)) de_int) da_nil)))))))))
theorem sc__law_word : FnScope N__law_word ["_law_thing_here"] (defScope (top 23)) := ⟨rfl, rfl, rfl, by decide +kernel, rfl, by decide +kernel, by decide +kernel⟩
theorem der__law_word (hC : ∀ g, Has PySem.Challenge.rw_fieldrest_k02_kinds.prog w K mg base k (nm g) (ar g) (C g)) (M : Mgs mg) (f : Addr) (cdv : Value) (A : Around) (outer : List Env) (s : Shared) (H : Hp) (E : XK) (hr : Room k (A.deeper (envOfC "_law_word" (defScope (top 23)) s.heap.objs.size f cdv))) :
    DSs (cxOf (L2.CX PySem.Challenge.rw_fieldrest_k02_kinds.prog w) PySem.Challenge.rw_fieldrest_k02_kinds.prog w K mg base N__law_word "_law_word" (defScope (top 23)) f cdv A outer s H E) (fun cls d _ H => E cls d H) (defBody (top 23)) (b__law_word C) := by
  have nd := sc__law_word.nd
  have tk : Takes (cxOf (L2.CX PySem.Challenge.rw_fieldrest_k02_kinds.prog w) PySem.Challenge.rw_fieldrest_k02_kinds.prog w K mg base N__law_word "_law_word" (defScope (top 23)) f cdv A outer s H E) (fun cls d _ H => E cls d H) := takes_of rfl rfl rfl rfl
  exact (ds_cons (ds_if (dw_pt (dw_or (dt_not (dt_val (de_isi (by rfl) M.m_isinstance (de_var (pv 0)) (pe_bltn (v := .ty "str") (by rfl) M.m_str (by decide +kernel) rfl)))) (dw_or1 (dt_not (dt_chain opLe_ok opLe_ok de_int (de_callB cLen_ok (by rfl) M.m_len (by decide +kernel) (da_cons (de_var (pv 0)) da_nil)) de_int))))) (ds_one (ds_ret de_bl)) ds_nil)
    (ds_one (ds_ret (de_callB (cAll_ok rfl) (by rfl) M.m_all (by decide +kernel) (da_cons (de_comp (own := [("_law_sign", 1)]) rfl nd (di_items (de_var (pv 0))) (blkOk_by (N := N__law_word) (sc := (defScope (top 23))) (own := [("_law_sign", 1)]) (by decide +kernel)) (fun _ _ _ _ _ => pg_name (i := 1) nd rfl (Or.inl rfl)) (tgr_name (by decide)) (fun _ _ _ _ _ => dts_nil) (fun _ _ _ _ _ => (de_cmp (opIn_ok hr) (de_var (pv 1)) (de_str (by decide +kernel)) rfl))) da_nil)))))
theorem sc__law_number : FnScope N__law_number ["_law_thing_here"] (defScope (top 24)) := ⟨rfl, rfl, rfl, by decide +kernel, rfl, by decide +kernel, by decide +kernel⟩
theorem der__law_number (hC : ∀ g, Has PySem.Challenge.rw_fieldrest_k02_kinds.prog w K mg base k (nm g) (ar g) (C g)) (M : Mgs mg) (f : Addr) (cdv : Value) (A : Around) (outer : List Env) (s : Shared) (H : Hp) (E : XK) (hr : Room k (A.deeper (envOfC "_law_number" (defScope (top 24)) s.heap.objs.size f cdv))) :
    DSs (cxOf (L2.CX PySem.Challenge.rw_fieldrest_k02_kinds.prog w) PySem.Challenge.rw_fieldrest_k02_kinds.prog w K mg base N__law_number "_law_number" (defScope (top 24)) f cdv A outer s H E) (fun cls d _ H => E cls d H) (defBody (top 24)) (b__law_number C) := by
  have nd := sc__law_number.nd
  have tk : Takes (cxOf (L2.CX PySem.Challenge.rw_fieldrest_k02_kinds.prog w) PySem.Challenge.rw_fieldrest_k02_kinds.prog w K mg base N__law_number "_law_number" (defScope (top 24)) f cdv A outer s H E) (fun cls d _ H => E cls d H) := takes_of rfl rfl rfl rfl
  exact (ds_one (ds_ret (de_and (de_isi (by rfl) M.m_isinstance (de_var (pv 0)) (pe_bltn (v := .ty "int") (by rfl) M.m_int (by decide +kernel) rfl)) (de_and (de_not (de_isi (by rfl) M.m_isinstance (de_var (pv 0)) (pe_bltn (v := .ty "bool") (by rfl) M.m_bool (by decide +kernel) rfl))) (de_one (de_cmp opGe_ok (de_var (pv 0)) de_int (nomark _)))))))
theorem sc__law_blank : FnScope N__law_blank ["_law_seen", "_law_number_here", "_law_labels_here"] (defScope (top 25)) := ⟨rfl, rfl, rfl, by decide +kernel, rfl, by decide +kernel, by decide +kernel⟩
theorem der__law_blank (hC : ∀ g, Has PySem.Challenge.rw_fieldrest_k02_kinds.prog w K mg base k (nm g) (ar g) (C g)) (M : Mgs mg) (f : Addr) (cdv : Value) (A : Around) (outer : List Env) (s : Shared) (H : Hp) (E : XK) (hr : Room k (A.deeper (envOfC "_law_blank" (defScope (top 25)) s.heap.objs.size f cdv))) :
    DSs (cxOf (L2.CX PySem.Challenge.rw_fieldrest_k02_kinds.prog w) PySem.Challenge.rw_fieldrest_k02_kinds.prog w K mg base N__law_blank "_law_blank" (defScope (top 25)) f cdv A outer s H E) (fun cls d _ H => E cls d H) (defBody (top 25)) (b__law_blank C) := by
  have nd := sc__law_blank.nd
  have tk : Takes (cxOf (L2.CX PySem.Challenge.rw_fieldrest_k02_kinds.prog w) PySem.Challenge.rw_fieldrest_k02_kinds.prog w K mg base N__law_blank "_law_blank" (defScope (top 25)) f cdv A outer s H E) (fun cls d _ H => E cls d H) := takes_of rfl rfl rfl rfl
  exact (ds_cons (ds_if (dw_pt (dw_and (dt_cmp (opIn_ok hr) (de_var (pv 1)) (de_var (pv 0)) rfl) (dw_and1 (dt_cmp (opNe_ok hr) (de_ix (opIx_ok hr) (de_var (pv 0)) (de_var (pv 1))) (de_var (pv 2)) (nomark _))))) (ds_one (ds_ret de_bl)) ds_nil)
    (ds_cons (ds_asg (de_var (pv 2)) (dg_sub (de_var (pv 0)) (de_var (pv 1)) (opSet_ok hr)))
    (ds_one (ds_ret de_bl))))
theorem sc__law_good : FnScope N__law_good ["_law_thing_here", "_law_left", "_law_seen"] (defScope (top 26)) := ⟨rfl, rfl, rfl, by decide +kernel, rfl, by decide +kernel, by decide +kernel⟩
theorem der__law_good (hC : ∀ g, Has PySem.Challenge.rw_fieldrest_k02_kinds.prog w K mg base k (nm g) (ar g) (C g)) (M : Mgs mg) (f : Addr) (cdv : Value) (A : Around) (outer : List Env) (s : Shared) (H : Hp) (E : XK) (hr : Room k (A.deeper (envOfC "_law_good" (defScope (top 26)) s.heap.objs.size f cdv))) :
    DSs (cxOf (L2.CX PySem.Challenge.rw_fieldrest_k02_kinds.prog w) PySem.Challenge.rw_fieldrest_k02_kinds.prog w K mg base N__law_good "_law_good" (defScope (top 26)) f cdv A outer s H E) (fun cls d _ H => E cls d H) (defBody (top 26)) (b__law_good C) := by
  have nd := sc__law_good.nd
  have tk : Takes (cxOf (L2.CX PySem.Challenge.rw_fieldrest_k02_kinds.prog w) PySem.Challenge.rw_fieldrest_k02_kinds.prog w K mg base N__law_good "_law_good" (defScope (top 26)) f cdv A outer s H E) (fun cls d _ H => E cls d H) := takes_of rfl rfl rfl rfl
  exact (ds_cons (ds_if (dw_pt (dw_or (dt_cmp (opEq_ok hr) (de_var (pv 1)) de_int (nomark _)) (dw_or (dt_not (dt_val (de_isi (by rfl) M.m_isinstance (de_var (pv 0)) (pe_bltn (v := .ty "tuple") (by rfl) M.m_tuple (by decide +kernel) rfl)))) (dw_or (dt_cmp (opEq_ok hr) (de_callB cLen_ok (by rfl) M.m_len (by decide +kernel) (da_cons (de_var (pv 0)) da_nil)) de_int (nomark _)) (dw_or1 (dt_not (dt_val (de_isi (by rfl) M.m_isinstance (de_ix (opIx_ok hr) (de_var (pv 0)) de_int) (pe_bltn (v := .ty "str") (by rfl) M.m_str (by decide +kernel) rfl))))))))) (ds_one (ds_ret de_bl)) ds_nil)
    (ds_cons (ds_asg (de_bin opAdd_ok (de_ix (opIx_ok hr) (de_var (pv 2)) (de_neg de_int)) de_int) (dg_sub (de_var (pv 2)) (de_neg de_int) (opSet_ok hr)))
    (ds_cons (ds_if (dt_cmp (opEq_ok hr) (de_ix (opIx_ok hr) (de_var (pv 0)) de_int) (de_str (by decide +kernel)) (nomark _)) (ds_one (ds_ret (de_cmp (opEq_ok hr) (de_callB cLen_ok (by rfl) M.m_len (by decide +kernel) (da_cons (de_var (pv 0)) da_nil)) de_int (nomark _)))) ds_nil)
    (ds_cons (ds_if (dt_cmp (opEq_ok hr) (de_ix (opIx_ok hr) (de_var (pv 0)) de_int) (de_str (by decide +kernel)) (nomark _)) (ds_one (ds_ret (de_and (de_cmp (opEq_ok hr) (de_callB cLen_ok (by rfl) M.m_len (by decide +kernel) (da_cons (de_var (pv 0)) da_nil)) de_int (nomark _)) (de_and (de_call (hC ._law_number) hr tk (by rfl) (dal_cons (de_ix (opIx_ok hr) (de_var (pv 0)) de_int) dal_nil)) (de_one (de_call (hC ._law_blank) hr tk (by rfl) (dal_cons (de_var (pv 2)) (dal_cons (de_ix (opIx_ok hr) (de_var (pv 0)) de_int) (dal_cons de_non dal_nil))))))))) ds_nil)
    (ds_cons (ds_if (dw_pt (dw_or (dt_cmp (opNe_ok hr) (de_ix (opIx_ok hr) (de_var (pv 0)) de_int) (de_str (by decide +kernel)) (nomark _)) (dw_or (dt_cmp (opNe_ok hr) (de_callB cLen_ok (by rfl) M.m_len (by decide +kernel) (da_cons (de_var (pv 0)) da_nil)) de_int (nomark _)) (dw_or1 (dt_not (dt_val (de_isi (by rfl) M.m_isinstance (de_ix (opIx_ok hr) (de_var (pv 0)) de_int) (pe_bltn (v := .ty "tuple") (by rfl) M.m_tuple (by decide +kernel) rfl)))))))) (ds_one (ds_ret de_bl)) ds_nil)
    (ds_cons (ds_set (i := 3) nd rfl (Or.inl rfl) (de_lstR da_nil))
    (ds_cons (ds_for (passes_of rfl) rfl (di_items (de_ix (opIx_ok hr) (de_var (pv 0)) de_int)) (dg_name (pg_name (i := 4) nd rfl (Or.inl rfl))) (ds_cons (ds_if (dw_pt (dw_or (dt_not (dt_val (de_isi (by rfl) M.m_isinstance (de_var (pv 4)) (pe_bltn (v := .ty "tuple") (by rfl) M.m_tuple (by decide +kernel) rfl)))) (dw_or (dt_cmp (opNe_ok hr) (de_callB cLen_ok (by rfl) M.m_len (by decide +kernel) (da_cons (de_var (pv 4)) da_nil)) de_int (nomark _)) (dw_or1 (dt_not (dt_val (de_call (hC ._law_word) hr tk (by rfl) (dal_cons (de_ix (opIx_ok hr) (de_var (pv 4)) de_int) dal_nil)))))))) (ds_one (ds_ret de_bl)) ds_nil)
    (ds_cons (ds_if (dw_pt (dw_or (dw_pt (dw_and (dt_cmp (opNe_ok hr) (de_var (pv 3)) (de_lst da_nil) (nomark _)) (dw_and1 (dt_cmp opGe_ok (de_ix (opIx_ok hr) (de_var (pv 3)) (de_neg de_int)) (de_ix (opIx_ok hr) (de_var (pv 4)) de_int) (nomark _))))) (dw_or1 (dt_not (dt_val (de_call (hC ._law_good) hr tk (by rfl) (dal_cons (de_ix (opIx_ok hr) (de_var (pv 4)) de_int) (dal_cons (de_bin opSub_ok (de_var (pv 1)) de_int) (dal_cons (de_var (pv 2)) dal_nil))))))))) (ds_one (ds_ret de_bl)) ds_nil)
    (ds_one (ds_expr (de_mlist PySem.F.slot_list_append PySem.F.type_list_append cAppend_ok (de_var (pv 3)) (da_cons (de_ix (opIx_ok hr) (de_var (pv 4)) de_int) da_nil)))))))
    (ds_one (ds_ret (de_or (de_cmp opIsN_ok (de_ix (opIx_ok hr) (de_var (pv 0)) de_int) de_non (nomark _)) (de_one (de_and (de_call (hC ._law_number) hr tk (by rfl) (dal_cons (de_ix (opIx_ok hr) (de_var (pv 0)) de_int) dal_nil)) (de_one (de_call (hC ._law_blank) hr tk (by rfl) (dal_cons (de_var (pv 2)) (dal_cons (de_ix (opIx_ok hr) (de_var (pv 0)) de_int) (dal_cons (de_var (pv 3)) dal_nil)))))))))))))))))
theorem sc__law_due : FnScope N__law_due ["_law_thing_here"] (defScope (top 27)) := ⟨rfl, rfl, rfl, by decide +kernel, rfl, by decide +kernel, by decide +kernel⟩
theorem der__law_due (hC : ∀ g, Has PySem.Challenge.rw_fieldrest_k02_kinds.prog w K mg base k (nm g) (ar g) (C g)) (M : Mgs mg) (f : Addr) (cdv : Value) (A : Around) (outer : List Env) (s : Shared) (H : Hp) (E : XK) (hr : Room k (A.deeper (envOfC "_law_due" (defScope (top 27)) s.heap.objs.size f cdv))) :
    DSs (cxOf (L2.CX PySem.Challenge.rw_fieldrest_k02_kinds.prog w) PySem.Challenge.rw_fieldrest_k02_kinds.prog w K mg base N__law_due "_law_due" (defScope (top 27)) f cdv A outer s H E) (fun cls d _ H => E cls d H) (defBody (top 27)) (b__law_due C) := by
  have nd := sc__law_due.nd
  have tk : Takes (cxOf (L2.CX PySem.Challenge.rw_fieldrest_k02_kinds.prog w) PySem.Challenge.rw_fieldrest_k02_kinds.prog w K mg base N__law_due "_law_due" (defScope (top 27)) f cdv A outer s H E) (fun cls d _ H => E cls d H) := takes_of rfl rfl rfl rfl
  exact (ds_cons (ds_set (i := 1) nd rfl (Or.inl rfl) (de_dispI (pe_negC pe_int) pe_int))
    (ds_one (ds_ret (de_and (de_call (hC ._law_good) hr tk (by rfl) (dal_cons (de_var (pv 0)) (dal_cons de_int (dal_cons (de_var (pv 1)) dal_nil)))) (de_one (de_cmp opLe_ok (de_ix (opIx_ok hr) (de_var (pv 1)) (de_neg de_int)) de_int (nomark _)))))))
theorem sc__law_merged : FnScope N__law_merged ["_law_kind_here", "_law_many"] (defScope (top 28)) := ⟨rfl, rfl, rfl, by decide +kernel, rfl, by decide +kernel, by decide +kernel⟩
theorem der__law_merged (hC : ∀ g, Has PySem.Challenge.rw_fieldrest_k02_kinds.prog w K mg base k (nm g) (ar g) (C g)) (M : Mgs mg) (f : Addr) (cdv : Value) (A : Around) (outer : List Env) (s : Shared) (H : Hp) (E : XK) (hr : Room k (A.deeper (envOfC "_law_merged" (defScope (top 28)) s.heap.objs.size f cdv))) :
    DSs (cxOf (L2.CX PySem.Challenge.rw_fieldrest_k02_kinds.prog w) PySem.Challenge.rw_fieldrest_k02_kinds.prog w K mg base N__law_merged "_law_merged" (defScope (top 28)) f cdv A outer s H E) (fun cls d _ H => E cls d H) (defBody (top 28)) (b__law_merged C) := by
  have nd := sc__law_merged.nd
  have tk : Takes (cxOf (L2.CX PySem.Challenge.rw_fieldrest_k02_kinds.prog w) PySem.Challenge.rw_fieldrest_k02_kinds.prog w K mg base N__law_merged "_law_merged" (defScope (top 28)) f cdv A outer s H E) (fun cls d _ H => E cls d H) := takes_of rfl rfl rfl rfl
  let XX := cxOf (L2.CX PySem.Challenge.rw_fieldrest_k02_kinds.prog w) PySem.Challenge.rw_fieldrest_k02_kinds.prog w K mg base N__law_merged "_law_merged" (defScope (top 28)) f cdv A outer s H E
  exact (ds_cons (ds_if (dt_cmp (opEq_ok hr) (de_ix (opIx_ok hr) (de_var (pv 0)) de_int) (de_str (by decide +kernel)) (nomark _)) (ds_one (ds_ret (de_tup (da_cons (de_str (by decide +kernel)) (da_cons (de_bin opMod_ok (de_ix (opIx_ok hr) (de_var (pv 0)) de_int) (de_var (pv 1))) da_nil))))) ds_nil)
    (ds_cons (ds_if (dt_cmp (opEq_ok hr) (de_ix (opIx_ok hr) (de_var (pv 0)) de_int) (de_str (by decide +kernel)) (nomark _)) (ds_one (ds_ret (de_var (pv 0)))) ds_nil)
    (ds_cons (ds_set (i := 2) nd rfl (Or.inl rfl) (de_ix (opIx_ok hr) (de_var (pv 0)) de_int))
    (ds_cons (ds_if (dt_cmp opNotN_ok (de_var (pv 2)) de_non (nomark _)) (ds_one (ds_set (i := 2) nd rfl (Or.inl rfl) (de_bin opMod_ok (de_var (pv 2)) (de_var (pv 1))))) ds_nil)
    (ds_one (ds_ret (de_tup (da_cons (de_str (by decide +kernel)) (da_cons (de_callTy cTuple_ok (by rfl) M.m_tuple (by decide +kernel) (da_cons (de_comp (own := [("_law_label", 4), ("_law_inner", 3)]) rfl nd (di_items (de_ix (opIx_ok hr) (de_var (pv 0)) de_int)) (blkOk_by (N := N__law_merged) (sc := (defScope (top 28))) (own := [("_law_label", 4), ("_law_inner", 3)]) (by decide +kernel)) (fun _ _ _ _ _ => pg_tup (n := 2) rfl (pgs_cons (pg_name (i := 4) nd rfl (Or.inl rfl)) (pgs_cons (pg_name (i := 3) nd rfl (Or.inl rfl)) pgs_nil)) rfl rfl) (tgr_tup (X := XX) (is := [4, 3]) (.cons (e := .Name "x" ⟨0, 0, 0, 0⟩) (.cons (e := .Name "x" ⟨0, 0, 0, 0⟩) .nil)) (by decide)) (fun _ _ _ _ _ => dts_nil) (fun _ _ _ _ _ => (de_tup (da_cons (de_var (pv 4)) (da_cons (de_call (hC ._law_merged) hr takes0 (by rfl) (dal_cons (de_var (pv 3)) (dal_cons (de_var (pv 1)) dal_nil))) da_nil))))) da_nil)) (da_cons (de_var (pv 2)) da_nil))))))))))
theorem sc__law_thing : FnScope N__law_thing ["_law_kind_here", "_law_labels_here", "_law_way", "_law_number_here"] (defScope (top 29)) := ⟨rfl, rfl, rfl, by decide +kernel, rfl, by decide +kernel, by decide +kernel⟩
theorem der__law_thing (hC : ∀ g, Has PySem.Challenge.rw_fieldrest_k02_kinds.prog w K mg base k (nm g) (ar g) (C g)) (M : Mgs mg) (f : Addr) (cdv : Value) (A : Around) (outer : List Env) (s : Shared) (H : Hp) (E : XK) (hr : Room k (A.deeper (envOfC "_law_thing" (defScope (top 29)) s.heap.objs.size f cdv))) :
    DSs (cxOf (L2.CX PySem.Challenge.rw_fieldrest_k02_kinds.prog w) PySem.Challenge.rw_fieldrest_k02_kinds.prog w K mg base N__law_thing "_law_thing" (defScope (top 29)) f cdv A outer s H E) (fun cls d _ H => E cls d H) (defBody (top 29)) (b__law_thing C) := by
  have nd := sc__law_thing.nd
  have tk : Takes (cxOf (L2.CX PySem.Challenge.rw_fieldrest_k02_kinds.prog w) PySem.Challenge.rw_fieldrest_k02_kinds.prog w K mg base N__law_thing "_law_thing" (defScope (top 29)) f cdv A outer s H E) (fun cls d _ H => E cls d H) := takes_of rfl rfl rfl rfl
  exact (ds_cons (ds_if (dt_cmp (opEq_ok hr) (de_bin opMod_ok (de_var (pv 2)) de_int) de_int (nomark _)) (ds_one (ds_ret (de_call (hC ._law_merged) hr tk (by rfl) (dal_cons (de_var (pv 0)) (dal_cons (de_bin opAdd_ok de_int (de_bin opMod_ok (de_var (pv 3)) de_int)) dal_nil))))) ds_nil)
    (ds_cons (ds_if (dt_cmp (opEq_ok hr) (de_bin opMod_ok (de_var (pv 2)) de_int) de_int (nomark _)) (ds_cons (ds_set (i := 4) nd rfl (Or.inl rfl) (de_var (pv 0)))
    (ds_cons (ds_for (passes_of rfl) rfl (di_range1 (by rfl) M.m_range (de_bin opMod_ok (de_var (pv 3)) de_int)) (dg_name (pg_name (i := 5) nd rfl (Or.inl rfl))) (ds_one (ds_set (i := 4) nd rfl (Or.inl rfl) (de_tup (da_cons (de_str (by decide +kernel)) (da_cons (de_tup (da_cons (de_tup (da_cons (de_ix (opIx_ok hr) (de_var (pv 1)) (de_bin opMod_ok (de_var (pv 5)) de_int)) (da_cons (de_var (pv 4)) da_nil))) da_nil)) (da_cons de_non da_nil)))))))
    (ds_one (ds_ret (de_var (pv 4)))))) ds_nil)
    (ds_cons (ds_if (dw_pt (dw_and (dt_cmp (opEq_ok hr) (de_bin opMod_ok (de_var (pv 2)) de_int) de_int (nomark _)) (dw_and1 (dt_cmp (opEq_ok hr) (de_bin opMod_ok (de_bin opDiv_ok (de_var (pv 2)) de_int) de_int) de_int (nomark _))))) (ds_cons (ds_set (i := 6) nd rfl (Or.inr rfl) (de_str (by decide +kernel)))
    (ds_cons (ds_set (i := 7) nd rfl (Or.inl rfl) (de_ix (opIx_ok hr) (de_lst (da_cons (de_bin opMod_ok (de_bin opDiv_ok (de_var (pv 3)) de_int) de_int) (da_cons (de_bin opAdd_ok de_int (de_bin opMod_ok (de_bin opDiv_ok (de_var (pv 3)) de_int) de_int)) da_nil))) (de_bin opMod_ok (de_var (pv 3)) de_int)))
    (ds_cons (ds_setComp (own := [("_law_k", 5)]) (i := 8) rfl nd rfl rfl (sw_true rfl rfl rfl (by decide +kernel)) (di_range1 (by rfl) M.m_range (de_var (pv 7))) (blkOk_by (N := N__law_thing) (sc := (defScope (top 29))) (own := [("_law_k", 5)]) (by decide +kernel)) (fun _ _ _ _ _ => pg_name (i := 5) nd rfl (Or.inl rfl)) (tgr_name (by decide)) (fun _ _ _ _ _ => dts_nil) (fun _ _ _ _ _ => (de_bin opAdd_ok (de_ix (opIx_ok hr) (de_var (pv 6)) (de_bin opDiv_ok (de_var (pv 5)) de_int)) (de_ix (opIx_ok hr) (de_var (pv 6)) (de_bin opMod_ok (de_var (pv 5)) de_int)))))
    (ds_one (ds_ret (de_tup (da_cons (de_str (by decide +kernel)) (da_cons (de_callTy cTuple_ok (by rfl) M.m_tuple (by decide +kernel) (da_cons (de_comp (own := [("_law_word_here", 9)]) rfl nd (di_items (de_var (pv 8))) (blkOk_by (N := N__law_thing) (sc := (defScope (top 29))) (own := [("_law_word_here", 9)]) (by decide +kernel)) (fun _ _ _ _ _ => pg_name (i := 9) nd rfl (Or.inl rfl)) (tgr_name (by decide)) (fun _ _ _ _ _ => dts_nil) (fun _ _ _ _ _ => (de_tup (da_cons (de_var (pv 9)) (da_cons (de_tup (da_cons (de_str (by decide +kernel)) da_nil)) da_nil))))) da_nil)) (da_cons de_non da_nil))))))))) ds_nil)
    (ds_one (ds_ret (de_call (hC ._law_changed) hr tk (by rfl) (dal_cons (de_var (pv 0)) (dal_cons (de_bin opDiv_ok (de_var (pv 2)) de_int) (dal_cons (de_call (hC ._law_odd) hr tk (by rfl) (dal_cons (de_var (pv 3)) (dal_cons (de_tup (da_cons (de_str (by decide +kernel)) da_nil)) dal_nil))) dal_nil)))))))))
theorem sc_law : FnScope N_law ["_law_script"] (defScope (top 30)) := ⟨rfl, rfl, rfl, by decide +kernel, rfl, by decide +kernel, by decide +kernel⟩
theorem der_law (hC : ∀ g, Has PySem.Challenge.rw_fieldrest_k02_kinds.prog w K mg base k (nm g) (ar g) (C g)) (M : Mgs mg) (f : Addr) (cdv : Value) (A : Around) (outer : List Env) (s : Shared) (H : Hp) (E : XK) (hr : Room k (A.deeper (envOfC "law" (defScope (top 30)) s.heap.objs.size f cdv))) :
    DSs (cxOf (L2.CX PySem.Challenge.rw_fieldrest_k02_kinds.prog w) PySem.Challenge.rw_fieldrest_k02_kinds.prog w K mg base N_law "law" (defScope (top 30)) f cdv A outer s H E) (fun cls d _ H => E cls d H) (defBody (top 30)) (b_law C) := by
  have nd := sc_law.nd
  have tk : Takes (cxOf (L2.CX PySem.Challenge.rw_fieldrest_k02_kinds.prog w) PySem.Challenge.rw_fieldrest_k02_kinds.prog w K mg base N_law "law" (defScope (top 30)) f cdv A outer s H E) (fun cls d _ H => E cls d H) := takes_of rfl rfl rfl rfl
  exact (ds_cons (ds_set (i := 1) nd rfl (Or.inl rfl) (de_call (hC ._law_labels) hr tk (by rfl) (dal_cons (de_call (hC ._law_cell) hr tk (by rfl) (dal_cons (de_var (pv 0)) (dal_cons de_int dal_nil))) (dal_cons de_int dal_nil))))
    (ds_cons (ds_set (i := 2) nd rfl (Or.inl rfl) (de_lstR (da_cons (de_bin opAdd_ok de_int (de_bin opMod_ok (de_call (hC ._law_cell) hr tk (by rfl) (dal_cons (de_var (pv 0)) (dal_cons de_int dal_nil))) de_int)) (da_cons (de_bin opAdd_ok de_int (de_bin opMod_ok (de_call (hC ._law_cell) hr tk (by rfl) (dal_cons (de_var (pv 0)) (dal_cons de_int dal_nil))) de_int)) da_nil))))
    (ds_cons (ds_set (i := 3) nd rfl (Or.inl rfl) (de_lst (da_cons (de_bin opAdd_ok de_int (de_bin opMod_ok (de_call (hC ._law_cell) hr tk (by rfl) (dal_cons (de_var (pv 0)) (dal_cons de_int dal_nil))) (de_bin opPow_ok de_int de_int))) (da_cons (de_lstR da_nil) da_nil))))
    (ds_cons (ds_set (i := 4) nd rfl (Or.inl rfl) (de_call (hC ._law_kind) hr tk (by rfl) (dal_cons (de_var (pv 2)) (dal_cons (de_var (pv 1)) (dal_cons (de_var (pv 3)) (dal_cons (de_bin opAdd_ok de_int (de_bin opMod_ok (de_bin opDiv_ok (de_call (hC ._law_cell) hr tk (by rfl) (dal_cons (de_var (pv 0)) (dal_cons de_int dal_nil))) de_int) de_int)) dal_nil))))))
    (ds_cons (ds_set (i := 5) nd rfl (Or.inl rfl) (de_lstR (da_cons (de_var (pv 4)) da_nil)))
    (ds_cons (ds_for (passes_of rfl) rfl (di_items (de_lst (da_cons de_int (da_cons de_int da_nil)))) (dg_name (pg_name (i := 6) nd rfl (Or.inl rfl))) (ds_one (ds_expr (de_mlist PySem.F.slot_list_append PySem.F.type_list_append cAppend_ok (de_var (pv 5)) (da_cons (de_tup (da_cons (de_str (by decide +kernel)) (da_cons (de_tup (da_cons (de_tup (da_cons (de_slice (de_bin opAdd_ok (de_ix (opIx_ok hr) (de_var (pv 1)) de_int) (de_str (by decide +kernel))) do_none (do_some (de_var (pv 6)))) (da_cons (de_tup (da_cons (de_str (by decide +kernel)) da_nil)) da_nil))) da_nil)) (da_cons de_non da_nil)))) da_nil)))))
    (ds_cons (ds_for (passes_of rfl) rfl (di_range1 (by rfl) M.m_range de_int) (dg_name (pg_name (i := 7) nd rfl (Or.inl rfl))) (ds_one (ds_expr (de_mlist PySem.F.slot_list_append PySem.F.type_list_append cAppend_ok (de_var (pv 5)) (da_cons (de_call (hC ._law_thing) hr tk (by rfl) (dal_cons (de_var (pv 4)) (dal_cons (de_var (pv 1)) (dal_cons (de_call (hC ._law_cell) hr tk (by rfl) (dal_cons (de_var (pv 0)) (dal_cons (de_bin opAdd_ok de_int (de_bin opMul_ok de_int (de_var (pv 7)))) dal_nil))) (dal_cons (de_call (hC ._law_cell) hr tk (by rfl) (dal_cons (de_var (pv 0)) (dal_cons (de_bin opAdd_ok de_int (de_bin opMul_ok de_int (de_var (pv 7)))) dal_nil))) dal_nil))))) da_nil)))))
    (ds_cons (ds_for (passes_of rfl) rfl (di_items (de_bin opAdd_ok (de_var (pv 5)) (de_slice (de_var (pv 5)) do_none (do_some de_int)))) (dg_name (pg_name (i := 8) nd rfl (Or.inl rfl))) (ds_cons (ds_set (i := 9) nd rfl (Or.inl rfl) (de_call (hC .is_kind) hr tk (by rfl) (dal_cons (de_var (pv 8)) dal_nil)))
    (ds_one (ds_if (dw_pt (dw_or (dt_not (dt_val (de_isi (by rfl) M.m_isinstance (de_var (pv 9)) (pe_bltn (v := .ty "bool") (by rfl) M.m_bool (by decide +kernel) rfl)))) (dw_or1 (dt_cmp (opNe_ok hr) (de_var (pv 9)) (de_call (hC ._law_due) hr tk (by rfl) (dal_cons (de_var (pv 8)) dal_nil)) (nomark _))))) (ds_one (ds_ret de_bl)) ds_nil))))
    (ds_one (ds_ret de_bl))))))))))
end

structure Facts (K : PySem.W.Frag) (mg : Str → Option Value) : Prop where
  M : Mgs mg
  F_is_whole : ∃ f fd, Fun K "is_whole" "is_whole" (top 3) f fd ∧ mg "is_whole" = some (.ref f) ∧ Binds K fd ["thing"] []
  F_is_word : ∃ f fd, Fun K "is_word" "is_word" (top 4) f fd ∧ mg "is_word" = some (.ref f) ∧ Binds K fd ["thing"] []
  F_is_pair : ∃ f fd, Fun K "is_pair" "is_pair" (top 5) f fd ∧ mg "is_pair" = some (.ref f) ∧ Binds K fd ["thing"] []
  F_is_rest : ∃ f fd, Fun K "is_rest" "is_rest" (top 9) f fd ∧ mg "is_rest" = some (.ref f) ∧ Binds K fd ["thing"] []
  F_is_row : ∃ f fd, Fun K "is_row" "is_row" (top 10) f fd ∧ mg "is_row" = some (.ref f) ∧ Binds K fd ["fields", "deep"] []
  F_is_kind_in : ∃ f fd, Fun K "is_kind_in" "is_kind_in" (top 11) f fd ∧ mg "is_kind_in" = some (.ref f) ∧ Binds K fd ["thing", "deep"] []
  F_knots : ∃ f fd, Fun K "knots" "knots" (top 12) f fd ∧ mg "knots" = some (.ref f) ∧ Binds K fd ["kind"] []
  F_blanks_in : ∃ f fd, Fun K "blanks_in" "blanks_in" (top 13) f fd ∧ mg "blanks_in" = some (.ref f) ∧ Binds K fd ["kind", "found"] []
  F_put_blank : ∃ f fd, Fun K "put_blank" "put_blank" (top 14) f fd ∧ mg "put_blank" = some (.ref f) ∧ Binds K fd ["found", "number", "labels"] []
  F_is_kind : ∃ f fd, Fun K "is_kind" "is_kind" (top 15) f fd ∧ mg "is_kind" = some (.ref f) ∧ Binds K fd ["thing"] []
  F__law_cell : ∃ f fd, Fun K "_law_cell" "_law_cell" (top 17) f fd ∧ mg "_law_cell" = some (.ref f) ∧ Binds K fd ["_law_script", "_law_k"] []
  F__law_next : ∃ f fd, Fun K "_law_next" "_law_next" (top 18) f fd ∧ mg "_law_next" = some (.ref f) ∧ Binds K fd ["_law_state"] []
  F__law_labels : ∃ f fd, Fun K "_law_labels" "_law_labels" (top 19) f fd ∧ mg "_law_labels" = some (.ref f) ∧ Binds K fd ["_law_cell_here", "_law_many"] []
  F__law_kind : ∃ f fd, Fun K "_law_kind" "_law_kind" (top 20) f fd ∧ mg "_law_kind" = some (.ref f) ∧ Binds K fd ["_law_state", "_law_labels_here", "_law_met", "_law_left"] []
  F__law_odd : ∃ f fd, Fun K "_law_odd" "_law_odd" (top 21) f fd ∧ mg "_law_odd" = some (.ref f) ∧ Binds K fd ["_law_number_here", "_law_inner"] []
  F__law_changed : ∃ f fd, Fun K "_law_changed" "_law_changed" (top 22) f fd ∧ mg "_law_changed" = some (.ref f) ∧ Binds K fd ["_law_kind_here", "_law_path", "_law_odd_here"] []
  F__law_word : ∃ f fd, Fun K "_law_word" "_law_word" (top 23) f fd ∧ mg "_law_word" = some (.ref f) ∧ Binds K fd ["_law_thing_here"] []
  F__law_number : ∃ f fd, Fun K "_law_number" "_law_number" (top 24) f fd ∧ mg "_law_number" = some (.ref f) ∧ Binds K fd ["_law_thing_here"] []
  F__law_blank : ∃ f fd, Fun K "_law_blank" "_law_blank" (top 25) f fd ∧ mg "_law_blank" = some (.ref f) ∧ Binds K fd ["_law_seen", "_law_number_here", "_law_labels_here"] []
  F__law_good : ∃ f fd, Fun K "_law_good" "_law_good" (top 26) f fd ∧ mg "_law_good" = some (.ref f) ∧ Binds K fd ["_law_thing_here", "_law_left", "_law_seen"] []
  F__law_due : ∃ f fd, Fun K "_law_due" "_law_due" (top 27) f fd ∧ mg "_law_due" = some (.ref f) ∧ Binds K fd ["_law_thing_here"] []
  F__law_merged : ∃ f fd, Fun K "_law_merged" "_law_merged" (top 28) f fd ∧ mg "_law_merged" = some (.ref f) ∧ Binds K fd ["_law_kind_here", "_law_many"] []
  F__law_thing : ∃ f fd, Fun K "_law_thing" "_law_thing" (top 29) f fd ∧ mg "_law_thing" = some (.ref f) ∧ Binds K fd ["_law_kind_here", "_law_labels_here", "_law_way", "_law_number_here"] []
  F_law : ∃ f fd, Fun K "law" "law" (top 30) f fd ∧ mg "law" = some (.ref f) ∧ Binds K fd ["_law_script"] []
theorem all_has {w : World} {K : PySem.W.Frag} {mg : Str → Option Value} {base : Heap} (T : Facts K mg) : ∀ (k : Nat) (g : Fn), Has PySem.Challenge.rw_fieldrest_k02_kinds.prog w K mg base k (nm g) (ar g) (run k g)
  | 0, g => by
    cases g with
    | is_whole => obtain ⟨f, fd, F, hm, hb⟩ := T.F_is_whole; exact has_zero F hm hb rfl
    | is_word => obtain ⟨f, fd, F, hm, hb⟩ := T.F_is_word; exact has_zero F hm hb rfl
    | is_pair => obtain ⟨f, fd, F, hm, hb⟩ := T.F_is_pair; exact has_zero F hm hb rfl
    | is_rest => obtain ⟨f, fd, F, hm, hb⟩ := T.F_is_rest; exact has_zero F hm hb rfl
    | is_row => obtain ⟨f, fd, F, hm, hb⟩ := T.F_is_row; exact has_zero F hm hb rfl
    | is_kind_in => obtain ⟨f, fd, F, hm, hb⟩ := T.F_is_kind_in; exact has_zero F hm hb rfl
    | knots => obtain ⟨f, fd, F, hm, hb⟩ := T.F_knots; exact has_zero F hm hb rfl
    | blanks_in => obtain ⟨f, fd, F, hm, hb⟩ := T.F_blanks_in; exact has_zero F hm hb rfl
    | put_blank => obtain ⟨f, fd, F, hm, hb⟩ := T.F_put_blank; exact has_zero F hm hb rfl
    | is_kind => obtain ⟨f, fd, F, hm, hb⟩ := T.F_is_kind; exact has_zero F hm hb rfl
    | _law_cell => obtain ⟨f, fd, F, hm, hb⟩ := T.F__law_cell; exact has_zero F hm hb rfl
    | _law_next => obtain ⟨f, fd, F, hm, hb⟩ := T.F__law_next; exact has_zero F hm hb rfl
    | _law_labels => obtain ⟨f, fd, F, hm, hb⟩ := T.F__law_labels; exact has_zero F hm hb rfl
    | _law_kind => obtain ⟨f, fd, F, hm, hb⟩ := T.F__law_kind; exact has_zero F hm hb rfl
    | _law_odd => obtain ⟨f, fd, F, hm, hb⟩ := T.F__law_odd; exact has_zero F hm hb rfl
    | _law_changed => obtain ⟨f, fd, F, hm, hb⟩ := T.F__law_changed; exact has_zero F hm hb rfl
    | _law_word => obtain ⟨f, fd, F, hm, hb⟩ := T.F__law_word; exact has_zero F hm hb rfl
    | _law_number => obtain ⟨f, fd, F, hm, hb⟩ := T.F__law_number; exact has_zero F hm hb rfl
    | _law_blank => obtain ⟨f, fd, F, hm, hb⟩ := T.F__law_blank; exact has_zero F hm hb rfl
    | _law_good => obtain ⟨f, fd, F, hm, hb⟩ := T.F__law_good; exact has_zero F hm hb rfl
    | _law_due => obtain ⟨f, fd, F, hm, hb⟩ := T.F__law_due; exact has_zero F hm hb rfl
    | _law_merged => obtain ⟨f, fd, F, hm, hb⟩ := T.F__law_merged; exact has_zero F hm hb rfl
    | _law_thing => obtain ⟨f, fd, F, hm, hb⟩ := T.F__law_thing; exact has_zero F hm hb rfl
    | law => obtain ⟨f, fd, F, hm, hb⟩ := T.F_law; exact has_zero F hm hb rfl
  | k + 1, g => by
    have hC := all_has (w := w) (base := base) T k
    cases g with
    | is_whole => obtain ⟨f, fd, F, hm, hb⟩ := T.F_is_whole; exact has_of F sc_is_whole hm hb rfl finRaw_ok (der_is_whole hC T.M f)
    | is_word => obtain ⟨f, fd, F, hm, hb⟩ := T.F_is_word; exact has_of F sc_is_word hm hb rfl finRaw_ok (der_is_word hC T.M f)
    | is_pair => obtain ⟨f, fd, F, hm, hb⟩ := T.F_is_pair; exact has_of F sc_is_pair hm hb rfl finRaw_ok (der_is_pair hC T.M f)
    | is_rest => obtain ⟨f, fd, F, hm, hb⟩ := T.F_is_rest; exact has_of F sc_is_rest hm hb rfl finRaw_ok (der_is_rest hC T.M f)
    | is_row => obtain ⟨f, fd, F, hm, hb⟩ := T.F_is_row; exact has_of F sc_is_row hm hb rfl finRaw_ok (der_is_row hC T.M f)
    | is_kind_in => obtain ⟨f, fd, F, hm, hb⟩ := T.F_is_kind_in; exact has_of F sc_is_kind_in hm hb rfl finRaw_ok (der_is_kind_in hC T.M f)
    | knots => obtain ⟨f, fd, F, hm, hb⟩ := T.F_knots; exact has_of F sc_knots hm hb rfl finRaw_ok (der_knots hC T.M f)
    | blanks_in => obtain ⟨f, fd, F, hm, hb⟩ := T.F_blanks_in; exact has_of F sc_blanks_in hm hb rfl finRaw_ok (der_blanks_in hC T.M f)
    | put_blank => obtain ⟨f, fd, F, hm, hb⟩ := T.F_put_blank; exact has_of F sc_put_blank hm hb rfl finRaw_ok (der_put_blank hC T.M f)
    | is_kind => obtain ⟨f, fd, F, hm, hb⟩ := T.F_is_kind; exact has_of F sc_is_kind hm hb rfl finFrz_ok (der_is_kind hC T.M f)
    | _law_cell => obtain ⟨f, fd, F, hm, hb⟩ := T.F__law_cell; exact has_of F sc__law_cell hm hb rfl finRaw_ok (der__law_cell hC T.M f)
    | _law_next => obtain ⟨f, fd, F, hm, hb⟩ := T.F__law_next; exact has_of F sc__law_next hm hb rfl finRaw_ok (der__law_next hC T.M f)
    | _law_labels => obtain ⟨f, fd, F, hm, hb⟩ := T.F__law_labels; exact has_of F sc__law_labels hm hb rfl finFrz_ok (der__law_labels hC T.M f)
    | _law_kind => obtain ⟨f, fd, F, hm, hb⟩ := T.F__law_kind; exact has_of F sc__law_kind hm hb rfl finRaw_ok (der__law_kind hC T.M f)
    | _law_odd => obtain ⟨f, fd, F, hm, hb⟩ := T.F__law_odd; exact has_of F sc__law_odd hm hb rfl finRaw_ok (der__law_odd hC T.M f)
    | _law_changed => obtain ⟨f, fd, F, hm, hb⟩ := T.F__law_changed; exact has_of F sc__law_changed hm hb rfl finRaw_ok (der__law_changed hC T.M f)
    | _law_word => obtain ⟨f, fd, F, hm, hb⟩ := T.F__law_word; exact has_of F sc__law_word hm hb rfl finRaw_ok (der__law_word hC T.M f)
    | _law_number => obtain ⟨f, fd, F, hm, hb⟩ := T.F__law_number; exact has_of F sc__law_number hm hb rfl finRaw_ok (der__law_number hC T.M f)
    | _law_blank => obtain ⟨f, fd, F, hm, hb⟩ := T.F__law_blank; exact has_of F sc__law_blank hm hb rfl finRaw_ok (der__law_blank hC T.M f)
    | _law_good => obtain ⟨f, fd, F, hm, hb⟩ := T.F__law_good; exact has_of F sc__law_good hm hb rfl finRaw_ok (der__law_good hC T.M f)
    | _law_due => obtain ⟨f, fd, F, hm, hb⟩ := T.F__law_due; exact has_of F sc__law_due hm hb rfl finFrz_ok (der__law_due hC T.M f)
    | _law_merged => obtain ⟨f, fd, F, hm, hb⟩ := T.F__law_merged; exact has_of F sc__law_merged hm hb rfl finRaw_ok (der__law_merged hC T.M f)
    | _law_thing => obtain ⟨f, fd, F, hm, hb⟩ := T.F__law_thing; exact has_of F sc__law_thing hm hb rfl finRaw_ok (der__law_thing hC T.M f)
    | law => obtain ⟨f, fd, F, hm, hb⟩ := T.F_law; exact has_of F sc_law hm hb rfl finRaw_ok (der_law hC T.M f)
/-- the program's top: the defs stand there as the text says -/
theorem all_mk {w : World} {K : PySem.W.Frag} {h : Heap} {mg : Str → Option Value} {fa : Addr} (X : K.In h) (G : h.Ns mainGlobals mg) (hfa : mg "law" = some (.ref fa)) {f0 f1 f2 f3 f4 f5 f6 f7 f8 f9 f10 f11 f12 f13 f14 f15 f16 f17 f18 f19 f20 f21 f22 f23 : Addr}
    {od0 an0 od1 an1 od2 an2 od3 an3 od4 an4 od5 an5 od6 an6 od7 an7 od8 an8 od9 an9 od10 an10 od11 an11 od12 an12 od13 an13 od14 an14 od15 an15 od16 an16 od17 an17 od18 an18 od19 an19 od20 an20 od21 an21 od22 an22 od23 an23 : Option Addr} {sl0 sl1 sl2 sl3 sl4 sl5 sl6 sl7 sl8 sl9 sl10 sl11 sl12 sl13 sl14 sl15 sl16 sl17 sl18 sl19 sl20 sl21 sl22 sl23 : Array (Option Value)} {oc0 kV0 dc0 pm0 cd0 ct0 oc1 kV1 dc1 pm1 cd1 ct1 oc2 kV2 dc2 pm2 cd2 ct2 oc3 kV3 dc3 pm3 cd3 ct3 oc4 kV4 dc4 pm4 cd4 ct4 oc5 kV5 dc5 pm5 cd5 ct5 oc6 kV6 dc6 pm6 cd6 ct6 oc7 kV7 dc7 pm7 cd7 ct7 oc8 kV8 dc8 pm8 cd8 ct8 oc9 kV9 dc9 pm9 cd9 ct9 oc10 kV10 dc10 pm10 cd10 ct10 oc11 kV11 dc11 pm11 cd11 ct11 oc12 kV12 dc12 pm12 cd12 ct12 oc13 kV13 dc13 pm13 cd13 ct13 oc14 kV14 dc14 pm14 cd14 ct14 oc15 kV15 dc15 pm15 cd15 ct15 oc16 kV16 dc16 pm16 cd16 ct16 oc17 kV17 dc17 pm17 cd17 ct17 oc18 kV18 dc18 pm18 cd18 ct18 oc19 kV19 dc19 pm19 cd19 ct19 oc20 kV20 dc20 pm20 cd20 ct20 oc21 kV21 dc21 pm21 cd21 ct21 oc22 kV22 dc22 pm22 cd22 ct22 oc23 kV23 dc23 pm23 cd23 ct23 : Value} {tk_MOST_KIND_DEEP tk_MOST_KNOTS tk_MOST_SIGNS tk_SMALL : Tok}
    (a0 : PySem.W.nsIn K mainGlobals "is_whole" = some (some (.ref f0))) (l0 : K.lookup f0 = some ⟨oc0, od0, .func (PySem.W.fnOf "is_whole" "is_whole" (defArgs (top 3)) (defBody (top 3)) (defScope (top 3)) .none kV0 dc0 pm0 an0 cd0 ct0), sl0⟩) (c0 : PySem.W.codeIn K cd0 "is_whole" = true) (k0 : PySem.W.keepIn K (.ref f0) = true)
    (a1 : PySem.W.nsIn K mainGlobals "is_word" = some (some (.ref f1))) (l1 : K.lookup f1 = some ⟨oc1, od1, .func (PySem.W.fnOf "is_word" "is_word" (defArgs (top 4)) (defBody (top 4)) (defScope (top 4)) .none kV1 dc1 pm1 an1 cd1 ct1), sl1⟩) (c1 : PySem.W.codeIn K cd1 "is_word" = true) (k1 : PySem.W.keepIn K (.ref f1) = true)
    (a2 : PySem.W.nsIn K mainGlobals "is_pair" = some (some (.ref f2))) (l2 : K.lookup f2 = some ⟨oc2, od2, .func (PySem.W.fnOf "is_pair" "is_pair" (defArgs (top 5)) (defBody (top 5)) (defScope (top 5)) .none kV2 dc2 pm2 an2 cd2 ct2), sl2⟩) (c2 : PySem.W.codeIn K cd2 "is_pair" = true) (k2 : PySem.W.keepIn K (.ref f2) = true)
    (a3 : PySem.W.nsIn K mainGlobals "is_rest" = some (some (.ref f3))) (l3 : K.lookup f3 = some ⟨oc3, od3, .func (PySem.W.fnOf "is_rest" "is_rest" (defArgs (top 9)) (defBody (top 9)) (defScope (top 9)) .none kV3 dc3 pm3 an3 cd3 ct3), sl3⟩) (c3 : PySem.W.codeIn K cd3 "is_rest" = true) (k3 : PySem.W.keepIn K (.ref f3) = true)
    (a4 : PySem.W.nsIn K mainGlobals "is_row" = some (some (.ref f4))) (l4 : K.lookup f4 = some ⟨oc4, od4, .func (PySem.W.fnOf "is_row" "is_row" (defArgs (top 10)) (defBody (top 10)) (defScope (top 10)) .none kV4 dc4 pm4 an4 cd4 ct4), sl4⟩) (c4 : PySem.W.codeIn K cd4 "is_row" = true) (k4 : PySem.W.keepIn K (.ref f4) = true)
    (a5 : PySem.W.nsIn K mainGlobals "is_kind_in" = some (some (.ref f5))) (l5 : K.lookup f5 = some ⟨oc5, od5, .func (PySem.W.fnOf "is_kind_in" "is_kind_in" (defArgs (top 11)) (defBody (top 11)) (defScope (top 11)) .none kV5 dc5 pm5 an5 cd5 ct5), sl5⟩) (c5 : PySem.W.codeIn K cd5 "is_kind_in" = true) (k5 : PySem.W.keepIn K (.ref f5) = true)
    (a6 : PySem.W.nsIn K mainGlobals "knots" = some (some (.ref f6))) (l6 : K.lookup f6 = some ⟨oc6, od6, .func (PySem.W.fnOf "knots" "knots" (defArgs (top 12)) (defBody (top 12)) (defScope (top 12)) .none kV6 dc6 pm6 an6 cd6 ct6), sl6⟩) (c6 : PySem.W.codeIn K cd6 "knots" = true) (k6 : PySem.W.keepIn K (.ref f6) = true)
    (a7 : PySem.W.nsIn K mainGlobals "blanks_in" = some (some (.ref f7))) (l7 : K.lookup f7 = some ⟨oc7, od7, .func (PySem.W.fnOf "blanks_in" "blanks_in" (defArgs (top 13)) (defBody (top 13)) (defScope (top 13)) .none kV7 dc7 pm7 an7 cd7 ct7), sl7⟩) (c7 : PySem.W.codeIn K cd7 "blanks_in" = true) (k7 : PySem.W.keepIn K (.ref f7) = true)
    (a8 : PySem.W.nsIn K mainGlobals "put_blank" = some (some (.ref f8))) (l8 : K.lookup f8 = some ⟨oc8, od8, .func (PySem.W.fnOf "put_blank" "put_blank" (defArgs (top 14)) (defBody (top 14)) (defScope (top 14)) .none kV8 dc8 pm8 an8 cd8 ct8), sl8⟩) (c8 : PySem.W.codeIn K cd8 "put_blank" = true) (k8 : PySem.W.keepIn K (.ref f8) = true)
    (a9 : PySem.W.nsIn K mainGlobals "is_kind" = some (some (.ref f9))) (l9 : K.lookup f9 = some ⟨oc9, od9, .func (PySem.W.fnOf "is_kind" "is_kind" (defArgs (top 15)) (defBody (top 15)) (defScope (top 15)) .none kV9 dc9 pm9 an9 cd9 ct9), sl9⟩) (c9 : PySem.W.codeIn K cd9 "is_kind" = true) (k9 : PySem.W.keepIn K (.ref f9) = true)
    (a10 : PySem.W.nsIn K mainGlobals "_law_cell" = some (some (.ref f10))) (l10 : K.lookup f10 = some ⟨oc10, od10, .func (PySem.W.fnOf "_law_cell" "_law_cell" (defArgs (top 17)) (defBody (top 17)) (defScope (top 17)) .none kV10 dc10 pm10 an10 cd10 ct10), sl10⟩) (c10 : PySem.W.codeIn K cd10 "_law_cell" = true) (k10 : PySem.W.keepIn K (.ref f10) = true)
    (a11 : PySem.W.nsIn K mainGlobals "_law_next" = some (some (.ref f11))) (l11 : K.lookup f11 = some ⟨oc11, od11, .func (PySem.W.fnOf "_law_next" "_law_next" (defArgs (top 18)) (defBody (top 18)) (defScope (top 18)) .none kV11 dc11 pm11 an11 cd11 ct11), sl11⟩) (c11 : PySem.W.codeIn K cd11 "_law_next" = true) (k11 : PySem.W.keepIn K (.ref f11) = true)
    (a12 : PySem.W.nsIn K mainGlobals "_law_labels" = some (some (.ref f12))) (l12 : K.lookup f12 = some ⟨oc12, od12, .func (PySem.W.fnOf "_law_labels" "_law_labels" (defArgs (top 19)) (defBody (top 19)) (defScope (top 19)) .none kV12 dc12 pm12 an12 cd12 ct12), sl12⟩) (c12 : PySem.W.codeIn K cd12 "_law_labels" = true) (k12 : PySem.W.keepIn K (.ref f12) = true)
    (a13 : PySem.W.nsIn K mainGlobals "_law_kind" = some (some (.ref f13))) (l13 : K.lookup f13 = some ⟨oc13, od13, .func (PySem.W.fnOf "_law_kind" "_law_kind" (defArgs (top 20)) (defBody (top 20)) (defScope (top 20)) .none kV13 dc13 pm13 an13 cd13 ct13), sl13⟩) (c13 : PySem.W.codeIn K cd13 "_law_kind" = true) (k13 : PySem.W.keepIn K (.ref f13) = true)
    (a14 : PySem.W.nsIn K mainGlobals "_law_odd" = some (some (.ref f14))) (l14 : K.lookup f14 = some ⟨oc14, od14, .func (PySem.W.fnOf "_law_odd" "_law_odd" (defArgs (top 21)) (defBody (top 21)) (defScope (top 21)) .none kV14 dc14 pm14 an14 cd14 ct14), sl14⟩) (c14 : PySem.W.codeIn K cd14 "_law_odd" = true) (k14 : PySem.W.keepIn K (.ref f14) = true)
    (a15 : PySem.W.nsIn K mainGlobals "_law_changed" = some (some (.ref f15))) (l15 : K.lookup f15 = some ⟨oc15, od15, .func (PySem.W.fnOf "_law_changed" "_law_changed" (defArgs (top 22)) (defBody (top 22)) (defScope (top 22)) .none kV15 dc15 pm15 an15 cd15 ct15), sl15⟩) (c15 : PySem.W.codeIn K cd15 "_law_changed" = true) (k15 : PySem.W.keepIn K (.ref f15) = true)
    (a16 : PySem.W.nsIn K mainGlobals "_law_word" = some (some (.ref f16))) (l16 : K.lookup f16 = some ⟨oc16, od16, .func (PySem.W.fnOf "_law_word" "_law_word" (defArgs (top 23)) (defBody (top 23)) (defScope (top 23)) .none kV16 dc16 pm16 an16 cd16 ct16), sl16⟩) (c16 : PySem.W.codeIn K cd16 "_law_word" = true) (k16 : PySem.W.keepIn K (.ref f16) = true)
    (a17 : PySem.W.nsIn K mainGlobals "_law_number" = some (some (.ref f17))) (l17 : K.lookup f17 = some ⟨oc17, od17, .func (PySem.W.fnOf "_law_number" "_law_number" (defArgs (top 24)) (defBody (top 24)) (defScope (top 24)) .none kV17 dc17 pm17 an17 cd17 ct17), sl17⟩) (c17 : PySem.W.codeIn K cd17 "_law_number" = true) (k17 : PySem.W.keepIn K (.ref f17) = true)
    (a18 : PySem.W.nsIn K mainGlobals "_law_blank" = some (some (.ref f18))) (l18 : K.lookup f18 = some ⟨oc18, od18, .func (PySem.W.fnOf "_law_blank" "_law_blank" (defArgs (top 25)) (defBody (top 25)) (defScope (top 25)) .none kV18 dc18 pm18 an18 cd18 ct18), sl18⟩) (c18 : PySem.W.codeIn K cd18 "_law_blank" = true) (k18 : PySem.W.keepIn K (.ref f18) = true)
    (a19 : PySem.W.nsIn K mainGlobals "_law_good" = some (some (.ref f19))) (l19 : K.lookup f19 = some ⟨oc19, od19, .func (PySem.W.fnOf "_law_good" "_law_good" (defArgs (top 26)) (defBody (top 26)) (defScope (top 26)) .none kV19 dc19 pm19 an19 cd19 ct19), sl19⟩) (c19 : PySem.W.codeIn K cd19 "_law_good" = true) (k19 : PySem.W.keepIn K (.ref f19) = true)
    (a20 : PySem.W.nsIn K mainGlobals "_law_due" = some (some (.ref f20))) (l20 : K.lookup f20 = some ⟨oc20, od20, .func (PySem.W.fnOf "_law_due" "_law_due" (defArgs (top 27)) (defBody (top 27)) (defScope (top 27)) .none kV20 dc20 pm20 an20 cd20 ct20), sl20⟩) (c20 : PySem.W.codeIn K cd20 "_law_due" = true) (k20 : PySem.W.keepIn K (.ref f20) = true)
    (a21 : PySem.W.nsIn K mainGlobals "_law_merged" = some (some (.ref f21))) (l21 : K.lookup f21 = some ⟨oc21, od21, .func (PySem.W.fnOf "_law_merged" "_law_merged" (defArgs (top 28)) (defBody (top 28)) (defScope (top 28)) .none kV21 dc21 pm21 an21 cd21 ct21), sl21⟩) (c21 : PySem.W.codeIn K cd21 "_law_merged" = true) (k21 : PySem.W.keepIn K (.ref f21) = true)
    (a22 : PySem.W.nsIn K mainGlobals "_law_thing" = some (some (.ref f22))) (l22 : K.lookup f22 = some ⟨oc22, od22, .func (PySem.W.fnOf "_law_thing" "_law_thing" (defArgs (top 29)) (defBody (top 29)) (defScope (top 29)) .none kV22 dc22 pm22 an22 cd22 ct22), sl22⟩) (c22 : PySem.W.codeIn K cd22 "_law_thing" = true) (k22 : PySem.W.keepIn K (.ref f22) = true)
    (a23 : PySem.W.nsIn K mainGlobals "law" = some (some (.ref f23))) (l23 : K.lookup f23 = some ⟨oc23, od23, .func (PySem.W.fnOf "law" "law" (defArgs (top 30)) (defBody (top 30)) (defScope (top 30)) .none kV23 dc23 pm23 an23 cd23 ct23), sl23⟩) (c23 : PySem.W.codeIn K cd23 "law" = true) (k23 : PySem.W.keepIn K (.ref f23) = true)
    (z_all : PySem.W.nsIn K mainGlobals "all" = some none)
    (z_bool : PySem.W.nsIn K mainGlobals "bool" = some none)
    (z_int : PySem.W.nsIn K mainGlobals "int" = some none)
    (z_isinstance : PySem.W.nsIn K mainGlobals "isinstance" = some none)
    (z_len : PySem.W.nsIn K mainGlobals "len" = some none)
    (z_range : PySem.W.nsIn K mainGlobals "range" = some none)
    (z_set : PySem.W.nsIn K mainGlobals "set" = some none)
    (z_sorted : PySem.W.nsIn K mainGlobals "sorted" = some none)
    (z_str : PySem.W.nsIn K mainGlobals "str" = some none)
    (z_sum : PySem.W.nsIn K mainGlobals "sum" = some none)
    (z_tuple : PySem.W.nsIn K mainGlobals "tuple" = some none)
    (y_MOST_KIND_DEEP : PySem.W.nsIn K mainGlobals "MOST_KIND_DEEP" = some (some (.int 12 tk_MOST_KIND_DEEP)))
    (y_MOST_KNOTS : PySem.W.nsIn K mainGlobals "MOST_KNOTS" = some (some (.int 200 tk_MOST_KNOTS)))
    (y_MOST_SIGNS : PySem.W.nsIn K mainGlobals "MOST_SIGNS" = some (some (.int 8 tk_MOST_SIGNS)))
    (y_SMALL : PySem.W.nsIn K mainGlobals "SMALL" = some (some (.str "abcdefghijklmnopqrstuvwxyz" tk_SMALL)))
    (main : ∀ ns : List Int, ns.length ≤ 63 → ∃ S', run 60 .law [.scr (ns.map D.int)] [] = .ok (.bl true) S') :
    ∃ fd : FuncData, (∀ (s : Shared) (v : Value), BindsTo s fd ⟨[v], []⟩ [("_law_script", v)]) ∧ ∀ base : Heap, K.In base → base.Ns mainGlobals mg → FnOk PySem.Challenge.rw_fieldrest_k02_kinds.prog w K mg base (L2.CX PySem.Challenge.rw_fieldrest_k02_kinds.prog w) 60 fa fd ["_law_script"] (spLaw K) := by
  have T : Facts K mg := by
    refine ⟨⟨PySem.W.mg_none_of X G z_all, PySem.W.mg_none_of X G z_bool, PySem.W.mg_none_of X G z_int, PySem.W.mg_none_of X G z_isinstance, PySem.W.mg_none_of X G z_len, PySem.W.mg_none_of X G z_range, PySem.W.mg_none_of X G z_set, PySem.W.mg_none_of X G z_sorted, PySem.W.mg_none_of X G z_str, PySem.W.mg_none_of X G z_sum, PySem.W.mg_none_of X G z_tuple, ⟨tk_MOST_KIND_DEEP, PySem.W.mg_of X G y_MOST_KIND_DEEP⟩, ⟨tk_MOST_KNOTS, PySem.W.mg_of X G y_MOST_KNOTS⟩, ⟨tk_MOST_SIGNS, PySem.W.mg_of X G y_MOST_SIGNS⟩, ⟨tk_SMALL, PySem.W.mg_of X G y_SMALL⟩⟩, ?_, ?_, ?_, ?_, ?_, ?_, ?_, ?_, ?_, ?_, ?_, ?_, ?_, ?_, ?_, ?_, ?_, ?_, ?_, ?_, ?_, ?_, ?_, ?_⟩
    · exact ⟨f0, _, fun_mk (st := top 3) l0 c0 k0, PySem.W.mg_of X G a0, (fun_mk (st := top 3) l0 c0 k0).binds (ps := ["thing"]) fun _ _ _ _ _ _ us hl => match us, hl with | [_], _ => rfl⟩
    · exact ⟨f1, _, fun_mk (st := top 4) l1 c1 k1, PySem.W.mg_of X G a1, (fun_mk (st := top 4) l1 c1 k1).binds (ps := ["thing"]) fun _ _ _ _ _ _ us hl => match us, hl with | [_], _ => rfl⟩
    · exact ⟨f2, _, fun_mk (st := top 5) l2 c2 k2, PySem.W.mg_of X G a2, (fun_mk (st := top 5) l2 c2 k2).binds (ps := ["thing"]) fun _ _ _ _ _ _ us hl => match us, hl with | [_], _ => rfl⟩
    · exact ⟨f3, _, fun_mk (st := top 9) l3 c3 k3, PySem.W.mg_of X G a3, (fun_mk (st := top 9) l3 c3 k3).binds (ps := ["thing"]) fun _ _ _ _ _ _ us hl => match us, hl with | [_], _ => rfl⟩
    · exact ⟨f4, _, fun_mk (st := top 10) l4 c4 k4, PySem.W.mg_of X G a4, (fun_mk (st := top 10) l4 c4 k4).binds (ps := ["fields", "deep"]) fun _ _ _ _ _ _ us hl => match us, hl with | [_, _], _ => rfl⟩
    · exact ⟨f5, _, fun_mk (st := top 11) l5 c5 k5, PySem.W.mg_of X G a5, (fun_mk (st := top 11) l5 c5 k5).binds (ps := ["thing", "deep"]) fun _ _ _ _ _ _ us hl => match us, hl with | [_, _], _ => rfl⟩
    · exact ⟨f6, _, fun_mk (st := top 12) l6 c6 k6, PySem.W.mg_of X G a6, (fun_mk (st := top 12) l6 c6 k6).binds (ps := ["kind"]) fun _ _ _ _ _ _ us hl => match us, hl with | [_], _ => rfl⟩
    · exact ⟨f7, _, fun_mk (st := top 13) l7 c7 k7, PySem.W.mg_of X G a7, (fun_mk (st := top 13) l7 c7 k7).binds (ps := ["kind", "found"]) fun _ _ _ _ _ _ us hl => match us, hl with | [_, _], _ => rfl⟩
    · exact ⟨f8, _, fun_mk (st := top 14) l8 c8 k8, PySem.W.mg_of X G a8, (fun_mk (st := top 14) l8 c8 k8).binds (ps := ["found", "number", "labels"]) fun _ _ _ _ _ _ us hl => match us, hl with | [_, _, _], _ => rfl⟩
    · exact ⟨f9, _, fun_mk (st := top 15) l9 c9 k9, PySem.W.mg_of X G a9, (fun_mk (st := top 15) l9 c9 k9).binds (ps := ["thing"]) fun _ _ _ _ _ _ us hl => match us, hl with | [_], _ => rfl⟩
    · exact ⟨f10, _, fun_mk (st := top 17) l10 c10 k10, PySem.W.mg_of X G a10, (fun_mk (st := top 17) l10 c10 k10).binds (ps := ["_law_script", "_law_k"]) fun _ _ _ _ _ _ us hl => match us, hl with | [_, _], _ => rfl⟩
    · exact ⟨f11, _, fun_mk (st := top 18) l11 c11 k11, PySem.W.mg_of X G a11, (fun_mk (st := top 18) l11 c11 k11).binds (ps := ["_law_state"]) fun _ _ _ _ _ _ us hl => match us, hl with | [_], _ => rfl⟩
    · exact ⟨f12, _, fun_mk (st := top 19) l12 c12 k12, PySem.W.mg_of X G a12, (fun_mk (st := top 19) l12 c12 k12).binds (ps := ["_law_cell_here", "_law_many"]) fun _ _ _ _ _ _ us hl => match us, hl with | [_, _], _ => rfl⟩
    · exact ⟨f13, _, fun_mk (st := top 20) l13 c13 k13, PySem.W.mg_of X G a13, (fun_mk (st := top 20) l13 c13 k13).binds (ps := ["_law_state", "_law_labels_here", "_law_met", "_law_left"]) fun _ _ _ _ _ _ us hl => match us, hl with | [_, _, _, _], _ => rfl⟩
    · exact ⟨f14, _, fun_mk (st := top 21) l14 c14 k14, PySem.W.mg_of X G a14, (fun_mk (st := top 21) l14 c14 k14).binds (ps := ["_law_number_here", "_law_inner"]) fun _ _ _ _ _ _ us hl => match us, hl with | [_, _], _ => rfl⟩
    · exact ⟨f15, _, fun_mk (st := top 22) l15 c15 k15, PySem.W.mg_of X G a15, (fun_mk (st := top 22) l15 c15 k15).binds (ps := ["_law_kind_here", "_law_path", "_law_odd_here"]) fun _ _ _ _ _ _ us hl => match us, hl with | [_, _, _], _ => rfl⟩
    · exact ⟨f16, _, fun_mk (st := top 23) l16 c16 k16, PySem.W.mg_of X G a16, (fun_mk (st := top 23) l16 c16 k16).binds (ps := ["_law_thing_here"]) fun _ _ _ _ _ _ us hl => match us, hl with | [_], _ => rfl⟩
    · exact ⟨f17, _, fun_mk (st := top 24) l17 c17 k17, PySem.W.mg_of X G a17, (fun_mk (st := top 24) l17 c17 k17).binds (ps := ["_law_thing_here"]) fun _ _ _ _ _ _ us hl => match us, hl with | [_], _ => rfl⟩
    · exact ⟨f18, _, fun_mk (st := top 25) l18 c18 k18, PySem.W.mg_of X G a18, (fun_mk (st := top 25) l18 c18 k18).binds (ps := ["_law_seen", "_law_number_here", "_law_labels_here"]) fun _ _ _ _ _ _ us hl => match us, hl with | [_, _, _], _ => rfl⟩
    · exact ⟨f19, _, fun_mk (st := top 26) l19 c19 k19, PySem.W.mg_of X G a19, (fun_mk (st := top 26) l19 c19 k19).binds (ps := ["_law_thing_here", "_law_left", "_law_seen"]) fun _ _ _ _ _ _ us hl => match us, hl with | [_, _, _], _ => rfl⟩
    · exact ⟨f20, _, fun_mk (st := top 27) l20 c20 k20, PySem.W.mg_of X G a20, (fun_mk (st := top 27) l20 c20 k20).binds (ps := ["_law_thing_here"]) fun _ _ _ _ _ _ us hl => match us, hl with | [_], _ => rfl⟩
    · exact ⟨f21, _, fun_mk (st := top 28) l21 c21 k21, PySem.W.mg_of X G a21, (fun_mk (st := top 28) l21 c21 k21).binds (ps := ["_law_kind_here", "_law_many"]) fun _ _ _ _ _ _ us hl => match us, hl with | [_, _], _ => rfl⟩
    · exact ⟨f22, _, fun_mk (st := top 29) l22 c22 k22, PySem.W.mg_of X G a22, (fun_mk (st := top 29) l22 c22 k22).binds (ps := ["_law_kind_here", "_law_labels_here", "_law_way", "_law_number_here"]) fun _ _ _ _ _ _ us hl => match us, hl with | [_, _, _, _], _ => rfl⟩
    · exact ⟨f23, _, fun_mk (st := top 30) l23 c23 k23, PySem.W.mg_of X G a23, (fun_mk (st := top 30) l23 c23 k23).binds (ps := ["_law_script"]) fun _ _ _ _ _ _ us hl => match us, hl with | [_], _ => rfl⟩
  have e := hfa.symm.trans (PySem.W.mg_of X G a23)
  cases e
  refine ⟨PySem.W.fnOf "law" "law" (defArgs (top 30)) (defBody (top 30)) (defScope (top 30)) .none kV23 dc23 pm23 an23 cd23 ct23, fun s v => .of_eq rfl, fun base _ _ => ?_⟩
  have Fl := fun_mk (st := top 30) l23 c23 k23
  have hC := all_has (w := w) (base := base) T 59
  have Fk := has_fn Fl sc_law rfl finRaw_ok (der_law hC T.M fa)
  exact law_fn Fk main
end K_k02

open PySem PySem.W PyProof.Rows
set_option maxRecDepth 100000 in
set_option maxHeartbeats 0 in
theorem PySem.Challenge.cw_fieldrest_k02_kinds_holds : PySem.Challenge.rw_fieldrest_k02_kinds.Holds := by
  w_on; o_law; k_head; (case hw => w_witness2)
  k_fill
  refine PM.walk (l := PySem.Challenge.rw_fieldrest_k02_kinds) (N := 60) (x := "_law_script") rfl rfl ⟨rfl, by decide, by decide⟩ (fun w h Y => PySem.W.kIn_of Y) ?F
  case F =>
    intro w mg fa h KX G hmg
    refine' K_k02.all_mk KX G hmg ?a0 ?l0 ?c0 ?k0 ?a1 ?l1 ?c1 ?k1 ?a2 ?l2 ?c2 ?k2 ?a3 ?l3 ?c3 ?k3 ?a4 ?l4 ?c4 ?k4 ?a5 ?l5 ?c5 ?k5 ?a6 ?l6 ?c6 ?k6 ?a7 ?l7 ?c7 ?k7 ?a8 ?l8 ?c8 ?k8 ?a9 ?l9 ?c9 ?k9 ?a10 ?l10 ?c10 ?k10 ?a11 ?l11 ?c11 ?k11 ?a12 ?l12 ?c12 ?k12 ?a13 ?l13 ?c13 ?k13 ?a14 ?l14 ?c14 ?k14 ?a15 ?l15 ?c15 ?k15 ?a16 ?l16 ?c16 ?k16 ?a17 ?l17 ?c17 ?k17 ?a18 ?l18 ?c18 ?k18 ?a19 ?l19 ?c19 ?k19 ?a20 ?l20 ?c20 ?k20 ?a21 ?l21 ?c21 ?k21 ?a22 ?l22 ?c22 ?k22 ?a23 ?l23 ?c23 ?k23 ?z_all ?z_bool ?z_int ?z_isinstance ?z_len ?z_range ?z_set ?z_sorted ?z_str ?z_sum ?z_tuple ?y_MOST_KIND_DEEP ?y_MOST_KNOTS ?y_MOST_SIGNS ?y_SMALL K_k02.main_ok
    (case a0 => k_is); (case l0 => k_is); (case c0 => k_is); (case k0 => k_is)
    (case a1 => k_is); (case l1 => k_is); (case c1 => k_is); (case k1 => k_is)
    (case a2 => k_is); (case l2 => k_is); (case c2 => k_is); (case k2 => k_is)
    (case a3 => k_is); (case l3 => k_is); (case c3 => k_is); (case k3 => k_is)
    (case a4 => k_is); (case l4 => k_is); (case c4 => k_is); (case k4 => k_is)
    (case a5 => k_is); (case l5 => k_is); (case c5 => k_is); (case k5 => k_is)
    (case a6 => k_is); (case l6 => k_is); (case c6 => k_is); (case k6 => k_is)
    (case a7 => k_is); (case l7 => k_is); (case c7 => k_is); (case k7 => k_is)
    (case a8 => k_is); (case l8 => k_is); (case c8 => k_is); (case k8 => k_is)
    (case a9 => k_is); (case l9 => k_is); (case c9 => k_is); (case k9 => k_is)
    (case a10 => k_is); (case l10 => k_is); (case c10 => k_is); (case k10 => k_is)
    (case a11 => k_is); (case l11 => k_is); (case c11 => k_is); (case k11 => k_is)
    (case a12 => k_is); (case l12 => k_is); (case c12 => k_is); (case k12 => k_is)
    (case a13 => k_is); (case l13 => k_is); (case c13 => k_is); (case k13 => k_is)
    (case a14 => k_is); (case l14 => k_is); (case c14 => k_is); (case k14 => k_is)
    (case a15 => k_is); (case l15 => k_is); (case c15 => k_is); (case k15 => k_is)
    (case a16 => k_is); (case l16 => k_is); (case c16 => k_is); (case k16 => k_is)
    (case a17 => k_is); (case l17 => k_is); (case c17 => k_is); (case k17 => k_is)
    (case a18 => k_is); (case l18 => k_is); (case c18 => k_is); (case k18 => k_is)
    (case a19 => k_is); (case l19 => k_is); (case c19 => k_is); (case k19 => k_is)
    (case a20 => k_is); (case l20 => k_is); (case c20 => k_is); (case k20 => k_is)
    (case a21 => k_is); (case l21 => k_is); (case c21 => k_is); (case k21 => k_is)
    (case a22 => k_is); (case l22 => k_is); (case c22 => k_is); (case k22 => k_is)
    (case a23 => k_is); (case l23 => k_is); (case c23 => k_is); (case k23 => k_is)
    (case z_all => k_is)
    (case z_bool => k_is)
    (case z_int => k_is)
    (case z_isinstance => k_is)
    (case z_len => k_is)
    (case z_range => k_is)
    (case z_set => k_is)
    (case z_sorted => k_is)
    (case z_str => k_is)
    (case z_sum => k_is)
    (case z_tuple => k_is)
    (case y_MOST_KIND_DEEP => k_is)
    (case y_MOST_KNOTS => k_is)
    (case y_MOST_SIGNS => k_is)
    (case y_SMALL => k_is)

