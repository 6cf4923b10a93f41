import PyProof.Rows.All
import Wide.All
import OpenK.AllK
import Wide.FinOn
import HandS.ForMost
import HandS.ForExc
import HandS.IsInst
import HandS.TupAny
import HandS.CallSlots
import HandS.Deep
import HandS.TupLen
import HandS.SetKeys
import HandS.SortKw
import HandS.Rev
import HandS.RevRange
import KE.KDictPairs
import PyProof.Rows.SortShellAny
import HandS.Style
import HandS.Strs
import HandS.Conv
import HandS.HotCalls
import HandS.ExcIs
import HandS.Finally
import KE.DataMinMax
import PySem.Challenge.RW_fieldrest_k03_blanks_filled
set_option Elab.async false
set_option linter.all false
set_option maxRecDepth 100000
set_option maxHeartbeats 4000000
/-! PM: functions over plain data that mirror Python code. Part 1: data, stores, results, combinators. -/
namespace PM
open PySem L2

/-- plain data: atoms, tuples, lists and dicts that nobody changes any more, and the numbers of objects that may change -/
inductive D where
  | non | bl (b : Bool) | int (i : Int) | str (s : Str)
  | tup (ds : List D) | lst (ds : List D) | scr (ds : List D) | dct (ks : List Key) (ds : List D) | ref (n : Nat) | exn (a : Addr)
  deriving Inhabited

/-- an object that may change -/
inductive MO where
  | lst (ds : List D) | dK (ks : List Key) (ds : List D) | dKL (ks : List Key) (ds : List D) | dT (ks : List (List Key)) (ds : List D) | ins (c : Str) (fs : List Str) (ds : List D)
  deriving Inhabited
abbrev Sto := List MO
structure Exc where
  cls : Str
  fs : List Str
  ds : List D
abbrev Loc := List (Option D)

inductive R (α : Type) where
  | ok (a : α) (S : Sto) | exc (c : Exc) (S : Sto) | stuck
def R.bind {α β : Type} (r : R α) (k : α → Sto → R β) : R β := match r with
  | .ok a S => k a S
  | .exc c S => .exc c S
  | .stuck => .stuck
@[simp] theorem R.bind_ok {α β : Type} {a : α} {S : Sto} {k : α → Sto → R β} : (R.ok a S).bind k = k a S := (rfl)
@[simp] theorem R.bind_exc {α β : Type} {c : Exc} {S : Sto} {k : α → Sto → R β} : (R.exc c S : R α).bind k = .exc c S := (rfl)
@[simp] theorem R.bind_stuck {α β : Type} {k : α → Sto → R β} : (R.stuck : R α).bind k = .stuck := (rfl)

abbrev Em := Loc → Sto → R D
abbrev Tm := Loc → Sto → R Bool
abbrev Am := Loc → Sto → R (List D)

/-- how a statement ends -/
inductive RS where
  | nx (δ : Loc) (S : Sto) | rt (d : D) (S : Sto) | bk (δ : Loc) (S : Sto) | ct (δ : Loc) (S : Sto) | exc (c : Exc) (δ : Loc) (S : Sto) | stuck
abbrev Sm := Loc → Sto → RS
def RS.seq (r : RS) (k : Sm) : RS := match r with
  | .nx δ S => k δ S
  | r => r
@[simp] theorem RS.seq_nx {δ S k} : (RS.nx δ S).seq k = k δ S := (rfl)
@[simp] theorem RS.seq_rt {d S k} : (RS.rt d S).seq k = .rt d S := (rfl)
@[simp] theorem RS.seq_bk {δ S k} : (RS.bk δ S).seq k = .bk δ S := (rfl)
@[simp] theorem RS.seq_ct {δ S k} : (RS.ct δ S).seq k = .ct δ S := (rfl)
@[simp] theorem RS.seq_exc {c δ S k} : (RS.exc c δ S).seq k = .exc c δ S := (rfl)
@[simp] theorem RS.seq_stuck {k} : RS.stuck.seq k = .stuck := (rfl)
/-- an expression's result goes on as a statement -/
def R.into {α : Type} (r : R α) (δ : Loc) (k : α → Sto → RS) : RS := match r with
  | .ok a S => k a S
  | .exc c S => .exc c δ S
  | .stuck => .stuck
@[simp] theorem R.into_ok {α : Type} {a : α} {S δ} {k : α → Sto → RS} : (R.ok a S).into δ k = k a S := (rfl)
@[simp] theorem R.into_exc {α : Type} {c S δ} {k : α → Sto → RS} : (R.exc c S : R α).into δ k = .exc c δ S := (rfl)
@[simp] theorem R.into_stuck {α : Type} {δ} {k : α → Sto → RS} : (R.stuck : R α).into δ k = .stuck := (rfl)

/-- an exception is not looked for here -/
def R.quiet {α : Type} (r : R α) : R α := match r with
  | .exc _ _ => .stuck
  | r => r
@[simp] theorem R.quiet_ok {α : Type} {a : α} {S : Sto} : (R.ok a S).quiet = .ok a S := (rfl)
@[simp] theorem R.quiet_exc {α : Type} {c : Exc} {S : Sto} : (R.exc c S : R α).quiet = .stuck := (rfl)
@[simp] theorem R.quiet_stuck {α : Type} : (R.stuck : R α).quiet = .stuck := (rfl)
/-! ### expressions -/
def mV (i : Nat) : Em := fun δ S => match δ[i]? with
  | some (some d) => .ok d S
  | _ => .stuck
def mC (d : D) : Em := fun _ S => .ok d S
def mB (op : D → D → Sto → R D) (a b : Em) : Em := fun δ S => (a δ S).bind fun x S1 => (b δ S1).bind fun y S2 => op x y S2
def mU (op : D → Sto → R D) (a : Em) : Em := fun δ S => (a δ S).bind fun x S1 => op x S1
def mNil : Am := fun _ S => .ok [] S
def mCons (a : Em) (r : Am) : Am := fun δ S => (a δ S).bind fun x S1 => (r δ S1).bind fun xs S2 => .ok (x :: xs) S2
def mApp (f : List D → Sto → R D) (a : Am) : Em := fun δ S => (a δ S).bind fun xs S1 => f xs S1
def mIfE (c : Tm) (a b : Em) : Em := fun δ S => (c δ S).bind fun k S1 => if k = true then a δ S1 else b δ S1
/-- and, or of truths -/
def mAndV (a b : Em) : Em := fun δ S => (a δ S).bind fun x S1 => match x with
  | .bl true => b δ S1
  | .bl false => .ok (.bl false) S1
  | _ => .stuck
def mOrV (a b : Em) : Em := fun δ S => (a δ S).bind fun x S1 => match x with
  | .bl true => .ok (.bl true) S1
  | .bl false => b δ S1
  | _ => .stuck
def mNotV (a : Em) : Em := fun δ S => (a δ S).bind fun x S1 => match x with
  | .bl k => .ok (.bl (!k)) S1
  | _ => .stuck
def mChain (f g : D → D → Sto → R D) (a b c : Em) : Em := fun δ S => (a δ S).bind fun x S1 => (b δ S1).bind fun y S2 => (f x y S2).bind fun k S3 => match k with
  | .bl true => (c δ S3).bind fun z S4 => g y z S4
  | .bl false => .ok (.bl false) S3
  | _ => .stuck
/-! ### tests -/
def mT (a : Em) : Tm := fun δ S => (a δ S).bind fun x S1 => match x with
  | .bl k => .ok k S1
  | _ => .stuck
def mAnd (a b : Tm) : Tm := fun δ S => (a δ S).bind fun k S1 => if k = true then b δ S1 else .ok false S1
def mOr (a b : Tm) : Tm := fun δ S => (a δ S).bind fun k S1 => if k = true then .ok true S1 else b δ S1
def mNot (a : Tm) : Tm := fun δ S => (a δ S).bind fun k S1 => .ok (!k) S1
def mYes : Tm := fun _ S => .ok true S
/-! ### statements -/
def sSeq (a b : Sm) : Sm := fun δ S => (a δ S).seq b
def sPass : Sm := fun δ S => .nx δ S
def sExpr (e : Em) : Sm := fun δ S => (e δ S).into δ fun _ S1 => .nx δ S1
def sRet (e : Em) : Sm := fun δ S => (e δ S).into δ fun d S1 => .rt d S1
def sRetN : Sm := fun _ S => .rt .non S
def sIf (c : Tm) (a b : Sm) : Sm := fun δ S => (c δ S).into δ fun k S1 => if k = true then a δ S1 else b δ S1
def sBk : Sm := fun δ S => .bk δ S
def sCt : Sm := fun δ S => .ct δ S
/-! ### targets -/
abbrev Gm := D → Loc → Sto → R Loc
def gmName (i : Nat) : Gm := fun d δ S => .ok (δ.set i (some d)) S
def gmNames : List Nat → List D → Loc → Sto → R Loc
  | [], [], δ, S => .ok δ S
  | i :: is, d :: ds, δ, S => gmNames is ds (δ.set i (some d)) S
  | _, _, _, _ => .stuck
def gmTup (is : List Nat) : Gm := fun d δ S => match d with
  | .tup ds => gmNames is ds δ S
  | _ => .stuck
def sAsg (e : Em) (g : Gm) : Sm := fun δ S => (e δ S).into δ fun d S1 => (g d δ S1).into δ fun δ' S2 => .nx δ' S2
def gmSub (o i : Em) (f : D → D → D → Sto → R Unit) : Gm := fun d δ S => (o δ S).bind fun x S1 => (i δ S1).bind fun y S2 => (f x y d S2).bind fun _ S3 => .ok δ S3
/-! ### loops -/
/-- what is walked: the items, and what must stand at each turn -/
abbrev Src := Loc → Sto → R (List D × (Sto → Prop))
open Classical in
noncomputable def loopM (grd : Sto → Prop) (b : D → Sm) : List D → Sm
  | [], δ, S => if grd S then .nx δ S else .stuck
  | x :: xs, δ, S => if grd S then (match b x δ S with
    | .nx δ' S' => loopM grd b xs δ' S'
    | .ct δ' S' => loopM grd b xs δ' S'
    | .bk δ' S' => .nx δ' S'
    | r => r) else .stuck
/-- a list that nobody changes, a tuple, a list that the loop leaves -/
def sItems (e : Em) : Src := fun δ S => (e δ S).bind fun d S1 => match d with
  | .lst ds => .ok (ds, fun _ => True) S1
  | .scr ds => .ok (ds, fun _ => True) S1
  | .tup ds => .ok (ds, fun _ => True) S1
  | .str s => .ok (s.cps.toList.map (fun c => .str ⟨#[c]⟩), fun _ => True) S1
  | .ref n => match S1[n]? with
    | some (.lst ds) => .ok (ds, fun S => S[n]? = some (.lst ds)) S1
    | _ => .stuck
  | _ => .stuck
def rangeD (lo : Int) (n : Nat) : List D := (List.range n).map fun i => .int (lo + (i : Nat))
def lim62 (i : Int) : Bool := decide (-(2 ^ 62) ≤ i ∧ i < 2 ^ 62)
def limR (i j : Int) : Bool := lim62 i && lim62 j && decide (j - i ≤ (sizeLine : Nat))
def sRange1 (e : Em) : Src := fun δ S => (e δ S).bind fun d S1 => match d with
  | .int j => if limR 0 j = true then .ok (rangeD 0 j.toNat, fun _ => True) S1 else .stuck
  | _ => .stuck
def sRange2 (a e : Em) : Src := fun δ S => (a δ S).bind fun x S1 => (e δ S1).bind fun y S2 => match x, y with
  | .int i, .int j => if limR i j = true then .ok (rangeD i (j - i).toNat, fun _ => True) S2 else .stuck
  | _, _ => .stuck
/-- range(len(e)) -/
def lenOf (d : D) (S : Sto) : Option Nat := match d with
  | .lst ds => some ds.length
  | .scr ds => some ds.length
  | .tup ds => some ds.length
  | .str s => some s.length
  | .dct ks _ => some ks.length
  | .ref n => match S[n]? with
    | some (.lst ds) => some ds.length
    | some (.dK ks _) => some ks.length
    | some (.dKL ks _) => some ks.length
    | some (.dT ks _) => some ks.length
    | _ => none
  | _ => none
def sRangeLen (e : Em) : Src := fun δ S => (e δ S).bind fun d S1 => match lenOf d S1 with
  | some n => .ok (rangeD 0 n, fun _ => True) S1
  | none => .stuck
noncomputable def sFor (src : Src) (g : Gm) (b : Sm) : Sm := fun δ S => (src δ S).into δ fun p S1 => loopM p.2 (fun x δ S => (g x δ S).into δ b) p.1 δ S1
/-- a comprehension's loop: slots vs forgotten at each turn -/
def wipeD (δ : Loc) : List Nat → Loc
  | [] => δ
  | v :: vs => (wipeD δ vs).set v none
open Classical in
noncomputable def compM (grd : Sto → Prop) (g : Gm) (t : Tm) (e : Em) (δ : Loc) : List D → List D → Sto → R D
  | acc, [], S => if grd S then .ok (.lst acc) S else .stuck
  | acc, x :: xs, S => if grd S then (g x δ S).quiet.bind fun δ' S1 => (t δ' S1).quiet.bind fun k S2 =>
      if k = true then (e δ' S2).quiet.bind fun y S3 => compM grd g t e δ (acc ++ [y]) xs S3 else compM grd g t e δ acc xs S2 else .stuck
noncomputable def mComp (src : Src) (g : Gm) (t : Tm) (e : Em) (vs : List Nat) : Em := fun δ S => (src δ S).bind fun p S1 => compM p.2 g t e (wipeD δ vs) [] p.1 S1
end PM

/-! PM, part 1b: tuples made with all that is known of their objects -/
namespace PM
open PySem PySem.Spec L2 PyProof.Rows
/-- a tuple of whose object all is known, and that has no dict -/
def Tp (H : Hp) (a : Addr) (vs : List V) : Prop := ∃ o, H a = some (.frz o (.tup vs)) ∧ o.dict = none
theorem Tp.sq {K : PySem.W.Frag} {H : Hp} {a : Addr} {vs : List V} (h : Tp H a vs) : SqT K H a vs := let ⟨o, h, _⟩ := h; .inl (.inr ⟨o, h⟩)
theorem Tp.keep {H : Hp} {a p : Addr} {u : HO} {vs : List V} (h : Tp H a vs) (hp : a ≠ p) : Tp (upd H p u) a vs := let ⟨o, h, d⟩ := h; ⟨o, by rw [upd_ne hp]; exact h, d⟩
theorem Tp.up {H : Hp} {a p : Addr} {u : HO} {vs : List V} (h : Tp H a vs) (hp : H p = none) : Tp (upd H p u) a vs := h.keep (let ⟨_, h, _⟩ := h; ne_of_none h hp)
theorem Tp.mk {H : Hp} {p : Addr} {o : Obj} {vs : List V} (d : o.dict = none) : Tp (upd H p (.frz o (.tup vs))) p vs := ⟨o, upd_same, d⟩
/-- what a new one gives -/
def NewT (H : Hp) (vs : List V) (Q : VK) : Prop := ∀ p o, o.dict = none → H p = none → Q (.ref p) (upd H p (.frz o (.tup vs)))
def tTupF (t : TA) : TE := fun σ H Q => t σ H fun vs H1 => vs.length ≤ sizeLine ∧ NewT H1 vs Q
section
variable {X : Cx} {es : List Expr} {t : TA} {pos : Pos}
theorem pe_tupF {x1} (h : PA X es t) : PE X (.Tuple es x1 pos) (tTupF t) := .mk fun pins s σ H Q I hq =>
  wpAny_Tuple_spliced (thn (h.run pos pins s σ H _ I hq) fun us s1 ⟨vs, H1, I1, r, z, q⟩ => ⟨by rw [← r.length]; exact z,
    .ref s1.heap.objs.size, _, I1.laid (t' := s1.toks) (o := .frz { cls := .type "tuple", data := .seq us.toArray } (.tup vs)) (fun b u e => Heap.get?_push_of_some _ e) (Nat.le_refl _)
      ⟨Heap.get?_push_size _ rfl, z, us, r, ⟨_, Heap.get?_push_size _ rfl, rfl, _, rfl⟩⟩, rfl, q _ _ rfl (I1.hok.fresh (Nat.le_refl _))⟩)
def rCatF (K : PySem.W.Frag) : R2 := fun x y H Q => ∃ a b vs ws, x = .ref a ∧ y = .ref b ∧ SqT K H a vs ∧ SqT K H b ws ∧ vs.length + ws.length ≤ sizeLine ∧
  (vs = [] → Q (.ref b) H) ∧ (vs ≠ [] → ws = [] → Q (.ref a) H) ∧ (vs ≠ [] → ws ≠ [] → NewT H (vs ++ ws) Q)
theorem op_catF : OpR X (binaryOp .Add) (rCatF X.K) := by
  intro pins s σ H x y v u Q I rx ry ⟨a, b, vs, ws, e1, e2, ha, hb, hz, q0, q1, q2⟩
  subst e1 e2
  cases rx
  cases ry
  obtain ⟨is, r1, p1, _⟩ := I.tuple ha
  obtain ⟨js, r2, p2, _⟩ := I.tuple hb
  by_cases hx : vs = []
  · subst hx
    cases r1
    exact cat_tup0 p1 p2 ⟨.ref b, H, I, rfl, q0 rfl⟩
  · refine HT.cat_tup p1 p2 (fun z => hx (r1.nil_iff.mp z)) (fun z => ⟨.ref a, H, I, rfl, q1 hx (r2.nil_iff.mp z)⟩) (fun z => ?_) (by rw [← r1.length, ← r2.length]; exact hz)
    exact ⟨.ref s.heap.objs.size, _, I.laid (t' := s.toks) (o := .frz { cls := .type "tuple", data := .seq (is ++ js).toArray } (.tup (vs ++ ws))) (fun b ob q => Heap.get?_push_of_some _ q) (Nat.le_refl _)
      ⟨Heap.get?_push_size _ rfl, by rw [List.length_append]; exact hz, _, r1.append r2, IsTup.new _ _⟩, rfl, q2 hx (fun w => z (r2.nil_iff.mpr w)) _ _ rfl (I.hok.fresh (Nat.le_refl _))⟩
def rSlF (K : PySem.W.Frag) : V → Option Int → Option Int → Hp → VK → Prop := fun x lo hi H Q => ∃ a vs, x = .ref a ∧ SqT K H a vs ∧
  (HT.sIx vs.length 0 lo = 0 ∧ HT.sIx vs.length vs.length hi = vs.length → Q (.ref a) H) ∧ (¬ (HT.sIx vs.length 0 lo = 0 ∧ HT.sIx vs.length vs.length hi = vs.length) → NewT H (cutV vs lo hi) Q)
theorem sl_tupF : SlR X (rSlF X.K) := by
  intro pins s σ H x v vl vu lo hi sl Q I rx hs pl pu ⟨a, vs, e, hx, q1, q2⟩
  subst e
  by_cases hw : HT.sIx vs.length 0 lo = 0 ∧ HT.sIx vs.length vs.length hi = vs.length
  · exact sl_tupA pins s σ H _ v vl vu lo hi sl Q I rx hs pl pu ⟨a, vs, rfl, hx, q1, fun w => absurd hw w⟩
  · cases rx
    obtain ⟨is, r, ht, hz⟩ := I.tuple hx
    have hlen : is.toArray.size = vs.length := by rw [List.size_toArray]; exact r.length.symm
    refine ⟨"tuple", _, PyProof.Rows.slot_tuple_getitem.lookup, ht.typeIs, HT.getItem_tuple_cut ht hs pl pu (by rw [hlen]; exact hw) ?_ (by rw [hlen]; exact hz)⟩
    rw [hlen]
    exact ⟨.ref s.heap.objs.size, _, I.laid (t' := s.toks) (o := .frz { cls := .type "tuple", data := .seq ((is.drop (HT.sIx vs.length 0 lo)).take (HT.sIx vs.length vs.length hi - HT.sIx vs.length 0 lo)).toArray } (.tup (cutV vs lo hi))) (fun b ob q => Heap.get?_push_of_some _ q) (Nat.le_refl _)
      ⟨Heap.get?_push_size _ rfl, Nat.le_trans (cutV_length vs lo hi) hz, _, (r.drop (HT.sIx vs.length 0 lo)).take (HT.sIx vs.length vs.length hi - HT.sIx vs.length 0 lo), IsTup.new _ _⟩, rfl, q2 hw _ _ rfl (I.hok.fresh (Nat.le_refl _))⟩
theorem call_tupleF : CallR X (.type "tuple") (fun xs H Q => ∃ p vs, xs = [.ref p] ∧ ((SqL X.K H p vs ∧ NewT H vs Q) ∨ (SqT X.K H p vs ∧ Q (.ref p) H))) := by
  intro pins s σ H xs us Q I r ⟨p, vs, e, h⟩
  subst e
  obtain ⟨u, e, rx⟩ := vals1 r
  subst e
  cases rx
  rcases h with ⟨hq, q⟩ | ⟨hq, q⟩
  · obtain ⟨is, r', pl, hz⟩ := I.list hq
    have hlen := r'.length
    refine call_tuple_list pl.isList (fun h' kp => ?_) (by simp only [List.size_toArray] <;> omega)
    have I1 : Inv X pins σ H { s with heap := h' } := I.kept (t' := s.toks) kp
    exact ⟨.ref h'.objs.size, _, I1.laid (t' := s.toks) (o := .frz { cls := .type "tuple", data := .seq is.toArray } (.tup vs)) (fun b o e => Heap.get?_push_of_some _ e) (Nat.le_refl _)
      ⟨Heap.get?_push_size _ rfl, hz, is, r', IsTup.new _ _⟩, rfl, q _ _ rfl (I1.hok.fresh (Nat.le_refl _))⟩
  · obtain ⟨is, r', pl, hz⟩ := I.tuple hq
    exact call_tuple_same pl ⟨.ref p, H, I, rfl, q⟩
end
end PM

/-! PM, part 2: how data stand in the abstract heap -/
namespace PM
open PySem L2
/-- the addresses of the numbered objects; those that no data may hold meanwhile -/
structure Z where
  a : List Addr
  b : List Addr
  k : PySem.W.Frag
structure EnvK where
  m : Str → Option Value
  K : PySem.W.Frag
/-- an object of the written part -/
def KL (K : PySem.W.Frag) (a : Addr) (xs : List V) : Prop := ∃ (o : Obj) (its : Array Value) (n : Nat), K.lookup a = some o ∧ o.cls = .type "list" ∧ o.dict = none ∧ o.data = .seq its n ∧ its.size ≤ sizeLine ∧ Vals xs its.toList
def Mk (u : HO) : Prop := (∀ o xs, u ≠ .frz o (.tup xs)) ∧ ∀ o x, u ≠ .frz o x
def Z.no (z : Z) (x : Addr) : Prop := x ∉ z.a ∧ x ∉ z.b
section
variable (H : Hp) (ι : Z)
mutual
def RD : D → V → Prop
  | .non, v => v = .non
  | .bl b, v => v = .bl b
  | .int i, v => v = .int i
  | .str s, v => v = .str s ∧ s.length ≤ sizeLine
  | .tup ds, v => ∃ a vs, v = .ref a ∧ Tp H a vs ∧ ds.length ≤ sizeLine ∧ RDs ds vs
  | .lst ds, v => ∃ a vs, v = .ref a ∧ H a = some (.lst vs) ∧ ι.no a ∧ ds.length ≤ sizeLine ∧ RDs ds vs
  | .scr ds, v => ∃ a vs, v = .ref a ∧ ((∃ o, H a = some (.frz o (.lst vs))) ∨ KL ι.k a vs) ∧ ds.length ≤ sizeLine ∧ RDs ds vs
  | .dct ks ds, v => ∃ a vs, v = .ref a ∧ Rd H a (.dK (ks.zip vs)) ∧ ι.no a ∧ ks.length = ds.length ∧ ks.length ≤ sizeLine ∧ RDs ds vs
  | .ref n, v => ∃ a, v = .ref a ∧ ι.a[n]? = some a
  | .exn a, v => v = .ref a
def RDs : List D → List V → Prop
  | [], vs => vs = []
  | d :: ds, vs => ∃ v r, vs = v :: r ∧ RD d v ∧ RDs ds r
end
variable (mg : EnvK)
def RO (a : Addr) : MO → Prop
  | .lst ds => ∃ vs, H a = some (.lst vs) ∧ ds.length ≤ sizeLine ∧ RDs H ι ds vs
  | .dK ks ds => ∃ vs, H a = some (.dK (ks.zip vs)) ∧ ks.length = ds.length ∧ ks.length ≤ sizeLine ∧ RDs H ι ds vs
  | .dKL ks ds => ∃ o vs, H a = some (.frz o (.dK (ks.zip vs))) ∧ ks.length = ds.length ∧ ks.length ≤ sizeLine ∧ RDs H ι ds vs
  | .dT ks ds => ∃ vs, H a = some (.dT (ks.zip vs)) ∧ ks.length = ds.length ∧ ks.length ≤ sizeLine ∧ RDs H ι ds vs
  | .ins c fs ds => ∃ C dx vs, mg.m c = some (.ref C) ∧ H a = some (.ins C dx (fs.zip vs)) ∧ fs.length = ds.length ∧ RDs H ι ds vs
structure Rep (S : Sto) : Prop where
  kk : ι.k = mg.K
  len : ι.a.length = S.length
  nd : ι.a.Nodup
  bt : ∀ x ∈ ι.b, x ∉ ι.a ∧ ∃ o, H x = some o ∧ Mk o
  obj : ∀ (n : Nat) (a : Addr) (o : MO), ι.a[n]? = some a → S[n]? = some o → RO H ι mg a o
def RX (c : Exc) (cls : Value) (dx : Option Addr) : Prop :=
  (∃ C, mg.m c.cls = some (.ref C) ∧ cls = .ref C) ∧ ((c.fs = [] ∧ c.ds = [] ∧ dx = none) ∨ c.fs ≠ [] ∧ ∃ d vs, dx = some d ∧ H d = some (.xd (c.fs.zip vs)) ∧ c.fs.length = c.ds.length ∧ RDs H ι c.ds vs)
structure RSt (δ : Loc) (σ : St) : Prop where
  len : δ.length = σ.length
  at' : ∀ (i : Nat) (d : D), δ[i]? = some (some d) → ∃ v, σ[i]? = some (some v) ∧ RD H ι d v
end

structure Lift (ι : Z) (H : Hp) (ι' : Z) (H' : Hp) : Prop where
  pre : ∀ (n : Nat) (a : Addr), ι.a[n]? = some a → ι'.a[n]? = some a
  tup : ∀ a xs, Tp H a xs → Tp H' a xs
  lst : ∀ a xs, ι.no a → H a = some (.lst xs) → H' a = some (.lst xs) ∧ ι'.no a
  scr : ∀ a o xs, H a = some (.frz o (.lst xs)) → H' a = some (.frz o (.lst xs))
  dct : ∀ a xs, ι.no a → Rd H a (.dK xs) → Rd H' a (.dK xs) ∧ ι'.no a
  kk : ι'.k = ι.k
  frz : ∀ a o u, H a = some (.frz o u) → H' a = some (.frz o u)
/-- the same, but for what is locked -/
structure L0 (ι : Z) (H : Hp) (ι' : Z) (H' : Hp) : Prop where
  pre : ∀ (n : Nat) (a : Addr), ι.a[n]? = some a → ι'.a[n]? = some a
  tup : ∀ a xs, Tp H a xs → Tp H' a xs
  lst : ∀ a xs, ι.no a → H a = some (.lst xs) → H' a = some (.lst xs) ∧ ι'.no a
  scr : ∀ a o xs, H a = some (.frz o (.lst xs)) → H' a = some (.frz o (.lst xs))
  dct : ∀ a xs, ι.no a → Rd H a (.dK xs) → Rd H' a (.dK xs) ∧ ι'.no a
  kk : ι'.k = ι.k
theorem Lift.l0 {ι H ι' H'} (s : Lift ι H ι' H') : L0 ι H ι' H' := ⟨s.pre, s.tup, s.lst, s.scr, s.dct, s.kk⟩
theorem Lift.refl {ι H} : Lift ι H ι H := ⟨fun _ _ h => h, fun _ _ h => h, fun _ _ n h => ⟨h, n⟩, fun _ _ _ h => h, fun _ _ n h => ⟨h, n⟩, rfl, fun _ _ _ h => h⟩
theorem Lift.trans {ι ι1 ι2 H H1 H2} (a : Lift ι H ι1 H1) (b : Lift ι1 H1 ι2 H2) : Lift ι H ι2 H2 :=
  ⟨fun n x h => b.pre n x (a.pre n x h), fun x xs h => b.tup x xs (a.tup x xs h),
   fun x xs n h => let ⟨h1, n1⟩ := a.lst x xs n h; b.lst x xs n1 h1, fun x o xs h => b.scr x o xs (a.scr x o xs h), fun x xs n h => let ⟨h1, n1⟩ := a.dct x xs n h; b.dct x xs n1 h1, b.kk.trans a.kk, fun x o u h => b.frz x o u (a.frz x o u h)⟩
structure Step (ι : Z) (H : Hp) (ι' : Z) (H' : Hp) : Prop where
  up : Lift ι H ι' H'
  bb : ι'.b = ι.b
  hid : ∀ x ∈ ι.b, ∀ o, H x = some o → H' x = some o
theorem Step.refl {ι H} : Step ι H ι H := ⟨.refl, rfl, fun _ _ _ h => h⟩
theorem Step.trans {ι ι1 ι2 H H1 H2} (a : Step ι H ι1 H1) (b : Step ι1 H1 ι2 H2) : Step ι H ι2 H2 := ⟨a.up.trans b.up, b.bb.trans a.bb, fun x hx o h => b.hid x (by rw [a.bb]; exact hx) o (a.hid x hx o h)⟩

section
variable {ι ι' : Z} {H H' : Hp} {mg : EnvK}
mutual
theorem RD.mono0 (s : L0 ι H ι' H') : ∀ (d : D) (v : V), RD H ι d v → RD H' ι' d v
  | .non, _, h => by simp only [RD] at h ⊢; exact h
  | .bl _, _, h => by simp only [RD] at h ⊢; exact h
  | .int _, _, h => by simp only [RD] at h ⊢; exact h
  | .str _, _, h => by simp only [RD] at h ⊢; exact h
  | .tup ds, _, h => by
    simp only [RD] at h ⊢
    obtain ⟨a, vs, e, h1, z, h2⟩ := h
    exact ⟨a, vs, e, s.tup a vs h1, z, RDs.mono0 s ds vs h2⟩
  | .lst ds, _, h => by
    simp only [RD] at h ⊢
    obtain ⟨a, vs, e, h1, n, z, h2⟩ := h
    obtain ⟨h1, n⟩ := s.lst a vs n h1
    exact ⟨a, vs, e, h1, n, z, RDs.mono0 s ds vs h2⟩
  | .scr ds, _, h => by
    simp only [RD] at h ⊢
    obtain ⟨a, vs, e, h1, z, h2⟩ := h
    refine ⟨a, vs, e, ?_, z, RDs.mono0 s ds vs h2⟩
    rcases h1 with ⟨o, h1⟩ | h1
    · exact .inl ⟨o, s.scr a o vs h1⟩
    · rw [s.kk]; exact .inr h1
  | .dct ks ds, _, h => by
    simp only [RD] at h ⊢
    obtain ⟨a, vs, e, h1, n, z, y, h2⟩ := h
    obtain ⟨h1, n⟩ := s.dct a _ n h1
    exact ⟨a, vs, e, h1, n, z, y, RDs.mono0 s ds vs h2⟩
  | .ref n, _, h => by
    simp only [RD] at h ⊢
    obtain ⟨a, e, h1⟩ := h
    exact ⟨a, e, s.pre n a h1⟩
  | .exn _, _, h => by simp only [RD] at h ⊢; exact h
theorem RDs.mono0 (s : L0 ι H ι' H') : ∀ (ds : List D) (vs : List V), RDs H ι ds vs → RDs H' ι' ds vs
  | [], _, h => by simp only [RDs] at h ⊢; exact h
  | d :: ds, _, h => by
    simp only [RDs] at h ⊢
    obtain ⟨v, r, e, h1, h2⟩ := h
    exact ⟨v, r, e, RD.mono0 s d v h1, RDs.mono0 s ds r h2⟩
end
theorem RD.mono (s : Lift ι H ι' H') (d : D) (v : V) (h : RD H ι d v) : RD H' ι' d v := RD.mono0 s.l0 d v h
theorem RDs.mono (s : Lift ι H ι' H') (ds : List D) (vs : List V) (h : RDs H ι ds vs) : RDs H' ι' ds vs := RDs.mono0 s.l0 ds vs h
theorem RSt.mono (s : Lift ι H ι' H') {δ : Loc} {σ : St} (h : RSt H ι δ σ) : RSt H' ι' δ σ :=
  ⟨h.len, fun i d e => let ⟨v, e', r⟩ := h.at' i d e; ⟨v, e', r.mono s⟩⟩
theorem RDs.length : ∀ {ds : List D} {vs : List V}, RDs H ι ds vs → ds.length = vs.length
  | [], _, h => by simp only [RDs] at h; subst h; rfl
  | d :: ds, _, h => by
    simp only [RDs] at h
    obtain ⟨v, r, e, h1, h2⟩ := h
    subst e
    simp [RDs.length h2]
theorem RDs.nil : RDs H ι [] [] := by simp only [RDs]
theorem RDs.cons {d v ds vs} (h1 : RD H ι d v) (h2 : RDs H ι ds vs) : RDs H ι (d :: ds) (v :: vs) := by
  simp only [RDs]; exact ⟨v, vs, rfl, h1, h2⟩
theorem RDs.app : ∀ {ds es : List D} {vs ws : List V}, RDs H ι ds vs → RDs H ι es ws → RDs H ι (ds ++ es) (vs ++ ws)
  | [], _, _, _, h, g => by simp only [RDs] at h; subst h; exact g
  | d :: ds, _, _, _, h, g => by
    simp only [RDs] at h
    obtain ⟨v, r, e, h1, h2⟩ := h
    subst e
    exact .cons h1 (RDs.app h2 g)
theorem RDs.get : ∀ {ds : List D} {vs : List V} {i : Nat} {d : D}, RDs H ι ds vs → ds[i]? = some d → ∃ v, vs[i]? = some v ∧ RD H ι d v
  | [], _, i, d, _, e => by simp at e
  | d :: ds, _, 0, d', h, e => by
    simp only [RDs] at h
    obtain ⟨v, r, e', h1, h2⟩ := h
    subst e'
    simp at e; subst e
    exact ⟨v, rfl, h1⟩
  | d :: ds, _, i + 1, d', h, e => by
    simp only [RDs] at h
    obtain ⟨v, r, e', h1, h2⟩ := h
    subst e'
    simpa using RDs.get h2 (by simpa using e)
theorem RDs.set : ∀ {ds : List D} {vs : List V} {i : Nat} {d : D} {v : V}, RDs H ι ds vs → RD H ι d v → RDs H ι (ds.set i d) (vs.set i v)
  | [], _, i, d, _, h, _ => by simp only [RDs] at h; subst h; exact .nil
  | d :: ds, _, 0, d', _, h, q => by
    simp only [RDs] at h
    obtain ⟨v, r, e', h1, h2⟩ := h
    subst e'
    exact .cons q h2
  | d :: ds, _, i + 1, d', _, h, q => by
    simp only [RDs] at h
    obtain ⟨v, r, e', h1, h2⟩ := h
    subst e'
    exact .cons h1 (RDs.set h2 q)
theorem RDs.drop : ∀ {ds : List D} {vs : List V} (n : Nat), RDs H ι ds vs → RDs H ι (ds.drop n) (vs.drop n)
  | _, _, 0, h => h
  | [], _, n + 1, h => by simp only [RDs] at h; subst h; exact .nil
  | d :: ds, _, n + 1, h => by
    simp only [RDs] at h
    obtain ⟨v, r, e', h1, h2⟩ := h
    subst e'
    exact RDs.drop n h2
theorem RDs.take : ∀ {ds : List D} {vs : List V} (n : Nat), RDs H ι ds vs → RDs H ι (ds.take n) (vs.take n)
  | _, _, 0, h => by simpa using RDs.nil
  | [], _, n + 1, h => by simp only [RDs] at h; subst h; exact .nil
  | d :: ds, _, n + 1, h => by
    simp only [RDs] at h
    obtain ⟨v, r, e', h1, h2⟩ := h
    subst e'
    exact .cons h1 (RDs.take n h2)

/-! ### allocation, writing -/
theorem rd_tracked {a : Addr} {u : HO} (h : Rd H a u) : ∃ o, H a = some o := by
  rcases h with h | ⟨o, h⟩
  · exact ⟨_, h⟩
  · exact ⟨_, h⟩
theorem rd_upd_ne {a p : Addr} {u o : HO} (h : Rd H a u) (n : a ≠ p) : Rd (upd H p o) a u := by
  rcases h with h | ⟨ob, h⟩
  · exact .inl (by rw [L2.upd_ne n]; exact h)
  · exact .inr ⟨ob, by rw [L2.upd_ne n]; exact h⟩
theorem ne_new {a p : Addr} {u : HO} (h : Rd H a u) (hp : H p = none) : a ≠ p := by
  rintro rfl
  obtain ⟨o, e⟩ := rd_tracked h
  rw [e] at hp; cases hp
theorem Step.new {p : Addr} {o : HO} (hp : H p = none) : Step ι H ι (upd H p o) :=
  ⟨⟨fun _ _ h => h, fun a xs h => h.up hp, fun a xs n h => ⟨by rw [upd_ne (ne_of_none h hp)]; exact h, n⟩, fun a o xs h => by rw [upd_ne (ne_of_none h hp)]; exact h, fun a xs n h => ⟨rd_upd_ne h (ne_new h hp), n⟩, rfl, fun a o u h => by rw [upd_ne (ne_of_none h hp)]; exact h⟩, rfl, fun x _ o e => by rw [upd_ne (ne_of_none e hp)]; exact e⟩
abbrev Z.snoc (ι : Z) (p : Addr) : Z := ⟨ι.a ++ [p], ι.b, ι.k⟩
theorem Z.no_snoc {ι : Z} {a p : Addr} (n : ι.no a) (h : a ≠ p) : (ι.snoc p).no a := ⟨by simp [n.1, h], n.2⟩
theorem Step.newRef {p : Addr} {o : HO} (hp : H p = none) : Step ι H (ι.snoc p) (upd H p o) :=
  ⟨⟨fun n a h => by rw [List.getElem?_append_left (List.getElem?_eq_some_iff.mp h).1]; exact h, fun a xs h => h.up hp,
    fun a xs n h => ⟨by rw [upd_ne (ne_of_none h hp)]; exact h, Z.no_snoc n (ne_of_none h hp)⟩, fun a o xs h => by rw [upd_ne (ne_of_none h hp)]; exact h, fun a xs n h => ⟨rd_upd_ne h (ne_new h hp), Z.no_snoc n (ne_new h hp)⟩, rfl, fun a o u h => by rw [upd_ne (ne_of_none h hp)]; exact h⟩, rfl, fun x _ o e => by rw [upd_ne (ne_of_none e hp)]; exact e⟩
theorem Lift.write {a : Addr} {o : HO} (ha : a ∈ ι.a ∨ a ∈ ι.b) (hm : ∀ u, H a = some u → Mk u) : Lift ι H ι (upd H a o) :=
  have ne : ∀ {b : Addr}, ι.no b → b ≠ a := fun n e => by
    subst e
    rcases ha with h | h
    · exact n.1 h
    · exact n.2 h
  ⟨fun _ _ h => h, fun b xs h => h.keep (by rintro rfl; obtain ⟨o, h, _⟩ := h; exact (hm _ h).1 _ _ rfl),
    fun b xs n h => ⟨by rw [upd_ne (ne n)]; exact h, n⟩, fun b o xs h => by rw [upd_ne (by rintro rfl; exact (hm _ h).2 _ _ rfl)]; exact h, fun b xs n h => ⟨rd_upd_ne h (ne n), n⟩, rfl, fun b o u h => by rw [upd_ne (by rintro rfl; exact (hm _ h).2 _ _ rfl)]; exact h⟩
theorem RO.mono0 (s : L0 ι H ι' H') {a : Addr} (h' : H' a = H a) : ∀ {o : MO}, RO H ι mg a o → RO H' ι' mg a o
  | .lst ds, ⟨vs, e, z, r⟩ => ⟨vs, h'.trans e, z, r.mono0 s⟩
  | .dK ks ds, ⟨vs, e, z, y, r⟩ => ⟨vs, h'.trans e, z, y, r.mono0 s⟩
  | .dKL ks ds, ⟨o, vs, e, z, y, r⟩ => ⟨o, vs, h'.trans e, z, y, r.mono0 s⟩
  | .dT ks ds, ⟨vs, e, z, y, r⟩ => ⟨vs, h'.trans e, z, y, r.mono0 s⟩
  | .ins c fs ds, ⟨C, dx, vs, m, e, z, r⟩ => ⟨C, dx, vs, m, h'.trans e, z, r.mono0 s⟩
theorem RO.mono (s : Lift ι H ι' H') {a : Addr} (h' : H' a = H a) {o : MO} (h : RO H ι mg a o) : RO H' ι' mg a o := RO.mono0 s.l0 h' h
theorem RO.some {a : Addr} : ∀ {o : MO}, RO H ι mg a o → ∃ u, H a = Option.some u
  | .lst ds, ⟨vs, e, z, r⟩ => ⟨_, e⟩
  | .dK ks ds, ⟨vs, e, z, y, r⟩ => ⟨_, e⟩
  | .dKL ks ds, ⟨o, vs, e, z, y, r⟩ => ⟨_, e⟩
  | .dT ks ds, ⟨vs, e, z, y, r⟩ => ⟨_, e⟩
  | .ins c fs ds, ⟨C, dx, vs, m, e, z, r⟩ => ⟨_, e⟩
theorem Rep.has {S : Sto} (r : Rep H ι mg S) {n : Nat} {a : Addr} (h : ι.a[n]? = some a) : ∃ o, S[n]? = some o ∧ RO H ι mg a o := by
  have hn : n < S.length := by rw [← r.len]; exact (List.getElem?_eq_some_iff.mp h).1
  exact ⟨S[n], List.getElem?_eq_getElem hn, r.obj n a _ h (List.getElem?_eq_getElem hn)⟩
theorem Rep.addr {S : Sto} (r : Rep H ι mg S) {n : Nat} {o : MO} (h : S[n]? = some o) : ∃ a, ι.a[n]? = some a ∧ RO H ι mg a o := by
  have hn : n < ι.a.length := by rw [r.len]; exact (List.getElem?_eq_some_iff.mp h).1
  exact ⟨ι.a[n], List.getElem?_eq_getElem hn, r.obj n _ _ (List.getElem?_eq_getElem hn) h⟩
theorem Rep.track {S : Sto} (r : Rep H ι mg S) {a : Addr} (h : a ∈ ι.a) : ∃ u, H a = some u := by
  obtain ⟨n, hn⟩ := List.getElem?_of_mem h
  obtain ⟨o, _, ro⟩ := r.has hn
  exact ro.some
theorem Rep.fresh {S : Sto} (r : Rep H ι mg S) {p : Addr} (hp : H p = none) : ι.no p := by
  refine ⟨fun h => ?_, fun h => ?_⟩
  · obtain ⟨u, e⟩ := r.track h
    rw [hp] at e; cases e
  · obtain ⟨_, u, e, _⟩ := r.bt p h
    rw [hp] at e; cases e
theorem Rep.new {S : Sto} (r : Rep H ι mg S) {p : Addr} {o : HO} (hp : H p = none) : Rep (upd H p o) ι mg S :=
  ⟨r.kk, r.len, r.nd, fun x hx => ⟨(r.bt x hx).1, let ⟨u, e, q⟩ := (r.bt x hx).2; ⟨u, by rw [L2.upd_ne (ne_of_none e hp)]; exact e, q⟩⟩,
    fun n a m h1 h2 => (r.obj n a m h1 h2).mono (Step.new hp).up (L2.upd_ne (by rintro rfl; exact (r.fresh hp).1 (List.mem_of_getElem? h1)))⟩
theorem Rep.newRef {S : Sto} (r : Rep H ι mg S) {p : Addr} {o : HO} {m : MO} (hp : H p = none) (ho : RO (upd H p o) (ι.snoc p) mg p m) : Rep (upd H p o) (ι.snoc p) mg (S ++ [m]) := by
  refine ⟨r.kk, by simp [r.len], ?_, fun x hx => ?_, fun n a m' h1 h2 => ?_⟩
  · show (ι.a ++ [p]).Nodup
    rw [List.nodup_append]
    refine ⟨r.nd, by simp, fun a ha b hb => ?_⟩
    simp at hb; subst hb
    rintro rfl; exact (r.fresh hp).1 ha
  · obtain ⟨n, u, e, q⟩ := r.bt x hx
    have ne : x ≠ p := ne_of_none e hp
    exact ⟨by simp [n, ne], u, by rw [L2.upd_ne ne]; exact e, q⟩
  · have k1 : (ι.a ++ [p])[n]? = some a := h1
    clear h1
    by_cases hn : n < ι.a.length
    · rw [List.getElem?_append_left hn] at k1
      rw [List.getElem?_append_left (by rw [← r.len]; exact hn)] at h2
      exact (r.obj n a m' k1 h2).mono (Step.newRef hp).up (L2.upd_ne (by rintro rfl; exact (r.fresh hp).1 (List.mem_of_getElem? k1)))
    · have hn' : ι.a.length ≤ n := Nat.le_of_not_lt hn
      rw [List.getElem?_append_right hn'] at k1
      rw [List.getElem?_append_right (by rw [← r.len]; exact hn')] at h2
      have e : n - ι.a.length = 0 := by
        have := (List.getElem?_eq_some_iff.mp k1).1
        simp at this; omega
      rw [e] at k1; rw [← r.len, e] at h2
      simp at k1 h2; subst k1 h2
      exact ho
theorem Rep.write {S : Sto} (r : Rep H ι mg S) {n : Nat} {a : Addr} {o : HO} {m : MO} (hn : ι.a[n]? = some a) (hm : ∀ u, H a = some u → Mk u) (ho : RO (upd H a o) ι mg a m) : Rep (upd H a o) ι mg (S.set n m) ∧ Step ι H ι (upd H a o) := by
  have ha : a ∈ ι.a := List.mem_of_getElem? hn
  have st : Step ι H ι (upd H a o) := ⟨Lift.write (.inl ha) hm, rfl, fun x hx u e => by rw [L2.upd_ne (by rintro rfl; exact (r.bt x hx).1 ha)]; exact e⟩
  refine ⟨⟨r.kk, by simpa using r.len, r.nd, fun x hx => ?_, fun k b m' h1 h2 => ?_⟩, st⟩
  · obtain ⟨n, u, e, q⟩ := r.bt x hx
    exact ⟨n, u, by rw [L2.upd_ne (by rintro rfl; exact n ha)]; exact e, q⟩
  by_cases hk : n = k
  · subst hk
    rw [hn] at h1; cases h1
    have hl : n < S.length := by rw [← r.len]; exact (List.getElem?_eq_some_iff.mp hn).1
    rw [List.getElem?_set_self hl] at h2; cases h2
    exact ho
  · rw [List.getElem?_set_ne hk] at h2
    refine (r.obj k b m' h1 h2).mono st.up (L2.upd_ne ?_)
    rintro rfl
    obtain ⟨l1, e1⟩ := List.getElem?_eq_some_iff.mp hn
    obtain ⟨l2, e2⟩ := List.getElem?_eq_some_iff.mp h1
    exact hk ((List.getElem_inj r.nd).mp (e1.trans e2.symm))
/-- a hidden object is laid, written, told -/
abbrev Z.hide (ι : Z) (p : Addr) : Z := ⟨ι.a, p :: ι.b, ι.k⟩
theorem Lift.hide {p : Addr} {o : HO} (hp : H p = none) : Lift ι H (ι.hide p) (upd H p o) :=
  ⟨fun _ _ h => h, fun a xs h => h.up hp, fun a xs n h => ⟨by rw [upd_ne (ne_of_none h hp)]; exact h, n.1, by simp [n.2, ne_of_none h hp]⟩,
    fun a o xs h => by rw [upd_ne (ne_of_none h hp)]; exact h, fun a xs n h => ⟨rd_upd_ne h (ne_new h hp), n.1, by simp [n.2, ne_new h hp]⟩, rfl, fun a o u h => by rw [upd_ne (ne_of_none h hp)]; exact h⟩
theorem Rep.hide {S : Sto} (r : Rep H ι mg S) {p : Addr} {o : HO} (hp : H p = none) (nt : Mk o) : Rep (upd H p o) (ι.hide p) mg S :=
  ⟨r.kk, r.len, r.nd, fun x hx => by
      rcases List.mem_cons.mp hx with e | hx
      · subst e; exact ⟨(r.fresh hp).1, o, upd_same, nt⟩
      · obtain ⟨n, u, e, q⟩ := r.bt x hx
        exact ⟨n, u, by rw [L2.upd_ne (ne_of_none e hp)]; exact e, q⟩,
    fun n a m h1 h2 => (r.obj n a m h1 h2).mono (Lift.hide hp) (L2.upd_ne (by rintro rfl; exact (r.fresh hp).1 (List.mem_of_getElem? (show ι.a[n]? = some _ from h1))))⟩
theorem Rep.writeHid {S : Sto} (r : Rep H ι mg S) {p : Addr} {o : HO} (hp : p ∈ ι.b) (nt : Mk o) : Rep (upd H p o) ι mg S ∧ Lift ι H ι (upd H p o) := by
  obtain ⟨np, u, e, q⟩ := r.bt p hp
  have st : Lift ι H ι (upd H p o) := Lift.write (.inr hp) (fun u' e' => by rw [e] at e'; cases e'; exact q)
  refine ⟨⟨r.kk, r.len, r.nd, fun x hx => ?_, fun k b m' h1 h2 => (r.obj k b m' h1 h2).mono st (L2.upd_ne (by rintro rfl; exact np (List.mem_of_getElem? h1)))⟩, st⟩
  obtain ⟨n, u, e, q⟩ := r.bt x hx
  by_cases hx' : x = p
  · subst hx'; exact ⟨n, o, upd_same, nt⟩
  · exact ⟨n, u, by rw [L2.upd_ne hx']; exact e, q⟩
theorem Lift.show {p : Addr} {l : List Addr} (h : ι.b = p :: l) : Lift ι H ⟨ι.a, l, ι.k⟩ H :=
  ⟨fun _ _ h => h, fun _ _ h => h, fun a xs n e => ⟨e, n.1, fun q => n.2 (by rw [h]; exact List.mem_cons_of_mem _ q)⟩, fun _ _ _ e => e,
    fun a xs n e => ⟨e, n.1, fun q => n.2 (by rw [h]; exact List.mem_cons_of_mem _ q)⟩, rfl, fun _ _ _ e => e⟩
theorem Rep.show {S : Sto} (r : Rep H ι mg S) {p : Addr} {l : List Addr} (h : ι.b = p :: l) : Rep H ⟨ι.a, l, ι.k⟩ mg S :=
  ⟨r.kk, r.len, r.nd, fun x hx => r.bt x (by rw [h]; exact List.mem_cons_of_mem _ hx), fun n a m h1 h2 => (r.obj n a m h1 h2).mono (Lift.show h) rfl⟩
end
end PM

/-! PM, part 3: judgements -/
namespace PM
open PySem PySem.Spec L2
abbrev _root_.L2.Cx.ek (X : Cx) : EnvK := ⟨X.mg, X.K⟩
abbrev wat (W : WX) (σ : St) : XK := fun c d H => W c d σ H
abbrev Rel (α β : Type) := Hp → Z → α → β → Prop
def REq {α : Type} : Rel α α := fun _ _ a b => b = a
/-- room for C code alone, also where an exception is handled -/
structure Ru (A : Around) : Prop where
  un : A.units + 200 < cLine
theorem Ru.units {A : Around} (r : Ru A) : A.units + 64 < cLine := by have := r.un; omega
theorem Ru.hu {A : Around} (r : Ru A) : A.units + 1 < cLine := by have := r.un; omega
theorem Ru.of {k : Nat} {A : Around} (r : Room k A) : Ru A := ⟨by have := r.un; omega⟩
section
variable {mg : EnvK} {α β γ ε : Type}
def G (mg : EnvK) (W : XK) (ι : Z) (H : Hp) (Rl : Rel α β) (r : R α) (Q : β → Hp → Prop) : Prop := match r with
  | .ok a S' => ∀ ι' H' b, Step ι H ι' H' → Rep H' ι' mg S' → Rl H' ι' a b → Q b H'
  | .exc c S' => ∀ ι' H' cls dx, Step ι H ι' H' → Rep H' ι' mg S' → RX H' ι' mg c cls dx → W cls dx H'
  | .stuck => False
variable {W : XK} {ι ι' : Z} {H H' : Hp} {Rl : Rel α β} {r : R α} {Q Q' : β → Hp → Prop}
theorem G.imp (h : G mg W ι H Rl r Q) (q : ∀ b H', Q b H' → Q' b H') : G mg W ι H Rl r Q' := by
  cases r with
  | ok a S => exact fun ι' H' b st rp rl => q _ _ (h ι' H' b st rp rl)
  | exc c S => exact h
  | stuck => exact h
theorem G.step (st : Step ι H ι' H') (h : G mg W ι H Rl r Q) : G mg W ι' H' Rl r Q := by
  cases r with
  | ok a S => exact fun ι2 H2 b s2 rp rl => h ι2 H2 b (st.trans s2) rp rl
  | exc c S => exact fun ι2 H2 b d s2 rp rl => h ι2 H2 b d (st.trans s2) rp rl
  | stuck => exact h
theorem G.bind {Rl2 : Rel γ ε} {k : α → Sto → R γ} {Q2 : ε → Hp → Prop} (h : G mg W ι H Rl2 (r.bind k) Q2) :
    G mg W ι H Rl r (fun b H1 => ∃ ι1 S1 a, Step ι H ι1 H1 ∧ Rep H1 ι1 mg S1 ∧ Rl H1 ι1 a b ∧ G mg W ι1 H1 Rl2 (k a S1) Q2) := by
  cases r with
  | ok a S => exact fun ι' H' b st rp rl => ⟨ι', S, a, st, rp, rl, G.step st h⟩
  | exc c S => exact h
  | stuck => exact h
theorem G.here {a : α} {b : β} {S : Sto} (h : G mg W ι H Rl (.ok a S) Q) (rp : Rep H ι mg S) (rl : Rl H ι a b) : Q b H := h ι H b .refl rp rl
theorem G.at {a : α} {b : β} {S : Sto} (h : G mg W ι H Rl (.ok a S) Q) (st : Step ι H ι' H') (rp : Rep H' ι' mg S) (rl : Rl H' ι' a b) : Q b H' := h ι' H' b st rp rl
end

def tD {α β : Type} (mg : EnvK) (W : WX) (Rl : Rel α β) (m : Loc → Sto → R α) : St → Hp → (β → Hp → Prop) → Prop := fun σ H Q =>
  ∃ ι S δ, Rep H ι mg S ∧ RSt H ι δ σ ∧ G mg (wat W σ) ι H Rl (m δ S) Q
abbrev tDE (mg : EnvK) (W : WX) (m : Em) : TE := tD mg W RD m
def GS (mg : EnvK) (W : WX) (ι : Z) (H : Hp) (r : RS) (D : Ends) : Prop := match r with
  | .nx δ S => ∀ ι' H' σ', Step ι H ι' H' → Rep H' ι' mg S → RSt H' ι' δ σ' → D.nx σ' H'
  | .bk δ S => ∀ ι' H' σ', Step ι H ι' H' → Rep H' ι' mg S → RSt H' ι' δ σ' → D.bk σ' H'
  | .ct δ S => ∀ ι' H' σ', Step ι H ι' H' → Rep H' ι' mg S → RSt H' ι' δ σ' → D.ct σ' H'
  | .rt d S => ∀ ι' H' v, Step ι H ι' H' → Rep H' ι' mg S → RD H' ι' d v → D.rt v H'
  | .exc c δ S => ∀ ι' H' σ' cls dx, Step ι H ι' H' → Rep H' ι' mg S → RSt H' ι' δ σ' → RX H' ι' mg c cls dx → W cls dx σ' H'
  | .stuck => False
section
variable {mg : EnvK} {W : WX} {ι ι' : Z} {H H' : Hp} {r : RS} {D D' : Ends}
theorem GS.step (st : Step ι H ι' H') (h : GS mg W ι H r D) : GS mg W ι' H' r D := by
  cases r with
  | nx δ S => exact fun ι2 H2 b s2 rp rl => h ι2 H2 b (st.trans s2) rp rl
  | bk δ S => exact fun ι2 H2 b s2 rp rl => h ι2 H2 b (st.trans s2) rp rl
  | ct δ S => exact fun ι2 H2 b s2 rp rl => h ι2 H2 b (st.trans s2) rp rl
  | rt d S => exact fun ι2 H2 b s2 rp rl => h ι2 H2 b (st.trans s2) rp rl
  | exc c δ S => exact fun ι2 H2 b d e s2 rp rl => h ι2 H2 b d e (st.trans s2) rp rl
  | stuck => exact h
theorem GS.seq {k : Sm} (h : GS mg W ι H (r.seq k) D) : GS mg W ι H r { D with nx := fun σ1 H1 => ∃ ι1 S1 δ1, Step ι H ι1 H1 ∧ Rep H1 ι1 mg S1 ∧ RSt H1 ι1 δ1 σ1 ∧ GS mg W ι1 H1 (k δ1 S1) D } := by
  cases r with
  | nx δ S => exact fun ι2 H2 b s2 rp rl => ⟨ι2, S, δ, s2, rp, rl, GS.step s2 h⟩
  | bk δ S => exact h
  | ct δ S => exact h
  | rt d S => exact h
  | exc c δ S => exact h
  | stuck => exact h
theorem GS.into {α β : Type} {Rl : Rel α β} {a : R α} {δ : Loc} {σ : St} {k : α → Sto → RS} (rs : RSt H ι δ σ) (h : GS mg W ι H (a.into δ k) D) :
    G mg (wat W σ) ι H Rl a (fun b H1 => ∃ ι1 S1 x, Step ι H ι1 H1 ∧ Rep H1 ι1 mg S1 ∧ Rl H1 ι1 x b ∧ GS mg W ι1 H1 (k x S1) D) := by
  cases a with
  | ok x S => exact fun ι' H' b st rp rl => ⟨ι', S, x, st, rp, rl, GS.step st h⟩
  | exc c S => exact fun ι' H' b d st rp rx => h ι' H' σ b d st rp (rs.mono st.up) rx
  | stuck => exact h
end
def tDS (mg : EnvK) (W : WX) (m : Sm) : TS := fun D σ H => ∃ ι S δ, Rep H ι mg S ∧ RSt H ι δ σ ∧ GS mg W ι H (m δ S) D

section
variable (X : Cx) (W : WX)
def DE (e : Expr) (m : Em) : Prop := PE X e (tDE X.ek W m)
def DT (e : Expr) (m : Tm) : Prop := PT X e (tD X.ek W REq m)
def DW (e : Expr) (m : Tm) : Prop := PW X e (tD X.ek W REq m)
def DA (es : List Expr) (m : Am) : Prop := PA X es (tD X.ek W RDs m)
def DS (st : Stmt) (m : Sm) : Prop := PS X st (tDS X.ek W m)
def DSs (sts : List Stmt) (m : Sm) : Prop := PSs X sts (tDS X.ek W m)
/-- a target: the value is at hand -/
def tDG (mg : EnvK) (W : WX) (g : Gm) : TG := fun v σ H Q => ∃ ι S δ d, Rep H ι mg S ∧ RSt H ι δ σ ∧ RD H ι d v ∧ G mg (wat W σ) ι H RSt (g d δ S) Q
def DG (tg : Expr) (g : Gm) : Prop := PG X tg (tDG X.ek W g)
end
theorem pe_imp {X : Cx} {e : Expr} {t t' : TE} (h : PE X e t) (i : ∀ σ H Q, t' σ H Q → t σ H Q) : PE X e t' := ⟨fun pins s σ H Q I q => h.run pins s σ H Q I (i _ _ _ q)⟩
theorem pt_imp {X : Cx} {e : Expr} {t t' : TT} (h : PT X e t) (i : ∀ σ H Q, t' σ H Q → t σ H Q) : PT X e t' := ⟨fun pins s σ H Q I q => h.run pins s σ H Q I (i _ _ _ q)⟩
theorem pw_imp {X : Cx} {e : Expr} {t t' : TT} (h : PW X e t) (i : ∀ σ H Q, t' σ H Q → t σ H Q) : PW X e t' := ⟨fun w pins s σ H Q I q => h.run w pins s σ H Q I (i _ _ _ q)⟩
theorem pa_imp {X : Cx} {e : List Expr} {t t' : TA} (h : PA X e t) (i : ∀ σ H Q, t' σ H Q → t σ H Q) : PA X e t' := ⟨fun p pins s σ H Q I q => h.run p pins s σ H Q I (i _ _ _ q)⟩
theorem ps_imp {X : Cx} {e : Stmt} {t t' : TS} (h : PS X e t) (i : ∀ D σ H, t' D σ H → t D σ H) : PS X e t' := ⟨fun pins s σ H Q I q => h.run pins s σ H Q I (i _ _ _ q)⟩
theorem pss_imp {X : Cx} {e : List Stmt} {t t' : TS} (h : PSs X e t) (i : ∀ D σ H, t' D σ H → t D σ H) : PSs X e t' := ⟨fun pins s σ H Q I q => h.run pins s σ H Q I (i _ _ _ q)⟩

section
variable {X : Cx} {W : WX} {a b c e : Expr} {es : List Expr} {pos p p2 : Pos} {ma mb mc : Em} {am : Am} {ta tb : Tm}
/-! ### names, constants -/
theorem de_var {i : Nat} {x : Str} (h : PE X (.Name x pos) (tVar i)) : DE X W (.Name x pos) (mV i) := pe_imp h fun σ H Q ⟨ι, S, δ, rp, rs, g⟩ => by
  unfold mV at g
  split at g
  · rename_i d hd
    obtain ⟨v, e, r⟩ := rs.at' i d hd
    exact ⟨v, e, g.here rp r⟩
  · exact g.elim
theorem de_const {d : D} {v : V} (h : PE X e (tC v)) (r : ∀ H ι, RD H ι d v) : DE X W e (mC d) := pe_imp h fun σ H Q ⟨ι, S, δ, rp, rs, g⟩ => G.here (b := v) g rp (r _ _)
theorem de_int {i : Int} {j} : DE X W (.Constant (.int i) j pos) (mC (.int i)) := de_const pe_int fun _ _ => by simp only [RD]
theorem de_bl {i : Bool} {j} : DE X W (.Constant (.bool i) j pos) (mC (.bl i)) := de_const pe_bl fun _ _ => by simp only [RD]
theorem de_non {j} : DE X W (.Constant .none j pos) (mC .non) := de_const pe_non fun _ _ => by simp only [RD]
theorem de_str {x : Str} {j} (h : x.length ≤ sizeLine) : DE X W (.Constant (.str x) j pos) (mC (.str x)) := de_const pe_str fun _ _ => by simp only [RD]; exact ⟨trivial, h⟩

/-! ### arguments, displays -/
theorem da_nil : DA X W [] mNil := pa_imp pa_nil fun σ H Q ⟨ι, S, δ, rp, rs, g⟩ => g.here rp RDs.nil
theorem da_cons (ha : DE X W e ma) (hr : DA X W es am) (hs : starEach (e :: es) X.env = (false, eval e X.env) :: starEach es X.env := by rfl) : DA X W (e :: es) (mCons ma am) :=
  pa_imp (pa_cons ha hr hs) fun σ H Q ⟨ι, S, δ, rp, rs, g⟩ => ⟨ι, S, δ, rp, rs, (G.bind g).imp fun v H1 ⟨ι1, S1, d, st, rp1, rd, g1⟩ =>
    ⟨ι1, S1, δ, rp1, rs.mono st.up, (G.bind g1).imp fun vs H2 ⟨ι2, S2, ds, st2, rp2, rds, g2⟩ => g2.here rp2 (.cons (rd.mono st2.up) rds)⟩⟩
end
def newTup (ds : List D) (S : Sto) : R D := if ds.length ≤ sizeLine then .ok (.tup ds) S else .stuck
def newLst (ds : List D) (S : Sto) : R D := if ds.length ≤ sizeLine then .ok (.lst ds) S else .stuck
def newRef (ds : List D) (S : Sto) : R D := if ds.length ≤ sizeLine then .ok (.ref S.length) (S ++ [.lst ds]) else .stuck
section
variable {mg : EnvK} {W : XK} {ι : Z} {H : Hp} {Q : V → Hp → Prop} {ds : List D} {vs : List V} {S : Sto}
/-- the ways a new list or tuple is taken into the data -/
theorem g_newTup (g : G mg W ι H RD (newTup ds S) Q) (rp : Rep H ι mg S) (r : RDs H ι ds vs) : vs.length ≤ sizeLine ∧ NewT H vs Q := by
  unfold newTup at g
  split at g
  · rename_i h
    refine ⟨by rw [← r.length]; exact h, fun p o d hp => g.at (Step.new hp) (rp.new hp) ?_⟩
    simp only [RD]
    exact ⟨p, vs, rfl, .mk d, h, r.mono (Step.new hp).up⟩
  · exact g.elim
theorem rd_newLst {p : Addr} (rp : Rep H ι mg S) (r : RDs H ι ds vs) (h : ds.length ≤ sizeLine) (hp : H p = none) : RD (upd H p (.lst vs)) ι (.lst ds) (.ref p) := by
  simp only [RD]
  exact ⟨p, vs, rfl, upd_same, rp.fresh hp, h, r.mono (Step.new hp).up⟩
theorem g_newLst (g : G mg W ι H RD (newLst ds S) Q) (rp : Rep H ι mg S) (r : RDs H ι ds vs) : vs.length ≤ sizeLine ∧ ∀ p, H p = none → Q (.ref p) (upd H p (.lst vs)) := by
  unfold newLst at g
  split at g
  · rename_i h
    exact ⟨by rw [← r.length]; exact h, fun p hp => g.at (Step.new hp) (rp.new hp) (rd_newLst rp r h hp)⟩
  · exact g.elim
theorem rep_newRef {p : Addr} {u : HO} {m : MO} (rp : Rep H ι mg S) (hp : H p = none) (ho : RO (upd H p u) (ι.snoc p) mg p m) : Rep (upd H p u) (ι.snoc p) mg (S ++ [m]) ∧ RD (upd H p u) (ι.snoc p) (.ref S.length) (.ref p) := by
  refine ⟨rp.newRef hp ho, ?_⟩
  simp only [RD]
  exact ⟨p, rfl, by rw [← rp.len]; simp⟩
theorem g_newRef (g : G mg W ι H RD (newRef ds S) Q) (rp : Rep H ι mg S) (r : RDs H ι ds vs) : vs.length ≤ sizeLine ∧ ∀ p, H p = none → Q (.ref p) (upd H p (.lst vs)) := by
  unfold newRef at g
  split at g
  · rename_i h
    refine ⟨by rw [← r.length]; exact h, fun p hp => ?_⟩
    have q := rep_newRef (m := .lst ds) (u := .lst vs) rp hp ⟨vs, upd_same, h, r.mono (Step.newRef hp).up⟩
    exact g.at (Step.newRef hp) q.1 q.2
  · exact g.elim
end
section
variable {X : Cx} {W : WX} {a b c e : Expr} {es : List Expr} {pos p p2 : Pos} {ma mb mc : Em} {am : Am} {ta tb : Tm}
theorem de_tup {x1} (h : DA X W es am) : DE X W (.Tuple es x1 pos) (mApp newTup am) := pe_imp (pe_tupF h) fun σ H Q ⟨ι, S, δ, rp, rs, g⟩ =>
  ⟨ι, S, δ, rp, rs, (G.bind g).imp fun vs H1 ⟨ι1, S1, ds, st, rp1, rd, g1⟩ => g_newTup g1 rp1 rd⟩
theorem de_lst (h : DA X W es am) : DE X W (.List es pos) (mApp newLst am) := pe_imp (pe_lst h) fun σ H Q ⟨ι, S, δ, rp, rs, g⟩ =>
  ⟨ι, S, δ, rp, rs, (G.bind g).imp fun vs H1 ⟨ι1, S1, ds, st, rp1, rd, g1⟩ => g_newLst g1 rp1 rd⟩
theorem de_lstR (h : DA X W es am) : DE X W (.List es pos) (mApp newRef am) := pe_imp (pe_lst h) fun σ H Q ⟨ι, S, δ, rp, rs, g⟩ =>
  ⟨ι, S, δ, rp, rs, (G.bind g).imp fun vs H1 ⟨ι1, S1, ds, st, rp1, rd, g1⟩ => g_newRef g1 rp1 rd⟩

/-! ### operators, by values -/
/-- f keeps the rule op of data -/
def OpD (X : Cx) (f : Value → Value → Sem Value) (op : D → D → Sto → R D) : Prop :=
  ∃ r : R2, OpR X f r ∧ ∀ (W : XK) (ι : Z) (S : Sto) (H : Hp) (x y : V) (dx dy : D) (Q : VK), Rep H ι X.ek S → RD H ι dx x → RD H ι dy y → G X.ek W ι H RD (op dx dy S) Q → r x y H Q
theorem de_opR {r : R2} {op : D → D → Sto → R D} (k : ∀ (W : XK) (ι : Z) (S : Sto) (H : Hp) (x y : V) (dx dy : D) (Q : VK), Rep H ι X.ek S → RD H ι dx x → RD H ι dy y → G X.ek W ι H RD (op dx dy S) Q → r x y H Q) {σ : St} {H : Hp} {Q : VK}
    (h : tDE X.ek W (mB op ma mb) σ H Q) : tOp r (tDE X.ek W ma) (tDE X.ek W mb) σ H Q := by
  obtain ⟨ι, S, δ, rp, rs, g⟩ := h
  exact ⟨ι, S, δ, rp, rs, (G.bind g).imp fun v H1 ⟨ι1, S1, d, st, rp1, rd, g1⟩ =>
    ⟨ι1, S1, δ, rp1, rs.mono st.up, (G.bind g1).imp fun v2 H2 ⟨ι2, S2, d2, st2, rp2, rd2, g2⟩ => k _ ι2 S2 H2 v v2 d d2 Q rp2 (rd.mono st2.up) rd2 g2⟩⟩
theorem de_bin {op : Operator} {f : D → D → Sto → R D} (ho : OpD X (binaryOp op) f) (ha : DE X W a ma) (hb : DE X W b mb) : DE X W (.BinOp a op b pos) (mB f ma mb) := by
  obtain ⟨r, hr, k⟩ := ho
  exact pe_imp (pe_op hr ha hb) fun σ H Q h => de_opR k h
theorem de_cmp {op : CmpOp} {f : D → D → Sto → R D} (ho : OpD X (compareOp op) f) (ha : DE X W a ma) (hb : DE X W b mb) (hm : behindInMarks op b = false) : DE X W (.Compare a [op] [b] pos) (mB f ma mb) := by
  obtain ⟨r, hr, k⟩ := ho
  exact pe_imp (pe_cmpR hr ha hb hm) fun σ H Q h => de_opR k h
theorem rd_bl {H : Hp} {ι : Z} {d : D} {k : Bool} (h : RD H ι (.bl k) v) : v = .bl k := by simpa only [RD] using h
/-- a value of truth as a test -/
theorem t_of {m : Em} {σ : St} {H : Hp} {Q : Bool → Hp → Prop} (h : tD X.ek W REq (mT m) σ H Q) : tDE X.ek W m σ H fun x H' => ∃ k, x = .bl k ∧ Q k H' := by
  obtain ⟨ι, S, δ, rp, rs, g⟩ := h
  refine ⟨ι, S, δ, rp, rs, (G.bind g).imp fun v H1 ⟨ι1, S1, d, st, rp1, rd, g1⟩ => ?_⟩
  cases d with
  | bl k => exact ⟨k, by simpa only [RD] using rd, g1.here rp1 rfl⟩
  | _ => exact g1.elim
theorem dt_cmp {op : CmpOp} {f : D → D → Sto → R D} (ho : OpD X (compareOp op) f) (ha : DE X W a ma) (hb : DE X W b mb) (hm : behindInMarks op b = false) : DT X W (.Compare a [op] [b] pos) (mT (mB f ma mb)) := by
  obtain ⟨r, hr, k⟩ := ho
  refine pt_imp (pt_cmpR hr ha hb hm) fun σ H Q h => ?_
  exact de_opR (Q := fun x H' => ∃ k, x = .bl k ∧ Q k H') k (t_of h)
theorem dt_val (h : DE X W e ma) (he : ∀ whole, isTrue e X.env whole = (do let v ← whole; standAt e.pos; holding [v] (truthy v)) := by intro _; rfl) : DT X W e (mT ma) :=
  pt_imp (pt_val h he) fun σ H Q q => t_of q
/-! ### tests -/
theorem t_bind {α β γ ε : Type} {mg : EnvK} {W : WX} {Rl : Rel α β} {Rl2 : Rel γ ε} {m : Loc → Sto → R α} {k : Loc → α → Sto → R γ} {σ : St} {H : Hp} {Q : ε → Hp → Prop} {T : β → Hp → Prop}
    (h : tD mg W Rl2 (fun δ S => (m δ S).bind (k δ)) σ H Q) (f : ∀ ι S δ a b H', Rep H' ι mg S → RSt H' ι δ σ → Rl H' ι a b → G mg (wat W σ) ι H' Rl2 (k δ a S) Q → T b H') : tD mg W Rl m σ H T := by
  obtain ⟨ι, S, δ, rp, rs, g⟩ := h
  exact ⟨ι, S, δ, rp, rs, (G.bind g).imp fun v H1 ⟨ι1, S1, d, st, rp1, rd, g1⟩ => f ι1 S1 δ d v H1 rp1 (rs.mono st.up) rd g1⟩
theorem dw_and1 (ha : DT X W a ta) : DW X W (.BoolOp .And [a] pos) ta := pw_and1 ha
theorem dw_or1 (ha : DT X W a ta) : DW X W (.BoolOp .Or [a] pos) ta := pw_or1 ha
theorem dw_and {rest : List Expr} (ha : DT X W a ta) (hb : DW X W (.BoolOp .And (b :: rest) pos) tb) : DW X W (.BoolOp .And (a :: b :: rest) pos) (mAnd ta tb) :=
  pw_imp (pw_and ha hb) fun σ H Q h => t_bind h fun ι S δ k c H' rp rs e g => by
    rw [show c = k from e]
    cases k with
    | true => exact ⟨ι, S, δ, rp, rs, g⟩
    | false => exact g.here rp rfl
theorem dw_or {rest : List Expr} (ha : DT X W a ta) (hb : DW X W (.BoolOp .Or (b :: rest) pos) tb) : DW X W (.BoolOp .Or (a :: b :: rest) pos) (mOr ta tb) :=
  pw_imp (pw_or ha hb) fun σ H Q h => t_bind h fun ι S δ k c H' rp rs e g => by
    rw [show c = k from e]
    cases k with
    | true => exact g.here rp rfl
    | false => exact ⟨ι, S, δ, rp, rs, g⟩
theorem dw_pt (h : DW X W e ta) : DT X W e ta := PW.pt h
theorem dt_not (ha : DT X W a ta) : DT X W (.UnaryOp .Not a pos) (mNot ta) :=
  pt_imp (pt_not ha) fun σ H Q h => t_bind h fun ι S δ k c H' rp rs e g => by
    rw [show c = k from e]
    exact g.here rp rfl
/-! ### values of truth -/
theorem de_one {op} (h : DE X W a ma) : DE X W (.BoolOp op [a] pos) ma := pe_one h
theorem de_and {rest : List Expr} (ha : DE X W a ma) (hb : DE X W (.BoolOp .And (b :: rest) pos) mb) : DE X W (.BoolOp .And (a :: b :: rest) pos) (mAndV ma mb) :=
  pe_imp (pe_and ha hb) fun σ H Q h => t_bind h fun ι S δ d v H' rp rs e g => by
    cases d with
    | bl k =>
      refine ⟨k, by simpa only [RD] using e, ?_⟩
      cases k with
      | true => exact ⟨ι, S, δ, rp, rs, g⟩
      | false => exact g.here rp (by simp only [RD])
    | _ => exact g.elim
theorem de_or {rest : List Expr} (ha : DE X W a ma) (hb : DE X W (.BoolOp .Or (b :: rest) pos) mb) : DE X W (.BoolOp .Or (a :: b :: rest) pos) (mOrV ma mb) :=
  pe_imp (pe_or ha hb) fun σ H Q h => t_bind h fun ι S δ d v H' rp rs e g => by
    cases d with
    | bl k =>
      refine ⟨k, by simpa only [RD] using e, ?_⟩
      cases k with
      | true => exact g.here rp (by simp only [RD])
      | false => exact ⟨ι, S, δ, rp, rs, g⟩
    | _ => exact g.elim
theorem de_not (ha : DE X W a ma) : DE X W (.UnaryOp .Not a pos) (mNotV ma) :=
  pe_imp (pe_not ha) fun σ H Q h => t_bind h fun ι S δ d v H' rp rs e g => by
    cases d with
    | bl k => exact ⟨k, by simpa only [RD] using e, g.here rp (by simp only [RD])⟩
    | _ => exact g.elim
theorem de_ifE (hc : DT X W c ta) (ha : DE X W a ma) (hb : DE X W b mb) : DE X W (.IfExp c a b pos) (mIfE ta ma mb) :=
  pe_imp (pe_ifExp hc ha hb) fun σ H Q h => t_bind h fun ι S δ k c H' rp rs e g => by
    rw [show c = k from e]
    cases k with
    | true => exact ⟨ι, S, δ, rp, rs, g⟩
    | false => exact ⟨ι, S, δ, rp, rs, g⟩
/-! ### statements -/
variable {st : Stmt} {sts : List Stmt} {m n : Sm} {g : Gm} {tg : Expr}
theorem ds_nil : DSs X W [] sPass := pss_imp pss_nil fun D σ H ⟨ι, S, δ, rp, rs, g⟩ => g ι H σ .refl rp rs
theorem ds_cons (h1 : DS X W st m) (h2 : DSs X W sts n) : DSs X W (st :: sts) (sSeq m n) :=
  pss_imp (pss_cons h1 h2) fun D σ H ⟨ι, S, δ, rp, rs, g⟩ => by
    refine ⟨ι, S, δ, rp, rs, ?_⟩
    have q := GS.seq g
    revert q
    cases m δ S with
    | nx δ1 S1 => exact fun q ι' H' σ' st rp rs => let ⟨ι1, S1, δ1, _, rp1, rs1, g1⟩ := q ι' H' σ' st rp rs; ⟨ι1, S1, δ1, rp1, rs1, g1⟩
    | _ => exact fun q => q
theorem ds_one (h1 : DS X W st m) : DSs X W [st] m := pss_one h1
theorem s_bind {α β : Type} {mg : EnvK} {W : WX} {Rl : Rel α β} {m : Loc → Sto → R α} {k : Loc → α → Sto → RS} {σ : St} {H : Hp} {D : Ends} {T : β → Hp → Prop}
    (h : tDS mg W (fun δ S => (m δ S).into δ (k δ)) D σ H) (f : ∀ ι S δ a b H', Rep H' ι mg S → RSt H' ι δ σ → Rl H' ι a b → GS mg W ι H' (k δ a S) D → T b H') : tD mg W Rl m σ H T := by
  obtain ⟨ι, S, δ, rp, rs, g⟩ := h
  exact ⟨ι, S, δ, rp, rs, (GS.into rs g).imp fun v H1 ⟨ι1, S1, d, st, rp1, rd, g1⟩ => f ι1 S1 δ d v H1 rp1 (rs.mono st.up) rd g1⟩
theorem ds_pass : DS X W (.Pass pos) sPass := ps_imp ps_pass fun D σ H ⟨ι, S, δ, rp, rs, g⟩ => g ι H σ .refl rp rs
theorem ds_brk : DS X W (.Break pos) sBk := ps_imp ps_break fun D σ H ⟨ι, S, δ, rp, rs, g⟩ => g ι H σ .refl rp rs
theorem ds_cont : DS X W (.Continue pos) sCt := ps_imp ps_continue fun D σ H ⟨ι, S, δ, rp, rs, g⟩ => g ι H σ .refl rp rs
theorem ds_expr (he : DE X W e ma) (hs : swapsWith e none pos.line X.env = pure false := by rfl) : DS X W (.Expr e pos) (sExpr ma) :=
  ps_imp (ps_expr he hs) fun D σ H h => s_bind h fun ι S δ d v H' rp rs r g => g ι H' σ .refl rp rs
theorem ds_ret (he : DE X W e ma) : DS X W (.Return (some e) pos) (sRet ma) :=
  ps_imp (ps_ret he) fun D σ H h => s_bind h fun ι S δ d v H' rp rs r g => g ι H' v .refl rp r
theorem ds_retN : DS X W (.Return none pos) sRetN := ps_imp ps_retN fun D σ H ⟨ι, S, δ, rp, rs, g⟩ => g ι H .non .refl rp (by simp only [RD])
theorem ds_if {sa sb : List Stmt} (hc : DT X W c ta) (ha : DSs X W sa m) (hb : DSs X W sb n) : DS X W (.If c sa sb pos) (sIf ta m n) :=
  ps_imp (ps_if hc ha hb) fun D σ H h => s_bind h fun ι S δ k c H' rp rs e g => by
    rw [show c = k from e]
    cases k with
    | true => exact ⟨ι, S, δ, rp, rs, g⟩
    | false => exact ⟨ι, S, δ, rp, rs, g⟩
/-! ### targets, assignments -/
theorem dg_name {i : Nat} {x : Str} (h : PG X (.Name x pos) (gName i)) : DG X W (.Name x pos) (gmName i) :=
  ⟨fun pins s σ H v u Q I r ⟨ι, S, δ, d, rp, rs, rd, g⟩ => h.run pins s σ H v u Q I r (by
    refine g.here rp ⟨by simpa using rs.len, fun j d' e => ?_⟩
    by_cases hj : i = j
    · subst hj
      have hi : i < δ.length := by
        rcases Nat.lt_or_ge i δ.length with h | h
        · exact h
        · rw [List.getElem?_eq_none (by simpa using h)] at e; cases e
      rw [List.getElem?_set_self hi] at e
      cases e
      exact ⟨v, by rw [List.getElem?_set_self (by rw [← rs.len]; exact hi)], rd⟩
    · rw [List.getElem?_set_ne hj] at e
      rw [List.getElem?_set_ne hj]
      exact rs.at' j d' e)⟩
end
end PM

/-! PM, part 4: assignments, loops, comprehensions, calls -/
namespace PM
open PySem PySem.Spec L2
section
variable {X : Cx} {W : WX} {a b c e o : Expr} {es : List Expr} {pos p p2 : Pos} {ma mb mc mo : Em} {am : Am} {ta tb : Tm} {st : Stmt} {sts : List Stmt} {m n : Sm} {g : Gm} {tg : Expr}
theorem ds_asg (he : DE X W e ma) (hg : DG X W tg g) (hs : swapsWithSole [tg] e pos.line X.env = pure false := by rfl) (hw : swappedStores [tg] e X.env = pure none := by rfl)
    (h1 : (assignEach [tg] X.env).map (·.2) = [assign tg X.env] := by rfl) : DS X W (.Assign [tg] e pos) (sAsg ma g) :=
  ps_imp (ps_asg he hg hs hw h1) fun D σ H h => s_bind h fun ι S δ d v H' rp rs r g =>
    ⟨ι, S, δ, d, rp, rs, r, (GS.into rs g).imp fun σ2 H2 ⟨ι2, S2, δ2, st2, rp2, rs2, g2⟩ => g2 ι2 H2 σ2 .refl rp2 rs2⟩
theorem rs_set {H : Hp} {ι : Z} {δ : Loc} {σ : St} {d : D} {v : V} (rs : RSt H ι δ σ) (r : RD H ι d v) (i : Nat) : RSt H ι (δ.set i (some d)) (σ.set i (some v)) := by
  refine ⟨by simpa using rs.len, fun j d' e => ?_⟩
  by_cases hj : i = j
  · subst hj
    have hi : i < δ.length := by
      rcases Nat.lt_or_ge i δ.length with h | h
      · exact h
      · rw [List.getElem?_eq_none (by simpa using h)] at e; cases e
    rw [List.getElem?_set_self hi] at e
    cases e
    exact ⟨v, by rw [List.getElem?_set_self (by rw [← rs.len]; exact hi)], r⟩
  · rw [List.getElem?_set_ne hj] at e
    rw [List.getElem?_set_ne hj]
    exact rs.at' j d' e
theorem ds_set {i : Nat} {x : Str} {p' : Pos} (hN : X.N.Nodup) (hi : X.N[i]? = some x) (hx : L2.Loc X.env.scope x) (he : DE X W e ma) (hs : swapsWith e (some (.Name x p')) pos.line X.env = pure false := by rfl)
    (hf : X.fn x = true ∨ X.env.scope.names.lookup x = some .local := by first | exact .inl rfl | exact .inr rfl | assumption) : DS X W (.Assign [.Name x p'] e pos) (sAsg ma (gmName i)) :=
  ps_imp (ps_set hN hi hx he hs hf) fun D σ H h => s_bind h fun ι S δ d v H' rp rs r g => g ι H' _ .refl rp (rs_set rs r _)
/-- the names of a target tuple -/
inductive Nms (X : Cx) : List Expr → List Nat → TGs → Prop where
  | nil : Nms X [] [] gNil
  | cons {e : Expr} {es : List Expr} {i : Nat} {is : List Nat} {t : TGs} : Nms X es is t → Nms X (e :: es) (i :: is) (gCons (gName i) t)
theorem nms_run {K : PySem.W.Frag} {mg : EnvK} {W : XK} : ∀ {es : List Expr} {is : List Nat} {t : TGs}, Nms X es is t → ∀ {ds : List D} {vs : List V} {δ : Loc} {σ : St} {S : Sto} {H : Hp} {ι : Z} {Q : St → Hp → Prop}, Rep H ι mg S → RSt H ι δ σ → RDs H ι ds vs →
    G mg W ι H RSt (gmNames is ds δ S) Q → vs.length = is.length ∧ t vs σ H Q
  | _, _, _, .nil, [], vs, δ, σ, S, H, ι, Q, rp, rs, r, g => by
    simp only [RDs] at r; subst r
    exact ⟨rfl, rfl, g.here rp rs⟩
  | _, _, _, .nil, d :: ds, vs, δ, σ, S, H, ι, Q, rp, rs, r, g => g.elim
  | _, _, _, .cons h, [], vs, δ, σ, S, H, ι, Q, rp, rs, r, g => g.elim
  | _, _, _, .cons h, d :: ds, vs, δ, σ, S, H, ι, Q, rp, rs, r, g => by
    simp only [RDs] at r
    obtain ⟨v, w, e, r1, r2⟩ := r
    subst e
    obtain ⟨q1, q2⟩ := nms_run (K := K) h rp (rs_set rs r1 _) r2 g
    exact ⟨by simp [q1], v, w, rfl, q2⟩
theorem dg_tup {es : List Expr} {k : Nat} {is : List Nat} {t : TGs} (hc : X.calm = true) (hp : PGs X es t) (nm : Nms X es is t) (hn : (assignEach es X.env).length = is.length := by rfl)
    (hst : (assignEach es X.env).findIdx? (·.1) = none := by rfl) : DG X W (.Tuple es k pos) (gmTup is) :=
  ⟨fun pins s σ H v u Q I r ⟨ι, S, δ, d, rp, rs, rd, g⟩ => (pg_tup hc hp hn hst).run pins s σ H v u Q I r (by
    cases d with
    | tup ds =>
      simp only [RD] at rd
      obtain ⟨a, vs, e, h1, z, h2⟩ := rd
      obtain ⟨q1, q2⟩ := nms_run (K := X.K) nm rp rs h2 g
      exact ⟨a, vs, e, h1.sq, q1, q2⟩
    | _ => exact g.elim)⟩
def PSetD (X : Cx) (f : D → D → D → Sto → R Unit) : Prop := ∃ t : TSet, PSet X t ∧
  ∀ (W : XK) (ι : Z) (S : Sto) (H : Hp) (x y z : V) (dx dy dz : D) (Q : Unit → Hp → Prop), Rep H ι X.ek S → RD H ι dx x → RD H ι dy y → RD H ι dz z → G X.ek W ι H REq (f dx dy dz S) Q → t x y z H (Q ())
theorem dg_sub {f : D → D → D → Sto → R Unit} (ho : DE X W a ma) (hi : DE X W b mb) (hs : PSetD X f) (hq : ∀ v, assign (.Subscript a b pos) X.env v = (do
      let ov ← holding [v] (eval a X.env)
      let iv ← holding [v, ov] (eval b X.env)
      standAt pos
      holding [v, ov, iv] (setItem ov iv v)
      release [v, ov, iv] []) := by intro _; rfl) : DG X W (.Subscript a b pos) (gmSub ma mb f) := by
  obtain ⟨t, ht, k⟩ := hs
  refine ⟨fun pins s σ H v u Q I r ⟨ι, S, δ, d, rp, rs, rd, g⟩ => (pg_sub ho hi ht hq).run pins s σ H v u Q I r ?_⟩
  exact ⟨ι, S, δ, rp, rs, (G.bind g).imp fun x H1 ⟨ι1, S1, dx, st1, rp1, rx, g1⟩ => ⟨ι1, S1, δ, rp1, rs.mono st1.up, (G.bind g1).imp fun y H2 ⟨ι2, S2, dy, st2, rp2, ry, g2⟩ =>
    k _ ι2 S2 H2 x y v dx dy d (fun _ H' => Q σ H') rp2 (rx.mono st2.up) ry (rd.mono (st1.trans st2).up) ((G.bind g2).imp fun _ H3 ⟨ι3, S3, _, st3, rp3, _, g3⟩ => g3.here rp3 (rs.mono ((st1.trans st2).trans st3).up))⟩⟩

/-! ### what is walked -/
/-- J walks the items -/
def RIt (mg : EnvK) : Rel (List D × (Sto → Prop)) It := fun H ι p J => p.1.length ≤ sizeLine ∧ ∀ (i : Nat) (H1 : Hp) (ι1 : Z) (S1 : Sto), Lift ι H ι1 H1 → Rep H1 ι1 mg S1 → p.2 S1 →
  (i < p.1.length → J.go i H1 ∧ ∀ x H2, J.yld i H1 x H2 → ∃ d, p.1[i]? = some d ∧ Step ι1 H1 ι1 H2 ∧ Rep H2 ι1 mg S1 ∧ RD H2 ι1 d x) ∧ (p.1.length ≤ i → J.stop i H1)
abbrev tDI (mg : EnvK) (W : WX) (src : Src) : TI := tD mg W (RIt mg) src
def DI (X : Cx) (W : WX) (tg iter : Expr) (src : Src) : Prop := PI X tg iter (tDI X.ek W src)
theorem pi_imp {X : Cx} {tg iter : Expr} {t t' : TI} (h : PI X tg iter t) (i : ∀ σ H Q, t' σ H Q → t σ H Q) : PI X tg iter t' := ⟨fun pins s σ H Q I q => h.run pins s σ H Q I (i _ _ _ q)⟩
/-- a turn's end -/
def RS.turn (r : RS) (k : Sm) : RS := match r with
  | .nx δ S => k δ S
  | .ct δ S => k δ S
  | .bk δ S => .nx δ S
  | r => r
theorem loopM_cons {grd : Sto → Prop} {b : D → Sm} {x : D} {xs : List D} {δ : Loc} {S : Sto} (h : grd S) : loopM grd b (x :: xs) δ S = (b x δ S).turn (loopM grd b xs) := by
  rw [loopM, if_pos h]
  cases b x δ S <;> rfl
theorem loopM_nil {grd : Sto → Prop} {b : D → Sm} {δ : Loc} {S : Sto} (h : grd S) : loopM grd b [] δ S = .nx δ S := by
  rw [loopM, if_pos h]
theorem loopM_grd {grd : Sto → Prop} {b : D → Sm} {xs : List D} {δ : Loc} {S : Sto} {mg W ι H D} (g : GS mg W ι H (loopM grd b xs δ S) D) : grd S := by
  cases xs with
  | nil =>
    rw [loopM] at g
    split at g
    · assumption
    · exact g.elim
  | cons x xs =>
    rw [loopM] at g
    split at g
    · assumption
    · exact g.elim
theorem GS.turn {mg : EnvK} {W : WX} {ι : Z} {H : Hp} {r : RS} {D : Ends} {k : Sm} (h : GS mg W ι H (r.turn k) D) :
    GS mg W ι H r { D with nx := fun σ1 H1 => ∃ ι1 S1 δ1, Step ι H ι1 H1 ∧ Rep H1 ι1 mg S1 ∧ RSt H1 ι1 δ1 σ1 ∧ GS mg W ι1 H1 (k δ1 S1) D, ct := fun σ1 H1 => ∃ ι1 S1 δ1, Step ι H ι1 H1 ∧ Rep H1 ι1 mg S1 ∧ RSt H1 ι1 δ1 σ1 ∧ GS mg W ι1 H1 (k δ1 S1) D, bk := D.nx } := by
  cases r with
  | nx δ S => exact fun ι2 H2 b s2 rp rl => ⟨ι2, S, δ, s2, rp, rl, GS.step s2 h⟩
  | ct δ S => exact fun ι2 H2 b s2 rp rl => ⟨ι2, S, δ, s2, rp, rl, GS.step s2 h⟩
  | bk δ S => exact h
  | rt d S => exact h
  | exc c δ S => exact h
  | stuck => exact h
theorem GS.imp {mg : EnvK} {W : WX} {ι : Z} {H : Hp} {r : RS} {D D' : Ends} (h : GS mg W ι H r D) (h1 : ∀ σ H, D.nx σ H → D'.nx σ H) (h2 : ∀ σ H, D.rt σ H → D'.rt σ H) (h3 : ∀ σ H, D.bk σ H → D'.bk σ H) (h4 : ∀ σ H, D.ct σ H → D'.ct σ H) : GS mg W ι H r D' := by
  cases r with
  | nx δ S => exact fun ι2 H2 b s2 rp rl => h1 _ _ (h ι2 H2 b s2 rp rl)
  | ct δ S => exact fun ι2 H2 b s2 rp rl => h4 _ _ (h ι2 H2 b s2 rp rl)
  | bk δ S => exact fun ι2 H2 b s2 rp rl => h3 _ _ (h ι2 H2 b s2 rp rl)
  | rt d S => exact fun ι2 H2 b s2 rp rl => h2 _ _ (h ι2 H2 b s2 rp rl)
  | exc c δ S => exact h
  | stuck => exact h
theorem ds_for {iter : Expr} {body : List Stmt} {src : Src} (hp : PassesOwn (model X.prog X.w) X.A X.env X.xe) (hc : X.calm = true) (hi : DI X W tg iter src) (hg : DG X W tg g) (hb : DSs X W body m)
    (hs : ∀ x, foldedSetIterable iter X.env x = pure x := by intro _; rfl) : DS X W (.For tg iter body [] pos) (sFor src g m) :=
  ps_imp (ps_for hp hc hi hg hb hs) fun D σ H h => s_bind h fun ι S δ p J H1 rp rs rit gs => by
    obtain ⟨hz, rit⟩ := rit
    refine ⟨fun i m' σ2 H2 => m' = p.1.length - i ∧ i ≤ p.1.length ∧ ∃ ι2 S2 δ2, Step ι H1 ι2 H2 ∧ Rep H2 ι2 X.ek S2 ∧ RSt H2 ι2 δ2 σ2 ∧ GS X.ek W ι2 H2 (loopM p.2 (fun x δ S => (g x δ S).into δ m) (p.1.drop i) δ2 S2) D,
      ⟨_, rfl, Nat.zero_le _, ι, S, δ, .refl, rp, rs, by rw [List.drop_zero]; exact gs⟩, ?_⟩
    rintro i m' σ2 H2 ⟨rfl, hi, ι2, S2, δ2, st2, rp2, rs2, g2⟩
    have gr := loopM_grd g2
    obtain ⟨q1, q2⟩ := rit i H2 ι2 S2 st2.up rp2 gr
    by_cases hlt : i < p.1.length
    · obtain ⟨q3, q4⟩ := q1 hlt
      refine .inr ⟨q3, fun σ' H' => p.1.length - (i + 1) = p.1.length - (i + 1) ∧ i + 1 ≤ p.1.length ∧ ∃ ι2 S2 δ2, Step ι H1 ι2 H' ∧ Rep H' ι2 X.ek S2 ∧ RSt H' ι2 δ2 σ' ∧ GS X.ek W ι2 H' (loopM p.2 (fun x δ S => (g x δ S).into δ m) (p.1.drop (i + 1)) δ2 S2) D,
        fun σ' H' q => ⟨_, by omega, q⟩, fun x H3 y => ?_⟩
      obtain ⟨d, e, st3, rp3, rd⟩ := q4 x H3 y
      have e2 : p.1.drop i = d :: p.1.drop (i + 1) := by
        have := List.getElem?_eq_some_iff.mp e
        rw [List.drop_eq_getElem_cons hlt, this.2]
      rw [e2, loopM_cons gr] at g2
      have g3 := GS.turn (GS.step st3 g2)
      refine ⟨ι2, S2, δ2, d, rp3, rs2.mono st3.up, rd, (GS.into (rs2.mono st3.up) g3).imp fun σ4 H4 ⟨ι4, S4, δ4, st4, rp4, rs4, g4⟩ => ⟨ι4, S4, δ4, rp4, rs4, ?_⟩⟩
      refine g4.imp (fun σ5 H5 ⟨ι5, S5, δ5, st5, rp5, rs5, g5⟩ => ?_) (fun _ _ q => q) (fun _ _ q => q) (fun σ5 H5 ⟨ι5, S5, δ5, st5, rp5, rs5, g5⟩ => ?_)
      · exact ⟨rfl, hlt, ι5, S5, δ5, st2.trans (st3.trans st5), rp5, rs5, g5⟩
      · exact ⟨rfl, hlt, ι5, S5, δ5, st2.trans (st3.trans st5), rp5, rs5, g5⟩
    · have e : i = p.1.length := by omega
      subst e
      rw [List.drop_length, loopM_nil gr] at g2
      exact .inl ⟨q2 (Nat.le_refl _), g2 ι2 H2 σ2 .refl rp2 rs2⟩

/-! ### sources -/
/-- what is walked, by its value -/
def PIV (X : Cx) (tg : Expr) (r : V → Hp → (It → Hp → Prop) → Prop) : Prop := ∀ (pins : List (Addr × Obj)) (s : Shared) (σ : St) (H : Hp) (x : V) (v : Value) (R : It → Hp → Prop), Inv X pins σ H s → RelV x v → r x H R → wpAny (model X.prog X.w) X.A (pyIter v) (PIE X pins σ tg R) X.xe s
theorem piv_list : PIV X tg (fun x H R => ∃ a, x = .ref a ∧ (∃ xs, SqL X.K H a xs) ∧ R (Itl X.K a) H) := by
  intro pins s σ H x v R I r1 q1
  obtain ⟨a, e, ⟨xs, hq⟩, q⟩ := q1
  subst e
  cases r1
  obtain ⟨its, rv, p, hz⟩ := I.list hq
  refine wpAny_pyIter_list p.isList ?_
  refine ⟨s.heap.objs.size, [s.heap.objs.size], _, _, H, rfl, I.kept (t' := s.toks) fun b o e => Heap.get?_push_of_some _ e, turn_list a _, ⟨_, Heap.get?_push_size _ rfl, rfl, rfl⟩, fun b hb => ?_, q⟩
  have e : b = s.heap.objs.size := by simpa using hb
  subst e
  exact I.fpOk (Nat.le_refl _) (I.hok.fresh (Nat.le_refl _))
theorem piv_tup : PIV X tg (fun x H R => ∃ a, x = .ref a ∧ (∃ xs, SqT X.K H a xs) ∧ R (Itt X.K a) H) := by
  intro pins s σ H x v R I r1 q1
  obtain ⟨a, e, ⟨xs, hq⟩, q⟩ := q1
  subst e
  cases r1
  obtain ⟨its, rv, p, hz⟩ := I.tuple hq
  refine wpAny_pyIter_tuple (show s.heap.IsTuple a its.toArray from p) ?_
  refine ⟨s.heap.objs.size, [s.heap.objs.size], _, _, H, rfl, I.kept (t' := s.toks) fun b o e => Heap.get?_push_of_some _ e, turn_tuple a _, ⟨_, Heap.get?_push_size _ rfl, rfl, rfl⟩, fun b hb => ?_, q⟩
  have e : b = s.heap.objs.size := by simpa using hb
  subst e
  exact I.fpOk (Nat.le_refl _) (I.hok.fresh (Nat.le_refl _))
theorem piv_str : PIV X tg (fun x H R => ∃ y, x = .str y ∧ R (Its y) H) := by
  intro pins s σ H v u R I r1 q
  obtain ⟨x, ex, q⟩ := q
  subst ex
  obtain ⟨t, rfl⟩ := r1
  cases ha : x.cps.all (· < 128)
  · exact wpAny_pyIter_wide ha (pi_one (tk := s.toks) I _ (turn_str _ x t "str_iterator" (.inr rfl)) ⟨_, Heap.get?_push_size _ rfl, rfl, rfl⟩ q)
  · exact wpAny_pyIter_ascii ha (pi_one (tk := s.toks) I _ (turn_str _ x t "str_ascii_iterator" (.inl rfl)) ⟨_, Heap.get?_push_size _ rfl, rfl, rfl⟩ q)
theorem PIV.or {r r' : V → Hp → (It → Hp → Prop) → Prop} (h : PIV X tg r) (h' : PIV X tg r') : PIV X tg (fun x H R => r x H R ∨ r' x H R) := fun pins s σ H x v R I rx q => q.elim (h pins s σ H x v R I rx) (h' pins s σ H x v R I rx)
theorem PIV.pi {r : V → Hp → (It → Hp → Prop) → Prop} {te : TE} (h : PIV X tg r) (he : PE X e te) : PI X tg e (fun σ H R => te σ H fun x H1 => r x H1 R) :=
  ⟨fun pins s σ H R I q => thn (he.run pins s σ H _ I q) fun v s1 ⟨x, H1, I1, r1, q1⟩ => h pins s1 σ H1 x v R I1 r1 q1⟩
theorem scr_sq {K : PySem.W.Frag} {ι : Z} {H : Hp} {a : Addr} {vs : List V} (e : ι.k = K) (h : (∃ o, H a = some (.frz o (.lst vs))) ∨ KL ι.k a vs) : SqL K H a vs := by
  subst e
  exact h.imp (fun h => .inr h) id
theorem get_rds {H : Hp} {ι : Z} {ds : List D} {vs : List V} (r : RDs H ι ds vs) {i : Nat} {x : V} (e : vs[i]? = some x) : ∃ d, ds[i]? = some d ∧ RD H ι d x := by
  have hi : i < ds.length := by rw [r.length]; exact (List.getElem?_eq_some_iff.mp e).1
  obtain ⟨v, e', rd⟩ := r.get (List.getElem?_eq_getElem hi)
  rw [e] at e'; cases e'
  exact ⟨_, List.getElem?_eq_getElem hi, rd⟩
theorem RIt.of_list {mg : EnvK} {K : PySem.W.Frag} {H : Hp} {ι : Z} {ds : List D} {grd : Sto → Prop} {a : Addr} (hz : ds.length ≤ sizeLine)
    (h : ∀ H1 ι1 S1, Lift ι H ι1 H1 → Rep H1 ι1 mg S1 → grd S1 → ∃ vs, SqL K H1 a vs ∧ RDs H1 ι1 ds vs) : RIt mg H ι (ds, grd) (Itl K a) := by
  refine ⟨hz, fun i H1 ι1 S1 l rp gr => ?_⟩
  obtain ⟨vs, hr, r⟩ := h H1 ι1 S1 l rp gr
  have hl := r.length
  refine ⟨fun hi => ?_, fun hi => ⟨vs, hr, by rw [← hl]; exact hi⟩⟩
  have hi' : i < vs.length := by rw [← hl]; exact hi
  refine ⟨⟨vs, vs[i], hr, List.getElem?_eq_getElem hi'⟩, fun x H2 ⟨e, y⟩ => ?_⟩
  subst e
  obtain ⟨d, e, rd⟩ := get_rds r (y vs hr)
  exact ⟨d, e, .refl, rp, rd⟩
theorem RIt.of_tup {mg : EnvK} {K : PySem.W.Frag} {H : Hp} {ι : Z} {ds : List D} {grd : Sto → Prop} {a : Addr} {vs : List V} (hz : ds.length ≤ sizeLine)
    (h : Tp H a vs) (r : RDs H ι ds vs) : RIt mg H ι (ds, grd) (Itt K a) := by
  refine ⟨hz, fun i H1 ι1 S1 l rp gr => ?_⟩
  have hr := l.tup a vs h
  have r := r.mono l
  have hl := r.length
  refine ⟨fun hi => ?_, fun hi => ⟨vs, hr.sq, by rw [← hl]; exact hi⟩⟩
  have hi' : i < vs.length := by rw [← hl]; exact hi
  refine ⟨⟨vs, vs[i], hr.sq, List.getElem?_eq_getElem hi'⟩, fun x H2 ⟨e, y⟩ => ?_⟩
  subst e
  obtain ⟨d, e, rd⟩ := get_rds r (y vs (hr.sq))
  exact ⟨d, e, .refl, rp, rd⟩
theorem di_items (he : DE X W e ma) : DI X W tg e (sItems ma) :=
  pi_imp (((piv_list (X := X) (tg := tg)).or (piv_tup.or piv_str)).pi he) fun σ H R h => t_bind h fun ι S δ d v H' rp rs rd g => by
    cases d with
    | lst ds =>
      simp only [RD] at rd
      obtain ⟨a, vs, e, h1, n, z, h2⟩ := rd
      exact .inl ⟨a, e, ⟨vs, .of h1⟩, g.here rp (RIt.of_list z fun H1 ι1 S1 l _ _ => ⟨vs, .of (l.lst a vs n h1).1, h2.mono l⟩)⟩
    | scr ds =>
      simp only [RD] at rd
      obtain ⟨a, vs, e, h1, z, h2⟩ := rd
      exact .inl ⟨a, e, ⟨vs, scr_sq rp.kk h1⟩, g.here rp (RIt.of_list z fun H1 ι1 S1 l rp1 _ => ⟨vs, scr_sq rp.kk (h1.imp (fun ⟨o, h⟩ => ⟨o, l.scr a o vs h⟩) id), h2.mono l⟩)⟩
    | tup ds =>
      simp only [RD] at rd
      obtain ⟨a, vs, e, h1, z, h2⟩ := rd
      exact .inr (.inl ⟨a, e, ⟨vs, h1.sq⟩, g.here rp (RIt.of_tup z h1 h2)⟩)
    | str y =>
      simp only [RD] at rd
      refine .inr (.inr ⟨y, rd.1, g.here rp ⟨?_, fun i H1 ι1 S1 l rp gr => ⟨fun hi => ?_, fun hi => ?_⟩⟩⟩)
      · rw [List.length_map, Array.length_toList]; exact rd.2
      · have hi : i < y.cps.size := by rw [List.length_map, Array.length_toList] at hi; exact hi
        refine ⟨hi, fun x H2 ⟨e, c, e1, e2⟩ => ?_⟩
        subst e
        refine ⟨.str ⟨#[c]⟩, ?_, .refl, rp, ?_⟩
        · rw [List.getElem?_map, Array.getElem?_toList, e1]; rfl
        · simp only [RD]; exact ⟨e2, by show 1 ≤ sizeLine; decide⟩
      · rw [List.length_map, Array.length_toList] at hi; exact hi
    | ref k =>
      simp only [RD] at rd
      obtain ⟨a, e, h1⟩ := rd
      obtain ⟨o, e2, ro⟩ := rp.has h1
      simp only [e2] at g
      cases o with
      | lst ds =>
        obtain ⟨vs, h3, z, h4⟩ := ro
        refine .inl ⟨a, e, ⟨vs, .of h3⟩, g.here rp (RIt.of_list z fun H1 ι1 S1 l rp1 gr => ?_)⟩
        obtain ⟨ws, h5, _, h6⟩ := rp1.obj k a _ (l.pre k a h1) gr
        exact ⟨ws, .of h5, h6⟩
      | _ => exact g.elim
    | _ => exact g.elim
theorem rangeD_get {lo : Int} {n i : Nat} (h : i < n) : (rangeD lo n)[i]? = some (.int (lo + i)) := by
  unfold rangeD
  rw [List.getElem?_map, List.getElem?_range h]; rfl
theorem RIt.of_range {mg : EnvK} {H : Hp} {ι : Z} {lo : Int} {n : Nat} {grd : Sto → Prop} (hz : n ≤ sizeLine) : RIt mg H ι (rangeD lo n, grd) (Itr lo n) := by
  have hl : (rangeD lo n).length = n := by simp [rangeD]
  refine ⟨by rw [hl]; exact hz, fun i H1 ι1 S1 l rp gr => ⟨fun hi => ?_, fun hi => ?_⟩⟩
  · rw [hl] at hi
    refine ⟨hi, fun x H2 ⟨e, y⟩ => ?_⟩
    subst e
    exact ⟨_, rangeD_get hi, .refl, rp, by simp only [RD]; exact y⟩
  · rw [hl] at hi; exact hi
theorem sz62 : ((sizeLine : Nat) : Int) < 2 ^ 62 := by rw [sizeLine_eq]; decide
theorem di_range1 {p q : Pos} (hg : Gl X "range") (hm : X.mg "range" = none) (ha : DE X W a ma) (hs : starEach [a] X.env = [(false, eval a X.env)] := by rfl) : DI X W tg (.Call (.Name "range" p) [a] [] q) (sRange1 ma) :=
  pi_imp (pi_range1 hg hm (da_cons ha da_nil hs) hs) fun σ H J ⟨ι, S, δ, rp, rs, g⟩ => by
    refine ⟨ι, S, δ, rp, rs, ?_⟩
    unfold sRange1 at g
    unfold mCons mNil
    cases e : ma δ S with
    | ok d S1 =>
      rw [e] at g
      simp only [PM.R.bind_ok] at g ⊢
      intro ι' H' vs st rp' rd
      split at g
      · rename_i j
        split at g
        · rename_i hj
          simp only [RDs, RD] at rd
          obtain ⟨v, r, e, e1, e2⟩ := rd
          subst e e1 e2
          unfold limR lim62 at hj
          simp only [Bool.and_eq_true, decide_eq_true_eq] at hj
          exact ⟨j, rfl, hj.1.2.1, hj.1.2.2, g.at st rp' (RIt.of_range (by omega))⟩
        · exact g.elim
      · exact g.elim
    | exc c S1 => rw [e] at g; exact g
    | stuck => rw [e] at g; exact g.elim
theorem di_range2 {p q : Pos} (hg : Gl X "range") (hm : X.mg "range" = none) (ha : DE X W a ma) (hb : DE X W b mb) (hs : starEach [a, b] X.env = [(false, eval a X.env), (false, eval b X.env)] := by rfl) (hs2 : starEach [b] X.env = [(false, eval b X.env)] := by rfl) :
    DI X W tg (.Call (.Name "range" p) [a, b] [] q) (sRange2 ma mb) :=
  pi_imp (pi_range2 hg hm (da_cons ha (da_cons hb da_nil hs2) (by rw [hs, hs2])) hs hs2) fun σ H J ⟨ι, S, δ, rp, rs, g⟩ => by
    refine ⟨ι, S, δ, rp, rs, ?_⟩
    unfold sRange2 at g
    unfold mCons mNil
    cases e : ma δ S with
    | ok d S1 =>
      rw [e] at g
      simp only [PM.R.bind_ok] at g ⊢
      cases e2 : mb δ S1 with
      | ok d2 S2 =>
        rw [e2] at g
        simp only [PM.R.bind_ok] at g ⊢
        intro ι' H' vs st rp' rd
        split at g
        · rename_i i j
          split at g
          · rename_i hj
            simp only [RDs, RD] at rd
            obtain ⟨v, r, e, e1, v2, r2, e3, e4, e5⟩ := rd
            subst e e3 e1 e4 e5
            unfold limR lim62 at hj
            simp only [Bool.and_eq_true, decide_eq_true_eq] at hj
            exact ⟨i, j, rfl, ⟨hj.1.1.1, hj.1.1.2, hj.1.2.1, hj.1.2.2⟩, g.at st rp' (RIt.of_range (by omega))⟩
          · exact g.elim
        · exact g.elim
      | exc c S2 => rw [e2] at g; exact g
      | stuck => rw [e2] at g; exact g.elim
    | exc c S1 => rw [e] at g; exact g
    | stuck => rw [e] at g; exact g.elim

/-! ### calls -/
/-- a def's promise: it answers as c does -/
def spD (mg : EnvK) (n : Nat) (c : List D → Sto → R D) : Sp := fun vs H Q E => vs.length = n ∧ ∃ ι S ds, Rep H ι mg S ∧ RDs H ι ds vs ∧ G mg E ι H RD (c ds S) Q
structure Has (P : Program) (w : World) (K : PySem.W.Frag) (mg : Str → Option Value) (base : Heap) (k : Nat) (x : Str) (n : Nat) (c : List D → Sto → R D) : Prop where
  ex : ∃ (f : Addr) (fd : FuncData) (ps : List Str), FnOk P w K mg base (L2N.CX P w) k f fd ps (spD ⟨mg, K⟩ n c) ∧ mg x = some (.ref f) ∧ PySem.W.keepIn K (.ref f) = true ∧ Binds K fd ps [] ∧ ps.length = n
/-- arguments whose number is known -/
def DAL (X : Cx) (W : WX) (es : List Expr) (m : Am) (n : Nat) : Prop := DA X W es m ∧ ∀ δ S ds S', m δ S = .ok ds S' → ds.length = n
theorem dal_nil : DAL X W [] mNil 0 := ⟨da_nil, fun δ S ds S' h => by simp only [mNil, R.ok.injEq] at h; rw [← h.1]; rfl⟩
theorem dal_cons {n : Nat} (ha : DE X W e ma) (hr : DAL X W es am n) (hs : starEach (e :: es) X.env = (false, eval e X.env) :: starEach es X.env := by rfl) : DAL X W (e :: es) (mCons ma am) (n + 1) :=
  ⟨da_cons ha hr.1 hs, fun δ S ds S' h => by
    unfold mCons at h
    cases h1 : ma δ S with
    | ok x S1 =>
      rw [h1] at h
      simp only [R.bind_ok] at h
      cases h2 : am δ S1 with
      | ok xs S2 =>
        rw [h2] at h
        simp only [R.bind_ok, R.ok.injEq] at h
        rw [← h.1, List.length_cons, hr.2 _ _ _ _ h2]
      | exc c S2 => rw [h2] at h; cases h
      | stuck => rw [h2] at h; cases h
    | exc c S1 => rw [h1] at h; cases h
    | stuck => rw [h1] at h; cases h⟩
theorem de_call {k n : Nat} {x : Str} {cf : List D → Sto → R D} (F : Has X.prog X.w X.K X.mg X.base k x n cf) (hr : Room k X.A) (tk : L2N.Takes X W) (hg : Gl X x) (ha : DAL X W (e :: es) am n)
    (hdb : (x == ("__debug__" : Str)) = false := by decide) (he : starEach (e :: es) X.env = (false, eval e X.env) :: starEach es X.env := by rfl) (hpl : (backTo pos (starEach es X.env)).any (·.1) = false := by rfl):
    DE X W (.Call (.Name x p) (e :: es) [] pos) (mApp cf am) := by
  obtain ⟨f, fd, ps, F, hm, hk, hb, hps⟩ := F.ex
  refine pe_imp (pe_callS F hr hg hm hk hb (fun σ => L2N.passAt tk σ) ha.1 hdb he hpl) fun σ H Q h => ?_
  obtain ⟨ι, S, δ, rp, rs, g⟩ := h
  refine ⟨ι, S, δ, rp, rs, ?_⟩
  have q := G.bind (Rl := RDs) g
  cases e1 : am δ S with
  | ok ds S1 =>
    rw [e1] at q
    intro ι' H' vs st rp' rd'
    obtain ⟨ι1, S2, ds2, st1, rp1, rd1, g1⟩ := q ι' H' vs st rp' rd'
    exact ⟨by rw [← rd'.length]; exact ha.2 _ _ _ _ e1, ι1, S2, ds2, rp1, rd1, g1⟩
  | exc c S1 => rw [e1] at q; exact q
  | stuck => rw [e1] at q; exact q
end
end PM

/-! PM, part 5: comprehensions, a def's end -/
namespace PM
open PySem PySem.Spec L2
abbrev w0 : WX := fun _ _ _ _ => False
theorem wipe_get (σ : St) (j : Nat) : ∀ vs : List Nat, (wipe σ vs)[j]? = if j ∈ vs then σ[j]?.map (fun _ => none) else σ[j]?
  | [] => by simp [wipe]
  | v :: vs => by
    unfold wipe
    by_cases h : v = j
    · subst h
      have ih := wipe_get σ v vs
      rw [if_pos (by simp), List.getElem?_set]
      simp only [↓reduceIte, wipe_length]
      by_cases hl : v < σ.length
      · rw [if_pos hl, List.getElem?_eq_getElem hl]; rfl
      · rw [if_neg hl, List.getElem?_eq_none (by omega)]; rfl
    · rw [List.getElem?_set_ne h, wipe_get σ j vs]
      by_cases hj : j ∈ vs
      · rw [if_pos hj, if_pos (by simp [hj])]
      · rw [if_neg hj, if_neg (by simp [hj]; exact fun e => h e.symm)]
theorem wipeD_get (δ : Loc) (j : Nat) : ∀ vs : List Nat, (wipeD δ vs)[j]? = if j ∈ vs then δ[j]?.map (fun _ => none) else δ[j]?
  | [] => by simp [wipeD]
  | v :: vs => by
    unfold wipeD
    have hlen : ∀ vs : List Nat, (wipeD δ vs).length = δ.length := fun vs => by
      induction vs with
      | nil => rfl
      | cons v vs ih => unfold wipeD; rw [List.length_set, ih]
    by_cases h : v = j
    · subst h
      rw [if_pos (by simp), List.getElem?_set]
      simp only [↓reduceIte, hlen]
      by_cases hl : v < δ.length
      · rw [if_pos hl, List.getElem?_eq_getElem hl]; rfl
      · rw [if_neg hl, List.getElem?_eq_none (by omega)]; rfl
    · rw [List.getElem?_set_ne h, wipeD_get δ j vs]
      by_cases hj : j ∈ vs
      · rw [if_pos hj, if_pos (by simp [hj])]
      · rw [if_neg hj, if_neg (by simp [hj]; exact fun e => h e.symm)]
theorem wipeD_length (δ : Loc) : ∀ vs : List Nat, (wipeD δ vs).length = δ.length
  | [] => rfl
  | v :: vs => by unfold wipeD; rw [List.length_set, wipeD_length δ vs]
theorem wipe_set {σ : St} {i : Nat} {x : Option V} {vs : List Nat} (h : i ∈ vs) : wipe (σ.set i x) vs = wipe σ vs := by
  apply List.ext_getElem?
  intro j
  rw [wipe_get, wipe_get]
  by_cases hj : j ∈ vs
  · rw [if_pos hj, if_pos hj, List.getElem?_set]
    split
    · rename_i e; subst e
      split
      · rename_i hl; rw [List.getElem?_eq_getElem hl]; rfl
      · rename_i hl; rw [List.getElem?_eq_none (by omega)]
    · rfl
  · rw [if_neg hj, if_neg hj, List.getElem?_set_ne (fun e => hj (by rw [← e]; exact h))]
theorem wipe_wipe (σ : St) (vs : List Nat) : wipe (wipe σ vs) vs = wipe σ vs := by
  apply List.ext_getElem?
  intro j
  rw [wipe_get, wipe_get]
  split
  · cases σ[j]? <;> rfl
  · rfl
section
variable {H : Hp} {ι : Z} {δ : Loc} {σ : St}
theorem RSt.wipe (rs : RSt H ι δ σ) (vs : List Nat) : RSt H ι (wipeD δ vs) (L2.wipe σ vs) := by
  refine ⟨by rw [wipeD_length, wipe_length, rs.len], fun i d e => ?_⟩
  rw [wipeD_get] at e
  rw [wipe_get]
  split at e
  · cases h : δ[i]? with
    | none => rw [h] at e; cases e
    | some o => rw [h] at e; cases e
  · rename_i hi
    rw [if_neg hi]
    exact rs.at' i d e
end
/-- a target that touches the slots vs alone -/
def TgR (vs : List Nat) (gt : TG) (gm : Gm) : Prop := ∀ (mg : EnvK) (W : XK) (ι : Z) (S : Sto) (H : Hp) (δ : Loc) (σ : St) (d : D) (v : V) (Q T : St → Hp → Prop),
  Rep H ι mg S → RSt H ι δ σ → RD H ι d v → G mg W ι H RSt (gm d δ S) Q → (∀ σ2 H2, L2.wipe σ2 vs = L2.wipe σ vs → Q σ2 H2 → T σ2 H2) → gt v σ H T
theorem tgr_name {i : Nat} {vs : List Nat} (h : i ∈ vs) : TgR vs (gName i) (gmName i) := fun mg W ι S H δ σ d v Q T rp rs rd g k => k _ _ (wipe_set h) (g.here rp (rs_set rs rd i))
theorem nms_runW {X : Cx} {mg : EnvK} {W : XK} {vs' : List Nat} : ∀ {es : List Expr} {is : List Nat} {t : TGs}, Nms X es is t → (∀ i ∈ is, i ∈ vs') → ∀ {ds : List D} {vs : List V} {δ : Loc} {σ : St} {S : Sto} {H : Hp} {ι : Z} {Q T : St → Hp → Prop}, Rep H ι mg S → RSt H ι δ σ → RDs H ι ds vs →
    G mg W ι H RSt (gmNames is ds δ S) Q → (∀ σ2 H2, L2.wipe σ2 vs' = L2.wipe σ vs' → Q σ2 H2 → T σ2 H2) → vs.length = is.length ∧ t vs σ H T
  | _, _, _, .nil, hi, [], vs, δ, σ, S, H, ι, Q, T, rp, rs, r, g, k => by
    simp only [RDs] at r; subst r
    exact ⟨rfl, rfl, k _ _ rfl (g.here rp rs)⟩
  | _, _, _, .nil, hi, d :: ds, vs, δ, σ, S, H, ι, Q, T, rp, rs, r, g, k => g.elim
  | _, _, _, .cons h, hi, [], vs, δ, σ, S, H, ι, Q, T, rp, rs, r, g, k => g.elim
  | _, _, _, .cons (i := i) h, hi, d :: ds, vs, δ, σ, S, H, ι, Q, T, rp, rs, r, g, k => by
    simp only [RDs] at r
    obtain ⟨v, w, e, r1, r2⟩ := r
    subst e
    obtain ⟨q1, q2⟩ := nms_runW (W := W) (vs' := vs') h (fun j hj => hi j (List.mem_cons_of_mem _ hj)) rp (rs_set rs r1 _) r2 g (fun σ2 H2 e q => k σ2 H2 (by rw [e]; exact wipe_set (hi i (List.mem_cons_self))) q)
    exact ⟨by simp [q1], v, w, rfl, q2⟩
theorem tgr_tup {X : Cx} {K : PySem.W.Frag} {es : List Expr} {is vs' : List Nat} {t : TGs} (nm : Nms X es is t) (hi : ∀ i ∈ is, i ∈ vs') : TgR vs' (gTup K is.length t) (gmTup is) := fun mg W ι S H δ σ d v Q T rp rs rd g k => by
  cases d with
  | tup ds =>
    simp only [RD] at rd
    obtain ⟨a, vs, e, h1, z, h2⟩ := rd
    obtain ⟨q1, q2⟩ := nms_runW nm hi rp rs h2 g k
    exact ⟨a, vs, e, h1.sq, q1, q2⟩
  | _ => exact g.elim
section
variable {mg : EnvK} {α β γ ε : Type} {W : XK} {ι ι2 : Z} {H H2 : Hp}
theorem G.quiet {Rl : Rel α β} {Rl2 : Rel γ ε} {r : R α} {k : α → Sto → R γ} {Q : ε → Hp → Prop} (W0 : XK) (h : G mg W ι H Rl2 (r.quiet.bind k) Q) :
    G mg W0 ι2 H2 Rl r (fun b H' => ∃ ι' S' a, Step ι2 H2 ι' H' ∧ Rep H' ι' mg S' ∧ Rl H' ι' a b ∧ G mg W ι H Rl2 (k a S') Q) := by
  cases r with
  | ok a S => exact fun ι' H' b st rp rl => ⟨ι', S, a, st, rp, rl, h⟩
  | exc c S => exact h.elim
  | stuck => exact h.elim
end
theorem compM_grd {grd : Sto → Prop} {g : Gm} {t : Tm} {e : Em} {δ : Loc} {acc xs : List D} {S : Sto} {mg W ι H} {Q : V → Hp → Prop} (h : G mg W ι H RD (compM grd g t e δ acc xs S) Q) : grd S := by
  cases xs with
  | nil =>
    rw [compM] at h
    split at h
    · assumption
    · exact h.elim
  | cons x xs =>
    rw [compM] at h
    split at h
    · assumption
    · exact h.elim
section
variable {X : Cx} {W : WX} {pos : Pos} {m : Em} {t : Tm} {g : Gm}
def DTs (X : Cx) (W : WX) (ifs : List Expr) (m : Tm) : Prop := PTs X ifs (tD X.ek W REq m)
theorem dts_nil : DTs X W [] mYes := ⟨fun pins s σ H Q I ⟨ι, S, δ, rp, rs, g⟩ => pts_nil.run pins s σ H Q I (g.here rp rfl)⟩
theorem dts_one {c : Expr} (h : DT X W c t) : DTs X W [c] t := pts_one h
theorem comp_core {tg : Expr} {gt : TG} {src : Src} {vs : List Nat} (hr : TgR vs gt g) {σ : St} {H : Hp} {Q : VK} (h : tDE X.ek W (mComp src g t m vs) σ H Q) :
    tLc (tDI X.ek W src) gt (tD X.ek w0 REq t) (tDE X.ek w0 m) vs σ H Q := by
  refine t_bind h fun ι S δ p J H1 rp rs rit gs => ?_
  obtain ⟨hz, rit⟩ := rit
  intro D hD
  have hno := rp.fresh hD
  refine ⟨fun i m' H2 => m' = p.1.length - i ∧ i ≤ p.1.length ∧ ∃ ι2 S2 accD accV, Lift ι H1 ι2 H2 ∧ ι2.b = D :: ι.b ∧ Rep H2 ι2 X.ek S2 ∧ H2 D = some (.lst accV) ∧ RDs H2 ι2 accD accV ∧ accD.length ≤ i ∧
      (∀ x ∈ ι.b, ∀ o, H1 x = some o → H2 x = some o) ∧ G X.ek (wat W σ) ι H1 RD (compM p.2 g t m (wipeD δ vs) accD (p.1.drop i) S2) Q,
    ⟨_, rfl, Nat.zero_le _, ι.hide D, S, [], [], Lift.hide hD, rfl, rp.hide hD (.intro (fun _ _ z => nomatch z) (fun _ _ z => nomatch z)), upd_same, RDs.nil, Nat.le_refl _, fun x _ o e => by rw [upd_ne (ne_of_none e hD)]; exact e, by rw [List.drop_zero]; exact gs⟩, ?_⟩
  rintro i m' H2 ⟨rfl, hi, ι2, S2, accD, accV, lf, eb, rp2, hH, ra, hl, hid, g2⟩
  have gr := compM_grd g2
  obtain ⟨q1, q2⟩ := rit i H2 ι2 S2 lf rp2 gr
  by_cases hlt : i < p.1.length
  · obtain ⟨q3, q4⟩ := q1 hlt
    refine .inr ⟨q3, fun H' => i + 1 ≤ p.1.length ∧ ∃ ι2 S2 accD accV, Lift ι H1 ι2 H' ∧ ι2.b = D :: ι.b ∧ Rep H' ι2 X.ek S2 ∧ H' D = some (.lst accV) ∧ RDs H' ι2 accD accV ∧ accD.length ≤ i + 1 ∧
      (∀ x ∈ ι.b, ∀ o, H1 x = some o → H' x = some o) ∧ G X.ek (wat W σ) ι H1 RD (compM p.2 g t m (wipeD δ vs) accD (p.1.drop (i + 1)) S2) Q, fun H' q => ⟨_, by omega, rfl, q⟩, fun x H3 y => ?_⟩
    obtain ⟨d, e, st3, rp3, rd⟩ := q4 x H3 y
    have e2 : p.1.drop i = d :: p.1.drop (i + 1) := by
      have := List.getElem?_eq_some_iff.mp e
      rw [List.drop_eq_getElem_cons hlt, this.2]
    rw [e2, compM, if_pos gr] at g2
    have rs3 : RSt H3 ι2 (wipeD δ vs) (L2.wipe σ vs) := (rs.wipe vs).mono (lf.trans st3.up)
    have hDb : D ∈ ι2.b := by rw [eb]; exact List.mem_cons_self
    have sub : ∀ x ∈ ι.b, x ∈ ι2.b := fun x hx => by rw [eb]; exact List.mem_cons_of_mem _ hx
    -- the target
    have gq := G.quiet (ι2 := ι2) (H2 := H3) (Rl := RSt) (fun _ _ _ => False) g2
    refine hr X.ek _ ι2 S2 H3 (wipeD δ vs) (L2.wipe σ vs) d x _ _ rp3 rs3 rd gq ?_
    rw [wipe_wipe]
    · rintro σ2 H4 hw ⟨ι4, S4, δ4, st4, rp4, rs4, g4⟩
      refine ⟨hw, ι4, S4, δ4, rp4, rs4, (G.quiet (ι2 := ι4) (H2 := H4) (Rl := REq) _ g4).imp fun b H5 ⟨ι5, S5, k, st5, rp5, ek, g5⟩ => ?_⟩
      rw [show b = k from ek]
      have st35 : Step ι2 H2 ι5 H5 := (st3.trans st4).trans st5
      cases k with
      | false =>
        rw [if_neg Bool.false_ne_true] at g5 ⊢
        exact ⟨hlt, ι5, S5, accD, accV, lf.trans st35.up, st35.bb.trans eb, rp5, st35.hid D hDb _ hH, ra.mono st35.up, by omega, fun x hx o ex => st35.hid x (sub x hx) o (hid x hx o ex), g5⟩
      | true =>
        rw [if_pos rfl] at g5 ⊢
        refine ⟨ι5, S5, δ4, rp5, rs4.mono st5.up, (G.quiet (ι2 := ι5) (H2 := H5) (Rl := RD) _ g5).imp fun yv H6 ⟨ι6, S6, yd, st6, rp6, ry, g6⟩ => ?_⟩
        have st36 : Step ι2 H2 ι6 H6 := st35.trans st6
        have eb6 : ι6.b = D :: ι.b := st36.bb.trans eb
        have hD6 : D ∈ ι6.b := by rw [eb6]; exact List.mem_cons_self
        have hH6 := st36.hid D hDb _ hH
        have la : accV.length = accD.length := ra.length.symm
        refine ⟨accV, hH6, by omega, hlt, ?_⟩
        obtain ⟨rp7, l7⟩ := rp6.writeHid (o := .lst (accV ++ [yv])) hD6 (.intro (fun _ _ z => nomatch z) (fun _ _ z => nomatch z))
        refine ⟨ι6, S6, accD ++ [yd], accV ++ [yv], (lf.trans st36.up).trans l7, eb6, rp7, upd_same, ((ra.mono st36.up).mono l7).app (.cons (ry.mono l7) .nil), by simp; omega, fun x hx o ex => ?_, g6⟩
        have : x ≠ D := fun z => hno.2 (z ▸ hx)
        rw [upd_ne this]
        exact st36.hid x (sub x hx) o (hid x hx o ex)
  · have e : i = p.1.length := by omega
    subst e
    rw [List.drop_length, compM, if_pos gr] at g2
    refine .inl ⟨q2 (Nat.le_refl _), ?_⟩
    have eb' : ι2.b = D :: ι.b := eb
    refine g2.at (ι' := ⟨ι2.a, ι.b, ι2.k⟩) (H' := H2) ⟨lf.trans (Lift.show eb'), rfl, hid⟩ (rp2.show eb') ?_
    simp only [RD]
    exact ⟨D, accV, rfl, hH, ⟨(rp2.bt D (by rw [eb]; exact List.mem_cons_self)).1, hno.2⟩, by omega, ra.mono (Lift.show eb')⟩
theorem de_comp {elt tg iter : Expr} {ifs : List Expr} {scope : Scope} {own : List (Str × Nat)} {gt : TG} {src : Src} (hc : X.calm = true) (hN : X.N.Nodup) (hi : DI X W tg iter src) (ok : BlkOk X.N X.env.scope scope own)
    (hg : ∀ (s : Shared) (H : Hp) (C : Addr) (cl : List (Str × Addr)) (fp : List Addr), PG (X.blk s H scope (compEnvC scope cl C X.env) fp) tg gt) (hr : TgR (own.map (·.2)) gt g)
    (ht : ∀ (s : Shared) (H : Hp) (C : Addr) (cl : List (Str × Addr)) (fp : List Addr), DTs (X.blk s H scope (compEnvC scope cl C X.env) fp) w0 ifs t)
    (he : ∀ (s : Shared) (H : Hp) (C : Addr) (cl : List (Str × Addr)) (fp : List Addr), DE (X.blk s H scope (compEnvC scope cl C X.env) fp) w0 elt m) (hs : ∀ x, foldedSetIterable iter X.env x = pure x := by intro _; rfl) :
    DE X W (.ListComp elt [⟨tg, iter, ifs, 0⟩] scope pos) (mComp src g t m (own.map (·.2))) :=
  pe_imp (pe_lc (tt := tD X.ek w0 REq t) (te := tDE X.ek w0 m) hc hN hi ok hg ht he hs) fun σ H Q h => comp_core (tg := tg) hr h
theorem ds_setComp {i : Nat} {y : Str} {py spos : Pos} {elt tg iter : Expr} {ifs : List Expr} {scope : Scope} {own : List (Str × Nat)} {gt : TG} {src : Src} (hc : X.calm = true) (hN : X.N.Nodup) (hy : X.N[i]? = some y) (hyl : X.env.scope.names.lookup y = some .local)
    (hsw : swapsWith (.ListComp elt [⟨tg, iter, ifs, 0⟩] scope pos) (some (.Name y py)) spos.line X.env = pure true) (hi : DI X W tg iter src) (ok : BlkOk X.N X.env.scope scope own)
    (hg : ∀ (s : Shared) (H : Hp) (C : Addr) (cl : List (Str × Addr)) (fp : List Addr), PG (X.blk s H scope (compEnvC scope cl C X.env) fp) tg gt) (hr : TgR (own.map (·.2)) gt g)
    (ht : ∀ (s : Shared) (H : Hp) (C : Addr) (cl : List (Str × Addr)) (fp : List Addr), DTs (X.blk s H scope (compEnvC scope cl C X.env) fp) w0 ifs t)
    (he : ∀ (s : Shared) (H : Hp) (C : Addr) (cl : List (Str × Addr)) (fp : List Addr), DE (X.blk s H scope (compEnvC scope cl C X.env) fp) w0 elt m) (hs : ∀ x, foldedSetIterable iter X.env x = pure x := by intro _; rfl) :
    DS X W (.Assign [.Name y py] (.ListComp elt [⟨tg, iter, ifs, 0⟩] scope pos) spos) (sAsg (mComp src g t m (own.map (·.2))) (gmName i)) :=
  ps_imp (ps_setLc (tt := tD X.ek w0 REq t) (te := tDE X.ek w0 m) hc hN hy hyl hsw hi ok hg ht he hs) fun D σ H h =>
    comp_core (tg := tg) hr (s_bind h fun ι S δ d v H' rp rs r g => g ι H' _ .refl rp (rs_set rs r _))
end
end PM

/-! PM, part 6: a def's body and its end -/
namespace PM
open PySem PySem.Spec L2 PyProof.Rows
def runB (body : Sm) (N : Nat) (ds : List D) (S : Sto) : R D := match body (ds.map some ++ List.replicate (N - ds.length) none) S with
  | .nx _ S' => .ok .non S'
  | .rt d S' => .ok d S'
  | .exc c _ S' => .exc c S'
  | _ => .stuck
/-- what is done with a def's objects at its end -/
abbrev Fin := Sto → R D → R D
def FinOk (fin : Fin) : Prop := ∀ (mg : EnvK) (W : XK) (ι : Z) (S : Sto) (H : Hp) (r : R D) (Q : VK), Rep H ι mg S → G mg W ι H RD (fin S r) Q → G mg W ι H RD r Q
def finRaw : Fin := fun _ r => r
theorem finRaw_ok : FinOk finRaw := fun _ _ _ _ _ _ _ _ h => h
section
variable {P : Program} {w : World} {K : PySem.W.Frag} {mg : Str → Option Value} {base : Heap}
theorem rst_start {H : Hp} {ι : Z} {N : List Str} {ds : List D} {vs : List V} (r : RDs H ι ds vs) : RSt H ι (ds.map some ++ List.replicate (N.length - ds.length) none) (L2.start N vs) := by
  have hl := r.length
  refine ⟨by simp [L2.start, hl], fun i d e => ?_⟩
  by_cases hi : i < ds.length
  · rw [List.getElem?_append_left (by simpa using hi), List.getElem?_map] at e
    rw [List.getElem?_eq_getElem hi] at e
    have e2 : ds[i] = d := by simpa using e
    obtain ⟨v, hv, rd⟩ := r.get (List.getElem?_eq_getElem hi)
    refine ⟨v, ?_, by rw [← e2]; exact rd⟩
    unfold L2.start
    rw [List.getElem?_append_left (by simp [← hl, hi]), List.getElem?_map, hv]; rfl
  · rw [List.getElem?_append_right (by simpa using hi)] at e
    have := List.mem_of_getElem? e
    rw [List.mem_replicate] at this
    exact absurd this.2 (by simp)
theorem has_fn {x qual : Str} {st : Stmt} {f : Addr} {fd : FuncData} {N ps : List Str} {k n : Nat} {body : Sm} {fin : Fin} (F : Fun K x qual st f fd) (Sc : FnScope N ps (defScope st)) (hn : ps.length = n) (hf : FinOk fin)
    (h : ∀ (cdv : Value) (A : Around) (outer : List Env) (s : Shared) (H : Hp) (E : XK), Room k (A.deeper (envOfC qual (defScope st) s.heap.objs.size f cdv)) →
      DSs (cxOf (L2N.CX P w) P w K mg base N qual (defScope st) f cdv A outer s H E) (fun cls d _ H => E cls d H) (defBody st) body) :
    FnOk P w K mg base (L2N.CX P w) (k + 1) f fd ps (spD ⟨mg, K⟩ n (fun ds S => fin S (runB body N.length ds S))) := by
  obtain ⟨oc, od, kV, doc, pm, an, cdv, ct, osl, rfl, lk, hcd⟩ := F.ex
  refine fn_of lk hcd Sc (fun vs H Q E q => by rw [q.1, hn]) fun A outer s H vs Q E hr hsp => ?_
  refine ⟨_, h cdv A outer s H E hr, ?_⟩
  obtain ⟨hl, ι, S, ds, rp, rd, g⟩ := hsp
  have g := hf _ _ _ _ _ _ _ rp g
  refine ⟨ι, S, _, rp, rst_start rd, ?_⟩
  show GS _ _ ι H _ _
  unfold runB at g
  revert g
  cases body (ds.map some ++ List.replicate (N.length - ds.length) none) S with
  | nx δ S' => exact fun g ι' H' σ' st rp rs => g ι' H' .non st rp (by simp only [RD])
  | rt d S' => exact fun g ι' H' v st rp r => g ι' H' v st rp r
  | exc c δ S' => exact fun g ι' H' σ' cls dx st rp rs rx => g ι' H' cls dx st rp rx
  | bk δ S' => exact fun g => g.elim
  | ct δ S' => exact fun g => g.elim
  | stuck => exact fun g => g.elim
theorem has_of {x qual : Str} {st : Stmt} {f : Addr} {fd : FuncData} {N ps : List Str} {k n : Nat} {body : Sm} {fin : Fin} (F : Fun K x qual st f fd) (Sc : FnScope N ps (defScope st)) (hm : mg x = some (.ref f)) (hb : Binds K fd ps []) (hn : ps.length = n) (hf : FinOk fin)
    (h : ∀ (cdv : Value) (A : Around) (outer : List Env) (s : Shared) (H : Hp) (E : XK), Room k (A.deeper (envOfC qual (defScope st) s.heap.objs.size f cdv)) →
      DSs (cxOf (L2N.CX P w) P w K mg base N qual (defScope st) f cdv A outer s H E) (fun cls d _ H => E cls d H) (defBody st) body) :
    Has P w K mg base (k + 1) x n (fun ds S => fin S (runB body N.length ds S)) := ⟨f, fd, ps, has_fn F Sc hn hf h, hm, F.kp, hb, hn⟩
theorem has_zero {x qual : Str} {st : Stmt} {f : Addr} {fd : FuncData} {ps : List Str} {n : Nat} (F : Fun K x qual st f fd) (hm : mg x = some (.ref f)) (hb : Binds K fd ps []) (hn : ps.length = n) : Has P w K mg base 0 x n (fun _ _ => .stuck) :=
  ⟨f, fd, ps, ⟨fun vs H Q E q => by rw [q.1, hn], fun A outer s H args us vs Q E _ _ _ _ q => by
    obtain ⟨_, ι, S, ds, _, _, g⟩ := q
    exact g.elim⟩, hm, F.kp, hb, hn⟩
end
/-! ### no new objects are left behind -/
section
variable (n : Nat)
mutual
def D.cl : D → Bool
  | .tup ds => D.cls ds
  | .lst ds => D.cls ds
  | .scr ds => D.cls ds
  | .dct _ ds => D.cls ds
  | .ref m => decide (m < n)
  | _ => true
def D.cls : List D → Bool
  | [] => true
  | d :: ds => D.cl d && D.cls ds
end
def MO.cl : MO → Bool
  | .lst ds => D.cls n ds
  | .dK _ ds => D.cls n ds
  | .dKL _ ds => D.cls n ds
  | .dT _ ds => D.cls n ds
  | .ins _ _ ds => D.cls n ds
end
section
variable {H : Hp} {ι : Z} {mg : EnvK}
mutual
theorem RD.cl : ∀ (d : D) (v : V), RD H ι d v → D.cl ι.a.length d = true
  | .non, _, _ => by simp only [D.cl]
  | .bl _, _, _ => by simp only [D.cl]
  | .int _, _, _ => by simp only [D.cl]
  | .str _, _, _ => by simp only [D.cl]
  | .tup ds, _, h => by
    simp only [RD] at h; simp only [D.cl]
    obtain ⟨a, vs, e, h1, z, h2⟩ := h
    exact RDs.cls ds vs h2
  | .lst ds, _, h => by
    simp only [RD] at h; simp only [D.cl]
    obtain ⟨a, vs, e, h1, n, z, h2⟩ := h
    exact RDs.cls ds vs h2
  | .scr ds, _, h => by
    simp only [RD] at h; simp only [D.cl]
    obtain ⟨a, vs, e, h1, z, h2⟩ := h
    exact RDs.cls ds vs h2
  | .dct ks ds, _, h => by
    simp only [RD] at h; simp only [D.cl]
    obtain ⟨a, vs, e, h1, n, z, y, h2⟩ := h
    exact RDs.cls ds vs h2
  | .ref m, _, h => by
    simp only [RD] at h; simp only [D.cl]
    obtain ⟨a, e, h1⟩ := h
    exact decide_eq_true (List.getElem?_eq_some_iff.mp h1).1
  | .exn _, _, _ => by simp only [D.cl]
theorem RDs.cls : ∀ (ds : List D) (vs : List V), RDs H ι ds vs → D.cls ι.a.length ds = true
  | [], _, _ => by simp only [D.cls]
  | d :: ds, _, h => by
    simp only [RDs] at h; simp only [D.cls]
    obtain ⟨v, r, e, h1, h2⟩ := h
    rw [RD.cl d v h1, RDs.cls ds r h2]; rfl
end
abbrev Z.cut (ι : Z) (n : Nat) : Z := ⟨ι.a.take n, ι.b, ι.k⟩
theorem Z.no_cut {ι : Z} {n : Nat} {a : Addr} (h : ι.no a) : (ι.cut n).no a := ⟨fun q => h.1 (List.mem_of_mem_take q), h.2⟩
mutual
theorem RD.cut (n : Nat) : ∀ (d : D) (v : V), RD H ι d v → D.cl n d = true → RD H (ι.cut n) d v
  | .non, _, h, _ => by simp only [RD] at h ⊢; exact h
  | .bl _, _, h, _ => by simp only [RD] at h ⊢; exact h
  | .int _, _, h, _ => by simp only [RD] at h ⊢; exact h
  | .str _, _, h, _ => by simp only [RD] at h ⊢; exact h
  | .tup ds, _, h, c => by
    simp only [RD] at h ⊢; simp only [D.cl] at c
    obtain ⟨a, vs, e, h1, z, h2⟩ := h
    exact ⟨a, vs, e, h1, z, RDs.cut n ds vs h2 c⟩
  | .lst ds, _, h, c => by
    simp only [RD] at h ⊢; simp only [D.cl] at c
    obtain ⟨a, vs, e, h1, no, z, h2⟩ := h
    exact ⟨a, vs, e, h1, Z.no_cut no, z, RDs.cut n ds vs h2 c⟩
  | .scr ds, _, h, c => by
    simp only [RD] at h ⊢; simp only [D.cl] at c
    obtain ⟨a, vs, e, h1, z, h2⟩ := h
    exact ⟨a, vs, e, h1, z, RDs.cut n ds vs h2 c⟩
  | .dct ks ds, _, h, c => by
    simp only [RD] at h ⊢; simp only [D.cl] at c
    obtain ⟨a, vs, e, h1, no, z, y, h2⟩ := h
    exact ⟨a, vs, e, h1, Z.no_cut no, z, y, RDs.cut n ds vs h2 c⟩
  | .ref m, _, h, c => by
    simp only [RD] at h ⊢; simp only [D.cl, decide_eq_true_eq] at c
    obtain ⟨a, e, h1⟩ := h
    exact ⟨a, e, by rw [List.getElem?_take_of_lt c]; exact h1⟩
  | .exn _, _, h, _ => by simp only [RD] at h ⊢; exact h
theorem RDs.cut (n : Nat) : ∀ (ds : List D) (vs : List V), RDs H ι ds vs → D.cls n ds = true → RDs H (ι.cut n) ds vs
  | [], _, h, _ => by simp only [RDs] at h ⊢; exact h
  | d :: ds, _, h, c => by
    simp only [RDs] at h ⊢; simp only [D.cls, Bool.and_eq_true] at c
    obtain ⟨v, r, e, h1, h2⟩ := h
    exact ⟨v, r, e, RD.cut n d v h1 c.1, RDs.cut n ds r h2 c.2⟩
end
theorem RO.cut (n : Nat) {a : Addr} : ∀ {o : MO}, RO H ι mg a o → o.cl n = true → RO H (ι.cut n) mg a o
  | .lst ds, ⟨vs, e, z, r⟩, c => ⟨vs, e, z, r.cut n _ _ c⟩
  | .dK ks ds, ⟨vs, e, z, y, r⟩, c => ⟨vs, e, z, y, r.cut n _ _ c⟩
  | .dKL ks ds, ⟨o, vs, e, z, y, r⟩, c => ⟨o, vs, e, z, y, r.cut n _ _ c⟩
  | .dT ks ds, ⟨vs, e, z, y, r⟩, c => ⟨vs, e, z, y, r.cut n _ _ c⟩
  | .ins cc fs ds, ⟨C, dx, vs, m, e, z, r⟩, c => ⟨C, dx, vs, m, e, z, r.cut n _ _ c⟩
theorem RO.cl {a : Addr} : ∀ {o : MO}, RO H ι mg a o → o.cl ι.a.length = true
  | .lst ds, ⟨vs, e, z, r⟩ => RDs.cls ds vs r
  | .dK ks ds, ⟨vs, e, z, y, r⟩ => RDs.cls ds vs r
  | .dKL ks ds, ⟨o, vs, e, z, y, r⟩ => RDs.cls ds vs r
  | .dT ks ds, ⟨vs, e, z, y, r⟩ => RDs.cls ds vs r
  | .ins cc fs ds, ⟨C, dx, vs, m, e, z, r⟩ => RDs.cls ds vs r
end
/-- the old objects hold no new ones -/
def ClS (S S' : Sto) : Prop := ∀ (m : Nat) (o : MO), m < S.length → S'[m]? = some o → S[m]? = some o ∨ o.cl S.length = true
theorem ClS.refl {S : Sto} : ClS S S := fun _ _ _ h => .inl h
theorem ClS.app {S T : Sto} : ClS S (S ++ T) := fun m o h e => .inl (by rw [List.getElem?_append_left h] at e; exact e)
theorem cut_step {H H' : Hp} {ι ι' : Z} {mg : EnvK} {S S' : Sto} (rp : Rep H ι mg S) (st : Step ι H ι' H') (rp' : Rep H' ι' mg S') (c : ClS S S') : Step ι H (ι'.cut S.length) H' ∧ Rep H' (ι'.cut S.length) mg (S'.take S.length) := by
  have hl : ι.a.length ≤ ι'.a.length := by
    rcases Nat.lt_or_ge ι'.a.length ι.a.length with h | h
    · have := st.up.pre ι'.a.length (ι.a[ι'.a.length]) (List.getElem?_eq_getElem h)
      rw [List.getElem?_eq_none (Nat.le_refl _)] at this; cases this
    · exact h
  refine ⟨⟨⟨fun m a h => ?_, st.up.tup, fun a xs n h => ⟨(st.up.lst a xs n h).1, Z.no_cut (st.up.lst a xs n h).2⟩, st.up.scr, fun a xs n h => ⟨(st.up.dct a xs n h).1, Z.no_cut (st.up.dct a xs n h).2⟩, st.up.kk, st.up.frz⟩, st.bb, st.hid⟩,
    ⟨rp'.kk, by simp [rp'.len], rp'.nd.sublist (List.take_sublist _ _), fun x hx => ⟨fun q => (rp'.bt x hx).1 (List.mem_of_mem_take q), (rp'.bt x hx).2⟩, fun m a o h1 h2 => ?_⟩⟩
  · have hm : m < S.length := by rw [← rp.len]; exact (List.getElem?_eq_some_iff.mp h).1
    show (ι'.a.take S.length)[m]? = some a
    rw [List.getElem?_take_of_lt hm]; exact st.up.pre m a h
  · have h1 : (ι'.a.take S.length)[m]? = some a := h1
    have hm : m < S.length := by
      have := (List.getElem?_eq_some_iff.mp h1).1
      simp at this; omega
    rw [List.getElem?_take_of_lt hm] at h1 h2
    refine (rp'.obj m a o h1 h2).cut _ ?_
    rcases c m o hm h2 with q | q
    · have hi : m < ι.a.length := by rw [rp.len]; exact hm
      have := (rp.obj m _ o (List.getElem?_eq_getElem hi) q).cl
      rw [rp.len] at this; exact this
    · exact q
/-! an answer without the new objects' numbers -/
mutual
def fz (rc : List D → Option (List D)) (S : Sto) (n : Nat) : D → Option D
  | .ref m => if m < n then some (.ref m) else match S[m]? with
    | some (.lst ds) => (rc ds).map .lst
    | some (.dK ks ds) => (rc ds).map (.dct ks)
    | _ => none
  | .tup ds => (fzs rc S n ds).map .tup
  | .lst ds => (fzs rc S n ds).map .lst
  | .scr ds => (fzs rc S n ds).map .scr
  | .dct ks ds => (fzs rc S n ds).map (.dct ks)
  | .non => some .non
  | .bl b => some (.bl b)
  | .int i => some (.int i)
  | .str s => some (.str s)
  | .exn a => some (.exn a)
def fzs (rc : List D → Option (List D)) (S : Sto) (n : Nat) : List D → Option (List D)
  | [] => some []
  | d :: ds => (fz rc S n d).bind fun e => (fzs rc S n ds).map (e :: ·)
end
def frz (S : Sto) (n : Nat) : Nat → List D → Option (List D)
  | 0, ds => fzs (fun _ => none) S n ds
  | k + 1, ds => fzs (frz S n k) S n ds
section
variable {H : Hp} {ι : Z} {mg : EnvK} {S : Sto} {n : Nat} {rc : List D → Option (List D)}
mutual
theorem fz_ok (rp : Rep H ι mg S) (hrc : ∀ ds es vs, rc ds = some es → RDs H ι ds vs → RDs H (ι.cut n) es vs) : ∀ (d e : D) (v : V), fz rc S n d = some e → RD H ι d v → RD H (ι.cut n) e v
  | .non, e, v, h, r => by simp only [fz, Option.some.injEq] at h; subst h; simp only [RD] at r ⊢; exact r
  | .bl _, e, v, h, r => by simp only [fz, Option.some.injEq] at h; subst h; simp only [RD] at r ⊢; exact r
  | .int _, e, v, h, r => by simp only [fz, Option.some.injEq] at h; subst h; simp only [RD] at r ⊢; exact r
  | .str _, e, v, h, r => by simp only [fz, Option.some.injEq] at h; subst h; simp only [RD] at r ⊢; exact r
  | .tup ds, e, v, h, r => by
    simp only [fz, Option.map_eq_some_iff] at h
    obtain ⟨es, h, e⟩ := h
    subst e
    simp only [RD] at r ⊢
    obtain ⟨a, vs, e, h1, z, h2⟩ := r
    have q := fzs_ok rp hrc ds es vs h h2
    exact ⟨a, vs, e, h1, by rw [q.length, ← h2.length]; exact z, q⟩
  | .lst ds, e, v, h, r => by
    simp only [fz, Option.map_eq_some_iff] at h
    obtain ⟨es, h, e⟩ := h
    subst e
    simp only [RD] at r ⊢
    obtain ⟨a, vs, e, h1, no, z, h2⟩ := r
    have q := fzs_ok rp hrc ds es vs h h2
    exact ⟨a, vs, e, h1, Z.no_cut no, by rw [q.length, ← h2.length]; exact z, q⟩
  | .scr ds, e, v, h, r => by
    simp only [fz, Option.map_eq_some_iff] at h
    obtain ⟨es, h, e⟩ := h
    subst e
    simp only [RD] at r ⊢
    obtain ⟨a, vs, e, h1, z, h2⟩ := r
    have q := fzs_ok rp hrc ds es vs h h2
    exact ⟨a, vs, e, h1, by rw [q.length, ← h2.length]; exact z, q⟩
  | .exn _, e, v, h, r => by simp only [fz, Option.some.injEq] at h; subst h; simp only [RD] at r ⊢; exact r
  | .dct ks ds, e, v, h, r => by
    simp only [fz, Option.map_eq_some_iff] at h
    obtain ⟨es, h, e⟩ := h
    subst e
    simp only [RD] at r ⊢
    obtain ⟨a, vs, e, h1, no, z, y, h2⟩ := r
    have q := fzs_ok rp hrc ds es vs h h2
    exact ⟨a, vs, e, h1, Z.no_cut no, by rw [q.length, ← h2.length]; exact z, y, q⟩
  | .ref m, e, v, h, r => by
    simp only [RD] at r
    obtain ⟨a, e1, h1⟩ := r
    simp only [fz] at h
    split at h
    · rename_i hm
      cases h
      simp only [RD]
      exact ⟨a, e1, by rw [List.getElem?_take_of_lt hm]; exact h1⟩
    · rename_i hm
      obtain ⟨o, e2, ro⟩ := rp.has h1
      have no : (ι.cut n).no a := by
        refine ⟨fun q => ?_, fun q => (rp.bt a q).1 (List.mem_of_getElem? h1)⟩
        obtain ⟨j, hj⟩ := List.getElem?_of_mem q
        have hjn : j < n := by
          have := (List.getElem?_eq_some_iff.mp hj).1
          simp at this; omega
        rw [List.getElem?_take_of_lt hjn] at hj
        obtain ⟨l1, e3⟩ := List.getElem?_eq_some_iff.mp hj
        obtain ⟨l2, e4⟩ := List.getElem?_eq_some_iff.mp h1
        have := (List.getElem_inj rp.nd).mp (e3.trans e4.symm)
        omega
      rw [e2] at h
      cases o with
      | lst ds =>
        simp only [Option.map_eq_some_iff] at h
        obtain ⟨es, h, e⟩ := h
        subst e
        obtain ⟨vs, h3, z, h4⟩ := ro
        have q := hrc ds es vs h h4
        simp only [RD]
        exact ⟨a, vs, e1, h3, no, by rw [q.length, ← h4.length]; exact z, q⟩
      | dKL ks ds => cases h
      | dK ks ds =>
        simp only [Option.map_eq_some_iff] at h
        obtain ⟨es, h, e⟩ := h
        subst e
        obtain ⟨vs, h3, z, y, h4⟩ := ro
        have q := hrc ds es vs h h4
        simp only [RD]
        exact ⟨a, vs, e1, .inl h3, no, by rw [q.length, ← h4.length]; exact z, y, q⟩
      | dT ks ds => cases h
      | ins c fs ds => cases h
theorem fzs_ok (rp : Rep H ι mg S) (hrc : ∀ ds es vs, rc ds = some es → RDs H ι ds vs → RDs H (ι.cut n) es vs) : ∀ (ds es : List D) (vs : List V), fzs rc S n ds = some es → RDs H ι ds vs → RDs H (ι.cut n) es vs
  | [], es, vs, h, r => by simp only [fzs, Option.some.injEq] at h; subst h; simp only [RDs] at r ⊢; exact r
  | d :: ds, es, vs, h, r => by
    simp only [fzs] at h
    simp only [RDs] at r
    obtain ⟨v, w, e, h1, h2⟩ := r
    cases h3 : fz rc S n d with
    | none => rw [h3] at h; cases h
    | some d' =>
      rw [h3] at h
      simp only [Option.bind_some, Option.map_eq_some_iff] at h
      obtain ⟨es', h, e'⟩ := h
      subst e' e
      exact .cons (fz_ok rp hrc d d' v h3 h1) (fzs_ok rp hrc ds es' w h h2)
end
theorem frz_ok (rp : Rep H ι mg S) : ∀ (k : Nat) (ds es : List D) (vs : List V), frz S n k ds = some es → RDs H ι ds vs → RDs H (ι.cut n) es vs
  | 0, ds, es, vs, h, r => fzs_ok rp (fun _ _ _ q => by cases q) ds es vs h r
  | k + 1, ds, es, vs, h, r => fzs_ok rp (fun _ _ _ q r => frz_ok rp k _ _ _ q r) ds es vs h r
end
open Classical in
/-- a def's new lists and dicts are changed no more behind it -/
noncomputable def finFrz (k : Nat) : Fin := fun S r => match r with
  | .ok d S' => if ClS S S' then (match frz S' S.length k [d] with
    | some [e] => .ok e (S'.take S.length)
    | _ => .stuck) else .stuck
  | .exc c S' => if ClS S S' ∧ D.cls S.length c.ds = true then .exc c (S'.take S.length) else .stuck
  | .stuck => .stuck
theorem RX.cut {H : Hp} {ι : Z} {mg : EnvK} {c : Exc} {cls : Value} {dx : Option Addr} (n : Nat) (h : RX H ι mg c cls dx) (q : D.cls n c.ds = true) : RX H (ι.cut n) mg c cls dx := by
  refine ⟨h.1, ?_⟩
  rcases h.2 with z | ⟨ne, d, vs, e1, e2, e3, r⟩
  · exact .inl z
  · exact .inr ⟨ne, d, vs, e1, e2, e3, r.cut n _ _ q⟩
theorem finFrz_ok {k : Nat} : FinOk (finFrz k) := fun mg W ι S H r Q rp g => by
  unfold finFrz at g
  cases r with
  | ok d S' =>
    simp only at g
    split at g
    · rename_i c
      intro ι' H' v st rp' rd
      obtain ⟨st2, rp2⟩ := cut_step rp st rp' c
      split at g
      · rename_i e he
        have q := frz_ok (n := S.length) rp' k [d] [e] [v] he (.cons rd .nil)
        simp only [RDs] at q
        obtain ⟨v', r', e', q, _⟩ := q
        cases e'
        exact g _ H' v st2 rp2 q
      · exact g.elim
    · exact g.elim
  | exc c S' =>
    simp only at g
    split at g
    · rename_i h
      intro ι' H' cls dx st rp' rx
      obtain ⟨st2, rp2⟩ := cut_step rp st rp' h.1
      exact g _ H' cls dx st2 rp2 (rx.cut _ h.2)
    · exact g.elim
  | stuck => exact g.elim
/-! an answer that holds one new list which the caller may change -/
structure Sub (n : Nat) (ι ι' : Z) : Prop where
  at' : ∀ (m : Nat) (a : Addr), m < n → ι.a[m]? = some a → ι'.a[m]? = some a
  no : ∀ a, ι.no a → ι'.no a
  k : ι'.k = ι.k
section
variable {H : Hp} {ι ι' : Z} {mg : EnvK} {n : Nat}
mutual
theorem RD.sub (s : Sub n ι ι') : ∀ (d : D) (v : V), RD H ι d v → D.cl n d = true → RD H ι' d v
  | .non, _, h, _ => by simp only [RD] at h ⊢; exact h
  | .bl _, _, h, _ => by simp only [RD] at h ⊢; exact h
  | .int _, _, h, _ => by simp only [RD] at h ⊢; exact h
  | .str _, _, h, _ => by simp only [RD] at h ⊢; exact h
  | .tup ds, _, h, c => by
    simp only [RD] at h ⊢; simp only [D.cl] at c
    obtain ⟨a, vs, e, h1, z, h2⟩ := h
    exact ⟨a, vs, e, h1, z, RDs.sub s ds vs h2 c⟩
  | .lst ds, _, h, c => by
    simp only [RD] at h ⊢; simp only [D.cl] at c
    obtain ⟨a, vs, e, h1, no, z, h2⟩ := h
    exact ⟨a, vs, e, h1, s.no _ no, z, RDs.sub s ds vs h2 c⟩
  | .scr ds, _, h, c => by
    simp only [RD] at h ⊢; simp only [D.cl] at c
    obtain ⟨a, vs, e, h1, z, h2⟩ := h
    exact ⟨a, vs, e, by rw [s.k]; exact h1, z, RDs.sub s ds vs h2 c⟩
  | .dct ks ds, _, h, c => by
    simp only [RD] at h ⊢; simp only [D.cl] at c
    obtain ⟨a, vs, e, h1, no, z, y, h2⟩ := h
    exact ⟨a, vs, e, h1, s.no _ no, z, y, RDs.sub s ds vs h2 c⟩
  | .ref m, _, h, c => by
    simp only [RD] at h ⊢; simp only [D.cl, decide_eq_true_eq] at c
    obtain ⟨a, e, h1⟩ := h
    exact ⟨a, e, s.at' m a c h1⟩
  | .exn _, _, h, _ => by simp only [RD] at h ⊢; exact h
theorem RDs.sub (s : Sub n ι ι') : ∀ (ds : List D) (vs : List V), RDs H ι ds vs → D.cls n ds = true → RDs H ι' ds vs
  | [], _, h, _ => by simp only [RDs] at h ⊢; exact h
  | d :: ds, _, h, c => by
    simp only [RDs] at h ⊢; simp only [D.cls, Bool.and_eq_true] at c
    obtain ⟨v, r, e, h1, h2⟩ := h
    exact ⟨v, r, e, RD.sub s d v h1 c.1, RDs.sub s ds r h2 c.2⟩
end
theorem RO.sub (s : Sub n ι ι') {a : Addr} : ∀ {o : MO}, RO H ι mg a o → o.cl n = true → RO H ι' mg a o
  | .lst ds, ⟨vs, e, z, r⟩, c => ⟨vs, e, z, r.sub s _ _ c⟩
  | .dK ks ds, ⟨vs, e, z, y, r⟩, c => ⟨vs, e, z, y, r.sub s _ _ c⟩
  | .dKL ks ds, ⟨o, vs, e, z, y, r⟩, c => ⟨o, vs, e, z, y, r.sub s _ _ c⟩
  | .dT ks ds, ⟨vs, e, z, y, r⟩, c => ⟨vs, e, z, y, r.sub s _ _ c⟩
  | .ins cc fs ds, ⟨C, dx, vs, m, e, z, r⟩, c => ⟨C, dx, vs, m, e, z, r.sub s _ _ c⟩
end
theorem keep_step {H H' : Hp} {ι ι' : Z} {mg : EnvK} {S S' : Sto} {m : Nat} {a : Addr} {ds : List D} (rp : Rep H ι mg S) (st : Step ι H ι' H') (rp' : Rep H' ι' mg S') (c : ClS S S') (hm : S.length ≤ m) (ha : ι'.a[m]? = some a) (hd : S'[m]? = some (.lst ds)) (hc : D.cls S.length ds = true) :
    ∃ ι2 : Z, Step ι H ι2 H' ∧ Rep H' ι2 mg (S'.take S.length ++ [.lst ds]) ∧ RD H' ι2 (.ref S.length) (.ref a) ∧ Sub S.length ι' ι2 := by
  obtain ⟨st2, rp2⟩ := cut_step rp st rp' c
  have hlen : (ι'.a.take S.length).length = S.length := by
    have hml : m < ι'.a.length := (List.getElem?_eq_some_iff.mp ha).1
    rw [List.length_take]; omega
  have notin : a ∉ ι'.a.take S.length := fun hmem => by
    obtain ⟨j, hj⟩ := List.getElem?_of_mem hmem
    have hjn : j < S.length := by
      have := (List.getElem?_eq_some_iff.mp hj).1
      omega
    rw [List.getElem?_take_of_lt hjn] at hj
    obtain ⟨l1, e3⟩ := List.getElem?_eq_some_iff.mp hj
    obtain ⟨l2, e4⟩ := List.getElem?_eq_some_iff.mp ha
    have := (List.getElem_inj rp'.nd).mp (e3.trans e4.symm)
    omega
  have sub : Sub S.length ι' ⟨ι'.a.take S.length ++ [a], ι'.b, ι'.k⟩ := by
    refine ⟨fun j b hj h => ?_, fun b n => ⟨fun h => ?_, n.2⟩, rfl⟩
    · show (ι'.a.take S.length ++ [a])[j]? = some b
      rw [List.getElem?_append_left (by omega), List.getElem?_take_of_lt hj]; exact h
    · rcases List.mem_append.mp h with h | h
      · exact n.1 (List.mem_of_mem_take h)
      · have : b = a := by simpa using h
        subst this
        exact n.1 (List.mem_of_getElem? ha)
  refine ⟨⟨ι'.a.take S.length ++ [a], ι'.b, ι'.k⟩, ⟨⟨fun j b h => ?_, st.up.tup, fun b xs n h => ⟨(st.up.lst b xs n h).1, sub.no _ (st.up.lst b xs n h).2⟩, st.up.scr, fun b xs n h => ⟨(st.up.dct b xs n h).1, sub.no _ (st.up.dct b xs n h).2⟩, st.up.kk, st.up.frz⟩, st.bb, st.hid⟩, ?_, ?_, sub⟩
  · have hj : j < S.length := by rw [← rp.len]; exact (List.getElem?_eq_some_iff.mp h).1
    exact sub.at' j b hj (st.up.pre j b h)
  · refine ⟨rp'.kk, by simp; have := rp'.len; have := hlen; rw [List.length_take] at this; omega, ?_, fun x hx => ⟨fun h => ?_, (rp'.bt x hx).2⟩, fun j b o h1 h2 => ?_⟩
    · rw [List.nodup_append]
      refine ⟨rp2.nd, by simp, fun x hx y hy => ?_⟩
      have : y = a := by simpa using hy
      subst this
      rintro rfl; exact notin hx
    · rcases List.mem_append.mp h with h | h
      · exact (rp'.bt x hx).1 (List.mem_of_mem_take h)
      · have : x = a := by simpa using h
        subst this
        exact (rp'.bt x hx).1 (List.mem_of_getElem? ha)
    · have h1 : (ι'.a.take S.length ++ [a])[j]? = some b := h1
      have hS : (S'.take S.length).length = S.length := by
        have := rp'.len; have := hlen; rw [List.length_take] at this ⊢; omega
      by_cases hj : j < S.length
      · rw [List.getElem?_append_left (by omega)] at h1
        rw [List.getElem?_append_left (by omega)] at h2
        rw [List.getElem?_take_of_lt hj] at h1 h2
        refine (rp'.obj j b o h1 h2).sub sub ?_
        rcases c j o hj h2 with q | q
        · have hi : j < ι.a.length := by rw [rp.len]; exact hj
          have := (rp.obj j _ o (List.getElem?_eq_getElem hi) q).cl
          rw [rp.len] at this; exact this
        · exact q
      · rw [List.getElem?_append_right (by omega)] at h1
        rw [List.getElem?_append_right (by omega)] at h2
        have e : j - S.length = 0 := by
          have := (List.getElem?_eq_some_iff.mp h1).1
          simp at this; omega
        rw [hlen, e] at h1; rw [hS, e] at h2
        simp at h1 h2; subst h1 h2
        exact (rp'.obj m a _ ha hd).sub sub hc
  · simp only [RD]
    refine ⟨a, rfl, ?_⟩
    show (ι'.a.take S.length ++ [a])[S.length]? = some a
    rw [List.getElem?_append_right (by omega), hlen]; simp
open Classical in
/-- the answer is a new list that the caller may change -/
noncomputable def finKeep : Fin := fun S r => match r with
  | .ok (.ref m) S' => match S'[m]? with
    | some (.lst ds) => if ClS S S' ∧ S.length ≤ m ∧ D.cls S.length ds = true then .ok (.ref S.length) (S'.take S.length ++ [.lst ds]) else .stuck
    | _ => .stuck
  | _ => .stuck
theorem finKeep_ok : FinOk finKeep := fun mg W ι S H r Q rp g => by
  unfold finKeep at g
  split at g
  · rename_i m S'
    split at g
    · rename_i ds hd
      split at g
      · rename_i c
        intro ι' H' v st rp' rd
        simp only [RD] at rd
        obtain ⟨a, e, h1⟩ := rd
        subst e
        obtain ⟨ι2, st2, rp2, r2, _⟩ := keep_step rp st rp' c.1 c.2.1 h1 hd c.2.2
        exact g ι2 H' _ st2 rp2 r2
      · exact g.elim
    · exact g.elim
  · exact g.elim
open Classical in
/-- the answer is a tuple with such a list at its second place -/
noncomputable def finKeepT : Fin := fun S r => match r with
  | .ok (.tup (x :: .ref m :: ys)) S' => match S'[m]? with
    | some (.lst ds) => if ClS S S' ∧ S.length ≤ m ∧ D.cls S.length ds = true ∧ D.cls S.length (x :: ys) = true then .ok (.tup (x :: .ref S.length :: ys)) (S'.take S.length ++ [.lst ds]) else .stuck
    | _ => .stuck
  | .exc c S' => if ClS S S' ∧ D.cls S.length c.ds = true then .exc c (S'.take S.length) else .stuck
  | _ => .stuck
theorem finKeepT_ok : FinOk finKeepT := fun mg W ι S H r Q rp g => by
  unfold finKeepT at g
  split at g
  · rename_i x m ys S'
    split at g
    · rename_i ds hd
      split at g
      · rename_i c
        intro ι' H' v st rp' rd
        simp only [RD, RDs] at rd
        obtain ⟨t, vs, e, h0, z, v1, r1, e1, rx, v2, r2, e2, ⟨a, e3, h1⟩, rys⟩ := rd
        subst e e1 e2 e3
        obtain ⟨ι2, st2, rp2, rr, sub⟩ := keep_step rp st rp' c.1 c.2.1 h1 hd c.2.2.1
        have hc := c.2.2.2
        simp only [D.cls, Bool.and_eq_true] at hc
        refine g ι2 H' _ st2 rp2 ?_
        simp only [RD, RDs]
        simp only [RD] at rr
        exact ⟨t, _, rfl, h0, z, v1, _, rfl, rx.sub sub _ _ hc.1, _, _, rfl, rr, rys.sub sub _ _ hc.2⟩
      · exact g.elim
    · exact g.elim
  · rename_i c S'
    split at g
    · rename_i h
      intro ι' H' cls dx st rp' rx
      obtain ⟨st2, rp2⟩ := cut_step rp st rp' h.1
      exact g _ H' cls dx st2 rp2 (rx.cut _ h.2)
    · exact g.elim
  · exact g.elim
end PM

/-! PM, part 7: operators -/
namespace PM
open PySem PySem.Spec L2 PyProof.Rows
/-! ### lists as they are read -/
def asL (S : Sto) : D → Option (List D)
  | .lst ds => some ds
  | .ref n => match S[n]? with
    | some (.lst ds) => some ds
    | _ => none
  | _ => none
def rdL (S : Sto) : D → Option (List D)
  | .scr ds => some ds
  | d => asL S d
def rdS (S : Sto) : D → Option (List D)
  | .tup ds => some ds
  | d => rdL S d
section
variable {H : Hp} {ι : Z} {mg : EnvK} {S : Sto} {d : D} {v : V} {ds : List D}
theorem asL_ok (rp : Rep H ι mg S) (r : RD H ι d v) (h : asL S d = some ds) : ∃ a vs, v = .ref a ∧ H a = some (.lst vs) ∧ RDs H ι ds vs ∧ ds.length ≤ sizeLine := by
  cases d with
  | lst es =>
    simp only [asL, Option.some.injEq] at h; subst h
    simp only [RD] at r
    obtain ⟨a, vs, e, h1, n, z, h2⟩ := r
    exact ⟨a, vs, e, h1, h2, z⟩
  | ref n =>
    simp only [RD] at r
    obtain ⟨a, e, h1⟩ := r
    obtain ⟨o, e2, ro⟩ := rp.has h1
    simp only [asL, e2] at h
    cases o with
    | lst es =>
      simp only [Option.some.injEq] at h; subst h
      obtain ⟨vs, h3, z, h4⟩ := ro
      exact ⟨a, vs, e, h3, h4, z⟩
    | _ => cases h
  | _ => cases h
theorem rdL_ok (rp : Rep H ι mg S) (r : RD H ι d v) (h : rdL S d = some ds) : ∃ a vs, v = .ref a ∧ SqL mg.K H a vs ∧ RDs H ι ds vs ∧ ds.length ≤ sizeLine := by
  cases d with
  | scr es =>
    simp only [rdL, Option.some.injEq] at h; subst h
    simp only [RD] at r
    obtain ⟨a, vs, e, h1, z, h2⟩ := r
    exact ⟨a, vs, e, scr_sq rp.kk h1, h2, z⟩
  | lst es => obtain ⟨a, vs, e, h1, h2, z⟩ := asL_ok rp r h; exact ⟨a, vs, e, .of h1, h2, z⟩
  | ref es => obtain ⟨a, vs, e, h1, h2, z⟩ := asL_ok rp r h; exact ⟨a, vs, e, .of h1, h2, z⟩
  | _ => cases h
theorem rdS_ok (rp : Rep H ι mg S) (r : RD H ι d v) (h : rdS S d = some ds) : ∃ a vs, v = .ref a ∧ (SqL mg.K H a vs ∨ SqT mg.K H a vs) ∧ RDs H ι ds vs ∧ ds.length ≤ sizeLine := by
  cases d with
  | tup es =>
    simp only [rdS, Option.some.injEq] at h; subst h
    simp only [RD] at r
    obtain ⟨a, vs, e, h1, z, h2⟩ := r
    exact ⟨a, vs, e, .inr (h1.sq), h2, z⟩
  | lst es => obtain ⟨a, vs, e, h1, h2, z⟩ := rdL_ok rp r h; exact ⟨a, vs, e, .inl h1, h2, z⟩
  | scr es => obtain ⟨a, vs, e, h1, h2, z⟩ := rdL_ok rp r h; exact ⟨a, vs, e, .inl h1, h2, z⟩
  | ref es => obtain ⟨a, vs, e, h1, h2, z⟩ := rdL_ok rp r h; exact ⟨a, vs, e, .inl h1, h2, z⟩
  | _ => cases h
end
section
variable {X : Cx}
theorem opd_int {f : Value → Value → Sem Value} {C : Int → Int → Prop} [∀ i j, Decidable (C i j)] {g : Int → Int → V} {g' : Int → Int → D} (h : OpR X f (rI C g)) (hg : ∀ H ι i j, RD H ι (g' i j) (g i j)) :
    OpD X f (fun x y S => match x, y with
      | .int i, .int j => if C i j then .ok (g' i j) S else .stuck
      | _, _ => .stuck) := by
  refine ⟨_, h, fun W ι S H x y dx dy Q rp rx ry q => ?_⟩
  dsimp only at q
  split at q
  · rename_i i j
    split at q
    · simp only [RD] at rx ry
      exact ⟨i, j, rx, ry, by assumption, q.here rp (hg _ _ i j)⟩
    · exact q.elim
  · exact q.elim
theorem opd_int0 {f : Value → Value → Sem Value} {g : Int → Int → V} {g' : Int → Int → D} (h : OpR X f (rI0 g)) (hg : ∀ H ι i j, RD H ι (g' i j) (g i j)) :
    OpD X f (fun x y S => match x, y with
      | .int i, .int j => .ok (g' i j) S
      | _, _ => .stuck) := by
  refine ⟨_, h, fun W ι S H x y dx dy Q rp rx ry q => ?_⟩
  dsimp only at q
  split at q
  · rename_i i j
    simp only [RD] at rx ry
    exact ⟨i, j, rx, ry, q.here rp (hg _ _ i j)⟩
  · exact q.elim
def opSub (x y : D) (S : Sto) : R D := match x, y with
  | .int i, .int j => .ok (.int (i - j)) S
  | _, _ => .stuck
theorem opSub_ok : OpD X (binaryOp .Sub) opSub := opd_int0 op_sub fun _ _ _ _ => by simp only [RD]
instance (i j : Int) : Decidable (CDiv i j) := by unfold CDiv; infer_instance
instance (i j : Int) : Decidable (CPow i j) := by unfold CPow; infer_instance
instance (i j : Int) : Decidable (CMul i j) := by unfold CMul; infer_instance
def opDiv (x y : D) (S : Sto) : R D := match x, y with
  | .int i, .int j => if CDiv i j then .ok (.int (i / j)) S else .stuck
  | _, _ => .stuck
theorem opDiv_ok : OpD X (binaryOp .FloorDiv) opDiv := opd_int op_fdiv fun _ _ _ _ => by simp only [RD]
def opMod (x y : D) (S : Sto) : R D := match x, y with
  | .int i, .int j => if 0 < j then .ok (.int (i % j)) S else .stuck
  | _, _ => .stuck
theorem opMod_ok : OpD X (binaryOp .Mod) opMod := opd_int (C := fun _ j => 0 < j) op_mod fun _ _ _ _ => by simp only [RD]
def opPow (x y : D) (S : Sto) : R D := match x, y with
  | .int i, .int j => if CPow i j then .ok (.int (i ^ j.toNat)) S else .stuck
  | _, _ => .stuck
theorem opPow_ok : OpD X (binaryOp .Pow) opPow := opd_int op_pow fun _ _ _ _ => by simp only [RD]
def opLt (x y : D) (S : Sto) : R D := match x, y with
  | .int i, .int j => .ok (.bl (decide (i < j))) S
  | _, _ => .stuck
theorem opLt_ok : OpD X (compareOp .Lt) opLt := opd_int0 op_lt fun _ _ _ _ => by simp only [RD]
def opLe (x y : D) (S : Sto) : R D := match x, y with
  | .int i, .int j => .ok (.bl (decide (i ≤ j))) S
  | _, _ => .stuck
theorem opLe_ok : OpD X (compareOp .LtE) opLe := opd_int0 op_le fun _ _ _ _ => by simp only [RD]
def opGt (x y : D) (S : Sto) : R D := match x, y with
  | .int i, .int j => .ok (.bl (decide (j < i))) S
  | _, _ => .stuck
theorem opGt_ok : OpD X (compareOp .Gt) opGt := opd_int0 op_gt fun _ _ _ _ => by simp only [RD]
/-- >= of numbers, of texts -/
def opGe (x y : D) (S : Sto) : R D := match x, y with
  | .int i, .int j => .ok (.bl (decide (j ≤ i))) S
  | .str i, .str j => .ok (.bl (!decide (i.cps.toList < j.cps.toList))) S
  | _, _ => .stuck
theorem opGe_ok : OpD X (compareOp .GtE) opGe := by
  refine ⟨_, op_ge.or op_ge_str, fun W ι S H x y dx dy Q rp rx ry q => ?_⟩
  unfold opGe at q
  split at q
  · rename_i i j
    simp only [RD] at rx ry
    exact .inl ⟨i, j, rx, ry, q.here rp (by simp only [RD])⟩
  · rename_i i j
    simp only [RD] at rx ry
    exact .inr ⟨i, j, rx.1, ry.1, q.here rp (by simp only [RD])⟩
  · exact q.elim
def opAdd (x y : D) (S : Sto) : R D := match x, y with
  | .int i, .int j => .ok (.int (i + j)) S
  | .str a, .str b => if a.length + b.length ≤ sizeLine then .ok (.str (a ++ b)) S else .stuck
  | .tup a, .tup b => newTup (a ++ b) S
  | x, y => match asL S x, asL S y with
    | some a, some b => newLst (a ++ b) S
    | _, _ => .stuck
theorem str_len_app (a b : Str) : (a ++ b).length = a.length + b.length := by
  show (a.cps ++ b.cps).size = _
  simp [Array.size_append]; rfl
theorem opAdd_ok : OpD X (binaryOp .Add) opAdd := by
  refine ⟨_, op_add.or (op_add_str.or (op_catF.or op_cat)), fun W ι S H x y dx dy Q rp rx ry q => ?_⟩
  unfold opAdd at q
  split at q
  · rename_i i j
    simp only [RD] at rx ry
    exact .inl ⟨i, j, rx, ry, q.here rp (by simp only [RD])⟩
  · rename_i a b
    split at q
    · rename_i h
      simp only [RD] at rx ry
      exact .inr (.inl ⟨a, b, rx.1, ry.1, h, q.here rp (by simp only [RD]; exact ⟨trivial, by rw [str_len_app]; exact h⟩)⟩)
    · exact q.elim
  · rename_i a b
    have rx' := rx
    have ry' := ry
    simp only [RD] at rx ry
    obtain ⟨p, vs, e1, h1, z1, r1⟩ := rx
    obtain ⟨p2, vs2, e2, h2, z2, r2⟩ := ry
    have hz : (a ++ b).length ≤ sizeLine := by
      unfold newTup at q
      split at q
      · assumption
      · exact q.elim
    have q' := g_newTup q rp (r1.app r2)
    refine .inr (.inr (.inl ⟨p, p2, vs, vs2, e1, e2, h1.sq, h2.sq, by rw [← r1.length, ← r2.length, ← List.length_append]; exact hz, fun z => ?_, fun _ z => ?_, fun _ _ => q'.2⟩))
    · unfold newTup at q
      rw [if_pos hz] at q
      subst z
      have : a = [] := List.length_eq_zero_iff.mp (by rw [r1.length]; rfl)
      subst this
      rw [← e2]
      exact q.here rp (by simpa using ry')
    · unfold newTup at q
      rw [if_pos hz] at q
      subst z
      have : b = [] := List.length_eq_zero_iff.mp (by rw [r2.length]; rfl)
      subst this
      rw [← e1]
      exact q.here rp (by simpa using rx')
  · split at q
    · rename_i a b ha hb
      obtain ⟨p, vs, e1, h1, r1, z1⟩ := asL_ok rp rx ha
      obtain ⟨p2, vs2, e2, h2, r2, z2⟩ := asL_ok rp ry hb
      have q' := g_newLst q rp (r1.app r2)
      exact .inr (.inr (.inr ⟨p, p2, vs, vs2, e1, e2, h1, h2, by rw [← List.length_append]; exact q'.1, q'.2⟩))
    · exact q.elim
/-- the same, a list that may be changed -/
def opAddR (x y : D) (S : Sto) : R D := match asL S x, asL S y with
  | some a, some b => newRef (a ++ b) S
  | _, _ => .stuck
theorem opAddR_ok : OpD X (binaryOp .Add) opAddR := by
  refine ⟨_, op_cat, fun W ι S H x y dx dy Q rp rx ry q => ?_⟩
  unfold opAddR at q
  split at q
  · rename_i a b ha hb
    obtain ⟨p, vs, e1, h1, r1, z1⟩ := asL_ok rp rx ha
    obtain ⟨p2, vs2, e2, h2, r2, z2⟩ := asL_ok rp ry hb
    have q' := g_newRef q rp (r1.app r2)
    exact ⟨p, p2, vs, vs2, e1, e2, h1, h2, by rw [← List.length_append]; exact q'.1, q'.2⟩
  · exact q.elim
def opMul (x y : D) (S : Sto) : R D := match x, y with
  | .int i, .int j => if CMul i j then .ok (.int (i * j)) S else .stuck
  | x, .int k => match asL S x with
    | some ds => if -(2 ^ 63) ≤ k ∧ k < 2 ^ 63 ∧ ds.length * k.toNat ≤ sizeLine then newLst (List.replicate k.toNat ds).flatten S else .stuck
    | none => .stuck
  | _, _ => .stuck
theorem rds_flat {H : Hp} {ι : Z} {ds : List D} {vs : List V} (r : RDs H ι ds vs) : ∀ k : Nat, RDs H ι (List.replicate k ds).flatten (List.replicate k vs).flatten
  | 0 => by simpa using RDs.nil
  | k + 1 => by rw [List.replicate_succ, List.replicate_succ, List.flatten_cons, List.flatten_cons]; exact r.app (rds_flat r k)
theorem opMul_ok : OpD X (binaryOp .Mult) opMul := by
  refine ⟨_, op_mul.or op_rep, fun W ι S H x y dx dy Q rp rx ry q => ?_⟩
  unfold opMul at q
  split at q
  · rename_i i j
    split at q
    · simp only [RD] at rx ry
      exact .inl ⟨i, j, rx, ry, by assumption, q.here rp (by simp only [RD])⟩
    · exact q.elim
  · rename_i k _
    split at q
    · rename_i ds hds
      split at q
      · rename_i h
        obtain ⟨p, vs, e1, h1, r1, z1⟩ := asL_ok rp rx hds
        simp only [RD] at ry
        have q' := g_newLst q rp (rds_flat r1 k.toNat)
        exact .inr ⟨p, k, vs, e1, ry, h1, h.1, h.2.1, by rw [← r1.length]; exact h.2.2, q'.2⟩
      · exact q.elim
    · exact q.elim
  · exact q.elim
/-! ### ==, != -/
section
variable (rc : List D → Option (List PyData)) (S : Sto)
mutual
def tp : D → Option PyData
  | .non => some .none
  | .bl b => some (.bool b)
  | .int i => some (.int i)
  | .str s => some (.str s)
  | .tup ds => (tps ds).map .tuple
  | .lst ds => (tps ds).map .list
  | .scr ds => (tps ds).map .list
  | .dct _ _ => none
  | .exn _ => none
  | .ref n => match S[n]? with
    | some (.lst ds) => (rc ds).map .list
    | _ => none
def tps : List D → Option (List PyData)
  | [] => some []
  | d :: ds => (tp d).bind fun e => (tps ds).map (e :: ·)
end
end
/-- the data behind, numbers of objects looked up k times -/
def tpk (S : Sto) : Nat → List D → Option (List PyData)
  | 0, ds => tps (fun _ => none) S ds
  | k + 1, ds => tps (tpk S k) S ds
def tpd (S : Sto) (d : D) : Option PyData := tp (tpk S 1) S d
section
variable {H : Hp} {ι : Z} {mg : EnvK} {S : Sto} {rc : List D → Option (List PyData)}
mutual
theorem tp_ok (rp : Rep H ι mg S) (hrc : ∀ ds es vs, rc ds = some es → RDs H ι ds vs → DpAll mg.K H vs es) : ∀ (d : D) (e : PyData) (v : V), tp rc S d = some e → RD H ι d v → Dp mg.K H v e
  | .non, e, v, h, r => by simp only [tp, Option.some.injEq] at h; subst h; simp only [RD] at r; subst r; exact .non
  | .bl b, e, v, h, r => by simp only [tp, Option.some.injEq] at h; subst h; simp only [RD] at r; subst r; exact .bl b
  | .int i, e, v, h, r => by simp only [tp, Option.some.injEq] at h; subst h; simp only [RD] at r; subst r; exact .int i
  | .str s, e, v, h, r => by simp only [tp, Option.some.injEq] at h; subst h; simp only [RD] at r; rw [r.1]; exact .str s
  | .tup ds, e, v, h, r => by
    simp only [tp, Option.map_eq_some_iff] at h
    obtain ⟨es, h, e⟩ := h
    subst e
    simp only [RD] at r
    obtain ⟨a, vs, e, h1, z, h2⟩ := r
    subst e
    exact .tup h1.sq (tps_ok rp hrc ds es vs h h2)
  | .lst ds, e, v, h, r => by
    simp only [tp, Option.map_eq_some_iff] at h
    obtain ⟨es, h, e⟩ := h
    subst e
    simp only [RD] at r
    obtain ⟨a, vs, e, h1, no, z, h2⟩ := r
    subst e
    exact .lst (.of h1) (tps_ok rp hrc ds es vs h h2)
  | .scr ds, e, v, h, r => by
    simp only [tp, Option.map_eq_some_iff] at h
    obtain ⟨es, h, e⟩ := h
    subst e
    simp only [RD] at r
    obtain ⟨a, vs, e, h1, z, h2⟩ := r
    subst e
    exact .lst (scr_sq rp.kk h1) (tps_ok rp hrc ds es vs h h2)
  | .dct ks ds, e, v, h, r => by simp only [tp] at h; cases h
  | .exn _, e, v, h, r => by simp only [tp] at h; cases h
  | .ref m, e, v, h, r => by
    simp only [RD] at r
    obtain ⟨a, e1, h1⟩ := r
    subst e1
    obtain ⟨o, e2, ro⟩ := rp.has h1
    simp only [tp, e2] at h
    cases o with
    | lst ds =>
      simp only [Option.map_eq_some_iff] at h
      obtain ⟨es, h, e⟩ := h
      subst e
      obtain ⟨vs, h3, z, h4⟩ := ro
      exact .lst (.of h3) (hrc ds es vs h h4)
    | _ => cases h
theorem tps_ok (rp : Rep H ι mg S) (hrc : ∀ ds es vs, rc ds = some es → RDs H ι ds vs → DpAll mg.K H vs es) : ∀ (ds : List D) (es : List PyData) (vs : List V), tps rc S ds = some es → RDs H ι ds vs → DpAll mg.K H vs es
  | [], es, vs, h, r => by simp only [tps, Option.some.injEq] at h; subst h; simp only [RDs] at r; subst r; exact .nil
  | d :: ds, es, vs, h, r => by
    simp only [tps] at h
    simp only [RDs] at r
    obtain ⟨v, w, e, h1, h2⟩ := r
    subst e
    cases h3 : tp rc S d with
    | none => rw [h3] at h; cases h
    | some d' =>
      rw [h3] at h
      simp only [Option.bind_some, Option.map_eq_some_iff] at h
      obtain ⟨es', h, e'⟩ := h
      subst e'
      exact .cons (tp_ok rp hrc d d' v h3 h1) (tps_ok rp hrc ds es' w h h2)
end
theorem tpk_ok (rp : Rep H ι mg S) : ∀ (k : Nat) (ds : List D) (es : List PyData) (vs : List V), tpk S k ds = some es → RDs H ι ds vs → DpAll mg.K H vs es
  | 0, ds, es, vs, h, r => tps_ok rp (fun _ _ _ q => by cases q) ds es vs h r
  | k + 1, ds, es, vs, h, r => tps_ok rp (fun _ _ _ q r => tpk_ok rp k _ _ _ q r) ds es vs h r
theorem tpd_ok (rp : Rep H ι mg S) {d : D} {e : PyData} {v : V} (h : tpd S d = some e) (r : RD H ι d v) : Dp mg.K H v e := tp_ok rp (fun _ _ _ q r => tpk_ok rp 1 _ _ _ q r) d e v h r
end
/-- atoms, told apart without more -/
def scalD : D → D → Option Bool
  | .non, .non => some true | .non, .int _ => some false | .int _, .non => some false | .non, .bl _ => some false | .bl _, .non => some false | .non, .str _ => some false | .str _, .non => some false
  | .int i, .int j => some (decide (i = j)) | .bl i, .bl j => some (decide (i = j)) | .str i, .str j => some (decide (i = j))
  | .int _, .str _ => some false | .str _, .int _ => some false | .bl _, .str _ => some false | .str _, .bl _ => some false
  | _, _ => none
theorem scalD_ok {H : Hp} {ι : Z} {dx dy : D} {x y : V} {k : Bool} (h : scalD dx dy = some k) (rx : RD H ι dx x) (ry : RD H ι dy y) : scal x y = true ∧ decide (x = y) = k := by
  unfold scalD at h
  split at h <;> first
    | (cases h; done)
    | (simp only [Option.some.injEq] at h; subst h; simp only [RD] at rx ry; first | (subst rx; subst ry; exact ⟨rfl, by simp⟩) | (obtain ⟨rx, _⟩ := rx; subst rx; subst ry; exact ⟨rfl, by simp⟩) | (obtain ⟨ry, _⟩ := ry; subst rx; subst ry; exact ⟨rfl, by simp⟩) | (obtain ⟨rx, _⟩ := rx; obtain ⟨ry, _⟩ := ry; subst rx; subst ry; exact ⟨rfl, by simp⟩))
/-- are they equal? -/
def eqD (S : Sto) (x y : D) : Option Bool := match scalD x y with
  | some k => some k
  | none => match tpd S x, tpd S y with
    | some p, some q => if SeqAt.shaped p = true ∧ SeqAt.shaped q = true then some (p.eqv q) else none
    | _, _ => none
def opEq (x y : D) (S : Sto) : R D := match eqD S x y with
  | some k => .ok (.bl k) S
  | none => .stuck
def opNe (x y : D) (S : Sto) : R D := match eqD S x y with
  | some k => .ok (.bl (!k)) S
  | none => .stuck
theorem opEq_ok (hr : Ru X.A) : OpD X (compareOp .Eq) opEq := by
  refine ⟨_, op_eq.or (op_eqD hr.units), fun W ι S H x y dx dy Q rp rx ry q => ?_⟩
  unfold opEq eqD at q
  split at q
  · rename_i k hk
    split at hk
    · rename_i k' hs
      cases hk
      obtain ⟨h1, h2⟩ := scalD_ok hs rx ry
      exact .inl ⟨h1, q.here rp (by simp only [RD]; rw [h2])⟩
    · split at hk
      · rename_i p p' hp hp'
        split at hk
        · rename_i hsh
          cases hk
          exact .inr ⟨p, p', tpd_ok rp hp rx, tpd_ok rp hp' ry, hsh.1, hsh.2, q.here rp (by simp only [RD])⟩
        · cases hk
      · cases hk
  · exact q.elim
theorem opNe_ok (hr : Ru X.A) : OpD X (compareOp .NotEq) opNe := by
  refine ⟨_, op_ne.or (op_neD hr.units), fun W ι S H x y dx dy Q rp rx ry q => ?_⟩
  unfold opNe eqD at q
  split at q
  · rename_i k hk
    split at hk
    · rename_i k' hs
      cases hk
      obtain ⟨h1, h2⟩ := scalD_ok hs rx ry
      exact .inl ⟨h1, q.here rp (by simp only [RD]; rw [h2])⟩
    · split at hk
      · rename_i p p' hp hp'
        split at hk
        · rename_i hsh
          cases hk
          exact .inr ⟨p, p', tpd_ok rp hp rx, tpd_ok rp hp' ry, hsh.1, hsh.2, q.here rp (by simp only [RD])⟩
        · cases hk
      · cases hk
  · exact q.elim
/-! ### is None -/
def isNon : D → Bool
  | .non => true
  | _ => false
def opIsN (x y : D) (S : Sto) : R D := match y with
  | .non => .ok (.bl (isNon x)) S
  | _ => .stuck
def opNotN (x y : D) (S : Sto) : R D := match y with
  | .non => .ok (.bl (!isNon x)) S
  | _ => .stuck
theorem isNon_ok {H : Hp} {ι : Z} {d : D} {v : V} (r : RD H ι d v) : decide (v = .non) = isNon d := by
  cases d <;> simp only [RD] at r
  · subst r; rfl
  · subst r; rfl
  · subst r; rfl
  · rw [r.1]; rfl
  all_goals first | (subst r; rfl) | (obtain ⟨a, r⟩ := r; first | (obtain ⟨vs, r, _⟩ := r; subst r; rfl) | (obtain ⟨r, _⟩ := r; subst r; rfl))
theorem opIsN_ok : OpD X (compareOp .Is) opIsN := by
  refine ⟨_, op_isN, fun W ι S H x y dx dy Q rp rx ry q => ?_⟩
  unfold opIsN at q
  split at q
  · simp only [RD] at ry
    exact ⟨ry, q.here rp (by simp only [RD]; rw [isNon_ok rx])⟩
  · exact q.elim
theorem opNotN_ok : OpD X (compareOp .IsNot) opNotN := by
  refine ⟨_, op_notN, fun W ι S H x y dx dy Q rp rx ry q => ?_⟩
  unfold opNotN at q
  split at q
  · simp only [RD] at ry
    exact ⟨ry, q.here rp (by simp only [RD]; rw [isNon_ok rx])⟩
  · exact q.elim
end
end PM

/-! PM, part 8: dicts, subscripts, slices, built-in calls, methods -/
namespace PM
open PySem PySem.Spec L2 PyProof.Rows
/-! ### tables -/
def OV (H : Hp) (ι : Z) : Option D → Option V → Prop
  | some x, ov => ∃ w, ov = some w ∧ RD H ι x w
  | none, ov => ov = none
section
variable {κ : Type} [DecidableEq κ]
def getK : List κ → List D → κ → Option D
  | k :: ks, d :: ds, j => if k = j then some d else getK ks ds j
  | _, _, _ => none
def insK (ks : List κ) (k : κ) : List κ := if k ∈ ks then ks else ks ++ [k]
def insD (ks : List κ) (ds : List D) (k : κ) (d : D) : List D := if k ∈ ks then List.zipWith (fun j x => if j = k then d else x) ks ds else ds ++ [d]
theorem getK_val {H : Hp} {ι : Z} {k : κ} : ∀ {ks : List κ} {ds : List D} {vs : List V}, ks.length = ds.length → RDs H ι ds vs → OV H ι (getK ks ds k) (valV (ks.zip vs) k)
  | [], [], vs, _, r => by simp only [getK, List.zip_nil_left]; rfl
  | j :: ks, d :: ds, vs, h, r => by
    simp only [RDs] at r
    obtain ⟨v, w, e, r1, r2⟩ := r
    subst e
    simp only [getK, List.zip_cons_cons]
    by_cases hj : j = k
    · rw [if_pos hj, valV_pos (p := (j, v)) hj]
      exact ⟨v, rfl, r1⟩
    · rw [if_neg hj, valV_neg (p := (j, v)) hj]
      exact getK_val (by simpa using h) r2
theorem zip_any {k : κ} : ∀ {ks : List κ} {vs : List V}, ks.length = vs.length → ((ks.zip vs).any fun kv => decide (kv.1 = k)) = decide (k ∈ ks)
  | [], [], _ => by simp
  | j :: ks, v :: vs, h => by
    rw [List.zip_cons_cons, List.any_cons, zip_any (by simpa using h)]
    by_cases hj : j = k
    · simp [hj]
    · have : ¬ k = j := fun e => hj e.symm
      simp [hj, this]
theorem insK_put {H : Hp} {ι : Z} {k : κ} {d : D} {v : V} {ks : List κ} {ds : List D} {vs : List V} (h : ks.length = ds.length) (r : RDs H ι ds vs) (rd : RD H ι d v) :
    ∃ ws, putK (ks.zip vs) k v = (insK ks k).zip ws ∧ (insK ks k).length = (insD ks ds k d).length ∧ RDs H ι (insD ks ds k d) ws := by
  have hl : ks.length = vs.length := by rw [h, r.length]
  unfold putK insK insD
  rw [zip_any hl]
  by_cases hk : k ∈ ks
  · rw [if_pos (by simpa using hk), if_pos hk, if_pos hk]
    refine ⟨List.zipWith (fun j x => if j = k then v else x) ks vs, ?_, by simp [h], ?_⟩
    · clear hk h r
      induction ks generalizing vs with
      | nil => rfl
      | cons j ks ih =>
        cases vs with
        | nil => cases hl
        | cons x vs =>
          rw [List.zip_cons_cons, List.map_cons, List.zipWith_cons_cons, List.zip_cons_cons, ih (by simpa using hl)]
          by_cases hj : j = k
          · rw [if_pos hj, if_pos hj]
          · rw [if_neg hj, if_neg hj]
    · clear hk
      induction ks generalizing ds vs with
      | nil => exact .nil
      | cons j ks ih =>
        cases ds with
        | nil => cases h
        | cons x ds =>
          simp only [RDs] at r
          obtain ⟨y, w, e, r1, r2⟩ := r
          subst e
          rw [List.zipWith_cons_cons, List.zipWith_cons_cons]
          refine .cons ?_ (ih (by simpa using h) r2 (by simpa using hl))
          by_cases hj : j = k
          · rw [if_pos hj, if_pos hj]; exact rd
          · rw [if_neg hj, if_neg hj]; exact r1
  · rw [if_neg (by simpa using hk), if_neg hk, if_neg hk]
    exact ⟨vs ++ [v], by rw [List.zip_append hl]; rfl, by simp [h], r.app (.cons rd .nil)⟩
end
def keyOf : D → Option Key
  | .int i => some (.inl i)
  | .str s => some (.inr s)
  | _ => none
def keysOf : List D → Option (List Key)
  | [] => some []
  | d :: ds => (keyOf d).bind fun k => (keysOf ds).map (k :: ·)
def tkeyOf : D → Option (List Key)
  | _ => none
theorem keyOf_ok {H : Hp} {ι : Z} {d : D} {v : V} {k : Key} (r : RD H ι d v) (h : keyOf d = some k) : v = kV k := by
  cases d <;> simp only [keyOf, Option.some.injEq] at h <;> first | (cases h; done) | (subst h; simp only [RD] at r; first | exact r | exact r.1)
theorem keysOf_ok {H : Hp} {ι : Z} : ∀ {ds : List D} {vs : List V} {k : List Key}, RDs H ι ds vs → keysOf ds = some k → vs = k.map kV
  | [], vs, k, r, h => by simp only [keysOf, Option.some.injEq] at h; subst h; simp only [RDs] at r; exact r
  | d :: ds, vs, k, r, h => by
    simp only [RDs] at r
    obtain ⟨v, w, e, r1, r2⟩ := r
    subst e
    simp only [keysOf] at h
    cases h1 : keyOf d with
    | none => rw [h1] at h; cases h
    | some k1 =>
      rw [h1] at h
      simp only [Option.bind_some, Option.map_eq_some_iff] at h
      obtain ⟨ks, h2, e⟩ := h
      subst e
      rw [keyOf_ok r1 h1, keysOf_ok r2 h2]; rfl
theorem tkeyOf_ok {H : Hp} {ι : Z} {d : D} {v : V} {k : List Key} (r : RD H ι d v) (h : tkeyOf d = some k) : ∃ b, v = .ref b ∧ H b = some (.tup (k.map kV)) := by
  cases h
def dkOf (S : Sto) : D → Option (List Key × List D)
  | .dct ks ds => some (ks, ds)
  | .ref n => match S[n]? with
    | some (.dK ks ds) => some (ks, ds)
    | some (.dKL ks ds) => some (ks, ds)
    | _ => none
  | _ => none
def dtOf (S : Sto) : D → Option (List (List Key) × List D)
  | .ref n => match S[n]? with
    | some (.dT ks ds) => some (ks, ds)
    | _ => none
  | _ => none
section
variable {H : Hp} {ι : Z} {mg : EnvK} {S : Sto} {d e : D} {v u : V}
theorem dkOf_ok {p : List Key × List D} (rp : Rep H ι mg S) (r : RD H ι d v) (h : dkOf S d = some p) : ∃ a vs, v = .ref a ∧ Rd H a (.dK (p.1.zip vs)) ∧ p.1.length = p.2.length ∧ RDs H ι p.2 vs := by
  cases d with
  | dct ks ds =>
    simp only [dkOf, Option.some.injEq] at h; subst h
    simp only [RD] at r
    obtain ⟨a, vs, e, h1, n, z, y, h2⟩ := r
    exact ⟨a, vs, e, h1, z, h2⟩
  | ref n =>
    simp only [RD] at r
    obtain ⟨a, e, h1⟩ := r
    obtain ⟨o, e2, ro⟩ := rp.has h1
    simp only [dkOf, e2] at h
    cases o with
    | dK ks ds =>
      simp only [Option.some.injEq] at h; subst h
      obtain ⟨vs, h3, z, y, h4⟩ := ro
      exact ⟨a, vs, e, .inl h3, z, h4⟩
    | dKL ks ds =>
      simp only [Option.some.injEq] at h; subst h
      obtain ⟨o, vs, h3, z, y, h4⟩ := ro
      exact ⟨a, vs, e, .inr ⟨o, h3⟩, z, h4⟩
    | _ => cases h
  | _ => cases h
theorem dtOf_ok {p : List (List Key) × List D} (rp : Rep H ι mg S) (r : RD H ι d v) (h : dtOf S d = some p) : ∃ a vs, v = .ref a ∧ H a = some (.dT (p.1.zip vs)) ∧ p.1.length = p.2.length ∧ RDs H ι p.2 vs := by
  cases d with
  | ref n =>
    simp only [RD] at r
    obtain ⟨a, e, h1⟩ := r
    obtain ⟨o, e2, ro⟩ := rp.has h1
    simp only [dtOf, e2] at h
    cases o with
    | dT ks ds =>
      simp only [Option.some.injEq] at h; subst h
      obtain ⟨vs, h3, z, y, h4⟩ := ro
      exact ⟨a, vs, e, h3, z, h4⟩
    | _ => cases h
  | _ => cases h
/-- what a dict has at a key -/
def dget (S : Sto) (x y : D) : Option (Option D) := match dkOf S x with
  | some p => match keyOf y with
    | some k => some (getK p.1 p.2 k)
    | none => none
  | none => match dtOf S x with
    | some p => match tkeyOf y with
      | some k => some (getK p.1 p.2 k)
      | none => none
    | none => none
theorem dget_ok {o : Option D} (rp : Rep H ι mg S) (r : RD H ι d v) (rk : RD H ι e u) (h : dget S d e = some o) : ∃ a ov, v = .ref a ∧ DGet H a u ov ∧ OV H ι o ov := by
  unfold dget at h
  split at h
  · rename_i p hp
    split at h
    · rename_i k hk
      cases h
      obtain ⟨a, vs, e1, h1, h2, h3⟩ := dkOf_ok rp r hp
      exact ⟨a, valV (p.1.zip vs) k, e1, .inl ⟨_, k, h1, keyOf_ok rk hk, rfl⟩, getK_val (k := k) h2 h3⟩
    · cases h
  · split at h
    · rename_i p hp
      split at h
      · rename_i k hk
        cases h
        obtain ⟨a, vs, e1, h1, h2, h3⟩ := dtOf_ok rp r hp
        obtain ⟨b, e2, h4⟩ := tkeyOf_ok rk hk
        exact ⟨a, valV (p.1.zip vs) k, e1, .inr ⟨_, k, b, .inl h1, e2, h4, rfl⟩, getK_val (k := k) h2 h3⟩
      · cases h
    · cases h
end
/-! ### in -/
def isFlat : D → Bool
  | .non => true | .bl _ => true | .int _ => true | .str _ => true
  | _ => false
def scalAny (x : D) : List D → Option Bool
  | [] => some false
  | d :: ds => (scalD d x).bind fun k => (scalAny x ds).map (k || ·)
theorem eqV_scal {x y : V} (h : scal x y = true) (f : flatV x = true) : eqV x y = decide (x = y) := by
  cases x <;> cases y <;> first | (cases h; done) | (cases f; done) | rfl | (simp only [eqV, V.bl.injEq, V.int.injEq, V.str.injEq]; exact Bool.beq_eq_decide_eq _ _)
theorem flat_v {H : Hp} {ι : Z} {d : D} {v : V} (r : RD H ι d v) (h : isFlat d = true) : flatV v = true := by
  cases d <;> simp only [RD] at r <;> first | (cases h; done) | (subst r; rfl) | (rw [r.1]; rfl)
theorem scalD_flat {d x : D} {k : Bool} (h : scalD d x = some k) : isFlat d = true := by
  cases d <;> cases x <;> first | rfl | cases h
theorem scalAny_ok {H : Hp} {ι : Z} {x : D} {v : V} (r : RD H ι x v) (fx : flatV v = true) : ∀ {ds : List D} {vs : List V} {k : Bool}, RDs H ι ds vs → scalAny x ds = some k → vs.all flatV = true ∧ inV v vs = k
  | [], vs, k, rs, h => by simp only [scalAny, Option.some.injEq] at h; subst h; simp only [RDs] at rs; subst rs; exact ⟨rfl, rfl⟩
  | d :: ds, vs, k, rs, h => by
    simp only [RDs] at rs
    obtain ⟨w, r2, e, r3, r4⟩ := rs
    subst e
    simp only [scalAny] at h
    cases h1 : scalD d x with
    | none => rw [h1] at h; cases h
    | some k1 =>
      rw [h1] at h
      simp only [Option.bind_some, Option.map_eq_some_iff] at h
      obtain ⟨k2, h2, e⟩ := h
      subst e
      obtain ⟨q1, q2⟩ := scalAny_ok r fx r4 h2
      obtain ⟨s1, s2⟩ := scalD_ok h1 r3 r
      have fw : flatV w = true := flat_v r3 (scalD_flat h1)
      have t1 := eqV_scal s1 fw
      refine ⟨by rw [List.all_cons, fw, q1]; rfl, ?_⟩
      show (eqV w v || inV v r2) = _
      rw [t1, s2, q2]
/-- is x in y? -/
def inDa (S : Sto) (x y : D) : Option Bool := match x, y with
  | .str a, .str z => match a.cps.toList with
    | [c] => some (decide (c ∈ z.cps.toList))
    | _ => none
  | x, y => match dget S y x with
    | some o => some o.isSome
    | none => match rdS S y with
      | some ds => match (if isFlat x = true then scalAny x ds else none) with
        | some k => some k
        | none => match tpd S x, tpd S y with
          | some p, some (.list ps) => if SeqAt.shaped p = true ∧ SeqAt.shaped (.list ps) = true then some (ps.any fun z => PyData.eqv z p) else none
          | _, _ => none
      | none => none
def opIn (x y : D) (S : Sto) : R D := match inDa S x y with
  | some k => .ok (.bl k) S
  | none => .stuck
def opNotIn (x y : D) (S : Sto) : R D := match inDa S x y with
  | some k => .ok (.bl (!k)) S
  | none => .stuck
section
variable {X : Cx}
theorem op_din (hu : X.A.units + 1 < cLine) : OpR X (compareOp .In) (fun y x H Q => ∃ a o, x = .ref a ∧ DGet H a y o ∧ Q (.bl o.isSome) H) := by
  intro pins s σ H x y v u Q I rx ry h
  obtain ⟨a, o, e, g, q⟩ := h
  subst e
  cases ry
  exact d_in hu I g rx fun s3 I3 => ⟨.bl o.isSome, H, I3, rfl, q⟩
theorem op_dnotin (hu : X.A.units + 1 < cLine) : OpR X (compareOp .NotIn) (fun y x H Q => ∃ a o, x = .ref a ∧ DGet H a y o ∧ Q (.bl (!o.isSome)) H) := by
  intro pins s σ H x y v u Q I rx ry h
  obtain ⟨a, o, e, g, q⟩ := h
  subst e
  cases ry
  exact d_notIn hu I g rx fun s3 I3 => ⟨.bl (!o.isSome), H, I3, rfl, q⟩
/-- what stands behind inDa's answer -/
theorem inDa_ok {H : Hp} {ι : Z} {S : Sto} {x y : D} {v u : V} {k : Bool} (rp : Rep H ι X.ek S) (rx : RD H ι x v) (ry : RD H ι y u) (h : inDa S x y = some k) :
    (∃ (c : Nat) (z : Str), v = .str ⟨#[c]⟩ ∧ u = .str z ∧ k = decide (c ∈ z.cps.toList)) ∨ (∃ a o, u = .ref a ∧ DGet H a v o ∧ k = o.isSome) ∨
    (∃ p xs, u = .ref p ∧ (SqL X.K H p xs ∨ SqT X.K H p xs) ∧ flatV v = true ∧ xs.all flatV = true ∧ k = inV v xs) ∨
    (∃ d ds, Dp X.K H v d ∧ Dp X.K H u (.list ds) ∧ SeqAt.shaped d = true ∧ SeqAt.shaped (.list ds) = true ∧ k = ds.any fun z => PyData.eqv z d) := by
  unfold inDa at h
  split at h
  · rename_i a z
    split at h
    · rename_i c hc
      cases h
      simp only [RD] at rx ry
      have e : a = ⟨#[c]⟩ := by
        obtain ⟨cps⟩ := a
        have : cps.toList = [c] := hc
        congr
        rw [← Array.toArray_toList (xs := cps), this]
      exact .inl ⟨c, z, by rw [rx.1, e], ry.1, rfl⟩
    · cases h
  · split at h
    · rename_i o ho
      cases h
      obtain ⟨a, ov, e, g, q⟩ := dget_ok rp ry rx ho
      refine .inr (.inl ⟨a, ov, e, g, ?_⟩)
      cases o with
      | some x => obtain ⟨w, e2, _⟩ := q; rw [e2]; rfl
      | none => rw [q]; rfl
    · split at h
      · rename_i ds hds
        obtain ⟨a, vs, e, hq, hr, hz⟩ := rdS_ok rp ry hds
        split at h
        · rename_i k' hk
          cases h
          split at hk
          · rename_i hf
            have fx := flat_v rx hf
            obtain ⟨q1, q2⟩ := scalAny_ok rx fx hr hk
            exact .inr (.inr (.inl ⟨a, vs, e, hq, fx, q1, q2.symm⟩))
          · cases hk
        · split at h
          · rename_i p ps hp hps
            split at h
            · rename_i hs
              cases h
              exact .inr (.inr (.inr ⟨p, ps, tpd_ok rp hp rx, tpd_ok rp hps ry, hs.1, hs.2, rfl⟩))
            · cases h
          · cases h
      · cases h
theorem opIn_ok (hr : Ru X.A) : OpD X (compareOp .In) opIn := by
  refine ⟨_, op_in_sign.or ((op_din hr.hu).or (op_in_seq.or (op_inD (by have := hr.un; omega)))), fun W ι S H x y dx dy Q rp rx ry q => ?_⟩
  unfold opIn at q
  split at q
  · rename_i k hk
    have q := q.here (b := V.bl k) rp (by simp only [RD])
    rcases inDa_ok rp rx ry hk with ⟨c, z, e1, e2, e3⟩ | ⟨a, o, e1, g, e2⟩ | ⟨p, xs, e, h1, h2, h3, e2⟩ | ⟨d, ds, h1, h2, h3, h4, e⟩
    · subst e3; exact .inl ⟨c, z, e1, e2, q⟩
    · subst e2; exact .inr (.inl ⟨a, o, e1, g, q⟩)
    · subst e2; exact .inr (.inr (.inl ⟨p, xs, e, h1, h2, h3, q⟩))
    · subst e; exact .inr (.inr (.inr ⟨d, ds, h1, h2, h3, h4, q⟩))
  · exact q.elim
theorem opNotIn_ok (hr : Ru X.A) : OpD X (compareOp .NotIn) opNotIn := by
  refine ⟨_, op_notIn_sign.or ((op_dnotin hr.hu).or (op_notIn_seq.or (op_notInD (by have := hr.un; omega)))), fun W ι S H x y dx dy Q rp rx ry q => ?_⟩
  unfold opNotIn at q
  split at q
  · rename_i k hk
    have q := q.here (b := V.bl (!k)) rp (by simp only [RD])
    rcases inDa_ok rp rx ry hk with ⟨c, z, e1, e2, e3⟩ | ⟨a, o, e1, g, e2⟩ | ⟨p, xs, e, h1, h2, h3, e2⟩ | ⟨d, ds, h1, h2, h3, h4, e⟩
    · subst e3; exact .inl ⟨c, z, e1, e2, q⟩
    · subst e2; exact .inr (.inl ⟨a, o, e1, g, q⟩)
    · subst e2; exact .inr (.inr (.inl ⟨p, xs, e, h1, h2, h3, q⟩))
    · subst e; exact .inr (.inr (.inr ⟨d, ds, h1, h2, h3, h4, q⟩))
  · exact q.elim
/-! ### subscripts -/
def IxD (X : Cx) (op : D → D → Sto → R D) : Prop :=
  ∃ r : R2, IxR X r ∧ ∀ (W : XK) (ι : Z) (S : Sto) (H : Hp) (x y : V) (dx dy : D) (Q : VK), Rep H ι X.ek S → RD H ι dx x → RD H ι dy y → G X.ek W ι H RD (op dx dy S) Q → r x y H Q
theorem ix_dict (hu : X.A.units + 1 < cLine) : IxR X (fun x y H Q => ∃ a v, x = .ref a ∧ DGet H a y (some v) ∧ Q v H) := by
  intro value slice pins s σ H x y v u Q I rx ry h hs
  obtain ⟨a, w, e, g, q⟩ := h
  subst e
  cases rx
  exact tail_any (dict_typeIs I g) PySem.F.slot_dict_getitem.lookup (d_getItem hu I g ry fun w' s3 I3 rw' => ⟨w, H, I3, rw', q⟩) hs
def opIx (x y : D) (S : Sto) : R D := match x, y with
  | .str z, .int i => match atI z.cps.toList i with
    | some c => .ok (.str ⟨#[c]⟩) S
    | none => .stuck
  | x, y => match dget S x y with
    | some (some d) => .ok d S
    | some none => .stuck
    | none => match rdS S x with
      | some ds => match y with
        | .int i => match atI ds i with
          | some d => .ok d S
          | none => .stuck
        | _ => .stuck
      | none => .stuck
theorem atI_ok {H : Hp} {ι : Z} {ds : List D} {vs : List V} {i : Int} {d : D} (r : RDs H ι ds vs) (h : atI ds i = some d) : ∃ v, atI vs i = some v ∧ RD H ι d v := by
  unfold atI at h ⊢
  rw [← r.length]
  cases hj : ixN ds.length i with
  | none => rw [hj] at h; cases h
  | some j =>
    rw [hj] at h
    exact r.get h
theorem opIx_ok (hr : Ru X.A) : IxD X opIx := by
  refine ⟨_, ix_str.or ((ix_dict hr.hu).or (ix_list.or ix_tup)), fun W ι S H x y dx dy Q rp rx ry q => ?_⟩
  unfold opIx at q
  split at q
  · rename_i z i
    split at q
    · rename_i c hc
      simp only [RD] at rx ry
      exact .inl ⟨z, i, c, rx.1, ry, rx.2, hc, q.here rp (by simp only [RD]; exact ⟨trivial, by show 1 ≤ sizeLine; decide⟩)⟩
    · exact q.elim
  · split at q
    · rename_i d hd
      obtain ⟨a, ov, e, g, w, e2, rw'⟩ := dget_ok rp rx ry hd
      subst e2
      exact .inr (.inl ⟨a, w, e, g, q.here rp rw'⟩)
    · exact q.elim
    · split at q
      · rename_i ds hds
        obtain ⟨a, vs, e, hq, h2, hz⟩ := rdS_ok rp rx hds
        cases dy with
        | int i =>
          dsimp only at q
          split at q
          · rename_i d hd
            obtain ⟨w, hw, rw'⟩ := atI_ok h2 hd
            simp only [RD] at ry
            rcases hq with hq | hq
            · exact .inr (.inr (.inl ⟨a, vs, i, w, e, ry, hq, hw, q.here rp rw'⟩))
            · exact .inr (.inr (.inr ⟨a, vs, i, w, e, ry, hq, hw, q.here rp rw'⟩))
          · exact q.elim
        | _ => exact q.elim
      · exact q.elim
variable {W : WX} {a b e o : Expr} {es : List Expr} {pos p p2 apos : Pos} {ma mb mo : Em} {am : Am}
theorem de_ix {f : D → D → Sto → R D} (ho : IxD X f) (ha : DE X W a ma) (hb : DE X W b mb) (hs : PlainIx b := by exact fun _ _ => rfl) : DE X W (.Subscript a b pos) (mB f ma mb) := by
  obtain ⟨r, hr, k⟩ := ho
  exact pe_imp (pe_ix hr ha hb hs) fun σ H Q h => de_opR k h
/-! ### stores -/
theorem PSet.or {t t' : TSet} (h : PSet X t) (h' : PSet X t') : PSet X (fun o i v H Q => t o i v H Q ∨ t' o i v H Q) := fun pins s σ H o i v ov iv u Q I ro ri rv q =>
  q.elim (h pins s σ H o i v ov iv u Q I ro ri rv) (h' pins s σ H o i v ov iv u Q I ro ri rv)
theorem set_dict (hu : X.A.units + 1 < cLine) : PSet X (fun o i v H Q => ∃ a H', o = .ref a ∧ DPut H a i v H' ∧ Q H') := by
  intro pins s σ H o i v ov iv u Q I ro ri rv h
  obtain ⟨a, H', e, g, q⟩ := h
  subst e
  cases ro
  exact d_setItem hu I g ri rv fun s4 I4 => ⟨H', I4, q⟩
def opSet (x y z : D) (S : Sto) : R Unit := match x with
  | .ref n => match S[n]? with
    | some (.lst ds) => match y with
      | .int i => match ixN ds.length i with
        | some j => .ok () (S.set n (.lst (ds.set j z)))
        | none => .stuck
      | _ => .stuck
    | some (.dK ks ds) => match keyOf y with
      | some k => if ks.length < sizeLine then .ok () (S.set n (.dK (insK ks k) (insD ks ds k z))) else .stuck
      | none => .stuck
    | some (.dT ks ds) => match tkeyOf y with
      | some k => if ks.length < sizeLine then .ok () (S.set n (.dT (insK ks k) (insD ks ds k z))) else .stuck
      | none => .stuck
    | _ => .stuck
  | _ => .stuck
theorem insK_len {κ : Type} [DecidableEq κ] (ks : List κ) (k : κ) : (insK ks k).length ≤ ks.length + 1 := by
  unfold insK
  split
  · omega
  · simp
theorem opSet_ok (hr : Ru X.A) : PSetD X opSet := by
  refine ⟨_, PSet.or set_list (set_dict hr.hu), fun W ι S H x y z dx dy dz Q rp rx ry rz q => ?_⟩
  unfold opSet at q
  split at q
  · rename_i n
    simp only [RD] at rx
    obtain ⟨a, e, h1⟩ := rx
    obtain ⟨o, e2, ro⟩ := rp.has h1
    simp only [e2] at q
    cases o with
    | lst ds =>
      obtain ⟨vs, h3, hz, h4⟩ := ro
      dsimp only at q
      split at q
      · rename_i i
        split at q
        · rename_i j hj
          simp only [RD] at ry
          refine .inl ⟨a, vs, i, j, e, ry, h3, by rw [← h4.length]; exact hj, ?_⟩
          have st : Lift ι H ι (upd H a (.lst (vs.set j z))) := Lift.write (.inl (List.mem_of_getElem? h1)) (fun _ e' => by rw [h3] at e'; cases e'; exact .intro (fun _ _ q => nomatch q) (fun _ _ q => nomatch q))
          obtain ⟨rp2, st2⟩ := rp.write (m := .lst (ds.set j dz)) (o := .lst (vs.set j z)) h1 (fun _ e' => by rw [h3] at e'; cases e'; exact .intro (fun _ _ q => nomatch q) (fun _ _ q => nomatch q)) ⟨_, upd_same, by simpa using hz, (h4.mono st).set (rz.mono st)⟩
          exact q.at st2 rp2 rfl
        · exact q.elim
      · exact q.elim
    | dKL ks ds => exact q.elim
    | dK ks ds =>
      obtain ⟨vs, h3, hl, hz, h4⟩ := ro
      dsimp only at q
      split at q
      · rename_i k hk
        split at q
        · rename_i hlt
          have lv : (ks.zip vs).length = ks.length := by rw [List.length_zip, ← h4.length, hl]; simp
          obtain ⟨ws0, p1, p2, p3⟩ := insK_put (k := k) hl h4 rz
          have st : Lift ι H ι (upd H a (.dK ((insK ks k).zip ws0))) := Lift.write (.inl (List.mem_of_getElem? h1)) (fun _ e' => by rw [h3] at e'; cases e'; exact .intro (fun _ _ q => nomatch q) (fun _ _ q => nomatch q))
          obtain ⟨rp2, st2⟩ := rp.write (m := .dK (insK ks k) (insD ks ds k dz)) (o := .dK ((insK ks k).zip ws0)) h1 (fun _ e' => by rw [h3] at e'; cases e'; exact .intro (fun _ _ q => nomatch q) (fun _ _ q => nomatch q)) ⟨_, upd_same, p2, by have := insK_len ks k; omega, p3.mono st⟩
          refine .inr ⟨a, _, e, .inl ⟨_, k, h3, keyOf_ok ry hk, by rw [lv]; exact hlt, rfl⟩, ?_⟩
          rw [p1]
          exact q.at st2 rp2 rfl
        · exact q.elim
      · exact q.elim
    | dT ks ds =>
      obtain ⟨vs, h3, hl, hz, h4⟩ := ro
      dsimp only at q
      split at q
      · rename_i k hk
        split at q
        · rename_i hlt
          have lv : (ks.zip vs).length = ks.length := by rw [List.length_zip, ← h4.length, hl]; simp
          obtain ⟨ws0, p1, p2, p3⟩ := insK_put (k := k) hl h4 rz
          have st : Lift ι H ι (upd H a (.dT ((insK ks k).zip ws0))) := Lift.write (.inl (List.mem_of_getElem? h1)) (fun _ e' => by rw [h3] at e'; cases e'; exact .intro (fun _ _ q => nomatch q) (fun _ _ q => nomatch q))
          obtain ⟨rp2, st2⟩ := rp.write (m := .dT (insK ks k) (insD ks ds k dz)) (o := .dT ((insK ks k).zip ws0)) h1 (fun _ e' => by rw [h3] at e'; cases e'; exact .intro (fun _ _ q => nomatch q) (fun _ _ q => nomatch q)) ⟨_, upd_same, p2, by have := insK_len ks k; omega, p3.mono st⟩
          obtain ⟨b, eb, hb⟩ := tkeyOf_ok ry hk
          refine .inr ⟨a, _, e, .inr ⟨_, k, b, h3, eb, hb, by rw [lv]; exact hlt, rfl⟩, ?_⟩
          rw [p1]
          exact q.at st2 rp2 rfl
        · exact q.elim
      · exact q.elim
    | ins c fs ds => exact q.elim
  · exact q.elim
end
end PM

/-! PM, part 9: slices, built-in calls, methods -/
namespace PM
open PySem PySem.Spec L2 PyProof.Rows
abbrev Om := Loc → Sto → R (Option Int)
def mNo : Om := fun _ S => .ok none S
def mPt (e : Em) : Om := fun δ S => (e δ S).bind fun x S1 => match x with
  | .int i => .ok (some i) S1
  | _ => .stuck
def mSl (f : D → Option Int → Option Int → Sto → R D) (a : Em) (lo hi : Om) : Em := fun δ S => (a δ S).bind fun x S1 => (lo δ S1).bind fun l S2 => (hi δ S2).bind fun u S3 => f x l u S3
def cutD {α : Type} (xs : List α) (lo hi : Option Int) : List α := (xs.drop (HT.sIx xs.length 0 lo)).take (HT.sIx xs.length xs.length hi - HT.sIx xs.length 0 lo)
def opSl (x : D) (lo hi : Option Int) (S : Sto) : R D := match x with
  | .str z => .ok (.str (cutS z lo hi)) S
  | .tup ds => .ok (.tup (cutD ds lo hi)) S
  | x => match rdL S x with
    | some ds => .ok (.lst (cutD ds lo hi)) S
    | none => .stuck
theorem cutD_le {α : Type} (xs : List α) (lo hi : Option Int) : (cutD xs lo hi).length ≤ xs.length := by
  unfold cutD
  rw [List.length_take, List.length_drop]; omega
theorem cutS_le (z : Str) (lo hi : Option Int) : (cutS z lo hi).length ≤ z.length := by
  have h : (cutS z lo hi).length = (cutD z.cps.toList lo hi).length := by
    unfold cutS cutD Str.length
    simp
  rw [h]
  have := cutD_le z.cps.toList lo hi
  simpa [Str.length] using this
theorem rds_cut {H : Hp} {ι : Z} {ds : List D} {vs : List V} (r : RDs H ι ds vs) (lo hi : Option Int) : RDs H ι (cutD ds lo hi) (cutV vs lo hi) := by
  unfold cutD cutV
  rw [r.length]
  exact (r.drop _).take _
section
variable {X : Cx} {W : WX} {a b e o : Expr} {es : List Expr} {pos p p2 apos : Pos} {ma mb mo : Em} {am : Am} {lo hi : Option Expr} {ml mh : Om} {tg : Expr}
def DO (X : Cx) (W : WX) (e : Option Expr) (m : Om) : Prop := PO X e (tD X.ek W REq m)
theorem do_none : DO X W none mNo := ⟨fun pins s σ H Q I ⟨ι, S, δ, rp, rs, g⟩ => po_none.run pins s σ H Q I (g.here rp rfl)⟩
theorem do_some (h : DE X W e ma) : DO X W (some e) (mPt ma) := ⟨fun pins s σ H Q I q => (po_some h).run pins s σ H Q I (t_bind q fun ι S δ d v H' rp rs r g => by
    cases d with
    | int i => simp only [RD] at r; exact ⟨i, r, g.here rp rfl⟩
    | _ => exact g.elim)⟩
theorem de_slice (ha : DE X W a ma) (hl : DO X W lo ml) (hh : DO X W hi mh) : DE X W (.Subscript a (.Slice lo hi none p2) pos) (mSl opSl ma ml mh) :=
  pe_imp (pe_slice (sl_str.or (sl_tupF.or sl_list)) ha hl hh) fun σ H Q h => t_bind h fun ι S δ d v H1 rp rs rd g => ⟨ι, S, δ, rp, rs, (G.bind g).imp fun l H2 ⟨ι2, S2, l', st2, rp2, el, g2⟩ =>
    ⟨ι2, S2, δ, rp2, rs.mono st2.up, (G.bind g2).imp fun u H3 ⟨ι3, S3, u', st3, rp3, eu, g3⟩ => by
      rw [show l = l' from el, show u = u' from eu]
      have rd3 := rd.mono (st2.trans st3).up
      unfold opSl at g3
      split at g3
      · simp only [RD] at rd3
        exact .inl ⟨_, rd3.1, rd3.2, g3.here rp3 (by simp only [RD]; exact ⟨trivial, Nat.le_trans (cutS_le _ l' u') rd3.2⟩)⟩
      · simp only [RD] at rd3
        obtain ⟨t, vs, e, h1, z, h2⟩ := rd3
        have hz := Nat.le_trans (cutD_le _ l' u') z
        refine .inr (.inl ⟨t, vs, e, h1.sq, fun w => ?_, fun _ p o d hp => g3.at (Step.new hp) (rp3.new hp) ?_⟩)
        · refine g3.here rp3 ?_
          unfold cutD
          rw [h2.length, w.1, w.2, List.drop_zero, Nat.sub_zero, ← h2.length, List.take_length]
          simp only [RD]
          exact ⟨t, vs, rfl, h1, z, h2⟩
        · simp only [RD]
          exact ⟨p, _, rfl, Tp.mk d, hz, (rds_cut h2 l' u').mono (Step.new hp).up⟩
      · split at g3
        · rename_i ds hds
          obtain ⟨t, vs, e, h1, h2, z⟩ := rdL_ok rp3 rd3 hds
          exact .inr (.inr ⟨t, vs, e, h1, fun p hp => g3.at (Step.new hp) (rp3.new hp) (rd_newLst rp3 (rds_cut h2 l' u') (Nat.le_trans (cutD_le _ _ _) z) hp)⟩)
        · exact g3.elim⟩⟩
/-! ### built-in calls -/
def CallD (X : Cx) (f : Value) (c : List D → Sto → R D) : Prop :=
  ∃ r, CallR X f r ∧ ∀ (W : XK) (ι : Z) (S : Sto) (H : Hp) (xs : List V) (dxs : List D) (Q : VK), Rep H ι X.ek S → RDs H ι dxs xs → G X.ek W ι H RD (c dxs S) Q → r xs H Q
theorem de_callB {x : Str} {id : String} {c : List D → Sto → R D} (hc : CallD X (.builtin id) c) (hg : Gl X x) (hm : X.mg x = none) (hv : bootBuiltins x = some (.builtin id)) (ha : DA X W (e :: es) am) (hn : x ≠ "__name__" := by decide) (hdb : (x == ("__debug__" : Str)) = false := by decide)
    (he : starEach (e :: es) X.env = (false, eval e X.env) :: starEach es X.env := by rfl) (hpl : (backTo pos (starEach es X.env)).any (·.1) = false := by rfl) : DE X W (.Call (.Name x p) (e :: es) [] pos) (mApp c am) := by
  obtain ⟨r, hr, k⟩ := hc
  exact pe_imp (pe_callB hr hg hm hv ha hn hdb he hpl) fun σ H Q h => t_bind h fun ι S δ ds vs H1 rp rs rd g => k _ ι S H1 vs ds Q rp rd g
theorem de_callTy {x : Str} {T : String} {c : List D → Sto → R D} (hc : CallD X (.type T) c) (hg : Gl X x) (hm : X.mg x = none) (hv : bootBuiltins x = some (.type T)) (ha : DA X W (e :: es) am) (hn : x ≠ "__name__" := by decide) (hdb : (x == ("__debug__" : Str)) = false := by decide)
    (he : starEach (e :: es) X.env = (false, eval e X.env) :: starEach es X.env := by rfl) (hpl : (backTo pos (starEach es X.env)).any (·.1) = false := by rfl) : DE X W (.Call (.Name x p) (e :: es) [] pos) (mApp c am) := by
  obtain ⟨r, hr, k⟩ := hc
  exact pe_imp (pe_callTy hr hg hm hv ha hn hdb he hpl) fun σ H Q h => t_bind h fun ι S δ ds vs H1 rp rs rd g => k _ ι S H1 vs ds Q rp rd g
theorem rds_one {H : Hp} {ι : Z} {d : D} {vs : List V} (r : RDs H ι [d] vs) : ∃ v, vs = [v] ∧ RD H ι d v := by
  simp only [RDs] at r
  obtain ⟨v, w, e, h, e2⟩ := r
  subst e2
  exact ⟨v, e, h⟩
theorem rds_two {H : Hp} {ι : Z} {d d' : D} {vs : List V} (r : RDs H ι [d, d'] vs) : ∃ v v', vs = [v, v'] ∧ RD H ι d v ∧ RD H ι d' v' := by
  simp only [RDs] at r
  obtain ⟨v, w, e, h, v', w', e2, h2, e3⟩ := r
  subst e3 e2
  exact ⟨v, v', e, h, h2⟩
/-- len -/
def cLen (ds : List D) (S : Sto) : R D := match ds with
  | [d] => match lenOf d S with
    | some n => .ok (.int n) S
    | none => .stuck
  | _ => .stuck
theorem call_lenRd : CallR X (.builtin "len") (fun xs H Q => ∃ a kvs, xs = [V.ref a] ∧ Rd H a (.dK kvs) ∧ Q (.int kvs.length) H) := by
  intro pins s σ H xs us Q I r h
  obtain ⟨a, kvs, rfl, ha, q⟩ := h
  obtain ⟨u, rfl, ru⟩ := vals1 r
  cases ru
  exact d_len I ha fun t s' I' => ⟨.int kvs.length, H, I', ⟨t, rfl⟩, q⟩
/-- what a length stands for -/
theorem lenOf_ok {H : Hp} {ι : Z} {S : Sto} {d : D} {v : V} {n : Nat} (rp : Rep H ι X.ek S) (r : RD H ι d v) (h : lenOf d S = some n) :
    n ≤ sizeLine ∧ ((∃ p ys, v = .ref p ∧ (SqL X.K H p ys ∨ SqT X.K H p ys) ∧ n = ys.length) ∨ (∃ z, v = .str z ∧ z.length ≤ sizeLine ∧ n = z.length) ∨ (∃ a kvs, v = .ref a ∧ Rd H a (.dK kvs) ∧ n = kvs.length) ∨ (∃ a kvs, v = .ref a ∧ H a = some (.dT kvs) ∧ n = kvs.length)) := by
  cases d with
  | str z =>
    simp only [lenOf, Option.some.injEq] at h; subst h
    simp only [RD] at r
    exact ⟨r.2, .inr (.inl ⟨z, r.1, r.2, rfl⟩)⟩
  | tup ds =>
    simp only [lenOf, Option.some.injEq] at h; subst h
    obtain ⟨a, vs, e, hq, h2, z⟩ := rdS_ok (ds := ds) rp r rfl
    exact ⟨z, .inl ⟨a, vs, e, hq, h2.length⟩⟩
  | lst ds =>
    simp only [lenOf, Option.some.injEq] at h; subst h
    obtain ⟨a, vs, e, hq, h2, z⟩ := rdS_ok (ds := ds) rp r rfl
    exact ⟨z, .inl ⟨a, vs, e, hq, h2.length⟩⟩
  | scr ds =>
    simp only [lenOf, Option.some.injEq] at h; subst h
    obtain ⟨a, vs, e, hq, h2, z⟩ := rdS_ok (ds := ds) rp r rfl
    exact ⟨z, .inl ⟨a, vs, e, hq, h2.length⟩⟩
  | dct ks ds =>
    simp only [lenOf, Option.some.injEq] at h; subst h
    simp only [RD] at r
    obtain ⟨a, vs, e, h1, n, z, y, h2⟩ := r
    exact ⟨y, .inr (.inr (.inl ⟨a, _, e, h1, by rw [List.length_zip, ← h2.length, z]; simp⟩))⟩
  | ref m =>
    simp only [RD] at r
    obtain ⟨a, e, h1⟩ := r
    obtain ⟨o, e2, ro⟩ := rp.has h1
    simp only [lenOf, e2] at h
    cases o with
    | lst ds =>
      simp only [Option.some.injEq] at h; subst h
      obtain ⟨vs, h3, z, h4⟩ := ro
      exact ⟨z, .inl ⟨a, vs, e, .inl (.of h3), h4.length⟩⟩
    | dK ks ds =>
      simp only [Option.some.injEq] at h; subst h
      obtain ⟨vs, h3, z, y, h4⟩ := ro
      exact ⟨y, .inr (.inr (.inl ⟨a, _, e, .inl h3, by rw [List.length_zip, ← h4.length, z]; simp⟩))⟩
    | dKL ks ds =>
      simp only [Option.some.injEq] at h; subst h
      obtain ⟨o, vs, h3, z, y, h4⟩ := ro
      exact ⟨y, .inr (.inr (.inl ⟨a, _, e, .inr ⟨o, h3⟩, by rw [List.length_zip, ← h4.length, z]; simp⟩))⟩
    | dT ks ds =>
      simp only [Option.some.injEq] at h; subst h
      obtain ⟨vs, h3, z, y, h4⟩ := ro
      exact ⟨y, .inr (.inr (.inr ⟨a, _, e, h3, by rw [List.length_zip, ← h4.length, z]; simp⟩))⟩
    | ins c fs ds => cases h
  | _ => cases h
theorem cLen_ok : CallD X (.builtin "len") cLen := by
  refine ⟨_, CallR.or call_len_seq (CallR.or call_len_str (CallR.or call_lenRd call_len_dT)), fun W ι S H xs dxs Q rp rx q => ?_⟩
  unfold cLen at q
  split at q
  · rename_i d
    obtain ⟨v, e, r⟩ := rds_one rx
    subst e
    split at q
    · rename_i n hn
      have q := q.here (b := V.int n) rp (by simp only [RD])
      obtain ⟨_, ⟨p, ys, e, hq, e2⟩ | ⟨z, e, hz, e2⟩ | ⟨a, kvs, e, hq, e2⟩ | ⟨a, kvs, e, hq, e2⟩⟩ := lenOf_ok rp r hn
      · subst e e2; exact .inl ⟨p, ys, rfl, hq, q⟩
      · subst e e2; exact .inr (.inl ⟨z, rfl, hz, q⟩)
      · subst e e2; exact .inr (.inr (.inl ⟨a, kvs, rfl, hq, q⟩))
      · subst e e2; exact .inr (.inr (.inr ⟨a, kvs, rfl, hq, q⟩))
    · exact q.elim
  · exact q.elim
/-- for .. in range(len(e)) -/
theorem di_rangeLen {q r s : Pos} (hg : Gl X "range") (hm : X.mg "range" = none) (hg2 : Gl X "len") (hm2 : X.mg "len" = none) (ha : DE X W a ma) (hs : starEach [.Call (.Name "len" p) [a] [] q] X.env = [(false, eval (.Call (.Name "len" p) [a] [] q) X.env)] := by rfl)
    (hs2 : starEach [a] X.env = [(false, eval a X.env)] := by rfl) (hpl : (backTo q (starEach [] X.env)).any (·.1) = false := by rfl) : DI X W tg (.Call (.Name "range" r) [.Call (.Name "len" p) [a] [] q] [] s) (sRangeLen ma) :=
  pi_imp (pi_range1 hg hm (pa_cons (pe_callB (CallR.or call_len_seq (CallR.or call_len_str (CallR.or call_lenRd call_len_dT))) hg2 hm2 boot_len (pa_cons ha pa_nil hs2) (he := hs2) (hpl := hpl)) pa_nil hs) hs) fun σ H J h => t_bind h fun ι S δ d v H1 rp rs rd g => by
    split at g
    · rename_i n hn
      obtain ⟨hz, q⟩ := lenOf_ok rp rd hn
      have fin : ∃ j : Int, [V.int (n : Int)] = [V.int j] ∧ -(2 ^ 62) ≤ j ∧ j < 2 ^ 62 ∧ J (Itr 0 j.toNat) H1 := by
        have := sz62
        exact ⟨n, rfl, by omega, by omega, g.here rp (RIt.of_range (n := n) hz)⟩
      rcases q with ⟨p, ys, e, hq, e2⟩ | ⟨z, e, hz, e2⟩ | ⟨a, kvs, e, hq, e2⟩ | ⟨a, kvs, e, hq, e2⟩
      · subst e e2; exact .inl ⟨p, ys, rfl, hq, fin⟩
      · subst e e2; exact .inr (.inl ⟨z, rfl, hz, fin⟩)
      · subst e e2; exact .inr (.inr (.inl ⟨a, kvs, rfl, hq, fin⟩))
      · subst e e2; exact .inr (.inr (.inr ⟨a, kvs, rfl, hq, fin⟩))
    · exact g.elim
/-- list(x), tuple(x) -/
def cList (ds : List D) (S : Sto) : R D := match ds with
  | [d] => match rdS S d with
    | some es => .ok (.lst es) S
    | none => .stuck
  | _ => .stuck
theorem cList_ok : CallD X (.type "list") cList := by
  refine ⟨_, call_list_of, fun W ι S H xs dxs Q rp rx q => ?_⟩
  unfold cList at q
  split at q
  · rename_i d
    obtain ⟨v, e, r⟩ := rds_one rx
    subst e
    split at q
    · rename_i es hes
      obtain ⟨a, vs, e, hq, h2, z⟩ := rdS_ok rp r hes
      subst e
      exact ⟨a, vs, rfl, hq, fun p hp => q.at (Step.new hp) (rp.new hp) (rd_newLst rp h2 z hp)⟩
    · exact q.elim
  · exact q.elim
/-- .. a list that may be changed -/
def cListR (ds : List D) (S : Sto) : R D := match ds with
  | [d] => match rdS S d with
    | some es => .ok (.ref S.length) (S ++ [.lst es])
    | none => .stuck
  | _ => .stuck
theorem cListR_ok : CallD X (.type "list") cListR := by
  refine ⟨_, call_list_of, fun W ι S H xs dxs Q rp rx q => ?_⟩
  unfold cListR at q
  split at q
  · rename_i d
    obtain ⟨v, e, r⟩ := rds_one rx
    subst e
    split at q
    · rename_i es hes
      obtain ⟨a, vs, e, hq, h2, z⟩ := rdS_ok rp r hes
      subst e
      refine ⟨a, vs, rfl, hq, fun p hp => ?_⟩
      have q2 := rep_newRef (m := .lst es) (u := .lst vs) rp hp ⟨vs, upd_same, z, h2.mono (Step.newRef hp).up⟩
      exact q.at (Step.newRef hp) q2.1 q2.2
    · exact q.elim
  · exact q.elim
def cTuple (ds : List D) (S : Sto) : R D := match ds with
  | [d] => match rdS S d with
    | some es => .ok (.tup es) S
    | none => .stuck
  | _ => .stuck
theorem cTuple_ok : CallD X (.type "tuple") cTuple := by
  refine ⟨_, call_tupleF, fun W ι S H xs dxs Q rp rx q => ?_⟩
  unfold cTuple at q
  split at q
  · rename_i d
    obtain ⟨v, e, r⟩ := rds_one rx
    subst e
    split at q
    · rename_i es hes
      have lst : rdL S d = some es → ∃ p ys, [v] = [V.ref p] ∧ ((SqL X.K H p ys ∧ NewT H ys Q) ∨ (SqT X.K H p ys ∧ Q (.ref p) H)) := fun h => by
        obtain ⟨a, vs, e, hq, h2, z⟩ := rdL_ok rp r h
        subst e
        exact ⟨a, vs, rfl, .inl ⟨hq, fun p o dd hp => q.at (Step.new hp) (rp.new hp) (by simp only [RD]; exact ⟨p, vs, rfl, Tp.mk dd, z, h2.mono (Step.new hp).up⟩)⟩⟩
      cases d with
      | tup ds =>
        simp only [rdS, Option.some.injEq] at hes; subst hes
        have r' := r
        simp only [RD] at r
        obtain ⟨a, vs, e, h1, z, h2⟩ := r
        subst e
        exact ⟨a, vs, rfl, .inr ⟨h1.sq, q.here rp r'⟩⟩
      | lst ds => exact lst hes
      | scr ds => exact lst hes
      | ref ds => exact lst hes
      | _ => cases hes
    · exact q.elim
  · exact q.elim
/-- isinstance(x, T) of a built-in class -/
def tyN (S : Sto) : D → Option String
  | .non => some "NoneType" | .bl _ => some "bool" | .int _ => some "int" | .str _ => some "str"
  | .tup _ => some "tuple" | .lst _ => some "list" | .scr _ => some "list" | .dct _ _ => some "dict" | .exn _ => none
  | .ref n => match S[n]? with
    | some (.lst _) => some "list"
    | some (.dK _ _) => some "dict"
    | some (.dT _ _) => some "dict"
    | _ => none
def opIsi (T : String) (d : D) (S : Sto) : R D := match tyN S d with
  | some t => match kitB t T with
    | some k => .ok (.bl k) S
    | none => .stuck
  | none => .stuck
theorem tyN_ok {H : Hp} {ι : Z} {S : Sto} {d : D} {v : V} {t : String} (rp : Rep H ι X.ek S) (r : RD H ι d v) (h : tyN S d = some t) : TyX X.K H v (.type t) := by
  cases d with
  | exn a => simp only [tyN] at h; cases h
  | non => simp only [tyN, Option.some.injEq] at h; subst h; simp only [RD] at r; subst r; exact .base .non
  | bl b => simp only [tyN, Option.some.injEq] at h; subst h; simp only [RD] at r; subst r; exact .base (.bl b)
  | int b => simp only [tyN, Option.some.injEq] at h; subst h; simp only [RD] at r; subst r; exact .base (.int b)
  | str b => simp only [tyN, Option.some.injEq] at h; subst h; simp only [RD] at r; rw [r.1]; exact .base (.str b)
  | tup ds =>
    simp only [tyN, Option.some.injEq] at h; subst h; simp only [RD] at r
    obtain ⟨a, vs, e, h1, _⟩ := r
    subst e; obtain ⟨o, h1, _⟩ := h1; exact .fTuple h1
  | lst ds =>
    simp only [tyN, Option.some.injEq] at h; subst h; simp only [RD] at r
    obtain ⟨a, vs, e, h1, _⟩ := r
    subst e; exact .base (.lst h1)
  | scr ds =>
    simp only [tyN, Option.some.injEq] at h; subst h; simp only [RD] at r
    obtain ⟨a, vs, e, h1, _⟩ := r
    subst e
    rcases h1 with ⟨o, h1⟩ | ⟨o, its, n, h1, h2, _⟩
    · exact .base (.frz h1)
    · rw [show ι.k = X.K from rp.kk] at h1
      exact .kList h1 h2
  | dct ks ds =>
    simp only [tyN, Option.some.injEq] at h; subst h; simp only [RD] at r
    obtain ⟨a, vs, e, h1, _⟩ := r
    subst e
    rcases h1 with h1 | ⟨o, h1⟩
    · exact .base (.dK h1)
    · exact .fDict h1
  | ref n =>
    simp only [RD] at r
    obtain ⟨a, e, h1⟩ := r
    subst e
    obtain ⟨o, e2, ro⟩ := rp.has h1
    simp only [tyN, e2] at h
    cases o with
    | lst ds => simp only [Option.some.injEq] at h; subst h; obtain ⟨vs, h3, _⟩ := ro; exact .base (.lst h3)
    | dKL ks ds => cases h
    | dK ks ds => simp only [Option.some.injEq] at h; subst h; obtain ⟨vs, h3, _⟩ := ro; exact .base (.dK h3)
    | dT ks ds => simp only [Option.some.injEq] at h; subst h; obtain ⟨vs, h3, _⟩ := ro; exact .base (.dT h3)
    | ins c fs ds => cases h
theorem de_isi {x : Str} {T : String} {q : Pos} (hg : Gl X "isinstance") (hm : X.mg "isinstance" = none) (ha : DE X W a ma) (hT : PE X (.Name x q) (tC (.ty T)))
    (hs : starEach [a, .Name x q] X.env = (false, eval a X.env) :: starEach [.Name x q] X.env := by rfl) (hs2 : starEach [.Name x q] X.env = [(false, eval (.Name x q) X.env)] := by rfl)
    (hpl : (backTo pos (starEach [.Name x q] X.env)).any (·.1) = false := by rfl) : DE X W (.Call (.Name "isinstance" p) [a, .Name x q] [] pos) (mU (opIsi T) ma) :=
  pe_imp (pe_callB call_isi hg hm (by decide +kernel) (pa_cons ha (pa_cons hT pa_nil hs2) hs) (he := hs) (hpl := hpl)) fun σ H Q h => t_bind h fun ι S δ d v H1 rp rs rd g => by
    unfold opIsi at g
    split at g
    · rename_i t ht
      split at g
      · rename_i k hk
        exact ⟨v, .ty T, .type t, .type T, k, rfl, .ty T, tyN_ok rp rd ht, kit_ty hk, g.here rp (by simp only [RD])⟩
      · exact g.elim
    · exact g.elim
/-! ### methods of built-in types -/
def mMt (chk : Sto → D → Bool) (c : D → List D → Sto → R D) (o : Em) (a : Am) : Em := fun δ S => (o δ S).bind fun x S1 => if chk S1 x = true then (a δ S1).bind fun xs S2 => c x xs S2 else .stuck
def isLst (S : Sto) (d : D) : Bool := (rdL S d).isSome
def MtD (X : Cx) (id : String) (c : D → List D → Sto → R D) : Prop :=
  ∃ r, MtR X id r ∧ ∀ (W : XK) (ι : Z) (S : Sto) (H : Hp) (x : V) (xs : List V) (dx : D) (dxs : List D) (Q : VK), Rep H ι X.ek S → RD H ι dx x → RDs H ι dxs xs → G X.ek W ι H RD (c dx dxs S) Q → r x xs H Q
theorem de_mlist {name : Str} {id : String} {c : D → List D → Sto → R D} (slot : Slot "list" name id) (hty : typeOf (.builtin id) = pure (.type "method_descriptor")) (hm : MtD X id c) (ho : DE X W o mo) (ha : DA X W (e :: es) am)
    (hbase : attributeBase o name X.env (eval o X.env) = eval o X.env := by rfl)
    (hfew : ((backTo p (starEach (e :: es) X.env)).all (fun x => !x.1) && (backToKw p (keywordEach [] X.env)).all (fun x => x.1.isSome)
      && decide ((e :: es).length + ([] : List Keyword).length + (if ([] : List Keyword).isEmpty then 0 else 1) < 30)) = true := by rfl)
    (hline : (apos.endLine == p.line) = true := by rfl) (hs : starEach (e :: es) X.env = (false, eval e X.env) :: starEach es X.env := by rfl) (hplain : (backTo p (starEach es X.env)).any (·.1) = false := by rfl) :
    DE X W (.Call (.Attribute o name apos) (e :: es) [] p) (mMt isLst c mo am) := by
  obtain ⟨r, hr, k⟩ := hm
  exact pe_imp (pe_bm PySem.F.plainAttrs_list slot hty hr ho ha hbase hfew hline hs hplain) fun σ H Q h => t_bind h fun ι S δ d v H1 rp rs rd g => by
    split at g
    · rename_i hl
      unfold isLst at hl
      cases hd : rdL S d with
      | none => rw [hd] at hl; cases hl
      | some ds =>
        obtain ⟨a, vs, e, h1, h2, z⟩ := rdL_ok rp rd hd
        refine ⟨by subst e; exact .inl ⟨rfl, vs, h1⟩, ι, S, δ, rp, rs, (G.bind g).imp fun xs H2 ⟨ι2, S2, ds2, st2, rp2, rd2, g2⟩ => k _ ι2 S2 H2 v xs d ds2 Q rp2 (rd.mono st2.up) rd2 g2⟩
    · exact g.elim
def cAppend (x : D) (ds : List D) (S : Sto) : R D := match x, ds with
  | .ref n, [d] => match S[n]? with
    | some (.lst es) => if es.length < sizeLine then .ok .non (S.set n (.lst (es ++ [d]))) else .stuck
    | _ => .stuck
  | _, _ => .stuck
theorem cAppend_ok : MtD X "list.append" cAppend := by
  refine ⟨_, mt_append, fun W ι S H x xs dx dxs Q rp rx rs q => ?_⟩
  unfold cAppend at q
  split at q
  · rename_i n d
    obtain ⟨v, e, r⟩ := rds_one rs
    subst e
    simp only [RD] at rx
    obtain ⟨a, e, h1⟩ := rx
    obtain ⟨o, e2, ro⟩ := rp.has h1
    simp only [e2] at q
    cases o with
    | lst es =>
      obtain ⟨vs, h3, hz, h4⟩ := ro
      dsimp only at q
      split at q
      · rename_i hlt
        have st : Lift ι H ι (upd H a (.lst (vs ++ [v]))) := Lift.write (.inl (List.mem_of_getElem? h1)) (fun _ e' => by rw [h3] at e'; cases e'; exact .intro (fun _ _ q => nomatch q) (fun _ _ q => nomatch q))
        obtain ⟨rp2, st2⟩ := rp.write (m := .lst (es ++ [d])) (o := .lst (vs ++ [v])) h1 (fun _ e' => by rw [h3] at e'; cases e'; exact .intro (fun _ _ q => nomatch q) (fun _ _ q => nomatch q)) ⟨_, upd_same, by simp; omega, (h4.mono st).app (.cons (r.mono st) .nil)⟩
        exact ⟨a, vs, v, e, rfl, h3, by rw [← h4.length]; exact hlt, q.at st2 rp2 (by simp only [RD])⟩
      · exact q.elim
    | _ => exact q.elim
  · exact q.elim
def cExtend (x : D) (ds : List D) (S : Sto) : R D := match x, ds with
  | .ref n, [d] => match S[n]?, asL S d with
    | some (.lst es), some fs => if es.length + fs.length ≤ sizeLine then .ok .non (S.set n (.lst (es ++ fs))) else .stuck
    | _, _ => .stuck
  | _, _ => .stuck
theorem cExtend_ok : MtD X "list.extend" cExtend := by
  refine ⟨_, mt_extend, fun W ι S H x xs dx dxs Q rp rx rs q => ?_⟩
  unfold cExtend at q
  split at q
  · rename_i n d
    obtain ⟨v, e, r⟩ := rds_one rs
    subst e
    simp only [RD] at rx
    obtain ⟨a, e, h1⟩ := rx
    obtain ⟨o, e2, ro⟩ := rp.has h1
    split at q
    · rename_i es fs h5 hfs
      rw [e2] at h5
      cases h5
      obtain ⟨vs, h3, hz, h4⟩ := ro
      obtain ⟨b, ws, eb, h6, h7, _⟩ := asL_ok rp r hfs
      subst eb
      split at q
      · rename_i hlt
        have st : Lift ι H ι (upd H a (.lst (vs ++ ws))) := Lift.write (.inl (List.mem_of_getElem? h1)) (fun _ e' => by rw [h3] at e'; cases e'; exact .intro (fun _ _ q => nomatch q) (fun _ _ q => nomatch q))
        obtain ⟨rp2, st2⟩ := rp.write (m := .lst (es ++ fs)) (o := .lst (vs ++ ws)) h1 (fun _ e' => by rw [h3] at e'; cases e'; exact .intro (fun _ _ q => nomatch q) (fun _ _ q => nomatch q)) ⟨_, upd_same, by simp; omega, (h4.mono st).app (h7.mono st)⟩
        exact ⟨a, b, vs, ws, e, rfl, h3, h6, by rw [← h4.length, ← h7.length]; exact hlt, q.at st2 rp2 (by simp only [RD])⟩
      · exact q.elim
    · exact q.elim
  · exact q.elim
/-- sep.join(xs) -/
def strsOf : List D → Option (List Str)
  | [] => some []
  | .str s :: ds => (strsOf ds).map (s :: ·)
  | _ :: _ => none
theorem strsOf_ok {H : Hp} {ι : Z} : ∀ {ds : List D} {vs : List V} {ys : List Str}, RDs H ι ds vs → strsOf ds = some ys → vs = ys.map V.str
  | [], vs, ys, r, h => by simp only [strsOf, Option.some.injEq] at h; subst h; simp only [RDs] at r; exact r
  | d :: ds, vs, ys, r, h => by
    simp only [RDs] at r
    obtain ⟨v, w, e, r1, r2⟩ := r
    subst e
    cases d with
    | str s =>
      simp only [strsOf, Option.map_eq_some_iff] at h
      obtain ⟨zs, h2, e⟩ := h
      subst e
      simp only [RD] at r1
      rw [r1.1, strsOf_ok r2 h2]; rfl
    | _ => simp only [strsOf] at h; cases h
def opJoin (x y : D) (S : Sto) : R D := match x with
  | .str a => match rdS S y with
    | some ds => match strsOf ds with
      | some ys => if (ys.map (·.length)).sum + ys.length * a.length ≤ 16777216 ∧ (Txt.join a ys).length ≤ sizeLine then .ok (.str (Txt.join a ys)) S else .stuck
      | none => .stuck
    | none => .stuck
  | _ => .stuck
def mJoin (a b : Em) : Em := fun δ S => (a δ S).bind fun x S1 => match x with
  | .str _ => (b δ S1).bind fun y S2 => opJoin x y S2
  | _ => .stuck
theorem de_join (ho : DE X W o mo) (ha : DE X W a ma) (hs : starEach [a] X.env = [(false, eval a X.env)] := by rfl) (hbase : attributeBase o "join" X.env (eval o X.env) = eval o X.env := by rfl) (hline : (apos.endLine == pos.line) = true := by rfl) :
    DE X W (.Call (.Attribute o "join" apos) [a] [] pos) (mJoin mo ma) :=
  pe_imp (pe_join ho ha hs hbase hline) fun σ H Q h => t_bind h fun ι S δ d v H1 rp rs rd g => by
    cases d with
    | str z =>
      simp only [RD] at rd
      refine ⟨⟨z, rd.1⟩, ι, S, δ, rp, rs, (G.bind g).imp fun y H2 ⟨ι2, S2, dy, st2, rp2, rd2, g2⟩ => ?_⟩
      unfold opJoin at g2
      dsimp only at g2
      split at g2
      · rename_i ds hds
        obtain ⟨p, vs, e, hq, h2, hz⟩ := rdS_ok rp2 rd2 hds
        split at g2
        · rename_i ys hys
          have e2 := strsOf_ok h2 hys
          subst e2
          split at g2
          · rename_i hc
            exact ⟨z, p, ys, rd.1, by rw [e], hq, hc.1, g2.here rp2 (by simp only [RD]; exact ⟨trivial, hc.2⟩)⟩
          · exact g2.elim
        · exact g2.elim
      · exact g2.elim
    | _ => exact g.elim
end
end PM

/-! PM, part 10: chains, all, any, sum, a module's constants, a law's end -/
namespace PM
open PySem PySem.Spec L2 PyProof.Rows
section
variable {X : Cx} {W : WX} {a b c e o : Expr} {es : List Expr} {pos p p2 apos : Pos} {ma mb mc mo : Em} {am : Am}
theorem chain_imp {f g : D → D → Sto → R D} {r r' : R2} (k : ∀ (W : XK) (ι : Z) (S : Sto) (H : Hp) (x y : V) (dx dy : D) (Q : VK), Rep H ι X.ek S → RD H ι dx x → RD H ι dy y → G X.ek W ι H RD (f dx dy S) Q → r x y H Q)
    (k' : ∀ (W : XK) (ι : Z) (S : Sto) (H : Hp) (x y : V) (dx dy : D) (Q : VK), Rep H ι X.ek S → RD H ι dx x → RD H ι dy y → G X.ek W ι H RD (g dx dy S) Q → r' x y H Q) {σ : L2.St} {H : Hp} {Q : VK}
    (h : tDE X.ek W (mChain f g ma mb mc) σ H Q) : tChain r r' (tDE X.ek W ma) (tDE X.ek W mb) (tDE X.ek W mc) σ H Q := by
  refine t_bind h fun ι S δ d v H1 rp rs rd gg => ⟨ι, S, δ, rp, rs, (G.bind gg).imp fun v2 H2 ⟨ι2, S2, d2, st2, rp2, rd2, g2⟩ => ?_⟩
  refine k _ ι2 S2 H2 v v2 d d2 _ rp2 (rd.mono st2.up) rd2 ((G.bind g2).imp fun z H3 ⟨ι3, S3, dz, st3, rp3, rz, g3⟩ => ?_)
  cases dz with
  | bl kk =>
    refine ⟨kk, by simpa only [RD] using rz, ?_⟩
    cases kk with
    | true =>
      rw [if_pos rfl]
      exact ⟨ι3, S3, δ, rp3, rs.mono (st2.trans st3).up, (G.bind g3).imp fun v4 H4 ⟨ι4, S4, d4, st4, rp4, rd4, g4⟩ => k' _ ι4 S4 H4 v2 v4 d2 d4 _ rp4 (rd2.mono (st3.trans st4).up) rd4 g4⟩
    | false =>
      rw [if_neg Bool.false_ne_true]
      exact g3.here rp3 (by simp only [RD])
  | _ => exact g3.elim
theorem de_chain {op op' : CmpOp} {f g : D → D → Sto → R D} (ho : OpD X (compareOp op) f) (ho' : OpD X (compareOp op') g) (ha : DE X W a ma) (hb : DE X W b mb) (hc : DE X W c mc)
    (hm : lastMarks [op, op'] [b, c] = false := by with_unfolding_all rfl) : DE X W (.Compare a [op, op'] [b, c] pos) (mChain f g ma mb mc) := by
  obtain ⟨r, hr, k⟩ := ho
  obtain ⟨r', hr', k'⟩ := ho'
  exact pe_imp (pe_chain hr hr' ha hb hc hm) fun σ H Q h => chain_imp k k' h
theorem dt_chain {op op' : CmpOp} {f g : D → D → Sto → R D} (ho : OpD X (compareOp op) f) (ho' : OpD X (compareOp op') g) (ha : DE X W a ma) (hb : DE X W b mb) (hc : DE X W c mc)
    (hm : lastMarks [op, op'] [b, c] = false := by with_unfolding_all rfl) : DT X W (.Compare a [op, op'] [b, c] pos) (mT (mChain f g ma mb mc)) := by
  obtain ⟨r, hr, k⟩ := ho
  obtain ⟨r', hr', k'⟩ := ho'
  exact pt_imp (pt_chain hr hr' ha hb hc hm) fun σ H Q h => chain_imp (Q := fun x H' => ∃ k, x = .bl k ∧ Q k H') k k' (t_of h)
/-! ### all, any, sum -/
def blsOf : List D → Option (List Bool)
  | [] => some []
  | .bl b :: ds => (blsOf ds).map (b :: ·)
  | _ :: _ => none
def intsOf : List D → Option (List Int)
  | [] => some []
  | .int b :: ds => (intsOf ds).map (b :: ·)
  | _ :: _ => none
theorem blsOf_ok {H : Hp} {ι : Z} : ∀ {ds : List D} {vs : List V} {ys : List Bool}, RDs H ι ds vs → blsOf ds = some ys → vs = ys.map V.bl
  | [], vs, ys, r, h => by simp only [blsOf, Option.some.injEq] at h; subst h; simp only [RDs] at r; exact r
  | d :: ds, vs, ys, r, h => by
    simp only [RDs] at r
    obtain ⟨v, w, e, r1, r2⟩ := r
    subst e
    cases d with
    | bl s =>
      simp only [blsOf, Option.map_eq_some_iff] at h
      obtain ⟨zs, h2, e⟩ := h
      subst e
      simp only [RD] at r1
      rw [r1, blsOf_ok r2 h2]; rfl
    | _ => simp only [blsOf] at h; cases h
theorem intsOf_ok {H : Hp} {ι : Z} : ∀ {ds : List D} {vs : List V} {ys : List Int}, RDs H ι ds vs → intsOf ds = some ys → vs = ys.map V.int
  | [], vs, ys, r, h => by simp only [intsOf, Option.some.injEq] at h; subst h; simp only [RDs] at r; exact r
  | d :: ds, vs, ys, r, h => by
    simp only [RDs] at r
    obtain ⟨v, w, e, r1, r2⟩ := r
    subst e
    cases d with
    | int s =>
      simp only [intsOf, Option.map_eq_some_iff] at h
      obtain ⟨zs, h2, e⟩ := h
      subst e
      simp only [RD] at r1
      rw [r1, intsOf_ok r2 h2]; rfl
    | _ => simp only [intsOf] at h; cases h
def cBls (f : List Bool → Bool) (ds : List D) (S : Sto) : R D := match ds with
  | [d] => match rdL S d with
    | some es => match blsOf es with
      | some bs => .ok (.bl (f bs)) S
      | none => .stuck
    | none => .stuck
  | _ => .stuck
abbrev cAll : List D → Sto → R D := cBls fun bs => bs.all id
abbrev cAny : List D → Sto → R D := cBls fun bs => bs.any id
def cSum (ds : List D) (S : Sto) : R D := match ds with
  | [d] => match rdL S d with
    | some es => match intsOf es with
      | some bs => .ok (.int bs.sum) S
      | none => .stuck
    | none => .stuck
  | _ => .stuck
theorem cAll_ok (hc : X.calm = true) : CallD X (.builtin "all") cAll := by
  refine ⟨_, cr_all hc, fun W ι S H xs dxs Q rp rx q => ?_⟩
  unfold cAll cBls at q
  split at q
  · obtain ⟨v, e, r⟩ := rds_one rx
    subst e
    split at q
    · rename_i es hes
      obtain ⟨a, vs, e, hq, h2, z⟩ := rdL_ok rp r hes
      subst e
      split at q
      · rename_i bs hbs
        rw [blsOf_ok h2 hbs] at hq
        exact ⟨a, bs, rfl, hq, q.here rp (by simp only [RD])⟩
      · exact q.elim
    · exact q.elim
  · exact q.elim
theorem cAny_ok (hc : X.calm = true) : CallD X (.builtin "any") cAny := by
  refine ⟨_, cr_any hc, fun W ι S H xs dxs Q rp rx q => ?_⟩
  unfold cAny cBls at q
  split at q
  · obtain ⟨v, e, r⟩ := rds_one rx
    subst e
    split at q
    · rename_i es hes
      obtain ⟨a, vs, e, hq, h2, z⟩ := rdL_ok rp r hes
      subst e
      split at q
      · rename_i bs hbs
        rw [blsOf_ok h2 hbs] at hq
        exact ⟨a, bs, rfl, hq, q.here rp (by simp only [RD])⟩
      · exact q.elim
    · exact q.elim
  · exact q.elim
theorem cSum_ok (hc : X.calm = true) : CallD X (.builtin "sum") cSum := by
  refine ⟨_, cr_sum hc, fun W ι S H xs dxs Q rp rx q => ?_⟩
  unfold cSum at q
  split at q
  · obtain ⟨v, e, r⟩ := rds_one rx
    subst e
    split at q
    · rename_i es hes
      obtain ⟨a, vs, e, hq, h2, z⟩ := rdL_ok rp r hes
      subst e
      split at q
      · rename_i bs hbs
        rw [intsOf_ok h2 hbs] at hq
        exact ⟨a, bs, rfl, hq, q.here rp (by simp only [RD])⟩
      · exact q.elim
    · exact q.elim
  · exact q.elim
/-! ### -n, a module's constants -/
def opNeg (x : D) (S : Sto) : R D := match x with
  | .int i => .ok (.int (-i)) S
  | _ => .stuck
theorem de_neg (ha : DE X W a ma) : DE X W (.UnaryOp .USub a pos) (mU opNeg ma) :=
  pe_imp (pe_un un_neg ha) fun σ H Q h => t_bind h fun ι S δ d v H1 rp rs rd g => by
    unfold opNeg at g
    split at g
    · simp only [RD] at rd
      exact ⟨_, rd, g.here rp (by simp only [RD])⟩
    · exact g.elim
theorem de_gint {x : Str} {i : Int} (hg : Gl X x) (hm : ∃ t, X.mg x = some (.int i t)) (hd : (x == ("__debug__" : Str)) = false := by decide) : DE X W (.Name x pos) (mC (.int i)) := by
  obtain ⟨t, hm⟩ := hm
  exact de_const (v := V.int i) (pe_glob hg hm ⟨t, rfl⟩ hd) fun _ _ => by simp only [RD]
theorem de_gstr {x i : Str} (hg : Gl X x) (hm : ∃ t, X.mg x = some (.str i t)) (hi : i.length ≤ sizeLine) (hd : (x == ("__debug__" : Str)) = false := by decide) : DE X W (.Name x pos) (mC (.str i)) := by
  obtain ⟨t, hm⟩ := hm
  exact de_const (v := V.str i) (pe_glob hg hm ⟨t, rfl⟩ hd) fun _ _ => by simp only [RD]; exact ⟨trivial, hi⟩
end
/-! ### a law's end -/
def spLaw (K : PySem.W.Frag) : Sp := fun vs H Q _ => ∃ (a : Addr) (ns : List Int), vs = [.ref a] ∧ Only H ∧ SqL K H a (ns.map V.int) ∧ ns.length ≤ 63 ∧ ∀ H', Q (.bl true) H'
theorem rds_ints {H : Hp} {ι : Z} : ∀ ns : List Int, RDs H ι (ns.map D.int) (ns.map V.int)
  | [] => .nil
  | n :: ns => .cons (by simp only [RD]) (rds_ints ns)
theorem law_fn {P : Program} {w : World} {K : PySem.W.Frag} {mg : Str → Option Value} {base : Heap} {k : Nat} {f : Addr} {fd : FuncData} {ps : List Str} {c : List D → Sto → R D} (F : FnOk P w K mg base (L2N.CX P w) k f fd ps (spD ⟨mg, K⟩ 1 c))
    (h : ∀ ns : List Int, ns.length ≤ 63 → ∃ S', c [.scr (ns.map D.int)] [] = .ok (.bl true) S') : FnOk P w K mg base (L2N.CX P w) k f fd ps (spLaw K) :=
  F.imp fun vs H Q E ⟨a, ns, e, ho, hs, hl, q⟩ => by
    subst e
    have hz : ns.length ≤ sizeLine := Nat.le_trans hl (by decide)
    have hr : (∃ o, H a = some (.frz o (.lst (ns.map V.int)))) ∨ KL K a (ns.map V.int) := by
      rcases hs with (hs | ⟨o, hs⟩) | hs
      · rcases ho a with n | ⟨o, xs, n⟩
        · rw [n] at hs; cases hs
        · rw [n] at hs; cases hs
      · exact .inl ⟨o, hs⟩
      · exact .inr hs
    obtain ⟨S', e⟩ := h ns hl
    refine ⟨rfl, ⟨[], [], K⟩, [], [.scr (ns.map D.int)], ⟨rfl, rfl, List.nodup_nil, (fun _ h => by cases h), (fun _ _ _ h => by cases h)⟩, .cons ?_ .nil, ?_⟩
    · simp only [RD]
      exact ⟨a, _, rfl, hr, by simpa using hz, rds_ints ns⟩
    · rw [e]
      intro ι' H' v st rp r
      have : v = .bl true := by simpa only [RD] using r
      subst this
      exact q H'
theorem walk {l : PySem.W.OpenLaw} {N : Nat} {x : Str} {q : Program} {loose : List Str} {XP : (Str → Option Value) → Heap → Prop} {YP : World → Heap → Prop} {d : DefRec} {K : Params → PySem.W.Frag} (hn : l.most = some 63) (hdf : d.params.defaults = []) (hr : Room N callerA)
    (hY : ∀ (w : World) (h : Heap), YP w h → (K w.params).In h)
    (F : ∀ (w : World) (mg : Str → Option Value) (fa : Addr) (h : Heap), (K w.params).In h → h.Ns mainGlobals mg → mg d.name = some (.ref fa) →
      ∃ fd : FuncData, (∀ (s : Shared) (u : Value), BindsTo s fd ⟨[u], []⟩ [(x, u)]) ∧ ∀ base : Heap, (K w.params).In base → base.Ns mainGlobals mg → FnOk l.prog w (K w.params) mg base (L2N.CX l.prog w) N fa fd [x] (spLaw (K w.params))) :
    PySem.W.WalkO q loose XP YP l.row.toRowW d [] (fun f vs => PySem.call f vs) :=
  L2.walk_of (n := 63) (k := N) (x := x) (CX := fun w => L2N.CX l.prog w) (sp := fun w => spLaw (K w.params)) hn (by decide) hdf hr hY F (fun _ _ a ns hl ho hS => ⟨a, ns, rfl, ho, hS, hl, fun _ => rfl⟩) fun _ _ _ _ _ z => by
    obtain ⟨_, _, _, _, _, _, _, _, _, _, _, _, z⟩ := z
    exact z.elim
end PM

/-! PM, part 11: the functions unfolded; loops and comprehensions by lemmas -/
namespace PM
open PySem L2
section
variable {δ : Loc} {S : Sto} {a b c o : Em} {t u : Tm} {r : Am} {s1 s2 : Sm} {d : D} {ds : List D}
@[simp] theorem mV_eq {i : Nat} : mV i δ S = match δ[i]? with | some (some d) => .ok d S | _ => .stuck := (rfl)
@[simp] theorem mC_eq : mC d δ S = .ok d S := (rfl)
@[simp] theorem mB_eq {op} : mB op a b δ S = (a δ S).bind fun x S1 => (b δ S1).bind fun y S2 => op x y S2 := (rfl)
@[simp] theorem mU_eq {op} : mU op a δ S = (a δ S).bind fun x S1 => op x S1 := (rfl)
@[simp] theorem mNil_eq : mNil δ S = .ok [] S := (rfl)
@[simp] theorem mCons_eq : mCons a r δ S = (a δ S).bind fun x S1 => (r δ S1).bind fun xs S2 => .ok (x :: xs) S2 := (rfl)
@[simp] theorem mApp_eq {f} : mApp f r δ S = (r δ S).bind fun xs S1 => f xs S1 := (rfl)
@[simp] theorem mIfE_eq : mIfE t a b δ S = (t δ S).bind fun k S1 => if k = true then a δ S1 else b δ S1 := (rfl)
@[simp] theorem mT_eq : mT a δ S = (a δ S).bind fun x S1 => match x with | .bl k => .ok k S1 | _ => .stuck := (rfl)
@[simp] theorem mAnd_eq : mAnd t u δ S = (t δ S).bind fun k S1 => if k = true then u δ S1 else .ok false S1 := (rfl)
@[simp] theorem mOr_eq : mOr t u δ S = (t δ S).bind fun k S1 => if k = true then .ok true S1 else u δ S1 := (rfl)
@[simp] theorem mNot_eq : mNot t δ S = (t δ S).bind fun k S1 => .ok (!k) S1 := (rfl)
@[simp] theorem mYes_eq : mYes δ S = .ok true S := (rfl)
@[simp] theorem mAndV_eq : mAndV a b δ S = (a δ S).bind fun x S1 => match x with | .bl true => b δ S1 | .bl false => .ok (.bl false) S1 | _ => .stuck := (rfl)
@[simp] theorem mOrV_eq : mOrV a b δ S = (a δ S).bind fun x S1 => match x with | .bl true => .ok (.bl true) S1 | .bl false => b δ S1 | _ => .stuck := (rfl)
@[simp] theorem mNotV_eq : mNotV a δ S = (a δ S).bind fun x S1 => match x with | .bl k => .ok (.bl (!k)) S1 | _ => .stuck := (rfl)
@[simp] theorem mChain_eq {f g} : mChain f g a b c δ S = (a δ S).bind fun x S1 => (b δ S1).bind fun y S2 => (f x y S2).bind fun k S3 => match k with
  | .bl true => (c δ S3).bind fun z S4 => g y z S4
  | .bl false => .ok (.bl false) S3
  | _ => .stuck := (rfl)
@[simp] theorem sSeq_eq : sSeq s1 s2 δ S = (s1 δ S).seq s2 := (rfl)
@[simp] theorem sPass_eq : sPass δ S = .nx δ S := (rfl)
@[simp] theorem sExpr_eq : sExpr a δ S = (a δ S).into δ fun _ S1 => .nx δ S1 := (rfl)
@[simp] theorem sRet_eq : sRet a δ S = (a δ S).into δ fun d S1 => .rt d S1 := (rfl)
@[simp] theorem sRetN_eq : sRetN δ S = .rt .non S := (rfl)
@[simp] theorem sIf_eq : sIf t s1 s2 δ S = (t δ S).into δ fun k S1 => if k = true then s1 δ S1 else s2 δ S1 := (rfl)
@[simp] theorem sAsg_eq {g} : sAsg a g δ S = (a δ S).into δ fun d S1 => (g d δ S1).into δ fun δ' S2 => .nx δ' S2 := (rfl)
@[simp] theorem gmName_eq {i : Nat} : gmName i d δ S = .ok (δ.set i (some d)) S := (rfl)
@[simp] theorem gmTup_eq {is : List Nat} : gmTup is (.tup ds) δ S = gmNames is ds δ S := (rfl)
@[simp] theorem gmNames_nil : gmNames [] [] δ S = .ok δ S := (rfl)
@[simp] theorem gmNames_cons {i : Nat} {is : List Nat} : gmNames (i :: is) (d :: ds) δ S = gmNames is ds (δ.set i (some d)) S := (rfl)
@[simp] theorem gmSub_eq {f} : gmSub a b f d δ S = (a δ S).bind fun x S1 => (b δ S1).bind fun y S2 => (f x y d S2).bind fun _ S3 => .ok δ S3 := (rfl)
@[simp] theorem mNo_eq : mNo δ S = .ok none S := (rfl)
@[simp] theorem mPt_eq : mPt a δ S = (a δ S).bind fun x S1 => match x with | .int i => .ok (some i) S1 | _ => .stuck := (rfl)
@[simp] theorem mSl_eq {f} {lo hi : Om} : mSl f a lo hi δ S = (a δ S).bind fun x S1 => (lo δ S1).bind fun l S2 => (hi δ S2).bind fun u S3 => f x l u S3 := (rfl)
@[simp] theorem mMt_eq {chk c} : mMt chk c o r δ S = (o δ S).bind fun x S1 => if chk S1 x = true then (r δ S1).bind fun xs S2 => c x xs S2 else .stuck := (rfl)
@[simp] theorem mJoin_eq : mJoin a b δ S = (a δ S).bind fun x S1 => match x with | .str _ => (b δ S1).bind fun y S2 => opJoin x y S2 | _ => .stuck := (rfl)
@[simp] theorem sItems_eq : sItems a δ S = (a δ S).bind (β := List D × (Sto → Prop)) fun d S1 => match d with
  | .lst ds => .ok (ds, fun _ => True) S1
  | .scr ds => .ok (ds, fun _ => True) S1
  | .tup ds => .ok (ds, fun _ => True) S1
  | .str s => .ok (s.cps.toList.map (fun c => .str ⟨#[c]⟩), fun _ => True) S1
  | .ref n => match S1[n]? with
    | some (.lst ds) => .ok (ds, fun S => S[n]? = some (.lst ds)) S1
    | _ => .stuck
  | _ => .stuck := (rfl)
@[simp] theorem sRange1_eq : sRange1 a δ S = (a δ S).bind (β := List D × (Sto → Prop)) fun d S1 => match d with
  | .int j => if limR 0 j = true then .ok (rangeD 0 j.toNat, fun _ => True) S1 else .stuck
  | _ => .stuck := (rfl)
@[simp] theorem sRangeLen_eq : sRangeLen a δ S = (a δ S).bind (β := List D × (Sto → Prop)) fun d S1 => match lenOf d S1 with
  | some n => .ok (rangeD 0 n, fun _ => True) S1
  | none => .stuck := (rfl)
def loopB (g : Gm) (s : Sm) : D → Sm := fun x δ S => (g x δ S).into δ s
theorem loopB_eq {g s} {x : D} : loopB g s x δ S = (g x δ S).into δ s := rfl
@[simp] theorem sFor_eq {src g s} : sFor src g s δ S = (src δ S).into δ fun p S1 => loopM p.2 (loopB g s) p.1 δ S1 := (rfl)
@[simp] theorem mComp_eq {src g vs} : mComp src g t a vs δ S = (src δ S).bind fun p S1 => compM p.2 g t a (wipeD δ vs) [] p.1 S1 := (rfl)
@[simp] theorem lenOf_lst : lenOf (.lst ds) S = some ds.length := (rfl)
@[simp] theorem lenOf_tup : lenOf (.tup ds) S = some ds.length := (rfl)
@[simp] theorem lenOf_scr : lenOf (.scr ds) S = some ds.length := (rfl)
@[simp] theorem lenOf_str {s} : lenOf (.str s) S = some s.length := (rfl)
@[simp] theorem cLen_eq : cLen [d] S = match lenOf d S with | some n => .ok (.int n) S | none => .stuck := (rfl)
end
/-! ### loops that leave the objects -/
section
variable {grd : Sto → Prop} {g : Gm} {t : Tm} {e : Em} {δ : Loc} {S : Sto}
theorem compM_nil {acc : List D} (h : grd S) : compM grd g t e δ acc [] S = .ok (.lst acc) S := by
  rw [compM, if_pos h]
theorem compM_cons {acc xs : List D} {x : D} (h : grd S) : compM grd g t e δ acc (x :: xs) S = (g x δ S).quiet.bind fun δ' S1 => (t δ' S1).quiet.bind fun k S2 =>
    if k = true then (e δ' S2).quiet.bind fun y S3 => compM grd g t e δ (acc ++ [y]) xs S3 else compM grd g t e δ acc xs S2 := by
  rw [compM, if_pos h]
theorem comp_pure (f : D → D) (hg : grd S) : ∀ (ds acc : List D), (∀ x ∈ ds, ∃ δ', g x δ S = .ok δ' S ∧ t δ' S = .ok true S ∧ e δ' S = .ok (f x) S) → compM grd g t e δ acc ds S = .ok (.lst (acc ++ ds.map f)) S
  | [], acc, _ => by rw [compM_nil hg]; simp
  | x :: ds, acc, h => by
    obtain ⟨δ', h1, h2, h3⟩ := h x (by simp)
    rw [compM_cons hg, h1]
    simp only [R.quiet_ok, R.bind_ok, h2, h3, if_pos]
    rw [comp_pure f hg ds _ fun y hy => h y (by simp [hy])]
    simp
theorem comp_filt (p : D → Bool) (f : D → D) (hg : grd S) : ∀ (ds acc : List D), (∀ x ∈ ds, ∃ δ', g x δ S = .ok δ' S ∧ t δ' S = .ok (p x) S ∧ (p x = true → e δ' S = .ok (f x) S)) → compM grd g t e δ acc ds S = .ok (.lst (acc ++ (ds.filter p).map f)) S
  | [], acc, _ => by rw [compM_nil hg]; simp
  | x :: ds, acc, h => by
    obtain ⟨δ', h1, h2, h3⟩ := h x (by simp)
    rw [compM_cons hg, h1]
    simp only [R.quiet_ok, R.bind_ok, h2]
    by_cases hp : p x = true
    · rw [if_pos hp, h3 hp]
      simp only [R.quiet_ok, R.bind_ok]
      rw [comp_filt p f hg ds _ fun y hy => h y (by simp [hy]), List.filter_cons_of_pos hp]
      simp
    · rw [if_neg hp, comp_filt p f hg ds _ fun y hy => h y (by simp [hy]), List.filter_cons_of_neg hp]
/-- a comprehension over a mapped list -/
theorem comp_map {α : Type} (i : α → D) (f : α → D) (hg : grd S) (xs : List α) (acc : List D) (h : ∀ x ∈ xs, ∃ δ', g (i x) δ S = .ok δ' S ∧ t δ' S = .ok true S ∧ e δ' S = .ok (f x) S) :
    compM grd g t e δ acc (xs.map i) S = .ok (.lst (acc ++ xs.map f)) S := by
  induction xs generalizing acc with
  | nil => rw [List.map_nil, compM_nil hg]; simp
  | cons x xs ih =>
    obtain ⟨δ', h1, h2, h3⟩ := h x (by simp)
    rw [List.map_cons, compM_cons hg, h1]
    simp only [R.quiet_ok, R.bind_ok, h2, h3, if_pos]
    rw [ih _ fun y hy => h y (by simp [hy])]
    simp
end
/-- a loop by what holds behind each turn -/
theorem loop_inv {b : D → Sm} (I : Nat → Loc → Sto → Prop) : ∀ (ds : List D) (n : Nat) (δ : Loc) (S : Sto), I n δ S →
    (∀ i x δ S, ds[i]? = some x → I (n + i) δ S → ∃ δ' S', (b x δ S = .nx δ' S' ∨ b x δ S = .ct δ' S') ∧ I (n + i + 1) δ' S') → ∃ δ' S', loopM (fun _ => True) b ds δ S = .nx δ' S' ∧ I (n + ds.length) δ' S'
  | [], n, δ, S, h0, _ => ⟨δ, S, by rw [loopM, if_pos trivial], h0⟩
  | x :: ds, n, δ, S, h0, hs => by
    obtain ⟨δ1, S1, h1, h2⟩ := hs 0 x δ S rfl h0
    have e : loopM (fun _ => True) b (x :: ds) δ S = loopM (fun _ => True) b ds δ1 S1 := by
      rw [loopM, if_pos trivial]
      rcases h1 with h1 | h1 <;> rw [h1]
    obtain ⟨δ2, S2, h3, h4⟩ := loop_inv I ds (n + 1) δ1 S1 h2 fun i y δ S hy hI => by
      have := hs (i + 1) y δ S (by simpa using hy) (by rw [show n + (i + 1) = n + 1 + i by omega]; exact hI)
      rwa [show n + (i + 1) + 1 = n + 1 + i + 1 by omega] at this
    exact ⟨δ2, S2, by rw [e]; exact h3, by rw [List.length_cons, show n + (ds.length + 1) = n + 1 + ds.length by omega]; exact h4⟩
/-- the same, the loop's end given a name: «generalize hL : loopM _ _ _ _ _ = r» -/
theorem loop_of {b : D → Sm} {ds : List D} {δ : Loc} {S : Sto} {r : RS} (hL : loopM (fun _ => True) b ds δ S = r) (I : Nat → Loc → Sto → Prop) (h0 : I 0 δ S)
    (hs : ∀ i x δ S, ds[i]? = some x → I i δ S → ∃ δ' S', (b x δ S = .nx δ' S' ∨ b x δ S = .ct δ' S') ∧ I (i + 1) δ' S') : ∃ δ' S', r = .nx δ' S' ∧ I ds.length δ' S' := by
  obtain ⟨δ', S', h1, h2⟩ := loop_inv I ds 0 δ S h0 fun i x δ S hx hI => by
    have := hs i x δ S hx (by rwa [Nat.zero_add] at hI)
    rwa [Nat.zero_add]
  exact ⟨δ', S', hL.symm.trans h1, by rwa [Nat.zero_add] at h2⟩
/-- .. where a turn may also return -/
theorem loop_ret {b : D → Sm} {ds : List D} {δ : Loc} {S : Sto} {r : RS} (hL : loopM (fun _ => True) b ds δ S = r) (I : Nat → Loc → Sto → Prop) (E : RS → Prop) (h0 : I 0 δ S)
    (hs : ∀ i x δ S, ds[i]? = some x → I i δ S → (∃ δ' S', (b x δ S = .nx δ' S' ∨ b x δ S = .ct δ' S') ∧ I (i + 1) δ' S') ∨ (∃ d S', b x δ S = .rt d S' ∧ E (.rt d S')) ∨ (∃ δ' S', b x δ S = .bk δ' S' ∧ E (.nx δ' S')) ∨ (∃ c δ' S', b x δ S = .exc c δ' S' ∧ E (.exc c δ' S'))) : (∃ δ' S', r = .nx δ' S' ∧ I ds.length δ' S') ∨ E r := by
  subst hL
  suffices H : ∀ (ds : List D) (n : Nat) (δ : Loc) (S : Sto), I n δ S → (∀ i x δ S, ds[i]? = some x → I (n + i) δ S → (∃ δ' S', (b x δ S = .nx δ' S' ∨ b x δ S = .ct δ' S') ∧ I (n + i + 1) δ' S') ∨ (∃ d S', b x δ S = .rt d S' ∧ E (.rt d S')) ∨ (∃ δ' S', b x δ S = .bk δ' S' ∧ E (.nx δ' S')) ∨ (∃ c δ' S', b x δ S = .exc c δ' S' ∧ E (.exc c δ' S'))) →
      (∃ δ' S', loopM (fun _ => True) b ds δ S = .nx δ' S' ∧ I (n + ds.length) δ' S') ∨ E (loopM (fun _ => True) b ds δ S) by
    have := H ds 0 δ S h0 fun i x δ S hx hI => by
      have := hs i x δ S hx (by rwa [Nat.zero_add] at hI)
      rwa [Nat.zero_add]
    rwa [Nat.zero_add] at this
  intro ds
  induction ds with
  | nil => intro n δ S h0 _; exact .inl ⟨δ, S, by rw [loopM, if_pos trivial], h0⟩
  | cons x ds ih =>
    intro n δ S h0 hs
    rcases hs 0 x δ S rfl h0 with ⟨δ1, S1, h1, h2⟩ | ⟨d, S1, h1, h2⟩ | ⟨δ1, S1, h1, h2⟩ | ⟨c, δ1, S1, h1, h2⟩
    · have e : loopM (fun _ => True) b (x :: ds) δ S = loopM (fun _ => True) b ds δ1 S1 := by
        rw [loopM, if_pos trivial]
        rcases h1 with h1 | h1 <;> rw [h1]
      rw [e, List.length_cons, show n + (ds.length + 1) = n + 1 + ds.length by omega]
      refine ih (n + 1) δ1 S1 h2 fun i y δ S hy hI => ?_
      have := hs (i + 1) y δ S (by simpa using hy) (by rw [show n + (i + 1) = n + 1 + i by omega]; exact hI)
      rwa [show n + (i + 1) + 1 = n + 1 + i + 1 by omega] at this
    · exact .inr (by rw [loopM, if_pos trivial, h1]; exact h2)
    · exact .inr (by rw [loopM, if_pos trivial, h1]; exact h2)
    · exact .inr (by rw [loopM, if_pos trivial, h1]; exact h2)
/-- a comprehension whose elements change objects, by what holds behind each turn: out i is the i-th element -/
theorem comp_of {g : Gm} {t : Tm} {e : Em} {δ : Loc} {S : Sto} {ds : List D} {r : R D} (hL : compM (fun _ => True) g t e δ [] ds S = r) (I : List D → Sto → Prop) (h0 : I [] S)
    (hs : ∀ (i : Nat) x acc S, ds[i]? = some x → I acc S → ∃ δ' S1 k S2, g x δ S = .ok δ' S1 ∧ t δ' S1 = .ok k S2 ∧ (k = true → ∃ y S3, e δ' S2 = .ok y S3 ∧ I (acc ++ [y]) S3) ∧ (k = false → I acc S2)) : ∃ acc S', r = .ok (.lst acc) S' ∧ I acc S' := by
  subst hL
  suffices H : ∀ (ds acc : List D) (S : Sto), I acc S → (∀ (i : Nat) x acc S, ds[i]? = some x → I acc S → ∃ δ' S1 k S2, g x δ S = .ok δ' S1 ∧ t δ' S1 = .ok k S2 ∧ (k = true → ∃ y S3, e δ' S2 = .ok y S3 ∧ I (acc ++ [y]) S3) ∧ (k = false → I acc S2)) →
      ∃ acc' S', compM (fun _ => True) g t e δ acc ds S = .ok (.lst acc') S' ∧ I acc' S' from H ds [] S h0 hs
  intro ds
  induction ds with
  | nil => intro acc S h0 _; exact ⟨acc, S, compM_nil trivial, h0⟩
  | cons x ds ih =>
    intro acc S h0 hs
    obtain ⟨δ', S1, k, S2, h1, h2, h3, h4⟩ := hs 0 x acc S rfl h0
    rw [compM_cons trivial, h1]
    simp only [R.quiet_ok, R.bind_ok, h2]
    have hs' : ∀ (i : Nat) x acc S, ds[i]? = some x → I acc S → ∃ δ' S1 k S2, g x δ S = .ok δ' S1 ∧ t δ' S1 = .ok k S2 ∧ (k = true → ∃ y S3, e δ' S2 = .ok y S3 ∧ I (acc ++ [y]) S3) ∧ (k = false → I acc S2) := fun i y acc S hy hI => hs (i + 1) y acc S (by simpa using hy) hI
    cases k with
    | true =>
      obtain ⟨y, S3, h5, h6⟩ := h3 rfl
      rw [if_pos rfl, h5]
      simp only [R.quiet_ok, R.bind_ok]
      exact ih _ S3 h6 hs'
    | false =>
      rw [if_neg Bool.false_ne_true]
      exact ih _ S2 (h4 rfl) hs'
theorem rangeD_get' {lo : Int} {n i : Nat} {x : D} (h : (rangeD lo n)[i]? = some x) : i < n ∧ x = .int (lo + i) := by
  unfold rangeD at h
  rw [List.getElem?_map] at h
  have hi : i < n := by
    rcases Nat.lt_or_ge i n with h' | h'
    · exact h'
    · rw [List.getElem?_eq_none (by simpa using h')] at h; cases h
  rw [List.getElem?_range hi] at h
  exact ⟨hi, by simpa using h.symm⟩
@[simp] theorem rangeD_length {lo : Int} {n : Nat} : (rangeD lo n).length = n := by simp [rangeD]
theorem rangeD_map {n : Nat} : rangeD 0 n = (List.range n).map fun i => D.int ((i : Nat) : Int) := by simp [rangeD]
theorem limR_ok {i j : Int} (h : 0 ≤ i ∧ i ≤ 1000000 ∧ 0 ≤ j ∧ j ≤ 1000000) : limR i j = true := by
  have : (1000000 : Nat) ≤ sizeLine := by decide
  unfold limR lim62
  simp only [Bool.and_eq_true, decide_eq_true_eq]
  refine ⟨⟨⟨by omega, by omega⟩, by omega, by omega⟩, by omega⟩
/-! ### data without objects -/
mutual
theorem cl_mono {n m : Nat} (h : n ≤ m) : ∀ d : D, D.cl n d = true → D.cl m d = true
  | .non, _ => rfl
  | .bl _, _ => rfl
  | .int _, _ => rfl
  | .str _, _ => rfl
  | .tup ds, q => by simp only [D.cl] at q ⊢; exact cls_mono h ds q
  | .lst ds, q => by simp only [D.cl] at q ⊢; exact cls_mono h ds q
  | .scr ds, q => by simp only [D.cl] at q ⊢; exact cls_mono h ds q
  | .dct _ ds, q => by simp only [D.cl] at q ⊢; exact cls_mono h ds q
  | .ref k, q => by simp only [D.cl, decide_eq_true_eq] at q ⊢; omega
  | .exn _, _ => rfl
theorem cls_mono {n m : Nat} (h : n ≤ m) : ∀ ds : List D, D.cls n ds = true → D.cls m ds = true
  | [], _ => rfl
  | d :: ds, q => by
    simp only [D.cls, Bool.and_eq_true] at q ⊢
    exact ⟨cl_mono h d q.1, cls_mono h ds q.2⟩
end
mutual
theorem fz_cl {rc : List D → Option (List D)} {S : Sto} {n : Nat} : ∀ d : D, D.cl n d = true → fz rc S n d = some d
  | .non, _ => rfl
  | .bl _, _ => rfl
  | .int _, _ => rfl
  | .str _, _ => rfl
  | .tup ds, q => by simp only [D.cl] at q; simp only [fz, fzs_cl ds q]; rfl
  | .lst ds, q => by simp only [D.cl] at q; simp only [fz, fzs_cl ds q]; rfl
  | .scr ds, q => by simp only [D.cl] at q; simp only [fz, fzs_cl ds q]; rfl
  | .dct _ ds, q => by simp only [D.cl] at q; simp only [fz, fzs_cl ds q]; rfl
  | .ref k, q => by simp only [D.cl, decide_eq_true_eq] at q; simp only [fz, if_pos q]
  | .exn _, _ => rfl
theorem fzs_cl {rc : List D → Option (List D)} {S : Sto} {n : Nat} : ∀ ds : List D, D.cls n ds = true → fzs rc S n ds = some ds
  | [], _ => rfl
  | d :: ds, q => by
    simp only [D.cls, Bool.and_eq_true] at q
    simp only [fzs, fz_cl d q.1, fzs_cl ds q.2]; rfl
end
theorem frz_cl {S : Sto} {n k : Nat} {ds : List D} (h : D.cls n ds = true) : frz S n k ds = some ds := by
  cases k <;> exact fzs_cl ds h
theorem cls_all {n : Nat} {ds : List D} (h : ∀ d ∈ ds, D.cl n d = true) : D.cls n ds = true := by
  induction ds with
  | nil => rfl
  | cons d ds ih => simp only [D.cls, Bool.and_eq_true]; exact ⟨h d (by simp), ih fun x hx => h x (by simp [hx])⟩
theorem cls_map {α : Type} {n : Nat} {f : α → D} {xs : List α} (h : ∀ x ∈ xs, D.cl n (f x) = true) : D.cls n (xs.map f) = true :=
  cls_all fun d hd => by
    obtain ⟨x, hx, e⟩ := List.mem_map.mp hd
    rw [← e]; exact h x hx
theorem cls_app {n : Nat} {ds es : List D} (h : D.cls n ds = true) (g : D.cls n es = true) : D.cls n (ds ++ es) = true := by
  induction ds with
  | nil => exact g
  | cons d ds ih =>
    simp only [D.cls, List.cons_append, Bool.and_eq_true] at h ⊢
    exact ⟨h.1, ih h.2⟩
/-- a def whose new objects stand behind the old ones, and whose answer holds none -/
theorem finFrz_app {k : Nat} {S T : Sto} {d : D} (h : D.cl S.length d = true) : finFrz k S (.ok d (S ++ T)) = .ok d S := by
  unfold finFrz
  have e : frz (S ++ T) S.length k [d] = some [d] := frz_cl (by simp only [D.cls, h]; rfl)
  simp only [if_pos (ClS.app (S := S) (T := T)), e]
  rw [List.take_left]
/-- .. whose answer is its own new list -/
theorem finFrz_ref {k m : Nat} {S T : Sto} {ds : List D} (hm : S.length ≤ m) (hd : (S ++ T)[m]? = some (.lst ds)) (h : D.cls S.length ds = true) : finFrz (k + 1) S (.ok (.ref m) (S ++ T)) = .ok (.lst ds) S := by
  unfold finFrz
  have e : frz (S ++ T) S.length (k + 1) [.ref m] = some [.lst ds] := by
    show fzs (frz (S ++ T) S.length k) (S ++ T) S.length [.ref m] = _
    simp only [fzs, fz, if_neg (Nat.not_lt.mpr hm), hd, frz_cl h]; rfl
  simp only [if_pos (ClS.app (S := S) (T := T)), e]
  rw [List.take_left]
end PM

/-! PM, part 12: operators at their values -/
namespace PM
open PySem L2
@[simp] theorem ofString_inj {s t : String} : (Str.ofString s = Str.ofString t) ↔ s = t := by
  constructor
  · intro h
    rw [Str.ofString_eq_toList, Str.ofString_eq_toList] at h
    have h1 : (s.toList.map Char.toNat).toArray = (t.toList.map Char.toNat).toArray := by injection h
    have h2 : s.toList.map Char.toNat = t.toList.map Char.toNat := by simpa using h1
    have h3 : ∀ l r : List Char, l.map Char.toNat = r.map Char.toNat → l = r := by
      intro l
      induction l with
      | nil => intro r h; cases r with
        | nil => rfl
        | cons c r => simp at h
      | cons c l ih =>
        intro r h
        cases r with
        | nil => simp at h
        | cons d r =>
          simp only [List.map_cons, List.cons.injEq] at h
          have : c = d := by
            have h4 : c.val.toNat = d.val.toNat := h.1
            exact Char.ext (UInt32.toNat_inj.mp h4)
          rw [this, ih r h.2]
    exact String.toList_inj.mp (h3 _ _ h2)
  · intro h; rw [h]
section
variable {S : Sto} {i j : Int} {a b : Str} {ds es : List D} {d e : D} {n : Nat}
@[simp] theorem opAdd_int : opAdd (.int i) (.int j) S = .ok (.int (i + j)) S := (rfl)
@[simp] theorem opSub_int : opSub (.int i) (.int j) S = .ok (.int (i - j)) S := (rfl)
@[simp] theorem opLt_int : opLt (.int i) (.int j) S = .ok (.bl (decide (i < j))) S := (rfl)
@[simp] theorem opLe_int : opLe (.int i) (.int j) S = .ok (.bl (decide (i ≤ j))) S := (rfl)
@[simp] theorem opGt_int : opGt (.int i) (.int j) S = .ok (.bl (decide (j < i))) S := (rfl)
@[simp] theorem opGe_int : opGe (.int i) (.int j) S = .ok (.bl (decide (j ≤ i))) S := (rfl)
@[simp] theorem opNeg_int : opNeg (.int i) S = .ok (.int (-i)) S := (rfl)
theorem opMul_r (h : -18446744073709551616 < j ∧ j < 18446744073709551616) : opMul (.int i) (.int j) S = .ok (.int (i * j)) S := by
  show (if CMul i j then _ else _) = _
  rw [if_pos (.inr (by simpa using h))]
theorem opMul_l (h : -18446744073709551616 < i ∧ i < 18446744073709551616) : opMul (.int i) (.int j) S = .ok (.int (i * j)) S := by
  show (if CMul i j then _ else _) = _
  rw [if_pos (.inl (by simpa using h))]
theorem opMod_pos (h : 0 < j) : opMod (.int i) (.int j) S = .ok (.int (i % j)) S := by
  show (if 0 < j then _ else _) = _
  rw [if_pos h]
theorem opDiv_pos (h : 0 < j ∧ j < 1073741824) : opDiv (.int i) (.int j) S = .ok (.int (i / j)) S := by
  show (if CDiv i j then _ else _) = _
  rw [if_pos (show CDiv i j from h)]
theorem opPow_int (h : 0 ≤ j ∧ j ≤ 1000000 ∧ i.natAbs < 18446744073709551616) : opPow (.int i) (.int j) S = .ok (.int (i ^ j.toNat)) S := by
  show (if CPow i j then _ else _) = _
  rw [if_pos (by unfold CPow; simpa using h)]
theorem opAdd_str (h : a.length + b.length ≤ sizeLine) : opAdd (.str a) (.str b) S = .ok (.str (a ++ b)) S := by
  show (if _ then _ else _) = _
  rw [if_pos h]
theorem opAdd_tup (h : ds.length + es.length ≤ sizeLine) : opAdd (.tup ds) (.tup es) S = .ok (.tup (ds ++ es)) S := by
  show newTup _ _ = _
  unfold newTup
  rw [if_pos (by simpa using h)]
theorem opAdd_lst (h : ds.length + es.length ≤ sizeLine) : opAdd (.lst ds) (.lst es) S = .ok (.lst (ds ++ es)) S := by
  show newLst _ _ = _
  unfold newLst
  rw [if_pos (by simpa using h)]
theorem opAdd_refl (hn : S[n]? = some (.lst ds)) (h : ds.length + es.length ≤ sizeLine) : opAdd (.ref n) (.lst es) S = .ok (.lst (ds ++ es)) S := by
  simp only [opAdd, asL, hn]
  unfold newLst
  rw [if_pos (by simpa using h)]
theorem opAddR_refl (hn : S[n]? = some (.lst ds)) (h : ds.length + es.length ≤ sizeLine) : opAddR (.ref n) (.lst es) S = .ok (.ref S.length) (S ++ [.lst (ds ++ es)]) := by
  simp only [opAddR, asL, hn]
  unfold newRef
  rw [if_pos (by simpa using h)]
@[simp] theorem opEq_str : opEq (.str a) (.str b) S = .ok (.bl (decide (a = b))) S := (rfl)
@[simp] theorem opEq_int : opEq (.int i) (.int j) S = .ok (.bl (decide (i = j))) S := (rfl)
@[simp] theorem opNe_str : opNe (.str a) (.str b) S = .ok (.bl (!decide (a = b))) S := (rfl)
@[simp] theorem opNe_int : opNe (.int i) (.int j) S = .ok (.bl (!decide (i = j))) S := (rfl)
@[simp] theorem opEq_bl {x y : Bool} : opEq (.bl x) (.bl y) S = .ok (.bl (decide (x = y))) S := (rfl)
@[simp] theorem opNe_bl {x y : Bool} : opNe (.bl x) (.bl y) S = .ok (.bl (!decide (x = y))) S := (rfl)
@[simp] theorem opIsN_non : opIsN d .non S = .ok (.bl (isNon d)) S := (rfl)
@[simp] theorem opNotN_non : opNotN d .non S = .ok (.bl (!isNon d)) S := (rfl)
theorem opEq_of {k : Bool} (h : eqD S d e = some k) : opEq d e S = .ok (.bl k) S := by unfold opEq; rw [h]
theorem opNe_of {k : Bool} (h : eqD S d e = some k) : opNe d e S = .ok (.bl (!k)) S := by unfold opNe; rw [h]
/-! subscripts -/
@[simp] theorem atI_cast {α : Type} (xs : List α) (k : Nat) : atI xs (k : Int) = xs[k]? := by
  unfold atI ixN
  rw [if_pos (by omega)]
  by_cases h : k < xs.length
  · rw [if_pos (by omega)]; simp
  · rw [if_neg (by omega), List.getElem?_eq_none (by omega)]; rfl
@[simp] theorem atI_0 {α : Type} (xs : List α) : atI xs 0 = xs[0]? := atI_cast xs 0
@[simp] theorem atI_1 {α : Type} (xs : List α) : atI xs 1 = xs[1]? := atI_cast xs 1
@[simp] theorem atI_2 {α : Type} (xs : List α) : atI xs 2 = xs[2]? := atI_cast xs 2
@[simp] theorem atI_3 {α : Type} (xs : List α) : atI xs 3 = xs[3]? := atI_cast xs 3
theorem atI_of {α : Type} (xs : List α) (h : 0 ≤ i) : atI xs i = xs[i.toNat]? := by
  obtain ⟨k, rfl⟩ : ∃ k : Nat, i = k := ⟨i.toNat, by omega⟩
  rw [atI_cast]; rfl
def at1 (o : Option D) (S : Sto) : R D := match o with
  | some d => .ok d S
  | none => .stuck
@[simp] theorem at1_some : at1 (some d) S = .ok d S := (rfl)
@[simp] theorem at1_none : at1 none S = .stuck := (rfl)
@[simp] theorem opIx_lst : opIx (.lst ds) (.int i) S = at1 (atI ds i) S := (rfl)
@[simp] theorem opIx_tup : opIx (.tup ds) (.int i) S = at1 (atI ds i) S := (rfl)
@[simp] theorem opIx_scr : opIx (.scr ds) (.int i) S = at1 (atI ds i) S := (rfl)
theorem opIx_ref (h : S[n]? = some (.lst ds)) : opIx (.ref n) (.int i) S = at1 (atI ds i) S := by
  simp only [opIx, dget, dkOf, dtOf, h, rdS, rdL, asL]; rfl
theorem opIx_str : opIx (.str a) (.int i) S = match atI a.cps.toList i with | some c => .ok (.str ⟨#[c]⟩) S | none => .stuck := rfl
@[simp] theorem ixN_0 (m : Nat) : ixN (m + 1) 0 = some 0 := by
  unfold ixN; rw [if_pos (by omega), if_pos (by omega)]; rfl
@[simp] theorem ixN_1 (m : Nat) : ixN (m + 2) 1 = some 1 := by
  unfold ixN; rw [if_pos (by omega), if_pos (by omega)]; rfl
theorem opSet_lst {z : D} {k : Nat} (h : S[n]? = some (.lst ds)) (hi : ixN ds.length i = some k) : opSet (.ref n) (.int i) z S = .ok () (S.set n (.lst (ds.set k z))) := by
  simp only [opSet, h, hi]
@[simp] theorem opSl_str {lo hi} : opSl (.str a) lo hi S = .ok (.str (cutS a lo hi)) S := (rfl)
@[simp] theorem opSl_tup {lo hi} : opSl (.tup ds) lo hi S = .ok (.tup (cutD ds lo hi)) S := (rfl)
@[simp] theorem opSl_lst {lo hi} : opSl (.lst ds) lo hi S = .ok (.lst (cutD ds lo hi)) S := (rfl)
@[simp] theorem opSl_scr {lo hi} : opSl (.scr ds) lo hi S = .ok (.lst (cutD ds lo hi)) S := (rfl)
/-! displays, calls -/
theorem newTup_ok (h : ds.length ≤ sizeLine) : newTup ds S = .ok (.tup ds) S := by unfold newTup; rw [if_pos h]
theorem newLst_ok (h : ds.length ≤ sizeLine) : newLst ds S = .ok (.lst ds) S := by unfold newLst; rw [if_pos h]
theorem newRef_ok (h : ds.length ≤ sizeLine) : newRef ds S = .ok (.ref S.length) (S ++ [.lst ds]) := by unfold newRef; rw [if_pos h]
theorem szl : (1000000 : Nat) ≤ sizeLine := by decide
@[simp] theorem newTup_0 : newTup [] S = .ok (.tup []) S := newTup_ok (by show 0 ≤ sizeLine; decide)
@[simp] theorem newTup_1 {a : D} : newTup [a] S = .ok (.tup [a]) S := newTup_ok (by show 1 ≤ sizeLine; decide)
@[simp] theorem newTup_2 {a b : D} : newTup [a, b] S = .ok (.tup [a, b]) S := newTup_ok (by show 2 ≤ sizeLine; decide)
@[simp] theorem newTup_3 {a b c : D} : newTup [a, b, c] S = .ok (.tup [a, b, c]) S := newTup_ok (by show 3 ≤ sizeLine; decide)
@[simp] theorem newTup_4 {a b c e : D} : newTup [a, b, c, e] S = .ok (.tup [a, b, c, e]) S := newTup_ok (by show 4 ≤ sizeLine; decide)
@[simp] theorem newLst_0 : newLst [] S = .ok (.lst []) S := newLst_ok (by show 0 ≤ sizeLine; decide)
@[simp] theorem newLst_1 {a : D} : newLst [a] S = .ok (.lst [a]) S := newLst_ok (by show 1 ≤ sizeLine; decide)
@[simp] theorem newLst_2 {a b : D} : newLst [a, b] S = .ok (.lst [a, b]) S := newLst_ok (by show 2 ≤ sizeLine; decide)
@[simp] theorem newLst_3 {a b c : D} : newLst [a, b, c] S = .ok (.lst [a, b, c]) S := newLst_ok (by show 3 ≤ sizeLine; decide)
@[simp] theorem newLst_4 {a b c e : D} : newLst [a, b, c, e] S = .ok (.lst [a, b, c, e]) S := newLst_ok (by show 4 ≤ sizeLine; decide)
@[simp] theorem newRef_0 : newRef [] S = .ok (.ref S.length) (S ++ [.lst []]) := newRef_ok (by show 0 ≤ sizeLine; decide)
@[simp] theorem newRef_1 {a : D} : newRef [a] S = .ok (.ref S.length) (S ++ [.lst [a]]) := newRef_ok (by show 1 ≤ sizeLine; decide)
@[simp] theorem newRef_2 {a b : D} : newRef [a, b] S = .ok (.ref S.length) (S ++ [.lst [a, b]]) := newRef_ok (by show 2 ≤ sizeLine; decide)
@[simp] theorem cList_lst : cList [.lst ds] S = .ok (.lst ds) S := (rfl)
@[simp] theorem cList_tup : cList [.tup ds] S = .ok (.lst ds) S := (rfl)
@[simp] theorem cTuple_lst : cTuple [.lst ds] S = .ok (.tup ds) S := (rfl)
@[simp] theorem cTuple_tup : cTuple [.tup ds] S = .ok (.tup ds) S := (rfl)
theorem cTuple_ref (h : S[n]? = some (.lst ds)) : cTuple [.ref n] S = .ok (.tup ds) S := by simp only [cTuple, rdS, rdL, asL, h]
@[simp] theorem isLst_lst : isLst S (.lst ds) = true := (rfl)
theorem isLst_ref (h : S[n]? = some (.lst ds)) : isLst S (.ref n) = true := by simp only [isLst, rdL, asL, h]; rfl
theorem cAppend_ref (h : S[n]? = some (.lst ds)) (hl : ds.length < sizeLine) : cAppend (.ref n) [d] S = .ok .non (S.set n (.lst (ds ++ [d]))) := by simp only [cAppend, h, if_pos hl]
theorem cExtend_ref (h : S[n]? = some (.lst ds)) (hl : ds.length + es.length ≤ sizeLine) : cExtend (.ref n) [.lst es] S = .ok .non (S.set n (.lst (ds ++ es))) := by simp only [cExtend, h, asL, if_pos hl]
/-! isinstance -/
def opIsiK (t T : String) (S : Sto) : R D := match kitB t T with
  | some k => .ok (.bl k) S
  | none => .stuck
@[simp] theorem isi_non {T} : opIsi T .non S = opIsiK "NoneType" T S := (rfl)
@[simp] theorem isi_bl {T b} : opIsi T (.bl b) S = opIsiK "bool" T S := (rfl)
@[simp] theorem isi_int {T} : opIsi T (.int i) S = opIsiK "int" T S := (rfl)
@[simp] theorem isi_str {T} : opIsi T (.str a) S = opIsiK "str" T S := (rfl)
@[simp] theorem isi_tup {T} : opIsi T (.tup ds) S = opIsiK "tuple" T S := (rfl)
@[simp] theorem isi_lst {T} : opIsi T (.lst ds) S = opIsiK "list" T S := (rfl)
@[simp] theorem isi_dct {T ks} : opIsi T (.dct ks ds) S = opIsiK "dict" T S := (rfl)
theorem isi_ref {T} (h : S[n]? = some (.lst ds)) : opIsi T (.ref n) S = opIsiK "list" T S := by simp only [opIsi, tyN, h]; rfl
theorem isiK_of {t T : String} {k : Bool} (h : kitB t T = some k) : opIsiK t T S = .ok (.bl k) S := by unfold opIsiK; rw [h]
@[simp] theorem isiK_tt : opIsiK "tuple" "tuple" S = .ok (.bl true) S := isiK_of (by decide +kernel)
@[simp] theorem isiK_it : opIsiK "int" "tuple" S = .ok (.bl false) S := isiK_of (by decide +kernel)
@[simp] theorem isiK_st : opIsiK "str" "tuple" S = .ok (.bl false) S := isiK_of (by decide +kernel)
@[simp] theorem isiK_nt : opIsiK "NoneType" "tuple" S = .ok (.bl false) S := isiK_of (by decide +kernel)
@[simp] theorem isiK_bt : opIsiK "bool" "tuple" S = .ok (.bl false) S := isiK_of (by decide +kernel)
@[simp] theorem isiK_lt : opIsiK "list" "tuple" S = .ok (.bl false) S := isiK_of (by decide +kernel)
@[simp] theorem isiK_ii : opIsiK "int" "int" S = .ok (.bl true) S := isiK_of (by decide +kernel)
@[simp] theorem isiK_bi : opIsiK "bool" "int" S = .ok (.bl true) S := isiK_of (by decide +kernel)
@[simp] theorem isiK_ti : opIsiK "tuple" "int" S = .ok (.bl false) S := isiK_of (by decide +kernel)
@[simp] theorem isiK_si : opIsiK "str" "int" S = .ok (.bl false) S := isiK_of (by decide +kernel)
@[simp] theorem isiK_ni : opIsiK "NoneType" "int" S = .ok (.bl false) S := isiK_of (by decide +kernel)
@[simp] theorem isiK_li : opIsiK "list" "int" S = .ok (.bl false) S := isiK_of (by decide +kernel)
@[simp] theorem isiK_ib : opIsiK "int" "bool" S = .ok (.bl false) S := isiK_of (by decide +kernel)
@[simp] theorem isiK_bb : opIsiK "bool" "bool" S = .ok (.bl true) S := isiK_of (by decide +kernel)
@[simp] theorem isiK_tb : opIsiK "tuple" "bool" S = .ok (.bl false) S := isiK_of (by decide +kernel)
@[simp] theorem isiK_sb : opIsiK "str" "bool" S = .ok (.bl false) S := isiK_of (by decide +kernel)
@[simp] theorem isiK_nb : opIsiK "NoneType" "bool" S = .ok (.bl false) S := isiK_of (by decide +kernel)
@[simp] theorem isiK_lb : opIsiK "list" "bool" S = .ok (.bl false) S := isiK_of (by decide +kernel)
@[simp] theorem isiK_ss : opIsiK "str" "str" S = .ok (.bl true) S := isiK_of (by decide +kernel)
@[simp] theorem isiK_is : opIsiK "int" "str" S = .ok (.bl false) S := isiK_of (by decide +kernel)
@[simp] theorem isiK_ns : opIsiK "NoneType" "str" S = .ok (.bl false) S := isiK_of (by decide +kernel)
@[simp] theorem isiK_bs : opIsiK "bool" "str" S = .ok (.bl false) S := isiK_of (by decide +kernel)
@[simp] theorem isiK_ts : opIsiK "tuple" "str" S = .ok (.bl false) S := isiK_of (by decide +kernel)
@[simp] theorem isiK_ls : opIsiK "list" "str" S = .ok (.bl false) S := isiK_of (by decide +kernel)
@[simp] theorem isiK_ll : opIsiK "list" "list" S = .ok (.bl true) S := isiK_of (by decide +kernel)
@[simp] theorem isiK_tl : opIsiK "tuple" "list" S = .ok (.bl false) S := isiK_of (by decide +kernel)
@[simp] theorem isiK_dd : opIsiK "dict" "dict" S = .ok (.bl true) S := isiK_of (by decide +kernel)
@[simp] theorem isiK_nd : opIsiK "NoneType" "dict" S = .ok (.bl false) S := isiK_of (by decide +kernel)
end
/-! objects -/
@[simp] theorem sto_snoc {S : Sto} {o : MO} : (S ++ [o])[S.length]? = some o := by simp
theorem sto_set {S : Sto} {n : Nat} {o u : MO} (h : S[n]? = some u) : (S.set n o)[n]? = some o := by
  rw [List.getElem?_set_self (List.getElem?_eq_some_iff.mp h).1]
@[simp] theorem sto_snoc_set {S : Sto} {o u : MO} : (S ++ [o]).set S.length u = S ++ [u] := by simp
@[simp] theorem set_set' {α : Type} {S : List α} {n : Nat} {a b : α} : (S.set n a).set n b = S.set n b := List.set_set _
end PM

/-! PM, part 13: labels (plain) -/
namespace PM
open PySem L2
def alpha : Str := Str.ofString "abcdefghijklmnopqrstuvwxyz"
theorem alpha_cps : alpha.cps.toList = List.range' 97 26 := by decide +kernel
theorem alpha_at {i : Int} (h0 : 0 ≤ i) (h : i < 26) : atI alpha.cps.toList i = some (97 + i.toNat) := by
  rw [atI_of _ h0, alpha_cps, List.getElem?_range' (by omega)]
  simp
theorem opIx_alpha {S : Sto} {i : Int} (h0 : 0 ≤ i) (h : i < 26) : opIx (.str (Str.ofString "abcdefghijklmnopqrstuvwxyz")) (.int i) S = .ok (.str ⟨#[97 + i.toNat]⟩) S := by
  show opIx (.str alpha) _ _ = _
  rw [opIx_str, alpha_at h0 h]
/-- a sign of a label -/
def sg (i : Int) : Nat := 97 + (i % 26).toNat
theorem sg_lo (i : Int) : 97 ≤ sg i := Nat.le_add_right _ _
theorem sg_hi (i : Int) : sg i < 123 := by unfold sg; omega
def labB (c : Int) : List Nat := (List.range (c % 7).toNat).map fun (k : Nat) => sg (c / 49 % 26 + c / 1274 * (k : Int))
def labA (c : Int) : Nat := (c / 7 % (c % 7 + 1)).toNat
def labL (c : Int) (k : Nat) : List Nat := (labB c).take (labA c) ++ [sg (c / 49 + 3 * (k : Int))] ++ (labB c).drop (labA c)
/-- the k-th label -/
def lab (c : Int) (k : Nat) : Str := ⟨(labL c k).toArray⟩
theorem labB_len (c : Int) : (labB c).length = (c % 7).toNat := by simp [labB]
theorem labA_le {c : Int} (h : 0 ≤ c) : labA c ≤ (labB c).length := by
  rw [labB_len]; unfold labA
  have h1 : 0 < c % 7 + 1 := by omega
  have h2 := Int.emod_lt_of_pos (c / 7) h1
  have h3 := Int.emod_nonneg (c / 7) (show c % 7 + 1 ≠ 0 by omega)
  generalize c / 7 % (c % 7 + 1) = z at *
  omega
theorem lab_len {c : Int} (h : 0 ≤ c) (k : Nat) : (lab c k).length = (c % 7).toNat + 1 := by
  show (labL c k).toArray.size = _
  have := labA_le h
  rw [List.size_toArray, labL, List.length_append, List.length_append, List.length_take, List.length_drop, labB_len] at *
  simp; omega
theorem lab_le {c : Int} (h : 0 ≤ c) (k : Nat) : (lab c k).length ≤ 7 := by rw [lab_len h]; omega
theorem labL_az (c : Int) (k : Nat) : ∀ x ∈ labL c k, 97 ≤ x ∧ x < 123 := by
  intro x hx
  have hb : ∀ y ∈ labB c, 97 ≤ y ∧ y < 123 := fun y hy => by
    obtain ⟨j, _, e⟩ := List.mem_map.mp hy
    rw [← e]; exact ⟨sg_lo _, sg_hi _⟩
  simp only [labL, List.mem_append, List.mem_singleton] at hx
  rcases hx with (hx | hx) | hx
  · exact hb x (List.mem_of_mem_take hx)
  · rw [hx]; exact ⟨sg_lo _, sg_hi _⟩
  · exact hb x (List.mem_of_mem_drop hx)
theorem lab_inj {c : Int} {i j : Nat} (hi : i < 8) (hj : j < 8) (h : lab c i = lab c j) : i = j := by
  have h1 : labL c i = labL c j := by
    have : (labL c i).toArray = (labL c j).toArray := by injection h
    simpa using this
  unfold labL at h1
  simp only [List.append_assoc] at h1
  have h2 := List.append_cancel_left h1
  simp only [List.cons_append, List.cons.injEq] at h2
  have h3 := h2.1
  unfold sg at h3
  omega
def labs (c : Int) (m : Nat) : List Str := (List.range m).map (lab c)
theorem labs_len (c : Int) (m : Nat) : (labs c m).length = m := by simp [labs]
theorem labs_nodup (c : Int) {m : Nat} (hm : m ≤ 8) : (labs c m).Nodup := by
  unfold labs List.Nodup
  rw [List.pairwise_map]
  refine List.Pairwise.imp_of_mem (fun {i j} hi hj h => ?_) List.nodup_range
  intro e
  simp at hi hj
  exact h (lab_inj (by omega) (by omega) e)
theorem mem_labs {c : Int} {m : Nat} {s : Str} (h : s ∈ labs c m) : ∃ k, k < m ∧ s = lab c k := by
  obtain ⟨k, hk, e⟩ := List.mem_map.mp h
  exact ⟨k, by simpa using hk, e.symm⟩
/-- texts of letters a to z, of one to seven -/
def IsLab (s : Str) : Prop := (∀ x ∈ s.cps.toList, 97 ≤ x ∧ x < 123) ∧ 1 ≤ s.length ∧ s.length ≤ 8
theorem lab_is {c : Int} (h : 0 ≤ c) (k : Nat) : IsLab (lab c k) := by
  refine ⟨fun x hx => labL_az c k x (by simpa [lab] using hx), ?_, ?_⟩
  · rw [lab_len h]; omega
  · have := lab_le h k; omega
theorem labs_is {c : Int} (h : 0 ≤ c) {m : Nat} : ∀ s ∈ labs c m, IsLab s := fun s hs => by
  obtain ⟨k, _, e⟩ := mem_labs hs
  rw [e]; exact lab_is h k
theorem IsLab.ok {s : Str} (h : IsLab s) : PyData.strOk s = true := by
  unfold PyData.strOk
  rw [Array.all_eq_true']
  intro x hx
  have := h.1 x (by simpa using hx)
  simp; omega
/-! joining the base -/
theorem strsOf_map {α : Type} (f : α → Str) : ∀ xs : List α, strsOf (xs.map fun x => D.str (f x)) = some (xs.map f)
  | [] => rfl
  | x :: xs => by simp only [List.map_cons, strsOf, strsOf_map f xs]; rfl
theorem joinL_nil : ∀ ps : List (List Nat), TL.joinL [] ps = ps.flatten
  | [] => rfl
  | [p] => by simp [TL.joinL]
  | p :: q :: r => by simp only [TL.joinL, List.nil_append, joinL_nil (q :: r), List.flatten_cons]
theorem join_map {α : Type} {S : Sto} (f : α → Nat) (xs : List α) (h : xs.length ≤ 1000) : opJoin (.str (Str.ofString "")) (.lst (xs.map fun x => .str ⟨#[f x]⟩)) S = .ok (.str ⟨(xs.map f).toArray⟩) S := by
  have e : (Txt.join (Str.ofString "") (xs.map fun x => (⟨#[f x]⟩ : Str))).cps.toList = xs.map f := by
    rw [TL.join_eq]
    show TL.tl _ = _
    rw [TL.tl_join, show TL.tl (Str.ofString "") = [] from rfl, joinL_nil, List.map_map]
    induction xs with
    | nil => rfl
    | cons x xs ih => simp only [List.map_cons, List.flatten_cons, ih (by simp at h; omega)]; rfl
  have e2 : Txt.join (Str.ofString "") (xs.map fun x => (⟨#[f x]⟩ : Str)) = ⟨(xs.map f).toArray⟩ := by
    rw [← e]
  have sz : (1000 : Nat) ≤ 16777216 := by decide
  have sl : (1000 : Nat) ≤ sizeLine := by decide
  simp only [opJoin, rdS, rdL, asL, strsOf_map]
  rw [if_pos, e2]
  refine ⟨?_, ?_⟩
  · rw [show (Str.ofString "").length = 0 from rfl, Nat.mul_zero, Nat.add_zero, List.map_map]
    have : ((xs.map ((fun s : Str => s.length) ∘ fun x => (⟨#[f x]⟩ : Str)))).sum = xs.length := by
      clear e e2 h
      induction xs with
      | nil => rfl
      | cons x xs ih => simp only [List.map_cons, List.sum_cons, ih, List.length_cons]; show 1 + _ = _; omega
    rw [this]; omega
  · rw [e2]
    show (xs.map f).toArray.size ≤ _
    simp; omega
theorem cutS_to {z : Str} {i : Int} (h : 0 ≤ i) (h2 : i.toNat ≤ z.length) : cutS z none (some i) = ⟨(z.cps.toList.take i.toNat).toArray⟩ := by
  obtain ⟨k, rfl⟩ : ∃ k : Nat, i = k := ⟨i.toNat, by omega⟩
  have h2 : k ≤ z.length := h2
  unfold cutS
  rw [HT.sIx_none, HT.sIx_nat, List.drop_zero, Nat.sub_zero, Nat.min_eq_left h2]; rfl
theorem cutS_from {z : Str} {i : Int} (h : 0 ≤ i) (h2 : i.toNat ≤ z.length) : cutS z (some i) none = ⟨(z.cps.toList.drop i.toNat).toArray⟩ := by
  obtain ⟨k, rfl⟩ : ∃ k : Nat, i = k := ⟨i.toNat, by omega⟩
  have h2 : k ≤ z.length := h2
  unfold cutS
  rw [HT.sIx_none, HT.sIx_nat, Nat.min_eq_left h2]
  have : (z.cps.toList.drop k).take (z.length - k) = z.cps.toList.drop k := by
    rw [List.take_of_length_le]; simp [Str.length]
  rw [this]; rfl
theorem str_app (a b : List Nat) : (⟨a.toArray⟩ : Str) ++ ⟨b.toArray⟩ = ⟨(a ++ b).toArray⟩ := by
  show (⟨a.toArray ++ b.toArray⟩ : Str) = _
  simp
end PM

/-! PM, part 14: bodies (plain) -/
namespace PM
open PySem L2
inductive B where
  | num (n : Int) | inp (k : Int) | make (ls : List Str) (bs : List B) | get (b : B) (l : Str) | put (b : B) (l : Str) (c : B) | sum (b c : B) | ite (b c d : B) | call (f : Str) (bs : List B)
def fldD (ls : List Str) (ds : List D) : List D := List.zipWith (fun l d => .tup [.str l, d]) ls ds
mutual
def bd : B → D
  | .num n => .tup [.str "number", .int n]
  | .inp k => .tup [.str "input", .int k]
  | .make ls bs => .tup [.str "make", .tup (fldD ls (bds bs))]
  | .get b l => .tup [.str "get", bd b, .str l]
  | .put b l c => .tup [.str "put", bd b, .str l, bd c]
  | .sum b c => .tup [.str "sum", bd b, bd c]
  | .ite b c d => .tup [.str "if", bd b, bd c, bd d]
  | .call f bs => .tup [.str "call", .str f, .tup (bds bs)]
def bds : List B → List D
  | [] => []
  | b :: bs => bd b :: bds bs
end
theorem bds_map : ∀ bs : List B, bds bs = bs.map bd
  | [] => rfl
  | b :: bs => by rw [bds, bds_map bs]; rfl
def kidsB : B → List B
  | .num _ => [] | .inp _ => []
  | .make _ bs => bs
  | .get b _ => [b]
  | .put b _ c => [b, c]
  | .sum b c => [b, c]
  | .ite b c d => [b, c, d]
  | .call _ bs => bs
/-- bodies of a depth, of few parts, of labels -/
inductive WB : Nat → B → Prop where
  | num {d n} : WB (d + 1) (.num n)
  | inp {d k} : WB (d + 1) (.inp k)
  | make {d ls bs} : ls.length = bs.length → bs.length ≤ 4 → (∀ l ∈ ls, IsLab l) → (∀ b ∈ bs, WB d b) → WB (d + 1) (.make ls bs)
  | get {d b l} : WB d b → IsLab l → WB (d + 1) (.get b l)
  | put {d b l c} : WB d b → IsLab l → WB d c → WB (d + 1) (.put b l c)
  | sum {d b c} : WB d b → WB d c → WB (d + 1) (.sum b c)
  | ite {d b c e} : WB d b → WB d c → WB d e → WB (d + 1) (.ite b c e)
  | call {d f bs} : IsLab f → bs.length ≤ 4 → (∀ b ∈ bs, WB d b) → WB (d + 1) (.call f bs)
theorem WB.kids {d : Nat} {b : B} (h : WB (d + 1) b) : ∀ c ∈ kidsB b, WB d c := by
  cases h with
  | num => intro c h; cases h
  | inp => intro c h; cases h
  | make _ _ _ h => exact h
  | get h _ => intro c hc; simp only [kidsB, List.mem_singleton] at hc; rw [hc]; exact h
  | put h _ h2 => intro c hc; simp only [kidsB, List.mem_cons, List.not_mem_nil, or_false] at hc; rcases hc with rfl | rfl <;> assumption
  | sum h h2 => intro c hc; simp only [kidsB, List.mem_cons, List.not_mem_nil, or_false] at hc; rcases hc with rfl | rfl <;> assumption
  | ite h h2 h3 => intro c hc; simp only [kidsB, List.mem_cons, List.not_mem_nil, or_false] at hc; rcases hc with rfl | rfl | rfl <;> assumption
  | call _ _ h => exact h
theorem WB.few {d : Nat} {b : B} (h : WB d b) : (kidsB b).length ≤ 4 := by
  cases h <;> simp [kidsB] <;> assumption
theorem WB.pos {d : Nat} {b : B} (h : WB d b) : ∃ e, d = e + 1 := by
  cases h <;> exact ⟨_, rfl⟩
theorem WB.mono {d e : Nat} {b : B} (h : WB d b) : d ≤ e → WB e b := by
  induction h generalizing e with
  | num => intro he; obtain ⟨e, rfl⟩ : ∃ f, e = f + 1 := ⟨e - 1, by omega⟩; exact .num
  | inp => intro he; obtain ⟨e, rfl⟩ : ∃ f, e = f + 1 := ⟨e - 1, by omega⟩; exact .inp
  | make h1 h2 h3 h4 ih => intro he; obtain ⟨e, rfl⟩ : ∃ f, e = f + 1 := ⟨e - 1, by omega⟩; exact .make h1 h2 h3 fun b hb => ih b hb (by omega)
  | get h1 h2 ih => intro he; obtain ⟨e, rfl⟩ : ∃ f, e = f + 1 := ⟨e - 1, by omega⟩; exact .get (ih (by omega)) h2
  | put h1 h2 h3 ih1 ih3 => intro he; obtain ⟨e, rfl⟩ : ∃ f, e = f + 1 := ⟨e - 1, by omega⟩; exact .put (ih1 (by omega)) h2 (ih3 (by omega))
  | sum h1 h3 ih1 ih3 => intro he; obtain ⟨e, rfl⟩ : ∃ f, e = f + 1 := ⟨e - 1, by omega⟩; exact .sum (ih1 (by omega)) (ih3 (by omega))
  | ite h1 h2 h3 ih1 ih2 ih3 => intro he; obtain ⟨e, rfl⟩ : ∃ f, e = f + 1 := ⟨e - 1, by omega⟩; exact .ite (ih1 (by omega)) (ih2 (by omega)) (ih3 (by omega))
  | call h1 h2 h3 ih => intro he; obtain ⟨e, rfl⟩ : ∃ f, e = f + 1 := ⟨e - 1, by omega⟩; exact .call h1 h2 fun b hb => ih b hb (by omega)
/-- no objects in a body -/
theorem bd_cl (n : Nat) {d : Nat} {b : B} (h : WB d b) : D.cl n (bd b) = true := by
  induction h with
  | num => rfl
  | inp => rfl
  | make h1 h2 h3 h4 ih =>
    rename_i d ls bs
    simp only [bd, D.cl, D.cls, Bool.true_and, Bool.and_true]
    rw [bds_map]
    clear h1 h2 h3 h4
    induction bs generalizing ls with
    | nil => cases ls <;> rfl
    | cons b bs ih2 =>
      cases ls with
      | nil => rfl
      | cons l ls =>
        simp only [fldD, List.map_cons, List.zipWith_cons_cons, D.cls, D.cl, Bool.true_and, Bool.and_true, Bool.and_eq_true]
        exact ⟨ih b (by simp), ih2 fun c hc => ih c (by simp [hc])⟩
  | get h1 h2 ih => simp only [bd, D.cl, D.cls, ih]; rfl
  | put h1 h2 h3 ih1 ih3 => simp only [bd, D.cl, D.cls, ih1, ih3]; rfl
  | sum h1 h3 ih1 ih3 => simp only [bd, D.cl, D.cls, ih1, ih3]; rfl
  | ite h1 h2 h3 ih1 ih2 ih3 => simp only [bd, D.cl, D.cls, ih1, ih2, ih3]; rfl
  | call h1 h2 h3 ih =>
    simp only [bd, D.cl, D.cls, Bool.true_and, Bool.and_true]
    rw [bds_map]
    exact cls_map ih
/-! places -/
abbrev P := List Nat
def pd (p : P) : D := .tup (p.map fun (i : Nat) => .int (i : Int))
def enumFrom {α : Type} : Nat → List α → List (Nat × α)
  | _, [] => []
  | i, x :: xs => (i, x) :: enumFrom (i + 1) xs
def lpl : Nat → B → List (P × B)
  | 0, _ => []
  | d + 1, b => (enumFrom 0 (kidsB b)).flatMap (fun q => (lpl d q.2).map fun r => (q.1 :: r.1, r.2)) ++ [([], b)]
def plc (d : Nat) (b : B) : List P := (lpl d b).map (·.1)
def atB : B → P → Option B
  | b, [] => some b
  | b, i :: p => (kidsB b)[i]?.bind fun c => atB c p
theorem enumFrom_mem {α : Type} {i j : Nat} {x : α} : ∀ {n : Nat} {xs : List α}, (j, x) ∈ enumFrom n xs → n ≤ j ∧ xs[j - n]? = some x
  | n, [], h => by cases h
  | n, y :: ys, h => by
    simp only [enumFrom, List.mem_cons, Prod.mk.injEq] at h
    rcases h with ⟨e1, e2⟩ | h
    · subst e1 e2; simp
    · obtain ⟨h1, h2⟩ := enumFrom_mem (i := i) h
      refine ⟨by omega, ?_⟩
      rw [show j - n = (j - (n + 1)) + 1 by omega]
      simpa using h2
theorem lpl_at : ∀ {d : Nat} {b x : B} {p : P}, (p, x) ∈ lpl d b → atB b p = some x
  | 0, _, _, _, h => by cases h
  | d + 1, b, x, p, h => by
    simp only [lpl, List.mem_append, List.mem_flatMap, List.mem_map, List.mem_singleton, Prod.mk.injEq] at h
    rcases h with ⟨⟨j, c⟩, hq, ⟨r, y⟩, hr, e1, e2⟩ | ⟨e1, e2⟩
    · subst e1 e2
      obtain ⟨_, hj⟩ := enumFrom_mem (i := 0) hq
      simp only [atB]
      rw [show j - 0 = j from rfl] at hj
      rw [hj]
      exact lpl_at hr
    · subst e1 e2; rfl
theorem enumFrom_length {α : Type} : ∀ (n : Nat) (xs : List α), (enumFrom n xs).length = xs.length
  | _, [] => rfl
  | n, x :: xs => by simp [enumFrom, enumFrom_length (n + 1) xs]
theorem enumFrom_snd {α : Type} : ∀ (n : Nat) (xs : List α), (enumFrom n xs).map (·.2) = xs
  | _, [] => rfl
  | n, x :: xs => by simp [enumFrom, enumFrom_snd (n + 1) xs]
theorem sum_le {l : List Nat} {m : Nat} (h : ∀ x ∈ l, x ≤ m) : l.sum ≤ l.length * m := by
  induction l with
  | nil => simp
  | cons x xs ih =>
    rw [List.sum_cons, List.length_cons, Nat.add_mul]
    have := h x (by simp)
    have := ih fun y hy => h y (by simp [hy])
    omega
theorem lpl_len : ∀ {d : Nat} {b : B}, WB d b → (lpl d b).length ≤ 5 ^ d
  | 0, _, h => by obtain ⟨e, h⟩ := h.pos; omega
  | d + 1, b, h => by
    simp only [lpl, List.length_append, List.length_flatMap, List.length_map, List.length_singleton]
    have h1 : ∀ x ∈ (enumFrom 0 (kidsB b)).map (fun q => (lpl d q.2).length), x ≤ 5 ^ d := by
      intro x hx
      obtain ⟨⟨j, c⟩, hq, e⟩ := List.mem_map.mp hx
      subst e
      refine lpl_len (h.kids c ?_)
      have := List.mem_map_of_mem (f := (·.2)) hq
      rwa [enumFrom_snd] at this
    have h2 := sum_le h1
    rw [List.length_map, enumFrom_length] at h2
    have h3 := h.few
    have h4 : (kidsB b).length * 5 ^ d ≤ 4 * 5 ^ d := Nat.mul_le_mul_right _ h3
    have h5 : 1 ≤ 5 ^ d := Nat.one_le_pow _ _ (by decide)
    rw [Nat.pow_succ]; omega
theorem lpl_wb : ∀ {d : Nat} {b x : B} {p : P}, WB d b → (p, x) ∈ lpl d b → WB d x ∧ p.length ≤ d
  | 0, _, _, _, _, h => by cases h
  | d + 1, b, x, p, hb, h => by
    simp only [lpl, List.mem_append, List.mem_flatMap, List.mem_map, List.mem_singleton, Prod.mk.injEq] at h
    rcases h with ⟨⟨j, c⟩, hq, ⟨r, y⟩, hr, e1, e2⟩ | ⟨e1, e2⟩
    · subst e1 e2
      have := List.mem_map_of_mem (f := (·.2)) hq
      rw [enumFrom_snd] at this
      obtain ⟨h1, h2⟩ := lpl_wb (hb.kids c this) hr
      exact ⟨h1.mono (by omega), by simp; exact h2⟩
    · subst e1 e2; exact ⟨hb, by simp⟩
theorem pd_cl (n : Nat) (p : P) : D.cl n (pd p) = true := by
  simp only [pd, D.cl]; exact cls_map fun _ _ => rfl
theorem zip_snd {ls : List Str} {ds : List D} (h : ls.length = ds.length) (f : D → D) (hf : ∀ l d, f (.tup [.str l, d]) = d) : (fldD ls ds).map f = ds := by
  induction ls generalizing ds with
  | nil => cases ds with
    | nil => rfl
    | cons d ds => cases h
  | cons l ls ih =>
    cases ds with
    | nil => cases h
    | cons d ds => simp only [fldD, List.zipWith_cons_cons, List.map_cons, hf]; exact congrArg _ (ih (by simpa using h))
theorem mem_fldD {ls : List Str} {ds : List D} {x : D} (h : x ∈ fldD ls ds) : ∃ l d, x = .tup [.str l, d] ∧ l ∈ ls ∧ d ∈ ds := by
  induction ls generalizing ds with
  | nil => cases h
  | cons l ls ih =>
    cases ds with
    | nil => cases h
    | cons d ds =>
      simp only [fldD, List.zipWith_cons_cons, List.mem_cons] at h
      rcases h with h | h
      · exact ⟨l, d, h, by simp, by simp⟩
      · obtain ⟨l', d', e, h1, h2⟩ := ih h
        exact ⟨l', d', e, by simp [h1], by simp [h2]⟩
end PM

/-! PM, part 15: equality of plain data -/
namespace PM
open PySem L2
/-- no objects, no dicts, of a depth -/
def pl : Nat → D → Bool
  | _, .non => true
  | _, .bl _ => true
  | _, .int _ => true
  | _, .str s => PyData.strOk s
  | n + 1, .tup ds => ds.all (pl n)
  | n + 1, .lst ds => ds.all (pl n)
  | n + 1, .scr ds => ds.all (pl n)
  | _, _ => false
def TpL (n : Nat) (ds : List D) : Prop := ∃ es, (∀ rc S, tps rc S ds = some es) ∧ PyData.canLayAll0 es = true ∧ PyData.depthAll es ≤ n
theorem tpl_of {n : Nat} (ih : ∀ d, pl n d = true → ∃ e, (∀ rc S, tp rc S d = some e) ∧ PyData.canLay0 e = true ∧ e.depth ≤ n) : ∀ ds : List D, ds.all (pl n) = true → TpL n ds
  | [], _ => ⟨[], fun _ _ => rfl, rfl, Nat.zero_le _⟩
  | d :: ds, h => by
    rw [List.all_cons, Bool.and_eq_true] at h
    obtain ⟨e, h1, h2, h3⟩ := ih d h.1
    obtain ⟨es, k1, k2, k3⟩ := tpl_of ih ds h.2
    refine ⟨e :: es, fun rc S => ?_, ?_, ?_⟩
    · simp only [tps, h1, k1, Option.bind_some, Option.map_some]
    · simp only [PyData.canLayAll0, h2, k2]; rfl
    · simp only [PyData.depthAll]; omega
theorem pl_tp : ∀ {n : Nat} (d : D), pl n d = true → ∃ e, (∀ rc S, tp rc S d = some e) ∧ PyData.canLay0 e = true ∧ e.depth ≤ n
  | n, .non, _ => ⟨.none, fun _ _ => rfl, rfl, Nat.zero_le _⟩
  | n, .bl b, _ => ⟨.bool b, fun _ _ => rfl, rfl, Nat.zero_le _⟩
  | n, .int b, _ => ⟨.int b, fun _ _ => rfl, rfl, Nat.zero_le _⟩
  | n, .str b, h => ⟨.str b, fun _ _ => rfl, by cases n <;> exact h, Nat.zero_le _⟩
  | n + 1, .tup ds, h => by
    obtain ⟨es, h1, h2, h3⟩ := tpl_of (fun d => pl_tp d) ds h
    exact ⟨.tuple es, fun rc S => by simp only [tp, h1]; rfl, h2, by simp only [PyData.depth]; omega⟩
  | n + 1, .lst ds, h => by
    obtain ⟨es, h1, h2, h3⟩ := tpl_of (fun d => pl_tp d) ds h
    exact ⟨.list es, fun rc S => by simp only [tp, h1]; rfl, h2, by simp only [PyData.depth]; omega⟩
  | n + 1, .scr ds, h => by
    obtain ⟨es, h1, h2, h3⟩ := tpl_of (fun d => pl_tp d) ds h
    exact ⟨.list es, fun rc S => by simp only [tp, h1]; rfl, h2, by simp only [PyData.depth]; omega⟩
  | 0, .tup ds, h => by cases h
  | 0, .lst ds, h => by cases h
  | 0, .scr ds, h => by cases h
  | 0, .dct _ _, h => by cases h
  | 0, .ref _, h => by cases h
  | n + 1, .dct _ _, h => by cases h
  | 0, .exn _, h => by cases h
  | n + 1, .exn _, h => by cases h
  | n + 1, .ref _, h => by cases h
theorem pl_mono : ∀ {n m : Nat} (d : D), n ≤ m → pl n d = true → pl m d = true
  | n, m, .non, _, _ => by cases m <;> rfl
  | n, m, .bl _, _, _ => by cases m <;> rfl
  | n, m, .int _, _, _ => by cases m <;> rfl
  | n, m, .str _, _, h => by cases n <;> cases m <;> exact h
  | n + 1, m + 1, .tup ds, l, h => by
    simp only [pl, List.all_eq_true] at h ⊢
    exact fun d hd => pl_mono d (by omega) (h d hd)
  | n + 1, m + 1, .lst ds, l, h => by
    simp only [pl, List.all_eq_true] at h ⊢
    exact fun d hd => pl_mono d (by omega) (h d hd)
  | n + 1, m + 1, .scr ds, l, h => by
    simp only [pl, List.all_eq_true] at h ⊢
    exact fun d hd => pl_mono d (by omega) (h d hd)
  | n + 1, 0, .tup ds, l, h => by omega
  | n + 1, 0, .lst ds, l, h => by omega
  | n + 1, 0, .scr ds, l, h => by omega
  | 0, _, .tup ds, _, h => by cases h
  | 0, _, .lst ds, _, h => by cases h
  | 0, _, .scr ds, _, h => by cases h
  | 0, _, .dct _ _, _, h => by cases h
  | 0, _, .ref _, _, h => by cases h
  | n + 1, _, .dct _ _, _, h => by cases h
  | 0, _, .exn _, _, h => by cases h
  | n + 1, _, .exn _, _, h => by cases h
  | n + 1, _, .ref _, _, h => by cases h
theorem shaped_of {n : Nat} {e : PyData} (h : PyData.canLay0 e = true) (l : e.depth ≤ n) (hn : n ≤ 64) : SeqAt.shaped e = true := by
  unfold SeqAt.shaped
  rw [h, decide_eq_true (Nat.le_trans l hn)]; rfl
theorem eqD_self {S : Sto} {n : Nat} {d : D} (h : pl n d = true) (hn : n ≤ 64) : eqD S d d = some true := by
  unfold eqD
  cases hs : scalD d d with
  | some k =>
    simp only
    cases d <;> simp only [scalD, decide_true] at hs <;> first | exact hs.symm | cases hs
  | none =>
    obtain ⟨e, h1, h2, h3⟩ := pl_tp d h
    have e1 : tpd S d = some e := h1 _ _
    simp only [e1]
    rw [if_pos ⟨shaped_of h2 h3 hn, shaped_of h2 h3 hn⟩, SeqAt.eqv_refl _ h2]
theorem eqD_lr {S : Sto} {n k : Nat} {ds : List D} (hs : S[k]? = some (.lst ds)) (h : pl (n + 1) (.lst ds) = true) (hn : n + 1 ≤ 64) : eqD S (.ref k) (.lst ds) = some true := by
  obtain ⟨es, h1, h2, h3⟩ := tpl_of (fun d => pl_tp d) ds h
  have e1 : tpd S (.lst ds) = some (.list es) := by simp only [tpd, tp, h1]; rfl
  have e2 : tpd S (.ref k) = some (.list es) := by simp only [tpd, tp, hs, tpk, h1]; rfl
  have h4 : PyData.canLay0 (.list es) = true := h2
  have h5 : (PyData.list es).depth ≤ n + 1 := by simp only [PyData.depth]; omega
  unfold eqD
  simp only [scalD, e1, e2]
  rw [if_pos ⟨shaped_of h4 h5 hn, shaped_of h4 h5 hn⟩, SeqAt.eqv_refl _ h4]
theorem eqD_lst_nil {S : Sto} {n : Nat} {ds : List D} (h : pl n (.lst ds) = true) (hn : n ≤ 64) : eqD S (.lst ds) (.lst []) = some (decide (ds = [])) := by
  obtain ⟨n, rfl⟩ : ∃ m, n = m + 1 := by cases n with
    | zero => cases h
    | succ n => exact ⟨n, rfl⟩
  obtain ⟨es, h1, h2, h3⟩ := tpl_of (fun d => pl_tp d) ds h
  have e1 : tpd S (.lst ds) = some (.list es) := by simp only [tpd, tp, h1]; rfl
  have e2 : tpd S (.lst []) = some (.list []) := rfl
  have h4 : PyData.canLay0 (.list es) = true := h2
  have h5 : (PyData.list es).depth ≤ n + 1 := by simp only [PyData.depth]; omega
  unfold eqD
  simp only [scalD, e1, e2]
  rw [if_pos ⟨shaped_of h4 h5 hn, by decide⟩]
  cases ds with
  | nil =>
    have := h1 (fun _ => none) S
    simp only [tps, Option.some.injEq] at this
    subst this; rfl
  | cons d ds =>
    have := h1 (fun _ => none) S
    simp only [tps] at this
    cases h6 : tp (fun _ => none) S d with
    | none => rw [h6] at this; cases this
    | some e =>
      rw [h6, Option.bind_some, Option.map_eq_some_iff] at this
      obtain ⟨es', _, e'⟩ := this
      subst e'
      rfl
theorem pl_lit {n : Nat} {s : Str} (h : PyData.strOk s = true) : pl n (.str s) = true := by cases n <;> exact h
theorem pl_all {n : Nat} {ds : List D} (h : ∀ d ∈ ds, pl n d = true) : ds.all (pl n) = true := List.all_eq_true.mpr h
/-- bodies -/
theorem pl_bd {d : Nat} {b : B} (h : WB d b) : pl (3 * d) (bd b) = true := by
  have hs : ∀ {s : Str}, IsLab s → PyData.strOk s = true := fun h => h.ok
  induction h with
  | num => rename_i d n; rw [show 3 * (d + 1) = (3 * d + 2) + 1 by omega]; simp only [bd, pl, List.all_cons, List.all_nil]; decide +kernel
  | inp => rename_i d n; rw [show 3 * (d + 1) = (3 * d + 2) + 1 by omega]; simp only [bd, pl, List.all_cons, List.all_nil]; decide +kernel
  | make h1 h2 h3 h4 ih =>
    rename_i d ls bs
    rw [show 3 * (d + 1) = (3 * d + 2) + 1 by omega]
    simp only [bd, pl, List.all_cons, List.all_nil]
    refine Bool.and_eq_true_iff.mpr ⟨by decide +kernel, Bool.and_eq_true_iff.mpr ⟨pl_all fun x hx => ?_, rfl⟩⟩
    obtain ⟨l, y, e, hl, hy⟩ := mem_fldD hx
    subst e
    rw [bds_map] at hy
    obtain ⟨b, hb, e⟩ := List.mem_map.mp hy
    subst e
    simp only [pl, List.all_cons, List.all_nil, Bool.and_true, Bool.and_eq_true]
    exact ⟨(h3 l hl).ok, ih b hb⟩
  | get h1 h2 ih =>
    rename_i d b l
    rw [show 3 * (d + 1) = (3 * d + 2) + 1 by omega]
    simp only [bd, pl, List.all_cons, List.all_nil, Bool.and_true, Bool.and_eq_true]
    exact ⟨by decide +kernel, pl_mono _ (by omega) ih, hs h2⟩
  | put h1 h2 h3 ih1 ih3 =>
    rename_i d b l c
    rw [show 3 * (d + 1) = (3 * d + 2) + 1 by omega]
    simp only [bd, pl, List.all_cons, List.all_nil, Bool.and_true, Bool.and_eq_true]
    exact ⟨by decide +kernel, pl_mono _ (by omega) ih1, hs h2, pl_mono _ (by omega) ih3⟩
  | sum h1 h3 ih1 ih3 =>
    rename_i d b c
    rw [show 3 * (d + 1) = (3 * d + 2) + 1 by omega]
    simp only [bd, pl, List.all_cons, List.all_nil, Bool.and_true, Bool.and_eq_true]
    exact ⟨by decide +kernel, pl_mono _ (by omega) ih1, pl_mono _ (by omega) ih3⟩
  | ite h1 h2 h3 ih1 ih2 ih3 =>
    rename_i d b c e
    rw [show 3 * (d + 1) = (3 * d + 2) + 1 by omega]
    simp only [bd, pl, List.all_cons, List.all_nil, Bool.and_true, Bool.and_eq_true]
    exact ⟨by decide +kernel, pl_mono _ (by omega) ih1, pl_mono _ (by omega) ih2, pl_mono _ (by omega) ih3⟩
  | call h1 h2 h3 ih =>
    rename_i d f bs
    rw [show 3 * (d + 1) = (3 * d + 2) + 1 by omega]
    simp only [bd, pl, List.all_cons, List.all_nil, Bool.and_true, Bool.and_eq_true]
    refine ⟨by decide +kernel, hs h1, pl_all fun x hx => ?_⟩
    rw [bds_map] at hx
    obtain ⟨b, hb, e⟩ := List.mem_map.mp hx
    subst e
    exact pl_mono _ (by omega) (ih b hb)
end PM

/-! PM, part 16: for the makers of bodies -/
namespace PM
open PySem L2
theorem scalAny_strs (l : Str) : ∀ xs : List Str, scalAny (.str l) (xs.map D.str) = some (decide (l ∈ xs))
  | [] => rfl
  | x :: xs => by
    simp only [List.map_cons, scalAny, scalD, scalAny_strs l xs, Option.bind_some, Option.map_some, List.mem_cons, Bool.decide_or, Option.some.injEq]
    rw [show decide (x = l) = decide (l = x) from by simp only [eq_comm]]
theorem opNotIn_strs {S : Sto} (l : Str) (xs : List Str) : opNotIn (.str l) (.lst (xs.map D.str)) S = .ok (.bl (!decide (l ∈ xs))) S := by
  have : inDa S (.str l) (.lst (xs.map D.str)) = some (decide (l ∈ xs)) := by
    simp only [inDa, dget, dkOf, dtOf, rdS, rdL, asL, isFlat, if_pos, scalAny_strs]
  unfold opNotIn; rw [this]
theorem opIn_strs {S : Sto} (l : Str) (xs : List Str) : opIn (.str l) (.lst (xs.map D.str)) S = .ok (.bl (decide (l ∈ xs))) S := by
  have : inDa S (.str l) (.lst (xs.map D.str)) = some (decide (l ∈ xs)) := by
    simp only [inDa, dget, dkOf, dtOf, rdS, rdL, asL, isFlat, if_pos, scalAny_strs]
  unfold opIn; rw [this]
theorem opIx_map {α : Type} {f : α → D} {xs : List α} {j : Int} (h0 : 0 ≤ j) (h : j < xs.length) : ∃ x ∈ xs, ∀ S, opIx (.lst (xs.map f)) (.int j) S = .ok (f x) S := by
  have hj : j.toNat < xs.length := by omega
  refine ⟨xs[j.toNat], List.getElem_mem _, fun S => ?_⟩
  rw [opIx_lst, atI_of _ h0, List.getElem?_map, List.getElem?_eq_getElem hj]; rfl
theorem finFrz_set {k n : Nat} {S T : Sto} {o : MO} {d : D} (hn : n < S.length) (ho : o.cl S.length = true) (h : D.cl S.length d = true) : finFrz k S (.ok d (S.set n o ++ T)) = .ok d (S.set n o) := by
  unfold finFrz
  have e : frz (S.set n o ++ T) S.length k [d] = some [d] := frz_cl (by simp only [D.cls, h]; rfl)
  have c : ClS S (S.set n o ++ T) := fun m u hm hu => by
    rw [List.getElem?_append_left (by simpa using hm), List.getElem?_set] at hu
    split at hu
    · cases hu; exact .inr ho
    · exact .inl hu
  simp only [if_pos c, e]
  rw [List.take_left' (by simp)]
/-- a state: two ints -/
def IsSt (S : Sto) (n : Nat) : Prop := ∃ a b : Int, 0 ≤ a ∧ S[n]? = some (.lst [.int a, .int b])
def NxSt (S : Sto) (n : Nat) (T : Sto) : Prop := ∃ a b : Int, 0 ≤ a ∧ T = S.set n (.lst [.int a, .int b])
theorem IsSt.lt {S : Sto} {n : Nat} (h : IsSt S n) : n < S.length := by
  obtain ⟨a, b, _, h⟩ := h
  exact (List.getElem?_eq_some_iff.mp h).1
theorem NxSt.is {S T : Sto} {n : Nat} (h : NxSt S n T) (hn : n < S.length) : IsSt T n := by
  obtain ⟨a, b, h0, e⟩ := h
  subst e
  exact ⟨a, b, h0, by rw [List.getElem?_set_self hn]⟩
theorem set_get {α : Type} {l : List α} {n : Nat} {x : α} (h : l[n]? = some x) : l.set n x = l := by
  apply List.ext_getElem?
  intro i
  rw [List.getElem?_set]
  split
  · rename_i e; subst e
    rw [if_pos (List.getElem?_eq_some_iff.mp h).1, h]
  · rfl
theorem NxSt.refl {S : Sto} {n : Nat} (h : IsSt S n) : NxSt S n S := by
  obtain ⟨a, b, h0, h⟩ := h
  exact ⟨a, b, h0, (set_get h).symm⟩
theorem NxSt.len {S T : Sto} {n : Nat} (h : NxSt S n T) : T.length = S.length := by
  obtain ⟨a, b, h0, e⟩ := h
  subst e; simp
theorem NxSt.trans {S T U : Sto} {n : Nat} (h : NxSt S n T) (g : NxSt T n U) : NxSt S n U := by
  obtain ⟨a, b, h0, e⟩ := h
  obtain ⟨a', b', h0', e'⟩ := g
  subst e e'
  exact ⟨a', b', h0', by rw [List.set_set]⟩
theorem IsSt.app {S T : Sto} {n : Nat} (h : IsSt S n) : IsSt (S ++ T) n := by
  have hl := h.lt
  obtain ⟨a, b, h0, h⟩ := h
  exact ⟨a, b, h0, by rw [List.getElem?_append_left hl]; exact h⟩
theorem NxSt.app {S T U : Sto} {n : Nat} (hn : n < S.length) (h : NxSt (S ++ T) n U) : ∃ S', U = S' ++ T ∧ NxSt S n S' := by
  obtain ⟨a, b, h0, e⟩ := h
  exact ⟨_, by rw [e, List.set_append_left _ _ hn], a, b, h0, rfl⟩
theorem NxSt.frz {k n : Nat} {S S' T : Sto} {d : D} (hn : n < S.length) (h : NxSt S n S') (hd : D.cl S.length d = true) : finFrz k S (.ok d (S' ++ T)) = .ok d S' := by
  obtain ⟨a, b, h0, e⟩ := h
  subst e
  exact finFrz_set hn rfl hd
def knD (kn : List (Str × Nat)) : D := .lst (kn.map fun p => .tup [.str p.1, .int (p.2 : Int)])
def KnOk (kn : List (Str × Nat)) : Prop := ∀ p ∈ kn, IsLab p.1 ∧ p.2 ≤ 4
theorem pl_kn {kn : List (Str × Nat)} (h : KnOk kn) : pl 2 (knD kn) = true := by
  refine pl_all fun d hd => ?_
  obtain ⟨p, hp, e⟩ := List.mem_map.mp hd
  subst e
  simp only [pl, List.all_cons, List.all_nil, Bool.and_true]
  exact (h p hp).1.ok
theorem opNe_kn {S : Sto} {kn : List (Str × Nat)} (h : KnOk kn) : opNe (knD kn) (.lst []) S = .ok (.bl (!decide (kn = []))) S := by
  have := eqD_lst_nil (S := S) (pl_kn h) (by decide)
  unfold knD
  rw [opNe_of this]
  simp
theorem bds_len (bs : List B) : (bds bs).length = bs.length := by rw [bds_map]; simp
theorem bds_app (bs : List B) (b : B) : bds (bs ++ [b]) = bds bs ++ [bd b] := by simp [bds_map]
theorem fldD_app {ls : List Str} {bs : List B} (h : ls.length = bs.length) (l : Str) (b : B) : fldD (ls ++ [l]) (bds (bs ++ [b])) = fldD ls (bds bs) ++ [.tup [.str l, bd b]] := by
  rw [bds_app, fldD, List.zipWith_append (by rw [h, bds_len])]; rfl
theorem fldD_len {ls : List Str} {bs : List B} (h : ls.length = bs.length) : (fldD ls (bds bs)).length = bs.length := by
  rw [fldD, List.length_zipWith, bds_len, h, Nat.min_self]
theorem fldD_names {ls : List Str} {bs : List B} (h : ls.length = bs.length) {grd : Sto → Prop} {S : Sto} {g : Gm} {t : Tm} {e : Em} {δ : Loc} (hg : grd S) (hh : ∀ l d, ∃ δ', g (.tup [.str l, d]) δ S = .ok δ' S ∧ t δ' S = .ok true S ∧ e δ' S = .ok (.str l) S) :
    compM grd g t e δ [] (fldD ls (bds bs)) S = .ok (.lst (ls.map .str)) S := by
  have e1 : fldD ls (bds bs) = (ls.zip bs).map fun p => .tup [.str p.1, bd p.2] := by
    rw [fldD, bds_map, List.zipWith_map_right, List.zip, List.map_zipWith]
  rw [e1, comp_map _ (fun p : Str × B => D.str p.1) hg _ _ fun p _ => hh p.1 _, List.nil_append]
  rw [show (fun p : Str × B => D.str p.1) = D.str ∘ Prod.fst from rfl, ← List.map_map, List.map_fst_zip (by omega)]
theorem fldD_cl {n d : Nat} {ls : List Str} {bs : List B} (h : ∀ b ∈ bs, WB d b) : D.cls n (fldD ls (bds bs)) = true := by
  refine cls_all fun x hx => ?_
  obtain ⟨l, y, e, _, hy⟩ := mem_fldD hx
  rw [bds_map] at hy
  obtain ⟨b, hb, e'⟩ := List.mem_map.mp hy
  subst e e'
  simp only [D.cl, D.cls, bd_cl n (h b hb)]; rfl
/-- a comprehension without a test, by what holds behind each turn -/
theorem comp_ofN {g : Gm} {e : Em} {δ : Loc} {S : Sto} {ds : List D} {r : R D} (hL : compM (fun _ => True) g mYes e δ [] ds S = r) (I : Nat → List D → Sto → Prop) (h0 : I 0 [] S)
    (hs : ∀ (i : Nat) x acc S, ds[i]? = some x → I i acc S → ∃ δ' S1 y S2, g x δ S = .ok δ' S1 ∧ e δ' S1 = .ok y S2 ∧ I (i + 1) (acc ++ [y]) S2) : ∃ acc S', r = .ok (.lst acc) S' ∧ I ds.length acc S' := by
  subst hL
  suffices H : ∀ (ds acc : List D) (n : Nat) (S : Sto), I n acc S → (∀ (i : Nat) x acc S, ds[i]? = some x → I (n + i) acc S → ∃ δ' S1 y S2, g x δ S = .ok δ' S1 ∧ e δ' S1 = .ok y S2 ∧ I (n + i + 1) (acc ++ [y]) S2) →
      ∃ acc' S', compM (fun _ => True) g mYes e δ acc ds S = .ok (.lst acc') S' ∧ I (n + ds.length) acc' S' by
    have := H ds [] 0 S h0 (fun i x acc S hx hI => by
      have := hs i x acc S hx (by rwa [Nat.zero_add] at hI)
      rwa [Nat.zero_add])
    rwa [Nat.zero_add] at this
  intro ds
  induction ds with
  | nil => intro acc n S h0 _; exact ⟨acc, S, compM_nil trivial, h0⟩
  | cons x ds ih =>
    intro acc n S h0 hs
    obtain ⟨δ', S1, y, S2, h1, h2, h3⟩ := hs 0 x acc S rfl h0
    rw [compM_cons trivial, h1]
    simp only [R.quiet_ok, R.bind_ok, mYes_eq, h2, if_pos]
    rw [List.length_cons, show n + (ds.length + 1) = n + 1 + ds.length by omega]
    refine ih _ (n + 1) S2 h3 fun i y acc S hy hI => ?_
    have := hs (i + 1) y acc S (by simpa using hy) (by rwa [show n + (i + 1) = n + 1 + i by omega])
    rwa [show n + (i + 1) + 1 = n + 1 + i + 1 by omega] at this
end PM

/-! PM, part 17: for kids and places -/
namespace PM
open PySem L2
section
variable {g : Gm} {t : Tm} {e : Em} {δ : Loc} {S : Sto} {acc xs : List D} {x : D}
@[simp] theorem compT_nil : compM (fun _ => True) g t e δ acc [] S = .ok (.lst acc) S := compM_nil trivial
theorem compT_cons : compM (fun _ => True) g t e δ acc (x :: xs) S = (g x δ S).quiet.bind fun δ' S1 => (t δ' S1).quiet.bind fun k S2 =>
    if k = true then (e δ' S2).quiet.bind fun y S3 => compM (fun _ => True) g t e δ (acc ++ [y]) xs S3 else compM (fun _ => True) g t e δ acc xs S2 := compM_cons trivial
end
@[simp] theorem cutD_1 {a : D} {ds : List D} : cutD (a :: ds) (some 1) none = ds := by
  unfold cutD
  rw [show (1 : Int) = ((1 : Nat) : Int) from rfl, HT.sIx_none, HT.sIx_nat]
  simp
theorem fldD_vals {ls : List Str} {bs : List B} (h : ls.length = bs.length) {grd : Sto → Prop} {S : Sto} {g : Gm} {t : Tm} {e : Em} {δ : Loc} (hg : grd S) (hh : ∀ l d, ∃ δ', g (.tup [.str l, d]) δ S = .ok δ' S ∧ t δ' S = .ok true S ∧ e δ' S = .ok d S) :
    compM grd g t e δ [] (fldD ls (bds bs)) S = .ok (.lst (bds bs)) S := by
  have e1 : fldD ls (bds bs) = (ls.zip bs).map fun p => .tup [.str p.1, bd p.2] := by
    rw [fldD, bds_map, List.zipWith_map_right, List.zip, List.map_zipWith]
  rw [e1, comp_map _ (fun p : Str × B => bd p.2) hg _ _ fun p _ => hh p.1 _, List.nil_append]
  rw [show (fun p : Str × B => bd p.2) = bd ∘ Prod.snd from rfl, ← List.map_map, List.map_snd_zip (by omega), bds_map]
/-- is it a tuple? -/
theorem isi_bd {S : Sto} (b : B) : opIsi "tuple" (bd b) S = .ok (.bl true) S := by cases b <;> simp [bd]
def lplK (d i : Nat) (ks : List B) : List (P × B) := (enumFrom i ks).flatMap (fun q => (lpl d q.2).map fun r => (q.1 :: r.1, r.2))
theorem lpl_succ (d : Nat) (b : B) : lpl (d + 1) b = lplK d 0 (kidsB b) ++ [([], b)] := rfl
theorem lplK_nil (d i : Nat) : lplK d i [] = [] := rfl
theorem lplK_cons (d i : Nat) (c : B) (ks : List B) : lplK d i (c :: ks) = ((lpl d c).map fun r => (i :: r.1, r.2)) ++ lplK d (i + 1) ks := rfl
theorem drop_get {α : Type} {l : List α} {i : Nat} {x : α} (h : l[i]? = some x) : l.drop i = x :: l.drop (i + 1) := by
  obtain ⟨hl, e⟩ := List.getElem?_eq_some_iff.mp h
  rw [List.drop_eq_getElem_cons hl, e]
/-- a loop that leaves the objects -/
theorem loop_same {grd : Sto → Prop} {b : D → Sm} {S : Sto} {r : RS} (hg : grd S) (I : Loc → Prop) : ∀ {ds : List D} {δ : Loc}, loopM grd b ds δ S = r → I δ → (∀ x ∈ ds, ∀ δ, I δ → ∃ δ', (b x δ S = .nx δ' S ∨ b x δ S = .ct δ' S) ∧ I δ') → ∃ δ', r = .nx δ' S ∧ I δ'
  | [], δ, hL, h0, _ => ⟨δ, by rw [← hL, loopM, if_pos hg], h0⟩
  | x :: ds, δ, hL, h0, hs => by
    obtain ⟨δ1, h1, h2⟩ := hs x (by simp) δ h0
    have e : loopM grd b ds δ1 S = r := by
      rw [loopM, if_pos hg] at hL
      rcases h1 with h1 | h1 <;> rw [h1] at hL <;> exact hL
    exact loop_same hg I e h2 fun y hy => hs y (by simp [hy])
theorem pd_cons (i : Nat) (p : P) : (D.tup (.int (i : Int) :: p.map fun (i : Nat) => .int (i : Int))) = pd (i :: p) := rfl
def rD (r : P × B) : D := .tup [pd r.1, bd r.2]
theorem rD_cl {d n : Nat} {b : B} (h : WB d b) : D.cls n ((lpl d b).map rD) = true := by
  refine cls_map fun r hr => ?_
  obtain ⟨h1, _⟩ := lpl_wb (p := r.1) (x := r.2) h hr
  simp only [rD, D.cl, D.cls, pd_cl, bd_cl n h1]; rfl
theorem pd_cls (n : Nat) (ps : List P) : D.cls n (ps.map pd) = true := cls_map fun p _ => pd_cl n p
theorem pl_pds (ps : List P) : pl 3 (.lst (ps.map pd)) = true := by
  refine pl_all fun d hd => ?_
  obtain ⟨p, hp, e⟩ := List.mem_map.mp hd
  subst e
  refine pl_all fun d hd => ?_
  obtain ⟨i, hi, e⟩ := List.mem_map.mp hd
  subst e; rfl
theorem finKeep_app {S T : Sto} {ds : List D} {m : Nat} (hm : S.length ≤ m) (hd : (S ++ T)[m]? = some (.lst ds)) (h : D.cls S.length ds = true) : finKeep S (.ok (.ref m) (S ++ T)) = .ok (.ref S.length) (S ++ [.lst ds]) := by
  unfold finKeep
  simp only [hd, List.take_left]
  rw [if_pos ⟨ClS.app, hm, h⟩]
end PM

/-! PM, part 18: for the laws -/
namespace PM
open PySem L2
theorem lab_known {s : Str} (h : s.cps.toList.all (fun x => decide (97 ≤ x ∧ x < 123)) = true) (h1 : 1 ≤ s.length) (h2 : s.length ≤ 8) : IsLab s :=
  ⟨fun x hx => by have := List.all_eq_true.mp h x hx; simpa using this, h1, h2⟩
theorem isLab_f : IsLab (Str.ofString "f") := lab_known (by decide +kernel) (by decide +kernel) (by decide +kernel)
theorem isLab_g : IsLab (Str.ofString "g") := lab_known (by decide +kernel) (by decide +kernel) (by decide +kernel)
theorem isLab_h : IsLab (Str.ofString "h") := lab_known (by decide +kernel) (by decide +kernel) (by decide +kernel)
theorem labs_ne {c : Int} {m : Nat} (h : 0 < m) : labs c m ≠ [] := by
  intro e
  have := congrArg List.length e
  rw [labs_len] at this; simp at this; omega
theorem pl_bds {α : Type} {xs : List α} {f : α → B} {d : Nat} (h : ∀ x ∈ xs, WB d (f x)) : pl (3 * d + 1) (.lst (xs.map fun x => bd (f x))) = true := by
  refine pl_all fun y hy => ?_
  obtain ⟨x, hx, e⟩ := List.mem_map.mp hy
  subst e
  exact pl_bd (h x hx)
theorem isi_lt (p : P) {S : Sto} : opIsi "tuple" (pd p) S = .ok (.bl true) S := by simp [pd]
/-- a cell of a script -/
def cellv (ns : List Int) (j : Nat) : Int := if h : j < ns.length then ns[j] * 48271 % 2147483647 else 0
theorem cellv_lo (ns : List Int) (j : Nat) : 0 ≤ cellv ns j := by unfold cellv; split <;> omega
theorem cellv_hi (ns : List Int) (j : Nat) : cellv ns j < 2147483647 := by unfold cellv; split <;> omega
end PM

/-! PM, part 19: dicts made, texts sorted, is of truths, index -/
namespace PM
open PySem PySem.Spec L2 PyProof.Rows
/-! ### the order of texts -/
def leS (a b : Str) : Bool := !ltCps b.cps.toList a.cps.toList
theorem lt_irr : ∀ a : List Nat, ltCps a a = false
  | [] => rfl
  | x :: a => by simp only [ltCps, lt_irr a, Bool.and_false, Bool.or_false]; exact decide_eq_false (Nat.lt_irrefl x)
theorem lt_tri : ∀ a b : List Nat, ltCps a b = false → ltCps b a = false → a = b
  | [], [], _, _ => rfl
  | [], y :: b, h, _ => by cases h
  | x :: a, [], _, h => by cases h
  | x :: a, y :: b, h1, h2 => by
    simp only [ltCps, Bool.or_eq_false_iff, Bool.and_eq_false_iff, decide_eq_false_iff_not] at h1 h2
    have e : x = y := by omega
    subst e
    simp only [beq_self_eq_true, Bool.true_eq_false, false_or] at h1 h2
    rw [lt_tri a b h1.2 h2.2]
theorem lt_cot : ∀ a b c : List Nat, ltCps c a = true → ltCps c b = true ∨ ltCps b a = true
  | [], _, [], h => by cases h
  | [], _, _ :: _, h => by cases h
  | x :: a, [], [], _ => .inr rfl
  | x :: a, y :: b, [], _ => .inl rfl
  | x :: a, [], z :: c, _ => .inr rfl
  | x :: a, y :: b, z :: c, h => by
    simp only [ltCps, Bool.or_eq_true, Bool.and_eq_true, decide_eq_true_eq, beq_iff_eq] at h ⊢
    rcases h with h | ⟨e, h⟩
    · by_cases h1 : z < y
      · exact .inl (.inl h1)
      · exact .inr (.inl (by omega))
    · subst e
      rcases Nat.lt_trichotomy z y with h1 | h1 | h1
      · exact .inl (.inl h1)
      · subst h1
        rcases lt_cot a b c h with h2 | h2
        · exact .inl (.inr ⟨rfl, h2⟩)
        · exact .inr (.inr ⟨rfl, h2⟩)
      · exact .inr (.inl h1)
theorem str_ext {a b : Str} (h : a.cps.toList = b.cps.toList) : a = b := by
  obtain ⟨a⟩ := a
  obtain ⟨b⟩ := b
  have : a = b := by simpa using congrArg List.toArray h
  rw [this]
theorem leS_anti {a b : Str} (h1 : leS a b = true) (h2 : leS b a = true) : a = b := by
  unfold leS at h1 h2
  simp only [Bool.not_eq_true'] at h1 h2
  exact str_ext (lt_tri _ _ h2 h1)
theorem leS_trans {a b c : Str} (h1 : leS a b = true) (h2 : leS b c = true) : leS a c = true := by
  unfold leS at *
  simp only [Bool.not_eq_true'] at *
  cases h : ltCps c.cps.toList a.cps.toList with
  | false => rfl
  | true =>
    rcases lt_cot _ b.cps.toList _ h with h3 | h3
    · rw [h3] at h2; cases h2
    · rw [h3] at h1; cases h1
theorem lt_asym : ∀ a b : List Nat, ltCps a b = true → ltCps b a = false
  | [], [], h => by cases h
  | [], _ :: _, _ => rfl
  | _ :: _, [], h => by cases h
  | x :: a, y :: b, h => by
    simp only [ltCps, Bool.or_eq_true, Bool.and_eq_true, decide_eq_true_eq, beq_iff_eq] at h
    simp only [ltCps, Bool.or_eq_false_iff, Bool.and_eq_false_iff, decide_eq_false_iff_not]
    rcases h with h | ⟨e, h⟩
    · exact ⟨by omega, .inl (by simp; omega)⟩
    · subst e
      exact ⟨Nat.lt_irrefl _, .inr (lt_asym a b h)⟩
theorem leS_total (a b : Str) : leS a b = true ∨ leS b a = true := by
  unfold leS
  cases h : ltCps b.cps.toList a.cps.toList with
  | false => exact .inl rfl
  | true => exact .inr (by rw [lt_asym _ _ h]; rfl)
def sortStr (xs : List Str) : List Str := xs.mergeSort leS
theorem sortStr_perm (xs : List Str) : (sortStr xs).Perm xs := List.mergeSort_perm xs leS
theorem sortStr_sorted (xs : List Str) : (sortStr xs).Pairwise fun a b => leS a b = true :=
  List.pairwise_mergeSort (le := leS) (fun a b c h1 h2 => leS_trans h1 h2) (fun a b => by rw [Bool.or_eq_true]; exact leS_total a b) xs
theorem pw_of_sortedS : ∀ {ys : List Str}, sortedS ys = true → ys.Pairwise fun a b => leS a b = true
  | [], _ => .nil
  | [x], _ => .cons (by simp) .nil
  | x :: y :: r, h => by
    have h' : leS x y = true ∧ sortedS (y :: r) = true := by
      simp only [sortedS, risingS, Bool.and_eq_true] at h
      exact ⟨h.1, h.2⟩
    have ih := pw_of_sortedS h'.2
    refine .cons (fun z hz => ?_) ih
    rcases List.mem_cons.mp hz with e | hz
    · rw [e]; exact h'.1
    · exact leS_trans h'.1 (List.rel_of_pairwise_cons ih hz)
theorem sorted_uniq : ∀ {l m : List Str}, l.Perm m → l.Pairwise (fun a b => leS a b = true) → m.Pairwise (fun a b => leS a b = true) → l = m
  | [], m, p, _, _ => p.nil_eq
  | x :: l, [], p, _, _ => by have := p.length_eq; simp at this
  | x :: l, y :: m, p, hl, hm => by
    have e : x = y := by
      have h1 : x ∈ y :: m := p.mem_iff.mp (by simp)
      have h2 : y ∈ x :: l := p.mem_iff.mpr (by simp)
      rcases List.mem_cons.mp h1 with e | h1
      · exact e
      rcases List.mem_cons.mp h2 with e | h2
      · exact e.symm
      · exact leS_anti (List.rel_of_pairwise_cons hl h2) (List.rel_of_pairwise_cons hm h1)
    subst e
    rw [sorted_uniq p.cons_inv hl.tail hm.tail]
theorem sortStr_eq {xs ys : List Str} (p : ys.Perm xs) (h : sortedS ys = true) : ys = sortStr xs :=
  sorted_uniq (p.trans (sortStr_perm xs).symm) (pw_of_sortedS h) (sortStr_sorted xs)
section
variable {X : Cx}
/-- sorted(xs), texts, any number of them -/
theorem cr_sortedT : CallR X (.builtin "sorted") (fun vs H Q => ∃ (a : Addr) (zs : List Str), vs = [V.ref a] ∧ SqL X.K H a (zs.map V.str) ∧ ∀ p : Addr, H p = none → Q (.ref p) (upd H p (.lst ((sortStr zs).map V.str)))) := by
  intro pins s σ H vs us Q I r ⟨a, zs, e, hs, q⟩
  subst e
  obtain ⟨is, rv, hl, hz⟩ := I.list hs
  rw [Vals.ref1 r]
  refine PyProof.Rows.sorted_strsAny hl.isList rv.strs (by rw [← rv.length]; exact hz) fun out ys h1 h2 h3 => ?_
  obtain ⟨ep, he⟩ := PyProof.Rows.sortedAll_at s.heap is out
  have e := sortStr_eq h2 h3
  subst e
  have hl2 : ((sortStr zs).map V.str).length ≤ sizeLine := by rw [List.length_map, h2.length_eq]; rw [List.length_map] at hz; exact hz
  exact ⟨.ref _, upd H (s.heap.objs.size + 1) (.lst ((sortStr zs).map V.str)), I.laid (t' := s.toks) (fun _ _ => PyProof.Rows.sortedAll_old) (Nat.le_succ _) ⟨hl2, out.toList, ep, vals_of_strs h1, he⟩, rfl, q _ (I.hok.fresh (Nat.le_succ _))⟩
def cSorted (ds : List D) (S : Sto) : R D := match ds with
  | [d] => match rdL S d with
    | some es => match strsOf es with
      | some zs => .ok (.lst ((sortStr zs).map .str)) S
      | none => .stuck
    | none => .stuck
  | _ => .stuck
theorem rds_strs {H : Hp} {ι : Z} : ∀ {ds : List D} {vs : List V} {ys : List Str}, RDs H ι ds vs → strsOf ds = some ys → ∀ z ∈ ys, z.length ≤ sizeLine
  | [], vs, ys, r, h => by simp only [strsOf, Option.some.injEq] at h; subst h; simp
  | d :: ds, vs, ys, r, h => by
    simp only [RDs] at r
    obtain ⟨v, w, e, r1, r2⟩ := r
    cases d with
    | str s =>
      simp only [strsOf, Option.map_eq_some_iff] at h
      obtain ⟨zs, h2, e⟩ := h
      subst e
      simp only [RD] at r1
      intro z hz
      rcases List.mem_cons.mp hz with e | hz
      · rw [e]; exact r1.2
      · exact rds_strs r2 h2 z hz
    | _ => simp only [strsOf] at h; cases h
theorem rds_mapstr {H : Hp} {ι : Z} : ∀ {ys : List Str}, (∀ z ∈ ys, z.length ≤ sizeLine) → RDs H ι (ys.map .str) (ys.map V.str)
  | [], _ => .nil
  | y :: ys, h => .cons (by simp only [RD]; exact ⟨trivial, h y (by simp)⟩) (rds_mapstr fun z hz => h z (by simp [hz]))
theorem cSorted_ok : CallD X (.builtin "sorted") cSorted := by
  refine ⟨_, cr_sortedT, fun W ι S H xs dxs Q rp rx q => ?_⟩
  unfold cSorted at q
  split at q
  · rename_i d
    obtain ⟨v, e, r⟩ := rds_one rx
    subst e
    split at q
    · rename_i es hes
      obtain ⟨a, vs, e, hq, h2, z⟩ := rdL_ok rp r hes
      subst e
      split at q
      · rename_i zs hzs
        have ev := strsOf_ok h2 hzs
        subst ev
        refine ⟨a, zs, rfl, hq, fun p hp => q.at (Step.new hp) (rp.new hp) (rd_newLst rp (rds_mapstr fun x hx => rds_strs h2 hzs x ((sortStr_perm zs).mem_iff.mp hx)) ?_ hp)⟩
        have := h2.length
        rw [List.length_map] at this ⊢
        rw [(sortStr_perm zs).length_eq, ← this]; exact z
      · exact q.elim
    · exact q.elim
  · exact q.elim
/-! ### is True, is not True -/
def opIsB (x y : D) (S : Sto) : R D := match x, y with
  | .bl a, .bl b => .ok (.bl (decide (a = b))) S
  | _, _ => .stuck
def opNotB (x y : D) (S : Sto) : R D := match x, y with
  | .bl a, .bl b => .ok (.bl (!decide (a = b))) S
  | _, _ => .stuck
theorem opIsB_ok : OpD X (compareOp .Is) opIsB := by
  refine ⟨_, op_isBl, fun W ι S H x y dx dy Q rp rx ry q => ?_⟩
  unfold opIsB at q
  split at q
  · simp only [RD] at rx ry
    exact ⟨_, _, rx, ry, q.here rp (by simp only [RD])⟩
  · exact q.elim
theorem opNotB_ok : OpD X (compareOp .IsNot) opNotB := by
  refine ⟨_, op_notBl, fun W ι S H x y dx dy Q rp rx ry q => ?_⟩
  unfold opNotB at q
  split at q
  · simp only [RD] at rx ry
    exact ⟨_, _, rx, ry, q.here rp (by simp only [RD])⟩
  · exact q.elim
/-! ### l.index(x) -/
def cIndex (d : D) (xs : List D) (S : Sto) : R D := match xs with
  | [x] => match tpd S d, tpd S x with
    | some (.list ps), some p => if SeqAt.shaped (.list ps) = true ∧ SeqAt.shaped p = true then (match ps.findIdx? fun z => PyData.eqv z p with
      | some j => .ok (.int (j : Nat)) S
      | none => .stuck) else .stuck
    | _, _ => .stuck
  | _ => .stuck
theorem cIndex_ok (hr : Ru X.A) : MtD X "list.index" cIndex := by
  refine ⟨_, mt_indexD (by have := hr.un; omega), fun W ι S H x xs dx dxs Q rp rx rs q => ?_⟩
  unfold cIndex at q
  split at q
  · rename_i d
    obtain ⟨v, e, r⟩ := rds_one rs
    subst e
    split at q
    · rename_i ps p hps hp
      split at q
      · rename_i hs
        split at q
        · rename_i j hj
          have h1 := tpd_ok rp hps rx
          have h2 := tpd_ok rp hp r
          rw [List.findIdx?_eq_some_iff_getElem] at hj
          obtain ⟨hl, h3, h4⟩ := hj
          obtain ⟨a, ea⟩ : ∃ a, x = .ref a := by cases h1; exact ⟨_, rfl⟩
          subst ea
          refine ⟨a, v, p, ps, j, ps[j], rfl, rfl, h1, h2, hs.1, hs.2, List.getElem?_eq_getElem hl, h3, fun m z hm hz => ?_, q.here rp (by simp only [RD])⟩
          obtain ⟨hm2, e⟩ := List.getElem?_eq_some_iff.mp hz
          have := h4 m hm
          rw [e] at this
          simpa using this
        · exact q.elim
      · exact q.elim
    · exact q.elim
  · exact q.elim
end
end PM

/-! PM, part 20: dicts made -/
namespace PM
open PySem PySem.Spec L2 PyProof.Rows
section
variable {X : Cx} {W : WX} {pos : Pos}
/-! ### {} -/
def mNewK : Em := fun _ S => .ok (.ref S.length) (S ++ [.dK [] []])
@[simp] theorem mNewK_eq {δ : PM.Loc} {S : Sto} : mNewK δ S = .ok (.ref S.length) (S ++ [.dK [] []]) := (rfl)
theorem de_newK : DE X W (.Dict [] [] pos) mNewK := pe_imp pe_dnewK fun σ H Q ⟨ι, S, δ, rp, rs, g⟩ p hp => by
  have q2 := rep_newRef (m := .dK [] []) (u := .dK []) rp hp ⟨[], upd_same, rfl, Nat.zero_le _, .nil⟩
  exact G.at g (Step.newRef hp) q2.1 q2.2
/-! ### list(d) -/
def keyD : Key → D
  | .inl i => .int i
  | .inr s => .str s
def keyFit : Key → Bool
  | .inr s => decide (s.length ≤ sizeLine)
  | .inl _ => true
def cListK (ds : List D) (S : Sto) : R D := match ds with
  | [.ref n] => match S[n]? with
    | some (.dK ks _) => if ks.all keyFit = true then .ok (.lst (ks.map keyD)) S else .stuck
    | _ => .stuck
  | _ => .stuck
theorem rds_keys {H : Hp} {ι : Z} : ∀ {ks : List Key}, ks.all keyFit = true → RDs H ι (ks.map keyD) (ks.map kV)
  | [], _ => .nil
  | .inl i :: ks, h => .cons (by simp only [keyD, RD]; rfl) (rds_keys (by simpa [keyFit] using h))
  | .inr s :: ks, h => by
    simp only [List.all_cons, Bool.and_eq_true, keyFit, decide_eq_true_eq] at h
    exact .cons (by simp only [keyD, RD]; exact ⟨rfl, h.1⟩) (rds_keys h.2)
theorem cListK_ok (hc : X.calm = true) : CallD X (.type "list") cListK := by
  refine ⟨_, call_list_dK hc, fun W ι S H xs dxs Q rp rx q => ?_⟩
  unfold cListK at q
  split at q
  · rename_i n
    obtain ⟨v, e, r⟩ := rds_one rx
    subst e
    simp only [RD] at r
    obtain ⟨a, e, h1⟩ := r
    subst e
    obtain ⟨o, e2, ro⟩ := rp.has h1
    rw [e2] at q
    cases o with
    | dK ks ds =>
      dsimp only at q
      split at q
      · rename_i hk
        obtain ⟨vs, h3, hz, hl, h4⟩ := ro
        refine ⟨a, _, rfl, h3, fun p hp => ?_⟩
        have e3 : (ks.zip vs).map (fun kv => kV kv.1) = ks.map kV := by
          rw [show (fun kv : Key × V => kV kv.1) = kV ∘ Prod.fst from rfl, ← List.map_map, List.map_fst_zip (by rw [hz, h4.length]; omega)]
        rw [e3]
        exact q.at (Step.new hp) (rp.new hp) (rd_newLst rp (rds_keys hk) (by rw [List.length_map]; exact hl) hp)
      · exact q.elim
    | _ => exact q.elim
  · exact q.elim
/-! ### dict(pairs) -/
def pairOf : D → Option (Key × D)
  | .tup [k, d] => (keyOf k).map fun k => (k, d)
  | _ => none
def pairsD : List D → Option (List (Key × D))
  | [] => some []
  | d :: ds => (pairOf d).bind fun p => (pairsD ds).map (p :: ·)
def mergeD : List Key → List D → List (Key × D) → List Key × List D
  | ks, ds, [] => (ks, ds)
  | ks, ds, p :: ps => mergeD (insK ks p.1) (insD ks ds p.1 p.2) ps
theorem mergeD_ok {H : Hp} {ι : Z} : ∀ {ps : List (Key × D)} {kvs : List (Key × V)} {ks : List Key} {ds : List D} {vs : List V}, Paired (fun (p : Key × D) (kv : Key × V) => p.1 = kv.1 ∧ RD H ι p.2 kv.2) ps kvs →
    ks.length = ds.length → RDs H ι ds vs → ∃ ws, mergeK (ks.zip vs) kvs = (mergeD ks ds ps).1.zip ws ∧ (mergeD ks ds ps).1.length = (mergeD ks ds ps).2.length ∧ RDs H ι (mergeD ks ds ps).2 ws
  | _, _, ks, ds, vs, .nil, hl, r => ⟨vs, rfl, hl, r⟩
  | p :: ps, kv :: kvs, ks, ds, vs, .cons h t, hl, r => by
    obtain ⟨ws, e, hl2, r2⟩ := insK_put (k := p.1) hl r h.2
    obtain ⟨us, e2, hl3, r3⟩ := mergeD_ok t hl2 r2
    refine ⟨us, ?_, hl3, r3⟩
    show mergeK (putK (ks.zip vs) kv.1 kv.2) kvs = _
    rw [← h.1, e]; exact e2
theorem pairsD_ok {H : Hp} {ι : Z} : ∀ {es : List D} {vs : List V} {ps : List (Key × D)}, RDs H ι es vs → pairsD es = some ps → ∃ (as : List Addr) (kvs : List (Key × V)), vs = as.map V.ref ∧ Paired (fun a kv => Tp H a [kV kv.1, kv.2]) as kvs ∧ Paired (fun (p : Key × D) (kv : Key × V) => p.1 = kv.1 ∧ RD H ι p.2 kv.2) ps kvs
  | [], vs, ps, r, h => by
    simp only [pairsD, Option.some.injEq] at h
    simp only [RDs] at r
    subst h r
    exact ⟨[], [], rfl, .nil, .nil⟩
  | d :: es, vs, ps, r, h => by
    simp only [RDs] at r
    obtain ⟨v, w, e, r1, r2⟩ := r
    subst e
    simp only [pairsD] at h
    cases h1 : pairOf d with
    | none => rw [h1] at h; cases h
    | some p =>
      rw [h1] at h
      simp only [Option.bind_some, Option.map_eq_some_iff] at h
      obtain ⟨ps', h2, e⟩ := h
      subst e
      obtain ⟨as, kvs, e1, q1, q2⟩ := pairsD_ok r2 h2
      subst e1
      unfold pairOf at h1
      split at h1
      · rename_i k x
        rw [Option.map_eq_some_iff] at h1
        obtain ⟨kk, hk, e⟩ := h1
        subst e
        simp only [RD] at r1
        obtain ⟨a, us, e, t, z, r3⟩ := r1
        subst e
        obtain ⟨u1, u2, e, r4, r5⟩ := rds_two r3
        subst e
        rw [keyOf_ok r4 hk] at t
        exact ⟨a :: as, (kk, u2) :: kvs, rfl, .cons t q1, .cons ⟨rfl, r5⟩ q2⟩
      · cases h1
theorem pairsD_len : ∀ {es : List D} {ps : List (Key × D)}, pairsD es = some ps → ps.length = es.length
  | [], ps, h => by simp only [pairsD, Option.some.injEq] at h; subst h; rfl
  | d :: es, ps, h => by
    simp only [pairsD] at h
    cases h1 : pairOf d with
    | none => rw [h1] at h; cases h
    | some p =>
      rw [h1] at h
      simp only [Option.bind_some, Option.map_eq_some_iff] at h
      obtain ⟨ps', h2, e⟩ := h
      subst e
      simp [pairsD_len h2]
theorem mergeD_len : ∀ (ps : List (Key × D)) (ks : List Key) (ds : List D), (mergeD ks ds ps).1.length ≤ ks.length + ps.length
  | [], ks, ds => Nat.le_refl _
  | p :: ps, ks, ds => by
    have := mergeD_len ps (insK ks p.1) (insD ks ds p.1 p.2)
    have := insK_len ks p.1
    simp only [mergeD, List.length_cons]; omega
end
section
variable {X : Cx} {pins : List (Addr × Obj)} {σ : L2.St} {H : Hp} {s : Shared}
/-- the pairs, at the level of the library -/
theorem pairs_at (I : Inv X pins σ H s) : ∀ {as : List Addr} {kvs : List (Key × V)}, Paired (fun a kv => Tp H a [kV kv.1, kv.2]) as kvs →
    ∃ (vs : List (Value × Value)) (prs : List (Key × Value)), KV kvs prs ∧ vs.length = as.length ∧ prs.length = as.length ∧ ∀ (j : Nat) (k v : Value), vs[j]? = some (k, v) → ∃ (b : Addr) (kk : Key), as[j]? = some b ∧ PySem.PairAt s.heap b k v ∧ prs[j]? = some (kk, v) ∧ (mixKind X.prog X.w).is kk k = true
  | _, _, .nil => ⟨[], [], .nil, rfl, rfl, fun j k v h => by simp at h⟩
  | a :: as, kv :: kvs, .cons h t => by
    obtain ⟨vs, prs, h1, h2, h3, h4⟩ := pairs_at I t
    obtain ⟨is, rv, ht, _⟩ := I.tuple (h.sq (K := X.K))
    obtain ⟨u, y, ei, ru, ry⟩ := vals2 rv
    subst ei
    refine ⟨(u, y) :: vs, (kv.1, y) :: prs, .cons ⟨rfl, ry⟩ h1, by simp [h2], by simp [h3], fun j k v hj => ?_⟩
    cases j with
    | zero =>
      simp only [List.getElem?_cons_zero, Option.some.injEq, Prod.mk.injEq] at hj
      obtain ⟨e1, e2⟩ := hj
      subst e1 e2
      exact ⟨a, kv.1, rfl, .inl ht, rfl, kV_is ru⟩
    | succ j =>
      obtain ⟨b, kk, q1, q2, q3, q4⟩ := h4 j k v (by simpa using hj)
      exact ⟨b, kk, by simpa using q1, q2, by simpa using q3, q4⟩
theorem cr_dictT (hcalm : X.calm = true) : CallR X (.type "dict") (fun xs H Q => ∃ (a : Addr) (as : List Addr) (kvs : List (Key × V)), xs = [.ref a] ∧ Tp H a (as.map V.ref) ∧ Paired (fun a kv => Tp H a [kV kv.1, kv.2]) as kvs ∧
    ∀ p, H p = none → Q (.ref p) (upd H p (.dK (mergeK [] kvs)))) := by
  intro pins s σ H xs us Q I r ⟨a, as, kvs, e, ⟨o, ho, hd⟩, hp, q⟩
  subst e
  obtain ⟨u, eu, rx⟩ := vals1 r
  subst eu
  cases rx
  obtain ⟨hg, hz, is, rv, o2, hg2, hc, n, hdat⟩ := (show ObjOk X.prog X.w H s.heap a (.frz o (.tup (as.map V.ref))) from I.hok a _ ho)
  rw [hg] at hg2
  cases hg2
  have ei := refs_at rv
  subst ei
  rw [List.length_map] at hz
  obtain ⟨vs, prs, rel, h2, h3, h4⟩ := pairs_at I hp
  refine PySem.call_dict_pairs (knd := mixKind X.prog X.w) (kvs := prs) (PySem.PairArg.tuple a _ (fun j => as[j]?.getD 0) vs) (I.ok.hd hcalm) ⟨⟨o, n, hg, hc, hd, hdat⟩, by simp [h2], fun j k v hj => ?_⟩ ⟨by rw [h3, h2], fun j k v hj => ?_⟩ (by rw [h2]; exact hz) fun h' tk hd' hk => ?_
  · obtain ⟨b, kk, q1, q2, q3, q4⟩ := h4 j k v hj
    refine ⟨?_, ?_⟩
    · simp [q1]
    · simp only [q1, Option.getD_some]; exact q2
  · obtain ⟨b, kk, q1, q2, q3, q4⟩ := h4 j k v hj
    exact ⟨kk, q3, q4⟩
  · have hm : (s.heap.objs.size == sysModules) = false := beq_eq_false_iff_ne.mpr (Nat.ne_of_gt I.big)
    have hlen : (mergeK [] kvs).length ≤ sizeLine := by
      refine Nat.le_trans (length_mergeK kvs []) ?_
      rw [List.length_nil, Nat.zero_add, rel.length, h3]
      exact hz
    exact ⟨.ref s.heap.objs.size, upd H s.heap.objs.size (.dK (mergeK [] kvs)), I.laid (t' := tk) (fun b o e => hk b o (by simp) e) (Nat.le_refl _) (show ObjOk X.prog X.w _ _ _ (.dK (mergeK [] kvs)) from ⟨hlen, hm, PySem.merged [] prs, KV.merge rel .nil, hd'⟩), rfl, q _ (I.hok.fresh (Nat.le_refl _))⟩
theorem dict_fin {W : XK} {ι : Z} {S : Sto} {Q : VK} (rp : Rep H ι X.ek S) {es : List D} {vs : List V} {ps : List (Key × D)} (r : RDs H ι es vs) (hz : es.length ≤ sizeLine) (hp : pairsD es = some ps)
    (q : ∀ p ws, H p = none → (mergeD [] [] ps).1.length = (mergeD [] [] ps).2.length → (mergeD [] [] ps).1.length ≤ sizeLine → RDs H ι (mergeD [] [] ps).2 ws → Q (.ref p) (upd H p (.dK ((mergeD [] [] ps).1.zip ws)))) :
    ∃ (as : List Addr) (kvs : List (Key × V)), vs = as.map V.ref ∧ Paired (fun a kv => Tp H a [kV kv.1, kv.2]) as kvs ∧ ∀ p, H p = none → Q (.ref p) (upd H p (.dK (mergeK [] kvs))) := by
  obtain ⟨as, kvs, e, h1, h2⟩ := pairsD_ok r hp
  refine ⟨as, kvs, e, h1, fun p hpn => ?_⟩
  obtain ⟨ws, e2, hl, r2⟩ := mergeD_ok (ks := []) (ds := []) (vs := []) h2 rfl .nil
  have e3 : mergeK [] kvs = (mergeD [] [] ps).1.zip ws := e2
  rw [e3]
  refine q p ws hpn hl ?_ r2
  refine Nat.le_trans (mergeD_len _ [] []) ?_
  rw [List.length_nil, Nat.zero_add, pairsD_len hp]; exact hz
/-- the pairs of a tuple or list -/
def itP (S : Sto) : D → Option (List (Key × D))
  | .tup es => pairsD es
  | d => (rdL S d).bind pairsD
theorem dict_call {W : XK} {ι : Z} {S : Sto} {Q : VK} (rp : Rep H ι X.ek S) {d : D} {xs : List V} {ps : List (Key × D)} (rx : RDs H ι [d] xs) (h : itP S d = some ps)
    (q : ∀ p ws, H p = none → (mergeD [] [] ps).1.length = (mergeD [] [] ps).2.length → (mergeD [] [] ps).1.length ≤ sizeLine → RDs H ι (mergeD [] [] ps).2 ws → Q (.ref p) (upd H p (.dK ((mergeD [] [] ps).1.zip ws)))) :
    (∃ (a : Addr) (as : List Addr) (kvs : List (Key × V)), xs = [.ref a] ∧ Tp H a (as.map V.ref) ∧ Paired (fun a kv => Tp H a [kV kv.1, kv.2]) as kvs ∧ ∀ p, H p = none → Q (.ref p) (upd H p (.dK (mergeK [] kvs)))) ∨
    (∃ (a : Addr) (ps : List Addr) (kvs : List (Key × V)), xs = [.ref a] ∧ SqL X.K H a (ps.map V.ref) ∧ Paired (fun p kv => SqT X.K H p [kV kv.1, kv.2]) ps kvs ∧ ∀ p, H p = none → Q (.ref p) (upd H p (.dK (mergeK [] kvs)))) := by
  obtain ⟨v, e, r⟩ := rds_one rx
  subst e
  unfold itP at h
  split at h
  · rename_i es
    simp only [RD] at r
    obtain ⟨a, vs, e, t, z, r2⟩ := r
    subst e
    obtain ⟨as, kvs, e, h1, h2⟩ := dict_fin (W := W) rp r2 z h q
    subst e
    exact .inl ⟨a, as, kvs, rfl, t, h1, h2⟩
  · rename_i d _
    rw [Option.bind_eq_some_iff] at h
    obtain ⟨es, hes, hps⟩ := h
    obtain ⟨a, vs, e, hq, r2, z⟩ := rdL_ok rp r hes
    subst e
    obtain ⟨as, kvs, e, h1, h2⟩ := dict_fin (W := W) rp r2 z hps q
    subst e
    exact .inr ⟨a, as, kvs, rfl, hq, L2.Paired.mapP h1 fun _ _ h => h.sq, h2⟩
def cDict (ds : List D) (S : Sto) : R D := match ds with
  | [d] => match itP S d with
    | some ps => .ok (.dct (mergeD [] [] ps).1 (mergeD [] [] ps).2) S
    | none => .stuck
  | _ => .stuck
theorem cDict_ok (hc : X.calm = true) : CallD X (.type "dict") cDict := by
  refine ⟨_, CallR.or (cr_dictT hc) (call_dictP hc), fun W ι S H xs dxs Q rp rx q => ?_⟩
  unfold cDict at q
  split at q
  · split at q
    · rename_i ps hps
      refine dict_call (W := W) rp rx hps fun p ws hpn hl hz r2 => q.at (Step.new hpn) (rp.new hpn) ?_
      simp only [RD]
      exact ⟨p, ws, rfl, .inl upd_same, rp.fresh hpn, hl, hz, r2.mono (Step.new hpn).up⟩
    · exact q.elim
  · exact q.elim
/-- .. a dict that may be changed -/
def cDictR (ds : List D) (S : Sto) : R D := match ds with
  | [d] => match itP S d with
    | some ps => .ok (.ref S.length) (S ++ [.dK (mergeD [] [] ps).1 (mergeD [] [] ps).2])
    | none => .stuck
  | _ => .stuck
theorem cDictR_ok (hc : X.calm = true) : CallD X (.type "dict") cDictR := by
  refine ⟨_, CallR.or (cr_dictT hc) (call_dictP hc), fun W ι S H xs dxs Q rp rx q => ?_⟩
  unfold cDictR at q
  split at q
  · split at q
    · rename_i ps hps
      refine dict_call (W := W) rp rx hps fun p ws hpn hl hz r2 => ?_
      have q2 := rep_newRef (m := .dK (mergeD [] [] ps).1 (mergeD [] [] ps).2) (u := .dK ((mergeD [] [] ps).1.zip ws)) rp hpn ⟨ws, upd_same, hl, hz, r2.mono (Step.newRef hpn).up⟩
      exact q.at (Step.newRef hpn) q2.1 q2.2
    · exact q.elim
  · exact q.elim
end
end PM

/-! PM, part 21: kinds and values (plain) -/
namespace PM
open PySem L2
inductive K where
  | num | blk (n : Int) | rc (ls : List Str) (ks : List K) (r : Option Int)
inductive Vl where
  | num (n : Int) | rc (ls : List Str) (vs : List Vl)
def rD0 : Option Int → D
  | none => .non
  | some n => .int n
mutual
def kd : K → D
  | .num => .tup [.str "number"]
  | .blk n => .tup [.str "blank", .int n]
  | .rc ls ks r => .tup [.str "record", .tup (fldD ls (kds ks)), rD0 r]
def kds : List K → List D
  | [] => []
  | k :: ks => kd k :: kds ks
end
mutual
def vd : Vl → D
  | .num n => .int n
  | .rc ls vs => .tup (fldD ls (vds vs))
def vds : List Vl → List D
  | [] => []
  | v :: vs => vd v :: vds vs
end
theorem kds_map : ∀ ks : List K, kds ks = ks.map kd
  | [] => rfl
  | k :: ks => by rw [kds, kds_map ks]; rfl
theorem vds_map : ∀ vs : List Vl, vds vs = vs.map vd
  | [] => rfl
  | v :: vs => by rw [vds, vds_map vs]; rfl
def lkp : List Str → List Vl → Str → Option Vl
  | l :: ls, v :: vs, x => if l = x then some v else lkp ls vs x
  | _, _, _ => none
mutual
def isB : K → Vl → Bool
  | .blk _, _ => true
  | .num, .num _ => true
  | .num, .rc _ _ => false
  | .rc _ _ _, .num _ => false
  | .rc ls ks r, .rc ls' vs => isBs ls ks ls' vs && (r.isSome || decide (ls'.length = ls.length))
def isBs : List Str → List K → List Str → List Vl → Bool
  | l :: ls, k :: ks, ls', vs => (match lkp ls' vs l with | some v => isB k v | none => false) && isBs ls ks ls' vs
  | _, _, _, _ => true
end
/-- kinds of labels, of a depth -/
inductive WK : Nat → K → Prop where
  | num {d} : WK (d + 1) .num
  | blk {d n} : WK (d + 1) (.blk n)
  | rc {d ls ks r} : ls.length = ks.length → ks.length ≤ 4 → ls.Nodup → (∀ l ∈ ls, IsLab l) → (∀ k ∈ ks, WK d k) → WK (d + 1) (.rc ls ks r)
/-- values of labels, of a depth, of so many fields -/
inductive WV (m : Nat) : Nat → Vl → Prop where
  | num {d n} : WV m (d + 1) (.num n)
  | rc {d ls vs} : ls.length = vs.length → vs.length ≤ m → ls.Nodup → (∀ l ∈ ls, IsLab l) → (∀ v ∈ vs, WV m d v) → WV m (d + 1) (.rc ls vs)
theorem WV.mono {m d e : Nat} {v : Vl} (h : WV m d v) : d ≤ e → WV m e v := by
  induction h generalizing e with
  | num => intro he; obtain ⟨e, rfl⟩ : ∃ f, e = f + 1 := ⟨e - 1, by omega⟩; exact .num
  | rc h1 h2 h3 h4 h5 ih => intro he; obtain ⟨e, rfl⟩ : ∃ f, e = f + 1 := ⟨e - 1, by omega⟩; exact .rc h1 h2 h3 h4 fun v hv => ih v hv (by omega)
theorem WK.mono {d e : Nat} {k : K} (h : WK d k) : d ≤ e → WK e k := by
  induction h generalizing e with
  | num => intro he; obtain ⟨e, rfl⟩ : ∃ f, e = f + 1 := ⟨e - 1, by omega⟩; exact .num
  | blk => intro he; obtain ⟨e, rfl⟩ : ∃ f, e = f + 1 := ⟨e - 1, by omega⟩; exact .blk
  | rc h1 h2 h3 h4 h5 ih => intro he; obtain ⟨e, rfl⟩ : ∃ f, e = f + 1 := ⟨e - 1, by omega⟩; exact .rc h1 h2 h3 h4 fun v hv => ih v hv (by omega)
/-! dicts of them -/
theorem fldD_cons (l : Str) (ls : List Str) (d : D) (ds : List D) : fldD (l :: ls) (d :: ds) = .tup [.str l, d] :: fldD ls ds := rfl
theorem pairsD_fld : ∀ {ls : List Str} {ds : List D}, ls.length = ds.length → pairsD (fldD ls ds) = some ((ls.map Sum.inr).zip ds)
  | [], [], _ => rfl
  | l :: ls, d :: ds, h => by
    rw [fldD_cons, pairsD, pairsD_fld (by simpa using h)]; rfl
theorem insK_new {ks : List Key} {k : Key} (h : k ∉ ks) : insK ks k = ks ++ [k] := by unfold insK; rw [if_neg h]
theorem insD_new {ks : List Key} {ds : List D} {k : Key} {d : D} (h : k ∉ ks) : insD ks ds k d = ds ++ [d] := by unfold insD; rw [if_neg h]
theorem mergeD_new : ∀ {ks2 ks : List Key} {ds2 ds : List D}, (ks ++ ks2).Nodup → ks2.length = ds2.length → mergeD ks ds (ks2.zip ds2) = (ks ++ ks2, ds ++ ds2)
  | [], ks, [], ds, _, _ => by simp [mergeD]
  | k :: ks2, ks, d :: ds2, ds, h, hl => by
    have hk : k ∉ ks := fun hk => by
      rw [List.nodup_append] at h
      exact h.2.2 k hk k (by simp) rfl
    rw [List.zip_cons_cons, mergeD, insK_new hk, insD_new hk, mergeD_new (by simpa using h) (by simpa using hl)]
    simp
theorem nodup_inr {ls : List Str} (h : ls.Nodup) : (ls.map (Sum.inr : Str → Key)).Nodup := by
  unfold List.Nodup at *
  rw [List.pairwise_map]
  exact h.imp fun {a b} n e => n (Sum.inr.inj e)
theorem cDict_fld {S : Sto} {ls : List Str} {ds : List D} (h : ls.length = ds.length) (hn : ls.Nodup) : cDict [.tup (fldD ls ds)] S = .ok (.dct (ls.map .inr) ds) S := by
  have e : itP S (.tup (fldD ls ds)) = some ((ls.map Sum.inr).zip ds) := pairsD_fld h
  have e2 := mergeD_new (ks := []) (ks2 := ls.map Sum.inr) (ds := []) (ds2 := ds) (by simpa using nodup_inr hn) (by simpa using h)
  simp only [cDict, e, e2, List.nil_append]
theorem getK_lkp : ∀ {ls : List Str} {vs : List Vl} (l : Str), ls.length = vs.length → getK (ls.map (Sum.inr : Str → Key)) (vds vs) (.inr l) = (lkp ls vs l).map vd
  | [], [], l, _ => rfl
  | x :: ls, v :: vs, l, h => by
    simp only [List.map_cons, vds, getK, lkp, Sum.inr.injEq]
    split
    · rfl
    · exact getK_lkp l (by simpa using h)
@[simp] theorem dget_dct {S : Sto} {ks : List Key} {ds : List D} {l : Str} : dget S (.dct ks ds) (.str l) = some (getK ks ds (.inr l)) := rfl
theorem opIx_dct {S : Sto} {ks : List Key} {ds : List D} {l : Str} {d : D} (h : getK ks ds (.inr l) = some d) : opIx (.dct ks ds) (.str l) S = .ok d S := by
  simp only [opIx, dget_dct, h]
theorem opNotIn_dct {S : Sto} {ks : List Key} {ds : List D} {l : Str} : opNotIn (.str l) (.dct ks ds) S = .ok (.bl (!(getK ks ds (.inr l)).isSome)) S := by
  simp only [opNotIn, inDa, dget_dct]
theorem isi_vd {S : Sto} (v : Vl) : opIsi "tuple" (vd v) S = .ok (.bl (match v with | .rc _ _ => true | .num _ => false)) S := by cases v <;> simp [vd]
theorem vds_len (vs : List Vl) : (vds vs).length = vs.length := by rw [vds_map]; simp
theorem kds_len (vs : List K) : (kds vs).length = vs.length := by rw [kds_map]; simp
theorem lkp_mem : ∀ {ls : List Str} {vs : List Vl} {l : Str} {v : Vl}, lkp ls vs l = some v → v ∈ vs
  | l :: ls, v :: vs, x, w, h => by
    simp only [lkp] at h
    split at h
    · cases h; simp
    · simp [lkp_mem h]
  | [], _, _, _, h => by cases h
  | _ :: _, [], _, _, h => by cases h
end PM

/-! PM, part 22: for the makers of kinds and values -/
namespace PM
open PySem L2
theorem comp_filtm {α : Type} {grd : Sto → Prop} {g : Gm} {t : Tm} {e : Em} {δ : Loc} {S : Sto} (i : α → D) (p : α → Bool) (f : α → D) (hg : grd S) (xs : List α) (acc : List D)
    (h : ∀ x ∈ xs, ∃ δ', g (i x) δ S = .ok δ' S ∧ t δ' S = .ok (p x) S ∧ (p x = true → e δ' S = .ok (f x) S)) : compM grd g t e δ acc (xs.map i) S = .ok (.lst (acc ++ (xs.filter p).map f)) S := by
  induction xs generalizing acc with
  | nil => rw [List.map_nil, compM_nil hg]; simp
  | cons x xs ih =>
    obtain ⟨δ', h1, h2, h3⟩ := h x (by simp)
    rw [List.map_cons, compM_cons hg, h1]
    simp only [R.quiet_ok, R.bind_ok, h2]
    cases hp : p x with
    | true =>
      rw [if_pos rfl, h3 hp]
      simp only [R.quiet_ok, R.bind_ok]
      rw [ih _ fun y hy => h y (by simp [hy]), List.filter_cons_of_pos hp]
      simp
    | false =>
      rw [if_neg (by simp), ih _ fun y hy => h y (by simp [hy]), List.filter_cons_of_neg (by simp [hp])]
theorem fldD_snoc {ls : List Str} {ds : List D} (h : ls.length = ds.length) (l : Str) (d : D) : fldD (ls ++ [l]) (ds ++ [d]) = fldD ls ds ++ [.tup [.str l, d]] := by
  rw [fldD, List.zipWith_append h]; rfl
theorem cutD_to {α : Type} {xs : List α} {i : Int} (h : 0 ≤ i) : cutD xs none (some i) = xs.take i.toNat := by
  obtain ⟨k, rfl⟩ : ∃ k : Nat, i = k := ⟨i.toNat, by omega⟩
  unfold cutD
  rw [HT.sIx_none, HT.sIx_nat, List.drop_zero, Nat.sub_zero]
  show xs.take (min k xs.length) = xs.take k
  rcases Nat.le_total k xs.length with h | h
  · rw [Nat.min_eq_left h]
  · rw [Nat.min_eq_right h, List.take_length, List.take_of_length_le h]
theorem cutD_from {α : Type} {xs : List α} {i : Int} (h : 0 ≤ i) : cutD xs (some i) none = xs.drop i.toNat := by
  obtain ⟨k, rfl⟩ : ∃ k : Nat, i = k := ⟨i.toNat, by omega⟩
  unfold cutD
  rw [HT.sIx_none, HT.sIx_nat]
  show (xs.drop (min k xs.length)).take (xs.length - min k xs.length) = xs.drop k
  rcases Nat.le_total k xs.length with h | h
  · rw [Nat.min_eq_left h, List.take_of_length_le (by simp)]
  · rw [Nat.min_eq_right h, Nat.sub_self, List.take_zero, List.drop_eq_nil_of_le h]
/-! lists of texts, lists of these -/
def wD (w : List Str) : D := .lst (w.map .str)
def WOk (w : List Str) : Prop := ∀ l ∈ w, IsLab l
theorem tps_strs {rc : List D → Option (List PyData)} {S : Sto} : ∀ w : List Str, tps rc S (w.map .str) = some (w.map .str)
  | [] => rfl
  | l :: w => by simp only [List.map_cons, tps, tp, tps_strs w, Option.bind_some, Option.map_some]
theorem tps_ws {rc : List D → Option (List PyData)} {S : Sto} : ∀ ws : List (List Str), tps rc S (ws.map wD) = some (ws.map fun w => .list (w.map .str))
  | [] => rfl
  | w :: ws => by simp only [List.map_cons, tps, wD, tp, tps_strs, Option.map_some, Option.bind_some]; simp only [tps_ws ws, Option.map_some]
theorem lay_strs : ∀ {w : List Str}, WOk w → PyData.canLayAll0 (w.map .str) = true ∧ PyData.depthAll (w.map .str) = 0
  | [], _ => ⟨rfl, rfl⟩
  | l :: w, h => by
    obtain ⟨h1, h2⟩ := lay_strs (w := w) fun x hx => h x (by simp [hx])
    simp only [List.map_cons, PyData.canLayAll0, PyData.depthAll, PyData.canLay0, PyData.depth, h1, h2]
    exact ⟨by rw [(h l (by simp)).ok]; rfl, rfl⟩
theorem lay_ws : ∀ {ws : List (List Str)}, (∀ w ∈ ws, WOk w) → PyData.canLayAll0 (ws.map fun w => .list (w.map .str)) = true ∧ PyData.depthAll (ws.map fun w => .list (w.map .str)) ≤ 1
  | [], _ => ⟨rfl, by decide⟩
  | w :: ws, h => by
    obtain ⟨h1, h2⟩ := lay_ws (ws := ws) fun x hx => h x (by simp [hx])
    obtain ⟨h3, h4⟩ := lay_strs (h w (by simp))
    simp only [List.map_cons, PyData.canLayAll0, PyData.depthAll, PyData.canLay0, PyData.depth, h1, h3, h4]
    exact ⟨rfl, by omega⟩
theorem eqv_strs : ∀ a b : List Str, PyData.eqvAll (a.map .str) (b.map .str) = decide (a = b)
  | [], [] => by simp [PyData.eqvAll]
  | [], y :: b => by simp [PyData.eqvAll]
  | x :: a, [] => by simp [PyData.eqvAll]
  | x :: a, y :: b => by
    simp only [List.map_cons, PyData.eqvAll, PyData.eqv, eqv_strs a b, List.cons.injEq, Bool.decide_and]
    congr 1
theorem sh_w {w : List Str} (h : WOk w) : SeqAt.shaped (.list (w.map .str)) = true := by
  obtain ⟨h1, h2⟩ := lay_strs h
  exact shaped_of (n := 1) h1 (by simp only [PyData.depth, h2]; decide) (by decide)
theorem sh_ws {ws : List (List Str)} (h : ∀ w ∈ ws, WOk w) : SeqAt.shaped (.list (ws.map fun w => .list (w.map .str))) = true := by
  obtain ⟨h1, h2⟩ := lay_ws h
  exact shaped_of (n := 2) h1 (by simp only [PyData.depth]; omega) (by decide)
theorem tpd_w {S : Sto} (w : List Str) : tpd S (wD w) = some (.list (w.map .str)) := by
  simp only [tpd, wD, tp, tps_strs]; rfl
theorem tpd_ws {S : Sto} {q : Nat} {ws : List (List Str)} (h : S[q]? = some (.lst (ws.map wD))) : tpd S (.ref q) = some (.list (ws.map fun w => .list (w.map .str))) := by
  simp only [tpd, tp, h, tpk, tps_ws]; rfl
theorem any_ws (w : List Str) : ∀ ws : List (List Str), ((ws.map fun w => PyData.list (w.map .str)).any fun z => PyData.eqv z (.list (w.map .str))) = decide (w ∈ ws)
  | [] => by simp
  | x :: ws => by
    simp only [List.map_cons, List.any_cons, any_ws w ws, PyData.eqv, eqv_strs, List.mem_cons, Bool.decide_or]
    rw [show decide (x = w) = decide (w = x) from by simp only [eq_comm]]
theorem opNotIn_ws {S : Sto} {q : Nat} {ws : List (List Str)} {w : List Str} (h : S[q]? = some (.lst (ws.map wD))) (hw : WOk w) (hs : ∀ w ∈ ws, WOk w) : opNotIn (wD w) (.ref q) S = .ok (.bl (!decide (w ∈ ws))) S := by
  have e : inDa S (wD w) (.ref q) = some (decide (w ∈ ws)) := by
    have h1 := tpd_w (S := S) w
    have h2 := tpd_ws h
    unfold wD at h1
    simp only [inDa, wD, dget, dkOf, dtOf, h, rdS, rdL, asL, isFlat, h1, h2]
    simp only [Bool.false_eq_true, if_false, sh_w hw, sh_ws hs, and_self, if_true, any_ws]
  simp only [opNotIn, e]
theorem cIndex_ws {S : Sto} {q : Nat} {ws : List (List Str)} {w : List Str} (h : S[q]? = some (.lst (ws.map wD))) (hw : WOk w) (hs : ∀ w ∈ ws, WOk w) (hm : w ∈ ws) : ∃ j : Nat, j < ws.length ∧ cIndex (.ref q) [wD w] S = .ok (.int j) S := by
  have h1 := any_ws w ws
  rw [decide_eq_true hm] at h1
  cases hf : (ws.map fun w => PyData.list (w.map .str)).findIdx? (fun z => PyData.eqv z (.list (w.map .str))) with
  | none =>
    rw [List.findIdx?_eq_none_iff] at hf
    rw [List.any_eq_true] at h1
    obtain ⟨x, hx, e⟩ := h1
    rw [hf x hx] at e; cases e
  | some j =>
    refine ⟨j, ?_, ?_⟩
    · rw [List.findIdx?_eq_some_iff_getElem] at hf
      obtain ⟨hl, _⟩ := hf
      simpa using hl
    · simp only [cIndex, tpd_w, tpd_ws h, sh_w hw, sh_ws hs, and_self, if_true, hf]
/-! a state beside a list of lists of texts -/
def KSt (S : Sto) (n q M : Nat) : Prop := ∃ (a b : Int) (ws : List (List Str)), 0 ≤ a ∧ S[n]? = some (.lst [.int a, .int b]) ∧ S[q]? = some (.lst (ws.map wD)) ∧ (∀ w ∈ ws, WOk w) ∧ ws.length + b.toNat ≤ M
/-- only n and q changed -/
def KNx (S T : Sto) (n q : Nat) : Prop := T.length = S.length ∧ ∀ i, i ≠ n → i ≠ q → T[i]? = S[i]?
theorem KNx.refl {S : Sto} {n q : Nat} : KNx S S n q := ⟨rfl, fun _ _ _ => rfl⟩
theorem KNx.trans {S T U : Sto} {n q : Nat} (a : KNx S T n q) (b : KNx T U n q) : KNx S U n q := ⟨b.1.trans a.1, fun i h1 h2 => (b.2 i h1 h2).trans (a.2 i h1 h2)⟩
theorem KNx.set1 {S : Sto} {n q : Nat} {o : MO} : KNx S (S.set n o) n q := ⟨by simp, fun i h1 _ => by rw [List.getElem?_set_ne (Ne.symm h1)]⟩
theorem KNx.set2 {S : Sto} {n q : Nat} {o : MO} : KNx S (S.set q o) n q := ⟨by simp, fun i _ h2 => by rw [List.getElem?_set_ne (Ne.symm h2)]⟩
theorem strsOf_id : ∀ xs : List Str, strsOf (xs.map D.str) = some xs
  | [] => rfl
  | x :: xs => by simp only [List.map_cons, strsOf, strsOf_id xs]; rfl
/-- a comprehension, indexed, with tests that may change objects -/
theorem comp_ofI {g : Gm} {t : Tm} {e : Em} {δ : Loc} {S : Sto} {ds : List D} {r : R D} (hL : compM (fun _ => True) g t e δ [] ds S = r) (I : Nat → List D → Sto → Prop) (h0 : I 0 [] S)
    (hs : ∀ (i : Nat) x acc S, ds[i]? = some x → I i acc S → ∃ δ' S1 k S2, g x δ S = .ok δ' S1 ∧ t δ' S1 = .ok k S2 ∧ (k = true → ∃ y S3, e δ' S2 = .ok y S3 ∧ I (i + 1) (acc ++ [y]) S3) ∧ (k = false → I (i + 1) acc S2)) : ∃ acc S', r = .ok (.lst acc) S' ∧ I ds.length acc S' := by
  subst hL
  suffices H : ∀ (ds acc : List D) (n : Nat) (S : Sto), I n acc S → (∀ (i : Nat) x acc S, ds[i]? = some x → I (n + i) acc S → ∃ δ' S1 k S2, g x δ S = .ok δ' S1 ∧ t δ' S1 = .ok k S2 ∧ (k = true → ∃ y S3, e δ' S2 = .ok y S3 ∧ I (n + i + 1) (acc ++ [y]) S3) ∧ (k = false → I (n + i + 1) acc S2)) →
      ∃ acc' S', compM (fun _ => True) g t e δ acc ds S = .ok (.lst acc') S' ∧ I (n + ds.length) acc' S' by
    have := H ds [] 0 S h0 (fun i x acc S hx hI => by
      have := hs i x acc S hx (by rwa [Nat.zero_add] at hI)
      rwa [Nat.zero_add])
    rwa [Nat.zero_add] at this
  intro ds
  induction ds with
  | nil => intro acc n S h0 _; exact ⟨acc, S, compM_nil trivial, h0⟩
  | cons x ds ih =>
    intro acc n S h0 hs
    obtain ⟨δ', S1, k, S2, h1, h2, h3, h4⟩ := hs 0 x acc S rfl h0
    rw [compM_cons trivial, h1]
    simp only [R.quiet_ok, R.bind_ok, h2]
    rw [List.length_cons, show n + (ds.length + 1) = n + 1 + ds.length by omega]
    have hs' : ∀ (i : Nat) x acc S, ds[i]? = some x → I (n + 1 + i) acc S → ∃ δ' S1 k S2, g x δ S = .ok δ' S1 ∧ t δ' S1 = .ok k S2 ∧ (k = true → ∃ y S3, e δ' S2 = .ok y S3 ∧ I (n + 1 + i + 1) (acc ++ [y]) S3) ∧ (k = false → I (n + 1 + i + 1) acc S2) := fun i y acc S hy hI => by
      have := hs (i + 1) y acc S (by simpa using hy) (by rwa [show n + (i + 1) = n + 1 + i by omega])
      rwa [show n + (i + 1) + 1 = n + 1 + i + 1 by omega] at this
    cases k with
    | true =>
      obtain ⟨y, S3, h5, h6⟩ := h3 rfl
      rw [if_pos rfl, h5]
      simp only [R.quiet_ok, R.bind_ok]
      exact ih _ (n + 1) S3 h6 hs'
    | false =>
      rw [if_neg Bool.false_ne_true]
      exact ih _ (n + 1) S2 (h4 rfl) hs'
theorem labs_at {ls : List Str} (h : ls.length = 4) {i : Int} (h0 : 0 ≤ i) (h1 : i < 4) : ∃ l ∈ ls, ∀ S, opIx (.lst (ls.map .str)) (.int i) S = .ok (.str l) S := opIx_map h0 (by omega)
end PM

/-! PM, part 23: dicts that are filled, the values of kinds -/
namespace PM
open PySem L2
section
variable {S : Sto} {m : Nat} {ks : List Key} {ds : List D} {l : Str} {d : D}
theorem opSet_new (h : S[m]? = some (.dK ks ds)) (hl : ks.length < sizeLine) (hn : Sum.inr l ∉ ks) : opSet (.ref m) (.str l) d S = .ok () (S.set m (.dK (ks ++ [.inr l]) (ds ++ [d]))) := by
  simp only [opSet, h, keyOf, if_pos hl, insK_new hn, insD_new hn]
theorem dget_ref (h : S[m]? = some (.dK ks ds)) : dget S (.ref m) (.str l) = some (getK ks ds (.inr l)) := by
  simp only [dget, dkOf, h, keyOf]
theorem opIx_dK (h : S[m]? = some (.dK ks ds)) (hg : getK ks ds (.inr l) = some d) : opIx (.ref m) (.str l) S = .ok d S := by
  simp only [opIx, dget_ref h, hg]
theorem opNotIn_dK (h : S[m]? = some (.dK ks ds)) : opNotIn (.str l) (.ref m) S = .ok (.bl (!(getK ks ds (.inr l)).isSome)) S := by
  simp only [opNotIn, inDa, dget_ref h]
theorem cListK_inr {ls : List Str} (h : S[m]? = some (.dK (ls.map .inr) ds)) (hl : ∀ l ∈ ls, IsLab l) : cListK [.ref m] S = .ok (.lst (ls.map .str)) S := by
  have hc : (ls.map (Sum.inr : Str → Key)).all keyFit = true := by
    rw [List.all_map, List.all_eq_true]
    intro x hx
    have := (hl x hx).2.2
    exact decide_eq_true (Nat.le_trans (Nat.le_trans this (by decide)) szl)
  simp only [cListK, h, hc, if_pos, List.map_map]
  rfl
end
theorem lkp_none : ∀ {ls : List Str} {vs : List Vl} {l : Str}, ls.length = vs.length → (lkp ls vs l = none ↔ l ∉ ls)
  | [], [], l, _ => by simp [lkp]
  | x :: ls, v :: vs, l, h => by
    simp only [lkp]
    split
    · rename_i e; simp [e]
    · rename_i e
      rw [lkp_none (by simpa using h)]
      have : ¬ l = x := fun q => e q.symm
      simp [this]
theorem lkp_map (f : Str → Vl) : ∀ {ls : List Str} {l : Str}, l ∈ ls → lkp ls (ls.map f) l = some (f l)
  | x :: ls, l, h => by
    simp only [List.map_cons, lkp]
    split
    · rename_i e; rw [e]
    · rename_i e
      rcases List.mem_cons.mp h with h | h
      · exact absurd h.symm e
      · exact lkp_map f h
theorem lkp_get : ∀ {ls : List Str} {vs : List Vl} {j : Nat} {l : Str} {v : Vl}, ls.Nodup → ls[j]? = some l → vs[j]? = some v → lkp ls vs l = some v
  | x :: ls, w :: vs, 0, l, v, _, h1, h2 => by
    simp only [List.getElem?_cons_zero, Option.some.injEq] at h1 h2
    simp only [lkp, h1, h2, if_pos]
  | x :: ls, w :: vs, j + 1, l, v, hn, h1, h2 => by
    simp only [List.getElem?_cons_succ] at h1 h2
    have hx : x ≠ l := fun e => by
      have := (List.nodup_cons.mp hn).1
      rw [e] at this
      exact this (List.mem_of_getElem? h1)
    simp only [lkp, if_neg hx]
    exact lkp_get (List.nodup_cons.mp hn).2 h1 h2
  | [], _, j, _, _, _, h1, _ => by simp at h1
  | _ :: _, [], j, _, _, _, _, h2 => by simp at h2
theorem isBs_of {ls' : List Str} {vs' : List Vl} : ∀ {ls : List Str} {ks : List K}, (∀ (j : Nat) l k, ls[j]? = some l → ks[j]? = some k → ∃ v, lkp ls' vs' l = some v ∧ isB k v = true) → isBs ls ks ls' vs' = true
  | [], _, _ => by rw [isBs]; intros; contradiction
  | _ :: _, [], _ => by rw [isBs]; intros; contradiction
  | l :: ls, k :: ks, h => by
    obtain ⟨v, h1, h2⟩ := h 0 l k rfl rfl
    rw [isBs, h1]
    simp only [h2, Bool.true_and]
    exact isBs_of fun j l k h1 h2 => h (j + 1) l k (by simpa using h1) (by simpa using h2)
theorem WV.more {m m' d : Nat} {v : Vl} (hm : m ≤ m') (h : WV m d v) : WV m' d v := by
  induction h with
  | num => exact .num
  | rc h1 h2 h3 h4 h5 ih => exact .rc h1 (by omega) h3 h4 ih
theorem vds_app (a b : List Vl) : vds (a ++ b) = vds a ++ vds b := by simp [vds_map]
theorem isLab_z : IsLab (Str.ofString "zzzzzzzz") := lab_known (by decide +kernel) (by decide +kernel) (by decide +kernel)
theorem isLab_a : IsLab (Str.ofString "a") := lab_known (by decide +kernel) (by decide +kernel) (by decide +kernel)
theorem vd_cl {m d n : Nat} {v : Vl} (h : WV m d v) : D.cl n (vd v) = true := by
  induction h with
  | num => rfl
  | rc h1 h2 h3 h4 h5 ih =>
    rename_i d ls vs
    simp only [vd, D.cl]
    refine cls_all fun x hx => ?_
    obtain ⟨l, y, e, _, hy⟩ := mem_fldD hx
    rw [vds_map] at hy
    obtain ⟨b, hb, e'⟩ := List.mem_map.mp hy
    subst e e'
    simp only [D.cl, D.cls, ih b hb]; rfl
/-- the values by the sorted labels -/
def valOf (fl : List Str) (fv : List Vl) (l : Str) : Vl := (lkp fl fv l).getD (.num 0)
def sortV (fl : List Str) (fv : List Vl) : Vl := .rc (sortStr fl) ((sortStr fl).map (valOf fl fv))
theorem lkp_some {fl : List Str} {fv : List Vl} {l : Str} (h : fl.length = fv.length) (hl : l ∈ fl) : lkp fl fv l = some (valOf fl fv l) := by
  unfold valOf
  cases e : lkp fl fv l with
  | none => exact absurd hl ((lkp_none h).mp e)
  | some v => rfl
theorem sortV_wv {m d : Nat} {fl : List Str} {fv : List Vl} (h : fl.length = fv.length) (hm : fv.length ≤ m) (hn : fl.Nodup) (hl : ∀ l ∈ fl, IsLab l) (hv : ∀ v ∈ fv, WV m d v) : WV m (d + 1) (sortV fl fv) := by
  refine .rc (by simp) ?_ ((sortStr_perm fl).nodup_iff.mpr hn) (fun l hx => hl l ((sortStr_perm fl).mem_iff.mp hx)) fun v hx => ?_
  · rw [List.length_map, (sortStr_perm fl).length_eq, h]; exact hm
  · obtain ⟨l, hl, e⟩ := List.mem_map.mp hx
    subst e
    exact hv _ (lkp_mem (lkp_some h ((sortStr_perm fl).mem_iff.mp hl)))
theorem sortV_vd (fl : List Str) (fv : List Vl) : vd (sortV fl fv) = .tup ((sortStr fl).map fun l => .tup [.str l, vd (valOf fl fv l)]) := by
  simp only [sortV, vd, vds_map, List.map_map, fldD]
  congr 1
  generalize sortStr fl = xs
  induction xs with
  | nil => rfl
  | cons x xs ih => simp only [List.map_cons, List.zipWith_cons_cons, ih]; rfl
theorem sortV_lkp {fl : List Str} {fv : List Vl} {l : Str} (h : fl.length = fv.length) (hl : l ∈ fl) : lkp (sortStr fl) ((sortStr fl).map (valOf fl fv)) l = lkp fl fv l := by
  rw [lkp_map _ ((sortStr_perm fl).mem_iff.mpr hl), lkp_some h hl]
end PM

/-! PM, part 24: values bent -/
namespace PM
open PySem L2
@[simp] theorem newLst_5 {S : Sto} {a b c d e : D} : newLst [a, b, c, d, e] S = .ok (.lst [a, b, c, d, e]) S := newLst_ok (by show 5 ≤ sizeLine; exact Nat.le_trans (by decide) szl)
theorem pl_vd {m d : Nat} {v : Vl} (h : WV m d v) : pl (2 * d) (vd v) = true := by
  induction h with
  | num => rename_i d n; cases h : 2 * (d + 1) <;> rfl
  | rc h1 h2 h3 h4 h5 ih =>
    rename_i d ls vs
    rw [show 2 * (d + 1) = (2 * d + 1) + 1 by omega]
    simp only [vd, pl]
    refine pl_all fun x hx => ?_
    obtain ⟨l, y, e, hl, hy⟩ := mem_fldD hx
    rw [vds_map] at hy
    obtain ⟨b, hb, e'⟩ := List.mem_map.mp hy
    subst e e'
    simp only [pl, List.all_cons, List.all_nil, Bool.and_true, Bool.and_eq_true]
    exact ⟨(h4 l hl).ok, ih b hb⟩
theorem eqD_tup_nil {S : Sto} {n : Nat} {ds : List D} (h : pl n (.tup ds) = true) (hn : n ≤ 64) : eqD S (.tup ds) (.tup []) = some (decide (ds = [])) := by
  obtain ⟨n, rfl⟩ : ∃ m, n = m + 1 := by cases n with
    | zero => cases h
    | succ n => exact ⟨n, rfl⟩
  obtain ⟨es, h1, h2, h3⟩ := tpl_of (fun d => pl_tp d) ds h
  have e1 : tpd S (.tup ds) = some (.tuple es) := by simp only [tpd, tp, h1]; rfl
  have e2 : tpd S (.tup []) = some (.tuple []) := rfl
  have h4 : PyData.canLay0 (.tuple es) = true := h2
  have h5 : (PyData.tuple es).depth ≤ n + 1 := by simp only [PyData.depth]; omega
  unfold eqD
  simp only [scalD, e1, e2]
  rw [if_pos ⟨shaped_of h4 h5 hn, by decide⟩]
  cases ds with
  | nil =>
    have := h1 (fun _ => none) S
    simp only [tps, Option.some.injEq] at this
    subst this; rfl
  | cons d ds =>
    have := h1 (fun _ => none) S
    simp only [tps] at this
    cases h6 : tp (fun _ => none) S d with
    | none => rw [h6] at this; cases this
    | some e =>
      rw [h6, Option.bind_some, Option.map_eq_some_iff] at this
      obtain ⟨es', _, e'⟩ := this
      subst e'
      rfl
theorem cDictR_lst {S : Sto} {ls : List Str} {ds : List D} (h : ls.length = ds.length) (hn : ls.Nodup) : cDictR [.lst (fldD ls ds)] S = .ok (.ref S.length) (S ++ [.dK (ls.map .inr) ds]) := by
  have e : itP S (.lst (fldD ls ds)) = some ((ls.map Sum.inr).zip ds) := by
    simp only [itP, rdL, asL, Option.bind_some]; exact pairsD_fld h
  have e2 := mergeD_new (ks := []) (ks2 := ls.map Sum.inr) (ds := []) (ds2 := ds) (by simpa using nodup_inr hn) (by simpa using h)
  simp only [cDictR, e, e2, List.nil_append]
theorem fld_zip {ls : List Str} {vs : List Vl} (h : ls.length = vs.length) : fldD ls (vds vs) = (ls.zip vs).map fun p => .tup [.str p.1, vd p.2] := by
  rw [fldD, vds_map, List.zipWith_map_right, List.zip, List.map_zipWith]
theorem fld_of_zip (ps : List (Str × Vl)) : ps.map (fun p => D.tup [.str p.1, vd p.2]) = fldD (ps.map (·.1)) (vds (ps.map (·.2))) := by
  induction ps with
  | nil => rfl
  | cons p ps ih => simp only [List.map_cons, vds, fldD_cons, ih]
theorem fldD_cut {ls : List Str} {vs : List Vl} {i : Nat} {l : Str} {v w : Vl} (h : ls.length = vs.length) (h1 : ls[i]? = some l) (h2 : vs[i]? = some v) :
    (fldD ls (vds vs)).take i ++ [.tup [.str l, vd w]] ++ (fldD ls (vds vs)).drop (i + 1) = fldD ls (vds (vs.set i w)) := by
  induction ls generalizing vs i with
  | nil => cases h1
  | cons x ls ih =>
    cases vs with
    | nil => cases h2
    | cons y vs =>
      cases i with
      | zero =>
        simp only [List.getElem?_cons_zero, Option.some.injEq] at h1 h2
        subst h1 h2
        simp [vds, fldD_cons]
      | succ i =>
        simp only [List.getElem?_cons_succ] at h1 h2
        have := ih (by simpa using h) h1 h2
        simp only [vds, fldD_cons, List.take_succ_cons, List.cons_append, List.drop_succ_cons, List.set_cons_succ, this]
theorem loopT_nil {b : D → Sm} {δ : Loc} {S : Sto} : loopM (fun _ => True) b [] δ S = .nx δ S := by rw [loopM, if_pos trivial]
theorem loopT_cons {b : D → Sm} {x : D} {xs : List D} {δ : Loc} {S : Sto} : loopM (fun _ => True) b (x :: xs) δ S = match b x δ S with
    | .nx δ' S' => loopM (fun _ => True) b xs δ' S'
    | .ct δ' S' => loopM (fun _ => True) b xs δ' S'
    | .bk δ' S' => .nx δ' S'
    | r => r := by rw [loopM, if_pos trivial] <;> rfl
end PM

/-! PM, part 25: len(set(texts)) -/
namespace PM
open PySem PySem.Spec L2 PyProof.Rows
/-- how many different ones among the first i -/
def ndist (zs : List Str) : Nat → Nat
  | 0 => 0
  | i + 1 => if (zs.take i).any (· == zs.getD i Str.empty) then ndist zs i else ndist zs i + 1
theorem ndist_le (zs : List Str) : ∀ i, ndist zs i ≤ i
  | 0 => Nat.le_refl _
  | i + 1 => by
    have := ndist_le zs i
    unfold ndist; split <;> omega
def memT (zs : List Str) (i : Nat) : Str → Bool := fun z => (zs.take i).any (· == z)
theorem memT_succ (zs : List Str) {i : Nat} (h : i < zs.length) (z : Str) : (memT zs i z || decide (z = zs.getD i Str.empty)) = memT zs (i + 1) z := by
  have e : zs.take (i + 1) = zs.take i ++ [zs.getD i Str.empty] := by
    rw [List.take_add_one, List.getElem?_eq_getElem h, List.getD_eq_getElem?_getD, List.getElem?_eq_getElem h]; rfl
  unfold memT
  rw [e, List.any_append]
  simp only [List.any_cons, List.any_nil, Bool.or_false]
  congr 1
  by_cases q : z = zs.getD i Str.empty
  · rw [q]; simp
  · rw [decide_eq_false q]
    exact (beq_eq_false_iff_ne.mpr fun e => q e.symm).symm
section
variable {pr : Program} {wd : World} {B : Around} {R : Result → Shared → Prop} {it : Addr} {fp wr : List Addr} {Gn : Array GenState → Array GenState → Prop} {m : Nat} {Pi : Nat → Value → Prop} {Si : Nat → Shared → Prop}
theorem set_loop (W : WalksS pr wd B.in1 it fp wr Gn m Pi Si) {d : Addr} (hd : d ∉ fp) {zs : List Str} (hz : zs.length = m) (hb : m + 1 < scanBound) (hv : ∀ i v, Pi i v → ∃ t, v = .str (zs.getD i Str.empty) t) :
    ∀ (j i : Nat) (u : Shared), i + j = m → Si i u → u.heap.SetOf (PySem.strKind pr wd) d (memT zs i) (ndist zs i) →
      (∀ u', Moved (d :: wr) Gn u u' → u'.heap.SetOf (PySem.strKind pr wd) d (memT zs m) (ndist zs m) → R (.ok (.ret .none)) u') → codeAny (model pr wd) B (.builtin "set.update.loop" ⟨[.ref d, .ref it], []⟩) R u := by
  have nw : d ∉ wr := fun z => hd (W.sub _ z)
  have le : ∀ b ∈ wr, b ∈ d :: wr := fun b z => List.mem_cons_of_mem _ z
  have mv : ∀ {u u' : Shared} {S n}, u.heap.SetOf (PySem.strKind pr wd) d S n → Moved wr Gn u u' → u'.heap.SetOf (PySem.strKind pr wd) d S n := fun k q => let ⟨o, es, ep, t, ho, r⟩ := k; ⟨o, es, ep, t, q.heap d _ nw ho, r⟩
  intro j
  induction j with
  | zero =>
    intro i u hi st k fin
    obtain rfl : i = m := hi
    refine codeAny_builtin PyProof.Rows.F.entry_set_update_loop (by
      rw [Around.under_plainId PyProof.Rows.F.plain_set_update_loop _]
      exact wpAny_bind (W.done u _ _ st fun u' q => wpAny_pure (fin u' (q.mono le) (mv k q))))
  | succ j ih =>
    intro i u hi st k fin
    have lt : i < m := by omega
    refine codeAny_builtin PyProof.Rows.F.entry_set_update_loop ?_
    rw [Around.under_plainId PyProof.Rows.F.plain_set_update_loop _]
    refine wpAny_bind (m := pyNext (.ref it)) (W.item i u _ _ lt st fun v u' hP st' q => ?_)
    obtain ⟨t, rfl⟩ := hv i v hP
    refine wpAny_bind (m := holding [Value.str (zs.getD i Str.empty) t] (setAdd d (.str (zs.getD i Str.empty) t))) (wpAny_holding ?_)
    unfold setAdd
    refine wpAny_holding (wpAny_bind ((PySem.strKind pr wd).pyHash (k := zs.getD i Str.empty) (strKind_is _ _ _ _) ?_))
    have := ndist_le zs i
    refine wpAny_setAddHashed_of (knd := PySem.strKind pr wd) (s := { u' with toks := u'.toks + 1 }) (strKind_is _ _ _ _) rfl (show u'.heap.SetOf _ _ _ _ from mv k q) (by omega) fun h' sb k2 => ?_
    have k3 : h'.SetOf (PySem.strKind pr wd) d (memT zs (i + 1)) (ndist zs (i + 1)) := PyProof.Rows.SetOf_congr k2 (memT_succ zs (by omega)) rfl
    refine wpAny_pure ⟨plainId_quiet PyProof.Rows.F.plain_set_update_loop _, ih (i + 1) _ (by omega) (W.frame _ u' _ _ st' (Nat.le_succ _) fun b z o e => (sb.2 b fun y => hd (y ▸ z)).trans e) k3 fun u'' q2 k4 => fin u'' ?_ k4⟩
    exact Moved.trans W.gtrans ((q.mono le).then_heap (Nat.le_succ _) fun b o z e => (sb.2 b fun y => z (y ▸ List.mem_cons_self)).trans e) q2
end
section
variable {prog : Program} {w : World} {A : Around} {E : Value → Shared → Prop} {s : Shared}
set_option maxHeartbeats 3200000 in
theorem set_of_texts {l : Addr} {its : Array Value} {zs : List Str} {Q : Value → Shared → Prop} (hA : A.handled = none) (hl : s.heap.IsList l its) (hi : StrsAre its.toList zs) (hb : zs.length + 1 < scanBound)
    (fin : ∀ (h' : Heap) (tk : Nat), h'.SetOf (PySem.strKind prog w) s.heap.objs.size (memT zs zs.length) (ndist zs zs.length) → (∀ b o, b < s.heap.objs.size → s.heap.get? b = some o → h'.get? b = some o) → Q (.ref s.heap.objs.size) { s with heap := h', toks := tk }) :
    wpAny (model prog w) A (call (.type "set") [.ref l]) Q E s := by
  have mro := PySem.F.called_set.mro
  obtain ⟨_, _, mro⟩ := mro
  have made := PySem.F.called_set.made
  have sub := PySem.F.called_set.sub
  refine wpAny_call (codeAny_of_tree (show wpAny _ _ (callAny (.type "set") _) _ _ _ from wpAny_pure ⟨Code.quiet_builtin _ (by decide +kernel), codeAny_builtin PySem.F.entry_type_call ?_⟩))
  rw [Around.under_plain (weight_type_call_type "set" [.ref l] []) rfl]
  have nt := PySem.F.called_set.notType
  have cc := PySem.F.called_set.canCreate
  have tc := PySem.F.typeCall_set_1 (.ref l)
  repeat any_goals (first | assumption | wp_step)
  refine codeAny_mono (code_set_new_1 (.ref l) (E := E) (Q₁ := fun ob s1 => ∃ f : Bool, ob = .ref s.heap.objs.size ∧ s1 = { s with heap := s.heap.push { cls := .type "set", dict := none, data := .set #[] 0 (.fresh 0 0 f) } }) fun f => ⟨f, rfl, rfl⟩) fun r s1 hr => ?_
  rcases r with ⟨e⟩ | ⟨fl⟩
  · exact hr
  cases fl
  case ret ob =>
    obtain ⟨f, e1, e2⟩ := hr
    subst e1 e2
    generalize hN : s.heap.push { cls := .type "set", dict := none, data := .set #[] 0 (.fresh 0 0 f) } = N
    have gN : N.get? s.heap.objs.size = some { cls := .type "set", dict := none, data := .set #[] 0 (.fresh 0 0 f) } := by rw [← hN]; exact Heap.get?_push_size _ rfl
    have old : ∀ b o, s.heap.get? b = some o → N.get? b = some o := fun b o e => by rw [← hN]; exact Heap.get?_push_of_some _ e
    have sN : N.objs.size = s.heap.objs.size + 1 := by rw [← hN, Heap.size_push]
    have ty : Shared.TypeIs { s with heap := N } (.ref s.heap.objs.size) "set" := ⟨_, gN, rfl⟩
    have il := PySem.F.called_set.init.lookup
    have ib := PySem.F.called_set.init.bind (.ref s.heap.objs.size)
    repeat any_goals (first | assumption | wp_step)
    refine codeAny_mono (codeAny_call_builtin (R := wants (fun r s2 => r = .none ∧ ∃ h' tk, s2 = { s with heap := h', toks := tk } ∧ h'.SetOf (PySem.strKind prog w) s.heap.objs.size (memT zs zs.length) (ndist zs zs.length) ∧
      (∀ b o, b < s.heap.objs.size → s.heap.get? b = some o → h'.get? b = some o)) E) PySem.F.called_set.init.plain PySem.F.entry_set_init (check_set_init_1 ty ?_)) fun r2 s2 hr2 => ?_
    · obtain ⟨⟨cl, dd, dat, sl⟩, ho, hc, n, hdat⟩ := id hl
      simp only at hc hdat
      subst hc hdat
      have ho2 := old _ _ ho
      have sb1 := PySem.F.sub_list_set
      have sb2 := PySem.F.sub_list_frozenset
      have nd : (Value.type "list" == Value.type "dict") = false := by decide
      have hl2 : N.IsList l its := ⟨_, ho2, rfl, n, rfl⟩
      unfold Builtin.«set.__init__» noKeywords Builtin.Frozenset.updateFrom
      generalize hPI : pyIter = PI
      wp_walk
      subst hPI
      refine wpAny_pyIter_list hl2 (wpAny_bind (wpAny_runValue ?_))
      have lt : l < s.heap.objs.size := Heap.lt_size ho
      have ne : l ≠ N.objs.size := fun e => Nat.ne_of_lt (Nat.lt_succ_of_lt lt) (e.trans sN)
      have hz : zs.length = its.size := by rw [← StrsAre.len_eq hi, Array.length_toList]
      refine set_loop ((Walks.list (by simp [hA]) _ l ne its).toS) (d := s.heap.objs.size) (by simp only [List.mem_cons, List.mem_singleton, List.not_mem_nil, or_false, not_or]; exact ⟨fun e => Nat.ne_of_lt (Nat.lt_succ_self _) (e.trans sN), Nat.ne_of_gt lt⟩) hz (by rw [← hz]; exact hb)
        (fun i v hv => SS.strs_at hi i v (by rw [Array.getElem?_toList]; exact hv)) its.size 0 _ (by omega) ⟨⟨_, Heap.get?_push_size _ rfl, rfl, rfl⟩, hl2.push _⟩ ?beginS ?endS
      case beginS => exact PyProof.Rows.SetOf_congr ((PyProof.Rows.setObjOf_fresh (knd := PySem.strKind prog w) f).setOf (Heap.get?_push_of_some _ gN) (by unfold scanBound; omega)) (fun _ => rfl) rfl
      case endS =>
        intro u mv k
        rw [← hz] at k
        obtain ⟨h', g', d', tk', os'⟩ := u
        have eg : g' = s.gens := mv.gens
        have ed : d' = s.drawn := mv.drawn
        have eo : os' = s.os := mv.os
        subst eg ed eo
        refine wpAny_pure (wpAny_pure ⟨rfl, h', tk', rfl, k, fun b o hb e => mv.heap b o ?_ (Heap.get?_push_of_some _ (old b o e))⟩)
        simp only [List.mem_cons, List.mem_singleton, List.not_mem_nil, or_false, not_or]
        exact ⟨Nat.ne_of_lt hb, fun e => Nat.ne_of_lt (Nat.lt_succ_of_lt hb) (e.trans sN)⟩
    · rcases r2 with ⟨e⟩ | ⟨fl⟩
      · exact hr2
      cases fl
      case ret r =>
        obtain ⟨e1, h', tk, e2, k, old2⟩ := hr2
        subst e1 e2
        repeat any_goals (first | assumption | wp_step)
        exact fin _ _ k old2
      all_goals exact hr2.elim
  all_goals exact hr.elim
end
section
variable {X : Cx}
theorem pe_lenSetT {a : Expr} {ta : TE} {p p2 q pos : Pos} (hc : X.calm = true) (hg : Gl X "len") (hm : X.mg "len" = none) (hg2 : Gl X "set") (hm2 : X.mg "set" = none) (ha : PE X a ta)
    (na : starEach [a] X.env = (false, eval a X.env) :: starEach [] X.env := by rfl) : PE X (.Call (.Name "len" p) [.Call (.Name "set" p2) [a] [] q] [] pos)
      (fun σ H Q => ta σ H fun x H1 => ∃ (l : Addr) (zs : List Str), x = .ref l ∧ SqL X.K H1 l (zs.map V.str) ∧ zs.length ≤ 4000 ∧ Q (.int (ndist zs zs.length : Nat)) H1) := .mk fun pins s σ H Q I h => by
  refine Call_ (ld_blt I hg hm boot_len (PyProof.Rows.callWith_builtin1 (PyProof.Rows.args_cons ?_ rfl) rfl rfl))
  refine Call_ (ld_blt I hg2 hm2 boot_set (PyProof.Rows.callWith_type1 (PyProof.Rows.args_cons (thn (ha.run pins s σ H _ I h) fun v s1 ⟨x, H1, I1, r1, l, zs, e, hq, hl, q1⟩ => PyProof.Rows.args_nil ?_) na) na rfl))
  subst e
  cases r1
  obtain ⟨is, r, pl, hz⟩ := I1.list hq
  refine set_of_texts (I1.ok.hd hc) pl.isList (zs := zs) (by simpa using strsAre_of r) (by unfold scanBound; omega) fun h' tk k old => PyProof.Rows.args_nil ?_
  obtain ⟨o, es, ep, t, ho, hex, hd, _, _, _, hf, hn⟩ := k
  have I2 : Inv X pins σ H1 { s1 with heap := h', toks := tk } := I1.kept fun b o e => old b o (Heap.lt_size e) e
  have := ndist_le zs zs.length
  exact call_len_set ho hex hd hf (by rw [hn]; omega) ⟨.int (ndist zs zs.length : Nat), H1, I2.tok _, ⟨_, by rw [hn]⟩, q1⟩
end
/-- len(set(e)) of texts -/
def mLenSet (a : Em) : Em := fun δ S => (a δ S).bind fun d S1 => match rdL S1 d with
  | some es => match strsOf es with
    | some zs => if zs.length ≤ 4000 then .ok (.int (ndist zs zs.length : Nat)) S1 else .stuck
    | none => .stuck
  | none => .stuck
theorem de_lenSet {X : Cx} {W : WX} {a : Expr} {ma : Em} {p p2 q pos : Pos} (hc : X.calm = true) (hg : Gl X "len") (hm : X.mg "len" = none) (hg2 : Gl X "set") (hm2 : X.mg "set" = none) (ha : DE X W a ma)
    (na : starEach [a] X.env = (false, eval a X.env) :: starEach [] X.env := by rfl) : DE X W (.Call (.Name "len" p) [.Call (.Name "set" p2) [a] [] q] [] pos) (mLenSet ma) :=
  pe_imp (pe_lenSetT hc hg hm hg2 hm2 ha na) fun σ H Q h => t_bind h fun ι S δ d v H1 rp rs rd g => by
    split at g
    · rename_i es hes
      obtain ⟨a, vs, e, hq, h2, z⟩ := rdL_ok rp rd hes
      subst e
      split at g
      · rename_i zs hzs
        split at g
        · rename_i hl
          have ev := strsOf_ok h2 hzs
          subst ev
          exact ⟨a, zs, rfl, hq, hl, g.here rp (by simp only [RD])⟩
        · exact g.elim
      · exact g.elim
    · exact g.elim
end PM

/-! PM, part 26: {i: j} -/
namespace PM
open PySem PySem.Spec L2 PyProof.Rows
section
variable {X : Cx} {W : WX} {pos : Pos}
def mDispI (i j : Int) : Em := fun _ S => .ok (.ref S.length) (S ++ [.dK [.inl i] [.int j]])
@[simp] theorem mDispI_eq {i j : Int} {δ : PM.Loc} {S : Sto} : mDispI i j δ S = .ok (.ref S.length) (S ++ [.dK [.inl i] [.int j]]) := (rfl)
theorem pe_negC {a : Expr} {i : Int} (h : PE X a (tC (.int i))) : PE X (.UnaryOp .USub a pos) (tC (.int (-i))) := pe_imp (pe_un un_neg h) fun σ H Q q => ⟨i, rfl, q⟩
theorem de_dispI {k v : Expr} {i j : Int} (hk : PE X k (tC (.int i))) (hv : PE X v (tC (.int j))) : DE X W (.Dict [some k] [v] pos) (mDispI i j) :=
  pe_imp (pe_disp (pps_cons hk hv pps_nil) rfl rfl (by simp) (by simp)) fun σ H Q ⟨ι, S, δ, rp, rs, g⟩ p hp => by
    have q2 := rep_newRef (m := .dK [.inl i] [.int j]) (u := .dK [(.inl i, .int j)]) rp hp ⟨[.int j], upd_same, rfl, by show 1 ≤ sizeLine; exact Nat.le_trans (by decide) szl, .cons (by simp only [RD]) .nil⟩
    refine ⟨upd_same, [(.inl i, .int j)], rfl, by simp, ?_⟩
    rw [upd_upd]
    exact G.at g (Step.newRef hp) q2.1 q2.2
end
end PM

/-! PM, part 27: things, and what a kind is (plain) -/
namespace PM
open PySem L2
/-- plain things of a depth, of bounded width -/
def th : Nat → D → Bool
  | _, .non => true
  | _, .bl _ => true
  | _, .int _ => true
  | _, .str s => PyData.strOk s && decide (s.length ≤ 1000)
  | n + 1, .tup ds => decide (ds.length ≤ 1000) && ds.all (th n)
  | n + 1, .lst ds => decide (ds.length ≤ 1000) && ds.all (th n)
  | _, _ => false
theorem blsOf_map {α : Type} (f : α → Bool) : ∀ xs : List α, blsOf (xs.map fun x => D.bl (f x)) = some (xs.map f)
  | [] => rfl
  | x :: xs => by simp only [List.map_cons, blsOf, blsOf_map f xs]; rfl
theorem cAll_map {α : Type} {S : Sto} (f : α → Bool) (xs : List α) : cAll [.lst (xs.map fun x => D.bl (f x))] S = .ok (.bl (xs.all f)) S := by
  simp only [cAll, cBls, rdL, asL, blsOf_map, List.all_map]
  rfl
def alphaS : Str := Str.ofString "abcdefghijklmnopqrstuvwxyz"
def azS (s : Str) : Bool := s.cps.toList.all fun c => decide (c ∈ alphaS.cps.toList)
def isWordD : D → Bool
  | .str s => decide (1 ≤ s.length) && (decide (s.length ≤ 8) && azS s)
  | _ => false
theorem opIn_sign {S : Sto} {c : Nat} {z : Str} : opIn (.str ⟨#[c]⟩) (.str z) S = .ok (.bl (decide (c ∈ z.cps.toList))) S := by
  simp only [opIn, inDa]
def isPairD : D → Bool
  | .tup [a, _] => isWordD a
  | _ => false
def isWholeD : D → Bool
  | .int _ => true
  | _ => false
def isRestD : D → Bool
  | .non => true
  | .int i => decide (0 ≤ i)
  | _ => false
def labD : D → Str
  | .tup (.str s :: _) => s
  | _ => Str.empty
def sndD : D → D
  | .tup [_, b] => b
  | _ => .non
/-- rising labels, as told by sorted and set -/
def ascS (ls : List Str) : Bool := decide (ls = sortStr ls) && decide (ndist ls ls.length = ls.length)
def rowIn (f : D → Bool) : D → Bool
  | .tup ps => ps.all isPairD && (ascS (ps.map labD) && ps.all fun p => f (sndD p))
  | _ => false
def blankIn : List D → Bool
  | [.int i] => decide (0 ≤ i)
  | _ => false
def recIn (f : D → Bool) : List D → Bool
  | [fs, r] => isRestD r && rowIn f fs
  | _ => false
def kindIn : Nat → D → Bool
  | n + 1, .tup (.str s :: r) => if s = Str.ofString "number" then r.isEmpty else if s = Str.ofString "blank" then blankIn r else decide (s = Str.ofString "record") && recIn (kindIn n) r
  | _, _ => false
theorem az_iff {s : Str} : azS s = true ↔ ∀ x ∈ s.cps.toList, 97 ≤ x ∧ x < 123 := by
  unfold azS
  rw [List.all_eq_true]
  have : ∀ c, c ∈ alphaS.cps.toList ↔ 97 ≤ c ∧ c < 123 := fun c => by
    rw [show alphaS.cps.toList = List.range' 97 26 from alpha_cps, List.mem_range'_1]
  constructor
  · intro h x hx; exact (this x).mp (of_decide_eq_true (h x hx))
  · intro h x hx; exact decide_eq_true ((this x).mpr (h x hx))
theorem word_lab {s : Str} : isWordD (.str s) = true ↔ IsLab s := by
  simp only [isWordD, Bool.and_eq_true, decide_eq_true_eq, az_iff, IsLab]
  constructor
  · rintro ⟨a, b, c⟩; exact ⟨c, a, b⟩
  · rintro ⟨c, a, b⟩; exact ⟨a, b, c⟩
theorem pair_is {d : D} (h : isPairD d = true) : ∃ s b, d = .tup [.str s, b] ∧ IsLab s := by
  unfold isPairD at h
  split at h
  · rename_i a b
    cases a <;> first
      | (cases h; done)
      | exact ⟨_, b, rfl, word_lab.mp h⟩
  · cases h
theorem eqD_w {S : Sto} {a b : List Str} (ha : WOk a) (hb : WOk b) : eqD S (.lst (a.map .str)) (.lst (b.map .str)) = some (decide (a = b)) := by
  have h1 := tpd_w (S := S) a
  have h2 := tpd_w (S := S) b
  unfold wD at h1 h2
  unfold eqD
  simp only [scalD, h1, h2, sh_w ha, sh_w hb, and_self, if_true, PyData.eqv, eqv_strs]
theorem sort_wok {a : List Str} (h : WOk a) : WOk (sortStr a) := fun x hx => h x ((sortStr_perm a).mem_iff.mp hx)
theorem th_mono : ∀ {n m : Nat} (d : D), n ≤ m → th n d = true → th m d = true
  | n, m, .non, _, _ => by cases m <;> rfl
  | n, m, .bl _, _, _ => by cases m <;> rfl
  | n, m, .int _, _, _ => by cases m <;> rfl
  | n, m, .str _, _, h => by cases n <;> cases m <;> exact h
  | n + 1, m + 1, .tup ds, l, h => by
    simp only [th, Bool.and_eq_true, List.all_eq_true] at h ⊢
    exact ⟨h.1, fun d hd => th_mono d (by omega) (h.2 d hd)⟩
  | n + 1, m + 1, .lst ds, l, h => by
    simp only [th, Bool.and_eq_true, List.all_eq_true] at h ⊢
    exact ⟨h.1, fun d hd => th_mono d (by omega) (h.2 d hd)⟩
  | n + 1, 0, .tup ds, l, h => by omega
  | n + 1, 0, .lst ds, l, h => by omega
  | 0, _, .tup ds, _, h => by cases h
  | 0, _, .lst ds, _, h => by cases h
  | 0, _, .scr ds, _, h => by cases h
  | n + 1, _, .scr ds, _, h => by cases h
  | 0, _, .dct _ _, _, h => by cases h
  | 0, _, .ref _, _, h => by cases h
  | n + 1, _, .dct _ _, _, h => by cases h
  | 0, _, .exn _, _, h => by cases h
  | n + 1, _, .exn _, _, h => by cases h
  | n + 1, _, .ref _, _, h => by cases h
theorem th_pair {n : Nat} {a b : D} (h : th n (.tup [a, b]) = true) : th n a = true ∧ th n b = true := by
  cases n with
  | zero => cases h
  | succ n =>
    simp only [th, List.all_cons, List.all_nil, Bool.and_true, Bool.and_eq_true] at h
    exact ⟨th_mono _ (by omega) h.2.1, th_mono _ (by omega) h.2.2⟩
end PM

/-! PM, part 28: kinds that are kinds; their knots, their blanks (plain) -/
namespace PM
open PySem L2
inductive VK : Nat → K → Prop where
  | num {d} : VK (d + 1) .num
  | blk {d n} : 0 ≤ n → VK (d + 1) (.blk n)
  | rc {d ls ks r} : ls.length = ks.length → ascS ls = true → (∀ l ∈ ls, IsLab l) → (∀ k ∈ ks, VK d k) → (∀ i, r = some i → 0 ≤ i) → VK (d + 1) (.rc ls ks r)
theorem fld_kd {f : D → Bool} {ps : List D} (h1 : ∀ p ∈ ps, isPairD p = true) (h2 : ∀ p ∈ ps, f (sndD p) = true) {n : Nat} (h : ∀ d, f d = true → ∃ k, d = kd k ∧ VK n k) :
    ∃ ks, ps = fldD (ps.map labD) (kds ks) ∧ ks.length = ps.length ∧ (∀ k ∈ ks, VK n k) ∧ ∀ l ∈ ps.map labD, IsLab l := by
  induction ps with
  | nil => exact ⟨[], rfl, rfl, by simp, by simp⟩
  | cons p ps ih =>
    obtain ⟨ks, e, hl, hv, hw⟩ := ih (fun q hq => h1 q (by simp [hq])) (fun q hq => h2 q (by simp [hq]))
    obtain ⟨s, b, e2, hs⟩ := pair_is (h1 p (by simp))
    have h3 := h2 p (by simp)
    subst e2
    obtain ⟨k, ek, vk⟩ := h b h3
    subst ek
    refine ⟨k :: ks, ?_, by simp [hl], ?_, ?_⟩
    · rw [List.map_cons, kds, show labD (.tup [.str s, kd k]) = s from rfl, fldD_cons, ← e]
    · intro x hx
      rcases List.mem_cons.mp hx with hx | hx
      · rw [hx]; exact vk
      · exact hv x hx
    · intro x hx
      rw [List.map_cons] at hx
      rcases List.mem_cons.mp hx with hx | hx
      · rw [hx]; exact hs
      · exact hw x hx
theorem kindIn_kd : ∀ (n : Nat) {d : D}, kindIn n d = true → ∃ k, d = kd k ∧ VK n k := by
  intro n
  induction n with
  | zero => intro d h; cases d <;> cases h
  | succ n ih =>
    intro d h
    have hd : ∃ s r, d = .tup (.str s :: r) := by
      cases d with
      | tup ds =>
        cases ds with
        | nil => cases h
        | cons x r => cases x <;> first
          | (cases h; done)
          | exact ⟨_, r, rfl⟩
      | _ => cases h
    obtain ⟨s, r, e⟩ := hd
    subst e
    · rw [kindIn] at h
      split at h
      · rename_i c
        subst c
        cases r with
        | nil => exact ⟨.num, rfl, .num⟩
        | cons x r => cases h
      · split at h
        · rename_i c
          subst c
          unfold blankIn at h
          split at h
          · rename_i i
            exact ⟨.blk i, rfl, .blk (of_decide_eq_true h)⟩
          · cases h
        · rw [Bool.and_eq_true, decide_eq_true_eq] at h
          obtain ⟨c, h⟩ := h
          subst c
          unfold recIn at h
          split at h
          · rename_i fs rt
            rw [Bool.and_eq_true] at h
            obtain ⟨hr, h⟩ := h
            unfold rowIn at h
            split at h
            · rename_i ps
              rw [Bool.and_eq_true, Bool.and_eq_true] at h
              obtain ⟨h1, h2, h3⟩ := h
              obtain ⟨ks, e, hl, hv, hw⟩ := fld_kd (f := kindIn n) (List.all_eq_true.mp h1) (List.all_eq_true.mp h3) (fun d h => ih h)
              have e2 : ∃ r, rt = rD0 r ∧ ∀ i, r = some i → 0 ≤ i := by
                cases rt <;> first
                  | (cases hr; done)
                  | exact ⟨none, rfl, fun _ h => by cases h⟩
                  | exact ⟨some _, rfl, fun i h => by cases h; exact of_decide_eq_true hr⟩
              obtain ⟨r, e2, h4⟩ := e2
              subst e2
              refine ⟨.rc (ps.map labD) ks r, ?_, .rc (by rw [List.length_map, hl]) h2 hw hv h4⟩
              rw [kd, ← e]
            · cases h
          · cases h
/-! knots -/
mutual
def kn : K → Nat
  | .num => 1
  | .blk _ => 1
  | .rc _ ks _ => 1 + kns ks
def kns : List K → Nat
  | [] => 0
  | k :: ks => kn k + kns ks
end
theorem kns_sum : ∀ ks : List K, kns ks = (ks.map kn).sum
  | [] => rfl
  | k :: ks => by rw [kns, kns_sum ks, List.map_cons, List.sum_cons]
/-! blanks: their numbers, their labels -/
abbrev OL := Option (List Str)
abbrev Mp := List (Int × OL)
def restO (ls : List Str) : Option Int → Mp
  | some i => [(i, some ls)]
  | none => []
mutual
def occ : K → Mp
  | .num => []
  | .blk n => [(n, none)]
  | .rc ls ks r => occs ks ++ restO ls r
def occs : List K → Mp
  | [] => []
  | k :: ks => occ k ++ occs ks
end
def look : Mp → Int → Option OL
  | [], _ => none
  | p :: m, n => if p.1 = n then some p.2 else look m n
def putB (m : Mp) (o : Int × OL) : Mp × Bool := match look m o.1 with
  | none => (m ++ [o], true)
  | some l => (m, decide (l = o.2))
def pa : Mp → Mp → Mp × Bool
  | m, [] => (m, true)
  | m, o :: r => ((pa (putB m o).1 r).1, (putB m o).2 && (pa (putB m o).1 r).2)
theorem pa_app : ∀ (m a b : Mp), pa m (a ++ b) = ((pa (pa m a).1 b).1, (pa m a).2 && (pa (pa m a).1 b).2)
  | m, [], b => by simp [pa]
  | m, o :: a, b => by simp only [List.cons_append, pa, pa_app (putB m o).1 a b, Bool.and_assoc]
def olD : OL → D
  | none => .non
  | some w => wD w
theorem intsOf_map {α : Type} (f : α → Int) : ∀ xs : List α, intsOf (xs.map fun x => D.int (f x)) = some (xs.map f)
  | [] => rfl
  | x :: xs => by simp only [List.map_cons, intsOf, intsOf_map f xs]; rfl
theorem cSum_map {α : Type} {S : Sto} (f : α → Int) (xs : List α) : cSum [.lst (xs.map fun x => D.int (f x))] S = .ok (.int (xs.map f).sum) S := by
  simp only [cSum, rdL, asL, intsOf_map]
theorem fld_zipK {ls : List Str} {ks : List K} (h : ls.length = ks.length) : fldD ls (kds ks) = (ls.zip ks).map fun p => .tup [.str p.1, kd p.2] := by
  rw [fldD, kds_map, List.zipWith_map_right, List.zip, List.map_zipWith]
theorem sum_zip {ls : List Str} {ks : List K} (h : ls.length = ks.length) : ((ls.zip ks).map fun p => ((kn p.2 : Nat) : Int)).sum = (kns ks : Nat) := by
  induction ls generalizing ks with
  | nil => cases ks with
    | nil => rfl
    | cons k ks => cases h
  | cons l ls ih =>
    cases ks with
    | nil => cases h
    | cons k ks =>
      simp only [List.zip_cons_cons, List.map_cons, List.sum_cons, kns, ih (by simpa using h)]
      omega
theorem zip_mem {ls : List Str} {ks : List K} {p : Str × K} (h : p ∈ ls.zip ks) : p.1 ∈ ls ∧ p.2 ∈ ks := by
  obtain ⟨a, b⟩ := p
  exact ⟨(List.of_mem_zip h).1, (List.of_mem_zip h).2⟩
theorem eqD_ol {S : Sto} {a b : OL} (ha : ∀ w, a = some w → WOk w) (hb : ∀ w, b = some w → WOk w) : eqD S (olD a) (olD b) = some (decide (a = b)) := by
  cases a with
  | none =>
    cases b with
    | none => rfl
    | some b =>
      have h2 := tpd_w (S := S) b
      unfold wD at h2
      have h1 : tpd S .non = some .none := rfl
      unfold eqD
      simp only [olD, wD, scalD, h1, h2, sh_w (hb b rfl), show SeqAt.shaped PyData.none = true from by decide, and_self, if_true, PyData.eqv]
      simp
  | some a =>
    cases b with
    | none =>
      have h2 := tpd_w (S := S) a
      unfold wD at h2
      have h1 : tpd S .non = some .none := rfl
      unfold eqD
      simp only [olD, wD, scalD, h1, h2, sh_w (ha a rfl), show SeqAt.shaped PyData.none = true from by decide, and_self, if_true, PyData.eqv]
      simp
    | some b =>
      have := eqD_w (S := S) (ha a rfl) (hb b rfl)
      simp only [olD, wD, this, Option.some.injEq]
def mpO (m : Mp) : MO := .dK (m.map fun p => .inl p.1) (m.map fun p => olD p.2)
def MpOk (m : Mp) : Prop := ∀ p ∈ m, ∀ w, p.2 = some w → WOk w
theorem getK_look : ∀ (m : Mp) (n : Int), getK (m.map fun p => (Sum.inl p.1 : Key)) (m.map fun p => olD p.2) (.inl n) = (look m n).map olD
  | [], n => rfl
  | p :: m, n => by
    simp only [List.map_cons, getK, look, Sum.inl.injEq]
    split
    · rfl
    · exact getK_look m n
theorem look_mem : ∀ {m : Mp} {n : Int} {l : OL}, look m n = some l → (n, l) ∈ m
  | p :: m, n, l, h => by
    simp only [look] at h
    split at h
    · rename_i e
      cases h
      rw [← e]; simp
    · simp [look_mem h]
theorem look_none : ∀ {m : Mp} {n : Int}, look m n = none → (Sum.inl n : Key) ∉ m.map fun p => (Sum.inl p.1 : Key)
  | [], _, _ => by simp
  | p :: m, n, h => by
    simp only [look] at h
    split at h
    · cases h
    · rename_i e
      simp only [List.map_cons, List.mem_cons, Sum.inl.injEq, not_or]
      exact ⟨fun q => e q.symm, look_none h⟩
section
variable {S : Sto} {q : Nat} {m : Mp} {n : Int}
theorem dget_int {ks : List Key} {ds : List D} (h : S[q]? = some (.dK ks ds)) : dget S (.ref q) (.int n) = some (getK ks ds (.inl n)) := by
  simp only [dget, dkOf, h, keyOf]
theorem opNotIn_mp (h : S[q]? = some (mpO m)) : opNotIn (.int n) (.ref q) S = .ok (.bl (!(look m n).isSome)) S := by
  simp only [opNotIn, inDa, dget_int h, getK_look, Option.isSome_map]
theorem opIx_mp {l : OL} (h : S[q]? = some (mpO m)) (hl : look m n = some l) : opIx (.ref q) (.int n) S = .ok (olD l) S := by
  simp only [opIx, dget_int h, getK_look, hl, Option.map_some]
theorem opSet_mp {l : OL} (h : S[q]? = some (mpO m)) (hl : look m n = none) (hm : m.length < sizeLine) : opSet (.ref q) (.int n) (olD l) S = .ok () (S.set q (mpO (m ++ [(n, l)]))) := by
  have hn := look_none hl
  have h' : S[q]? = some (.dK (m.map fun p => .inl p.1) (m.map fun p => olD p.2)) := h
  simp only [opSet, h', keyOf, List.length_map, if_pos hm, insK_new hn, insD_new hn]
  simp only [mpO, List.map_append, List.map_cons, List.map_nil]
end
theorem putB_ok {m : Mp} {o : Int × OL} (h : MpOk m) (ho : ∀ w, o.2 = some w → WOk w) : MpOk (putB m o).1 := by
  unfold putB
  split
  · intro p hp
    rcases List.mem_append.mp hp with hp | hp
    · exact h p hp
    · rw [List.mem_singleton.mp hp]; exact ho
  · exact h
theorem putB_len (m : Mp) (o : Int × OL) : (putB m o).1.length ≤ m.length + 1 := by
  unfold putB; split <;> simp
theorem pa_ok : ∀ {r m : Mp}, MpOk m → MpOk r → MpOk (pa m r).1
  | [], m, h, _ => h
  | o :: r, m, h, hr => by
    rw [pa]
    exact pa_ok (r := r) (putB_ok h (hr o (by simp))) fun p hp => hr p (by simp [hp])
theorem pa_len : ∀ (r m : Mp), (pa m r).1.length ≤ m.length + r.length
  | [], m => Nat.le_refl _
  | o :: r, m => by
    have h1 := pa_len r (putB m o).1
    have h2 := putB_len m o
    simp only [pa, List.length_cons]; omega
mutual
theorem occ_len : ∀ k : K, (occ k).length ≤ kn k
  | .num => by simp [occ]
  | .blk _ => by simp [occ, kn]
  | .rc ls ks r => by
    have := occs_len ks
    simp only [occ, kn, List.length_append]
    cases r <;> simp [restO] <;> omega
theorem occs_len : ∀ ks : List K, (occs ks).length ≤ kns ks
  | [] => by simp [occs]
  | k :: ks => by
    have := occ_len k
    have := occs_len ks
    simp only [occs, kns, List.length_append]; omega
end
theorem mpOk_app {a b : Mp} (h : MpOk a) (g : MpOk b) : MpOk (a ++ b) := fun p hp => by
  rcases List.mem_append.mp hp with hp | hp
  · exact h p hp
  · exact g p hp
theorem occ_ok : ∀ (n : Nat) {k : K}, VK n k → MpOk (occ k) := by
  intro n
  induction n with
  | zero => intro k h; cases h
  | succ n ih =>
    intro k h
    cases h with
    | num => intro p hp; simp [occ] at hp
    | blk h => intro p hp w hw; simp only [occ, List.mem_singleton] at hp; subst hp; cases hw
    | rc h1 h2 h3 h4 h5 =>
      rename_i ls ks r
      rw [occ]
      refine mpOk_app ?_ ?_
      · clear h1
        induction ks with
        | nil => intro p hp; simp [occs] at hp
        | cons k ks ih2 => rw [occs]; exact mpOk_app (ih (h4 k (by simp))) (ih2 fun x hx => h4 x (by simp [hx]))
      · cases r with
        | none => intro p hp; simp [restO] at hp
        | some i =>
          intro p hp w hw
          simp only [restO, List.mem_singleton] at hp
          subst hp
          cases hw
          exact h3
theorem occs_ok {n : Nat} : ∀ {ks : List K}, (∀ k ∈ ks, VK n k) → MpOk (occs ks)
  | [], _ => fun p hp => by simp [occs] at hp
  | k :: ks, h => by rw [occs]; exact mpOk_app (occ_ok n (h k (by simp))) (occs_ok fun x hx => h x (by simp [hx]))
end PM

/-! PM, part 29: the dict of what was seen -/
namespace PM
open PySem L2
section
variable {κ : Type} [DecidableEq κ]
theorem getK_app {k j : κ} {d : D} : ∀ {ks : List κ} {ds : List D}, ks.length = ds.length → getK (ks ++ [k]) (ds ++ [d]) j = match getK ks ds j with
    | some e => some e
    | none => if k = j then some d else none
  | [], [], _ => by simp only [List.nil_append, getK]
  | x :: ks, y :: ds, h => by
    simp only [List.cons_append, getK]
    by_cases c : x = j
    · simp only [if_pos c]
    · simp only [if_neg c]; exact getK_app (by simpa using h)
theorem getK_none {j : κ} : ∀ {ks : List κ} {ds : List D}, j ∉ ks → getK ks ds j = none
  | [], _, _ => rfl
  | x :: ks, [], _ => rfl
  | x :: ks, y :: ds, h => by
    have : ¬ x = j := fun e => h (by simp [e])
    simp only [getK, if_neg this]
    exact getK_none fun q => h (by simp [q])
theorem getK_upd {k j : κ} {d : D} : ∀ {ks : List κ} {ds : List D}, ks.length = ds.length → k ∈ ks → getK ks (List.zipWith (fun i x => if i = k then d else x) ks ds) j = if k = j then some d else getK ks ds j
  | x :: ks, y :: ds, h, hk => by
    simp only [List.zipWith_cons_cons, getK]
    by_cases c : x = j
    · subst c
      by_cases c2 : x = k
      · simp [c2]
      · have : ¬ k = x := fun e => c2 e.symm
        simp [c2, this]
    · simp only [if_neg c]
      by_cases c2 : k ∈ ks
      · exact getK_upd (by simpa using h) c2
      · have e : k = x := by
          rcases List.mem_cons.mp hk with e | e
          · exact e
          · exact absurd e c2
        have hz : List.zipWith (fun i x => if i = k then d else x) ks ds = ds := by
          have hl : ks.length = ds.length := by simpa using h
          clear h hk
          induction ks generalizing ds with
          | nil => cases ds with
            | nil => rfl
            | cons y ds => cases hl
          | cons z ks ih =>
            cases ds with
            | nil => cases hl
            | cons y ds =>
              have : ¬ z = k := fun q => c2 (by simp [q])
              simp only [List.zipWith_cons_cons, if_neg this]
              rw [ih ds (fun q => c2 (by simp [q])) (by simpa using hl)]
        rw [hz]
        have : ¬ k = j := by rw [e]; exact c
        rw [if_neg this]
theorem getK_ins {k j : κ} {d : D} {ks : List κ} {ds : List D} (h : ks.length = ds.length) : getK (insK ks k) (insD ks ds k d) j = if k = j then some d else getK ks ds j := by
  unfold insK insD
  by_cases c : k ∈ ks
  · rw [if_pos c, if_pos c]; exact getK_upd h c
  · rw [if_neg c, if_neg c, getK_app h]
    by_cases e : k = j
    · subst e; rw [getK_none c]
    · rw [if_neg e, if_neg e]; cases getK ks ds j <;> rfl
theorem ins_len {k : κ} {d : D} {ks : List κ} {ds : List D} (h : ks.length = ds.length) : (insK ks k).length = (insD ks ds k d).length := by
  unfold insK insD
  split <;> simp [h]
end
/-- what stands for labels in the dict: no list that may still change (B) -/
def OLs (S : Sto) (B : Nat → Prop) : OL → D → Prop
  | none, d => d = .non
  | some w, d => ∃ i, d = .ref i ∧ ¬ B i ∧ S[i]? = some (.lst (w.map .str))
structure SR (S : Sto) (q : Nat) (B : Nat → Prop) (m : Mp) (c : Nat) : Prop where
  ok : MpOk m
  bq : B q
  dict : ∃ ks vs, S[q]? = some (.dK ks vs) ∧ ks.length = vs.length ∧ ks.length ≤ m.length + 1 ∧ getK ks vs (.inl (-1)) = some (.int c) ∧
    (∀ n : Int, 0 ≤ n → look m n = none → getK ks vs (.inl n) = none) ∧ ∀ (n : Int) l, 0 ≤ n → look m n = some l → ∃ d, getK ks vs (.inl n) = some d ∧ OLs S B l d
/-- all but B stays -/
structure Fq (S T : Sto) (B : Nat → Prop) : Prop where
  len : S.length ≤ T.length
  old : ∀ i, i < S.length → ¬ B i → T[i]? = S[i]?
theorem Fq.refl {S : Sto} {B : Nat → Prop} : Fq S S B := ⟨Nat.le_refl _, fun _ _ _ => rfl⟩
theorem Fq.trans {S T U : Sto} {B : Nat → Prop} (a : Fq S T B) (b : Fq T U B) : Fq S U B := ⟨Nat.le_trans a.len b.len, fun i h n => (b.old i (Nat.lt_of_lt_of_le h a.len) n).trans (a.old i h n)⟩
theorem Fq.mono {S T : Sto} {B B' : Nat → Prop} (h : Fq S T B) (g : ∀ i, B i → B' i) : Fq S T B' := ⟨h.len, fun i hi n => h.old i hi fun b => n (g i b)⟩
/-- what is new may be counted among B or not -/
theorem Fq.drop {S T : Sto} {B B' : Nat → Prop} (h : Fq S T B) (g : ∀ i, i < S.length → B i → B' i) : Fq S T B' := ⟨h.len, fun i hi n => h.old i hi fun b => n (g i hi b)⟩
theorem Fq.set {S : Sto} {q : Nat} {B : Nat → Prop} {o : MO} (h : B q) : Fq S (S.set q o) B := ⟨by simp, fun i _ n => by
  have : q ≠ i := fun e => n (by rw [← e]; exact h)
  rw [List.getElem?_set_ne this]⟩
theorem Fq.snoc {S : Sto} {B : Nat → Prop} {o : MO} : Fq S (S ++ [o]) B := ⟨by simp, fun i h _ => by rw [List.getElem?_append_left h]⟩
theorem OLs.keep {S T : Sto} {B : Nat → Prop} {l : OL} {d : D} (h : OLs S B l d) (f : Fq S T B) : OLs T B l d := by
  cases l with
  | none => exact h
  | some w =>
    obtain ⟨i, e, n, hi⟩ := h
    exact ⟨i, e, n, by rw [f.old i (List.getElem?_eq_some_iff.mp hi).1 n]; exact hi⟩
theorem SR.keep {S T : Sto} {q : Nat} {B : Nat → Prop} {m : Mp} {c : Nat} (h : SR S q B m c) (f : Fq S T B) (e : T[q]? = S[q]?) : SR T q B m c := by
  obtain ⟨ok, bq, ks, vs, h1, h2, h3, h4, h5, h6⟩ := h
  exact ⟨ok, bq, ks, vs, e.trans h1, h2, h3, h4, h5, fun n l hn hl => let ⟨d, g, o⟩ := h6 n l hn hl; ⟨d, g, o.keep f⟩⟩
/-- other B that agree on what stands -/
theorem SR.other {S : Sto} {q : Nat} {B B' : Nat → Prop} {m : Mp} {c : Nat} (h : SR S q B m c) (bq' : B' q) (g : ∀ i, i < S.length → B' i → B i) : SR S q B' m c := by
  obtain ⟨ok, bq, ks, vs, h1, h2, h3, h4, h5, h6⟩ := h
  refine ⟨ok, bq', ks, vs, h1, h2, h3, h4, h5, fun n l hn hl => ?_⟩
  obtain ⟨d, gd, o⟩ := h6 n l hn hl
  refine ⟨d, gd, ?_⟩
  cases l with
  | none => exact o
  | some w =>
    obtain ⟨i, e, nb, hi⟩ := o
    exact ⟨i, e, fun b => nb (g i (List.getElem?_eq_some_iff.mp hi).1 b), hi⟩
theorem eqD_ols {S : Sto} {B : Nat → Prop} {a b : OL} {d e : D} (ha : OLs S B a d) (hb : OLs S B b e) (wa : ∀ w, a = some w → WOk w) (wb : ∀ w, b = some w → WOk w) : eqD S d e = some (decide (a = b)) := by
  have tr : ∀ {i : Nat} {w : List Str}, S[i]? = some (.lst (w.map .str)) → tpd S (.ref i) = some (.list (w.map .str)) := fun h => by simp only [tpd, tp, h, tpk, tps_strs]; rfl
  have tn : tpd S .non = some .none := rfl
  have sn : SeqAt.shaped PyData.none = true := by decide
  cases a with
  | none =>
    obtain rfl : d = .non := ha
    cases b with
    | none => obtain rfl : e = .non := hb; rfl
    | some b =>
      obtain ⟨i, e1, n, hi⟩ := hb
      subst e1
      unfold eqD
      simp only [scalD, tn, tr hi, sn, sh_w (wb b rfl), and_self, if_true, PyData.eqv]
      simp
  | some a =>
    obtain ⟨i, e1, n, hi⟩ := ha
    subst e1
    cases b with
    | none =>
      obtain rfl : e = .non := hb
      unfold eqD
      simp only [scalD, tn, tr hi, sn, sh_w (wa a rfl), and_self, if_true, PyData.eqv]
      simp
    | some b =>
      obtain ⟨j, e2, n2, hj⟩ := hb
      subst e2
      unfold eqD
      simp only [scalD, tr hi, tr hj, sh_w (wa a rfl), sh_w (wb b rfl), and_self, if_true, PyData.eqv, eqv_strs, Option.some.injEq]
def numD : D → Bool
  | .int i => decide (0 ≤ i)
  | _ => false
theorem look_app {n : Int} {l : OL} : ∀ {m : Mp}, look m n = none → ∀ j, look (m ++ [(n, l)]) j = if n = j then some l else look m j
  | [], _, j => by simp [look]
  | p :: m, hk, j => by
    simp only [look] at hk
    split at hk
    · cases hk
    · rename_i e
      simp only [List.cons_append, look]
      by_cases e2 : p.1 = j
      · rw [if_pos e2, if_pos e2, if_neg (fun q => e (by rw [e2, q]))]
      · rw [if_neg e2, if_neg e2]; exact look_app hk j
end PM

/-! PM, part 30: what the law's look at a thing finds (plain) -/
namespace PM
open PySem PySem.Spec L2
/-- does s stand behind the last of lw? -/
def asc1 (lw : List Str) (s : Str) : Bool := match lw.getLast? with
  | none => true
  | some x => decide (x.cps.toList < s.cps.toList)
abbrev MC := Mp × Nat
def putC (m : MC) (o : Int × OL) : Option MC := if (putB m.1 o).2 = true then some ((putB m.1 o).1, m.2) else none
/-- the pairs of a row, one by one -/
def goodPs (f : MC → D → Option MC) : MC → List Str → List D → Option (MC × List Str)
  | m, lw, [] => some (m, lw)
  | m, lw, p :: ps => match p with
    | .tup [.str s, b] => if isWordD (.str s) = true ∧ asc1 lw s = true then (match f m b with
      | some m' => goodPs f m' (lw ++ [s]) ps
      | none => none) else none
    | _ => none
def goodB (m : MC) : List D → Option MC
  | [.int i] => if 0 ≤ i then putC m (i, none) else none
  | _ => none
def goodT (m : MC) (lw : List Str) : D → Option MC
  | .non => some m
  | .int i => if 0 ≤ i then putC m (i, some lw) else none
  | _ => none
def goodR (f : MC → D → Option MC) (m : MC) : List D → Option MC
  | [.tup ps, rt] => match goodPs f m [] ps with
    | some (m', lw) => goodT m' lw rt
    | none => none
  | _ => none
def goodD : Nat → MC → D → Option MC
  | n + 1, m, .tup (.str s :: r) => if s = Str.ofString "number" then (if r.isEmpty = true then some (m.1, m.2 + 1) else none)
    else if s = Str.ofString "blank" then goodB (m.1, m.2 + 1) r
    else if s = Str.ofString "record" then goodR (goodD n) (m.1, m.2 + 1) r else none
  | _, _, _ => none
theorem ltC_iff : ∀ a b : List Nat, ltCps a b = decide (a < b)
  | [], [] => by simp [ltCps]
  | [], y :: b => by simp [ltCps]
  | x :: a, [] => by simp [ltCps]
  | x :: a, y :: b => by
    simp only [ltCps, ltC_iff a b]
    rw [Bool.eq_iff_iff]
    simp only [Bool.or_eq_true, Bool.and_eq_true, decide_eq_true_eq, beq_iff_eq, List.cons_lt_cons_iff]
/-- rising, one by one -/
def chain : List Str → List Str → Bool
  | _, [] => true
  | lw, s :: r => asc1 lw s && chain (lw ++ [s]) r
def ltS (a b : Str) : Prop := ltCps a.cps.toList b.cps.toList = true
theorem asc1_some {lw : List Str} {x s : Str} (h : lw.getLast? = some x) : asc1 lw s = true ↔ ltS x s := by
  unfold asc1 ltS; rw [h, ltC_iff]
theorem ltS_trans {a b c : Str} (h1 : ltS a b) (h2 : ltS b c) : ltS a c := by
  unfold ltS at *
  cases h : ltCps a.cps.toList c.cps.toList with
  | true => rfl
  | false =>
    cases h3 : ltCps c.cps.toList a.cps.toList with
    | true =>
      rcases lt_cot a.cps.toList b.cps.toList c.cps.toList h3 with h4 | h4
      · rw [lt_asym _ _ h2] at h4; cases h4
      · rw [lt_asym _ _ h1] at h4; cases h4
    | false =>
      have e := lt_tri _ _ h h3
      rw [e] at h1
      rw [lt_asym _ _ h1] at h2; cases h2
theorem chain_iff : ∀ {ls lw : List Str}, chain lw ls = true ↔ (ls.Pairwise ltS ∧ ∀ x, lw.getLast? = some x → ∀ s ∈ ls, ltS x s)
  | [], lw => by simp [chain]
  | s :: r, lw => by
    have hl : (lw ++ [s]).getLast? = some s := by simp
    rw [chain, Bool.and_eq_true, chain_iff (ls := r), List.pairwise_cons]
    constructor
    · rintro ⟨h1, h2, h3⟩
      have h4 := h3 s hl
      refine ⟨⟨h4, h2⟩, fun x hx y hy => ?_⟩
      have h5 := (asc1_some hx).mp h1
      rcases List.mem_cons.mp hy with e | hy
      · rw [e]; exact h5
      · exact ltS_trans h5 (h4 y hy)
    · rintro ⟨⟨h4, h2⟩, h3⟩
      refine ⟨?_, h2, fun x hx y hy => ?_⟩
      · cases hg : lw.getLast? with
        | none => unfold asc1; rw [hg]
        | some x => exact (asc1_some hg).mpr (h3 x hg s (by simp))
      · rw [hl] at hx; cases hx; exact h4 y hy
theorem ndist_iff (zs : List Str) : ∀ i, i ≤ zs.length → (ndist zs i = i ↔ (zs.take i).Nodup)
  | 0, _ => by simp [ndist]
  | i + 1, h => by
    have ih := ndist_iff zs i (by omega)
    have hl := ndist_le zs i
    have e : zs.take (i + 1) = zs.take i ++ [zs.getD i Str.empty] := by
      rw [List.take_add_one, List.getElem?_eq_getElem (by omega), List.getD_eq_getElem?_getD, List.getElem?_eq_getElem (by omega)]; rfl
    rw [e, List.nodup_append]
    unfold ndist
    by_cases c : (zs.take i).any (· == zs.getD i Str.empty) = true
    · rw [if_pos c]
      constructor
      · intro q; omega
      · rintro ⟨_, _, q⟩
        rw [List.any_eq_true] at c
        obtain ⟨x, hx, e⟩ := c
        exact absurd (beq_iff_eq.mp e) (q x hx _ (by simp))
    · rw [if_neg c]
      constructor
      · intro q
        refine ⟨ih.mp (by omega), by simp, fun a ha b hb e => ?_⟩
        rw [List.mem_singleton.mp hb] at e
        exact c (List.any_eq_true.mpr ⟨a, ha, beq_iff_eq.mpr e⟩)
      · rintro ⟨q, _⟩
        have := ih.mpr q
        omega
theorem ltS_le {a b : Str} : ltS a b ↔ (leS a b = true ∧ a ≠ b) := by
  unfold ltS leS
  constructor
  · intro h
    refine ⟨by rw [lt_asym _ _ h]; rfl, fun e => ?_⟩
    subst e
    rw [lt_irr] at h; cases h
  · rintro ⟨h, n⟩
    simp only [Bool.not_eq_true'] at h
    cases c : ltCps a.cps.toList b.cps.toList with
    | true => rfl
    | false => exact absurd (str_ext (lt_tri _ _ c h)) n
theorem ascS_iff {ls : List Str} : ascS ls = true ↔ ls.Pairwise ltS := by
  unfold ascS
  rw [Bool.and_eq_true, decide_eq_true_eq, decide_eq_true_eq, ndist_iff ls ls.length (Nat.le_refl _), List.take_length]
  constructor
  · rintro ⟨h, n⟩
    have hs := sortStr_sorted ls
    rw [← h] at hs
    exact (List.pairwise_and_iff.mpr ⟨hs, n⟩).imp fun h => ltS_le.mpr h
  · intro h
    have h1 : ls.Pairwise (fun a b => leS a b = true) := h.imp fun q => (ltS_le.mp q).1
    have h2 : ls.Nodup := h.imp fun q => (ltS_le.mp q).2
    exact ⟨sorted_uniq (sortStr_perm ls).symm h1 (sortStr_sorted ls), h2⟩
theorem chain_asc {ls : List Str} : chain [] ls = ascS ls := by
  rw [Bool.eq_iff_iff, ascS_iff, chain_iff]
  simp
end PM

/-! PM, part 31: the look finds what kindIn and pa find (plain) -/
namespace PM
open PySem PySem.Spec L2
def okC (m : MC) (o : Mp) (c : Nat) : Option MC := if (pa m.1 o).2 = true then some ((pa m.1 o).1, m.2 + c) else none
theorem goodPs_yes {f : MC → D → Option MC} : ∀ {ls : List Str} {ks : List K} {m : MC} {lw : List Str}, ls.length = ks.length → (∀ l ∈ ls, IsLab l) → chain lw ls = true → (∀ k ∈ ks, ∀ m, f m (kd k) = okC m (occ k) (kn k)) →
    goodPs f m lw (fldD ls (kds ks)) = if (pa m.1 (occs ks)).2 = true then some (((pa m.1 (occs ks)).1, m.2 + kns ks), lw ++ ls) else none
  | [], [], m, lw, _, _, _, _ => by
    rw [show fldD [] (kds []) = [] from rfl, goodPs, occs, pa, kns, if_pos rfl, Nat.add_zero, List.append_nil]
  | l :: ls, k :: ks, m, lw, h, hl, hc, hf => by
    rw [chain, Bool.and_eq_true] at hc
    rw [kds, fldD_cons, goodPs, if_pos ⟨word_lab.mpr (hl l (by simp)), hc.1⟩, hf k (by simp) m, occs, pa_app, kns]
    unfold okC
    cases c1 : (pa m.1 (occ k)).2 with
    | false => simp
    | true =>
      simp only [if_true, Bool.true_and]
      rw [goodPs_yes (show ls.length = ks.length by simpa using h) (fun x hx => hl x (by simp [hx])) hc.2 fun k hk => hf k (by simp [hk])]
      simp only [List.append_assoc, List.singleton_append, Nat.add_assoc]
theorem goodPs_no {n : Nat} {f : MC → D → Option MC} (hn : ∀ d m, kindIn n d = false → f m d = none) : ∀ {ps : List D} {m : MC} {lw : List Str} {r : MC × List Str}, goodPs f m lw ps = some r →
    (∀ p ∈ ps, isPairD p = true) ∧ chain lw (ps.map labD) = true ∧ ∀ p ∈ ps, kindIn n (sndD p) = true
  | [], _, _, _, _ => ⟨by simp, rfl, by simp⟩
  | p :: ps, m, lw, r, h => by
    unfold goodPs at h
    split at h
    · rename_i s b
      split at h
      · rename_i hc
        split at h
        · rename_i m' hm
          obtain ⟨h1, h2, h3⟩ := goodPs_no hn h
          have hk : kindIn n b = true := by
            cases c : kindIn n b with
            | true => rfl
            | false => rw [hn b m c] at hm; cases hm
          refine ⟨fun q hq => ?_, ?_, fun q hq => ?_⟩
          · rcases List.mem_cons.mp hq with e | hq
            · subst e; exact hc.1
            · exact h1 q hq
          · rw [List.map_cons, chain, Bool.and_eq_true]; exact ⟨hc.2, h2⟩
          · rcases List.mem_cons.mp hq with e | hq
            · subst e; exact hk
            · exact h3 q hq
        · cases h
      · cases h
    · cases h
theorem goodD_no : ∀ (n : Nat) (d : D) (m : MC), kindIn n d = false → goodD n m d = none := by
  intro n
  induction n with
  | zero => intro d m _; unfold goodD; rfl
  | succ n ih =>
    intro d m h
    cases hg : goodD (n + 1) m d with
    | none => rfl
    | some r =>
      exfalso
      have hd : ∃ s r, d = .tup (.str s :: r) := by
        cases d with
        | tup ds =>
          cases ds with
          | nil => cases hg
          | cons x r => cases x <;> first
            | (cases hg; done)
            | exact ⟨_, r, rfl⟩
        | _ => cases hg
      obtain ⟨s, r, e⟩ := hd
      subst e
      rw [goodD] at hg
      rw [kindIn] at h
      split at hg
      · rename_i c
        rw [if_pos c] at h
        split at hg
        · rename_i c2; rw [c2] at h; cases h
        · cases hg
      · rename_i c
        rw [if_neg c] at h
        split at hg
        · rename_i c2
          rw [if_pos c2] at h
          unfold goodB at hg
          split at hg
          · split at hg
            · rename_i i hi
              simp only [blankIn] at h
              rw [decide_eq_true hi] at h; cases h
            · cases hg
          · cases hg
        · rename_i c2
          rw [if_neg c2] at h
          split at hg
          · rename_i c3
            rw [decide_eq_true c3, Bool.true_and] at h
            unfold goodR at hg
            split at hg
            · rename_i ps rt
              split at hg
              · rename_i m' lw hp
                obtain ⟨h1, h2, h3⟩ := goodPs_no (n := n) (fun d m => ih d m) hp
                have hr : isRestD rt = true := by
                  unfold goodT at hg
                  split at hg
                  · rfl
                  · split at hg
                    · rename_i i hi; exact decide_eq_true hi
                    · cases hg
                  · cases hg
                simp only [recIn, rowIn, hr, Bool.true_and] at h
                rw [chain_asc] at h2
                rw [List.all_eq_true.mpr h1, h2, List.all_eq_true.mpr h3] at h
                cases h
              · cases hg
            · cases hg
          · cases hg
theorem goodD_yes : ∀ (n : Nat) {k : K} (m : MC), VK n k → goodD n m (kd k) = okC m (occ k) (kn k) := by
  intro n
  induction n with
  | zero => intro k m h; cases h
  | succ n ih =>
    intro k m h
    have n1 : ¬ Str.ofString "blank" = Str.ofString "number" := by simp
    have n2 : ¬ Str.ofString "record" = Str.ofString "number" := by simp
    have n3 : ¬ Str.ofString "record" = Str.ofString "blank" := by simp
    cases h with
    | num => simp only [kd, goodD, if_pos, List.isEmpty_nil, okC, occ, pa, kn]
    | blk h =>
      rename_i i
      simp only [kd, goodD, if_neg n1, if_pos, goodB, if_pos h, putC, okC, occ, pa, kn, Bool.and_true]
    | rc h1 h2 h3 h4 h5 =>
      rename_i ls ks r
      rw [kd, goodD, if_neg n2, if_neg n3, if_pos rfl, goodR, goodPs_yes h1 h3 (by rw [chain_asc]; exact h2) (fun k hk m => ih m (h4 k hk))]
      unfold okC
      rw [occ, pa_app]
      simp only [List.nil_append, kn]
      cases c1 : (pa m.1 (occs ks)).2 with
      | false => simp
      | true =>
        cases r with
        | none => simp [goodT, rD0, restO, pa, Nat.add_assoc]
        | some i =>
          have hi := h5 i rfl
          simp [goodT, rD0, restO, pa, hi, putC, Nat.add_assoc]
mutual
def sz : D → Nat
  | .tup ds => 1 + szs ds
  | .lst ds => 1 + szs ds
  | _ => 1
def szs : List D → Nat
  | [] => 0
  | d :: ds => sz d + szs ds
end
theorem eqD_ref_nil {S : Sto} {f : Nat} {w : List Str} (h : S[f]? = some (.lst (w.map .str))) (hw : WOk w) : eqD S (.ref f) (.lst []) = some (decide (w = [])) := by
  have h1 : tpd S (.ref f) = some (.list (w.map .str)) := by simp only [tpd, tp, h, tpk, tps_strs]; rfl
  have h2 := tpd_w (S := S) []
  unfold wD at h2
  simp only [List.map_nil] at h2
  unfold eqD
  simp only [scalD, h1, h2, sh_w hw, show SeqAt.shaped (.list []) = true from by decide, and_self, if_true, PyData.eqv]
  have := eqv_strs w []
  simp only [List.map_nil] at this
  rw [this]
theorem opIx_last {S : Sto} {f : Nat} {w : List Str} {x : Str} (h : S[f]? = some (.lst (w.map .str))) (hx : w.getLast? = some x) : opIx (.ref f) (.int (-1)) S = .ok (.str x) S := by
  have hne : 0 < w.length := by
    cases w with
    | nil => cases hx
    | cons a w => simp
  rw [opIx_ref h]
  have : atI (w.map D.str) (-1) = some (.str x) := by
    unfold atI ixN
    rw [if_neg (by omega), if_pos (by rw [List.length_map]; omega)]
    rw [List.getLast?_eq_getElem?] at hx
    simp only [Option.bind_some, List.length_map, List.getElem?_map]
    rw [show (-1 + (w.length : Int)).toNat = w.length - 1 by omega, hx]; rfl
  rw [this]; rfl
theorem sr_inc {S : Sto} {q : Nat} {B : Nat → Prop} {m : Mp} {c : Nat} (h : SR S q B m c) (hz : m.length < 200000) :
    opIx (.ref q) (.int (-1)) S = .ok (.int c) S ∧ ∃ S1, opSet (.ref q) (.int (-1)) (.int ((c : Int) + 1)) S = .ok () S1 ∧ SR S1 q B m (c + 1) ∧ Fq S S1 (· = q) := by
  obtain ⟨ok, bq, ks, vs, h1, h2, h3, h4, h5, h6⟩ := h
  have hl : ks.length < sizeLine := Nat.lt_of_lt_of_le (by omega) szl
  have hm : (Sum.inl (-1) : Key) ∈ ks := by
    by_cases q : (Sum.inl (-1) : Key) ∈ ks
    · exact q
    · rw [getK_none q] at h4; cases h4
  refine ⟨by simp only [opIx, dget_int h1, h4], S.set q (.dK (insK ks (.inl (-1))) (insD ks vs (.inl (-1)) (.int ((c : Int) + 1)))), by simp only [opSet, h1, keyOf, if_pos hl], ⟨ok, bq, _, _, sto_set h1, ins_len h2, ?_, ?_, ?_, ?_⟩, .set rfl⟩
  · unfold insK; rw [if_pos hm]; exact h3
  · rw [getK_ins h2, if_pos rfl]; rfl
  · intro n hn hk
    rw [getK_ins h2, if_neg (fun e => by have := Sum.inl.inj e; omega)]
    exact h5 n hn hk
  · intro n l hn hk
    obtain ⟨d, g, o⟩ := h6 n l hn hk
    refine ⟨d, ?_, o.keep (.set bq)⟩
    rw [getK_ins h2, if_neg (fun e => by have := Sum.inl.inj e; omega)]
    exact g
end PM

/-! PM, part 32: kinds as things; their size -/
namespace PM
open PySem L2
theorem th_str {n : Nat} {s : Str} : th n (.str s) = (PyData.strOk s && decide (s.length ≤ 1000)) := by cases n <;> rfl
theorem th_int {n : Nat} {i : Int} : th n (.int i) = true := by cases n <;> rfl
theorem th_non {n : Nat} : th n .non = true := by cases n <;> rfl
theorem th_lab {n : Nat} {s : Str} (h : IsLab s) : th n (.str s) = true := by
  rw [th_str, h.ok, decide_eq_true (by have := h.2.2; omega)]; rfl
theorem th_tup {n : Nat} {ds : List D} (h : ds.length ≤ 1000) (g : ∀ d ∈ ds, th n d = true) : th (n + 1) (.tup ds) = true := by
  simp only [th, Bool.and_eq_true, List.all_eq_true]
  exact ⟨decide_eq_true h, g⟩
theorem th_tup_inv {n : Nat} {ds : List D} (h : th (n + 1) (.tup ds) = true) : ds.length ≤ 1000 ∧ ∀ d ∈ ds, th n d = true := by
  simp only [th, Bool.and_eq_true, List.all_eq_true, decide_eq_true_eq] at h; exact h
theorem th_rec {n : Nat} {fs r : D} (h : th n fs = true) (g : th n r = true) : th (n + 1) (.tup [.str "record", fs, r]) = true :=
  th_tup (by simp) (by simp [h, g, th_str]; decide +kernel)
theorem th_fld {n : Nat} {l : Str} {d : D} (hl : PyData.strOk l = true ∧ l.length ≤ 1000) (h : th n d = true) : th (n + 1) (.tup [.str l, d]) = true :=
  th_tup (by simp) (by simp [h, th_str, hl])
theorem th_kd {d : Nat} {k : K} (h : WK d k) : th (3 * d) (kd k) = true := by
  induction h with
  | num => rename_i d; exact th_tup (n := 3 * d + 2) (by simp) (by simp [th_str]; decide +kernel)
  | blk => rename_i d n; exact th_tup (n := 3 * d + 2) (by simp) (by simp [th_str, th_int]; decide +kernel)
  | rc h1 h2 h3 h4 h5 ih =>
    rename_i d ls ks r
    refine th_rec (n := 3 * d + 2) (th_tup ?_ fun x hx => ?_) (by cases r <;> simp [rD0, th_int, th_non])
    · rw [fldD, List.length_zipWith, kds_len]; omega
    · obtain ⟨l, y, e, hl, hy⟩ := mem_fldD hx
      rw [kds_map] at hy
      obtain ⟨b, hb, e'⟩ := List.mem_map.mp hy
      subst e e'
      exact th_fld ⟨(h4 l hl).ok, by have := (h4 l hl).2.2; omega⟩ (ih b hb)
theorem szs_app : ∀ a b : List D, szs (a ++ b) = szs a + szs b
  | [], b => by simp [szs]
  | x :: a, b => by simp only [List.cons_append, szs, szs_app a b]; omega
theorem szs_fld : ∀ {ls : List Str} {ks : List K}, ls.length = ks.length → (∀ k ∈ ks, sz (kd k) + 2 ≤ 6 * kn k) → szs (fldD ls (kds ks)) ≤ 6 * kns ks
  | [], [], _, _ => by simp [fldD, kds, szs]
  | l :: ls, k :: ks, h, g => by
    have := szs_fld (ls := ls) (ks := ks) (by simpa using h) fun k hk => g k (by simp [hk])
    have := g k (by simp)
    rw [kds, fldD_cons, szs, kns]
    simp only [sz, szs]; omega
theorem sz_kd {d : Nat} {k : K} (h : WK d k) : sz (kd k) + 2 ≤ 6 * kn k := by
  induction h with
  | num => simp [kd, sz, szs, kn]
  | blk => simp [kd, sz, szs, kn]
  | rc h1 h2 h3 h4 h5 ih =>
    rename_i d ls ks r
    have := szs_fld h1 ih
    have e : sz (rD0 r) = 1 := by cases r <;> simp [rD0, sz]
    simp only [kd, sz, szs, kn, e]; omega
theorem kns_app : ∀ a b : List K, kns (a ++ b) = kns a + kns b
  | [], b => by simp [kns]
  | x :: a, b => by simp only [List.cons_append, kns, kns_app a b]; omega
/-- a state with its budget beside a list of lists of texts -/
def KS2 (S : Sto) (n q M : Nat) (b : Int) : Prop := ∃ (a : Int) (ws : List (List Str)), 0 ≤ a ∧ S[n]? = some (.lst [.int a, .int b]) ∧ S[q]? = some (.lst (ws.map wD)) ∧ (∀ w ∈ ws, WOk w) ∧ ws.length + b.toNat ≤ M
/-- and what is left of the budget behind a kind -/
def KE2 (S : Sto) (n q M B : Nat) (k : K) : Prop := ∃ b, KS2 S n q M b ∧ kn k + 4 * b.toNat ≤ B
theorem pl_kd {d : Nat} {k : K} (h : WK d k) : pl (3 * d) (kd k) = true := by
  induction h with
  | num => rename_i d; rw [show 3 * (d + 1) = (3 * d + 2) + 1 by omega]; simp only [kd, pl, List.all_cons, List.all_nil]; decide +kernel
  | blk => rename_i d n; rw [show 3 * (d + 1) = (3 * d + 2) + 1 by omega]; simp only [kd, pl, List.all_cons, List.all_nil]; decide +kernel
  | rc h1 h2 h3 h4 h5 ih =>
    rename_i d ls ks r
    rw [show 3 * (d + 1) = (3 * d + 2) + 1 by omega]
    simp only [kd, pl, List.all_cons, List.all_nil, Bool.and_true, Bool.and_eq_true]
    refine ⟨by decide +kernel, pl_all fun x hx => ?_, by cases r <;> rfl⟩
    obtain ⟨l, y, e, hl, hy⟩ := mem_fldD hx
    rw [kds_map] at hy
    obtain ⟨b, hb, e'⟩ := List.mem_map.mp hy
    subst e e'
    simp only [pl, List.all_cons, List.all_nil, Bool.and_true, Bool.and_eq_true]
    exact ⟨(h4 l hl).ok, ih b hb⟩
end PM

set_option maxHeartbeats 1000000
/-! PM, part 33: exceptions of the program's own classes -/
namespace PM
open PySem PySem.Spec L2 PyProof.Rows
/-- nothing is let out -/
theorem takesN0 {X : Cx} : L2N.Takes X (fun _ _ _ _ => False) := fun _ _ x => by
  obtain ⟨_, _, _, _, _, _, _, _, _, _, _, _, _, _, _, _, z⟩ := x
  exact z.elim
/-- is an exception of the class x one of t? (classes right below FieldError) -/
def isx (x t : Str) : Bool := decide (t = x) || (decide (t = Str.ofString "FieldError") || decide (t = Str.ofString "ValueError"))
/-- what is known of the class x, at C: it may be raised and asked -/
structure XC (K : PySem.W.Frag) (mg : Str → Option Value) (x : Str) (C : Addr) : Prop where
  g : mg x = some (.ref C)
  x : PySem.W.excIn K C [.type "ValueError", .type "Exception", .type "BaseException", .type "object"] "ValueError.__new__" = true
  k : PySem.W.keepIn K (.ref C) = true
  b : PySem.W.subIn K (.ref C) (.type "BaseException") = some true
  t : PySem.W.typeIn K (.ref C) = some (.type "type")
  i : ExcC K C
/-- raise X('..') -/
def sRaise (x : Str) : Sm := fun δ S => .exc ⟨x, [], []⟩ δ S
section
variable {X : Cx} {W : WX} {x m : Str} {j : Nat} {p p2 pos pos' : Pos} {C : Addr}
theorem ds_raise (hc : X.calm = true) (tk : L2N.Takes X W) (F : XC X.K X.mg x C) (hg : Gl X x) (hdb : (x == ("__debug__" : Str)) = false := by decide) :
    DS X W (.Raise (some (.Call (.Name x p) [.Constant (.str m) j p2] [] pos)) none pos') (sRaise x) :=
  ps_imp (L2N.ps_raise hc tk (L2N.pmk_own PySem.F.excBase_ValueError F.x F.g F.k (raises_own F.b F.t) hg hdb)) fun D σ H ⟨ι, S, δ, rp, rs, g⟩ => g ι H σ _ none .refl rp rs ⟨⟨C, F.g, rfl⟩, .inl ⟨rfl, rfl, rfl⟩⟩
end
/-! ### isinstance of a caught exception -/
def opIsE (a : Addr) (b : Bool) (d : D) (S : Sto) : R D := match d with
  | .exn c => if c = a then .ok (.bl b) S else .stuck
  | _ => .stuck
/-- the pinned object of an exception of the class at C -/
def ObE (C : Addr) (o : Obj) : Prop := o.cls = .ref C ∧ o.dict = none ∧ ∃ vs : Array Value, o.data = .fields vs ∧ vs[2]? = some .none
theorem call_isP {X : Cx} {a C : Addr} {oe : Obj} (hp : (a, oe) ∈ X.pn) (E : ExcC X.K C) (ho : ObE C oe) : CallR X (.builtin "isinstance") (rIsE X.K C a) := by
  rintro pins s σ H xs us Q I r ⟨c, cv, b, rfl, hcv, e, q⟩
  obtain ⟨u1, u2, rfl, r1, r2⟩ := vals2 r
  obtain rfl : u1 = Value.ref a := r1
  obtain rfl := hcv _ r2
  have hget := (I.pin (a, oe) (List.mem_append_left _ hp)).1
  have J : PySem.W.InstAt s.heap a oe C none := by
    obtain ⟨h1, h2, vs, hv, _⟩ := ho
    cases oe
    simp only at h1 h2 hv
    subst h1 h2 hv
    exact ⟨hget, rfl, rfl, trivial⟩
  refine PySem.W.kia_one (PySem.W.handS_kitx_exc E.hg E.hk E.hs E.hd E.ha E.hn E.ht E.hm) I.kIn J e (fun z => nomatch z) fun tk => ?_
  exact ⟨.bl b, H, I.tok tk, rfl, q⟩
section
variable {X : Cx} {W : WX} {a C : Addr} {oe : Obj} {b : Bool} {c : V} {cv : Value} {e : Expr} {me : Em} {y : Str} {p q pos : Pos}
theorem de_isE (hp : (a, oe) ∈ X.pn) (E : ExcC X.K C) (ho : ObE C oe) (hg : Gl X "isinstance") (hm : X.mg "isinstance" = none) (ha : DE X W e me) (hT : PE X (.Name y q) (tC c)) (hcv : ∀ u, RelV c u → u = cv) (hk : PySem.W.kitOne X.K (.ref C) cv = some b)
    (hs : starEach [e, .Name y q] X.env = (false, eval e X.env) :: starEach [.Name y q] X.env := by rfl) (hs2 : starEach [.Name y q] X.env = [(false, eval (.Name y q) X.env)] := by rfl)
    (hpl : (backTo pos (starEach [.Name y q] X.env)).any (·.1) = false := by rfl) : DE X W (.Call (.Name "isinstance" p) [e, .Name y q] [] pos) (mU (opIsE a b) me) :=
  pe_imp (pe_callB (call_isP hp E ho) hg hm (by decide +kernel) (pa_cons ha (pa_cons hT pa_nil hs2) hs) (he := hs) (hpl := hpl)) fun σ H Q h => t_bind h fun ι S δ d v H1 rp rs rd g => by
    unfold opIsE at g
    split at g
    · split at g
      · rename_i ec
        simp only [RD] at rd
        subst ec rd
        exact ⟨c, cv, b, rfl, hcv, hk, g.here rp (by simp only [RD])⟩
      · exact g.elim
    · exact g.elim
/-- int(k) of a truth, int(i) -/
def cIntB (ds : List D) (S : Sto) : R D := match ds with
  | [.bl k] => .ok (.int (if k then 1 else 0)) S
  | [.int i] => .ok (.int i) S
  | _ => .stuck
theorem cIntB_ok : CallD X (.type "int") cIntB := by
  refine ⟨_, call_int1, fun W ι S H xs dxs Q rp rx g => ?_⟩
  unfold cIntB at g
  split at g
  · obtain ⟨v, e, r⟩ := rds_one rx
    simp only [RD] at r
    subst e r
    exact .inr ⟨_, rfl, g.here rp (by simp only [RD])⟩
  · obtain ⟨v, e, r⟩ := rds_one rx
    simp only [RD] at r
    subst e r
    exact .inl ⟨_, rfl, g.here rp (by simp only [RD])⟩
  · exact g.elim
end
/-! ### try: body, except T as n: suite, where the suite returns -/
open Classical in
noncomputable def sTryAs (i : Nat) (ok : Str → Bool) (body : Sm) (suite : Addr → Str → Sm) : Sm := fun δ S => match body δ S with
  | .exc x δ' S' => if h : ok x.cls = true ∧ x.fs = [] ∧ ∃ r : D × Sto, ∀ a, suite a x.cls (δ'.set i (some (.exn a))) S' = .rt r.1 r.2 then .rt (Classical.choose h.2.2).1 (Classical.choose h.2.2).2 else .stuck
  | r => r
theorem sTryAs_nx {i ok body suite δ S δ' S'} (h : body δ S = .nx δ' S') : sTryAs i ok body suite δ S = .nx δ' S' := by unfold sTryAs; rw [h]
theorem sTryAs_rt {i ok body suite δ S d S'} (h : body δ S = .rt d S') : sTryAs i ok body suite δ S = .rt d S' := by unfold sTryAs; rw [h]
theorem sTryAs_exc {i : Nat} {ok : Str → Bool} {body : Sm} {suite : Addr → Str → Sm} {δ δ' : PM.Loc} {S S' S2 : Sto} {y : Str} {d : D} (h : body δ S = .exc ⟨y, [], []⟩ δ' S') (ho : ok y = true) (hs : ∀ a, suite a y (δ'.set i (some (.exn a))) S' = .rt d S2) :
    sTryAs i ok body suite δ S = .rt d S2 := by
  have H : ok y = true ∧ ([] : List Str) = [] ∧ ∃ r : D × Sto, ∀ a, suite a y (δ'.set i (some (.exn a))) S' = .rt r.1 r.2 := ⟨ho, rfl, (d, S2), hs⟩
  unfold sTryAs
  rw [h]
  simp only [dif_pos H]
  have e := (Classical.choose_spec H.2.2 0).symm.trans (hs 0)
  exact e
section
variable {X : Cx} {W : WX} {x n : Str} {c : Value} {i : Nat} {body suite : List Stmt} {b₀ : Stmt} {np pos pos' : Pos} {m : Sm} {ms : Addr → Str → Sm} {ok : Str → Bool}
theorem ds_tryAs (hs : X.stack = X.env :: X.outer) (hf : X.env.frame = some X.env.locals) (hN : X.N.Nodup) (hi : X.N[i]? = some n) (hln : X.env.kindOf n = some .local) (hc : Names X x c) (tk : L2N.Takes X W)
    (hok : ∀ y, ok y = true → ∃ C, XC X.K X.mg y C ∧ PySem.W.exmOne X.K (.ref C) c = some true)
    (hb : ∀ (W' : WX) (pn : List (Addr × Obj)) (xe : Value → Shared → Prop), L2N.Takes (X.tr pn xe) W' → PassesOwn (model X.prog X.w) X.A X.env xe → DSs (X.tr pn xe) W' body m)
    (hsu : ∀ (a : Addr) (oe : Obj) (y : Str) (C : Addr) (pn : List (Addr × Obj)), ok y = true → XC X.K X.mg y C → ObE C oe → DSs (X.suite a ((a, oe) :: pn)) w0 (b₀ :: suite) (ms a y)) :
    DS X W (.Try body [.ExceptHandler (some (.Name x np)) (some n) (b₀ :: suite) pos'] [] [] pos) (sTryAs i ok m ms) := by
  refine ps_imp (L2N.ps_try_as (tb := fun W' => tDS X.ek W' m) (ts := fun a cls d D σ H => ∃ y C, ok y = true ∧ XC X.K X.mg y C ∧ cls = .ref C ∧ d = none ∧ tDS X.ek w0 (ms a y) D σ H)
    hs hf hN hi hln hc tk hb fun a oe cls d pn hz hfd => ⟨fun pins s σ H D I h => ?_⟩) fun D σ H ⟨ι, S, δ, rp, rs, g⟩ => ⟨ι, S, δ, rp, rs, ?_⟩
  · obtain ⟨y, C, h1, h2, rfl, rfl, h3⟩ := h
    obtain ⟨vs, hv⟩ := hfd
    exact (hsu a oe y C pn h1 h2 ⟨hz.1, hz.2.1, vs, hv, hz.2.2 vs hv⟩).run pins s σ H D I h3
  · unfold sTryAs at g
    revert g
    cases m δ S with
    | exc z δ' S' =>
      intro g
      simp only at g
      split at g
      · rename_i h
        intro ι' H' σ' cls dx st rp' rs' rx
        obtain ⟨C, k1, k2⟩ := hok z.cls h.1
        obtain ⟨⟨C', g1, e1⟩, g2⟩ := rx
        have eC : C' = C := by
          have := (show X.mg z.cls = some (.ref C') from g1).symm.trans k1.g
          cases this; rfl
        subst eC e1
        have ed : dx = none := by
          rcases g2 with g2 | ⟨g2, _⟩
          · exact g2.2.2
          · exact absurd h.2.1 g2
        subst ed
        refine ⟨true, k2, fun _ a ha => ⟨z.cls, C', h.1, k1, rfl, rfl, ι', S', _, rp', rs_set (d := .exn a) rs' (by simp only [RD]) i, ?_⟩, fun q => Bool.noConfusion q⟩
        rw [Classical.choose_spec h.2.2 a]
        exact fun ι2 H2 v s2 rp2 r2 => g ι2 H2 v (st.trans s2) rp2 r2
      · exact g.elim
    | _ => exact fun g => g
end
end PM

set_option maxHeartbeats 1000000
/-! PM, part 34: defs that are handed a caught exception, called in the except suite -/
namespace PM
open PySem PySem.Spec L2 PyProof.Rows
abbrev xk0 : XK := fun _ _ _ => False
/-- such a def's promise: c's answer, at the exception of the class at C that is handled -/
def FnE (P : Program) (w : World) (K : PySem.W.Frag) (mg : Str → Option Value) (base : Heap) (k : Nat) (f : Addr) (fd : FuncData) (ps : List Str) (C : Addr) (c : Addr → List D → Sto → R D) : Prop :=
  ∀ (A : Around) (outer : List Env) (s : Shared) (H : Hp) (args : Args) (us : List Value) (vs : List V) (ι : Z) (S : Sto) (ds : List D) (Q : L2.VK) (p : Addr × Obj), L2H.RoomH k A → L2H.Hot1 A p → ObE C p.2 → L2H.PinOk outer H s p →
    Env0 P w K mg base A outer s H → BindsTo s fd args (ps.zip us) → Vals vs us → vs.length = ps.length → Rep H ι ⟨mg, K⟩ S → RDs H ι ds vs → G ⟨mg, K⟩ xk0 ι H RD (c p.1 ds S) Q →
    codeAny (model P w) A (.call (.ref f) args) (CR (L2N.CX P w) outer P w H s Q xk0) s
section
variable {P : Program} {w : World} {K : PySem.W.Frag} {mg : Str → Option Value} {base : Heap}
theorem fnE_of {x qual : Str} {st : Stmt} {f : Addr} {fd : FuncData} {N ps : List Str} {k : Nat} {C : Addr} {body : Addr → Sm} {fin : Fin} (F : Fun K x qual st f fd) (Sc : FnScope N ps (defScope st)) (hf : FinOk fin)
    (h : ∀ (cdv : Value) (A : Around) (outer : List Env) (s : Shared) (H : Hp) (p : Addr × Obj), L2H.Hot1 A p → ObE C p.2 → L2H.RoomH k (A.deeper (envOfC qual (defScope st) s.heap.objs.size f cdv)) →
      DSs (L2H.cxH (L2N.CX P w) P w K mg base N qual (defScope st) f cdv A outer s H xk0 p) w0 (defBody st) (body p.1)) :
    FnE P w K mg base (k + 1) f fd ps C (fun a ds S => fin S (runB (body a) N.length ds S)) := by
  obtain ⟨oc, od, kV, doc, pm, an, cdv, ct, osl, rfl, lk, hcd⟩ := F.ex
  intro A outer s H args us vs ι S ds Q p hr hot hob hpin e0 hb r hl rp rd g
  -- the callee's frame
  have inK : K.In s.heap := e0.mod.kin.keeps fun b o e => (e0.bs b o e).1
  have noLim : s.heap.NoLimit := e0.mod.nolimit.keeps fun b o e => (e0.bs b o e).1
  have kinds : ∀ y ∈ ps.zip us, (defScope st).names.lookup y.1 = some .local ∨ ((defScope st).names.lookup y.1 = some .cell ∧ ((cellsFrom (s.heap.objs.size + 1) (defScope st).names []).lookup y.1).isSome = true) := by
    rintro ⟨n, v⟩ hy
    have hn := (List.of_mem_zip hy).1
    exact (Sc.par n hn).imp id fun q => ⟨q, PySem.W.cellsFrom_some _ _ _ (.inl q)⟩
  refine codeAny_call_function hr.depth (inK _ _ lk) rfl Sc.co Sc.gen rfl (PySem.W.codeRec_of inK hcd) (hb _ _ _ _ ?_)
  refine wpAny_newFunctionEnv_cells Sc.kind kinds fun env he s1 x => ?_
  subst he
  have I := L2H.inv_startH (CX := L2N.CX P w) (qual := qual) (E := xk0) Sc hpin e0 hl r x
  have D := h cdv A outer s H p hot hob (hr.deeper _)
  refine ⟨noLim.keeps x.toInCall.keep, codeAny_func ?_⟩
  have g := hf _ _ _ _ _ _ _ rp g
  have t : tDS ⟨mg, K⟩ w0 (body p.1) { nx := fun _ H' => Q .non H', rt := Q } (L2.start N vs) H := by
    refine ⟨ι, S, _, rp, rst_start rd, ?_⟩
    unfold runB at g
    revert g
    cases body p.1 (ds.map some ++ List.replicate (N.length - ds.length) none) S with
    | nx δ S' => exact fun g ι' H' σ' st rp rs => g ι' H' .non st rp (by simp only [RD])
    | rt d S' => exact fun g ι' H' v st rp r => g ι' H' v st rp r
    | exc c δ S' => exact fun g ι' H' σ' cls dx st rp rs rx => g ι' H' cls dx st rp rx
    | bk δ S' => exact fun g => g.elim
    | ct δ S' => exact fun g => g.elim
    | stuck => exact fun g => g.elim
  refine wpAny_mono (D.run [] s1 (L2.start N vs) H _ I t) (fun fl s' hs => ?_) fun e s' hs => hs
  cases fl with
  | ret u =>
    obtain ⟨v, σ', H', J, rv, q⟩ := hs
    exact ⟨v, H', J.os, J.bare, J.base, J.hok, rv, q⟩
  | next =>
    obtain ⟨σ', H', J, q⟩ := hs
    exact ⟨V.non, H', J.os, J.bare, J.base, J.hok, rfl, q⟩
  | brk =>
    obtain ⟨_, _, _, q⟩ := hs
    exact q.elim
  | cont =>
    obtain ⟨_, _, _, q⟩ := hs
    exact q.elim
end
structure HasE (P : Program) (w : World) (K : PySem.W.Frag) (mg : Str → Option Value) (base : Heap) (k : Nat) (x : Str) (n : Nat) (C : Addr) (c : Addr → List D → Sto → R D) : Prop where
  ex : ∃ (f : Addr) (fd : FuncData) (ps : List Str), FnE P w K mg base k f fd ps C c ∧ mg x = some (.ref f) ∧ PySem.W.keepIn K (.ref f) = true ∧ Binds K fd ps [] ∧ ps.length = n
section
variable {X : Cx} {a C : Addr} {oe : Obj} {pn : List (Addr × Obj)} {x : Str} {e : Expr} {es : List Expr} {am : Am} {k n : Nat} {p pos : Pos} {cf : Addr → List D → Sto → R D}
theorem de_callE (F : HasE X.prog X.w X.K X.mg X.base k x n C cf) (hr : L2H.RoomH k X.A) (ho : ObE C oe) (hg : Gl (X.suite a ((a, oe) :: pn)) x) (ha : DAL (X.suite a ((a, oe) :: pn)) w0 (e :: es) am n)
    (hdb : (x == ("__debug__" : Str)) = false := by decide) (he : starEach (e :: es) X.env = (false, eval e X.env) :: starEach es X.env := by rfl) (hpl : (backTo pos (starEach es X.env)).any (·.1) = false := by rfl) :
    DE (X.suite a ((a, oe) :: pn)) w0 (.Call (.Name x p) (e :: es) [] pos) (mApp (cf a) am) := by
  obtain ⟨f, fd, ps, Fe, hm, hk, hb, hps⟩ := F.ex
  refine ⟨fun pins s σ H Q I ⟨ι, S, δ, rp, rs, g⟩ => ?_⟩
  refine wpAny_Call_Name_kw (ld_glob I hg hm ?_ hdb)
  -- the arguments
  have ta : tD X.ek w0 RDs am σ H fun vs H1 => ∃ ι1 S1 ds, vs.length = ps.length ∧ Rep H1 ι1 X.ek S1 ∧ RDs H1 ι1 ds vs ∧ G X.ek xk0 ι1 H1 RD (cf a ds S1) Q := by
    refine ⟨ι, S, δ, rp, rs, ?_⟩
    have q := G.bind (Rl := RDs) g
    cases e1 : am δ S with
    | ok ds S1 =>
      rw [e1] at q
      intro ι' H' vs st rp' rd'
      obtain ⟨ι1, S2, ds2, st1, rp1, rd1, g1⟩ := q ι' H' vs st rp' rd'
      exact ⟨ι1, S2, ds2, by rw [← rd'.length, hps]; exact ha.2 _ _ _ _ e1, rp1, rd1, g1⟩
    | exc c S1 => rw [e1] at q; exact q
    | stuck => rw [e1] at q; exact q
  refine PySem.W.callWith_K (h₀ := X.base) I.ok.mod.kin hk (thn (ha.1.run pos pins s σ H _ I ta) fun us s1 ⟨vs, H1, I1, r, ι1, S1, ds, hlen, rp1, rd1, g1⟩ => ⟨I1.kIn, ?_⟩) he hpl
  -- the call
  have hot : L2H.Hot1 (X.suite a ((a, oe) :: pn)).A (a, oe) := ⟨rfl, ho.2.2⟩
  have hpn : (a, oe) ∈ (X.suite a ((a, oe) :: pn)).pn ++ pins := List.mem_append_left _ List.mem_cons_self
  have P1 := I1.pin (a, oe) hpn
  have hpin : L2H.PinOk (X.suite a ((a, oe) :: pn)).stack H1 s1 (a, oe) := ⟨P1.1, P1.2.1, fun hm => by
    rcases List.mem_cons.mp (I1.stkSub a hm) with z | z
    · exact P1.2.2.1 z
    · exact P1.2.2.2.1 z, P1.2.2.2.2⟩
  have bb := hb s1 us I1.kIn (by rw [List.append_nil, ← r.length]; exact hlen)
  rw [List.append_nil] at bb
  have hr' : L2H.RoomH k (X.suite a ((a, oe) :: pn)).A := ⟨hr.dp, hr.un⟩
  refine wpAny_call (codeAny_mono (Fe _ _ s1 H1 ⟨us, []⟩ us vs ι1 S1 ds Q (a, oe) hr' hot ho hpin I1.env0 bb r hlen rp1 rd1 g1) fun rr s' hq => ?_)
  cases rr with
  | error u =>
    obtain ⟨_, _, _, _, _, _, _, _, _, _, _, _, z⟩ := hq
    exact z.elim
  | ok fl =>
    cases fl with
    | ret u => exact I1.after hq
    | _ => exact hq.elim
end
end PM

set_option maxHeartbeats 1000000
/-! PM, part 35: dicts walked by their keys (locked meanwhile) -/
namespace PM
open PySem PySem.Spec L2
theorem RSt.mono0 {ι ι' : Z} {H H' : Hp} (s : L0 ι H ι' H') {δ : PM.Loc} {σ : L2.St} (h : RSt H ι δ σ) : RSt H' ι' δ σ :=
  ⟨h.len, fun i d e => let ⟨v, e2, r⟩ := h.at' i d e; ⟨v, e2, RD.mono0 s d v r⟩⟩
section
variable {ι ι' : Z} {H H' : Hp} {mg : EnvK} {S S' : Sto} {n : Nat} {a : Addr} {ks : List Key} {ds : List D}
theorem lock_rep (rp : Rep H ι mg S) (hn : ι.a[n]? = some a) (hS : S[n]? = some (.dK ks ds)) :
    ∃ vs, H a = some (.dK (ks.zip vs)) ∧ ∀ od, Rep (upd H a (.frz od (.dK (ks.zip vs)))) ι mg (S.set n (.dKL ks ds)) ∧ Step ι H ι (upd H a (.frz od (.dK (ks.zip vs)))) := by
  obtain ⟨vs, h3, hz, hl, h4⟩ := rp.obj n a _ hn hS
  have hm : ∀ u, H a = some u → Mk u := fun u e => by rw [h3] at e; cases e; exact .intro (fun _ _ q => nomatch q) (fun _ _ q => nomatch q)
  refine ⟨vs, h3, fun od => rp.write (m := .dKL ks ds) (o := .frz od (.dK (ks.zip vs))) hn hm ⟨od, vs, upd_same, hz, hl, h4.mono (Lift.write (.inl (List.mem_of_getElem? hn)) hm)⟩⟩
theorem unlock_l0 {od : Obj} {kvs : List (Key × V)} (ha : a ∈ ι'.a) (hH : H' a = some (.frz od (.dK kvs))) : L0 ι' H' ι' (upd H' a (.dK kvs)) := by
  have ne : ∀ {b : Addr}, ι'.no b → b ≠ a := fun h e => h.1 (e ▸ ha)
  refine ⟨fun _ _ h => h, fun b xs h => h.keep ?_, fun b xs h e => ⟨by rw [upd_ne (ne h)]; exact e, h⟩, fun b o xs e => ?_, fun b xs h e => ⟨rd_upd_ne e (ne h), h⟩, rfl⟩
  · rintro rfl
    obtain ⟨o, h, _⟩ := h
    rw [hH] at h; cases h
  · rw [upd_ne (by rintro rfl; rw [hH] at e; cases e)]; exact e
theorem unlock_rep {od : Obj} {kvs : List (Key × V)} (rp : Rep H' ι' mg S') (hn : ι'.a[n]? = some a) (hS : S'[n]? = some (.dKL ks ds)) (hH : H' a = some (.frz od (.dK kvs))) :
    Rep (upd H' a (.dK kvs)) ι' mg (S'.set n (.dK ks ds)) := by
  have ha := List.mem_of_getElem? hn
  have s0 := unlock_l0 (ι' := ι') ha hH
  obtain ⟨o, vs, h3, hz, hl, h4⟩ := rp.obj n a _ hn hS
  rw [hH] at h3
  cases h3
  refine ⟨rp.kk, by simpa using rp.len, rp.nd, fun x hx => ?_, fun k b m h1 h2 => ?_⟩
  · obtain ⟨h1, u, e, q⟩ := rp.bt x hx
    exact ⟨h1, u, by rw [upd_ne (by rintro rfl; exact h1 ha)]; exact e, q⟩
  · by_cases hk : n = k
    · subst hk
      rw [hn] at h1; cases h1
      have hlt : n < S'.length := by rw [← rp.len]; exact (List.getElem?_eq_some_iff.mp hn).1
      rw [List.getElem?_set_self hlt] at h2; cases h2
      exact ⟨vs, upd_same, hz, hl, RDs.mono0 s0 _ _ h4⟩
    · rw [List.getElem?_set_ne hk] at h2
      refine RO.mono0 s0 (upd_ne ?_) (rp.obj k b m h1 h2)
      rintro rfl
      obtain ⟨l1, e1⟩ := List.getElem?_eq_some_iff.mp hn
      obtain ⟨l2, e2⟩ := List.getElem?_eq_some_iff.mp h1
      exact hk ((List.getElem_inj rp.nd).mp (e1.trans e2.symm))
theorem unlock_step {u v : HO} (rp : Rep H ι mg S) (ha : a ∈ ι.a) (hH : H a = some (.dK ks')) (st : Step ι (upd H a u) ι' H') : Step ι H ι' (upd H' a v) := by
  have ne : ∀ {b : Addr}, ι.no b → b ≠ a := fun h e => h.1 (e ▸ ha)
  have nf : ∀ {b : Addr} {o : Obj} {x : HO}, H b = some (.frz o x) → b ≠ a := fun h e => by rw [e, hH] at h; cases h
  refine ⟨⟨st.up.pre, fun b xs h => ?_, fun b xs h e => ?_, fun b o xs e => ?_, fun b xs h e => ?_, st.up.kk, fun b o x e => ?_⟩, st.bb, fun x hx o e => ?_⟩
  · have nb : b ≠ a := by
      rintro rfl
      obtain ⟨o, h, _⟩ := h
      rw [hH] at h; cases h
    exact (st.up.tup b xs (h.keep nb)).keep nb
  · obtain ⟨h1, h2⟩ := st.up.lst b xs h (by rw [upd_ne (ne h)]; exact e)
    exact ⟨by rw [upd_ne (ne h)]; exact h1, h2⟩
  · rw [upd_ne (nf e)]
    exact st.up.scr b o xs (by rw [upd_ne (nf e)]; exact e)
  · obtain ⟨h1, h2⟩ := st.up.dct b xs h (rd_upd_ne e (ne h))
    exact ⟨rd_upd_ne h1 (ne h), h2⟩
  · rw [upd_ne (nf e)]
    exact st.up.frz b o x (by rw [upd_ne (nf e)]; exact e)
  · have nb : x ≠ a := fun z => (rp.bt x hx).1 (z ▸ ha)
    rw [upd_ne nb]
    exact st.hid x hx o (by rw [upd_ne nb]; exact e)
end
/-! ### statements, expressions under a lock -/
def unlk (n : Nat) (S : Sto) (k : Sto → RS) : RS := match S[n]? with
  | some (.dKL ks ds) => k (S.set n (.dK ks ds))
  | _ => .stuck
def lockS (i : Nat) (m : Sm) : Sm := fun δ S => match δ[i]? with
  | some (some (.ref n)) => match S[n]? with
    | some (.dK ks ds) => match m δ (S.set n (.dKL ks ds)) with
      | .nx δ' S' => unlk n S' (.nx δ')
      | .rt d S' => unlk n S' (.rt d)
      | .bk δ' S' => unlk n S' (.bk δ')
      | .ct δ' S' => unlk n S' (.ct δ')
      | .exc c δ' S' => .exc c δ' S'
      | .stuck => .stuck
    | _ => .stuck
  | _ => .stuck
def lockE (i : Nat) (m : Em) : Em := fun δ S => match δ[i]? with
  | some (some (.ref n)) => match S[n]? with
    | some (.dK ks ds) => (m δ (S.set n (.dKL ks ds))).bind fun d S' => match S'[n]? with
      | some (.dKL ks ds) => .ok d (S'.set n (.dK ks ds))
      | _ => .stuck
    | _ => .stuck
  | _ => .stuck
section
variable {X : Cx} {W : WX} {st : Stmt} {e : Expr} {m : Sm} {me : Em} {i : Nat}
theorem ds_lock (h : DS X W st m) : DS X W st (lockS i m) := ps_imp (ps_lock h) fun D σ H ⟨ι, S, δ, rp, rs, g⟩ => by
  unfold lockS at g
  split at g
  · rename_i n hd
    obtain ⟨v, ev, rv⟩ := rs.at' i _ hd
    simp only [RD] at rv
    obtain ⟨a, e, hn⟩ := rv
    split at g
    · rename_i ks ds hS
      obtain ⟨vs, hH, hl⟩ := lock_rep rp hn hS
      refine ⟨a, _, hH, trivial, fun od => ?_⟩
      obtain ⟨rp1, st1⟩ := hl od
      refine ⟨ι, _, δ, rp1, rs.mono st1.up, ?_⟩
      have ha := List.mem_of_getElem? hn
      have hf : ∀ {ι' : Z} {H' : Hp}, Step ι (upd H a (.frz od (.dK (ks.zip vs)))) ι' H' → H' a = some (.frz od (.dK (ks.zip vs))) ∧ ι'.a[n]? = some a ∧ Step ι H ι' (upd H' a (.dK (ks.zip vs))) := fun s2 =>
        ⟨s2.up.frz a _ _ upd_same, s2.up.pre n a hn, unlock_step rp ha hH s2⟩
      revert g
      cases m δ (S.set n (.dKL ks ds)) with
      | nx δ' S' =>
        intro g ι' H' σ' s2 rp2 rs2
        obtain ⟨q1, q2, q3⟩ := hf s2
        simp only [unlk] at g
        split at g
        · rename_i hS2
          exact ⟨q1, g ι' _ σ' q3 (unlock_rep rp2 q2 hS2 q1) (rs2.mono0 (unlock_l0 (List.mem_of_getElem? q2) q1))⟩
        · exact g.elim
      | bk δ' S' =>
        intro g ι' H' σ' s2 rp2 rs2
        obtain ⟨q1, q2, q3⟩ := hf s2
        simp only [unlk] at g
        split at g
        · rename_i hS2
          exact ⟨q1, g ι' _ σ' q3 (unlock_rep rp2 q2 hS2 q1) (rs2.mono0 (unlock_l0 (List.mem_of_getElem? q2) q1))⟩
        · exact g.elim
      | ct δ' S' =>
        intro g ι' H' σ' s2 rp2 rs2
        obtain ⟨q1, q2, q3⟩ := hf s2
        simp only [unlk] at g
        split at g
        · rename_i hS2
          exact ⟨q1, g ι' _ σ' q3 (unlock_rep rp2 q2 hS2 q1) (rs2.mono0 (unlock_l0 (List.mem_of_getElem? q2) q1))⟩
        · exact g.elim
      | rt d S' =>
        intro g ι' H' v s2 rp2 r2
        obtain ⟨q1, q2, q3⟩ := hf s2
        simp only [unlk] at g
        split at g
        · rename_i hS2
          exact ⟨q1, g ι' _ v q3 (unlock_rep rp2 q2 hS2 q1) (RD.mono0 (unlock_l0 (List.mem_of_getElem? q2) q1) d v r2)⟩
        · exact g.elim
      | exc c δ' S' => exact fun g ι' H' σ' cls dx s2 rp2 rs2 rx => g ι' H' σ' cls dx (st1.trans s2) rp2 rs2 rx
      | stuck => exact fun g => g.elim
    · exact g.elim
  · exact g.elim
theorem de_lock (h : DE X W e me) : DE X W e (lockE i me) := pe_imp (pe_lock h) fun σ H Q ⟨ι, S, δ, rp, rs, g⟩ => by
  unfold lockE at g
  split at g
  · rename_i n hd
    obtain ⟨v, ev, rv⟩ := rs.at' i _ hd
    simp only [RD] at rv
    obtain ⟨a, e, hn⟩ := rv
    split at g
    · rename_i ks ds hS
      obtain ⟨vs, hH, hl⟩ := lock_rep rp hn hS
      refine ⟨a, _, hH, trivial, fun od => ?_⟩
      obtain ⟨rp1, st1⟩ := hl od
      refine ⟨ι, _, δ, rp1, rs.mono st1.up, ?_⟩
      have ha := List.mem_of_getElem? hn
      revert g
      cases me δ (S.set n (.dKL ks ds)) with
      | ok d S' =>
        intro g ι' H' v s2 rp2 r2
        have q1 := s2.up.frz a _ _ (upd_same (o := .frz od (.dK (ks.zip vs))))
        have q2 := s2.up.pre n a hn
        simp only [R.bind_ok] at g
        split at g
        · rename_i hS2
          exact ⟨q1, g ι' _ v (unlock_step rp ha hH s2) (unlock_rep rp2 q2 hS2 q1) (RD.mono0 (unlock_l0 (List.mem_of_getElem? q2) q1) d v r2)⟩
        · exact g.elim
      | exc c S' => exact fun g ι' H' cls dx s2 rp2 rx => g ι' H' cls dx (st1.trans s2) rp2 rx
      | stuck => exact fun g => g.elim
    · exact g.elim
  · exact g.elim
/-- the keys of a locked dict -/
def sKeys (e : Em) : Src := fun δ S => (e δ S).bind fun d S1 => match d with
  | .ref n => match S1[n]? with
    | some (.dKL ks ds) => if ks.all keyFit = true then .ok (ks.map keyD, fun S => S[n]? = some (.dKL ks ds)) S1 else .stuck
    | _ => .stuck
  | _ => .stuck
theorem rd_keyD {H : Hp} {ι : Z} {k : Key} (h : keyFit k = true) : RD H ι (keyD k) (kV k) := by
  cases k with
  | inl i => simp only [keyD, RD]; rfl
  | inr s => simp only [keyD, RD]; exact ⟨rfl, of_decide_eq_true h⟩
theorem di_keys {tg : Expr} (he : DE X W e me) : DI X W tg e (sKeys me) :=
  pi_imp (pi_keys he) fun σ H R h => t_bind h fun ι S δ d v H1 rp rs rd g => by
    cases d with
    | ref n =>
      simp only [RD] at rd
      obtain ⟨a, e, hn⟩ := rd
      dsimp only at g
      split at g
      · rename_i ks ds hS
        split at g
        · rename_i hk
          obtain ⟨o, vs, h3, hz, hl, h4⟩ := rp.obj n a _ hn hS
          have hlen : (ks.zip vs).length = ks.length := by rw [List.length_zip, ← h4.length, hz]; simp
          refine ⟨a, o, e, .inl ⟨ks.zip vs, h3, g.here rp ⟨by rw [List.length_map]; exact hl, fun j H2 ι2 S2 lf rp2 gr => ?_⟩⟩⟩
          have hf := lf.frz a _ _ h3
          rw [List.length_map]
          refine ⟨fun hj => ⟨⟨hf, by rw [hlen]; exact hj⟩, fun x H3 ⟨e3, k, v, e4, e5⟩ => ?_⟩, fun hj => ⟨hf, by rw [hlen]; exact hj⟩⟩
          subst e3 e5
          have hkj : ks[j]? = some k := by
            have := List.getElem?_zip_eq_some.mp e4
            exact this.1
          refine ⟨keyD k, by rw [List.getElem?_map, hkj]; rfl, .refl, rp2, rd_keyD (List.all_eq_true.mp hk k (List.mem_of_getElem? hkj))⟩
        · exact g.elim
      · exact g.elim
    | _ => exact g.elim
end
end PM

set_option maxHeartbeats 1000000
/-! PM, part 36: get, setdefault, pop, clear of dicts; copies -/
namespace PM
open PySem PySem.Spec L2
section
variable {X : Cx} {W : WX} {o e f : Expr} {mo me mf : Em} {apos cpos : Pos}
def isDct (S : Sto) (x : D) : Bool := (dkOf S x).isSome
theorem isDct_ok {H : Hp} {ι : Z} {mg : EnvK} {S : Sto} {d : D} {v : V} (rp : Rep H ι mg S) (r : RD H ι d v) (h : isDct S d = true) : ∃ a, v = .ref a ∧ IsD H a := by
  unfold isDct at h
  obtain ⟨p, hp⟩ := Option.isSome_iff_exists.mp h
  obtain ⟨a, vs, e, h1, _⟩ := dkOf_ok rp r hp
  exact ⟨a, e, .inl ⟨_, h1⟩⟩
def mD3 (k : D → D → D → Sto → R D) (o e f : Em) : Em := fun δ S => (o δ S).bind fun x S1 => if isDct S1 x = true then (e δ S1).bind fun y S2 => (f δ S2).bind fun z S3 => k x y z S3 else .stuck
/-- the three are worked out, the first a dict -/
theorem d3_bind {k : D → D → D → Sto → R D} {T : Addr → V → V → L2.VK → Hp → Prop} {σ : L2.St} {H : Hp} {Q : L2.VK} (h : tDE X.ek W (mD3 k mo me mf) σ H Q)
    (hk : ∀ (W' : XK) (ι : Z) (S : Sto) (H : Hp) (a : Addr) (y z : V) (dx dy dz : D), Rep H ι X.ek S → RD H ι dx (.ref a) → RD H ι dy y → RD H ι dz z → G X.ek W' ι H RD (k dx dy dz S) Q → T a y z Q H) :
    tDE X.ek W mo σ H fun x H1 => ∃ a, x = .ref a ∧ IsD H1 a ∧ tDE X.ek W me σ H1 fun y H2 => tDE X.ek W mf σ H2 fun z H3 => T a y z Q H3 := by
  obtain ⟨ι, S, δ, rp, rs, g⟩ := h
  refine ⟨ι, S, δ, rp, rs, (G.bind g).imp fun v H1 ⟨ι1, S1, d, st, rp1, rd, g1⟩ => ?_⟩
  split at g1
  · rename_i hd
    obtain ⟨a, e, hi⟩ := isDct_ok rp1 rd hd
    subst e
    refine ⟨a, rfl, hi, ι1, S1, δ, rp1, rs.mono st.up, (G.bind g1).imp fun y H2 ⟨ι2, S2, dy, st2, rp2, ry, g2⟩ => ?_⟩
    exact ⟨ι2, S2, δ, rp2, rs.mono (st.trans st2).up, (G.bind g2).imp fun z H3 ⟨ι3, S3, dz, st3, rp3, rz, g3⟩ => hk _ ι3 S3 H3 a y z d dy dz rp3 (rd.mono (st2.trans st3).up) (ry.mono st3.up) rz g3⟩
  · exact g1.elim
def kGet (x y z : D) (S : Sto) : R D := match dget S x y with
  | some (some v) => .ok v S
  | some none => .ok z S
  | none => .stuck
theorem de_dget2 (hr : Ru X.A) (ho : DE X W o mo) (he : DE X W e me) (hf : DE X W f mf) (m : M2 X o "get" apos e f cpos) : DE X W (.Call (.Attribute o "get" apos) [e, f] [] cpos) (mD3 kGet mo me mf) :=
  pe_imp (pe_dget2 hr.hu ho he hf m) fun σ H Q h => d3_bind (T := fun a y z Q H => ∃ o, DGet H a y o ∧ Q (o.getD z) H) h fun W' ι S H a y z dx dy dz rp rx ry rz g => by
    unfold kGet at g
    split at g
    · rename_i v hv
      obtain ⟨b, ov, e1, g1, w, e2, r2⟩ := dget_ok rp rx ry hv
      cases e1
      exact ⟨ov, g1, by rw [e2]; exact g.here rp r2⟩
    · rename_i hv
      obtain ⟨b, ov, e1, g1, e2⟩ := dget_ok rp rx ry hv
      cases e1
      have e2 : ov = none := e2
      exact ⟨ov, g1, by rw [e2]; exact g.here rp rz⟩
    · exact g.elim
/-- setdefault of an object's dict -/
def kSetd (x y z : D) (S : Sto) : R D := match x with
  | .ref n => match S[n]? with
    | some (.dK ks ds) => match keyOf y with
      | some k => if ks.length < sizeLine then (match getK ks ds k with
        | some v => .ok v S
        | none => .ok z (S.set n (.dK (insK ks k) (insD ks ds k z)))) else .stuck
      | none => .stuck
    | _ => .stuck
  | _ => .stuck
theorem de_dsetd (ho : DE X W o mo) (he : DE X W e me) (hf : DE X W f mf) (m : M2 X o "setdefault" apos e f cpos) : DE X W (.Call (.Attribute o "setdefault" apos) [e, f] [] cpos) (mD3 kSetd mo me mf) :=
  pe_imp (pe_dsetd ho he hf m) fun σ H Q h => d3_bind (T := fun a y z Q H => ∃ (kvs : List (Key × V)) (k : Key), H a = some (.dK kvs) ∧ y = kV k ∧ kvs.length < sizeLine ∧ (∀ v, valV kvs k = some v → Q v H) ∧ (valV kvs k = none → Q z (upd H a (.dK (putK kvs k z))))) h fun W' ι S H a y z dx dy dz rp rx ry rz g => by
    unfold kSetd at g
    split at g
    · rename_i n
      simp only [RD] at rx
      obtain ⟨b, eb, h1⟩ := rx
      cases eb
      split at g
      · rename_i ks ds hS
        obtain ⟨vs, h3, hl, hz, h4⟩ := rp.obj n a _ h1 hS
        split at g
        · rename_i k hk
          split at g
          · rename_i hlt
            have lv : (ks.zip vs).length = ks.length := by rw [List.length_zip, ← h4.length, hl]; simp
            have ov := getK_val (k := k) hl h4
            refine ⟨ks.zip vs, k, h3, keyOf_ok ry hk, by rw [lv]; exact hlt, fun v hv => ?_, fun hv => ?_⟩
            · rw [hv] at ov
              split at g
              · rename_i d hd
                rw [hd] at ov
                obtain ⟨w, e2, r2⟩ := ov
                cases e2
                exact g.here rp r2
              · rename_i hd
                rw [hd] at ov
                cases ov
            · rw [hv] at ov
              split at g
              · rename_i d hd
                rw [hd] at ov
                obtain ⟨w, e2, r2⟩ := ov
                cases e2
              · obtain ⟨ws0, p1, p2, p3⟩ := insK_put (k := k) hl h4 rz
                have hm : ∀ u, H a = some u → Mk u := fun _ e' => by rw [h3] at e'; cases e'; exact .intro (fun _ _ q => nomatch q) (fun _ _ q => nomatch q)
                have st : Lift ι H ι (upd H a (.dK ((insK ks k).zip ws0))) := Lift.write (.inl (List.mem_of_getElem? h1)) hm
                obtain ⟨rp2, st2⟩ := rp.write (m := .dK (insK ks k) (insD ks ds k dz)) (o := .dK ((insK ks k).zip ws0)) h1 hm ⟨_, upd_same, p2, by have := insK_len ks k; omega, p3.mono st⟩
                rw [p1]
                exact g.at st2 rp2 (rz.mono st)
          · exact g.elim
        · exact g.elim
      · exact g.elim
    · exact g.elim
def delK (ks : List Key) (k : Key) : List Key := ks.filter fun j => decide (j ≠ k)
def delD : List Key → List D → Key → List D
  | j :: ks, d :: ds, k => if j = k then delD ks ds k else d :: delD ks ds k
  | _, _, _ => []
theorem del_drop {H : Hp} {ι : Z} {k : Key} : ∀ {ks : List Key} {ds : List D} {vs : List V}, ks.length = ds.length → RDs H ι ds vs →
    ∃ ws, dropK (ks.zip vs) k = (delK ks k).zip ws ∧ (delK ks k).length = (delD ks ds k).length ∧ (delK ks k).length ≤ ks.length ∧ RDs H ι (delD ks ds k) ws
  | [], [], vs, _, r => by
    simp only [RDs] at r
    subst r
    exact ⟨[], rfl, rfl, Nat.le_refl _, .nil⟩
  | j :: ks, d :: ds, vs, h, r => by
    simp only [RDs] at r
    obtain ⟨v, w, e, r1, r2⟩ := r
    subst e
    obtain ⟨ws, h1, h2, h3, h4⟩ := del_drop (k := k) (by simpa using h) r2
    by_cases c : j = k
    · refine ⟨ws, ?_, ?_, ?_, ?_⟩
      · rw [List.zip_cons_cons, dropK, List.filter_cons_of_neg (by simp [c]), delK, List.filter_cons_of_neg (by simp [c])]; exact h1
      · rw [delK, List.filter_cons_of_neg (by simp [c]), delD, if_pos c]; exact h2
      · rw [delK, List.filter_cons_of_neg (by simp [c])]; exact Nat.le_succ_of_le h3
      · rw [delD, if_pos c]; exact h4
    · refine ⟨v :: ws, ?_, ?_, ?_, ?_⟩
      · rw [List.zip_cons_cons, dropK, List.filter_cons_of_pos (by simp [c]), delK, List.filter_cons_of_pos (by simp [c]), List.zip_cons_cons]
        exact congrArg _ h1
      · rw [delK, List.filter_cons_of_pos (by simp [c]), delD, if_neg c, List.length_cons, List.length_cons]; exact congrArg _ h2
      · rw [delK, List.filter_cons_of_pos (by simp [c]), List.length_cons, List.length_cons]; exact Nat.succ_le_succ h3
      · rw [delD, if_neg c]; exact .cons r1 h4
/-- pop with a default -/
def kPop (x y z : D) (S : Sto) : R D := match x with
  | .ref n => match S[n]? with
    | some (.dK ks ds) => match keyOf y with
      | some k => match getK ks ds k with
        | some v => .ok v (S.set n (.dK (delK ks k) (delD ks ds k)))
        | none => .ok z S
      | none => .stuck
    | _ => .stuck
  | _ => .stuck
theorem de_dpop2 (ho : DE X W o mo) (he : DE X W e me) (hf : DE X W f mf) (m : M2 X o "pop" apos e f cpos) : DE X W (.Call (.Attribute o "pop" apos) [e, f] [] cpos) (mD3 kPop mo me mf) :=
  pe_imp (pe_dpop2 ho he hf m) fun σ H Q h => d3_bind (T := fun a y z Q H => ∃ kvs k, H a = some (.dK kvs) ∧ y = kV k ∧ (∀ v, valV kvs k = some v → Q v (upd H a (.dK (dropK kvs k)))) ∧ (valV kvs k = none → Q z H)) h fun W' ι S H a y z dx dy dz rp rx ry rz g => by
    unfold kPop at g
    split at g
    · rename_i n
      simp only [RD] at rx
      obtain ⟨b, eb, h1⟩ := rx
      cases eb
      split at g
      · rename_i ks ds hS
        obtain ⟨vs, h3, hl, hz, h4⟩ := rp.obj n a _ h1 hS
        split at g
        · rename_i k hk
          have ov := getK_val (k := k) hl h4
          refine ⟨ks.zip vs, k, h3, keyOf_ok ry hk, fun v hv => ?_, fun hv => ?_⟩
          · rw [hv] at ov
            split at g
            · rename_i d hd
              rw [hd] at ov
              obtain ⟨w, e2, r2⟩ := ov
              cases e2
              obtain ⟨ws0, p1, p2, p3, p4⟩ := del_drop (k := k) hl h4
              have hm : ∀ u, H a = some u → Mk u := fun _ e' => by rw [h3] at e'; cases e'; exact .intro (fun _ _ q => nomatch q) (fun _ _ q => nomatch q)
              have st : Lift ι H ι (upd H a (.dK ((delK ks k).zip ws0))) := Lift.write (.inl (List.mem_of_getElem? h1)) hm
              obtain ⟨rp2, st2⟩ := rp.write (m := .dK (delK ks k) (delD ks ds k)) (o := .dK ((delK ks k).zip ws0)) h1 hm ⟨_, upd_same, p2, Nat.le_trans p3 hz, p4.mono st⟩
              rw [p1]
              exact g.at st2 rp2 (r2.mono st)
            · rename_i hd
              rw [hd] at ov
              cases ov
          · rw [hv] at ov
            split at g
            · rename_i d hd
              rw [hd] at ov
              obtain ⟨w, e2, r2⟩ := ov
              cases e2
            · exact g.here rp rz
        · exact g.elim
      · exact g.elim
    · exact g.elim
/-- dict(d), d a dict: a copy that may be changed -/
def cDictC (ds : List D) (S : Sto) : R D := match ds with
  | [d] => match dkOf S d with
    | some p => .ok (.ref S.length) (S ++ [.dK p.1 p.2])
    | none => .stuck
  | _ => .stuck
theorem call_dcopy : CallR X (.type "dict") (fun xs H Q => ∃ a kvs, xs = [V.ref a] ∧ Rd H a (.dK kvs) ∧ kvs.length ≤ sizeLine ∧ ∀ p, H p = none → Q (.ref p) (upd H p (.dK kvs))) := by
  rintro pins s σ H xs us Q I r ⟨a, kvs, rfl, h1, hz, q⟩
  obtain ⟨u, rfl, ru⟩ := vals1 r
  obtain rfl : u = Value.ref a := ru
  exact d_copyOf I h1 fun p s' hp I' => ⟨.ref p, _, I', rfl, q p hp⟩
theorem cDictC_ok : CallD X (.type "dict") cDictC := by
  refine ⟨_, call_dcopy, fun W ι S H xs dxs Q rp rx q => ?_⟩
  unfold cDictC at q
  split at q
  · rename_i d
    obtain ⟨v, e, r⟩ := rds_one rx
    subst e
    split at q
    · rename_i p hp
      obtain ⟨a, vs, e, h1, hl, h2⟩ := dkOf_ok rp r hp
      subst e
      have hz : p.1.length ≤ sizeLine := by
        cases d with
        | dct ks ds =>
          simp only [dkOf, Option.some.injEq] at hp; subst hp
          simp only [RD] at r
          obtain ⟨_, _, _, _, _, _, y, _⟩ := r
          exact y
        | ref n =>
          simp only [RD] at r
          obtain ⟨a, e, hn⟩ := r
          obtain ⟨o, e2, ro⟩ := rp.has hn
          simp only [dkOf, e2] at hp
          cases o with
          | dK ks ds =>
            simp only [Option.some.injEq] at hp; subst hp
            obtain ⟨_, _, _, y, _⟩ := ro
            exact y
          | dKL ks ds =>
            simp only [Option.some.injEq] at hp; subst hp
            obtain ⟨_, _, _, _, y, _⟩ := ro
            exact y
          | _ => cases hp
        | _ => cases hp
      have lv : (p.1.zip vs).length = p.1.length := by rw [List.length_zip, ← h2.length, hl]; simp
      refine ⟨a, _, rfl, h1, by rw [lv]; exact hz, fun c hc => ?_⟩
      have q2 := rep_newRef (m := .dK p.1 p.2) (u := .dK (p.1.zip vs)) rp hc ⟨vs, upd_same, hl, hz, h2.mono (Step.newRef hc).up⟩
      exact q.at (Step.newRef hc) q2.1 q2.2
    · exact q.elim
  · exact q.elim
/-- clear, of an object's dict -/
def mDClear (o : Em) : Em := fun δ S => (o δ S).bind fun x S1 => match x with
  | .ref n => match S1[n]? with
    | some (.dK _ _) => .ok .non (S1.set n (.dK [] []))
    | _ => .stuck
  | _ => .stuck
theorem de_dclear (ho : DE X W o mo) (hbase : attributeBase o "clear" X.env (eval o X.env) = eval o X.env := by rfl) (hline : (apos.endLine == cpos.line) = true := by rfl) : DE X W (.Call (.Attribute o "clear" apos) [] [] cpos) (mDClear mo) :=
  pe_imp (pe_dclear ho hbase hline) fun σ H Q h => t_bind h fun ι S δ d v H1 rp rs rd g => by
    cases d with
    | ref n =>
      simp only [RD] at rd
      obtain ⟨a, e, h1⟩ := rd
      subst e
      dsimp only at g
      split at g
      · rename_i ks ds hS
        obtain ⟨vs, h3, hl, hz, h4⟩ := rp.obj n a _ h1 hS
        have hm : ∀ u, H1 a = some u → Mk u := fun _ e' => by rw [h3] at e'; cases e'; exact .intro (fun _ _ q => nomatch q) (fun _ _ q => nomatch q)
        obtain ⟨rp2, st2⟩ := rp.write (m := .dK [] []) (o := .dK []) h1 hm ⟨[], upd_same, rfl, Nat.zero_le _, .nil⟩
        exact ⟨.inr (.inr (.inl ⟨rfl, .inl ⟨_, h3⟩⟩)), a, _, rfl, rfl, h3, g.at st2 rp2 (by simp only [RD])⟩
      · exact g.elim
    | _ => exact g.elim
end
end PM

set_option maxHeartbeats 1000000
/-! PM, part 37: sorted(pairs of a text and anything), no two of one text -/
namespace PM
open PySem PySem.Spec L2 PyProof.Rows
def ltT (a b : Str) : Bool := decide (a.cps.toList < b.cps.toList)
theorem ltT_eq (a b : Str) : ltT a b = ltCps a.cps.toList b.cps.toList := (ltC_iff _ _).symm
theorem leS_ltT {a b : Str} : leS a b = !ltT b a := by rw [ltT_eq]; rfl
/-- v is a tuple of the text l and one thing -/
def LPair (h : Heap) (v : Value) (l : Str) : Prop := ∃ a o t u n, v = .ref a ∧ h.get? a = some o ∧ o.cls = .type "tuple" ∧ o.data = .seq #[.str l t, u] n
theorem LPair.keeps {h h' : Heap} {v : Value} {l : Str} (p : LPair h v l) (k : ∀ b o, h.get? b = some o → o.cls = .type "tuple" → h'.get? b = some o) : LPair h' v l := by
  obtain ⟨a, o, t, u, n, e, ho, hc, hd⟩ := p
  exact ⟨a, o, t, u, n, e, k _ _ ho hc, hc, hd⟩
section
variable {prog : Program} {w : World} {A : Around} {E : Value → Shared → Prop} {s : Shared}
theorem swo_lab (k : Value → Str) : SrtO.Swo fun v u => ltT (k v) (k u) := by
  refine ⟨fun x y h => ?_, fun x y z h1 h2 => ?_⟩
  · rw [ltT_eq] at h ⊢
    exact lt_asym _ _ h
  · rw [ltT_eq] at h1 h2 ⊢
    cases h : ltCps (k z).cps.toList (k x).cps.toList with
    | false => rfl
    | true =>
      rcases lt_cot _ (k y).cps.toList _ h with h3 | h3
      · rw [h3] at h2; cases h2
      · rw [h3] at h1; cases h1
theorem lab_cmp {vs : List Value} {k : Value → Str} (hp : ∀ v ∈ vs, LPair s.heap v (k v)) (hk : ∀ v ∈ vs, ∀ u ∈ vs, k v = k u → v = u) : SrtO.Cmp prog w A s (tuples' true) (fun p => p.1 ∈ vs) (SrtO.lt2 fun v u => ltT (k v) (k u)) := by
  intro p q hm hm'
  show wpAny (model prog w) A (keyLt' (tuples' true) p.1 q.1) (fun r s' => s' = s ∧ r = ltT (k p.1) (k q.1)) (fun _ _ => False) s
  by_cases e : k p.1 = k q.1
  · have e2 := hk _ hm _ hm' e
    rw [← e2]
    obtain ⟨a, o, t, u, n, e3, ho, hc, hd⟩ := hp _ hm
    rw [e3]
    refine PySem.W.kat_lt ho hd ho hd ?_
    refine PySem.W.kat_cons (SeqAt.EqAt.same _ prog w _ _ ?_)
    refine PySem.W.kat_yes (PySem.W.kat_cons (SeqAt.EqAt.same _ prog w _ _ ?_))
    refine PySem.W.kat_yes (PySem.W.kat_nil ⟨rfl, ?_⟩)
    rw [ltT_eq, lt_irr]; rfl
  · obtain ⟨a, o, t, u, n, e3, ho, hc, hd⟩ := hp _ hm
    obtain ⟨a', o', t', u', n', e4, ho', hc', hd'⟩ := hp _ hm'
    generalize k p.1 = x at *
    generalize k q.1 = y at *
    rw [e3, e4]
    refine PySem.W.kat_lt ho hd ho' hd' ?_
    refine PySem.W.kat_cons (SeqAt.EqAt.str_str x t y t' prog w _ _ ?_)
    refine PySem.W.kat_go (fun e1 => absurd (by simpa using e1) e) fun _ => PySem.W.kat_no (oneLt_str ⟨rfl, rfl⟩)
theorem lab_firsts {h : Heap} {k : Value → Str} : ∀ {vs : List Value}, (∀ v ∈ vs, LPair h v (k v)) → ∃ fs : List Value, PySem.W.KatTups h vs fs ∧ fs.length = vs.length ∧ ∀ f ∈ fs, ∃ x t, f = Value.str x t
  | [], _ => ⟨[], PySem.W.KatTups.nil, rfl, fun _ hm => by simp at hm⟩
  | v :: vs, hp => by
    obtain ⟨fs, h1, h2, h3⟩ := lab_firsts (vs := vs) fun v' hm => hp v' (List.mem_cons_of_mem _ hm)
    obtain ⟨a, o, t, u, n, e, ho, hc, hd⟩ := hp v List.mem_cons_self
    refine ⟨.str (k v) t :: fs, ?_, by rw [List.length_cons, List.length_cons, h2], fun f hm => ?_⟩
    · generalize k v = z at *
      subst e
      exact PySem.W.KatTups.cons ho hc hd rfl h1
    rcases List.mem_cons.mp hm with rfl | hm
    · exact ⟨_, _, rfl⟩
    · exact h3 f hm
theorem lab_sortable {a : Addr} {vs : List Value} {k : Value → Str} (h0 : 0 < vs.length) (hp : ∀ v ∈ vs, LPair s.heap v (k v)) (hk : ∀ v ∈ vs, ∀ u ∈ vs, k v = k u → v = u) (ha : ∀ o, s.heap.get? a = some o → o.cls ≠ .type "tuple") :
    SrtO.SortableO prog w A s a vs fun v u => ltT (k v) (k u) := by
  intro h' keep
  have hp' : ∀ v ∈ vs, LPair h' v (k v) := fun v hm => (hp v hm).keeps fun b o e c => keep b o (fun z => by subst z; exact ha o e c) e
  obtain ⟨fs, h1, h2, h3⟩ := lab_firsts hp'
  refine ⟨tuples' true, fun Q E hq => ?_, lab_cmp hp' hk⟩
  refine PySem.W.kat_kind (T := .type "str") h1 (by omega) (fun f hm => ?_) (by rfl) ?_
  · obtain ⟨x, t, rfl⟩ := h3 f hm
    exact PySem.W.Looks.now
  · rw [show (Value.type "str" != Value.type "tuple") = true from by decide +kernel]
    exact hq
end
/-- sorted(xs), xs a list of pairs, k their texts, no two alike -/
def rSortedL (K : PySem.W.Frag) : List V → Hp → L2.VK → Prop := fun vs H Q => ∃ (a : Addr) (xs : List V) (k : V → Str), vs = [V.ref a] ∧ SqL K H a xs ∧ (∀ x ∈ xs, ∃ t y, x = V.ref t ∧ Tp H t [.str (k x), y]) ∧ (∀ x ∈ xs, ∀ y ∈ xs, k x = k y → x = y) ∧
  ∀ ys p, ys.Perm xs → ys.Pairwise (fun x y => leS (k x) (k y) = true) → H p = none → Q (.ref p) (upd H p (.lst ys))
section
variable {X : Cx}
theorem cr_sortedL : CallR X (.builtin "sorted") (rSortedL X.K) := by
  rintro pins s σ H vs us Q I r ⟨a, xs, k, rfl, hs, hx, hk, q⟩
  obtain ⟨its, rv, hl, hz⟩ := I.list hs
  obtain ⟨u, rfl, ru⟩ := vals1 r
  obtain rfl : u = Value.ref a := ru
  obtain ⟨e1, e2⟩ := refs_back rv fun x m => by
    obtain ⟨t, _, e, _⟩ := hx x m
    exact ⟨t, e⟩
  have mem : ∀ v ∈ its, backV v ∈ xs := fun v hv => by rw [e1]; exact List.mem_map.mpr ⟨v, hv, rfl⟩
  have back : ∀ v ∈ its, ∀ u ∈ its, backV v = backV u → v = u := fun v hv u hu e => by
    obtain ⟨t, rfl⟩ := e2 v hv
    obtain ⟨t', rfl⟩ := e2 u hu
    cases e; rfl
  have hp : ∀ v ∈ its, LPair s.heap v (k (backV v)) := fun v hv => by
    obtain ⟨t, rfl⟩ := e2 v hv
    obtain ⟨t', y, e, ob, ht, _⟩ := hx _ (mem _ hv)
    cases e
    obtain ⟨hg, _, its2, r2, o, ho, hc, n, hd⟩ := (show ObjOk X.prog X.w H s.heap t (.frz ob (.tup [.str (k (V.ref t)), y])) from I.hok t _ ht)
    obtain ⟨u1, u2, rfl, ri, rj⟩ := vals2 r2
    obtain ⟨t1, rfl⟩ := ri
    exact ⟨t, o, t1, u2, n, rfl, ho, hc, hd⟩
  have hk2 : ∀ v ∈ its, ∀ u ∈ its, k (backV v) = k (backV u) → v = u := fun v hv u hu e => back v hv u hu (hk _ (mem v hv) _ (mem u hu) e)
  refine SrtO.sorted_ord (swo_lab fun u => k (backV u)) hl.isList (by rw [← rv.length]; exact hz) (fun h2 h₁ b ha kk => ?_) fun out hs2 hb => ?_
  · refine lab_sortable (s := { s with heap := h₁ }) (by omega) (fun v hv => (hp v hv).keeps fun b o e _ => (kk b o e).2) hk2 fun o e => ?_
    have e' : some o = some (seqObj "list" its.toArray 0) := e.symm.trans ha
    cases e'
    exact fun c => absurd (Value.type.inj c) (by decide)
  · have h3 : ∀ u ∈ out, ∃ a, u = Value.ref a := fun u hu => e2 u (hb.perm.mem_iff.mp hu)
    obtain ⟨n, hn⟩ := sortedAll_at s.heap its out.toArray
    have hperm : (out.map backV).Perm xs := by
      rw [e1]
      exact hb.perm.map _
    refine ⟨.ref _, upd H (s.heap.objs.size + 1) (.lst (out.map backV)), I.laid (t' := s.toks) (fun _ _ => sortedAll_old) (Nat.le_succ _) ⟨by rw [hperm.length_eq]; exact hz, out, n, vals_back h3, hn⟩, rfl, q _ _ hperm ?_ (I.hok.fresh (Nat.le_succ _))⟩
    rw [List.pairwise_map]
    exact hs2.imp fun {x y} h => by
      have h : ltT (k (backV y)) (k (backV x)) = false := h
      rw [leS_ltT, h]; rfl
end
/-! ### in the data -/
def isFld : D → Bool
  | .tup [.str _, _] => true
  | _ => false
/-- the pairs by their texts -/
def sortF (ds : List D) : List D := (sortStr (ds.map labD)).map fun l => (ds.find? fun d => decide (labD d = l)).getD .non
def cSortedF (ds : List D) (S : Sto) : R D := match ds with
  | [d] => match rdL S d with
    | some es => if es.all isFld = true ∧ (es.map labD).Nodup then .ok (.lst (sortF es)) S else .stuck
    | none => .stuck
  | _ => .stuck
theorem rds_of_all {H : Hp} {ι : Z} {f : V → D} : ∀ {ys : List V}, (∀ y ∈ ys, RD H ι (f y) y) → RDs H ι (ys.map f) ys
  | [], _ => .nil
  | y :: ys, h => .cons (h y (by simp)) (rds_of_all fun z hz => h z (by simp [hz]))
open Classical in
noncomputable def labV (H : Hp) (x : V) : Str := if h : ∃ l t y, x = V.ref t ∧ Tp H t [.str l, y] then Classical.choose h else Str.empty
theorem labV_eq {H : Hp} {x y : V} {t : Addr} {l : Str} (e : x = V.ref t) (h : Tp H t [.str l, y]) : labV H x = l := by
  have hx : ∃ l t y, x = V.ref t ∧ Tp H t [.str l, y] := ⟨l, t, y, e, h⟩
  unfold labV
  rw [dif_pos hx]
  obtain ⟨t', y', e2, h2⟩ := Classical.choose_spec hx
  rw [e] at e2
  cases e2
  obtain ⟨o, h, _⟩ := h
  obtain ⟨o', h2, _⟩ := h2
  rw [h] at h2
  cases h2
  rfl
theorem fld_v {H : Hp} {ι : Z} {d : D} {v : V} (r : RD H ι d v) (h : isFld d = true) : ∃ t y, v = V.ref t ∧ Tp H t [.str (labD d), y] := by
  unfold isFld at h
  split at h
  · rename_i l e
    simp only [RD] at r
    obtain ⟨a, vs, e1, h1, z, h2⟩ := r
    simp only [RDs, RD] at h2
    obtain ⟨v1, r1, e2, ⟨e3, _⟩, v2, r2, e4, _, e5⟩ := h2
    subst e2 e3 e4 e5
    exact ⟨a, v2, e1, h1⟩
  · cases h
theorem cSortedF_ok {X : Cx} : CallD X (.builtin "sorted") cSortedF := by
  refine ⟨_, cr_sortedL, fun W ι S H xs dxs Q rp rx q => ?_⟩
  unfold cSortedF at q
  split at q
  · rename_i d
    obtain ⟨v, e, r⟩ := rds_one rx
    subst e
    split at q
    · rename_i es hes
      split at q
      · rename_i hc
        obtain ⟨a, vs, e, hq, r2, z⟩ := rdL_ok rp r hes
        subst e
        have hlen := r2.length
        have at1 : ∀ x ∈ vs, ∃ d ∈ es, RD H ι d x ∧ labV H x = labD d := fun x hx => by
          obtain ⟨i, hi⟩ := List.getElem?_of_mem hx
          obtain ⟨d, hd, rd⟩ := get_rds r2 hi
          have hm := List.mem_of_getElem? hd
          obtain ⟨t, y, e, h⟩ := fld_v rd (List.all_eq_true.mp hc.1 d hm)
          exact ⟨d, hm, rd, labV_eq e h⟩
        have labs : vs.map (labV H) = es.map labD := by
          apply List.ext_getElem?
          intro i
          rw [List.getElem?_map, List.getElem?_map]
          cases hv : vs[i]? with
          | none =>
            have : es[i]? = none := by rw [List.getElem?_eq_none_iff] at hv ⊢; omega
            rw [this]; rfl
          | some x =>
            obtain ⟨d, hd, rd⟩ := get_rds r2 hv
            obtain ⟨t, y, e, h⟩ := fld_v rd (List.all_eq_true.mp hc.1 d (List.mem_of_getElem? hd))
            rw [hd]
            show some (labV H x) = some (labD d)
            rw [labV_eq e h]
        have inj : ∀ x ∈ vs, ∀ y ∈ vs, labV H x = labV H y → x = y := by
          have nd : (vs.map (labV H)).Nodup := by rw [labs]; exact hc.2
          intro x hx y hy e
          obtain ⟨i, hi⟩ := List.getElem?_of_mem hx
          obtain ⟨j, hj⟩ := List.getElem?_of_mem hy
          have h1 : (vs.map (labV H))[i]? = some (labV H x) := by rw [List.getElem?_map, hi]; rfl
          have h2 : (vs.map (labV H))[j]? = some (labV H x) := by rw [List.getElem?_map, hj, e]; rfl
          obtain ⟨l1, e1⟩ := List.getElem?_eq_some_iff.mp h1
          obtain ⟨l2, e2⟩ := List.getElem?_eq_some_iff.mp h2
          have := (List.getElem_inj nd).mp (e1.trans e2.symm)
          subst this
          rw [hi] at hj
          exact Option.some.inj hj
        refine ⟨a, vs, labV H, rfl, hq, fun x hx => ?_, inj, fun ys p hp hs hpn => ?_⟩
        · obtain ⟨d, hm, rd, e⟩ := at1 x hx
          obtain ⟨t, y, e2, h⟩ := fld_v rd (List.all_eq_true.mp hc.1 d hm)
          exact ⟨t, y, e2, by rw [e]; exact h⟩
        · have hys : ys.map (labV H) = sortStr (es.map labD) := by
            refine sorted_uniq ?_ (List.pairwise_map.mpr hs) (sortStr_sorted _)
            exact ((hp.map _).trans (List.Perm.of_eq labs)).trans (sortStr_perm _).symm
          have hr : RDs H ι (sortF es) ys := by
            unfold sortF
            rw [← hys, List.map_map]
            refine rds_of_all fun y hy => ?_
            obtain ⟨d, hm, rd, e⟩ := at1 y (hp.mem_iff.mp hy)
            have hf : es.find? (fun d' => decide (labD d' = labV H y)) = some d := by
              cases hff : es.find? (fun d' => decide (labD d' = labV H y)) with
              | none =>
                rw [List.find?_eq_none] at hff
                exact absurd (decide_eq_true e.symm) (hff d hm)
              | some d' =>
                have h1 : labD d' = labV H y := of_decide_eq_true (List.find?_some (p := fun d' => decide (labD d' = labV H y)) hff)
                have h2 := List.mem_of_find?_eq_some hff
                congr 1
                obtain ⟨i, hi⟩ := List.getElem?_of_mem hm
                obtain ⟨j, hj⟩ := List.getElem?_of_mem h2
                have k1 : (es.map labD)[i]? = some (labD d) := by rw [List.getElem?_map, hi]; rfl
                have k2 : (es.map labD)[j]? = some (labD d) := by rw [List.getElem?_map, hj, ← e, ← h1]; rfl
                obtain ⟨l1, e1⟩ := List.getElem?_eq_some_iff.mp k1
                obtain ⟨l2, e2⟩ := List.getElem?_eq_some_iff.mp k2
                have := (List.getElem_inj hc.2).mp (e1.trans e2.symm)
                subst this
                rw [hi] at hj
                exact (Option.some.inj hj).symm
            show RD H ι (((es.find? fun d' => decide (labD d' = labV H y))).getD .non) y
            rw [hf]
            exact rd
          have hz : (sortF es).length ≤ sizeLine := by
            rw [hr.length, hp.length_eq, ← hlen]; exact z
          exact q.at (Step.new hpn) (rp.new hpn) (rd_newLst rp hr hz hpn)
      · exact q.elim
    · exact q.elim
  · exact q.elim
end PM

set_option maxHeartbeats 1000000
/-! PM, part 38: max(whole numbers, default=d) -/
namespace PM
open PySem PySem.Spec L2 PyProof.Rows
def maxDef (d : Int) : List Int → Int
  | [] => d
  | n :: ns => ns.foldl max n
def rMaxD (K : PySem.W.Frag) : List V → List V → Hp → L2.VK → Prop := fun vs zs H Q => ∃ (a : Addr) (ns : List Int) (d : Int), vs = [V.ref a] ∧ zs = [V.int d] ∧ SqL K H a (ns.map V.int) ∧ Q (.int (maxDef d ns)) H
theorem reads_ints {h : Heap} : ∀ {ns : List Int} {us : List Value}, Vals (ns.map V.int) us → ReadsAll h us (ns.map .int) []
  | [], _, .nil => .nil
  | n :: ns, _ :: _, .cons r t => by
    obtain ⟨t', rfl⟩ := r
    exact .cons (as := []) (bs := []) (.int n t') (reads_ints t)
theorem alike_ints (ns : List Int) : PySem.W.AlikeAll (ns.map PyData.int) := by
  refine ⟨fun x hx y hy => ?_, fun x hx => ?_⟩
  · obtain ⟨i, _, e⟩ := List.mem_map.mp hx
    obtain ⟨j, _, e2⟩ := List.mem_map.mp hy
    subst e e2
    simp only [PySem.W.alike]
  · obtain ⟨i, _, e⟩ := List.mem_map.mp hx
    subst e
    exact fun z => nomatch z
theorem depth_ints : ∀ ns : List Int, PyData.depthAll (ns.map PyData.int) = 0
  | [] => rfl
  | n :: ns => by simp only [List.map_cons, PyData.depthAll, PyData.depth, depth_ints ns]; rfl
theorem cr_maxD {X : Cx} (hc : X.calm = true) (hr : Ru X.A) : CallRK X (.builtin "max") [Str.ofString "default"] (rMaxD X.K) := by
  rintro pins s σ H vs zs us ws Q I r rz ⟨a, ns, d, rfl, rfl, hs, q⟩
  obtain ⟨u, rfl, ru⟩ := vals1 r
  obtain rfl : u = Value.ref a := ru
  obtain ⟨w1, rfl, t, rfl⟩ := vals1 rz
  obtain ⟨its, rv, hl, hz⟩ := I.list hs
  have hu : X.A.units + 1 + PyData.depthAll (ns.map PyData.int) < cLine := by
    rw [depth_ints]; exact hr.hu
  refine PySem.W.max_list_default (I.ok.hd hc) hl.isList (reads_ints rv) (alike_ints ns) hu (fun e h' tk k => ?_) fun y ys i v h' tk bs e hv rd k => ?_
  · have e : ns = [] := List.map_eq_nil_iff.mp e
    subst e
    exact ⟨.int d, H, I.kept (t' := tk) k, ⟨t, rfl⟩, q⟩
  · cases ns with
    | nil => cases e
    | cons n ns =>
      simp only [List.map_cons, List.cons.injEq] at e
      obtain ⟨e1, e2⟩ := e
      subst e1 e2
      rw [PySem.W.maxD_ints] at rd
      cases rd
      rename_i t2
      exact ⟨.int _, H, I.kept (t' := tk) k, ⟨t2, rfl⟩, q⟩
/-- max(xs, default=d) -/
def mMaxD (a z : Em) : Em := fun δ S => (a δ S).bind fun x S1 => (z δ S1).bind fun y S2 => match y, (rdL S2 x).bind intsOf with
  | .int d, some ns => .ok (.int (maxDef d ns)) S2
  | _, _ => .stuck
section
variable {X : Cx} {W : WX} {e z : Expr} {ma mz : Em} {p pos kpos : Pos}
theorem de_maxD (hc : X.calm = true) (hr : Ru X.A) (hg : Gl X "max") (hm : X.mg "max" = none) (ha : DE X W e ma) (hz : DE X W z mz)
    (he : backTo pos (starEach [e] X.env) = (false, eval e X.env) :: backTo pos (starEach [] X.env) := by rfl) (hpl : (backTo pos (starEach [e] X.env)).any (·.1) = false := by rfl)
    (hs : starEach [e] X.env = (false, eval e X.env) :: starEach [] X.env := by rfl)
    (hall : (backToKw pos (keywordEach [⟨some "default", z, kpos⟩] X.env)).all (·.1.isSome) = true := by rfl) (hnone : (backToKw pos (keywordEach [⟨some "default", z, kpos⟩] X.env)).any (·.1.isNone) = false := by rfl)
    (hks : (backToKw pos (keywordEach [⟨some "default", z, kpos⟩] X.env)).filterMap (·.1) = [Str.ofString "default"] := by rfl) :
    DE X W (.Call (.Name "max" p) [e] [⟨some "default", z, kpos⟩] pos) (mMaxD ma mz) :=
  pe_imp (pe_callBK (cr_maxD hc hr) hg hm (by decide +kernel) (pa_cons ha pa_nil hs) (pk_cons (nm := some "default") (kpos := kpos) hz pk_nil) (by decide) (by decide) he hpl hall hnone hks) fun σ H Q h =>
    t_bind h fun ι S δ x v H1 rp rs rd g => by
      refine ⟨ι, S, δ, rp, rs, (G.bind g).imp fun v2 H2 ⟨ι2, S2, y, st, rp2, r2, g2⟩ => ?_⟩
      split at g2
      · rename_i d ns hns
        rw [Option.bind_eq_some_iff] at hns
        obtain ⟨es, hes, hi⟩ := hns
        obtain ⟨a, vs, e, hq, h2, hz⟩ := rdL_ok rp2 (rd.mono st.up) hes
        subst e
        rw [intsOf_ok h2 hi] at hq
        simp only [RD] at r2
        subst r2
        exact ⟨a, ns, d, rfl, rfl, hq, g2.here rp2 (by simp only [RD])⟩
      · exact g2.elim
end
end PM

set_option maxHeartbeats 1000000
/-! PM, part 39: what the written part tells of the exceptions' classes -/
namespace PM
open PySem PySem.Spec L2 PyProof.Rows
theorem kit_self {K : PySem.W.Frag} {t : Value} : PySem.W.kitOne K t t = some true := by
  unfold PySem.W.kitOne
  rw [if_pos (beq_self_eq_true t)]
theorem kit_own {K : PySem.W.Frag} {D C : Addr} {b : Bool} (h1 : PySem.W.isClsIn K C = true) (h2 : PySem.W.typeIn K (.ref C) = some (.type "type")) (h3 : PySem.W.subIn K (.ref D) (.ref C) = some b) (h4 : PySem.W.subIn K (.ref C) (.ref C) = some true) :
    PySem.W.kitOne K (.ref D) (.ref C) = some b := by
  unfold PySem.W.kitOne
  by_cases e : (Value.ref D == Value.ref C) = true
  · rw [if_pos e]
    have e' : D = C := Value.ref.inj (beq_iff_eq.mp e)
    subst e'
    rw [h3] at h4
    rw [h4]
  · rw [if_neg e]
    show (if ((PySem.W.clsIn K C).isSome && PySem.W.typeIn K (.ref C) == some (.type "type")) = true then PySem.W.subIn K (.ref D) (.ref C) else none) = some b
    have e2 : (PySem.W.clsIn K C).isSome = true := h1
    rw [e2, h2, if_pos (by rfl), h3]
theorem kit_val {K : PySem.W.Frag} {D : Addr} {b : Bool} (h : PySem.W.subIn K (.ref D) (.type "ValueError") = some b) : PySem.W.kitOne K (.ref D) (.type "ValueError") = some b := by
  unfold PySem.W.kitOne
  rw [if_neg (by simp)]
  show (if PySem.W.kitMeta "ValueError" = true then PySem.W.subIn K (.ref D) (.type "ValueError") else none) = some b
  rw [if_pos (by decide +kernel), h]
section
variable {X : Cx} {W : WX} {a C : Addr} {oe : Obj} {b : Bool} {e : Expr} {me : Em} {y x : Str} {p q pos pos' p2 : Pos} {m : Str} {j : Nat}
theorem de_isEo (hp : (a, oe) ∈ X.pn) (E : ExcC X.K C) (ho : ObE C oe) (hg : Gl X "isinstance") (hm : X.mg "isinstance" = none) (ha : DE X W e me) (hT : ∃ CT, X.mg y = some (.ref CT) ∧ PySem.W.kitOne X.K (.ref C) (.ref CT) = some b) (hgy : Gl X y)
    (hd : (y == ("__debug__" : Str)) = false := by decide)
    (hs : starEach [e, .Name y q] X.env = (false, eval e X.env) :: starEach [.Name y q] X.env := by rfl) (hs2 : starEach [.Name y q] X.env = [(false, eval (.Name y q) X.env)] := by rfl)
    (hpl : (backTo pos (starEach [.Name y q] X.env)).any (·.1) = false := by rfl) : DE X W (.Call (.Name "isinstance" p) [e, .Name y q] [] pos) (mU (opIsE a b) me) := by
  obtain ⟨CT, h1, h2⟩ := hT
  exact de_isE (c := V.ref CT) hp E ho hg hm ha (pe_glob hgy h1 rfl hd) (fun _ h => h) h2 hs hs2 hpl
theorem ds_raiseX (hc : X.calm = true) (tk : L2N.Takes X W) (F : ∃ C, XC X.K X.mg x C) (hg : Gl X x) (hdb : (x == ("__debug__" : Str)) = false := by decide) :
    DS X W (.Raise (some (.Call (.Name x p) [.Constant (.str m) j p2] [] pos)) none pos') (sRaise x) := by
  obtain ⟨C, F⟩ := F
  exact ds_raise hc tk F hg hdb
end
end PM

/-! PM, part 40: kinds' depth; blanks that stand together; fills (plain) -/
namespace PM
open PySem L2
mutual
def dp : K → Nat
  | .num => 1
  | .blk _ => 1
  | .rc _ ks _ => 1 + dps ks
def dps : List K → Nat
  | [] => 0
  | k :: ks => max (dp k) (dps ks)
end
theorem dps_le {m : Nat} : ∀ {ks : List K}, dps ks ≤ m ↔ ∀ k ∈ ks, dp k ≤ m
  | [] => by simp [dps]
  | k :: ks => by
    rw [dps, Nat.max_le, dps_le (ks := ks)]
    simp
theorem VK.dple {n : Nat} {k : K} (h : VK n k) : dp k ≤ n := by
  induction h with
  | num => rw [dp]; omega
  | blk h => rw [dp]; omega
  | rc h1 h2 h3 h4 h5 ih =>
    rename_i d ls ks r
    have := (dps_le (m := d) (ks := ks)).mpr ih
    rw [dp]; omega
theorem VK.to {n m : Nat} {k : K} (h : VK n k) (g : dp k ≤ m) : VK m k := by
  induction h generalizing m with
  | num => rw [dp] at g; obtain ⟨m, rfl⟩ : ∃ j, m = j + 1 := ⟨m - 1, by omega⟩; exact .num
  | blk h => rw [dp] at g; obtain ⟨m, rfl⟩ : ∃ j, m = j + 1 := ⟨m - 1, by omega⟩; exact .blk h
  | rc h1 h2 h3 h4 h5 ih =>
    rw [dp] at g
    obtain ⟨m, rfl⟩ : ∃ j, m = j + 1 := ⟨m - 1, by omega⟩
    exact .rc h1 h2 h3 (fun k hk => ih k hk (dps_le.mp (show dps _ ≤ m by omega) k hk)) h5
theorem VK.mono {n m : Nat} {k : K} (h : VK n k) (g : n ≤ m) : VK m k := h.to (Nat.le_trans h.dple g)
theorem fld_labs {ls : List Str} {ks : List K} (h : ls.length = ks.length) : (fldD ls (kds ks)).map labD = ls := by
  rw [fld_zipK h, List.map_map]
  show (ls.zip ks).map Prod.fst = ls
  exact List.map_fst_zip (by omega)
theorem fld_all {ls : List Str} {ks : List K} (h : ls.length = ks.length) (f : D → Bool) : (fldD ls (kds ks)).all (fun p => f (sndD p)) = ks.all fun k => f (kd k) := by
  rw [fld_zipK h, List.all_map]
  have e : ks.all (fun k => f (kd k)) = ((ls.zip ks).map Prod.snd).all fun k => f (kd k) := by rw [List.map_snd_zip (by omega)]
  rw [e, List.all_map]
  rfl
theorem fld_pairs {ls : List Str} {ks : List K} (h : ∀ l ∈ ls, IsLab l) : (fldD ls (kds ks)).all isPairD = true := by
  rw [List.all_eq_true]
  intro x hx
  obtain ⟨l, y, e, hl, _⟩ := mem_fldD hx
  subst e
  exact word_lab.mpr (h l hl)
theorem row_fld {f : D → Bool} {ls : List Str} {ks : List K} (h1 : ls.length = ks.length) (h2 : ascS ls = true) (h3 : ∀ l ∈ ls, IsLab l) : rowIn f (.tup (fldD ls (kds ks))) = ks.all fun k => f (kd k) := by
  simp only [rowIn, fld_pairs h3, fld_labs h1, h2, fld_all h1 f, Bool.true_and]
theorem rest_rD {r : Option Int} (h : ∀ i, r = some i → 0 ≤ i) : isRestD (rD0 r) = true := by
  cases r with
  | none => rfl
  | some i => exact decide_eq_true (h i rfl)
theorem kindIn_dp : ∀ (m : Nat) {n : Nat} {k : K}, VK n k → kindIn m (kd k) = decide (dp k ≤ m) := by
  have b1 : ¬ Str.ofString "blank" = Str.ofString "number" := by decide +kernel
  have b2 : ¬ Str.ofString "record" = Str.ofString "number" := by decide +kernel
  have b3 : ¬ Str.ofString "record" = Str.ofString "blank" := by decide +kernel
  intro m
  induction m with
  | zero =>
    intro n k h
    have : ¬ dp k ≤ 0 := by cases h <;> rw [dp] <;> omega
    rw [decide_eq_false this]
    cases h <;> rfl
  | succ m ih =>
    intro n k h
    cases h with
    | num => rw [dp, kd, kindIn, if_pos rfl, decide_eq_true (by omega)]; rfl
    | blk h =>
      rw [dp, kd, kindIn, if_neg b1, if_pos rfl, decide_eq_true (by omega)]
      exact decide_eq_true h
    | rc h1 h2 h3 h4 h5 =>
      rename_i d ls ks r
      rw [dp, kd, kindIn, if_neg b2, if_neg b3, decide_eq_true (rfl : Str.ofString "record" = Str.ofString "record"), Bool.true_and, recIn, rest_rD h5, Bool.true_and, row_fld h1 h2 h3]
      rw [show decide (1 + dps ks ≤ m + 1) = decide (dps ks ≤ m) from decide_eq_decide.mpr (by omega), Bool.eq_iff_iff, List.all_eq_true, decide_eq_true_eq, dps_le]
      constructor
      · intro g k hk
        have := g k hk
        rw [ih (h4 k hk)] at this
        exact of_decide_eq_true this
      · intro g k hk
        rw [ih (h4 k hk)]
        exact decide_eq_true (g k hk)
theorem foldl_dp : ∀ (ks : List K) (a : Nat), (ks.map fun k => ((dp k : Nat) : Int)).foldl max (a : Int) = ((max a (dps ks) : Nat) : Int)
  | [], a => by rw [dps, List.map_nil, List.foldl_nil]; omega
  | k :: ks, a => by
    rw [List.map_cons, List.foldl_cons, show max (a : Int) (dp k : Nat) = ((max a (dp k) : Nat) : Int) by omega, foldl_dp ks, dps]
    omega
theorem maxDef_dp (ks : List K) : maxDef 0 (ks.map fun k => ((dp k : Nat) : Int)) = (dps ks : Nat) := by
  cases ks with
  | nil => rfl
  | cons k ks => rw [List.map_cons, maxDef, foldl_dp, dps]
theorem zip_sndK {β : Type} (g : K → β) {ls : List Str} {ks : List K} (h : ls.length = ks.length) : (ls.zip ks).map (fun p => g p.2) = ks.map g := by
  have : ks.map g = ((ls.zip ks).map Prod.snd).map g := by rw [List.map_snd_zip (by omega)]
  rw [this, List.map_map]; rfl
theorem kn_pos : ∀ k : K, 1 ≤ kn k
  | .num => by rw [kn]; omega
  | .blk _ => by rw [kn]; omega
  | .rc _ _ _ => by rw [kn]; omega
theorem kns_len : ∀ ks : List K, ks.length ≤ kns ks
  | [] => by simp [kns]
  | k :: ks => by have := kns_len ks; have := kn_pos k; rw [kns, List.length_cons]; omega
theorem kns_mem : ∀ {ks : List K} {k : K}, k ∈ ks → kn k ≤ kns ks
  | x :: ks, k, h => by
    rw [kns]
    rcases List.mem_cons.mp h with h | h
    · rw [h]; omega
    · have := kns_mem h; omega
theorem kns_perm {a b : List K} (h : a.Perm b) : kns a = kns b := by rw [kns_sum, kns_sum]; exact (h.map kn).sum_nat
theorem vk_cl {d n : Nat} {k : K} (h : VK d k) : D.cl n (kd k) = true := by
  induction h with
  | num => rfl
  | blk => rfl
  | rc h1 h2 h3 h4 h5 ih =>
    rename_i d ls ks r
    have e : D.cls n (fldD ls (kds ks)) = true := cls_all fun x hx => by
      obtain ⟨l, y, e, _, hy⟩ := mem_fldD hx
      rw [kds_map] at hy
      obtain ⟨b, hb, e'⟩ := List.mem_map.mp hy
      subst e e'
      simp only [D.cl, D.cls, ih b hb]; rfl
    simp only [kd, D.cl, D.cls, e]
    cases r <;> rfl
theorem vk_pl {d : Nat} {k : K} (h : VK d k) : pl (3 * d) (kd k) = true := by
  induction h with
  | num => rename_i d; rw [show 3 * (d + 1) = (3 * d + 2) + 1 by omega]; simp only [kd, pl, List.all_cons, List.all_nil]; decide +kernel
  | blk => rename_i d n _; rw [show 3 * (d + 1) = (3 * d + 2) + 1 by omega]; simp only [kd, pl, List.all_cons, List.all_nil]; decide +kernel
  | rc h1 h2 h3 h4 h5 ih =>
    rename_i d ls ks r
    rw [show 3 * (d + 1) = (3 * d + 2) + 1 by omega]
    simp only [kd, pl, List.all_cons, List.all_nil, Bool.and_true, Bool.and_eq_true]
    refine ⟨by decide +kernel, pl_all fun x hx => ?_, by cases r <;> rfl⟩
    obtain ⟨l, y, e, hl, hy⟩ := mem_fldD hx
    rw [kds_map] at hy
    obtain ⟨b, hb, e'⟩ := List.mem_map.mp hy
    subst e e'
    simp only [pl, List.all_cons, List.all_nil, Bool.and_true, Bool.and_eq_true]
    exact ⟨(h3 l hl).ok, ih b hb⟩
theorem th_fields {d : Nat} {ls : List Str} {ks : List K} (h1 : ls.length = ks.length) (h3 : ∀ l ∈ ls, IsLab l) (hz : ks.length ≤ 1000) (ih : ∀ k ∈ ks, th (3 * d) (kd k) = true) : th (3 * d + 2) (.tup (fldD ls (kds ks))) = true := by
  refine th_tup ?_ fun x hx => ?_
  · rw [fldD, List.length_zipWith, kds_len]; omega
  · obtain ⟨l, y, e, hl, hy⟩ := mem_fldD hx
    rw [kds_map] at hy
    obtain ⟨b, hb, e'⟩ := List.mem_map.mp hy
    subst e e'
    exact th_fld ⟨(h3 l hl).ok, by have := (h3 l hl).2.2; omega⟩ (ih b hb)
theorem vk_th {d : Nat} {k : K} (h : VK d k) (hz : kn k ≤ 1000) : th (3 * d) (kd k) = true := by
  induction h with
  | num => rename_i d; exact th_tup (n := 3 * d + 2) (by simp) (by simp [th_str]; decide +kernel)
  | blk => rename_i d n _; exact th_tup (n := 3 * d + 2) (by simp) (by simp [th_str, th_int]; decide +kernel)
  | rc h1 h2 h3 h4 h5 ih =>
    rename_i d ls ks r
    rw [kn] at hz
    exact th_rec (n := 3 * d + 2) (th_fields h1 h3 (by have := kns_len ks; omega) fun k hk => ih k hk (by have := kns_mem hk; omega)) (by cases r <;> simp [rD0, th_int, th_non])
/-! blanks that stand together -/
def Con (m : Mp) : Prop := ∀ o ∈ m, ∀ u ∈ m, o.1 = u.1 → o.2 = u.2
theorem look_con : ∀ {m : Mp}, Con m → ∀ o ∈ m, look m o.1 = some o.2
  | p :: m, h, o, ho => by
    simp only [look]
    split
    · rename_i e
      rw [h p (by simp) o ho e]
    · rename_i e
      rcases List.mem_cons.mp ho with q | q
      · exact absurd (by rw [q]) e
      · exact look_con (fun a ha b hb => h a (by simp [ha]) b (by simp [hb])) o q
theorem pa_con : ∀ (r m : Mp), Con (m ++ r) → (pa m r).2 = true ∧ (∀ o ∈ (pa m r).1, o ∈ m ++ r) ∧ Con (pa m r).1 ∧ ∀ o ∈ m ++ r, o ∈ (pa m r).1
  | [], m, h => by
    rw [List.append_nil] at h ⊢
    exact ⟨rfl, fun _ h => h, h, fun o ho => ho⟩
  | o :: r, m, h => by
    rw [pa]
    cases hk : look m o.1 with
    | none =>
      have hp : putB m o = (m ++ [o], true) := by simp only [putB, hk]
      rw [hp]
      have e : m ++ o :: r = (m ++ [o]) ++ r := by simp
      rw [e] at h ⊢
      obtain ⟨h1, h2, h3, h4⟩ := pa_con r (m ++ [o]) h
      exact ⟨by rw [h1]; rfl, h2, h3, h4⟩
    | some l =>
      have hm := look_mem hk
      have hl : l = o.2 := h (o.1, l) (by simp [hm]) o (by simp) rfl
      have hp : putB m o = (m, true) := by simp only [putB, hk, hl, decide_true]
      rw [hp]
      obtain ⟨h1, h2, h3, h4⟩ := pa_con r m fun a ha b hb => h a (by simp at ha ⊢; rcases ha with q | q <;> simp [q]) b (by simp at hb ⊢; rcases hb with q | q <;> simp [q])
      refine ⟨by rw [h1]; rfl, fun x hx => ?_, h3, fun x hx => ?_⟩
      · have := h2 x hx
        simp at this ⊢; rcases this with q | q <;> simp [q]
      · simp at hx
        rcases hx with q | q | q
        · exact h4 x (by simp [q])
        · have : x = (o.1, l) := by rw [q, hl]
          rw [this]; exact h4 _ (by simp [hm])
        · exact h4 x (by simp [q])
/-! fills -/
def GF : OL → D → Prop
  | none, d => ∃ k, d = kd k ∧ VK 20 k ∧ kn k ≤ 900
  | some w, d => ∃ ls ks r, d = .tup [.tup (fldD ls (kds ks)), rD0 r] ∧ VK 11 (.rc ls ks r) ∧ kns ks ≤ 900 ∧ ∀ l ∈ ls, l ∉ w
/-- what is_fill computes -/
def disD (w : List Str) : D → Bool
  | .tup ps => ps.all fun p => !decide (labD p ∈ w)
  | _ => false
def restFill (w : List Str) : D → Bool
  | .tup [a, b] => kindIn 12 (.tup [.str "record", a, b]) && disD w a
  | _ => false
def isFillD : OL → D → Bool
  | none, d => kindIn 12 d
  | some w, d => restFill w d
theorem gf_th {l : OL} {d : D} (h : GF l d) : th 70 d = true := by
  cases l with
  | none =>
    obtain ⟨k, e, h1, h2⟩ := h
    subst e
    exact th_mono _ (by omega) (vk_th h1 (by omega))
  | some w =>
    obtain ⟨ls, ks, r, e, h1, h2, _⟩ := h
    subst e
    cases h1 with
    | rc g1 g2 g3 g4 g5 =>
      have := th_fields (d := 10) g1 g3 (by have := kns_len ks; omega) fun k hk => vk_th (g4 k hk) (by have := kns_mem hk; omega)
      exact th_mono _ (by omega) (th_tup (n := 32) (by simp) (by simp [this]; cases r <;> simp [rD0, th_int, th_non]))
theorem isFill_rest {w : List Str} {d : D} (h : GF (some w) d) : isFillD (some w) d = true := by
  obtain ⟨ls, ks, r, e, h1, h2, h3⟩ := h
  subst e
  have h4 : kindIn 12 (kd (.rc ls ks r)) = true := by
    rw [kindIn_dp 12 h1]; exact decide_eq_true (by have := h1.dple; omega)
  rw [kd] at h4
  show (kindIn 12 _ && disD w _) = true
  rw [h4, Bool.true_and, disD]
  cases h1 with
  | rc g1 g2 g3 g4 g5 =>
    rw [List.all_eq_true]
    intro x hx
    obtain ⟨l, y, e, hl, _⟩ := mem_fldD hx
    subst e
    simp only [labD, Bool.not_eq_true', decide_eq_false_iff_not]
    exact decide_eq_false (h3 l hl)
end PM

/-! PM, part 41: fields by their labels (plain) -/
namespace PM
open PySem L2
def fd (p : Str × K) : D := .tup [.str p.1, kd p.2]
def fk (ys : List (Str × K)) (l : Str) : K := ((ys.find? fun p => decide (p.1 = l)).map (·.2)).getD .num
theorem fk_find {ys : List (Str × K)} {l : Str} (h : l ∈ ys.map (·.1)) : ys.find? (fun p => decide (p.1 = l)) = some (l, fk ys l) := by
  cases hf : ys.find? (fun p => decide (p.1 = l)) with
  | none =>
    rw [List.find?_eq_none] at hf
    obtain ⟨p, hp, e⟩ := List.mem_map.mp h
    exact absurd (decide_eq_true e) (hf p hp)
  | some p =>
    have h1 : p.1 = l := of_decide_eq_true (List.find?_some (p := fun p : Str × K => decide (p.1 = l)) hf)
    rw [fk, hf, ← h1]; rfl
theorem fk_mem {ys : List (Str × K)} {l : Str} (h : l ∈ ys.map (·.1)) : (l, fk ys l) ∈ ys := List.mem_of_find?_eq_some (fk_find h)
theorem fd_fld (ys : List (Str × K)) : ys.map fd = fldD (ys.map (·.1)) (kds (ys.map (·.2))) := by
  induction ys with
  | nil => rfl
  | cons y ys ih => rw [List.map_cons, List.map_cons, List.map_cons, kds, fldD_cons, ih]; rfl
theorem fld_map (f : Str → K) : ∀ ls : List Str, fldD ls (kds (ls.map f)) = ls.map fun l => .tup [.str l, kd (f l)]
  | [] => rfl
  | l :: ls => by rw [List.map_cons, List.map_cons, kds, fldD_cons, fld_map f ls]
theorem sortF_fd (ys : List (Str × K)) : sortF (ys.map fd) = fldD (sortStr (ys.map (·.1))) (kds ((sortStr (ys.map (·.1))).map (fk ys))) := by
  have e : (ys.map fd).map labD = ys.map (·.1) := by rw [List.map_map]; rfl
  rw [sortF, e, fld_map]
  refine List.map_congr_left fun l hl => ?_
  have hm := (sortStr_perm _).mem_iff.mp hl
  rw [List.find?_map]
  show ((ys.find? fun p => decide (p.1 = l)).map fd).getD .non = _
  rw [fk_find hm]; rfl
theorem asc_sort {ls : List Str} (h : ls.Nodup) : ascS (sortStr ls) = true := by
  unfold ascS
  rw [Bool.and_eq_true, decide_eq_true_eq, decide_eq_true_eq, ndist_iff _ _ (Nat.le_refl _), List.take_length]
  exact ⟨sorted_uniq (sortStr_perm _).symm (sortStr_sorted _) (sortStr_sorted _), (sortStr_perm ls).nodup_iff.mpr h⟩
theorem asc_nodup {ls : List Str} (h : ascS ls = true) : ls.Nodup := by
  unfold ascS at h
  rw [Bool.and_eq_true, decide_eq_true_eq, decide_eq_true_eq, ndist_iff _ _ (Nat.le_refl _), List.take_length] at h
  exact h.2
theorem cDictR_fd {S : Sto} {ys : List (Str × K)} (hn : (ys.map (·.1)).Nodup) : cDictR [.lst (ys.map fd)] S = .ok (.ref S.length) (S ++ [.dK ((ys.map (·.1)).map .inr) (kds (ys.map (·.2)))]) := by
  have h1 : itP S (.lst (ys.map fd)) = some (((ys.map (·.1)).map Sum.inr).zip (kds (ys.map (·.2)))) := by
    show pairsD (ys.map fd) = _
    rw [fd_fld, pairsD_fld (by rw [kds_len]; simp)]
  simp only [cDictR, h1]
  rw [mergeD_new (by simpa using nodup_inr hn) (by rw [kds_len]; simp)]
  rfl
theorem getK_fd : ∀ {ys : List (Str × K)} {l : Str}, l ∈ ys.map (·.1) → getK ((ys.map (·.1)).map (Sum.inr : Str → Key)) (kds (ys.map (·.2))) (.inr l) = some (kd (fk ys l))
  | y :: ys, l, h => by
    simp only [List.map_cons, kds, getK]
    by_cases e : y.1 = l
    · rw [if_pos (by rw [e])]
      have : fk (y :: ys) l = y.2 := by rw [fk, List.find?_cons_of_pos (by simpa using e)]; rfl
      rw [this]
    · rw [if_neg (fun q => e (Sum.inr.inj q))]
      have h2 : l ∈ ys.map (·.1) := by
        rw [List.map_cons] at h
        rcases List.mem_cons.mp h with q | q
        · exact absurd q.symm e
        · exact q
      have : fk (y :: ys) l = fk ys l := by rw [fk, List.find?_cons_of_neg (by simpa using e)]; rfl
      rw [this]; exact getK_fd h2
/-- the record of fields by labels -/
def recK (ys : List (Str × K)) (r : Option Int) : K := .rc (sortStr (ys.map (·.1))) ((sortStr (ys.map (·.1))).map (fk ys)) r
theorem recK_vk {d : Nat} {ys : List (Str × K)} {r : Option Int} (hn : (ys.map (·.1)).Nodup) (hl : ∀ p ∈ ys, IsLab p.1 ∧ VK d p.2) (hr : ∀ i, r = some i → 0 ≤ i) : VK (d + 1) (recK ys r) := by
  refine .rc (by simp) (asc_sort hn) (fun l h => ?_) (fun k h => ?_) hr
  · obtain ⟨p, hp, e⟩ := List.mem_map.mp ((sortStr_perm _).mem_iff.mp h)
    rw [← e]; exact (hl p hp).1
  · obtain ⟨l, h2, e⟩ := List.mem_map.mp h
    rw [← e]; exact (hl _ (fk_mem ((sortStr_perm _).mem_iff.mp h2))).2
theorem list_all {α β : Type} {P : α → β → Prop} : ∀ {ls : List Str} {ks : List α}, ls.length = ks.length → (∀ k ∈ ks, ∃ b, P k b) → ∃ xs : List (Str × α × β), xs.map (·.1) = ls ∧ xs.map (·.2.1) = ks ∧ ∀ p ∈ xs, P p.2.1 p.2.2
  | [], [], _, _ => ⟨[], rfl, rfl, by simp⟩
  | l :: ls, k :: ks, h, g => by
    obtain ⟨xs, h1, h2, h3⟩ := list_all (P := P) (ls := ls) (ks := ks) (by simpa using h) fun k hk => g k (by simp [hk])
    obtain ⟨b, hb⟩ := g k (by simp)
    exact ⟨(l, k, b) :: xs, by simp [h1], by simp [h2], fun p hp => by
      rcases List.mem_cons.mp hp with hp | hp
      · rw [hp]; exact hb
      · exact h3 p hp⟩
theorem fld_xs {β : Type} : ∀ xs : List (Str × K × β), fldD (xs.map (·.1)) (kds (xs.map (·.2.1))) = xs.map fun p => .tup [.str p.1, kd p.2.1]
  | [] => rfl
  | x :: xs => by rw [List.map_cons, List.map_cons, List.map_cons, kds, fldD_cons, fld_xs xs]
/-! lookups of whole numbers in a dict's object -/
section
variable {S : Sto} {f : Nat} {ks : List Key} {ds : List D} {n : Int}
theorem opIn_dI (h : S[f]? = some (.dK ks ds)) : opIn (.int n) (.ref f) S = .ok (.bl (getK ks ds (.inl n)).isSome) S := by simp only [opIn, inDa, dget_int h]
theorem opNotIn_dI (h : S[f]? = some (.dK ks ds)) : opNotIn (.int n) (.ref f) S = .ok (.bl (!(getK ks ds (.inl n)).isSome)) S := by simp only [opNotIn, inDa, dget_int h]
theorem opIx_dI {d : D} (h : S[f]? = some (.dK ks ds)) (hg : getK ks ds (.inl n) = some d) : opIx (.ref f) (.int n) S = .ok d S := by simp only [opIx, dget_int h, hg]
theorem kGet_dI {z : D} (h : S[f]? = some (.dK ks ds)) : kGet (.ref f) (.int n) z S = .ok ((getK ks ds (.inl n)).getD z) S := by
  simp only [kGet, dget_int h]
  cases getK ks ds (.inl n) <;> rfl
theorem isDct_dI (h : S[f]? = some (.dK ks ds)) : isDct S (.ref f) = true := by simp only [isDct, dkOf, h]; rfl
end
end PM

/-! PM, part 42: loops with a guard; a dict's object while it is locked (plain) -/
namespace PM
open PySem L2
theorem loop_retG {grd : Sto → Prop} {b : D → Sm} {ds : List D} {δ : Loc} {S : Sto} {r : RS} (hL : loopM grd b ds δ S = r) (I : Nat → Loc → Sto → Prop) (E : RS → Prop) (hI : ∀ i δ S, I i δ S → grd S) (h0 : I 0 δ S)
    (hs : ∀ i x δ S, ds[i]? = some x → I i δ S → (∃ δ' S', (b x δ S = .nx δ' S' ∨ b x δ S = .ct δ' S') ∧ I (i + 1) δ' S') ∨ (∃ d S', b x δ S = .rt d S' ∧ E (.rt d S')) ∨ (∃ c δ' S', b x δ S = .exc c δ' S' ∧ E (.exc c δ' S'))) : (∃ δ' S', r = .nx δ' S' ∧ I ds.length δ' S') ∨ E r := by
  subst hL
  suffices H : ∀ (ds : List D) (n : Nat) (δ : Loc) (S : Sto), I n δ S → (∀ i x δ S, ds[i]? = some x → I (n + i) δ S → (∃ δ' S', (b x δ S = .nx δ' S' ∨ b x δ S = .ct δ' S') ∧ I (n + i + 1) δ' S') ∨ (∃ d S', b x δ S = .rt d S' ∧ E (.rt d S')) ∨ (∃ c δ' S', b x δ S = .exc c δ' S' ∧ E (.exc c δ' S'))) →
      (∃ δ' S', loopM grd b ds δ S = .nx δ' S' ∧ I (n + ds.length) δ' S') ∨ E (loopM grd b ds δ S) by
    have := H ds 0 δ S h0 fun i x δ S hx hI => by
      have := hs i x δ S hx (by rwa [Nat.zero_add] at hI)
      rwa [Nat.zero_add]
    rwa [Nat.zero_add] at this
  intro ds
  induction ds with
  | nil => intro n δ S h0 _; exact .inl ⟨δ, S, by rw [loopM, if_pos (hI _ _ _ h0)], h0⟩
  | cons x ds ih =>
    intro n δ S h0 hs
    rcases hs 0 x δ S rfl h0 with ⟨δ1, S1, h1, h2⟩ | ⟨d, S1, h1, h2⟩ | ⟨c, δ1, S1, h1, h2⟩
    · have e : loopM grd b (x :: ds) δ S = loopM grd b ds δ1 S1 := by
        rw [loopM, if_pos (hI _ _ _ h0)]
        rcases h1 with h1 | h1 <;> rw [h1]
      rw [e, List.length_cons, show n + (ds.length + 1) = n + 1 + ds.length by omega]
      refine ih (n + 1) δ1 S1 h2 fun i y δ S hy hI => ?_
      have := hs (i + 1) y δ S (by simpa using hy) (by rw [show n + (i + 1) = n + 1 + i by omega]; exact hI)
      rwa [show n + (i + 1) + 1 = n + 1 + i + 1 by omega] at this
    · exact .inr (by rw [loopM, if_pos (hI _ _ _ h0), h1]; exact h2)
    · exact .inr (by rw [loopM, if_pos (hI _ _ _ h0), h1]; exact h2)
theorem loop_ofG {grd : Sto → Prop} {b : D → Sm} {ds : List D} {δ : Loc} {S : Sto} {r : RS} (hL : loopM grd b ds δ S = r) (I : Nat → Loc → Sto → Prop) (hI : ∀ i δ S, I i δ S → grd S) (h0 : I 0 δ S)
    (hs : ∀ i x δ S, ds[i]? = some x → I i δ S → ∃ δ' S', (b x δ S = .nx δ' S' ∨ b x δ S = .ct δ' S') ∧ I (i + 1) δ' S') : ∃ δ' S', r = .nx δ' S' ∧ I ds.length δ' S' := by
  rcases loop_retG hL I (fun _ => False) hI h0 (fun i x δ S hx h => .inl (hs i x δ S hx h)) with h | h
  · exact h
  · exact h.elim
section
variable {S : Sto} {f : Nat} {ks : List Key} {ds : List D} {n : Int}
theorem dget_intL (h : S[f]? = some (.dKL ks ds)) : dget S (.ref f) (.int n) = some (getK ks ds (.inl n)) := by simp only [dget, dkOf, h, keyOf]
theorem opIx_dL {d : D} (h : S[f]? = some (.dKL ks ds)) (hg : getK ks ds (.inl n) = some d) : opIx (.ref f) (.int n) S = .ok d S := by simp only [opIx, dget_intL h, hg]
end
/-- the object of the blanks, locked -/
def mpL (m : Mp) : MO := .dKL (m.map fun p => .inl p.1) (m.map fun p => olD p.2)
theorem lock_mp {i q : Nat} {m : Sm} {δ : Loc} {S : Sto} {mp : Mp} (h1 : δ[i]? = some (some (.ref q))) (h2 : S[q]? = some (mpO mp)) : lockS i m δ S = match m δ (S.set q (mpL mp)) with
    | .nx δ' S' => unlk q S' (.nx δ')
    | .rt d S' => unlk q S' (.rt d)
    | .bk δ' S' => unlk q S' (.bk δ')
    | .ct δ' S' => unlk q S' (.ct δ')
    | .exc c δ' S' => .exc c δ' S'
    | .stuck => .stuck := by
  unfold lockS
  rw [h1]
  simp only
  rw [h2]
  rfl
theorem unlk_mp {q : Nat} {S : Sto} {mp : Mp} {k : Sto → RS} (h : S[q]? = some (mpL mp)) : unlk q S k = k (S.set q (mpO mp)) := by
  unfold unlk
  rw [h]; rfl
theorem keys_mp {q : Nat} {S : Sto} {mp : Mp} {δ : Loc} {e : Em} (he : e δ S = .ok (.ref q) S) (h : S[q]? = some (mpL mp)) : sKeys e δ S = .ok (mp.map fun p => .int p.1, fun S => S[q]? = some (mpL mp)) S := by
  unfold sKeys
  rw [he]
  simp only [R.bind_ok]
  rw [h]
  simp only [mpL]
  have e : (mp.map fun p => (Sum.inl p.1 : Key)).all keyFit = true := by rw [List.all_map, List.all_eq_true]; exact fun _ _ => rfl
  rw [if_pos e, List.map_map]; rfl
theorem opIx_mpL {q : Nat} {S : Sto} {mp : Mp} {n : Int} {l : OL} (h : S[q]? = some (mpL mp)) (hl : look mp n = some l) : opIx (.ref q) (.int n) S = .ok (olD l) S :=
  opIx_dL h (by rw [getK_look, hl]; rfl)
theorem opIsE_self {a : Addr} {b : Bool} {S : Sto} : opIsE a b (.exn a) S = .ok (.bl b) S := by simp only [opIsE, if_pos]
end PM

/-! PM, part 43: kinds made, with the numbers of their blanks (plain) -/
namespace PM
open PySem L2
theorem cIndex_ws2 {S : Sto} {q : Nat} {ws : List (List Str)} {w : List Str} (h : S[q]? = some (.lst (ws.map wD))) (hw : WOk w) (hs : ∀ w ∈ ws, WOk w) (hm : w ∈ ws) : ∃ j : Nat, ws[j]? = some w ∧ cIndex (.ref q) [wD w] S = .ok (.int j) S := by
  have h1 := any_ws w ws
  rw [decide_eq_true hm] at h1
  cases hf : (ws.map fun w => PyData.list (w.map .str)).findIdx? (fun z => PyData.eqv z (.list (w.map .str))) with
  | none =>
    rw [List.findIdx?_eq_none_iff] at hf
    rw [List.any_eq_true] at h1
    obtain ⟨x, hx, e⟩ := h1
    rw [hf x hx] at e; cases e
  | some j =>
    refine ⟨j, ?_, ?_⟩
    · rw [List.findIdx?_eq_some_iff_getElem] at hf
      obtain ⟨hl, he, _⟩ := hf
      rw [List.length_map] at hl
      rw [List.getElem_map] at he
      simp only [PyData.eqv, eqv_strs, decide_eq_true_eq] at he
      rw [List.getElem?_eq_getElem hl, he]
    · simp only [cIndex, tpd_w, tpd_ws h, sh_w hw, sh_ws hs, and_self, if_true, hf]
theorem asc_filter {ls : List Str} (p : Str → Bool) (h : ls.Nodup) : ascS ((sortStr ls).filter p) = true := by
  rw [ascS_iff]
  exact (ascS_iff.mp (asc_sort h)).sublist List.filter_sublist
theorem occs_app : ∀ a b : List K, occs (a ++ b) = occs a ++ occs b
  | [], b => rfl
  | x :: a, b => by simp only [List.cons_append, occs, occs_app a b, List.append_assoc]
/-- the blanks of a kind made: even numbers, or odd ones behind the labels that stand there -/
def OkO (w : Int) (ws : List (List Str)) (o : Int × OL) : Prop := (∃ i : Nat, i ≤ 2 ∧ o = (w * 2 * (i : Int), none)) ∨ ∃ (j : Nat) (l : List Str), ws[j]? = some l ∧ o = (w * (1 + 2 * (j : Int)), some l)
theorem OkO.pre {w : Int} {ws ws' : List (List Str)} {o : Int × OL} (h : OkO w ws o) (p : ws <+: ws') : OkO w ws' o := by
  rcases h with h | ⟨j, l, h1, h2⟩
  · exact .inl h
  · obtain ⟨t, rfl⟩ := p
    exact .inr ⟨j, l, by rw [List.getElem?_append_left (List.getElem?_eq_some_iff.mp h1).1]; exact h1, h2⟩
theorem con_oko {w : Int} {ws : List (List Str)} {m : Mp} (hw : 1 ≤ w) (h : ∀ o ∈ m, OkO w ws o) : Con m := by
  intro a ha b hb e
  rcases h a ha with ⟨i, _, ea⟩ | ⟨i, l, hi, ea⟩ <;> rcases h b hb with ⟨j, _, eb⟩ | ⟨j, l', hj, eb⟩
  · rw [ea, eb]
  · rw [ea, eb] at e
    simp only at e
    rw [show w * 2 * (i : Int) = w * (2 * i) by rw [Int.mul_assoc]] at e
    have := Int.eq_of_mul_eq_mul_left (show w ≠ 0 by omega) e
    omega
  · rw [ea, eb] at e
    simp only at e
    rw [show w * 2 * (j : Int) = w * (2 * j) by rw [Int.mul_assoc]] at e
    have := Int.eq_of_mul_eq_mul_left (show w ≠ 0 by omega) e
    omega
  · rw [ea, eb] at e
    simp only at e
    have := Int.eq_of_mul_eq_mul_left (show w ≠ 0 by omega) e
    have : i = j := by omega
    subst this
    rw [hi] at hj
    cases hj
    rw [ea, eb]
/-- a state with its budget beside a list of lists of texts -/
def KS3 (S : Sto) (n q M : Nat) (ws : List (List Str)) (b : Int) : Prop := ∃ a : Int, 0 ≤ a ∧ S[n]? = some (.lst [.int a, .int b]) ∧ S[q]? = some (.lst (ws.map wD)) ∧ (∀ w ∈ ws, WOk w) ∧ ws.length + b.toNat ≤ M
/-- .. behind something made with the blanks os, c knots -/
def KE3 (T : Sto) (n q M : Nat) (w : Int) (ws : List (List Str)) (B : Nat) (os : Mp) (c : Nat) : Prop :=
  ∃ (b : Int) (ws' : List (List Str)), KS3 T n q M ws' b ∧ ws <+: ws' ∧ (∀ o ∈ os, OkO w ws' o) ∧ c + 4 * b.toNat ≤ B
end PM

/-! PM, part 44: the objects of a round (plain) -/
namespace PM
open PySem L2
/-- fills that fit by themselves; kinds up to a deep -/
def GFa (a : Nat) : OL → D → Prop
  | none, d => ∃ k, d = kd k ∧ VK a k ∧ kn k ≤ 200 + a
  | some w, d => GF (some w) d
theorem GFa.gf {a : Nat} {o : OL} {d : D} (h : GFa a o d) (ha : a ≤ 20) : GF o d := by
  cases o with
  | none => obtain ⟨k, e, h1, h2⟩ := h; exact ⟨k, e, h1.mono ha, by omega⟩
  | some w => exact h
theorem GFa.mono {a b : Nat} {o : OL} {d : D} (h : GFa a o d) (ha : a ≤ b) : GFa b o d := by
  cases o with
  | none => obtain ⟨k, e, h1, h2⟩ := h; exact ⟨k, e, h1.mono ha, by omega⟩
  | some w => exact h
theorem GFa.isf {a : Nat} {o : OL} {d : D} (h : GFa a o d) (ha : a ≤ 12) : isFillD o d = true := by
  cases o with
  | none =>
    obtain ⟨k, e, h1, h2⟩ := h
    subst e
    show kindIn 12 (kd k) = true
    rw [kindIn_dp 12 h1]
    exact decide_eq_true (Nat.le_trans h1.dple ha)
  | some w => exact isFill_rest h
def wrapK (k : K) : K := .rc [Str.ofString "a"] [k] none
theorem wrap_vk {a : Nat} {k : K} (h : VK a k) : VK (a + 1) (wrapK k) := .rc rfl (by decide +kernel) (fun l hl => by rw [List.mem_singleton.mp hl]; exact isLab_a) (fun x hx => by rw [List.mem_singleton.mp hx]; exact h) (fun i e => nomatch e)
theorem wrap_kd (k : K) : kd (wrapK k) = .tup [.str "record", .tup [.tup [.str "a", kd k]], .non] := rfl
theorem wrap_kn (k : K) : kn (wrapK k) = 1 + kn k := by simp [wrapK, kn, kns]
theorem occ_wlen : ∀ {n : Nat} {k : K}, VK n k → ∀ o ∈ occ k, ∀ w, o.2 = some w → w.length ≤ kn k := by
  intro n k h
  induction h with
  | num => intro o ho; cases ho
  | blk h => intro o ho w hw; rw [List.mem_singleton.mp ho] at hw; cases hw
  | rc h1 h2 h3 h4 h5 ih =>
    rename_i d ls ks r
    intro o ho w hw
    rw [occ] at ho
    rcases List.mem_append.mp ho with ho1 | ho
    · have : w.length ≤ kns ks := by
        clear h1 h4 ho
        induction ks with
        | nil => cases ho1
        | cons k ks ih2 =>
          rw [occs] at ho1
          rw [kns]
          rcases List.mem_append.mp ho1 with ho | ho
          · have := ih k (by simp) o ho w hw; omega
          · have := ih2 (fun k hk => ih k (by simp [hk])) ho; omega
      rw [kn]; omega
    · cases r with
      | none => cases ho
      | some i =>
        rw [List.mem_singleton.mp ho] at hw
        cases hw
        have := kns_len ks
        rw [kn, h1]; omega
theorem pa_nodup : ∀ (r m : Mp), (m.map (·.1)).Nodup → ((pa m r).1.map (·.1)).Nodup
  | [], m, h => h
  | o :: r, m, h => by
    rw [pa]
    refine pa_nodup r _ ?_
    unfold putB
    split
    · rename_i hk
      rw [List.map_append]
      refine List.nodup_append.mpr ⟨h, by simp, fun a ha b hb e => ?_⟩
      have : b = o.1 := by simpa using hb
      subst this e
      obtain ⟨p, hp, e⟩ := List.mem_map.mp ha
      have := look_none hk
      exact this (List.mem_map.mpr ⟨p, hp, by rw [e]⟩)
    · exact h
theorem getK_del {k j : Key} {d : D} : ∀ {ks : List Key} {ds : List D}, ks.length = ds.length → getK (delK ks k) (delD ks ds k) j = some d → getK ks ds j = some d
  | [], [], _, h => by simp [delK, getK] at h
  | x :: ks, y :: ds, hl, h => by
    have hl' : ks.length = ds.length := by simpa using hl
    by_cases c : x = k
    · rw [delK, List.filter_cons_of_neg (by simp [c]), delD, if_pos c] at h
      by_cases e : x = j
      · exfalso
        have hno : j ∉ delK ks k := fun q => by
          have := (List.mem_filter.mp q).2
          simp only [ne_eq, decide_not, Bool.not_eq_true', decide_eq_false_iff_not] at this
          exact this (by rw [← e, c])
        have h : getK (delK ks k) (delD ks ds k) j = some d := h
        rw [getK_none hno] at h
        cases h
      · rw [getK, if_neg e]
        exact getK_del hl' h
    · rw [delK, List.filter_cons_of_pos (by simp [c]), delD, if_neg c] at h
      rw [getK] at h ⊢
      by_cases e : x = j
      · rw [if_pos e] at h ⊢; exact h
      · rw [if_neg e] at h ⊢
        exact getK_del hl' h
theorem del_len {k : Key} : ∀ {ks : List Key} {ds : List D}, ks.length = ds.length → (delK ks k).length = (delD ks ds k).length ∧ (delK ks k).length ≤ ks.length
  | [], [], _ => ⟨rfl, Nat.le_refl _⟩
  | x :: ks, y :: ds, hl => by
    obtain ⟨h1, h2⟩ := del_len (k := k) (ks := ks) (ds := ds) (by simpa using hl)
    by_cases c : x = k
    · rw [delK, List.filter_cons_of_neg (by simp [c]), delD, if_pos c]
      exact ⟨h1, by rw [List.length_cons]; exact Nat.le_succ_of_le h2⟩
    · rw [delK, List.filter_cons_of_pos (by simp [c]), delD, if_neg c, List.length_cons, List.length_cons, List.length_cons]
      exact ⟨congrArg _ h1, Nat.succ_le_succ h2⟩
theorem KS3.set {S : Sto} {n q M i : Nat} {ws : List (List Str)} {b : Int} {o : MO} (h : KS3 S n q M ws b) (h1 : i ≠ n) (h2 : i ≠ q) : KS3 (S.set i o) n q M ws b := by
  obtain ⟨a, h0, hS, hq, hws, hb⟩ := h
  exact ⟨a, h0, by rw [List.getElem?_set_ne h1]; exact hS, by rw [List.getElem?_set_ne h2]; exact hq, hws, hb⟩
/-- the objects of a round: state, labels, blanks, fills -/
structure Rm (S0 S : Sto) (mo : MO) (M : Nat) (fks : List Key) (fds : List D) : Prop where
  len : S.length = S0.length + 4
  old : ∀ i, i < S0.length → S[i]? = S0[i]?
  ks : ∃ ws b, KS3 S S0.length (S0.length + 1) M ws b ∧ b ≤ 30
  p : S[S0.length + 2]? = some mo
  f : S[S0.length + 3]? = some (.dK fks fds)
  fl : fks.length = fds.length
section
variable {S0 S T : Sto} {mo mo' : MO} {M M' : Nat} {fks : List Key} {fds : List D}
theorem Rm.knx (h : Rm S0 S mo M fks fds) (k : KNx S T S0.length (S0.length + 1)) {ws : List (List Str)} {b : Int} (g : KS3 T S0.length (S0.length + 1) M' ws b) (hb : b ≤ 30) : Rm S0 T mo M' fks fds :=
  ⟨k.1.trans h.len, fun i hi => (k.2 i (by omega) (by omega)).trans (h.old i hi), ⟨ws, b, g, hb⟩, (k.2 _ (by omega) (by omega)).trans h.p, (k.2 _ (by omega) (by omega)).trans h.f, h.fl⟩
theorem Rm.setf (h : Rm S0 S mo M fks fds) {ks : List Key} {ds : List D} (hl : ks.length = ds.length) : Rm S0 (S.set (S0.length + 3) (.dK ks ds)) mo M ks ds := by
  obtain ⟨ws, b, g, hb⟩ := h.ks
  exact ⟨by rw [List.length_set]; exact h.len, fun i hi => by rw [List.getElem?_set_ne (by omega)]; exact h.old i hi, ⟨ws, b, g.set (by omega) (by omega), hb⟩, by rw [List.getElem?_set_ne (by omega)]; exact h.p, sto_set h.f, hl⟩
theorem Rm.setp (h : Rm S0 S mo M fks fds) : Rm S0 (S.set (S0.length + 2) mo') mo' M fks fds := by
  obtain ⟨ws, b, g, hb⟩ := h.ks
  exact ⟨by rw [List.length_set]; exact h.len, fun i hi => by rw [List.getElem?_set_ne (by omega)]; exact h.old i hi, ⟨ws, b, g.set (by omega) (by omega), hb⟩, sto_set h.p, by rw [List.getElem?_set_ne (by omega)]; exact h.f, h.fl⟩
theorem Rm.ins (h : Rm S0 S mo M fks fds) (hz : fks.length < 100000) {i : Int} {d : D} : opSet (.ref (S0.length + 3)) (.int i) d S = .ok () (S.set (S0.length + 3) (.dK (insK fks (.inl i)) (insD fks fds (.inl i) d))) ∧ Rm S0 (S.set (S0.length + 3) (.dK (insK fks (.inl i)) (insD fks fds (.inl i) d))) mo M (insK fks (.inl i)) (insD fks fds (.inl i) d) :=
  ⟨by simp only [opSet, h.f, PM.keyOf, if_pos (show fks.length < sizeLine from Nat.lt_of_lt_of_le (by omega) szl)], h.setf (ins_len h.fl)⟩
theorem Rm.pre (h : Rm S0 S mo M fks fds) : S = S0 ++ S.drop S0.length := by
  have h1 : S.take S0.length = S0 := by
    apply List.ext_getElem?
    intro i
    rw [List.getElem?_take]
    split
    · rename_i hi; exact h.old i hi
    · rename_i hi; rw [List.getElem?_eq_none (by omega)]
  conv => lhs; rw [← List.take_append_drop S0.length S, h1]
theorem lock_nx {i p : Nat} {m : Sm} {δ δ' : Loc} {S' : Sto} {m0 : Mp} (h1 : δ[i]? = some (some (.ref p))) (h2 : S[p]? = some (mpO m0)) (h3 : m δ (S.set p (mpL m0)) = .nx δ' S') (h4 : S'[p]? = some (mpL m0)) : lockS i m δ S = .nx δ' (S'.set p (mpO m0)) := by
  rw [lock_mp h1 h2, h3]
  exact unlk_mp h4
end
def Gd (S0 : Sto) (r : RS) : Prop := ∃ T, r = .rt (.bl true) (S0 ++ T)
theorem gd_seq {S0 S : Sto} {a b : Sm} {δ : Loc} (P : Loc → Sto → Prop) (h : ∃ δ' S', a δ S = .nx δ' S' ∧ P δ' S') (g : ∀ δ' S', P δ' S' → Gd S0 (b δ' S')) : Gd S0 (sSeq a b δ S) := by
  obtain ⟨δ', S', h1, h2⟩ := h
  rw [sSeq_eq, h1, RS.seq_nx]
  exact g δ' S' h2
theorem opIn_58 {i : Int} {S : Sto} : opIn (.int i) (.lst [.int 5, .int 8]) S = .ok (.bl (decide (i = 5 ∨ i = 8))) S := by
  simp only [opIn, inDa, dget, dkOf, dtOf, rdS, rdL, asL, isFlat, if_pos, scalAny, scalD, Option.bind_some, Option.map_some, Bool.or_false]
  simp [eq_comm]
end PM

namespace K_k03
open PySem PySem.Spec L2 PM PyProof.Rows
def top (i : Nat) : Stmt := PySem.Challenge.pw_fieldrest_k03_blanks_filled.main.body.getD i (.Pass ⟨0, 0, 0, 0⟩)
inductive Fn where
  | is_whole
  | is_word
  | is_pair
  | is_rest
  | is_row
  | is_kind_in
  | knots
  | depth
  | blanks_in
  | put_blank
  | is_kind
  | need_kind
  | fill
  | is_fill
  | filled
  | _law_cell
  | _law_next
  | _law_labels
  | _law_kind
  | _law_blanks
  | _law_filled
  | _law_fill
  | _law_knots
  | _law_deep
  | _law_met
  | _law_odd
  | _law_tried
  | _law_due
  | _law_round
  | law
inductive FnX where
  | _law_lone
def N_is_whole : List Str := ["thing"]
def N_is_word : List Str := ["thing", "sign"]
def N_is_pair : List Str := ["thing"]
def N_is_rest : List Str := ["thing"]
def N_is_row : List Str := ["fields", "deep", "pair", "labels"]
def N_is_kind_in : List Str := ["thing", "deep"]
def N_knots : List Str := ["kind", "pair"]
def N_depth : List Str := ["kind", "pair"]
def N_blanks_in : List Str := ["kind", "found", "good", "pair"]
def N_put_blank : List Str := ["found", "number", "labels"]
def N_is_kind : List Str := ["thing"]
def N_need_kind : List Str := ["thing"]
def N_fill : List Str := ["kind", "fills", "fields", "pair", "rest"]
def N_is_fill : List Str := ["labels", "thing", "pair"]
def N_filled : List Str := ["kind", "fills", "found", "number", "made"]
def N__law_cell : List Str := ["_law_script", "_law_k"]
def N__law_next : List Str := ["_law_state"]
def N__law_labels : List Str := ["_law_cell_here", "_law_many", "_law_signs", "_law_size", "_law_at", "_law_step", "_law_base", "_law_k", "_law_found", "_law_sign"]
def N__law_kind : List Str := ["_law_state", "_law_labels_here", "_law_met_here", "_law_left", "_law_number", "_law_picked", "_law_words", "_law_label", "_law_fields"]
def N__law_blanks : List Str := ["_law_kind_here", "_law_found", "_law_pair"]
def N__law_filled : List Str := ["_law_kind_here", "_law_fills", "_law_fields", "_law_inner", "_law_label", "_law_rest", "_law_inside"]
def N__law_fill : List Str := ["_law_state", "_law_labels_here", "_law_met_here", "_law_ahead", "_law_free", "_law_label", "_law_fields", "_law_words", "_law_pair", "_law_word"]
def N__law_lone : List Str := ["_law_e", "_law_found"]
def N__law_knots : List Str := ["_law_kind_here", "_law_pair"]
def N__law_deep : List Str := ["_law_kind_here", "_law_pair"]
def N__law_met : List Str := ["_law_kind_here", "_law_seen", "_law_good", "_law_pair", "_law_labels_here"]
def N__law_odd : List Str := ["_law_number", "_law_ahead", "_law_one", "_law_some"]
def N__law_tried : List Str := ["_law_kind_here", "_law_fills", "_law_e"]
def N__law_due : List Str := ["_law_kind_here", "_law_fills", "_law_odd_here", "_law_due_here"]
def N__law_round : List Str := ["_law_labels_here", "_law_seed", "_law_size", "_law_way", "_law_number", "_law_state", "_law_met_here", "_law_kind_here", "_law_blanks_here", "_law_fills", "_law_odd_here", "_law_k", "_law_deep_here", "_law_kinds", "_law_rests", "_law_copy", "_law_due_here", "_law_found"]
def N_law : List Str := ["_law_script", "_law_labels_here", "_law_k", "_law_cells", "_law_turn"]
abbrev Cs := Fn → List D → Sto → R D
abbrev CsE := FnX → Addr → Str → List D → Sto → R D
def okX (y : Str) : Bool := decide (y = Str.ofString "BadKind") || decide (y = Str.ofString "BadFill") || decide (y = Str.ofString "TooGreat")
noncomputable def b__law_lone (a : Addr) (y : Str) : Sm :=
  (sSeq (sAsg (mB opAdd (mB opAdd (mApp cIntB (mCons (mU (opIsE a (isx y "BadFill")) (mV 0)) mNil)) (mApp cIntB (mCons (mU (opIsE a (isx y "BadKind")) (mV 0)) mNil))) (mApp cIntB (mCons (mU (opIsE a (isx y "Lacks")) (mV 0)) mNil))) (gmName 1)) (sSeq (sAsg (mB opAdd (mB opAdd (mB opAdd (mV 1) (mApp cIntB (mCons (mU (opIsE a (isx y "NoDefinition")) (mV 0)) mNil))) (mApp cIntB (mCons (mU (opIsE a (isx y "NoNumber")) (mV 0)) mNil))) (mApp cIntB (mCons (mU (opIsE a (isx y "NoRecord")) (mV 0)) mNil))) (gmName 1)) (sRet (mAndV (mU (opIsE a (isx y "ValueError")) (mV 0)) (mB opEq (mB opAdd (mV 1) (mApp cIntB (mCons (mU (opIsE a (isx y "TooGreat")) (mV 0)) mNil))) (mC (.int 1)))))))
noncomputable def bodyE (a : Addr) (y : Str) : FnX → Sm
  | ._law_lone => b__law_lone a y
def slotsE : FnX → Nat
  | ._law_lone => 2
def nmE : FnX → Str
  | ._law_lone => "_law_lone"
def arE : FnX → Nat
  | ._law_lone => 1
noncomputable def runE : Nat → CsE
  | 0, _ => fun _ _ _ _ => .stuck
  | k + 1, g => fun a y ds S => finRaw S (runB (bodyE a y g) (slotsE g) ds S)
noncomputable def b_is_whole (C : Cs) (CE : CsE) : Sm :=
  (sRet (mAndV (mU (opIsi "int") (mV 0)) (mNotV (mU (opIsi "bool") (mV 0)))))
noncomputable def b_is_word (C : Cs) (CE : CsE) : Sm :=
  (sRet (mAndV (mU (opIsi "str") (mV 0)) (mAndV (mChain opLe opLe (mC (.int 1)) (mApp cLen (mCons (mV 0) mNil)) (mC (.int 8))) (mApp cAll (mCons (mComp (sItems (mV 0)) (gmName 1) mYes (mB opIn (mV 1) (mC (.str "abcdefghijklmnopqrstuvwxyz"))) [1]) mNil)))))
noncomputable def b_is_pair (C : Cs) (CE : CsE) : Sm :=
  (sRet (mAndV (mU (opIsi "tuple") (mV 0)) (mAndV (mB opEq (mApp cLen (mCons (mV 0) mNil)) (mC (.int 2))) (mApp (C .is_word) (mCons (mB opIx (mV 0) (mC (.int 0))) mNil)))))
noncomputable def b_is_rest (C : Cs) (CE : CsE) : Sm :=
  (sRet (mOrV (mB opIsN (mV 0) (mC .non)) (mAndV (mApp (C .is_whole) (mCons (mV 0) mNil)) (mB opGe (mV 0) (mC (.int 0))))))
noncomputable def b_is_row (C : Cs) (CE : CsE) : Sm :=
  (sSeq (sIf (mOr (mNot (mT (mU (opIsi "tuple") (mV 0)))) (mNot (mT (mApp cAll (mCons (mComp (sItems (mV 0)) (gmName 2) mYes (mApp (C .is_pair) (mCons (mV 2) mNil)) [2]) mNil))))) (sRet (mC (.bl false))) sPass) (sSeq (sAsg (mComp (sItems (mV 0)) (gmName 2) mYes (mB opIx (mV 2) (mC (.int 0))) [2]) (gmName 3)) (sSeq (sIf (mOr (mT (mB opNe (mV 3) (mApp cSorted (mCons (mV 3) mNil)))) (mT (mB opNe (mLenSet (mV 3)) (mApp cLen (mCons (mV 3) mNil))))) (sRet (mC (.bl false))) sPass) (sRet (mApp cAll (mCons (mComp (sItems (mV 0)) (gmName 2) mYes (mApp (C .is_kind_in) (mCons (mB opIx (mV 2) (mC (.int 1))) (mCons (mV 1) mNil))) [2]) mNil))))))
noncomputable def b_is_kind_in (C : Cs) (CE : CsE) : Sm :=
  (sSeq (sIf (mOr (mT (mB opEq (mV 1) (mC (.int 0)))) (mOr (mNot (mT (mU (opIsi "tuple") (mV 0)))) (mOr (mT (mB opLt (mApp cLen (mCons (mV 0) mNil)) (mC (.int 1)))) (mNot (mT (mU (opIsi "str") (mB opIx (mV 0) (mC (.int 0))))))))) (sRet (mC (.bl false))) sPass) (sSeq (sIf (mT (mB opEq (mB opIx (mV 0) (mC (.int 0))) (mC (.str "number")))) (sRet (mB opEq (mApp cLen (mCons (mV 0) mNil)) (mC (.int 1)))) sPass) (sSeq (sIf (mT (mB opEq (mB opIx (mV 0) (mC (.int 0))) (mC (.str "blank")))) (sRet (mAndV (mB opEq (mApp cLen (mCons (mV 0) mNil)) (mC (.int 2))) (mAndV (mApp (C .is_whole) (mCons (mB opIx (mV 0) (mC (.int 1))) mNil)) (mB opGe (mB opIx (mV 0) (mC (.int 1))) (mC (.int 0)))))) sPass) (sRet (mAndV (mB opEq (mB opIx (mV 0) (mC (.int 0))) (mC (.str "record"))) (mAndV (mB opEq (mApp cLen (mCons (mV 0) mNil)) (mC (.int 3))) (mAndV (mApp (C .is_rest) (mCons (mB opIx (mV 0) (mC (.int 2))) mNil)) (mApp (C .is_row) (mCons (mB opIx (mV 0) (mC (.int 1))) (mCons (mB opSub (mV 1) (mC (.int 1))) mNil))))))))))
noncomputable def b_knots (C : Cs) (CE : CsE) : Sm :=
  (sSeq (sIf (mT (mB opNe (mB opIx (mV 0) (mC (.int 0))) (mC (.str "record")))) (sRet (mC (.int 1))) sPass) (sRet (mB opAdd (mC (.int 1)) (mApp cSum (mCons (mComp (sItems (mB opIx (mV 0) (mC (.int 1)))) (gmName 1) mYes (mApp (C .knots) (mCons (mB opIx (mV 1) (mC (.int 1))) mNil)) [1]) mNil)))))
noncomputable def b_depth (C : Cs) (CE : CsE) : Sm :=
  (sSeq (sIf (mT (mB opNe (mB opIx (mV 0) (mC (.int 0))) (mC (.str "record")))) (sRet (mC (.int 1))) sPass) (sRet (mB opAdd (mC (.int 1)) (mMaxD (mComp (sItems (mB opIx (mV 0) (mC (.int 1)))) (gmName 1) mYes (mApp (C .depth) (mCons (mB opIx (mV 1) (mC (.int 1))) mNil)) [1]) (mC (.int 0))))))
noncomputable def b_blanks_in (C : Cs) (CE : CsE) : Sm :=
  (sSeq (sIf (mT (mB opEq (mB opIx (mV 0) (mC (.int 0))) (mC (.str "blank")))) (sRet (mApp (C .put_blank) (mCons (mV 1) (mCons (mB opIx (mV 0) (mC (.int 1))) (mCons (mC .non) mNil))))) sPass) (sSeq (sAsg (mC (.bl true)) (gmName 2)) (sSeq (sIf (mT (mB opEq (mB opIx (mV 0) (mC (.int 0))) (mC (.str "record")))) (sSeq (sFor (sItems (mB opIx (mV 0) (mC (.int 1)))) (gmName 3) (sAsg (mAndV (mApp (C .blanks_in) (mCons (mB opIx (mV 3) (mC (.int 1))) (mCons (mV 1) mNil))) (mV 2)) (gmName 2))) (sIf (mT (mB opNotN (mB opIx (mV 0) (mC (.int 2))) (mC .non))) (sAsg (mAndV (mApp (C .put_blank) (mCons (mV 1) (mCons (mB opIx (mV 0) (mC (.int 2))) (mCons (mComp (sItems (mB opIx (mV 0) (mC (.int 1)))) (gmName 3) mYes (mB opIx (mV 3) (mC (.int 0))) [3]) mNil)))) (mV 2)) (gmName 2)) sPass)) sPass) (sRet (mV 2)))))
noncomputable def b_put_blank (C : Cs) (CE : CsE) : Sm :=
  (sSeq (sIf (mT (mB opNotIn (mV 1) (mV 0))) (sAsg (mV 2) (gmSub (mV 0) (mV 1) opSet)) sPass) (sRet (mB opEq (mB opIx (mV 0) (mV 1)) (mV 2))))
noncomputable def b_is_kind (C : Cs) (CE : CsE) : Sm :=
  (sRet (mAndV (mApp (C .is_kind_in) (mCons (mV 0) (mCons (mC (.int 12)) mNil))) (mAndV (mB opLe (mApp (C .knots) (mCons (mV 0) mNil)) (mC (.int 200))) (mApp (C .blanks_in) (mCons (mV 0) (mCons mNewK mNil))))))
noncomputable def b_need_kind (C : Cs) (CE : CsE) : Sm :=
  (sIf (mNot (mT (mApp (C .is_kind) (mCons (mV 0) mNil)))) (sRaise "BadKind") sPass)
noncomputable def b_fill (C : Cs) (CE : CsE) : Sm :=
  (sSeq (sIf (mAnd (mT (mB opEq (mB opIx (mV 0) (mC (.int 0))) (mC (.str "blank")))) (mT (mB opIn (mB opIx (mV 0) (mC (.int 1))) (mV 1)))) (sRet (mB opIx (mV 1) (mB opIx (mV 0) (mC (.int 1))))) sPass) (sSeq (sIf (mT (mB opNe (mB opIx (mV 0) (mC (.int 0))) (mC (.str "record")))) (sRet (mV 0)) sPass) (sSeq (sAsg (mComp (sItems (mB opIx (mV 0) (mC (.int 1)))) (gmName 3) mYes (mApp newTup (mCons (mB opIx (mV 3) (mC (.int 0))) (mCons (mApp (C .fill) (mCons (mB opIx (mV 3) (mC (.int 1))) (mCons (mV 1) mNil))) mNil))) [3]) (gmName 2)) (sSeq (sAsg (mB opIx (mV 0) (mC (.int 2))) (gmName 4)) (sSeq (sIf (mAnd (mT (mB opNotN (mV 4) (mC .non))) (mT (mB opIn (mV 4) (mV 1)))) (sSeq (sAsg (mB opAdd (mV 2) (mApp cList (mCons (mB opIx (mB opIx (mV 1) (mV 4)) (mC (.int 0))) mNil))) (gmName 2)) (sAsg (mB opIx (mB opIx (mV 1) (mV 4)) (mC (.int 1))) (gmName 4))) sPass) (sRet (mApp newTup (mCons (mC (.str "record")) (mCons (mApp cTuple (mCons (mApp cSortedF (mCons (mV 2) mNil)) mNil)) (mCons (mV 4) mNil))))))))))
noncomputable def b_is_fill (C : Cs) (CE : CsE) : Sm :=
  (sSeq (sIf (mT (mB opIsN (mV 0) (mC .non))) (sRet (mApp (C .is_kind_in) (mCons (mV 1) (mCons (mC (.int 12)) mNil)))) sPass) (sSeq (sIf (mOr (mNot (mT (mU (opIsi "tuple") (mV 1)))) (mOr (mT (mB opNe (mApp cLen (mCons (mV 1) mNil)) (mC (.int 2)))) (mNot (mT (mApp (C .is_kind_in) (mCons (mB opAdd (mApp newTup (mCons (mC (.str "record")) mNil)) (mV 1)) (mCons (mC (.int 12)) mNil))))))) (sRet (mC (.bl false))) sPass) (sRet (mApp cAll (mCons (mComp (sItems (mB opIx (mV 1) (mC (.int 0)))) (gmName 2) mYes (mB opNotIn (mB opIx (mV 2) (mC (.int 0))) (mV 0)) [2]) mNil)))))
noncomputable def b_filled (C : Cs) (CE : CsE) : Sm :=
  (sSeq (sExpr (mApp (C .need_kind) (mCons (mV 0) mNil))) (sSeq (sAsg mNewK (gmName 2)) (sSeq (sExpr (mApp (C .blanks_in) (mCons (mV 0) (mCons (mV 2) mNil)))) (sSeq (lockS 2 (sFor (sKeys (mV 2)) (gmName 3) (sIf (mAnd (mT (mB opIn (mV 3) (mV 1))) (mNot (mT (mApp (C .is_fill) (mCons (mB opIx (mV 2) (mV 3)) (mCons (mB opIx (mV 1) (mV 3)) mNil)))))) (sRaise "BadFill") sPass))) (sSeq (sAsg (mApp (C .fill) (mCons (mV 0) (mCons (mV 1) mNil))) (gmName 4)) (sSeq (sIf (mOr (mT (mB opGt (mApp (C .knots) (mCons (mV 4) mNil)) (mC (.int 200)))) (mT (mB opGt (mApp (C .depth) (mCons (mV 4) mNil)) (mC (.int 12))))) (sRaise "TooGreat") sPass) (sSeq (sIf (mNot (mT (mApp (C .is_kind) (mCons (mV 4) mNil)))) (sRaise "BadFill") sPass) (sRet (mV 4)))))))))
noncomputable def b__law_cell (C : Cs) (CE : CsE) : Sm :=
  (sSeq (sIf (mT (mB opLt (mV 1) (mApp cLen (mCons (mV 0) mNil)))) (sRet (mB opMod (mB opMul (mB opIx (mV 0) (mV 1)) (mC (.int 48271))) (mC (.int 2147483647)))) sPass) (sRet (mC (.int 0))))
noncomputable def b__law_next (C : Cs) (CE : CsE) : Sm :=
  (sSeq (sAsg (mB opMod (mB opAdd (mB opMul (mB opIx (mV 0) (mC (.int 0))) (mC (.int 48271))) (mC (.int 11))) (mC (.int 2147483647))) (gmSub (mV 0) (mC (.int 0)) opSet)) (sSeq (sAsg (mB opSub (mB opIx (mV 0) (mC (.int 1))) (mC (.int 1))) (gmSub (mV 0) (mC (.int 1)) opSet)) (sRet (mB opDiv (mB opIx (mV 0) (mC (.int 0))) (mC (.int 7))))))
noncomputable def b__law_labels (C : Cs) (CE : CsE) : Sm :=
  (sSeq (sAsg (mC (.str "abcdefghijklmnopqrstuvwxyz")) (gmName 2)) (sSeq (sAsg (mB opMod (mV 0) (mC (.int 7))) (gmName 3)) (sSeq (sAsg (mB opMod (mB opDiv (mV 0) (mC (.int 7))) (mB opAdd (mV 3) (mC (.int 1)))) (gmName 4)) (sSeq (sAsg (mB opMod (mB opDiv (mV 0) (mC (.int 49))) (mC (.int 26))) (gmName 5)) (sSeq (sAsg (mJoin (mC (.str "")) (mComp (sRange1 (mV 3)) (gmName 7) mYes (mB opIx (mV 2) (mB opMod (mB opAdd (mV 5) (mB opMul (mB opDiv (mV 0) (mC (.int 1274))) (mV 7))) (mC (.int 26)))) [7])) (gmName 6)) (sSeq (sAsg (mApp newRef mNil) (gmName 8)) (sSeq (sFor (sRange1 (mV 1)) (gmName 7) (sSeq (sAsg (mB opIx (mV 2) (mB opMod (mB opAdd (mB opDiv (mV 0) (mC (.int 49))) (mB opMul (mC (.int 3)) (mV 7))) (mC (.int 26)))) (gmName 9)) (sExpr (mMt isLst cAppend (mV 8) (mCons (mB opAdd (mB opAdd (mSl opSl (mV 6) mNo (mPt (mV 4))) (mV 9)) (mSl opSl (mV 6) (mPt (mV 4)) mNo)) mNil))))) (sRet (mV 8)))))))))
noncomputable def b__law_kind (C : Cs) (CE : CsE) : Sm :=
  (sSeq (sAsg (mApp (C ._law_next) (mCons (mV 0) mNil)) (gmName 4)) (sSeq (sIf (mOr (mT (mB opLe (mV 3) (mC (.int 1)))) (mOr (mT (mB opLe (mB opIx (mV 0) (mC (.int 1))) (mC (.int 0)))) (mT (mB opLt (mB opMod (mV 4) (mC (.int 7))) (mC (.int 2)))))) (sRet (mApp newTup (mCons (mC (.str "number")) mNil))) sPass) (sSeq (sIf (mT (mB opEq (mB opMod (mV 4) (mC (.int 7))) (mC (.int 2)))) (sRet (mApp newTup (mCons (mC (.str "blank")) (mCons (mB opMul (mB opMul (mB opIx (mV 2) (mC (.int 0))) (mC (.int 2))) (mB opMod (mB opDiv (mV 4) (mC (.int 7))) (mC (.int 3)))) mNil)))) sPass) (sSeq (sAsg (mSl opSl (mApp newLst (mCons (mB opIx (mV 1) (mB opMod (mB opDiv (mV 4) (mC (.int 7))) (mC (.int 4)))) (mCons (mB opIx (mV 1) (mB opMod (mB opDiv (mV 4) (mC (.int 28))) (mC (.int 4)))) (mCons (mB opIx (mV 1) (mB opMod (mB opDiv (mV 4) (mC (.int 112))) (mC (.int 4)))) mNil)))) mNo (mPt (mB opMod (mB opDiv (mV 4) (mC (.int 448))) (mC (.int 4))))) (gmName 5)) (sSeq (sAsg (mComp (sItems (mApp cSorted (mCons (mV 1) mNil))) (gmName 7) (mT (mB opIn (mV 7) (mV 5))) (mV 7) [7]) (gmName 6)) (sSeq (sAsg (mApp cTuple (mCons (mComp (sItems (mV 6)) (gmName 7) mYes (mApp newTup (mCons (mV 7) (mCons (mApp (C ._law_kind) (mCons (mV 0) (mCons (mV 1) (mCons (mV 2) (mCons (mB opSub (mV 3) (mC (.int 1))) mNil))))) mNil))) [7]) mNil)) (gmName 8)) (sSeq (sIf (mT (mB opEq (mB opMod (mB opDiv (mV 4) (mC (.int 1792))) (mC (.int 2))) (mC (.int 0)))) (sRet (mApp newTup (mCons (mC (.str "record")) (mCons (mV 8) (mCons (mC .non) mNil))))) sPass) (sSeq (sIf (mT (mB opNotIn (mV 6) (mB opIx (mV 2) (mC (.int 1))))) (sExpr (mMt isLst cAppend (mB opIx (mV 2) (mC (.int 1))) (mCons (mV 6) mNil))) sPass) (sRet (mApp newTup (mCons (mC (.str "record")) (mCons (mV 8) (mCons (mB opMul (mB opIx (mV 2) (mC (.int 0))) (mB opAdd (mC (.int 1)) (mB opMul (mC (.int 2)) (mMt isLst cIndex (mB opIx (mV 2) (mC (.int 1))) (mCons (mV 6) mNil))))) mNil)))))))))))))
noncomputable def b__law_blanks (C : Cs) (CE : CsE) : Sm :=
  (sSeq (sIf (mT (mB opEq (mB opIx (mV 0) (mC (.int 0))) (mC (.str "blank")))) (sAsg (mC .non) (gmSub (mV 1) (mB opIx (mV 0) (mC (.int 1))) opSet)) sPass) (sSeq (sIf (mT (mB opEq (mB opIx (mV 0) (mC (.int 0))) (mC (.str "record")))) (sSeq (sFor (sItems (mB opIx (mV 0) (mC (.int 1)))) (gmName 2) (sExpr (mApp (C ._law_blanks) (mCons (mB opIx (mV 2) (mC (.int 1))) (mCons (mV 1) mNil))))) (sIf (mT (mB opNotN (mB opIx (mV 0) (mC (.int 2))) (mC .non))) (sAsg (mComp (sItems (mB opIx (mV 0) (mC (.int 1)))) (gmName 2) mYes (mB opIx (mV 2) (mC (.int 0))) [2]) (gmSub (mV 1) (mB opIx (mV 0) (mC (.int 2))) opSet)) sPass)) sPass) (sRet (mV 1))))
noncomputable def b__law_filled (C : Cs) (CE : CsE) : Sm :=
  (sSeq (sIf (mT (mB opEq (mB opIx (mV 0) (mC (.int 0))) (mC (.str "blank")))) (sRet (mD3 kGet (mV 1) (mB opIx (mV 0) (mC (.int 1))) (mV 0))) sPass) (sSeq (sIf (mT (mB opEq (mB opIx (mV 0) (mC (.int 0))) (mC (.str "number")))) (sRet (mV 0)) sPass) (sSeq (sAsg (mComp (sItems (mB opIx (mV 0) (mC (.int 1)))) (gmTup [4, 3]) mYes (mApp newTup (mCons (mV 4) (mCons (mApp (C ._law_filled) (mCons (mV 3) (mCons (mV 1) mNil))) mNil))) [4, 3]) (gmName 2)) (sSeq (sAsg (mB opIx (mV 0) (mC (.int 2))) (gmName 5)) (sSeq (sIf (mAnd (mT (mB opNotN (mV 5) (mC .non))) (mT (mB opIn (mV 5) (mV 1)))) (sSeq (sAsg (mB opAdd (mV 2) (mApp cList (mCons (mB opIx (mB opIx (mV 1) (mV 5)) (mC (.int 0))) mNil))) (gmName 2)) (sAsg (mB opIx (mB opIx (mV 1) (mV 5)) (mC (.int 1))) (gmName 5))) sPass) (sSeq (sAsg (mApp cDictR (mCons (mV 2) mNil)) (gmName 6)) (sRet (mApp newTup (mCons (mC (.str "record")) (mCons (mApp cTuple (mCons (mComp (sItems (mApp cSorted (mCons (mApp cListK (mCons (mV 6) mNil)) mNil))) (gmName 4) mYes (mApp newTup (mCons (mV 4) (mCons (mB opIx (mV 6) (mV 4)) mNil))) [4]) mNil)) (mCons (mV 5) mNil)))))))))))
noncomputable def b__law_fill (C : Cs) (CE : CsE) : Sm :=
  (sSeq (sIf (mT (mB opIsN (mV 3) (mC .non))) (sRet (mApp (C ._law_kind) (mCons (mV 0) (mCons (mV 1) (mCons (mV 2) (mCons (mC (.int 3)) mNil)))))) sPass) (sSeq (sAsg (mComp (sItems (mApp cSorted (mCons (mB opAdd (mV 1) (mApp newLst (mCons (mC (.str "zzzzzzzz")) mNil))) mNil))) (gmName 5) (mT (mB opNotIn (mV 5) (mV 3))) (mV 5) [5]) (gmName 4)) (sSeq (sAsg (mApp cTuple (mCons (mComp (sItems (mV 4)) (gmName 5) (mT (mB opEq (mB opMod (mApp (C ._law_next) (mCons (mV 0) mNil)) (mC (.int 2))) (mC (.int 0)))) (mApp newTup (mCons (mV 5) (mCons (mApp (C ._law_kind) (mCons (mV 0) (mCons (mV 1) (mCons (mV 2) (mCons (mC (.int 2)) mNil))))) mNil))) [5]) mNil)) (gmName 6)) (sSeq (sIf (mT (mB opEq (mB opMod (mApp (C ._law_next) (mCons (mV 0) mNil)) (mC (.int 2))) (mC (.int 0)))) (sRet (mApp newTup (mCons (mV 6) (mCons (mC .non) mNil)))) sPass) (sSeq (sAsg (mB opAdd (mB opAdd (mV 3) (mApp newLst (mCons (mC (.str "-")) mNil))) (mComp (sItems (mV 6)) (gmName 8) mYes (mB opIx (mV 8) (mC (.int 0))) [8])) (gmName 7)) (sSeq (sAsg (mApp cSorted (mCons (mComp (sItems (mV 7)) (gmName 9) (mT (mB opNe (mV 9) (mC (.str "-")))) (mV 9) [9]) mNil)) (gmName 7)) (sSeq (sIf (mT (mB opNotIn (mV 7) (mB opIx (mV 2) (mC (.int 1))))) (sExpr (mMt isLst cAppend (mB opIx (mV 2) (mC (.int 1))) (mCons (mV 7) mNil))) sPass) (sRet (mApp newTup (mCons (mV 6) (mCons (mB opMul (mB opIx (mV 2) (mC (.int 0))) (mB opAdd (mC (.int 1)) (mB opMul (mC (.int 2)) (mMt isLst cIndex (mB opIx (mV 2) (mC (.int 1))) (mCons (mV 7) mNil))))) mNil)))))))))))
noncomputable def b__law_knots (C : Cs) (CE : CsE) : Sm :=
  (sSeq (sIf (mT (mB opNe (mB opIx (mV 0) (mC (.int 0))) (mC (.str "record")))) (sRet (mC (.int 1))) sPass) (sRet (mB opAdd (mC (.int 1)) (mApp cSum (mCons (mComp (sItems (mB opIx (mV 0) (mC (.int 1)))) (gmName 1) mYes (mApp (C ._law_knots) (mCons (mB opIx (mV 1) (mC (.int 1))) mNil)) [1]) mNil)))))
noncomputable def b__law_deep (C : Cs) (CE : CsE) : Sm :=
  (sSeq (sIf (mT (mB opNe (mB opIx (mV 0) (mC (.int 0))) (mC (.str "record")))) (sRet (mC (.int 1))) sPass) (sRet (mB opAdd (mC (.int 1)) (mMaxD (mComp (sItems (mB opIx (mV 0) (mC (.int 1)))) (gmName 1) mYes (mApp (C ._law_deep) (mCons (mB opIx (mV 1) (mC (.int 1))) mNil)) [1]) (mC (.int 0))))))
noncomputable def b__law_met (C : Cs) (CE : CsE) : Sm :=
  (sSeq (sIf (mT (mB opEq (mB opIx (mV 0) (mC (.int 0))) (mC (.str "blank")))) (sRet (mB opIsN (mD3 kSetd (mV 1) (mB opIx (mV 0) (mC (.int 1))) (mC .non)) (mC .non))) sPass) (sSeq (sAsg (mC (.bl true)) (gmName 2)) (sSeq (sIf (mT (mB opEq (mB opIx (mV 0) (mC (.int 0))) (mC (.str "record")))) (sSeq (sFor (sItems (mB opIx (mV 0) (mC (.int 1)))) (gmName 3) (sAsg (mAndV (mApp (C ._law_met) (mCons (mB opIx (mV 3) (mC (.int 1))) (mCons (mV 1) mNil))) (mV 2)) (gmName 2))) (sSeq (sAsg (mComp (sItems (mB opIx (mV 0) (mC (.int 1)))) (gmName 3) mYes (mB opIx (mV 3) (mC (.int 0))) [3]) (gmName 4)) (sIf (mAnd (mT (mB opNotN (mB opIx (mV 0) (mC (.int 2))) (mC .non))) (mT (mB opNe (mD3 kSetd (mV 1) (mB opIx (mV 0) (mC (.int 2))) (mV 4)) (mV 4)))) (sRet (mC (.bl false))) sPass))) sPass) (sRet (mV 2)))))
noncomputable def b__law_odd (C : Cs) (CE : CsE) : Sm :=
  (sSeq (sAsg (mApp newTup (mCons (mC (.str "number")) mNil)) (gmName 2)) (sSeq (sAsg (mApp newLst (mCons (mC .non) (mCons (mApp newTup mNil) (mCons (mApp newTup (mCons (mC (.str "kind")) mNil)) (mCons (mApp newTup (mCons (mApp newTup mNil) (mCons (mC (.int 5)) (mCons (mC (.int 5)) mNil)))) (mCons (mApp newTup (mCons (mApp newTup (mCons (mC (.str "a")) (mCons (mV 2) mNil))) (mCons (mC .non) mNil))) (mCons (mApp newTup (mCons (mApp newLst mNil) (mCons (mC .non) mNil))) mNil))))))) (gmName 3)) (sSeq (sAsg (mB opAdd (mV 3) (mApp newLst (mCons (mApp newTup (mCons (mApp newTup (mCons (mApp newTup (mCons (mC (.str "b")) (mCons (mV 2) mNil))) (mCons (mApp newTup (mCons (mC (.str "a")) (mCons (mV 2) mNil))) mNil))) (mCons (mC .non) mNil))) mNil))) (gmName 3)) (sSeq (sAsg (mB opAdd (mV 3) (mApp newLst (mCons (mApp newTup (mCons (mApp newTup (mCons (mApp newTup (mCons (mC (.str "A")) (mCons (mV 2) mNil))) mNil)) (mCons (mC .non) mNil))) (mCons (mApp newTup (mCons (mApp newTup (mCons (mApp newTup (mCons (mC (.str "a")) (mCons (mC .non) mNil))) mNil)) (mCons (mC .non) mNil))) (mCons (mApp newTup (mCons (mApp newTup mNil) (mCons (mC (.bl true)) mNil))) (mCons (mApp newTup (mCons (mApp newTup mNil) (mCons (mU opNeg (mC (.int 1))) mNil))) mNil)))))) (gmName 3)) (sSeq (sAsg (mB opAddR (mV 3) (mApp newLst (mCons (mApp newTup (mCons (mC (.str "number")) (mCons (mC (.int 1)) mNil))) (mCons (mC (.int 7)) (mCons (mC (.str "number")) mNil))))) (gmName 3)) (sSeq (sIf (mAnd (mT (mB opNotN (mV 1) (mC .non))) (mT (mB opNe (mV 1) (mApp newLst mNil)))) (sExpr (mMt isLst cAppend (mV 3) (mCons (mApp newTup (mCons (mApp newTup (mCons (mApp newTup (mCons (mB opIx (mV 1) (mC (.int 0))) (mCons (mV 2) mNil))) mNil)) (mCons (mC .non) mNil))) mNil))) sPass) (sRet (mB opIx (mB opAdd (mV 3) (mApp newLst (mCons (mApp newTup (mCons (mC (.str "blank")) (mCons (mU opNeg (mC (.int 1))) mNil))) mNil))) (mB opMod (mV 0) (mB opAdd (mApp cLen (mCons (mV 3) mNil)) (mC (.int 1))))))))))))
noncomputable def b__law_tried (C : Cs) (CE : CsE) : Sm :=
  (sTryAs 2 okX (sRet (mApp (C .filled) (mCons (mV 0) (mCons (mV 1) mNil)))) (fun a y => (sSeq (sIf (mNot (mT (mApp (CE ._law_lone a y) (mCons (mV 2) mNil)))) (sRet (mApp newLst (mCons (mC (.str "more")) mNil))) sPass) (sSeq (sIf (mT (mU (opIsE a (isx y "BadKind")) (mV 2))) (sRet (mApp newLst (mCons (mC (.str "BadKind")) mNil))) sPass) (sRet (mApp newLst (mCons (mB opIx (mApp newLst (mCons (mC (.str "BadFill")) (mCons (mC (.str "TooGreat")) mNil))) (mApp cIntB (mCons (mU (opIsE a (isx y "TooGreat")) (mV 2)) mNil))) mNil)))))))
noncomputable def b__law_due (C : Cs) (CE : CsE) : Sm :=
  (sSeq (sIf (mT (mV 2)) (sRet (mApp newLst (mCons (mC (.str "BadFill")) mNil))) sPass) (sSeq (sAsg (mApp (C ._law_filled) (mCons (mV 0) (mCons (mV 1) mNil))) (gmName 3)) (sSeq (sIf (mOr (mT (mB opGt (mApp (C ._law_knots) (mCons (mV 3) mNil)) (mC (.int 200)))) (mT (mB opGt (mApp (C ._law_deep) (mCons (mV 3) mNil)) (mC (.int 12))))) (sRet (mApp newLst (mCons (mC (.str "TooGreat")) mNil))) sPass) (sRet (mIfE (mT (mApp (C ._law_met) (mCons (mV 3) (mCons mNewK mNil)))) (mV 3) (mApp newLst (mCons (mC (.str "BadFill")) mNil)))))))
noncomputable def b__law_round (C : Cs) (CE : CsE) : Sm :=
  (sSeq (sAsg (mApp newRef (mCons (mB opAdd (mC (.int 1)) (mB opMod (mV 1) (mC (.int 2147483645)))) (mCons (mB opAdd (mC (.int 8)) (mB opMod (mV 2) (mC (.int 23)))) mNil))) (gmName 5)) (sSeq (sAsg (mApp newLst (mCons (mB opAdd (mC (.int 1)) (mB opMod (mV 4) (mB opPow (mC (.int 10)) (mC (.int 6))))) (mCons (mApp newRef mNil) mNil))) (gmName 6)) (sSeq (sAsg (mApp (C ._law_kind) (mCons (mV 5) (mCons (mV 0) (mCons (mV 6) (mCons (mB opAdd (mC (.int 3)) (mB opMod (mB opDiv (mV 2) (mC (.int 23))) (mC (.int 4)))) mNil))))) (gmName 7)) (sSeq (sAsg (mApp (C ._law_blanks) (mCons (mV 7) (mCons mNewK mNil))) (gmName 8)) (sSeq (sAsg (mC (.int 25)) (gmSub (mV 5) (mC (.int 1)) opSet)) (sSeq (sAsg mNewK (gmName 9)) (sSeq (lockS 8 (sFor (sKeys (mV 8)) (gmName 4) (sIf (mOr (mT (mB opGt (mB opMod (mB opDiv (mV 3) (mC (.int 3))) (mC (.int 3))) (mC (.int 0)))) (mT (mB opEq (mB opMod (mApp (C ._law_next) (mCons (mV 5) mNil)) (mC (.int 2))) (mC (.int 0))))) (sAsg (mApp (C ._law_fill) (mCons (mV 5) (mCons (mV 0) (mCons (mV 6) (mCons (mB opIx (mV 8) (mV 4)) mNil))))) (gmSub (mV 9) (mV 4) opSet)) sPass))) (sSeq (sAsg (mApp newTup (mCons (mC (.str "no")) (mCons (mC (.str "kind")) mNil))) (gmSub (mV 9) (mB opAdd (mB opMul (mB opIx (mV 6) (mC (.int 0))) (mC (.int 100))) (mC (.int 1))) opSet)) (sSeq (sAsg (mAndV (mB opEq (mB opMod (mV 3) (mC (.int 3))) (mC (.int 1))) (mB opNe (mApp cListK (mCons (mV 8) mNil)) (mApp newLst mNil))) (gmName 10)) (sSeq (sIf (mT (mV 10)) (sSeq (sAsg (mB opIx (mApp cListK (mCons (mV 8) mNil)) (mB opMod (mB opDiv (mV 3) (mC (.int 9))) (mApp cLen (mCons (mV 8) mNil)))) (gmName 4)) (sAsg (mApp (C ._law_odd) (mCons (mB opDiv (mV 3) (mC (.int 27))) (mCons (mB opIx (mV 8) (mV 4)) mNil))) (gmSub (mV 9) (mV 4) opSet))) sPass) (sSeq (sIf (mT (mB opEq (mB opMod (mV 3) (mC (.int 9))) (mC (.int 2)))) (sSeq (sFor (sRange1 (mC (.int 11))) (gmName 11) (lockS 8 (sFor (sKeys (mV 8)) (gmName 4) (sIf (mT (mB opIsN (mB opIx (mV 8) (mV 4)) (mC .non))) (sAsg (mApp newTup (mCons (mC (.str "record")) (mCons (mApp newTup (mCons (mApp newTup (mCons (mC (.str "a")) (mCons (mD3 kGet (mV 9) (mV 4) (mApp newTup (mCons (mC (.str "number")) mNil))) mNil))) mNil)) (mCons (mC .non) mNil)))) (gmSub (mV 9) (mV 4) opSet)) sPass)))) (sSeq (lockS 8 (sAsg (mComp (sKeys (mV 8)) (gmName 4) (mAnd (mT (mB opIsN (mB opIx (mV 8) (mV 4)) (mC .non))) (mT (mB opGt (mApp (C ._law_deep) (mCons (mB opIx (mV 9) (mV 4)) mNil)) (mC (.int 12))))) (mV 4) [4]) (gmName 12))) (sAsg (mB opNe (mV 12) (mApp newLst mNil)) (gmName 10)))) sPass) (sSeq (lockS 8 (sAsg (mComp (sKeys (mV 8)) (gmName 4) (mT (mB opIsN (mB opIx (mV 8) (mV 4)) (mC .non))) (mV 4) [4]) (gmName 13))) (sSeq (lockS 8 (sAsg (mComp (sKeys (mV 8)) (gmName 4) (mT (mB opNotN (mB opIx (mV 8) (mV 4)) (mC .non))) (mV 4) [4]) (gmName 14))) (sSeq (sIf (mAnd (mT (mB opIn (mB opMod (mV 3) (mC (.int 9))) (mApp newLst (mCons (mC (.int 5)) (mCons (mC (.int 8)) mNil))))) (mAnd (mT (mB opNe (mV 13) (mApp newLst mNil))) (mT (mB opNe (mV 14) (mApp newLst mNil))))) (sSeq (sExpr (mD3 kPop (mV 9) (mB opIx (mV 14) (mC (.int 0))) (mC .non))) (sAsg (mB opIx (mApp newLst (mCons (mApp newTup (mCons (mC (.str "blank")) (mCons (mB opIx (mV 14) (mC (.int 0))) mNil))) (mCons (mApp newTup (mCons (mC (.str "record")) (mCons (mApp newTup (mCons (mApp newTup (mCons (mC (.str "a")) (mCons (mApp newTup (mCons (mC (.str "number")) mNil)) mNil))) mNil)) (mCons (mB opIx (mV 14) (mC (.int 0))) mNil)))) mNil))) (mB opMod (mB opDiv (mV 3) (mC (.int 9))) (mC (.int 2)))) (gmSub (mV 9) (mB opIx (mV 13) (mC (.int 0))) opSet))) sPass) (sSeq (sAsg (mApp cDictC (mCons (mV 9) mNil)) (gmName 15)) (sSeq (sAsg (mApp (C ._law_due) (mCons (mV 7) (mCons (mV 9) (mCons (mV 10) mNil)))) (gmName 16)) (sSeq (sAsg (mApp (C ._law_tried) (mCons (mV 7) (mCons (mV 9) mNil))) (gmName 17)) (sSeq (sExpr (mDClear (mV 9))) (sSeq (sIf (mOr (mT (mB opNe (mV 17) (mV 16))) (mT (mB opNe (mU (opIsi "list") (mV 17)) (mU (opIsi "list") (mV 16))))) (sRet (mC (.bl false))) sPass) (sRet (mAndV (mB opEq (mApp (C ._law_tried) (mCons (mV 7) (mCons (mV 15) mNil))) (mV 16)) (mB opEq (mApp (C ._law_tried) (mCons (mApp newTup (mCons (mC (.str "none")) mNil)) (mCons (mV 15) mNil))) (mApp newLst (mCons (mC (.str "BadKind")) mNil))))))))))))))))))))))))
noncomputable def b_law (C : Cs) (CE : CsE) : Sm :=
  (sSeq (sAsg (mApp (C ._law_labels) (mCons (mApp (C ._law_cell) (mCons (mV 0) (mCons (mC (.int 0)) mNil))) (mCons (mC (.int 4)) mNil))) (gmName 1)) (sSeq (sFor (sRange1 (mC (.int 3))) (gmName 2) (sSeq (sAsg (mComp (sRange1 (mC (.int 4))) (gmName 4) mYes (mApp (C ._law_cell) (mCons (mV 0) (mCons (mB opAdd (mB opAdd (mC (.int 1)) (mB opMul (mC (.int 4)) (mV 2))) (mV 4)) mNil))) [4]) (gmName 3)) (sIf (mNot (mT (mApp (C ._law_round) (mCons (mV 1) (mCons (mB opIx (mV 3) (mC (.int 0))) (mCons (mB opIx (mV 3) (mC (.int 1))) (mCons (mB opIx (mV 3) (mC (.int 2))) (mCons (mB opIx (mV 3) (mC (.int 3))) mNil)))))))) (sRet (mC (.bl false))) sPass))) (sRet (mC (.bl true)))))
noncomputable def body (C : Cs) (CE : CsE) : Fn → Sm
  | .is_whole => b_is_whole C CE
  | .is_word => b_is_word C CE
  | .is_pair => b_is_pair C CE
  | .is_rest => b_is_rest C CE
  | .is_row => b_is_row C CE
  | .is_kind_in => b_is_kind_in C CE
  | .knots => b_knots C CE
  | .depth => b_depth C CE
  | .blanks_in => b_blanks_in C CE
  | .put_blank => b_put_blank C CE
  | .is_kind => b_is_kind C CE
  | .need_kind => b_need_kind C CE
  | .fill => b_fill C CE
  | .is_fill => b_is_fill C CE
  | .filled => b_filled C CE
  | ._law_cell => b__law_cell C CE
  | ._law_next => b__law_next C CE
  | ._law_labels => b__law_labels C CE
  | ._law_kind => b__law_kind C CE
  | ._law_blanks => b__law_blanks C CE
  | ._law_filled => b__law_filled C CE
  | ._law_fill => b__law_fill C CE
  | ._law_knots => b__law_knots C CE
  | ._law_deep => b__law_deep C CE
  | ._law_met => b__law_met C CE
  | ._law_odd => b__law_odd C CE
  | ._law_tried => b__law_tried C CE
  | ._law_due => b__law_due C CE
  | ._law_round => b__law_round C CE
  | .law => b_law C CE
def slots : Fn → Nat
  | .is_whole => 1
  | .is_word => 2
  | .is_pair => 1
  | .is_rest => 1
  | .is_row => 4
  | .is_kind_in => 2
  | .knots => 2
  | .depth => 2
  | .blanks_in => 4
  | .put_blank => 3
  | .is_kind => 1
  | .need_kind => 1
  | .fill => 5
  | .is_fill => 3
  | .filled => 5
  | ._law_cell => 2
  | ._law_next => 1
  | ._law_labels => 10
  | ._law_kind => 9
  | ._law_blanks => 3
  | ._law_filled => 7
  | ._law_fill => 10
  | ._law_knots => 2
  | ._law_deep => 2
  | ._law_met => 5
  | ._law_odd => 4
  | ._law_tried => 3
  | ._law_due => 4
  | ._law_round => 18
  | .law => 5
def nm : Fn → Str
  | .is_whole => "is_whole"
  | .is_word => "is_word"
  | .is_pair => "is_pair"
  | .is_rest => "is_rest"
  | .is_row => "is_row"
  | .is_kind_in => "is_kind_in"
  | .knots => "knots"
  | .depth => "depth"
  | .blanks_in => "blanks_in"
  | .put_blank => "put_blank"
  | .is_kind => "is_kind"
  | .need_kind => "need_kind"
  | .fill => "fill"
  | .is_fill => "is_fill"
  | .filled => "filled"
  | ._law_cell => "_law_cell"
  | ._law_next => "_law_next"
  | ._law_labels => "_law_labels"
  | ._law_kind => "_law_kind"
  | ._law_blanks => "_law_blanks"
  | ._law_filled => "_law_filled"
  | ._law_fill => "_law_fill"
  | ._law_knots => "_law_knots"
  | ._law_deep => "_law_deep"
  | ._law_met => "_law_met"
  | ._law_odd => "_law_odd"
  | ._law_tried => "_law_tried"
  | ._law_due => "_law_due"
  | ._law_round => "_law_round"
  | .law => "law"
def ar : Fn → Nat
  | .is_whole => 1
  | .is_word => 1
  | .is_pair => 1
  | .is_rest => 1
  | .is_row => 2
  | .is_kind_in => 2
  | .knots => 1
  | .depth => 1
  | .blanks_in => 2
  | .put_blank => 3
  | .is_kind => 1
  | .need_kind => 1
  | .fill => 2
  | .is_fill => 2
  | .filled => 2
  | ._law_cell => 2
  | ._law_next => 1
  | ._law_labels => 2
  | ._law_kind => 4
  | ._law_blanks => 2
  | ._law_filled => 2
  | ._law_fill => 4
  | ._law_knots => 1
  | ._law_deep => 1
  | ._law_met => 2
  | ._law_odd => 2
  | ._law_tried => 2
  | ._law_due => 3
  | ._law_round => 5
  | .law => 1
noncomputable def fin : Fn → PM.Fin
  | .is_whole => finRaw
  | .is_word => finRaw
  | .is_pair => finRaw
  | .is_rest => finRaw
  | .is_row => finRaw
  | .is_kind_in => finRaw
  | .knots => finRaw
  | .depth => finRaw
  | .blanks_in => finRaw
  | .put_blank => finRaw
  | .is_kind => (finFrz 0)
  | .need_kind => finRaw
  | .fill => finRaw
  | .is_fill => finRaw
  | .filled => (finFrz 0)
  | ._law_cell => finRaw
  | ._law_next => finRaw
  | ._law_labels => (finFrz 1)
  | ._law_kind => finRaw
  | ._law_blanks => finRaw
  | ._law_filled => (finFrz 0)
  | ._law_fill => finRaw
  | ._law_knots => finRaw
  | ._law_deep => finRaw
  | ._law_met => finRaw
  | ._law_odd => (finFrz 0)
  | ._law_tried => finRaw
  | ._law_due => (finFrz 0)
  | ._law_round => (finFrz 0)
  | .law => finRaw
/-- what the defs answer, to a depth of calls -/
noncomputable def run : Nat → Cs
  | 0, _ => fun _ _ => .stuck
  | k + 1, f => fun ds S => fin f S (runB (body (run k) (runE k) f) (slots f) ds S)

end K_k03
section
namespace K_k03
open PySem L2 PM
theorem run_succ (k : Nat) (f : Fn) (ds : List D) (S : Sto) : run (k + 1) f ds S = fin f S (runB (body (run k) (runE k) f) (slots f) ds S) := rfl
theorem next_ok {k n : Nat} {S : Sto} {a b : Int} (h : S[n]? = some (.lst [.int a, .int b])) :
    run (k + 1) ._law_next [.ref n] S = .ok (.int ((a * 48271 + 11) % 2147483647 / 7)) (S.set n (.lst [.int ((a * 48271 + 11) % 2147483647), .int (b - 1)])) := by
  have e : ∀ o : MO, (S.set n o)[n]? = some o := fun o => sto_set h
  rw [run_succ]
  simp only [body, fin, slots, runB, b__law_next]
  simp [opIx_ref h, opMul_r, opMod_pos, opDiv_pos, opSet_lst h, opIx_ref (e _), opSet_lst (e _), finRaw]
theorem cell_ok {k : Nat} {S : Sto} {ns : List Int} {j : Nat} : run (k + 1) ._law_cell [.scr (ns.map .int), .int j] S = .ok (.int (cellv ns j)) S := by
  rw [run_succ]
  simp only [body, fin, slots, runB, b__law_cell]
  by_cases h : j < ns.length
  · simp [h, opMul_r, opMod_pos, finRaw, cellv]
  · simp [h, finRaw, cellv]

end K_k03
end
section
namespace K_k03
open PySem L2 PM
theorem labels_ok {k : Nat} {S : Sto} {c : Int} {m : Nat} (h0 : 0 ≤ c) (hm : m ≤ 8) : run (k + 1) ._law_labels [.int c, .int m] S = .ok (.lst ((labs c m).map .str)) S := by
  rw [run_succ]
  simp only [body, fin, slots, runB, b__law_labels]
  have h7 : 0 ≤ c % 7 ∧ c % 7 < 7 := ⟨by omega, by omega⟩
  have hA : 0 ≤ c / 7 % (c % 7 + 1) := Int.emod_nonneg _ (by omega)
  have l1 : limR 0 (c % 7) = true := limR_ok (by omega)
  have l2 : limR 0 (m : Int) = true := limR_ok (by omega)
  simp [opMod_pos, opDiv_pos, l1, l2, show (0 : Int) < c % 7 + 1 by omega, wipeD, rangeD_map]
  rw [comp_map (f := fun (k : Nat) => D.str ⟨#[sg (c / 49 % 26 + c / 1274 * (k : Int))]⟩) (hg := trivial) (h := fun x hx => by
    have hx : x < (c % 7).toNat := by simpa using hx
    refine ⟨_, rfl, rfl, ?_⟩
    have b0 := Int.emod_nonneg (c / 49 + c / 1274 * (x : Int)) (show (26 : Int) ≠ 0 by decide)
    have b1 := Int.emod_lt_of_pos (c / 49 + c / 1274 * (x : Int)) (show (0 : Int) < 26 by decide)
    simp [opDiv_pos, opMul_r (show -18446744073709551616 < (x : Int) ∧ (x : Int) < 18446744073709551616 by omega), opMod_pos, opIx_alpha b0 b1, sg])]
  simp only [R.bind_ok, List.nil_append]
  rw [join_map (fun k : Nat => sg (c / 49 % 26 + c / 1274 * (k : Int))) _ (by simp; omega)]
  have hle : (c / 7 % (c % 7 + 1)).toNat ≤ (⟨(labB c).toArray⟩ : Str).length := by
    have := labA_le h0
    simpa [labA, Str.length] using this
  have hlen : (labB c).length ≤ 7 := by rw [labB_len]; omega
  rw [show (List.range (c % 7).toNat).map (fun k : Nat => sg (c / 49 % 26 + c / 1274 * (k : Int))) = labB c from rfl]
  simp [l2, rangeD_map]
  generalize hL : loopM _ _ _ _ _ = r
  obtain ⟨δ', S', e, ⟨a, b, eδ⟩, eS⟩ := loop_of hL (fun i δ S' => (∃ a b, δ = [some (.int c), some (.int m), some (.str (Str.ofString "abcdefghijklmnopqrstuvwxyz")), some (.int (c % 7)), some (.int (c / 7 % (c % 7 + 1))), some (.int (c / 49 % 26)), some (.str ⟨(labB c).toArray⟩), a, some (.ref S.length), b]) ∧ S' = S ++ [.lst ((labs c i).map .str)])
    ⟨⟨_, _, rfl⟩, by simp [labs]⟩ (fun i x δ S1 hx ⟨⟨a, b, hδ⟩, hS⟩ => by
      rw [List.getElem?_map] at hx
      have hi : i < m := by
        rcases Nat.lt_or_ge i m with h | h
        · exact h
        · rw [List.getElem?_eq_none (by simpa using h)] at hx; cases hx
      rw [List.getElem?_range hi] at hx
      have ex : x = .int (i : Int) := by simpa using hx.symm
      subst hδ hS ex
      have b0 := Int.emod_nonneg (c / 49 + 3 * (i : Int)) (show (26 : Int) ≠ 0 by decide)
      have b1 := Int.emod_lt_of_pos (c / 49 + 3 * (i : Int)) (show (0 : Int) < 26 by decide)
      have hl : ((labs c i).map D.str).length < sizeLine := by rw [List.length_map, labs_len]; exact Nat.lt_of_lt_of_le (by omega) szl
      have z1 : (⟨((labB c).take (c / 7 % (c % 7 + 1)).toNat).toArray⟩ : Str).length + (⟨#[sg (c / 49 + 3 * (i : Int))]⟩ : Str).length ≤ sizeLine := by
        refine Nat.le_trans ?_ szl
        show _ + 1 ≤ _
        simp [Str.length]; omega
      have z2 : (⟨((labB c).take (c / 7 % (c % 7 + 1)).toNat ++ [sg (c / 49 + 3 * (i : Int))]).toArray⟩ : Str).length + (⟨((labB c).drop (c / 7 % (c % 7 + 1)).toNat).toArray⟩ : Str).length ≤ sizeLine := by
        refine Nat.le_trans ?_ szl
        simp [Str.length]; omega
      refine ⟨_, _, .inl ?_, ⟨some (.int i), some (.str ⟨#[sg (c / 49 + 3 * (i : Int))]⟩), rfl⟩, rfl⟩
      have hs : (⟨#[97 + ((c / 49 + 3 * (i : Int)) % 26).toNat]⟩ : Str) = ⟨#[sg (c / 49 + 3 * (i : Int))]⟩ := rfl
      have e1 : (⟨((labB c).take (c / 7 % (c % 7 + 1)).toNat).toArray⟩ : Str) ++ ⟨#[sg (c / 49 + 3 * (i : Int))]⟩ = ⟨((labB c).take (c / 7 % (c % 7 + 1)).toNat ++ [sg (c / 49 + 3 * (i : Int))]).toArray⟩ := str_app _ [sg (c / 49 + 3 * (i : Int))]
      have e2 := str_app ((labB c).take (c / 7 % (c % 7 + 1)).toNat ++ [sg (c / 49 + 3 * (i : Int))]) ((labB c).drop (c / 7 % (c % 7 + 1)).toNat)
      simp [loopB_eq, opDiv_pos, opMul_l, opMod_pos, opIx_alpha b0 b1, isLst_ref, cutS_to hA hle, cutS_from hA hle, hs]
      rw [opAdd_str z1, e1]
      simp only [R.bind_ok]
      rw [opAdd_str z2, e2]
      simp only [R.bind_ok]
      rw [cAppend_ref sto_snoc hl]
      simp
      rw [labs, labs, List.range_succ]
      simp [lab, labL, labA])
  subst e eδ eS
  simp
  exact finFrz_ref (Nat.le_refl _) sto_snoc (cls_map fun _ _ => rfl)

end K_k03
end
section
namespace K_k03
open PySem L2 PM
theorem whole_ok {k n : Nat} {S : Sto} {d : D} (h : th n d = true) : run (k + 1) .is_whole [d] S = .ok (.bl (isWholeD d)) S := by
  rw [run_succ]
  simp only [body, fin, slots, runB, b_is_whole]
  cases d <;> first
    | (cases n <;> cases h; done)
    | simp [finRaw, isWholeD]
theorem word_ok {k n : Nat} {S : Sto} {d : D} (h : th n d = true) : run (k + 1) .is_word [d] S = .ok (.bl (isWordD d)) S := by
  rw [run_succ]
  simp only [body, fin, slots, runB, b_is_word]
  cases d with
  | str s =>
    simp [wipeD]
    by_cases h1 : 1 ≤ s.length
    · have h1' : (1 : Int) ≤ (s.length : Int) := by omega
      by_cases h2 : s.length ≤ 8
      · have h2' : (s.length : Int) ≤ 8 := by omega
        simp [h1', h2']
        rw [comp_map (i := fun c : Nat => D.str ⟨#[c]⟩) (f := fun c => .bl (decide (c ∈ alphaS.cps.toList))) (hg := trivial) (h := fun c _ => ⟨_, rfl, rfl, by simp [opIn_sign, alphaS]⟩)]
        simp [cAll_map, finRaw, isWordD, h1, h2, azS]
      · have h2' : ¬ (s.length : Int) ≤ 8 := by omega
        simp [h1', h2', finRaw, isWordD, h1, h2]
    · have h1' : ¬ (1 : Int) ≤ (s.length : Int) := by omega
      simp [h1', finRaw, isWordD, h1]
  | _ => first
    | (cases n <;> cases h; done)
    | simp [finRaw, isWordD]
theorem rest_ok {k n : Nat} {S : Sto} {d : D} (h : th n d = true) : run (k + 2) .is_rest [d] S = .ok (.bl (isRestD d)) S := by
  have hw := whole_ok (k := k) (S := S) h
  rw [run_succ]
  simp only [body, fin, slots, runB, b_is_rest]
  cases d <;> first
    | (cases n <;> cases h; done)
    | simp [finRaw, isRestD, isNon, hw, isWholeD]
theorem pair_ok {k n : Nat} {S : Sto} {d : D} (h : th n d = true) : run (k + 2) .is_pair [d] S = .ok (.bl (isPairD d)) S := by
  rw [run_succ]
  simp only [body, fin, slots, runB, b_is_pair]
  cases d with
  | tup ds =>
    cases n with
    | zero => cases h
    | succ n =>
    match ds, h with
    | [], _ => simp [finRaw, isPairD]
    | [a], _ => simp [finRaw, isPairD]
    | [a, b], h =>
      have ha : th n a = true := by simp [th] at h; exact h.1
      simp [finRaw, isPairD, word_ok (k := k) ha]
    | a :: b :: c :: r, _ =>
      have : ¬ ((r.length : Int) + 1 + 1 + 1 = 2) := by omega
      simp [finRaw, isPairD, this]
  | _ => first
    | (cases n <;> cases h; done)
    | simp [finRaw, isPairD]

end K_k03
end
section
namespace K_k03
open PySem L2 PM
theorem row_ok {k n m : Nat} {S : Sto} {d : D} (hd : th (m + 1) d = true) (hC : ∀ x, th m x = true → run (k + 2) .is_kind_in [x, .int n] S = .ok (.bl (kindIn n x)) S) :
    run (k + 3) .is_row [d, .int n] S = .ok (.bl (rowIn (kindIn n) d)) S := by
  rw [run_succ]
  simp only [body, fin, slots, runB, b_is_row]
  cases d with
  | tup ps =>
    have hps : ∀ p ∈ ps, th m p = true := by
      simp only [th, Bool.and_eq_true, List.all_eq_true] at hd
      exact hd.2
    have hlen : ps.length ≤ 1000 := by
      simp only [th, Bool.and_eq_true, decide_eq_true_eq] at hd
      exact hd.1
    simp [wipeD]
    have e1 := comp_pure (grd := fun _ => True) (g := gmName 2) (t := mYes) (e := mApp (run (k + 2) .is_pair) (mCons (mV 2) mNil)) (δ := [some (.tup ps), some (.int n), none, none]) (S := S) (fun p => .bl (isPairD p)) trivial ps [] fun p hp => ⟨_, rfl, rfl, by simp [pair_ok (k := k) (hps p hp)]⟩
    obtain ⟨b1, hb1⟩ : ∃ b, b = ps.all isPairD := ⟨_, rfl⟩
    have hA : ∀ S, cAll [.lst (ps.map fun p => .bl (isPairD p))] S = .ok (.bl b1) S := fun S => by rw [cAll_map, hb1]
    rw [e1]
    simp [hA]
    cases b1 with
    | false => simp [finRaw, rowIn, ← hb1]
    | true =>
      have c1 := hb1.symm
      have hpr : ∀ p ∈ ps, ∃ s b, p = .tup [.str s, b] ∧ IsLab s := fun p hp => pair_is (List.all_eq_true.mp c1 p hp)
      have e2 := comp_pure (grd := fun _ => True) (g := gmName 2) (t := mYes) (e := mB opIx (mV 2) (mC (.int 0))) (δ := [some (.tup ps), some (.int n), none, none]) (S := S) (fun p => .str (labD p)) trivial ps [] fun p hp => by
        obtain ⟨s, b, e, _⟩ := hpr p hp
        subst e
        exact ⟨_, rfl, rfl, by simp [labD]⟩
      have hw : WOk (ps.map labD) := fun x hx => by
        obtain ⟨p, hp, e⟩ := List.mem_map.mp hx
        obtain ⟨s, b, e2, h⟩ := hpr p hp
        subst e e2
        exact h
      have e3 : ps.map (fun p => D.str (labD p)) = (ps.map labD).map .str := by rw [List.map_map]; rfl
      rw [e3, List.nil_append] at e2
      have hs : cSorted [.lst ((ps.map labD).map .str)] S = .ok (.lst ((sortStr (ps.map labD)).map .str)) S := by simp only [cSorted, rdL, asL, strsOf_id]
      have hset : mLenSet (mV 3) [some (.tup ps), some (.int n), none, some (.lst ((ps.map labD).map .str))] S = .ok (.int (ndist (ps.map labD) (ps.map labD).length : Nat)) S := by
        simp only [mLenSet, mV_eq, List.getElem?_cons_succ, List.getElem?_cons_zero, R.bind_ok, rdL, asL, strsOf_id]
        rw [if_pos (by rw [List.length_map]; omega)]
      have hne := opNe_of (eqD_w (S := S) hw (sort_wok hw))
      have hk := comp_pure (grd := fun _ => True) (g := gmName 2) (t := mYes) (e := mApp (run (k + 2) .is_kind_in) (mCons (mB opIx (mV 2) (mC (.int 1))) (mCons (mV 1) mNil))) (δ := [some (.tup ps), some (.int n), none, some (.lst ((ps.map labD).map .str))]) (S := S) (fun p => .bl (kindIn n (sndD p))) trivial ps [] fun p hp => by
        obtain ⟨s, b, e, _⟩ := hpr p hp
        have ht := hps p hp
        subst e
        have hb : th m b = true := (th_pair ht).2
        exact ⟨_, rfl, rfl, by simp [sndD, hC b hb]⟩
      obtain ⟨b2, hb2⟩ : ∃ b, b = ps.all fun p => kindIn n (sndD p) := ⟨_, rfl⟩
      have hA2 : ∀ S, cAll [.lst (ps.map fun p => .bl (kindIn n (sndD p)))] S = .ok (.bl b2) S := fun S => by rw [cAll_map, hb2]
      rw [List.nil_append] at hk
      generalize hlw : ps.map labD = lw at *
      have hrow : rowIn (kindIn n) (.tup ps) = (ascS lw && b2) := by simp only [rowIn, c1, Bool.true_and, ← hb2, hlw]
      rw [hrow]
      simp [wipeD, e2, hs, hne]
      by_cases d1 : lw = sortStr lw
      · by_cases d2 : ndist lw lw.length = lw.length
        · have d2' : ((ndist lw lw.length : Nat) : Int) = lw.length := by rw [d2]
          simp [← d1, hset, d2', wipeD, hk, hA2, finRaw, ascS, d2]
        · have d2' : ¬ ((ndist lw lw.length : Nat) : Int) = lw.length := by omega
          simp [← d1, hset, d2', finRaw, ascS, d2]
      · simp [d1, finRaw, ascS]
  | _ => first
    | (cases hd; done)
    | simp [finRaw, rowIn]
theorem kindin_ok : ∀ (n : Nat) {m j : Nat} {S : Sto} {d : D}, th m d = true → 2 * n + 4 ≤ j → run j .is_kind_in [d, .int n] S = .ok (.bl (kindIn n d)) S := by
  intro n
  induction n with
  | zero =>
    intro m j S d hd hj
    obtain ⟨j, rfl⟩ : ∃ i, j = i + 1 := ⟨j - 1, by omega⟩
    rw [run_succ]
    simp only [body, fin, slots, runB, b_is_kind_in]
    simp [finRaw, kindIn]
  | succ n ih =>
    intro m j S d hd hj
    obtain ⟨j, rfl⟩ : ∃ i, j = i + 6 := ⟨j - 6, by omega⟩
    have hn : ¬ ((n : Int) + 1 = 0) := by omega
    have ih' : ∀ {S : Sto} {x : D} {m : Nat}, th m x = true → run (j + 4) .is_kind_in [x, .int n] S = .ok (.bl (kindIn n x)) S := fun h => ih h (by omega)
    rw [run_succ]
    simp only [body, fin, slots, runB, b_is_kind_in]
    cases d with
    | tup ds =>
      cases m with
      | zero => cases hd
      | succ m =>
      have hds : ∀ x ∈ ds, th m x = true := by
        simp only [th, Bool.and_eq_true, List.all_eq_true] at hd
        exact hd.2
      cases ds with
      | nil => simp [hn, finRaw, kindIn]
      | cons x r =>
        have hx := hds x (by simp)
        have hlt : ¬ ((r.length : Int) + 1 < 1) := by omega
        cases x with
        | str s =>
          by_cases c1 : s = Str.ofString "number"
          · cases r with
            | nil => simp [hn, c1, finRaw, kindIn]
            | cons y r =>
              have : ¬ ((r.length : Int) + 1 + 1 = 1) := by omega
              have h2 : ¬ ((r.length : Int) + 1 + 1 < 1) := by omega
              simp [hn, c1, finRaw, kindIn, this, h2]
          by_cases c2 : s = Str.ofString "blank"
          · have hk0 : kindIn (n + 1) (.tup (.str s :: r)) = blankIn r := by rw [kindIn, if_neg c1, if_pos c2]
            rw [hk0]
            have c4 : ¬ Str.ofString "blank" = Str.ofString "number" := by rw [← c2]; exact c1
            match r, hds with
            | [], _ => simp [hn, c2, finRaw, blankIn]
            | [y], hds =>
              have hy := hds y (by simp)
              have hw := whole_ok (k := j + 4) (S := S) hy
              cases y <;> first
                | (cases m <;> cases hy; done)
                | simp [hn, c2, finRaw, blankIn, hw, isWholeD]
            | y :: z :: r, _ =>
              have h1 : ¬ ((r.length : Int) + 1 + 1 + 1 = 2) := by omega
              have h2 : ¬ ((r.length : Int) + 1 + 1 + 1 < 1) := by omega
              cases y <;> simp [hn, c2, finRaw, blankIn, h1, h2]
          have hk0 : kindIn (n + 1) (.tup (.str s :: r)) = (decide (s = Str.ofString "record") && recIn (kindIn n) r) := by rw [kindIn, if_neg c1, if_neg c2]
          rw [hk0]
          by_cases c3 : s = Str.ofString "record"
          · match r, hds with
            | [], _ => simp [hn, c3, finRaw, recIn]
            | [y], hds => simp [hn, c3, finRaw, recIn]
            | [y, z], hds =>
              have hy := hds y (by simp)
              have hz := hds z (by simp)
              have hr := rest_ok (k := j + 3) (S := S) hz
              have hw := row_ok (k := j + 2) (n := n) (S := S) (th_mono y (Nat.le_succ m) hy) (fun x hx => ih' hx)
              cases h5 : isRestD z with
              | true => rw [h5] at hr; simp [hn, c3, finRaw, recIn, hr, hw, h5]
              | false => rw [h5] at hr; simp [hn, c3, finRaw, recIn, hr, h5]
            | y :: z :: w :: r, _ =>
              have h1 : ¬ ((r.length : Int) + 1 + 1 + 1 + 1 = 3) := by omega
              have h2 : ¬ ((r.length : Int) + 1 + 1 + 1 + 1 < 1) := by omega
              simp [hn, c3, finRaw, recIn, h1, h2]
          · simp [hn, hlt, c1, c2, c3, finRaw]
        | _ => first
          | (cases m <;> cases hx; done)
          | simp [hn, hlt, finRaw, kindIn]
    | _ => first
      | (cases m <;> cases hd; done)
      | simp [hn, finRaw, kindIn]

end K_k03
end
section
namespace K_k03
open PySem L2 PM
theorem knots_ok : ∀ (n : Nat) {j : Nat} {S : Sto} {k : K}, VK n k → n ≤ j → run j .knots [kd k] S = .ok (.int (kn k : Nat)) S := by
  intro n
  induction n with
  | zero => intro j S k h; cases h
  | succ n ih =>
    intro j S k h hj
    obtain ⟨j, rfl⟩ : ∃ i, j = i + 1 := ⟨j - 1, by omega⟩
    rw [run_succ]
    simp only [body, fin, slots, runB, b_knots]
    cases h with
    | num => simp [kd, finRaw, kn]
    | blk h => simp [kd, finRaw, kn]
    | rc h1 h2 h3 h4 h5 =>
      rename_i ls ks r
      simp [kd, wipeD]
      rw [fld_zipK h1, comp_map (i := fun p : Str × K => .tup [.str p.1, kd p.2]) (f := fun p => .int (kn p.2 : Nat)) (hg := trivial) (h := fun p hp => ⟨_, rfl, rfl, by simp [ih (h4 p.2 (zip_mem hp).2) (show n ≤ j by omega)]⟩)]
      have hs : cSum [.lst ((ls.zip ks).map fun p => D.int ((kn p.2 : Nat) : Int))] S = .ok (.int (kns ks : Nat)) S := by rw [cSum_map, sum_zip h1]
      simp [hs, finRaw, kn]

end K_k03
end
section
namespace K_k03
open PySem L2 PM
theorem put_ok {k q : Nat} {S : Sto} {m : Mp} {n : Int} {l : OL} (h : S[q]? = some (mpO m)) (hm : MpOk m) (hl : ∀ w, l = some w → WOk w) (hz : m.length < 100000) :
    run (k + 1) .put_blank [.ref q, .int n, olD l] S = .ok (.bl (putB m (n, l)).2) (S.set q (mpO (putB m (n, l)).1)) := by
  rw [run_succ]
  simp only [body, fin, slots, runB, b_put_blank]
  have h1 := opNotIn_mp (n := n) h
  cases hk : look m n with
  | none =>
    rw [hk] at h1
    have h2 := opSet_mp (l := l) h hk (Nat.lt_of_lt_of_le (by omega) szl)
    have h3 : (S.set q (mpO (m ++ [(n, l)])))[q]? = some (mpO (m ++ [(n, l)])) := sto_set h
    have h4 : look (m ++ [(n, l)]) n = some l := by
      clear h h1 h2 h3 hm hz
      induction m with
      | nil => simp [look]
      | cons p m ih =>
        simp only [look] at hk
        split at hk
        · cases hk
        · rename_i e
          simp only [List.cons_append, look, if_neg e]
          exact ih hk
    have h5 := opIx_mp h3 h4
    have hp : putB m (n, l) = (m ++ [(n, l)], true) := by simp only [putB, hk]
    have h6 := opEq_of (eqD_ol (S := S.set q (mpO (m ++ [(n, l)]))) hl hl)
    rw [hp]
    simp [h1, h2, h5, h6, finRaw]
  | some l' =>
    rw [hk] at h1
    have h5 := opIx_mp h hk
    have hp : putB m (n, l) = (m, decide (l' = l)) := by simp only [putB, hk]
    have h6 := opEq_of (eqD_ol (S := S) (fun w e => hm _ (look_mem hk) w e) hl)
    rw [hp, set_get h]
    simp [h1, h5, h6, finRaw]

end K_k03
end
section
namespace K_k03
open PySem L2 PM
theorem bl_loop {C : Cs} {q : Nat} {k0 : Option D} : ∀ {ls : List Str} {ks : List K} {S : Sto} {m : Mp} {g : Bool} {x3 : Option D}, ls.length = ks.length → S[q]? = some (mpO m) → MpOk m → MpOk (occs ks) → m.length + (occs ks).length ≤ 1000 →
    (∀ k ∈ ks, ∀ {S : Sto} {m : Mp}, S[q]? = some (mpO m) → MpOk m → MpOk (occ k) → m.length + (occ k).length ≤ 1000 → C .blanks_in [kd k, .ref q] S = .ok (.bl (pa m (occ k)).2) (S.set q (mpO (pa m (occ k)).1))) →
    ∃ x3', loopM (fun _ => True) (loopB (gmName 3) (sAsg (mAndV (mApp (C .blanks_in) (mCons (mB opIx (mV 3) (mC (.int 1))) (mCons (mV 1) mNil))) (mV 2)) (gmName 2))) (fldD ls (kds ks)) [k0, some (.ref q), some (.bl g), x3] S =
      .nx [k0, some (.ref q), some (.bl ((pa m (occs ks)).2 && g)), x3'] (S.set q (mpO (pa m (occs ks)).1))
  | [], [], S, m, g, x3, _, hS, _, _, _, _ => ⟨x3, by rw [show fldD [] (kds []) = [] from rfl, loopT_nil, occs, pa, set_get hS]; simp⟩
  | l :: ls, k :: ks, S, m, g, x3, h, hS, hm, ho, hz, hC => by
    rw [occs] at ho hz
    rw [List.length_append] at hz
    have ho1 : MpOk (occ k) := fun p hp => ho p (by simp [hp])
    have ho2 : MpOk (occs ks) := fun p hp => ho p (by simp [hp])
    have e1 := hC k (by simp) hS hm ho1 (by omega)
    have hS2 : (S.set q (mpO (pa m (occ k)).1))[q]? = some (mpO (pa m (occ k)).1) := sto_set hS
    have hl := pa_len (occ k) m
    obtain ⟨x3', e2⟩ := bl_loop (g := (pa m (occ k)).2 && g) (x3 := some (.tup [.str l, kd k])) (show ls.length = ks.length by simpa using h) hS2 (pa_ok hm ho1) ho2 (by omega) fun k hk => hC k (by simp [hk])
    refine ⟨x3', ?_⟩
    rw [kds, fldD_cons, loopT_cons]
    rw [List.set_set] at e2
    have e3 : (pa m (occs (k :: ks))) = ((pa (pa m (occ k)).1 (occs ks)).1, (pa m (occ k)).2 && (pa (pa m (occ k)).1 (occs ks)).2) := by rw [occs, pa_app]
    rw [e3]
    have e4 : ((pa m (occ k)).2 && (pa (pa m (occ k)).1 (occs ks)).2 && g) = ((pa (pa m (occ k)).1 (occs ks)).2 && ((pa m (occ k)).2 && g)) := by
      cases (pa m (occ k)).2 <;> cases (pa (pa m (occ k)).1 (occs ks)).2 <;> rfl
    rw [e4, ← e2]
    cases h5 : (pa m (occ k)).2 with
    | true => rw [h5] at e1; simp [loopB_eq, e1]
    | false => rw [h5] at e1; simp [loopB_eq, e1]
theorem blanks_ok {q : Nat} : ∀ (n : Nat) {j : Nat} {S : Sto} {k : K} {m : Mp}, VK n k → n + 1 ≤ j → S[q]? = some (mpO m) → MpOk m → MpOk (occ k) → m.length + (occ k).length ≤ 1000 →
    run j .blanks_in [kd k, .ref q] S = .ok (.bl (pa m (occ k)).2) (S.set q (mpO (pa m (occ k)).1)) := by
  intro n
  induction n with
  | zero => intro j S k m h; cases h
  | succ n ih =>
    intro j S k m h hj hS hm ho hz
    obtain ⟨j, rfl⟩ : ∃ i, j = i + 2 := ⟨j - 2, by omega⟩
    rw [run_succ]
    simp only [body, fin, slots, runB, b_blanks_in]
    cases h with
    | num => simp [kd, finRaw, occ, pa, set_get hS]
    | blk h =>
      rename_i i
      have hp := put_ok (k := j) (l := none) (n := i) hS hm (by simp) (by omega)
      simp only [olD] at hp
      simp [kd, hp, finRaw, occ, pa]
    | rc h1 h2 h3 h4 h5 =>
      rename_i ls ks r
      rw [occ, List.length_append] at hz
      rw [occ] at ho
      have ho1 : MpOk (occs ks) := fun p hp => ho p (by simp [hp])
      simp [kd, wipeD]
      generalize hL : loopM _ _ _ _ _ = z
      obtain ⟨x3', e⟩ := bl_loop (C := run (j + 1)) (k0 := some (.tup [.str "record", .tup (fldD ls (kds ks)), rD0 r])) (g := true) (x3 := none) h1 hS hm ho1 (by omega) fun k hk {S m} a b c d => ih (h4 k hk) (by omega) a b c d
      rw [e] at hL
      subst hL
      have hS2 : (S.set q (mpO (pa m (occs ks)).1))[q]? = some (mpO (pa m (occs ks)).1) := sto_set hS
      have hl := pa_len (occs ks) m
      cases r with
      | none =>
        simp [rD0, isNon, finRaw, occ, restO]
      | some i =>
        have hp := put_ok (k := j) (l := some ls) (n := i) hS2 (pa_ok hm ho1) (fun w hw => by cases hw; exact h3) (by omega)
        have ha : (mApp (run (j + 1) .put_blank) (mCons (mV 1) (mCons (mB opIx (mV 0) (mC (.int 2))) (mCons (mComp (sItems (mB opIx (mV 0) (mC (.int 1)))) (gmName 3) mYes (mB opIx (mV 3) (mC (.int 0))) [3]) mNil)))) [some (.tup [.str "record", .tup (fldD ls (kds ks)), rD0 (some i)]), some (.ref q), some (.bl ((pa m (occs ks)).2 && true)), x3'] (S.set q (mpO (pa m (occs ks)).1)) = .ok (.bl (putB (pa m (occs ks)).1 (i, some ls)).2) (S.set q (mpO (putB (pa m (occs ks)).1 (i, some ls)).1)) := by
          have e5 : ls.map D.str = (ls.zip ks).map fun p => D.str p.1 := by
            rw [show (fun p : Str × K => D.str p.1) = D.str ∘ Prod.fst from rfl, ← List.map_map, List.map_fst_zip (by omega)]
          simp [wipeD, rD0]
          rw [fld_zipK h1, comp_map (i := fun p : Str × K => .tup [.str p.1, kd p.2]) (f := fun p => .str p.1) (hg := trivial) (h := fun p _ => ⟨_, rfl, rfl, by simp⟩), List.nil_append, ← e5]
          simp only [olD, wD] at hp
          simp [hp]
        have e6 : (pa m (occs ks ++ [(i, some ls)])) = ((putB (pa m (occs ks)).1 (i, some ls)).1, (pa m (occs ks)).2 && (putB (pa m (occs ks)).1 (i, some ls)).2) := by rw [pa_app]; simp [pa]
        have hc : ∀ U, (mT (mB opNotN (mB opIx (mV 0) (mC (.int 2))) (mC .non))) [some (.tup [.str "record", .tup (fldD ls (kds ks)), rD0 (some i)]), some (.ref q), some (.bl ((pa m (occs ks)).2 && true)), x3'] U = .ok true U := fun U => by simp [rD0, isNon]
        rw [occ, restO, e6]
        simp only [RS.seq_nx, sSeq_eq, sIf_eq, hc, R.into_ok, if_true, sAsg_eq, mAndV_eq, ha, R.bind_ok]
        cases (putB (pa m (occs ks)).1 (i, some ls)).2 with
        | true => simp [finRaw]
        | false => simp [finRaw]

end K_k03
end
section
namespace K_k03
open PySem L2 PM
theorem is_kind_no {m j : Nat} {S : Sto} {d : D} (hd : th m d = true) (h : kindIn 12 d = false) : run (j + 30) .is_kind [d] S = .ok (.bl false) S := by
  have h1 : run (j + 29) .is_kind_in [d, .int 12] S = .ok (.bl false) S := by
    have := kindin_ok 12 (j := j + 29) (S := S) hd (by omega)
    rw [h] at this; exact this
  rw [run_succ]
  simp only [body, fin, slots, runB, b_is_kind]
  have hf : finFrz 0 S (.ok (.bl false) S) = .ok (.bl false) S := by
    have := finFrz_app (k := 0) (S := S) (T := []) (d := .bl false) rfl
    simpa only [List.append_nil] using this
  simp [h1, hf]
theorem is_kind_yes {j : Nat} {S : Sto} {k : K} (hd : kindIn 12 (kd k) = true) {m : Nat} (ht : th m (kd k) = true) (h : VK 12 k) : run (j + 30) .is_kind [kd k] S = .ok (.bl (decide (kn k ≤ 200) && (pa [] (occ k)).2)) S := by
  have h1 : run (j + 29) .is_kind_in [kd k, .int 12] S = .ok (.bl true) S := by
    have := kindin_ok 12 (j := j + 29) (S := S) ht (by omega)
    rw [hd] at this; exact this
  have h2 := knots_ok 12 (j := j + 29) (S := S) h (by omega)
  rw [run_succ]
  simp only [body, fin, slots, runB, b_is_kind]
  have hf : ∀ b T, finFrz 0 S (.ok (.bl b) (S ++ T)) = .ok (.bl b) S := fun b T => finFrz_app rfl
  by_cases c : kn k ≤ 200
  · have c' : ((kn k : Nat) : Int) ≤ 200 := by omega
    have hlen := occ_len k
    have hS : (S ++ [mpO []])[S.length]? = some (mpO []) := sto_snoc
    have h3 := blanks_ok (q := S.length) 12 (j := j + 29) (S := S ++ [mpO []]) (m := []) h (by omega) hS (fun p hp => by cases hp) (occ_ok 12 h) (by simp; omega)
    rw [sto_snoc_set] at h3
    have e : (S ++ [MO.dK [] []]) = S ++ [mpO []] := rfl
    simp [h1, h2, c', c, e, h3, hf]
  · have c' : ¬ ((kn k : Nat) : Int) ≤ 200 := by omega
    have hf0 : finFrz 0 S (.ok (.bl false) S) = .ok (.bl false) S := by simpa using hf false []
    simp [h1, h2, c', c, hf0]

end K_k03
end
section
namespace K_k03
open PySem L2 PM
theorem depth_ok : ∀ (n : Nat) {j : Nat} {S : Sto} {k : K}, VK n k → n ≤ j → run j .depth [kd k] S = .ok (.int (dp k : Nat)) S := by
  intro n
  induction n with
  | zero => intro j S k h; cases h
  | succ n ih =>
    intro j S k h hj
    obtain ⟨j, rfl⟩ : ∃ i, j = i + 1 := ⟨j - 1, by omega⟩
    rw [run_succ]
    simp only [body, fin, slots, runB, b_depth]
    cases h with
    | num => simp [kd, finRaw, dp]
    | blk h => simp [kd, finRaw, dp]
    | rc h1 h2 h3 h4 h5 =>
      rename_i ls ks r
      simp [kd, wipeD, mMaxD]
      rw [fld_zipK h1, comp_map (i := fun p : Str × K => .tup [.str p.1, kd p.2]) (f := fun p => .int (dp p.2 : Nat)) (hg := trivial) (h := fun p hp => ⟨_, rfl, rfl, by simp [ih (h4 p.2 (zip_mem hp).2) (show n ≤ j by omega)]⟩)]
      simp [rdL, asL, intsOf_map, zip_sndK (fun k => ((dp k : Nat) : Int)) h1, maxDef_dp, finRaw, dp]
theorem lknots_ok : ∀ (n : Nat) {j : Nat} {S : Sto} {k : K}, VK n k → n ≤ j → run j ._law_knots [kd k] S = .ok (.int (kn k : Nat)) S := by
  intro n
  induction n with
  | zero => intro j S k h; cases h
  | succ n ih =>
    intro j S k h hj
    obtain ⟨j, rfl⟩ : ∃ i, j = i + 1 := ⟨j - 1, by omega⟩
    rw [run_succ]
    simp only [body, fin, slots, runB, b__law_knots]
    cases h with
    | num => simp [kd, finRaw, kn]
    | blk h => simp [kd, finRaw, kn]
    | rc h1 h2 h3 h4 h5 =>
      rename_i ls ks r
      simp [kd, wipeD]
      rw [fld_zipK h1, comp_map (i := fun p : Str × K => .tup [.str p.1, kd p.2]) (f := fun p => .int (kn p.2 : Nat)) (hg := trivial) (h := fun p hp => ⟨_, rfl, rfl, by simp [ih (h4 p.2 (zip_mem hp).2) (show n ≤ j by omega)]⟩)]
      have hs : cSum [.lst ((ls.zip ks).map fun p => D.int ((kn p.2 : Nat) : Int))] S = .ok (.int (kns ks : Nat)) S := by rw [cSum_map, sum_zip h1]
      simp [hs, finRaw, kn]
theorem ldeep_ok : ∀ (n : Nat) {j : Nat} {S : Sto} {k : K}, VK n k → n ≤ j → run j ._law_deep [kd k] S = .ok (.int (dp k : Nat)) S := by
  intro n
  induction n with
  | zero => intro j S k h; cases h
  | succ n ih =>
    intro j S k h hj
    obtain ⟨j, rfl⟩ : ∃ i, j = i + 1 := ⟨j - 1, by omega⟩
    rw [run_succ]
    simp only [body, fin, slots, runB, b__law_deep]
    cases h with
    | num => simp [kd, finRaw, dp]
    | blk h => simp [kd, finRaw, dp]
    | rc h1 h2 h3 h4 h5 =>
      rename_i ls ks r
      simp [kd, wipeD, mMaxD]
      rw [fld_zipK h1, comp_map (i := fun p : Str × K => .tup [.str p.1, kd p.2]) (f := fun p => .int (dp p.2 : Nat)) (hg := trivial) (h := fun p hp => ⟨_, rfl, rfl, by simp [ih (h4 p.2 (zip_mem hp).2) (show n ≤ j by omega)]⟩)]
      simp [rdL, asL, intsOf_map, zip_sndK (fun k => ((dp k : Nat) : Int)) h1, maxDef_dp, finRaw, dp]
theorem labs_comp {grd : Sto → Prop} {S : Sto} {g : Gm} {t : Tm} {e : Em} {δ : PM.Loc} {ls : List Str} {ks : List K} (h : ls.length = ks.length) (hg : grd S)
    (hh : ∀ p ∈ ls.zip ks, ∃ δ', g (.tup [.str p.1, kd p.2]) δ S = .ok δ' S ∧ t δ' S = .ok true S ∧ e δ' S = .ok (.str p.1) S) : compM grd g t e δ [] (fldD ls (kds ks)) S = .ok (wD ls) S := by
  have e5 : ls.map D.str = (ls.zip ks).map fun p => D.str p.1 := by
    rw [show (fun p : Str × K => D.str p.1) = D.str ∘ Prod.fst from rfl, ← List.map_map, List.map_fst_zip (by omega)]
  rw [fld_zipK h, comp_map (i := fun p : Str × K => .tup [.str p.1, kd p.2]) (f := fun p => .str p.1) (hg := hg) (h := hh), List.nil_append, ← e5]; rfl
theorem setd_mp {q : Nat} {S : Sto} {m : Mp} {n : Int} {l : OL} (h : S[q]? = some (mpO m)) (hm : m.length < 100000) :
    kSetd (.ref q) (.int n) (olD l) S = .ok (olD ((look m n).getD l)) (S.set q (mpO (putB m (n, l)).1)) ∧ (putB m (n, l)).2 = decide ((look m n).getD l = l) := by
  have h' : S[q]? = some (.dK (m.map fun p => .inl p.1) (m.map fun p => olD p.2)) := h
  cases hk : look m n with
  | none =>
    have hp : putB m (n, l) = (m ++ [(n, l)], true) := by simp only [putB, hk]
    have hn := look_none hk
    rw [hp]
    simp only [kSetd, h', PM.keyOf, List.length_map, if_pos (show m.length < sizeLine from Nat.lt_of_lt_of_le (by omega) szl), getK_look, hk, Option.map_none, insK_new hn, insD_new hn, Option.getD_none, decide_true, and_true]
    simp only [mpO, List.map_append, List.map_cons, List.map_nil]
  | some l' =>
    have hp : putB m (n, l) = (m, decide (l' = l)) := by simp only [putB, hk]
    rw [hp]
    simp only [kSetd, h', PM.keyOf, List.length_map, if_pos (show m.length < sizeLine from Nat.lt_of_lt_of_le (by omega) szl), getK_look, hk, Option.map_some, Option.getD_some, set_get h, and_true]
theorem met_loop {C : Cs} {q : Nat} {k0 x4 : Option D} : ∀ {ls : List Str} {ks : List K} {S : Sto} {m : Mp} {g : Bool} {x3 : Option D}, ls.length = ks.length → S[q]? = some (mpO m) → MpOk m → MpOk (occs ks) → m.length + (occs ks).length ≤ 1000 →
    (∀ k ∈ ks, ∀ {S : Sto} {m : Mp}, S[q]? = some (mpO m) → MpOk m → MpOk (occ k) → m.length + (occ k).length ≤ 1000 → C ._law_met [kd k, .ref q] S = .ok (.bl (pa m (occ k)).2) (S.set q (mpO (pa m (occ k)).1))) →
    ∃ x3', loopM (fun _ => True) (loopB (gmName 3) (sAsg (mAndV (mApp (C ._law_met) (mCons (mB opIx (mV 3) (mC (.int 1))) (mCons (mV 1) mNil))) (mV 2)) (gmName 2))) (fldD ls (kds ks)) [k0, some (.ref q), some (.bl g), x3, x4] S =
      .nx [k0, some (.ref q), some (.bl ((pa m (occs ks)).2 && g)), x3', x4] (S.set q (mpO (pa m (occs ks)).1))
  | [], [], S, m, g, x3, _, hS, _, _, _, _ => ⟨x3, by rw [show fldD [] (kds []) = [] from rfl, loopT_nil, occs, pa, set_get hS]; simp⟩
  | l :: ls, k :: ks, S, m, g, x3, h, hS, hm, ho, hz, hC => by
    rw [occs] at ho hz
    rw [List.length_append] at hz
    have ho1 : MpOk (occ k) := fun p hp => ho p (by simp [hp])
    have ho2 : MpOk (occs ks) := fun p hp => ho p (by simp [hp])
    have e1 := hC k (by simp) hS hm ho1 (by omega)
    have hS2 : (S.set q (mpO (pa m (occ k)).1))[q]? = some (mpO (pa m (occ k)).1) := sto_set hS
    have hl := pa_len (occ k) m
    obtain ⟨x3', e2⟩ := met_loop (g := (pa m (occ k)).2 && g) (x3 := some (.tup [.str l, kd k])) (show ls.length = ks.length by simpa using h) hS2 (pa_ok hm ho1) ho2 (by omega) fun k hk => hC k (by simp [hk])
    refine ⟨x3', ?_⟩
    rw [kds, fldD_cons, loopT_cons]
    rw [List.set_set] at e2
    have e3 : (pa m (occs (k :: ks))) = ((pa (pa m (occ k)).1 (occs ks)).1, (pa m (occ k)).2 && (pa (pa m (occ k)).1 (occs ks)).2) := by rw [occs, pa_app]
    rw [e3]
    have e4 : ((pa m (occ k)).2 && (pa (pa m (occ k)).1 (occs ks)).2 && g) = ((pa (pa m (occ k)).1 (occs ks)).2 && ((pa m (occ k)).2 && g)) := by
      cases (pa m (occ k)).2 <;> cases (pa (pa m (occ k)).1 (occs ks)).2 <;> rfl
    rw [e4, ← e2]
    cases h5 : (pa m (occ k)).2 with
    | true => rw [h5] at e1; simp [loopB_eq, e1]
    | false => rw [h5] at e1; simp [loopB_eq, e1]
theorem isDct_mp {q : Nat} {S : Sto} {m : Mp} (h : S[q]? = some (mpO m)) : isDct S (.ref q) = true := by
  simp only [isDct, dkOf, h, mpO]; rfl
theorem met_ok {q : Nat} : ∀ (n : Nat) {j : Nat} {S : Sto} {k : K} {m : Mp}, VK n k → n + 1 ≤ j → S[q]? = some (mpO m) → MpOk m → MpOk (occ k) → m.length + (occ k).length ≤ 1000 →
    run j ._law_met [kd k, .ref q] S = .ok (.bl (pa m (occ k)).2) (S.set q (mpO (pa m (occ k)).1)) := by
  intro n
  induction n with
  | zero => intro j S k m h; cases h
  | succ n ih =>
    intro j S k m h hj hS hm ho hz
    obtain ⟨j, rfl⟩ : ∃ i, j = i + 2 := ⟨j - 2, by omega⟩
    rw [run_succ]
    simp only [body, fin, slots, runB, b__law_met]
    cases h with
    | num => simp [kd, finRaw, occ, pa, set_get hS]
    | blk h =>
      rename_i i
      obtain ⟨hp, hp2⟩ := setd_mp (q := q) (S := S) (m := m) (n := i) (l := none) hS (by omega)
      have hp : kSetd (.ref q) (.int i) .non S = .ok (olD ((look m i).getD none)) (S.set q (mpO (putB m (i, none)).1)) := hp
      have e : isNon (olD ((look m i).getD none)) = (putB m (i, none)).2 := by
        rw [hp2]
        cases (look m i).getD none <;> simp [olD, wD, isNon]
      simp [kd, mD3, isDct_mp hS, hp, e, finRaw, occ, pa]
    | rc h1 h2 h3 h4 h5 =>
      rename_i ls ks r
      rw [occ, List.length_append] at hz
      rw [occ] at ho
      have ho1 : MpOk (occs ks) := fun p hp => ho p (by simp [hp])
      simp [kd, wipeD]
      generalize hL : loopM _ _ _ _ _ = z
      obtain ⟨x3', e⟩ := met_loop (C := run (j + 1)) (k0 := some (.tup [.str "record", .tup (fldD ls (kds ks)), rD0 r])) (x4 := none) (g := true) (x3 := none) h1 hS hm ho1 (by omega) fun k hk {S m} a b c d => ih (h4 k hk) (by omega) a b c d
      rw [e] at hL
      subst hL
      have hS2 : (S.set q (mpO (pa m (occs ks)).1))[q]? = some (mpO (pa m (occs ks)).1) := sto_set hS
      have hl := pa_len (occs ks) m
      simp [wipeD]
      rw [labs_comp h1 trivial (fun p _ => ⟨_, rfl, rfl, by simp⟩)]
      cases r with
      | none =>
        simp [rD0, isNon, finRaw, occ, restO]
      | some i =>
        obtain ⟨hp, hp2⟩ := setd_mp (q := q) (n := i) (l := some ls) hS2 (by omega)
        have hok : ∀ w, (look (pa m (occs ks)).1 i).getD (some ls) = some w → WOk w := fun w e => by
          cases hk : look (pa m (occs ks)).1 i with
          | none => rw [hk] at e; cases e; exact h3
          | some l => rw [hk] at e; exact pa_ok hm ho1 _ (look_mem hk) w e
        have hne := opNe_of (eqD_ol (S := (S.set q (mpO (pa m (occs ks)).1)).set q (mpO (putB (pa m (occs ks)).1 (i, some ls)).1)) hok (b := some ls) (fun w hw => by cases hw; exact h3))
        have e6 : (pa m (occs ks ++ [(i, some ls)])) = ((putB (pa m (occs ks)).1 (i, some ls)).1, (pa m (occs ks)).2 && (putB (pa m (occs ks)).1 (i, some ls)).2) := by rw [pa_app]; simp [pa]
        rw [occ, restO, e6, hp2]
        simp only [olD, List.set_set] at hp hne
        simp [rD0, isNon, mD3, isDct_mp hS2, hp, hne]
        by_cases c : (look (pa m (occs ks)).1 i).getD (some ls) = some ls
        · simp [c, finRaw]
        · simp [c, finRaw]
theorem opSet_same {q : Nat} {S : Sto} {m : Mp} {n : Int} {l : OL} (h : S[q]? = some (mpO m)) (hm : m.length < 100000) (hc : Con (m ++ [(n, l)])) :
    opSet (.ref q) (.int n) (olD l) S = .ok () (S.set q (mpO (putB m (n, l)).1)) := by
  cases hk : look m n with
  | none =>
    have hp : putB m (n, l) = (m ++ [(n, l)], true) := by simp only [putB, hk]
    rw [hp]
    exact opSet_mp h hk (Nat.lt_of_lt_of_le (by omega) szl)
  | some l' =>
    have hp : (putB m (n, l)).1 = m := by simp only [putB, hk]
    rw [hp]
    have h' : S[q]? = some (.dK (m.map fun p => .inl p.1) (m.map fun p => olD p.2)) := h
    have hin : (Sum.inl n : Key) ∈ m.map fun p => (Sum.inl p.1 : Key) := List.mem_map.mpr ⟨_, look_mem hk, rfl⟩
    have hd : insD (m.map fun p => (Sum.inl p.1 : Key)) (m.map fun p => olD p.2) (.inl n) (olD l) = m.map fun p => olD p.2 := by
      unfold insD
      rw [if_pos hin]
      clear h h' hin hk hp hm
      induction m with
      | nil => rfl
      | cons p m ih =>
        simp only [List.map_cons, List.zipWith_cons_cons]
        rw [ih fun a ha b hb => hc a (by simp at ha ⊢; rcases ha with q | q <;> simp [q]) b (by simp at hb ⊢; rcases hb with q | q <;> simp [q])]
        congr 1
        by_cases e : p.1 = n
        · rw [if_pos (by rw [e]), hc p (by simp) (n, l) (by simp) e]
        · rw [if_neg (fun q => e (Sum.inl.inj q))]
    simp only [opSet, h', PM.keyOf, List.length_map, if_pos (show m.length < sizeLine from Nat.lt_of_lt_of_le (by omega) szl), hd]
    unfold insK
    rw [if_pos hin]; rfl
theorem con_sub {a b : Mp} (h : Con b) (g : ∀ x ∈ a, x ∈ b) : Con a := fun x hx y hy => h x (g x hx) y (g y hy)
theorem lbl_loop {C : Cs} {q : Nat} {k0 : Option D} : ∀ {ls : List Str} {ks : List K} {S : Sto} {m : Mp} {x2 : Option D}, ls.length = ks.length → S[q]? = some (mpO m) → Con (m ++ occs ks) → m.length + (occs ks).length ≤ 1000 →
    (∀ k ∈ ks, ∀ {S : Sto} {m : Mp}, S[q]? = some (mpO m) → Con (m ++ occ k) → m.length + (occ k).length ≤ 1000 → C ._law_blanks [kd k, .ref q] S = .ok (.ref q) (S.set q (mpO (pa m (occ k)).1))) →
    ∃ x2', loopM (fun _ => True) (loopB (gmName 2) (sExpr (mApp (C ._law_blanks) (mCons (mB opIx (mV 2) (mC (.int 1))) (mCons (mV 1) mNil))))) (fldD ls (kds ks)) [k0, some (.ref q), x2] S =
      .nx [k0, some (.ref q), x2'] (S.set q (mpO (pa m (occs ks)).1))
  | [], [], S, m, x2, _, hS, _, _, _ => ⟨x2, by rw [show fldD [] (kds []) = [] from rfl, loopT_nil, occs, pa, set_get hS]⟩
  | l :: ls, k :: ks, S, m, x2, h, hS, hc, hz, hC => by
    rw [occs] at hc hz
    rw [List.length_append] at hz
    have hc1 : Con (m ++ occ k) := con_sub hc fun x hx => by simp at hx ⊢; rcases hx with q | q <;> simp [q]
    have e1 := hC k (by simp) hS hc1 (by omega)
    have hS2 : (S.set q (mpO (pa m (occ k)).1))[q]? = some (mpO (pa m (occ k)).1) := sto_set hS
    have hl := pa_len (occ k) m
    have hp := pa_con _ _ hc1
    have hc2 : Con ((pa m (occ k)).1 ++ occs ks) := con_sub hc fun x hx => by
      rcases List.mem_append.mp hx with h | h
      · have := hp.2.1 x h
        simp at this ⊢; rcases this with q | q <;> simp [q]
      · simp [h]
    obtain ⟨x2', e2⟩ := lbl_loop (x2 := some (.tup [.str l, kd k])) (show ls.length = ks.length by simpa using h) hS2 hc2 (by omega) fun k hk => hC k (by simp [hk])
    refine ⟨x2', ?_⟩
    rw [kds, fldD_cons, loopT_cons]
    rw [List.set_set] at e2
    rw [occs, pa_app]
    rw [← e2]
    simp [loopB_eq, e1]
theorem lblanks_ok {q : Nat} : ∀ (n : Nat) {j : Nat} {S : Sto} {k : K} {m : Mp}, VK n k → n + 1 ≤ j → S[q]? = some (mpO m) → Con (m ++ occ k) → m.length + (occ k).length ≤ 1000 →
    run j ._law_blanks [kd k, .ref q] S = .ok (.ref q) (S.set q (mpO (pa m (occ k)).1)) := by
  intro n
  induction n with
  | zero => intro j S k m h; cases h
  | succ n ih =>
    intro j S k m h hj hS hc hz
    obtain ⟨j, rfl⟩ : ∃ i, j = i + 2 := ⟨j - 2, by omega⟩
    rw [run_succ]
    simp only [body, fin, slots, runB, b__law_blanks]
    cases h with
    | num => simp [kd, finRaw, occ, pa, set_get hS]
    | blk h =>
      rename_i i
      have hp : opSet (.ref q) (.int i) .non S = .ok () (S.set q (mpO (putB m (i, none)).1)) := opSet_same hS (by omega) hc
      simp [kd, hp, finRaw, occ, pa]
    | rc h1 h2 h3 h4 h5 =>
      rename_i ls ks r
      rw [occ, List.length_append] at hz
      rw [occ] at hc
      have hc1 : Con (m ++ occs ks) := con_sub hc fun x hx => by simp at hx ⊢; rcases hx with q | q <;> simp [q]
      simp [kd, wipeD]
      generalize hL : loopM _ _ _ _ _ = z
      obtain ⟨x2', e⟩ := lbl_loop (C := run (j + 1)) (k0 := some (.tup [.str "record", .tup (fldD ls (kds ks)), rD0 r])) (x2 := none) h1 hS hc1 (by omega) fun k hk {S m} a b c => ih (h4 k hk) (by omega) a b c
      rw [e] at hL
      subst hL
      have hS2 : (S.set q (mpO (pa m (occs ks)).1))[q]? = some (mpO (pa m (occs ks)).1) := sto_set hS
      have hl := pa_len (occs ks) m
      have hp := pa_con _ _ hc1
      cases r with
      | none =>
        simp [rD0, isNon, finRaw, occ, restO]
      | some i =>
        have hc2 : Con ((pa m (occs ks)).1 ++ [(i, some ls)]) := con_sub hc fun x hx => by
          rcases List.mem_append.mp hx with h | h
          · have := hp.2.1 x h
            simp at this ⊢; rcases this with q | q <;> simp [q]
          · rw [List.mem_singleton.mp h]; simp [restO]
        have hset : opSet (.ref q) (.int i) (wD ls) (S.set q (mpO (pa m (occs ks)).1)) = .ok () ((S.set q (mpO (pa m (occs ks)).1)).set q (mpO (putB (pa m (occs ks)).1 (i, some ls)).1)) := opSet_same (l := some ls) hS2 (by omega) hc2
        have e6 : (pa m (occs ks ++ [(i, some ls)])).1 = (putB (pa m (occs ks)).1 (i, some ls)).1 := by rw [pa_app]; simp [pa]
        rw [occ, restO, e6]
        simp [rD0, isNon, wipeD]
        rw [labs_comp h1 trivial (fun p _ => ⟨_, rfl, rfl, by simp⟩)]
        simp [hset, finRaw]

end K_k03
end
section
namespace K_k03
open PySem L2 PM
theorem fill_both {fks : List Key} {fds : List D} : ∀ (n : Nat) {k : K}, VK n k → kn k ≤ 1000 → (∀ o ∈ occ k, ∀ d, getK fks fds (.inl o.1) = some d → GF o.2 d) →
    ∃ k', VK (n + 20) k' ∧ (∀ f j S, n + 1 ≤ j → S[f]? = some (.dK fks fds) → run j .fill [kd k, .ref f] S = .ok (kd k') S) ∧ (∀ f j S, n + 1 ≤ j → S[f]? = some (.dK fks fds) → run j ._law_filled [kd k, .ref f] S = .ok (kd k') S) := by
  have hfin : ∀ {d : Nat} {k : K} (S T : Sto), VK d k → finFrz 0 S (.ok (kd k) (S ++ T)) = .ok (kd k) S := fun S T h => finFrz_app (vk_cl h)
  have hfin0 : ∀ {d : Nat} {k : K} (S : Sto), VK d k → finFrz 0 S (.ok (kd k) S) = .ok (kd k) S := fun S h => by have := hfin S [] h; rwa [List.append_nil] at this
  intro n
  induction n with
  | zero => intro k h; cases h
  | succ n ih =>
    intro k h hkn hg
    cases h with
    | num =>
      refine ⟨.num, .num, fun f j S hj hS => ?_, fun f j S hj hS => ?_⟩
      · obtain ⟨j, rfl⟩ : ∃ i, j = i + 1 := ⟨j - 1, by omega⟩
        rw [run_succ]
        simp only [body, fin, slots, runB, b_fill]
        simp [kd, finRaw]
      · obtain ⟨j, rfl⟩ : ∃ i, j = i + 1 := ⟨j - 1, by omega⟩
        rw [run_succ]
        simp only [body, fin, slots, runB, b__law_filled]
        have := hfin0 (k := .num) (d := 1) S .num
        simp [kd] at this ⊢
        exact this
    | blk hi =>
      rename_i i
      cases hk : getK fks fds (.inl i : Key) with
      | none =>
        have hv : VK (n + 1 + 20) (.blk i) := .blk hi
        refine ⟨.blk i, hv, fun f j S hj hS => ?_, fun f j S hj hS => ?_⟩
        · obtain ⟨j, rfl⟩ : ∃ i, j = i + 1 := ⟨j - 1, by omega⟩
          rw [run_succ]
          simp only [body, fin, slots, runB, b_fill]
          simp [kd, opIn_dI hS, hk, finRaw]
        · obtain ⟨j, rfl⟩ : ∃ i, j = i + 1 := ⟨j - 1, by omega⟩
          rw [run_succ]
          simp only [body, fin, slots, runB, b__law_filled]
          have := hfin0 S hv
          simp [kd, mD3, isDct_dI hS, kGet_dI hS, hk] at this ⊢
          exact this
      | some d =>
        obtain ⟨k', e, hv, _⟩ := hg (i, none) (by simp [occ]) d hk
        subst e
        refine ⟨k', hv.mono (by omega), fun f j S hj hS => ?_, fun f j S hj hS => ?_⟩
        · obtain ⟨j, rfl⟩ : ∃ i, j = i + 1 := ⟨j - 1, by omega⟩
          rw [run_succ]
          simp only [body, fin, slots, runB, b_fill]
          simp [kd, opIn_dI hS, hk, opIx_dI hS hk, finRaw]
        · obtain ⟨j, rfl⟩ : ∃ i, j = i + 1 := ⟨j - 1, by omega⟩
          rw [run_succ]
          simp only [body, fin, slots, runB, b__law_filled]
          simp [kd, mD3, isDct_dI hS, kGet_dI hS, hk, hfin0 S hv]
    | rc h1 h2 h3 h4 h5 =>
      rename_i ls ks r
      have hg1 : ∀ k ∈ ks, ∀ o ∈ occ k, o ∈ occ (.rc ls ks r) := fun k hk o ho => by
        rw [occ, List.mem_append]
        left
        clear h1 h4 hg hkn
        induction ks with
        | nil => cases hk
        | cons x ks ih2 =>
          rw [occs, List.mem_append]
          rcases List.mem_cons.mp hk with e | e
          · subst e; exact .inl ho
          · exact .inr (ih2 e)
      obtain ⟨xs, x1, x2, x3⟩ := list_all (P := fun k k' => VK (n + 20) k' ∧ (∀ f j S, n + 1 ≤ j → S[f]? = some (.dK fks fds) → run j .fill [kd k, .ref f] S = .ok (kd k') S) ∧ (∀ f j S, n + 1 ≤ j → S[f]? = some (.dK fks fds) → run j ._law_filled [kd k, .ref f] S = .ok (kd k') S)) h1 fun k hk => ih (h4 k hk) (by rw [kn] at hkn; have := kns_mem hk; omega) fun o ho d e => hg o (hg1 k hk o ho) d e
      have hfl : fldD ls (kds ks) = xs.map fun p => .tup [.str p.1, kd p.2.1] := by rw [← x1, ← x2, fld_xs]
      have hls : ∀ p ∈ xs, p.1 ∈ ls := fun p hp => by rw [← x1]; exact List.mem_map_of_mem hp
      have hnd := asc_nodup h2
      have hys : (xs.map fun p => D.tup [.str p.1, kd p.2.2]) = (xs.map fun p => (p.1, p.2.2)).map fd := by rw [List.map_map]; rfl
      have hy1 : (xs.map fun p => (p.1, p.2.2)).map (·.1) = ls := by rw [List.map_map]; exact x1
      have hy2 : ∀ p ∈ xs.map (fun p => (p.1, p.2.2)), IsLab p.1 ∧ VK (n + 20) p.2 := fun p hp => by
        obtain ⟨x, hx, e⟩ := List.mem_map.mp hp
        subst e
        exact ⟨h3 _ (hls x hx), (x3 x hx).1⟩
      have hcf : ∀ f j S, n + 1 ≤ j → S[f]? = some (.dK fks fds) → ∀ δ0 : PM.Loc, (δ0 = [some (kd (.rc ls ks r)), some (.ref f), none, none, none]) → compM (fun _ => True) (gmName 3) mYes (mApp newTup (mCons (mB opIx (mV 3) (mC (.int 0))) (mCons (mApp (run j .fill) (mCons (mB opIx (mV 3) (mC (.int 1))) (mCons (mV 1) mNil))) mNil))) δ0 [] (fldD ls (kds ks)) S = .ok (.lst ((xs.map fun p => (p.1, p.2.2)).map fd)) S := fun f j S hj hS δ0 e => by
        subst e
        rw [hfl, comp_map (i := fun p : Str × K × K => .tup [.str p.1, kd p.2.1]) (f := fun p => .tup [.str p.1, kd p.2.2]) (hg := trivial) (h := fun p hp => ⟨_, rfl, rfl, by simp [(x3 p hp).2.1 f j S hj hS]⟩), List.nil_append, hys]
      have hcl : ∀ f j S, n + 1 ≤ j → S[f]? = some (.dK fks fds) → ∀ δ0 : PM.Loc, (δ0 = [some (kd (.rc ls ks r)), some (.ref f), none, none, none, none, none]) → compM (fun _ => True) (gmTup [4, 3]) mYes (mApp newTup (mCons (mV 4) (mCons (mApp (run j ._law_filled) (mCons (mV 3) (mCons (mV 1) mNil))) mNil))) δ0 [] (fldD ls (kds ks)) S = .ok (.lst ((xs.map fun p => (p.1, p.2.2)).map fd)) S := fun f j S hj hS δ0 e => by
        subst e
        rw [hfl, comp_map (i := fun p : Str × K × K => .tup [.str p.1, kd p.2.1]) (f := fun p => .tup [.str p.1, kd p.2.2]) (hg := trivial) (h := fun p hp => ⟨_, rfl, rfl, by simp [(x3 p hp).2.2 f j S hj hS]⟩), List.nil_append, hys]
      generalize (xs.map fun p => (p.1, p.2.2)) = ys at hy1 hy2 hcf hcl hys
      -- the fields and the rest at last
      have hend : ∃ zs r', VK (n + 1 + 20) (recK zs r') ∧ (zs.map (·.1)).Nodup ∧ ((zs = ys ∧ r' = r ∧ ∀ i, r = some i → getK fks fds (.inl i : Key) = none) ∨ ∃ i z, r = some i ∧ getK fks fds (.inl i : Key) = some (.tup [.tup (z.map fd), rD0 r']) ∧ zs = ys ++ z ∧ ys.length + z.length ≤ 2000) := by
        have base : (∀ i, r = some i → getK fks fds (.inl i : Key) = none) → _ := fun hno => (⟨ys, r, recK_vk (d := n + 20) (by rw [hy1]; exact hnd) hy2 h5, by rw [hy1]; exact hnd, .inl ⟨rfl, rfl, hno⟩⟩ : ∃ zs r', VK (n + 1 + 20) (recK zs r') ∧ (zs.map (·.1)).Nodup ∧ ((zs = ys ∧ r' = r ∧ ∀ i, r = some i → getK fks fds (.inl i : Key) = none) ∨ ∃ i z, r = some i ∧ getK fks fds (.inl i : Key) = some (.tup [.tup (z.map fd), rD0 r']) ∧ zs = ys ++ z ∧ ys.length + z.length ≤ 2000))
        cases r with
        | none => exact base fun i e => nomatch e
        | some i =>
          cases hk : getK fks fds (.inl i : Key) with
          | none => exact base fun i' e => by cases e; exact hk
          | some d =>
            obtain ⟨ls2, ks2, r2, e, hv, hks2, hdis⟩ := hg (i, some ls) (by simp [occ, restO]) d hk
            subst e
            cases hv with
            | rc g1 g2 g3 g4 g5 =>
              have hz : fldD ls2 (kds ks2) = (ls2.zip ks2).map fd := fld_zipK g1
              have hz1 : (ls2.zip ks2).map (·.1) = ls2 := List.map_fst_zip (by omega)
              have hn : ((ys ++ ls2.zip ks2).map (·.1)).Nodup := by
                rw [List.map_append, hy1, hz1]
                exact List.nodup_append.mpr ⟨hnd, asc_nodup g2, fun a ha b hb e => hdis b hb (e ▸ ha)⟩
              refine ⟨ys ++ ls2.zip ks2, r2, recK_vk (d := n + 20) hn (fun p hp => ?_) g5, hn, .inr ⟨i, ls2.zip ks2, rfl, by rw [hk, hz], rfl, by
                have a1 : ys.length = ls.length := by rw [← hy1, List.length_map]
                have a2 := kns_len ks
                have a3 := kns_len ks2
                rw [kn] at hkn
                rw [List.length_zip]; omega⟩⟩
              rcases List.mem_append.mp hp with hp | hp
              · exact hy2 p hp
              · exact ⟨g3 _ (zip_mem hp).1, (g4 _ (zip_mem hp).2).mono (by omega)⟩
      obtain ⟨zs, r', hv, hn, hend⟩ := hend
      have hst : ∀ S, cSortedF [.lst (zs.map fd)] S = .ok (.lst (fldD (sortStr (zs.map (·.1))) (kds ((sortStr (zs.map (·.1))).map (fk zs))))) S := fun S => by
        have e1 : (zs.map fd).all isFld = true := by rw [List.all_map, List.all_eq_true]; exact fun _ _ => rfl
        have e2 : (zs.map fd).map labD = zs.map (·.1) := by rw [List.map_map]; rfl
        simp only [cSortedF, rdL, asL, e1, e2, true_and, if_pos hn, sortF_fd]
      refine ⟨recK zs r', hv, fun f j S hj hS => ?_, fun f j S hj hS => ?_⟩
      · obtain ⟨j, rfl⟩ : ∃ i, j = i + 1 := ⟨j - 1, by omega⟩
        rw [run_succ]
        simp only [body, fin, slots, runB, b_fill]
        simp [kd, wipeD]
        rw [hcf f j S (by omega) hS _ (by simp [kd])]
        rcases hend with ⟨e1, e2, hno⟩ | ⟨i, z, e1, hk, e2, hz⟩
        · subst e1 e2
          cases r' with
          | none => simp [rD0, isNon, hst, finRaw, recK, kd]
          | some i => simp [rD0, isNon, opIn_dI hS, hno i rfl, hst, finRaw, recK, kd]
        · subst e1
          have e3 : ys.map fd ++ z.map fd = zs.map fd := by rw [e2, List.map_append]
          have hadd : ∀ S, opAdd (.lst (ys.map fd)) (.lst (z.map fd)) S = .ok (.lst (zs.map fd)) S := fun S => by rw [opAdd_lst (by rw [List.length_map, List.length_map]; exact Nat.le_trans hz (Nat.le_trans (by decide) szl)), e3]
          simp [hadd, rD0, isNon, opIn_dI hS, hk, opIx_dI hS hk, hst, finRaw, recK, kd]
      · obtain ⟨j, rfl⟩ : ∃ i, j = i + 1 := ⟨j - 1, by omega⟩
        rw [run_succ]
        simp only [body, fin, slots, runB, b__law_filled]
        simp [kd, wipeD]
        rw [hcl f j S (by omega) hS _ (by simp [kd])]
        have hlab : ∀ l ∈ sortStr (zs.map (·.1)), IsLab l := by
          cases hv with
          | rc _ _ g3 _ _ => exact g3
        have hS2 : (S ++ [MO.dK ((zs.map (·.1)).map .inr) (kds (zs.map (·.2)))])[S.length]? = some (.dK ((zs.map (·.1)).map .inr) (kds (zs.map (·.2)))) := sto_snoc
        have hdict := cDictR_fd (S := S) hn
        have hlist := cListK_inr hS2 (fun l hl => hlab l ((sortStr_perm _).mem_iff.mpr hl))
        have hsort : ∀ S, cSorted [.lst ((zs.map (·.1)).map .str)] S = .ok (.lst ((sortStr (zs.map (·.1))).map .str)) S := fun S => by simp only [cSorted, rdL, asL, strsOf_id]
        have hgk : ∀ l ∈ sortStr (zs.map (·.1)), getK ((zs.map (·.1)).map (Sum.inr : Str → Key)) (kds (zs.map (·.2))) (.inr l) = some (kd (fk zs l)) := fun l hl => getK_fd ((sortStr_perm _).mem_iff.mp hl)
        have hres := hfin S [MO.dK ((zs.map (·.1)).map .inr) (kds (zs.map (·.2)))] hv
        rw [recK, kd] at hres
        rw [recK, kd]
        clear hv hlab hst hy1 hcf
        generalize hL : zs.map (·.1) = L at *
        generalize hV : kds (zs.map (·.2)) = V at *
        have hcomp : ∀ δ0 : PM.Loc, (∃ a b c d e, δ0 = [a, b, c, d, none, e, some (.ref S.length)]) → compM (fun _ => True) (gmName 4) mYes (mApp newTup (mCons (mV 4) (mCons (mB opIx (mV 6) (mV 4)) mNil))) δ0 [] ((sortStr L).map .str) (S ++ [MO.dK (L.map .inr) V]) = .ok (.lst (fldD (sortStr L) (kds ((sortStr L).map (fk zs))))) (S ++ [MO.dK (L.map .inr) V]) := fun δ0 ⟨a, b, c, d, e, e0⟩ => by
          subst e0
          rw [comp_map (i := D.str) (f := fun l => .tup [.str l, kd (fk zs l)]) (hg := trivial) (h := fun l hl => ⟨_, rfl, rfl, by simp [opIx_dK hS2 (hgk l hl)]⟩), List.nil_append, fld_map]
        generalize hT : S ++ [MO.dK (L.map .inr) V] = T at *
        generalize fldD (sortStr L) (kds ((sortStr L).map (fk zs))) = FF at *
        rcases hend with ⟨e1, e2, hno⟩ | ⟨i, z, e1, hk, e2, hz⟩
        · subst e1 e2
          cases r' with
          | none =>
            simp [rD0, isNon, hdict, hlist, hsort, wipeD] at hres ⊢
            rw [hcomp _ ⟨_, _, _, _, _, rfl⟩]
            simp [hres]
          | some i =>
            simp [rD0, isNon, opIn_dI hS, hno i rfl, hdict, hlist, hsort, wipeD] at hres ⊢
            rw [hcomp _ ⟨_, _, _, _, _, rfl⟩]
            simp [hres]
        · subst e1
          have e3 : ys.map fd ++ z.map fd = zs.map fd := by rw [e2, List.map_append]
          have hadd : ∀ S, opAdd (.lst (ys.map fd)) (.lst (z.map fd)) S = .ok (.lst (zs.map fd)) S := fun S => by rw [opAdd_lst (by rw [List.length_map, List.length_map]; exact Nat.le_trans hz (Nat.le_trans (by decide) szl)), e3]
          simp [rD0, isNon, opIn_dI hS, hk, opIx_dI hS hk, hadd, hdict, hlist, hsort, wipeD] at hres ⊢
          rw [hcomp _ ⟨_, _, _, _, _, rfl⟩]
          simp [hres]

end K_k03
end
section
namespace K_k03
open PySem L2 PM
theorem isfill_ok {m j : Nat} {S : Sto} {l : OL} {d : D} (hd : th m d = true) : run (j + 30) .is_fill [olD l, d] S = .ok (.bl (isFillD l d)) S := by
  have hk : ∀ {m : Nat} {d : D}, th m d = true → run (j + 29) .is_kind_in [d, .int 12] S = .ok (.bl (kindIn 12 d)) S := fun h => kindin_ok 12 h (by omega)
  rw [run_succ]
  simp only [body, fin, slots, runB, b_is_fill]
  cases l with
  | none => simp [olD, isNon, hk hd, finRaw, isFillD, restFill]
  | some w =>
    cases d with
    | tup ds =>
      match ds, hd with
      | [], _ => simp [olD, wD, isNon, finRaw, isFillD, restFill]
      | [a], _ => simp [olD, wD, isNon, finRaw, isFillD, restFill]
      | [a, b], hd =>
        have hth : th (m + 1) (.tup [.str "record", a, b]) = true := th_rec (th_pair hd).1 (th_pair hd).2
        have hadd : ∀ S, opAdd (.tup [.str "record"]) (.tup [a, b]) S = .ok (.tup [.str "record", a, b]) S := fun S => opAdd_tup (by simp; exact Nat.le_trans (by decide) szl)
        have h2 := hk hth
        obtain ⟨bk, hbk⟩ : ∃ b', b' = kindIn 12 (.tup [.str "record", a, b]) := ⟨_, rfl⟩
        rw [← hbk] at h2
        rw [show isFillD (some w) (.tup [a, b]) = (kindIn 12 (.tup [.str "record", a, b]) && disD w a) from rfl, ← hbk]
        cases bk with
        | false => simp [olD, wD, isNon, hadd, h2, finRaw]
        | true =>
          have ha : ∃ ps, a = .tup ps ∧ ∀ p ∈ ps, isPairD p = true := by
            obtain ⟨k, e, hv⟩ := kindIn_kd 12 hbk.symm
            cases hv with
            | num => cases e
            | blk => cases e
            | rc h1 h2 h3 h4 h5 =>
              simp only [kd, D.tup.injEq, List.cons.injEq] at e
              exact ⟨_, e.2.1, List.all_eq_true.mp (fld_pairs h3)⟩
          obtain ⟨ps, e, hp⟩ := ha
          subst e
          have hc := comp_pure (grd := fun _ => True) (g := gmName 2) (t := mYes) (e := mB opNotIn (mB opIx (mV 2) (mC (.int 0))) (mV 0)) (δ := [some (.lst (w.map D.str)), some (.tup [.tup ps, b]), none]) (S := S) (fun p => .bl (!decide (labD p ∈ w))) trivial ps [] fun p h => by
            obtain ⟨s, b, e, _⟩ := pair_is (hp p h)
            subst e
            exact ⟨_, rfl, rfl, by simp [opNotIn_strs, labD]; exact decide_eq_decide.mpr Iff.rfl⟩
          have hA : ∀ S, cAll [.lst (ps.map fun p => .bl (!decide (labD p ∈ w)))] S = .ok (.bl (ps.all fun p => !decide (labD p ∈ w))) S := fun S => by rw [cAll_map]
          rw [List.nil_append] at hc
          simp [olD, wD, isNon, hadd, h2, wipeD]
          rw [hc]
          simp only [R.bind_ok, hA, RS.seq_nx, R.into_ok, finRaw, Bool.true_and]
          rfl
      | a :: b :: c :: r, _ =>
        have : ¬ ((r.length : Int) + 1 + 1 + 1 = 2) := by omega
        simp [olD, wD, isNon, finRaw, isFillD, restFill, this]
    | _ => first
      | (cases m <;> cases hd; done)
      | simp [olD, wD, isNon, finRaw, isFillD, restFill]
def xBF : Exc := ⟨"BadFill", [], []⟩
def xTG : Exc := ⟨"TooGreat", [], []⟩
def xBK : Exc := ⟨"BadKind", [], []⟩
theorem fin_exc {S T : Sto} {x : Str} : finFrz 0 S (.exc ⟨x, [], []⟩ (S ++ T)) = .exc ⟨x, [], []⟩ S := by
  unfold finFrz
  have : ClS S (S ++ T) ∧ D.cls S.length ([] : List D) = true := ⟨ClS.app, rfl⟩
  simp only [if_pos this]
  rw [List.take_left]
/-- what stands behind the fills -/
inductive Rz where
  | bad | great | made (k : K)
def rzK (k : K) : Rz := if kn k ≤ 200 ∧ dp k ≤ 12 then (if (pa [] (occ k)).2 = true then .made k else .bad) else .great
def rzR (S : Sto) : Rz → R D
  | .bad => .exc ⟨"BadFill", [], []⟩ S
  | .great => .exc ⟨"TooGreat", [], []⟩ S
  | .made k => .ok (kd k) S
theorem is_kind_vk {j n : Nat} {S : Sto} {k : K} (h : VK n k) (h1 : kn k ≤ 200) (h2 : dp k ≤ 12) : run (j + 30) .is_kind [kd k] S = .ok (.bl (pa [] (occ k)).2) S := by
  have h3 : VK 12 k := h.to h2
  rw [is_kind_yes (by rw [kindIn_dp 12 h3]; exact decide_eq_true h2) (vk_th h3 (by omega)) h3, decide_eq_true h1, Bool.true_and]
theorem filled_bad {j n f : Nat} {S : Sto} {k k' : K} {fks : List Key} {fds : List D} (hf : f < S.length) (hS : S[f]? = some (.dK fks fds)) (h : VK n k) (hn : n ≤ 12) (hk : kn k ≤ 200) (hc : Con (occ k))
    (hF : ∀ o ∈ occ k, ∀ d, getK fks fds (.inl o.1) = some d → th 70 d = true) {A B : Prop}
    (hA : A → ∃ o ∈ occ k, ∃ d, getK fks fds (.inl o.1) = some d ∧ isFillD o.2 d = false)
    (hB : B → (∀ o ∈ occ k, ∀ d, getK fks fds (.inl o.1) = some d → isFillD o.2 d = true) ∧ VK (n + 20) k' ∧ (∀ j S, n + 1 ≤ j → S[f]? = some (.dK fks fds) → run j .fill [kd k, .ref f] S = .ok (kd k') S)) :
    (A → run (j + 40) .filled [kd k, .ref f] S = .exc ⟨"BadFill", [], []⟩ S) ∧ (B → run (j + 40) .filled [kd k, .ref f] S = rzR S (rzK k')) := by
  have hdk : dp k ≤ 12 := Nat.le_trans h.dple hn
  have hpc := pa_con (occ k) [] hc
  have hlen := occ_len k
  have hmo : MpOk (pa [] (occ k)).1 := pa_ok (fun p hp => nomatch hp) (occ_ok n h)
  have h1 : run (j + 38) .is_kind [kd k] S = .ok (.bl true) S := by rw [is_kind_vk (j := j + 8) h hk hdk, hpc.1]
  have hneed : run (j + 39) .need_kind [kd k] S = .ok .non S := by
    rw [run_succ]
    simp only [body, fin, slots, runB, b_need_kind]
    simp [h1, finRaw]
  have hq : (S ++ [mpO []])[S.length]? = some (mpO []) := sto_snoc
  have hbl := blanks_ok (q := S.length) n (j := j + 39) (S := S ++ [mpO []]) (m := []) h (by omega) hq (fun p hp => by cases hp) (occ_ok n h) (by simp; omega)
  rw [sto_snoc_set, hpc.1] at hbl
  have e0 : (S ++ [MO.dK [] []]) = S ++ [mpO []] := rfl
  rw [run_succ]
  simp only [body, fin, slots, runB, b_filled]
  generalize (pa [] (occ k)).1 = m0 at *
  simp [hneed, e0, hbl]
  rw [lock_mp (q := S.length) (mp := m0) (by simp) (by simp)]
  have hS2 : (S ++ [mpL m0])[S.length]? = some (mpL m0) := sto_snoc
  have hSf : (S ++ [mpL m0])[f]? = some (.dK fks fds) := by rw [List.getElem?_append_left hf]; exact hS
  have hSf2 : (S ++ [mpO m0])[f]? = some (.dK fks fds) := by rw [List.getElem?_append_left hf]; exact hS
  simp only [sto_snoc_set, sFor_eq]
  rw [keys_mp (q := S.length) (mp := m0) (by simp) hS2]
  simp only [R.into_ok]
  generalize hL : loopM _ _ _ _ _ = r
  have hlp := loop_retG hL (fun i δ S' => S' = S ++ [mpL m0] ∧ (∃ x3, δ = [some (kd k), some (.ref f), some (.ref S.length), x3, none]) ∧ ∀ t, t < i → ∀ o, m0[t]? = some o → ∀ d, getK fks fds (.inl o.1) = some d → isFillD o.2 d = true)
    (fun r => (∃ δ', r = .exc ⟨"BadFill", [], []⟩ δ' (S ++ [mpL m0])) ∧ ∃ o ∈ occ k, ∃ d, getK fks fds (.inl o.1) = some d ∧ isFillD o.2 d = false)
    (fun i δ S' h => by rw [h.1]; exact hS2) ⟨rfl, ⟨_, rfl⟩, fun t ht => by omega⟩ fun i x δ S' hx hI => by
      obtain ⟨e1, ⟨x3, e2⟩, h3⟩ := hI
      subst e1 e2
      rw [List.getElem?_map] at hx
      obtain ⟨o, ho, ex⟩ := Option.map_eq_some_iff.mp hx
      subst ex
      have hom := List.mem_of_getElem? ho
      have hoc : o ∈ occ k := by have := hpc.2.1 o hom; simpa using this
      have hix := opIx_mpL (n := o.1) hS2 (look_con hpc.2.2.1 o hom)
      cases hg : getK fks fds (.inl o.1 : Key) with
      | none =>
        refine .inl ⟨[some (kd k), some (.ref f), some (.ref S.length), some (.int o.1), none], S ++ [mpL m0], .inl (by simp [loopB_eq, opIn_dI hSf, hg]), rfl, ⟨_, rfl⟩, fun t ht u hu d hd => ?_⟩
        rcases Nat.lt_or_ge t i with q | q
        · exact h3 t q u hu d hd
        · have : t = i := by omega
          subst this
          rw [ho] at hu; cases hu
          rw [hg] at hd; cases hd
      | some d =>
        have hfi := isfill_ok (j := j + 9) (S := S ++ [mpL m0]) (l := o.2) (hF o hoc d hg)
        rw [show j + 9 + 30 = j + 39 by omega] at hfi
        cases hb : isFillD o.2 d with
        | true =>
          rw [hb] at hfi
          refine .inl ⟨[some (kd k), some (.ref f), some (.ref S.length), some (.int o.1), none], S ++ [mpL m0], .inl (by simp [loopB_eq, opIn_dI hSf, hg, hix, opIx_dI hSf hg, hfi]), rfl, ⟨_, rfl⟩, fun t ht u hu d' hd => ?_⟩
          rcases Nat.lt_or_ge t i with q | q
          · exact h3 t q u hu d' hd
          · have : t = i := by omega
            subst this
            rw [ho] at hu; cases hu
            rw [hg] at hd; cases hd
            exact hb
        | false =>
          rw [hb] at hfi
          refine .inr (.inr ⟨⟨"BadFill", [], []⟩, [some (kd k), some (.ref f), some (.ref S.length), some (.int o.1), none], S ++ [mpL m0], by simp [loopB_eq, opIn_dI hSf, hg, hix, opIx_dI hSf hg, hfi, sRaise], ⟨_, rfl⟩, o, hoc, d, hg, hb⟩)
  constructor
  · intro a0
    obtain ⟨o, ho, d, hg, hb⟩ := hA a0
    rcases hlp with ⟨δ', S', e, hS', hδ, hall⟩ | ⟨⟨δ', e⟩, _⟩
    · obtain ⟨t, ht⟩ := List.getElem?_of_mem (hpc.2.2.2 o (by simpa using ho))
      have := hall t (by have := (List.getElem?_eq_some_iff.mp ht).1; simpa using this) o ht d hg
      rw [hb] at this; cases this
    · subst e
      simp only [RS.seq_exc]
      exact fin_exc
  · intro b0
    obtain ⟨hall, hv, hfill⟩ := hB b0
    rcases hlp with ⟨δ', S', e, hS', ⟨x3, hδ⟩, _⟩ | ⟨⟨δ', e⟩, o, ho, d, hg, hb⟩
    · subst e hS' hδ
      have hu : ∀ k, unlk S.length (S ++ [mpL m0]) k = k (S ++ [mpO m0]) := fun k => by rw [unlk_mp hS2, sto_snoc_set]
      have hfi := hfill (j + 39) (S ++ [mpO m0]) (by omega) hSf2
      have hkn := knots_ok (n + 20) (j := j + 39) (S := S ++ [mpO m0]) hv (by omega)
      have hdp := depth_ok (n + 20) (j := j + 39) (S := S ++ [mpO m0]) hv (by omega)
      simp only [hu, RS.seq_nx]
      simp [hfi, hkn, hdp]
      by_cases c1 : kn k' ≤ 200
      · by_cases c2 : dp k' ≤ 12
        · have c1' : ¬ (200 : Int) < (kn k' : Nat) := by omega
          have c2' : ¬ (12 : Int) < (dp k' : Nat) := by omega
          have hik := is_kind_vk (j := j + 9) (S := S ++ [mpO m0]) hv c1 c2
          rw [show j + 9 + 30 = j + 39 by omega] at hik
          cases hp : (pa [] (occ k')).2 with
          | true =>
            have hz : rzK k' = .made k' := by unfold rzK; rw [if_pos ⟨c1, c2⟩, if_pos hp]
            rw [hp] at hik
            rw [hz]
            simp [c1', c2', hik, rzR, finFrz_app (vk_cl hv)]
          | false =>
            have hz : rzK k' = .bad := by unfold rzK; rw [if_pos ⟨c1, c2⟩, if_neg (by rw [hp]; exact Bool.false_ne_true)]
            rw [hp] at hik
            rw [hz]
            simp [c1', c2', hik, rzR, sRaise]
            exact fin_exc
        · have c2' : (12 : Int) < (dp k' : Nat) := by omega
          have hz : rzK k' = .great := by unfold rzK; rw [if_neg (fun h => c2 h.2)]
          rw [hz]
          by_cases c1' : (200 : Int) < (kn k' : Nat)
          · simp [c1', rzR, sRaise]
            exact fin_exc
          · simp [c1', c2', rzR, sRaise]
            exact fin_exc
      · have c1' : (200 : Int) < (kn k' : Nat) := by omega
        have hz : rzK k' = .great := by unfold rzK; rw [if_neg (fun h => c1 h.1)]
        rw [hz]
        simp [c1', rzR, sRaise]
        exact fin_exc
    · rw [hall o ho d hg] at hb; cases hb

end K_k03
end
section
namespace K_k03
open PySem L2 PM
def rzD : Rz → D
  | .bad => .lst [.str "BadFill"]
  | .great => .lst [.str "TooGreat"]
  | .made k => kd k
theorem tried_ok {j : Nat} {S : Sto} {x fl d : D} (h : run (j + 5) .filled [x, fl] S = .ok d S) : run (j + 6) ._law_tried [x, fl] S = .ok d S := by
  rw [run_succ]
  simp only [body, fin, slots, runB, b__law_tried]
  rw [sTryAs_rt (d := d) (S' := S) (by simp [h])]
  simp [finRaw]
theorem lone_ok {j : Nat} {S : Sto} {y : Str} {a : Addr} (hy : y = "BadFill" ∨ y = "TooGreat" ∨ y = "BadKind") : runE (j + 1) ._law_lone a y [.exn a] S = .ok (.bl true) S := by
  show finRaw S (runB (bodyE a y ._law_lone) (slotsE ._law_lone) [.exn a] S) = _
  simp only [bodyE, slotsE, runB, b__law_lone]
  rcases hy with rfl | rfl | rfl <;> simp [isx, opIsE, cIntB, finRaw]
theorem tried_exc {j : Nat} {S : Sto} {x fl : D} {y : Str} (hy : y = "BadFill" ∨ y = "TooGreat" ∨ y = "BadKind") (h : run (j + 5) .filled [x, fl] S = .exc ⟨y, [], []⟩ S) : run (j + 6) ._law_tried [x, fl] S = .ok (.lst [.str y]) S := by
  have hl : ∀ a, runE (j + 5) ._law_lone a y [.exn a] S = .ok (.bl true) S := fun a => lone_ok hy
  rw [run_succ]
  simp only [body, fin, slots, runB, b__law_tried]
  rw [sTryAs_exc (y := y) (δ' := [some x, some fl, none]) (S' := S) (d := .lst [.str y]) (S2 := S) (by simp [h]) (by unfold okX; rcases hy with rfl | rfl | rfl <;> simp) (fun a => by
    simp [hl a]
    rcases hy with rfl | rfl | rfl <;> simp [isx, opIsE, cIntB])]
  simp [finRaw]
theorem tried_rz {j : Nat} {S : Sto} {x fl : D} {z : Rz} (h : run (j + 5) .filled [x, fl] S = rzR S z) : run (j + 6) ._law_tried [x, fl] S = .ok (rzD z) S := by
  cases z with
  | bad => exact tried_exc (.inl rfl) h
  | great => exact tried_exc (.inr (.inl rfl)) h
  | made k => exact tried_ok h
theorem tried_none {j f : Nat} {S : Sto} : run (j + 40) ._law_tried [.tup [.str "none"], .ref f] S = .ok (.lst [.str "BadKind"]) S := by
  refine tried_exc (j := j + 34) (.inr (.inr rfl)) ?_
  have hik : run (j + 37) .is_kind [.tup [.str "none"]] S = .ok (.bl false) S := is_kind_no (m := 1) (j := j + 7) (by simp [th, th_str]; decide +kernel) (by decide +kernel)
  have hn : run (j + 38) .need_kind [.tup [.str "none"]] S = .exc ⟨"BadKind", [], []⟩ S := by
    rw [run_succ]
    simp only [body, fin, slots, runB, b_need_kind]
    simp [hik, finRaw, sRaise]
  rw [show j + 34 + 5 = j + 38 + 1 by omega, run_succ]
  simp only [body, fin, slots, runB, b_filled]
  simp [hn]
  have := fin_exc (S := S) (T := []) (x := "BadKind")
  rwa [List.append_nil] at this
theorem due_odd {j : Nat} {S : Sto} {x fl : D} : run (j + 1) ._law_due [x, fl, .bl true] S = .ok (.lst [.str "BadFill"]) S := by
  rw [run_succ]
  simp only [body, fin, slots, runB, b__law_due]
  have hf : finFrz 0 S (.ok (.lst [.str "BadFill"]) S) = .ok (.lst [.str "BadFill"]) S := by
    have := finFrz_app (k := 0) (S := S) (T := []) (d := .lst [.str "BadFill"]) rfl
    rwa [List.append_nil] at this
  simp [hf]
theorem due_ok {j n f : Nat} {S : Sto} {x : D} {k' : K} (hn : n ≤ 12) (hv : VK (n + 20) k') (hfill : run (j + 39) ._law_filled [x, .ref f] S = .ok (kd k') S) : run (j + 40) ._law_due [x, .ref f, .bl false] S = .ok (rzD (rzK k')) S := by
  have hkn := lknots_ok (n + 20) (j := j + 39) (S := S) hv (by omega)
  have hdp := ldeep_ok (n + 20) (j := j + 39) (S := S) hv (by omega)
  have hf : ∀ s : Str, finFrz 0 S (.ok (.lst [.str s]) S) = .ok (.lst [.str s]) S := fun s => by
    have := finFrz_app (k := 0) (S := S) (T := []) (d := .lst [.str s]) rfl
    rwa [List.append_nil] at this
  have hf2 : ∀ (s : Str) T, finFrz 0 S (.ok (.lst [.str s]) (S ++ T)) = .ok (.lst [.str s]) S := fun s T => finFrz_app rfl
  rw [run_succ]
  simp only [body, fin, slots, runB, b__law_due]
  simp [hfill, hkn, hdp]
  have gr : ∀ h : ¬ (kn k' ≤ 200 ∧ dp k' ≤ 12), rzK k' = .great := fun h => by unfold rzK; rw [if_neg h]
  by_cases c1 : (200 : Int) < (kn k' : Nat)
  · rw [gr (by omega)]
    simp [c1, rzD, hf]
  · by_cases c2 : (12 : Int) < (dp k' : Nat)
    · rw [gr (by omega)]
      simp [c1, c2, rzD, hf]
    · have d1 : kn k' ≤ 200 ∧ dp k' ≤ 12 := by omega
      have hlen := occ_len k'
      have hq : (S ++ [mpO []])[S.length]? = some (mpO []) := sto_snoc
      have hm := met_ok (q := S.length) (n + 20) (j := j + 39) (S := S ++ [mpO []]) (m := []) hv (by omega) hq (fun p hp => by cases hp) (occ_ok _ hv) (by simp; omega)
      rw [sto_snoc_set] at hm
      have e0 : (S ++ [MO.dK [] []]) = S ++ [mpO []] := rfl
      cases hp : (pa [] (occ k')).2 with
      | true =>
        have hz : rzK k' = .made k' := by unfold rzK; rw [if_pos d1, if_pos hp]
        rw [hp] at hm
        rw [hz]
        simp [c1, c2, e0, hm, rzD, finFrz_app (vk_cl hv)]
      | false =>
        have hz : rzK k' = .bad := by unfold rzK; rw [if_pos d1, if_neg (by rw [hp]; exact Bool.false_ne_true)]
        rw [hp] at hm
        rw [hz]
        simp [c1, c2, e0, hm, rzD, hf2]

end K_k03
end
section
namespace K_k03
open PySem L2 PM
theorem kind3_ok {n q : Nat} (nq : n ≠ q) {w : Int} (hw : 0 ≤ w ∧ w < 1000000000) {ls : List Str} (h4 : ls.length = 4) (hn : ls.Nodup) (hl : ∀ l ∈ ls, IsLab l) : ∀ (d : Nat) {k M : Nat} {S : Sto} {l b : Int} {ws : List (List Str)}, l = d + 1 → d + 2 ≤ k → M ≤ 1000 → KS3 S n q M ws b →
    ∃ kk T, run k ._law_kind [.ref n, .lst (ls.map .str), .lst [.int w, .ref q], .int l] S = .ok (kd kk) T ∧ VK (d + 1) kk ∧ KE3 T n q M w ws (4 * b.toNat + 1) (occ kk) (kn kk) ∧ KNx S T n q := by
  intro d
  induction d with
  | zero =>
    intro k M S l b ws hd hk hM hs
    obtain ⟨k, rfl⟩ : ∃ j, k = j + 2 := ⟨k - 2, by omega⟩
    obtain ⟨a, h0, hS, hq, hws, hb⟩ := hs
    have hr := next_ok (k := k) hS
    refine ⟨.num, _, ?_, .num, ⟨b - 1, ws, ⟨(a * 48271 + 11) % 2147483647, ?_, sto_set hS, by rw [List.getElem?_set_ne nq]; exact hq, hws, by omega⟩, List.prefix_refl _, (fun o ho => nomatch ho), by rw [kn]; omega⟩, .set1⟩
    · rw [run_succ]
      simp only [body, fin, slots, runB, b__law_kind]
      simp [hr, hd, kd, finRaw]
    · omega
  | succ d ih =>
    intro k M S l b ws hd hk hM hs
    obtain ⟨k, rfl⟩ : ∃ j, k = j + 2 := ⟨k - 2, by omega⟩
    obtain ⟨a, h0, hS, hq, hws, hb⟩ := hs
    have hr := next_ok (k := k) hS
    have hT := sto_set (o := .lst [.int ((a * 48271 + 11) % 2147483647), .int (b - 1)]) hS
    have hqT : (S.set n (.lst [.int ((a * 48271 + 11) % 2147483647), .int (b - 1)]))[q]? = some (.lst (ws.map wD)) := by rw [List.getElem?_set_ne nq]; exact hq
    have hx : KNx S (S.set n (.lst [.int ((a * 48271 + 11) % 2147483647), .int (b - 1)])) n q := .set1
    have hv : 0 ≤ (a * 48271 + 11) % 2147483647 := by omega
    have hv2 : 0 ≤ (a * 48271 + 11) % 2147483647 / 7 := by omega
    generalize S.set n (.lst [.int ((a * 48271 + 11) % 2147483647), .int (b - 1)]) = T at *
    generalize (a * 48271 + 11) % 2147483647 = a' at *
    generalize a' / 7 = v at *
    rw [run_succ]
    simp only [body, fin, slots, runB, b__law_kind]
    have hl1 : ¬ l ≤ 1 := by omega
    simp [hr, hl1, opIx_ref hT, opMod_pos]
    by_cases c1 : b - 1 ≤ 0
    · refine ⟨.num, T, ?_, .num, ⟨b - 1, ws, ⟨a', hv, hT, hqT, hws, by omega⟩, List.prefix_refl _, (fun o ho => nomatch ho), by rw [kn]; omega⟩, hx⟩
      simp [c1, kd, finRaw]
    by_cases c2 : v % 7 < 2
    · refine ⟨.num, T, ?_, .num, ⟨b - 1, ws, ⟨a', hv, hT, hqT, hws, by omega⟩, List.prefix_refl _, (fun o ho => nomatch ho), by rw [kn]; omega⟩, hx⟩
      simp [c1, c2, kd, finRaw]
    by_cases c3 : v % 7 = 2
    · refine ⟨.blk (w * 2 * (v / 7 % 3)), T, ?_, .blk (Int.mul_nonneg (by omega) (by omega)), ⟨b - 1, ws, ⟨a', hv, hT, hqT, hws, by omega⟩, List.prefix_refl _, (fun o ho => .inl ⟨(v / 7 % 3).toNat, by omega, by rw [List.mem_singleton.mp ho, Int.toNat_of_nonneg (by omega)]⟩), by rw [kn]; omega⟩, hx⟩
      simp [c1, c3, kd, finRaw, opMul_l (show -18446744073709551616 < w ∧ w < 18446744073709551616 by omega), opMul_l (show -18446744073709551616 < w * 2 ∧ w * 2 < 18446744073709551616 by omega), opDiv_pos, opMod_pos]
    obtain ⟨l1, hl1', e1⟩ := labs_at h4 (show 0 ≤ v / 7 % 4 by omega) (by omega)
    obtain ⟨l2, hl2', e2⟩ := labs_at h4 (show 0 ≤ v / 28 % 4 by omega) (by omega)
    obtain ⟨l3, hl3', e3⟩ := labs_at h4 (show 0 ≤ v / 112 % 4 by omega) (by omega)
    have eS : ∀ S, cSorted [.lst (ls.map .str)] S = .ok (.lst ((sortStr ls).map .str)) S := fun S => by
      simp only [cSorted, rdL, asL, strsOf_id]
    simp [c1, c2, c3, opDiv_pos, opMod_pos, e1, e2, e3, cutD_to (show 0 ≤ v / 448 % 4 by omega), eS, wipeD]
    have ep : List.take (v / 448 % 4).toNat [D.str l1, D.str l2, D.str l3] = ([l1, l2, l3].take (v / 448 % 4).toNat).map D.str := by rw [List.map_take]; rfl
    rw [ep]
    generalize [l1, l2, l3].take (v / 448 % 4).toNat = pk
    rw [comp_filtm (i := D.str) (p := fun x => decide (x ∈ pk)) (f := D.str) trivial _ _ fun x _ => ⟨_, rfl, by simp [opIn_strs], fun _ => by simp⟩]
    have ww : ∀ x ∈ (sortStr ls).filter fun x => decide (x ∈ pk), x ∈ ls := fun x hx => (sortStr_perm ls).mem_iff.mp (List.mem_filter.mp hx).1
    have wn : ascS ((sortStr ls).filter fun x => decide (x ∈ pk)) = true := asc_filter _ hn
    have wl : ((sortStr ls).filter fun x => decide (x ∈ pk)).length ≤ 4 := Nat.le_trans (List.length_filter_le _ _) (by rw [(sortStr_perm ls).length_eq, h4]; exact Nat.le_refl _)
    generalize ((sortStr ls).filter fun x => decide (x ∈ pk)) = wds at *
    have wok : WOk wds := fun x hx => hl x (ww x hx)
    simp [wipeD]
    generalize hC : compM _ _ _ _ _ _ _ _ = r
    obtain ⟨acc, T2, e, ks, b2, ws2, e4, e5, e6, ⟨a2, k0, kS, kq, kws, kb⟩, hpre, hos, e8, e10⟩ := comp_ofN hC (fun i acc S' => ∃ ks b' ws', acc = fldD (wds.take i) (kds ks) ∧ ks.length = i ∧ (∀ k ∈ ks, VK (d + 1) k) ∧ KS3 S' n q (M - 1) ws' b' ∧ ws <+: ws' ∧ (∀ o ∈ occs ks, OkO w ws' o) ∧ KNx T S' n q ∧ kns ks + 4 * b'.toNat ≤ 4 * (b - 1).toNat + ks.length)
      ⟨[], b - 1, ws, rfl, rfl, by simp, ⟨a', hv, hT, hqT, hws, by omega⟩, List.prefix_refl _, (fun o ho => nomatch ho), .refl, by simp [kns]⟩ (fun i x acc S1 hx hI => by
        obtain ⟨ks, b1, ws1, e4, e5, e6, e7, p7, o7, e8, e9⟩ := hI
        rw [List.getElem?_map] at hx
        obtain ⟨y, hy, ex⟩ := Option.map_eq_some_iff.mp hx
        obtain ⟨kk, U, g1, g2, ⟨b3, ws3, g3, p3, o3, g5⟩, g4⟩ := ih (k := k + 1) (l := l - 1) (by omega) (by omega) (by omega) e7
        subst e4 ex
        have hi : i < wds.length := (List.getElem?_eq_some_iff.mp hy).1
        refine ⟨_, S1, .tup [.str y, kd kk], U, rfl, ?_, ks ++ [kk], b3, ws3, ?_, by simp [e5], ?_, g3, p7.trans p3, ?_, e8.trans g4, by rw [kns_app, List.length_append]; simp only [kns, List.length_cons, List.length_nil]; omega⟩
        · simp [g1]
        · have ht : wds.take (i + 1) = wds.take i ++ [y] := by rw [List.take_add_one, hy]; rfl
          rw [ht, show kds (ks ++ [kk]) = kds ks ++ [kd kk] from by simp [kds_map], fldD_snoc (by rw [kds_len, e5, List.length_take]; omega)]
        · intro x hx
          rcases List.mem_append.mp hx with hx | hx
          · exact e6 x hx
          · rw [List.mem_singleton.mp hx]; exact g2
        · intro o ho
          rw [occs_app] at ho
          simp only [occs, List.append_nil] at ho
          rcases List.mem_append.mp ho with ho | ho
          · exact (o7 o ho).pre p3
          · exact o3 o ho)
    subst e e4
    have hM1 : 1 ≤ M := by omega
    rw [List.length_map] at e5
    rw [List.length_map, List.take_length]
    have hlen : wds.length = ks.length := e5.symm
    simp
    by_cases c5 : v / 1792 % 2 = 0
    · refine ⟨.rc wds ks none, T2, ?_, .rc hlen wn wok e6 (fun i e => nomatch e), ⟨b2, ws2, ⟨a2, k0, kS, kq, kws, by omega⟩, hpre, (fun o ho => hos o (by simpa [occ, restO] using ho)), by rw [kn]; omega⟩, hx.trans e8⟩
      simp [c5, kd, finRaw, rD0, opDiv_pos, opMod_pos]
    have hni := opNotIn_ws kq wok kws
    rw [wD] at hni
    by_cases c6 : wds ∈ ws2
    · obtain ⟨j, hj, hji⟩ := cIndex_ws2 kq wok kws c6
      rw [wD] at hji
      refine ⟨.rc wds ks (some (w * (1 + 2 * (j : Int)))), T2, ?_, .rc hlen wn wok e6 (fun i e => by cases e; exact Int.mul_nonneg (by omega) (by omega)), ⟨b2, ws2, ⟨a2, k0, kS, kq, kws, by omega⟩, hpre, (fun o ho => by
        rw [occ] at ho
        rcases List.mem_append.mp ho with ho | ho
        · exact hos o ho
        · exact .inr ⟨j, wds, hj, List.mem_singleton.mp ho⟩), by rw [kn]; omega⟩, hx.trans e8⟩
      simp [c5, c6, opDiv_pos, opMod_pos, hni, hji, isLst_ref kq, kd, finRaw, rD0, opMul_l, opMul_l (show -18446744073709551616 < w ∧ w < 18446744073709551616 by omega)]
    · have hcap : (ws2.map wD).length < sizeLine := by rw [List.length_map]; exact Nat.lt_of_lt_of_le (by omega) szl
      have hq3 : (T2.set q (.lst ((ws2 ++ [wds]).map wD)))[q]? = some (.lst ((ws2 ++ [wds]).map wD)) := sto_set kq
      have kws3 : ∀ w ∈ ws2 ++ [wds], WOk w := fun x hx => by
        rcases List.mem_append.mp hx with hx | hx
        · exact kws x hx
        · rw [List.mem_singleton.mp hx]; exact wok
      obtain ⟨j, hj, hji⟩ := cIndex_ws2 hq3 wok kws3 (by simp)
      have e9 : ws2.map wD ++ [wD wds] = (ws2 ++ [wds]).map wD := by simp
      have hap : cAppend (.ref q) [.lst (wds.map .str)] T2 = .ok .non (T2.set q (.lst ((ws2 ++ [wds]).map wD))) := by rw [cAppend_ref kq hcap, ← e9]; rfl
      rw [wD] at hji
      refine ⟨.rc wds ks (some (w * (1 + 2 * (j : Int)))), T2.set q (.lst ((ws2 ++ [wds]).map wD)), ?_, .rc hlen wn wok e6 (fun i e => by cases e; exact Int.mul_nonneg (by omega) (by omega)), ⟨b2, ws2 ++ [wds], ⟨a2, k0, by rw [List.getElem?_set_ne (Ne.symm nq)]; exact kS, hq3, kws3, by simp; omega⟩, hpre.trans (List.prefix_append _ _), (fun o ho => by
        rw [occ] at ho
        rcases List.mem_append.mp ho with ho | ho
        · exact (hos o ho).pre (List.prefix_append _ _)
        · exact .inr ⟨j, wds, hj, List.mem_singleton.mp ho⟩), by rw [kn]; omega⟩, (hx.trans e8).trans .set2⟩
      generalize T2.set q (.lst ((ws2 ++ [wds]).map wD)) = T3 at *
      simp [c5, c6, opDiv_pos, opMod_pos, hni, hji, hap, isLst_ref kq, isLst_ref hq3, kd, finRaw, rD0, opMul_l, opMul_l (show -18446744073709551616 < w ∧ w < 18446744073709551616 by omega)]

end K_k03
end
section
namespace K_k03
open PySem L2 PM
theorem next3 {k n q M : Nat} (nq : n ≠ q) {S : Sto} {ws : List (List Str)} {b : Int} (h : KS3 S n q M ws b) : ∃ (v : Int) (T : Sto), 0 ≤ v ∧ run (k + 1) ._law_next [.ref n] S = .ok (.int v) T ∧ KS3 T n q M ws (b - 1) ∧ KNx S T n q := by
  obtain ⟨a, h0, hS, hq, hws, hb⟩ := h
  exact ⟨_, _, by omega, next_ok hS, ⟨_, by omega, sto_set hS, by rw [List.getElem?_set_ne nq]; exact hq, hws, by omega⟩, .set1⟩
theorem vk_rc_mono {a b : Nat} {k : K} (h : VK a k) (g : a ≤ b) : VK b k := h.mono g
theorem fill3_ok {n q : Nat} (nq : n ≠ q) {w : Int} (hw : 0 ≤ w ∧ w < 1000000000) {ls : List Str} (h4 : ls.length = 4) (hn : (ls ++ [Str.ofString "zzzzzzzz"]).Nodup) (hl : ∀ l ∈ ls, IsLab l) {k M : Nat} {S : Sto} {b : Int} {ws : List (List Str)} (hM : M ≤ 900) (hb : b ≤ 30) (hs : KS3 S n q M ws b) {o : OL} (ho : ∀ w, o = some w → WOk w ∧ w.length ≤ 500) :
    ∃ d T, run (k + 10) ._law_fill [.ref n, .lst (ls.map .str), .lst [.int w, .ref q], olD o] S = .ok d T ∧ GFa 3 o d ∧ KNx S T n q ∧ ∃ ws' b', KS3 T n q (M + 1) ws' b' ∧ b' ≤ 30 := by
  have hnl : ls.Nodup := (List.nodup_append.mp hn).1
  rw [run_succ]
  simp only [body, fin, slots, runB, b__law_fill]
  cases o with
  | none =>
    obtain ⟨kk, T, h1, h2, ⟨b', ws', ⟨a', k0, kS, kq, kws, kb⟩, _, _, h3⟩, h5⟩ := kind3_ok nq hw h4 hnl hl 2 (k := k + 9) (l := 3) (by omega) (by omega) (by omega) hs
    have := kn_pos kk
    refine ⟨kd kk, T, ?_, ⟨kk, rfl, h2, by omega⟩, h5, ws', b', ⟨a', k0, kS, kq, kws, by omega⟩, by omega⟩
    simp [olD, isNon, h1, finRaw]
  | some ah =>
    obtain ⟨hah, hal⟩ := ho ah rfl
    have hsz : (ls.map D.str).length + [D.str "zzzzzzzz"].length ≤ sizeLine := by simp; exact Nat.le_trans (by omega) szl
    have hadd : ∀ S, opAdd (.lst (ls.map .str)) (.lst [.str "zzzzzzzz"]) S = .ok (.lst ((ls ++ [Str.ofString "zzzzzzzz"]).map .str)) S := fun S => by rw [opAdd_lst hsz, List.map_append]; rfl
    have hsrt : ∀ S, cSorted [.lst ((ls ++ [Str.ofString "zzzzzzzz"]).map .str)] S = .ok (.lst ((sortStr (ls ++ [Str.ofString "zzzzzzzz"])).map .str)) S := fun S => by simp only [cSorted, rdL, asL, strsOf_id]
    have hlx : ∀ l ∈ ls ++ [Str.ofString "zzzzzzzz"], IsLab l := fun l hx => by
      rcases List.mem_append.mp hx with e | e
      · exact hl l e
      · rw [List.mem_singleton.mp e]; exact isLab_z
    have hlen5 : (ls ++ [Str.ofString "zzzzzzzz"]).length = 5 := by simp [h4]
    generalize (ls ++ [Str.ofString "zzzzzzzz"]) = lx at *
    simp [olD, wD, isNon, hadd, hsrt, wipeD]
    rw [comp_filtm (i := D.str) (p := fun x => !decide (x ∈ ah)) (f := D.str) trivial _ _ fun x _ => ⟨_, rfl, by simp [opNotIn_strs], fun _ => by simp⟩]
    have frA : ascS ((sortStr lx).filter fun x => !decide (x ∈ ah)) = true := asc_filter _ hn
    have frM : ∀ x ∈ (sortStr lx).filter (fun x => !decide (x ∈ ah)), IsLab x ∧ x ∉ ah := fun x hx => by
      have := List.mem_filter.mp hx
      exact ⟨hlx x ((sortStr_perm lx).mem_iff.mp this.1), by simpa using this.2⟩
    have frL : ((sortStr lx).filter fun x => !decide (x ∈ ah)).length ≤ 5 := Nat.le_trans (List.length_filter_le _ _) (by rw [(sortStr_perm lx).length_eq, hlen5]; exact Nat.le_refl _)
    generalize ((sortStr lx).filter fun x => !decide (x ∈ ah)) = fr at *
    simp [wipeD]
    generalize hC : compM _ _ _ _ _ _ _ _ = r
    obtain ⟨acc, T2, e, fl, ks, ws2, b2, e1, e2, e3, e4, e5, e6, e7⟩ := comp_ofI hC (fun i acc S' => ∃ fl ks ws' b', acc = fldD fl (kds ks) ∧ fl.length = ks.length ∧ fl.Sublist (fr.take i) ∧ (∀ k ∈ ks, VK 2 k) ∧ KS3 S' n q M ws' b' ∧ KNx S S' n q ∧ kns ks + 4 * b'.toNat ≤ 4 * b.toNat + ks.length)
      ⟨[], [], ws, b, rfl, rfl, List.nil_sublist _, by simp, hs, .refl, by simp [kns]⟩ (fun i x acc S1 hx hI => by
        obtain ⟨fl, ks, ws1, b1, e1, e2, e3, e4, e5, e6, e7⟩ := hI
        rw [List.getElem?_map] at hx
        obtain ⟨y, hy, ex⟩ := Option.map_eq_some_iff.mp hx
        subst ex
        have ht : fr.take (i + 1) = fr.take i ++ [y] := by rw [List.take_add_one, hy]; rfl
        obtain ⟨v, U, hv, g1, g2, g3⟩ := next3 (k := k + 8) nq e5
        refine ⟨_, S1, decide (v % 2 = 0), U, rfl, by simp [g1, opMod_pos], fun _ => ?_, fun _ => ⟨fl, ks, ws1, b1 - 1, e1, e2, by rw [ht]; exact e3.trans (List.sublist_append_left _ _), e4, g2, e6.trans g3, by omega⟩⟩
        obtain ⟨kk, U2, q1, q2, ⟨b3, ws3, q3, _, _, q5⟩, q6⟩ := kind3_ok nq hw h4 hnl hl 1 (k := k + 9) (l := 2) (by omega) (by omega) (by omega) g2
        refine ⟨.tup [.str y, kd kk], U2, by simp [q1], fl ++ [y], ks ++ [kk], ws3, b3, ?_, by simp [e2], by rw [ht]; exact e3.append (List.Sublist.refl _), ?_, q3, (e6.trans g3).trans q6, by rw [kns_app, List.length_append]; simp only [kns, List.length_cons, List.length_nil]; omega⟩
        · rw [e1, show kds (ks ++ [kk]) = kds ks ++ [kd kk] from by simp [kds_map], fldD_snoc (by rw [kds_len, e2])]
        · intro x hx
          rcases List.mem_append.mp hx with hx | hx
          · exact e4 x hx
          · rw [List.mem_singleton.mp hx]; exact q2)
    subst e e1
    have e3' : fl.Sublist fr := e3.trans (List.take_sublist _ _)
    have flM : ∀ x ∈ fl, IsLab x ∧ x ∉ ah := fun x hx => frM x (e3'.subset hx)
    have flA : ascS fl = true := by rw [ascS_iff]; exact (ascS_iff.mp frA).sublist e3'
    have flL : fl.length ≤ 5 := Nat.le_trans e3'.length_le frL
    have hgf : ∀ r : Option Int, (∀ i, r = some i → 0 ≤ i) → GF (some ah) (.tup [.tup (fldD fl (kds ks)), rD0 r]) := fun r hr => ⟨fl, ks, r, rfl, .rc e2 flA (fun l h => (flM l h).1) (fun k h => (e4 k h).mono (by omega)) hr, by omega, fun l h => (flM l h).2⟩
    obtain ⟨v, U, hv, g1, g2, g3⟩ := next3 (k := k + 8) nq e5
    simp [g1, opMod_pos]
    by_cases c : v % 2 = 0
    · refine ⟨.tup [.tup (fldD fl (kds ks)), .non], U, by simp [c, finRaw], hgf none (fun i e => nomatch e), e6.trans g3, ws2, b2 - 1, ?_, by omega⟩
      obtain ⟨a, x1, x2, x3, x4, x5⟩ := g2
      exact ⟨a, x1, x2, x3, x4, by omega⟩
    have hdash : ¬ IsLab (Str.ofString "-") := fun h => by
      have := h.1 45 (by decide +kernel)
      omega
    have hsz2 : (ah.map D.str).length + [D.str "-"].length ≤ sizeLine := by simp; exact Nat.le_trans (by omega) szl
    have hadd2 : ∀ S, opAdd (.lst (ah.map .str)) (.lst [.str "-"]) S = .ok (.lst ((ah ++ [Str.ofString "-"]).map .str)) S := fun S => by rw [opAdd_lst hsz2, List.map_append]; rfl
    have hsz3 : ((ah ++ [Str.ofString "-"]).map D.str).length + (fl.map D.str).length ≤ sizeLine := by simp; exact Nat.le_trans (by omega) szl
    have hadd3 : ∀ S, opAdd (.lst ((ah ++ [Str.ofString "-"]).map .str)) (.lst (fl.map .str)) S = .ok (.lst ((ah ++ [Str.ofString "-"] ++ fl).map .str)) S := fun S => by rw [opAdd_lst hsz3, ← List.map_append]
    have hwl : ∀ x ∈ (ah ++ [Str.ofString "-"] ++ fl).filter (fun x => decide (x ≠ Str.ofString "-")), IsLab x := fun x hx => by
      obtain ⟨h1, h2⟩ := List.mem_filter.mp hx
      have h2 : x ≠ Str.ofString "-" := by simpa using h2
      rcases List.mem_append.mp h1 with h1 | h1
      · rcases List.mem_append.mp h1 with h1 | h1
        · exact hah x h1
        · exact absurd (List.mem_singleton.mp h1) h2
      · exact (flM x h1).1
    have hsrt2 : ∀ (xs : List Str) S, cSorted [.lst (xs.map .str)] S = .ok (.lst ((sortStr xs).map .str)) S := fun xs S => by simp only [cSorted, rdL, asL, strsOf_id]
    generalize hAX : ah ++ [Str.ofString "-"] ++ fl = ax at *
    generalize hA1 : ah ++ [Str.ofString "-"] = a1 at *
    simp [c, hadd2, wipeD]
    rw [labs_comp e2 trivial (fun p _ => ⟨_, rfl, rfl, by simp⟩)]
    simp only [R.bind_ok, wD, hadd3, R.into_ok]
    simp [wipeD]
    rw [comp_filtm (i := D.str) (p := fun x => decide (x ≠ Str.ofString "-")) (f := D.str) trivial _ _ fun x _ => ⟨_, rfl, by simp, fun _ => by simp⟩]
    have wok : WOk (sortStr (ax.filter fun x => decide (x ≠ Str.ofString "-"))) := sort_wok hwl
    simp only [R.bind_ok, List.nil_append, hsrt2, R.into_ok]
    generalize sortStr (ax.filter fun x => decide (x ≠ Str.ofString "-")) = wds at *
    obtain ⟨a2, k0, kS, kq, kws, kb⟩ := g2
    have hni := opNotIn_ws kq wok kws
    rw [wD] at hni
    have hM1 : 1 ≤ w ∨ w = 0 := by omega
    simp [hni]
    by_cases c6 : wds ∈ ws2
    · obtain ⟨j, hj, hji⟩ := cIndex_ws2 kq wok kws c6
      rw [wD] at hji
      refine ⟨.tup [.tup (fldD fl (kds ks)), rD0 (some (w * (1 + 2 * (j : Int))))], U, ?_, hgf _ (fun i e => by cases e; exact Int.mul_nonneg (by omega) (by omega)), e6.trans g3, ws2, b2 - 1, ⟨a2, k0, kS, kq, kws, by omega⟩, by omega⟩
      simp [c6, hji, isLst_ref kq, finRaw, rD0, opMul_l, opMul_l (show -18446744073709551616 < w ∧ w < 18446744073709551616 by omega)]
    · have hcap : (ws2.map wD).length < sizeLine := by rw [List.length_map]; exact Nat.lt_of_lt_of_le (by omega) szl
      have hq3 : (U.set q (.lst ((ws2 ++ [wds]).map wD)))[q]? = some (.lst ((ws2 ++ [wds]).map wD)) := sto_set kq
      have kws3 : ∀ w ∈ ws2 ++ [wds], WOk w := fun x hx => by
        rcases List.mem_append.mp hx with hx | hx
        · exact kws x hx
        · rw [List.mem_singleton.mp hx]; exact wok
      obtain ⟨j, hj, hji⟩ := cIndex_ws2 hq3 wok kws3 (by simp)
      have e9 : ws2.map wD ++ [wD wds] = (ws2 ++ [wds]).map wD := by simp
      have hap : cAppend (.ref q) [.lst (wds.map .str)] U = .ok .non (U.set q (.lst ((ws2 ++ [wds]).map wD))) := by rw [cAppend_ref kq hcap, ← e9]; rfl
      rw [wD] at hji
      refine ⟨.tup [.tup (fldD fl (kds ks)), rD0 (some (w * (1 + 2 * (j : Int))))], U.set q (.lst ((ws2 ++ [wds]).map wD)), ?_, hgf _ (fun i e => by cases e; exact Int.mul_nonneg (by omega) (by omega)), (e6.trans g3).trans .set2, ws2 ++ [wds], b2 - 1, ⟨a2, k0, by rw [List.getElem?_set_ne (Ne.symm nq)]; exact kS, hq3, kws3, by simp; omega⟩, by omega⟩
      generalize U.set q (.lst ((ws2 ++ [wds]).map wD)) = T3 at *
      simp [c6, hji, hap, isLst_ref kq, isLst_ref hq3, finRaw, rD0, opMul_l, opMul_l (show -18446744073709551616 < w ∧ w < 18446744073709551616 by omega)]

end K_k03
end
section
namespace K_k03
open PySem L2 PM
theorem nl_ok {ds : List D} {S : Sto} (h : ds.length ≤ 100) : newLst ds S = .ok (.lst ds) S := newLst_ok (Nat.le_trans h (Nat.le_trans (by decide) szl))
theorem al_ok {a b : List D} {S : Sto} (h : a.length + b.length ≤ 100) : opAdd (.lst a) (.lst b) S = .ok (.lst (a ++ b)) S := opAdd_lst (Nat.le_trans h (Nat.le_trans (by decide) szl))
theorem atI_all {xs : List D} {P : D → Prop} (h : ∀ x ∈ xs, P x) {i : Int} (h0 : 0 ≤ i) (h1 : i < xs.length) : ∃ r, (∀ S : Sto, at1 (atI xs i) S = .ok r S) ∧ P r := by
  obtain ⟨w, hw, ew⟩ := opIx_map (f := fun d : D => d) (xs := xs) (j := i) h0 h1
  refine ⟨w, fun S => ?_, h w hw⟩
  have := ew S
  rw [opIx_lst, List.map_id'] at this
  exact this
theorem at_gen {xs : List D} {P : D → Prop} {i : Int} {S : Sto} {q : R D} (hL : at1 (atI xs i) S = q) (h : ∀ x ∈ xs, P x) (h0 : 0 ≤ i) (h1 : i < xs.length) : ∃ r, q = .ok r S ∧ P r := by
  obtain ⟨r, a, b⟩ := atI_all h h0 h1
  exact ⟨r, by rw [← hL, a], b⟩
theorem pl_w {w : List Str} (h : WOk w) : pl 1 (.lst (w.map .str)) = true := by
  simp only [pl]
  rw [List.all_map, List.all_eq_true]
  exact fun x hx => (h x hx).ok
/-- what the odd things are -/
def OddP (o : OL) (d : D) : Prop := th 70 d = true ∧ isFillD o d = false ∧ D.cl 0 d = true
theorem restFill_no {w : List Str} {a b : D} (h : kindIn 12 (.tup [.str "record", a, b]) = false) : isFillD (some w) (.tup [a, b]) = false := by
  show (kindIn 12 _ && disD w a) = false
  rw [h, Bool.false_and]
def oddL : List D := [.non, .tup [], .tup [.str "kind"], .tup [.tup [], .int 5, .int 5], .tup [.tup [.str "a", .tup [.str "number"]], .non], .tup [.lst [], .non],
  .tup [.tup [.tup [.str "b", .tup [.str "number"]], .tup [.str "a", .tup [.str "number"]]], .non], .tup [.tup [.tup [.str "A", .tup [.str "number"]]], .non], .tup [.tup [.tup [.str "a", .non]], .non], .tup [.tup [], .bl true], .tup [.tup [], .int (-1)],
  .tup [.str "number", .int 1], .int 7, .str "number"]
theorem oddL_none : ∀ d ∈ oddL ++ [D.tup [.str "blank", .int (-1)]], OddP none d := by
  have h : ((oddL ++ [D.tup [.str "blank", .int (-1)]]).all fun d => th 70 d && !isFillD none d && D.cl 0 d) = true := by decide +kernel
  intro d hd
  have := List.all_eq_true.mp h d hd
  simp only [Bool.and_eq_true, Bool.not_eq_true'] at this
  exact ⟨this.1.1, this.1.2, this.2⟩
def noRest : D → Bool
  | .tup [a, b] => !kindIn 12 (.tup [.str "record", a, b])
  | _ => true
theorem noRest_no {w : List Str} {d : D} (h : noRest d = true) : isFillD (some w) d = false := by
  match d, h with
  | .tup [a, b], h => exact restFill_no (by simpa [noRest] using h)
  | .tup [], _ => rfl
  | .tup [a], _ => rfl
  | .tup (a :: b :: c :: r), _ => rfl
  | .non, _ => rfl
  | .bl _, _ => rfl
  | .int _, _ => rfl
  | .str _, _ => rfl
  | .lst _, _ => rfl
  | .scr _, _ => rfl
  | .dct _ _, _ => rfl
  | .ref _, _ => rfl
  | .exn _, _ => rfl
theorem asc_ba : ascS [Str.ofString "b", Str.ofString "a"] = false := by
  rw [Bool.eq_false_iff]
  intro h
  have := ascS_iff.mp h
  rw [List.pairwise_cons] at this
  have := this.1 (Str.ofString "a") (by simp)
  unfold ltS at this
  exact absurd this (by decide +kernel)
theorem noRest_ba : noRest (.tup [.tup [.tup [.str "b", .tup [.str "number"]], .tup [.str "a", .tup [.str "number"]]], .non]) = true := by
  have b2 : ¬ Str.ofString "record" = Str.ofString "number" := by decide +kernel
  have b3 : ¬ Str.ofString "record" = Str.ofString "blank" := by decide +kernel
  show (!kindIn 12 _) = true
  rw [kindIn, if_neg b2, if_neg b3, recIn, rowIn]
  show (!(_ && (_ && (_ && (ascS [Str.ofString "b", Str.ofString "a"] && _))))) = true
  rw [asc_ba, Bool.false_and, Bool.and_false, Bool.and_false, Bool.and_false]
  rfl
theorem oddL_some {w : List Str} : ∀ d ∈ oddL ++ [D.tup [.str "blank", .int (-1)]], OddP (some w) d := by
  have h : ((oddL ++ [D.tup [.str "blank", .int (-1)]]).all fun d => th 70 d && D.cl 0 d) = true := by decide +kernel
  have h2 : ∀ d ∈ oddL ++ [D.tup [.str "blank", .int (-1)]], noRest d = true := by
    intro d hd
    simp only [oddL, List.cons_append, List.nil_append, List.mem_cons, List.not_mem_nil, or_false] at hd
    rcases hd with e | e | e | e | e | e | e | e | e | e | e | e | e | e | e
    all_goals first
      | (subst e; exact noRest_ba)
      | (subst e; decide +kernel)
  intro d hd
  have := List.all_eq_true.mp h d hd
  simp only [Bool.and_eq_true] at this
  exact ⟨this.1, noRest_no (h2 d hd), this.2⟩
theorem odd_lab {w : List Str} {l : Str} (hl : IsLab l) : OddP (some (l :: w)) (.tup [.tup [.tup [.str l, .tup [.str "number"]]], .non]) := by
  refine ⟨?_, ?_, rfl⟩
  · refine th_mono (n := 60) _ (by omega) (th_tup (n := 59) (by simp) ?_)
    simp [th_non]
    refine th_tup (n := 58) (by simp) ?_
    simp
    refine th_tup (n := 57) (by simp) ?_
    simp [th_lab hl]
    exact th_tup (n := 56) (by simp) (by simp [th_str]; decide +kernel)
  · show (kindIn 12 _ && disD (l :: w) _) = false
    have : disD (l :: w) (.tup [.tup [.str l, .tup [.str "number"]]]) = false := by simp [disD, labD]
    rw [this, Bool.and_false]
theorem oddR {S : Sto} {r : List D} {n : Int} (h : ∀ d ∈ r, D.cl 0 d = true) (hlen : r.length ≤ 50) {P : D → Prop} (hP : ∀ d ∈ r ++ [.tup [.str "blank", .int (-1)]], P d) {δ : PM.Loc} {x0 x1 x2 : Option D} (hδ : δ = [some (.int n), x1, x2, some (.ref S.length)]) :
    ∃ d, (sRet (mB opIx (mB opAdd (mV 3) (mApp newLst (mCons (mApp newTup (mCons (mC (.str "blank")) (mCons (mU opNeg (mC (.int 1))) mNil))) mNil))) (mB opMod (mV 0) (mB opAdd (mApp cLen (mCons (mV 3) mNil)) (mC (.int 1)))))) δ (S ++ [.lst r]) = .rt d (S ++ [.lst r]) ∧ P d := by
  subst hδ
  have hS : (S ++ [MO.lst r])[S.length]? = some (.lst r) := sto_snoc
  have hz : r.length + [D.tup [.str "blank", .int (-1)]].length ≤ sizeLine := by simp; exact Nat.le_trans (by omega) szl
  obtain ⟨d, h1, h2⟩ := atI_all hP (i := n % ((r.length : Int) + 1)) (Int.emod_nonneg _ (by omega)) (by have := Int.emod_lt_of_pos n (show (0 : Int) < (r.length : Int) + 1 by omega); simp; omega)
  refine ⟨d, ?_, h2⟩
  simp [nl_ok, opAdd_refl hS hz, lenOf, hS, opMod_pos (show (0 : Int) < (r.length : Int) + 1 by omega), h1]
theorem odd_ok {k : Nat} {S : Sto} {n : Int} {o : OL} (ho : ∀ w, o = some w → WOk w) : ∃ r, run (k + 1) ._law_odd [.int n, olD o] S = .ok r S ∧ OddP o r := by
  rw [run_succ]
  simp only [body, fin, slots, runB, b__law_odd]
  have hadd : ∀ a b : List D, a.length + b.length ≤ 100 → opAddR (.lst a) (.lst b) S = .ok (.ref S.length) (S ++ [.lst (a ++ b)]) := fun a b h => by
    simp only [opAddR, asL, newRef, List.length_append]
    rw [if_pos (Nat.le_trans h (Nat.le_trans (by decide) szl))]
  have hS : ∀ r, (S ++ [MO.lst r])[S.length]? = some (.lst r) := fun r => sto_snoc
  cases o with
  | none =>
    obtain ⟨d, h1, h2⟩ := oddR (S := S) (r := oddL) (n := n) (x0 := none) (P := OddP none) (by decide +kernel) (by decide +kernel) oddL_none (x1 := some .non) (x2 := some (.tup [.str "number"])) rfl
    refine ⟨d, ?_, h2⟩
    rw [oddL] at h1
    simp only [sRet_eq] at h1
    simp [olD, nl_ok, al_ok, hadd, isNon] at h1 ⊢
    rw [h1]
    simp [finFrz_app (cl_mono (Nat.zero_le _) _ h2.2.2)]
  | some ah =>
    have hne := opNe_of (eqD_lst_nil (S := S ++ [.lst oddL]) (pl_w (ho ah rfl)) (by decide))
    cases ah with
    | nil =>
      obtain ⟨d, h1, h2⟩ := oddR (S := S) (r := oddL) (n := n) (x0 := none) (P := OddP (some [])) (by decide +kernel) (by decide +kernel) oddL_some (x1 := some (wD [])) (x2 := some (.tup [.str "number"])) rfl
      refine ⟨d, ?_, h2⟩
      rw [oddL] at h1 hne
      simp only [sRet_eq] at h1
      simp [olD, wD, nl_ok, al_ok, hadd, isNon, hne] at h1 hne ⊢
      simp [hne]
      rw [h1]
      simp [finFrz_app (cl_mono (Nat.zero_le _) _ h2.2.2)]
    | cons l ah =>
      have hl : IsLab l := ho _ rfl l (by simp)
      have hP : ∀ d ∈ (oddL ++ [.tup [.tup [.tup [.str l, .tup [.str "number"]]], .non]]) ++ [.tup [.str "blank", .int (-1)]], OddP (some (l :: ah)) d := fun d hd => by
        rcases List.mem_append.mp hd with hd | hd
        · rcases List.mem_append.mp hd with hd | hd
          · exact oddL_some d (List.mem_append_left _ hd)
          · rw [List.mem_singleton.mp hd]; exact odd_lab hl
        · exact oddL_some d (List.mem_append_right _ hd)
      obtain ⟨d, h1, h2⟩ := oddR (S := S) (r := oddL ++ [.tup [.tup [.tup [.str l, .tup [.str "number"]]], .non]]) (n := n) (x0 := none) (P := OddP (some (l :: ah))) (fun d hd => (hP d (List.mem_append_left _ hd)).2.2) (by simp [oddL]) hP (x1 := some (wD (l :: ah))) (x2 := some (.tup [.str "number"])) rfl
      refine ⟨d, ?_, h2⟩
      have hap : cAppend (.ref S.length) [.tup [.tup [.tup [.str l, .tup [.str "number"]]], .non]] (S ++ [.lst oddL]) = .ok .non (S ++ [.lst (oddL ++ [.tup [.tup [.tup [.str l, .tup [.str "number"]]], .non]])]) := by
        rw [cAppend_ref (hS oddL) (Nat.lt_of_lt_of_le (show oddL.length < 1000 by decide +kernel) (Nat.le_trans (by decide) szl)), sto_snoc_set]
      have hck := isLst_ref (hS oddL)
      simp only [sRet_eq] at h1
      have hfin := finFrz_app (k := 0) (S := S) (T := [.lst (oddL ++ [.tup [.tup [.tup [.str l, .tup [.str "number"]]], .non]])]) (cl_mono (Nat.zero_le _) _ h2.2.2)
      generalize hT : S ++ [MO.lst (oddL ++ [.tup [.tup [.tup [.str l, .tup [.str "number"]]], .non]])] = T at *
      rw [oddL] at hne hap hck
      simp [olD, wD, nl_ok, al_ok, hadd, isNon] at h1 hne hap hck ⊢
      simp [hne, hap, hck]
      rw [h1]
      simp [hfin]

end K_k03
end
section
namespace K_k03
open PySem L2 PM
structure Hy (ls : List Str) (w : Int) (kk : K) (m0 : Mp) : Prop where
  h4 : ls.length = 4
  hn : (ls ++ [Str.ofString "zzzzzzzz"]).Nodup
  hl : ∀ l ∈ ls, IsLab l
  hw : 1 ≤ w ∧ w ≤ 1000000
  vk : VK 6 kk
  kn : kn kk ≤ 200
  con : Con (occ kk)
  mem : ∀ o, o ∈ m0 ↔ o ∈ occ kk
  conm : Con m0
  ok : MpOk m0
  nd : (m0.map (·.1)).Nodup
  len : m0.length ≤ 200
  wl : ∀ o ∈ m0, ∀ v, o.2 = some v → v.length ≤ 500
  key : ∀ o ∈ m0, o.1 ≠ w * 100 + 1 ∧ 0 ≤ o.1
abbrev Ly (ls : List Str) (sd sz wy w : Int) (kk : K) (n : Nat) (x4 x10 x11 x12 x13 x14 : Option D) : PM.Loc :=
  [some (.lst (ls.map .str)), some (.int sd), some (.int sz), some (.int wy), x4, some (.ref n), some (.lst [.int w, .ref (n + 1)]), some (kd kk), some (.ref (n + 2)), some (.ref (n + 3)), x10, x11, x12, x13, x14, none, none, none]
/-- the fills of blanks are good, kinds up to a deep -/
def FI (a : Nat) (m0 : Mp) (fks : List Key) (fds : List D) : Prop := ∀ o ∈ m0, ∀ d, getK fks fds (.inl o.1 : Key) = some d → GFa a o.2 d
theorem FI.ins {a : Nat} {m0 : Mp} {fks : List Key} {fds : List D} (h : FI a m0 fks fds) (hc : Con m0) (hl : fks.length = fds.length) {o : Int × OL} (ho : o ∈ m0) {d : D} (hd : GFa a o.2 d) : FI a m0 (insK fks (.inl o.1)) (insD fks fds (.inl o.1) d) := by
  intro u hu e he
  rw [getK_ins hl] at he
  by_cases c : o.1 = u.1
  · rw [if_pos (by rw [c])] at he
    cases he
    rw [← hc o ho u hu c]; exact hd
  · rw [if_neg (fun q => c (Sum.inl.inj q))] at he
    exact h u hu e he
noncomputable abbrev P7 (C : Cs) : Sm := (sIf (mOr (mT (mB opGt (mB opMod (mB opDiv (mV 3) (mC (.int 3))) (mC (.int 3))) (mC (.int 0)))) (mT (mB opEq (mB opMod (mApp (C ._law_next) (mCons (mV 5) mNil)) (mC (.int 2))) (mC (.int 0))))) (sAsg (mApp (C ._law_fill) (mCons (mV 5) (mCons (mV 0) (mCons (mV 6) (mCons (mB opIx (mV 8) (mV 4)) mNil))))) (gmSub (mV 9) (mV 4) opSet)) sPass)
theorem piece7 {j : Nat} {ls : List Str} {w sd sz wy : Int} {kk : K} {m0 : Mp} (H : Hy ls w kk m0) {S0 S : Sto} {x4 : Option D} (hR : Rm S0 S (mpO m0) 55 [] []) :
    ∃ δ' S', lockS 8 (sFor (sKeys (mV 8)) (gmName 4) (P7 (run (j + 11)))) (Ly ls sd sz wy w kk S0.length x4 none none none none none) S = .nx δ' S' ∧
      ∃ x4' fks fds, δ' = Ly ls sd sz wy w kk S0.length x4' none none none none none ∧ Rm S0 S' (mpO m0) 300 fks fds ∧ FI 3 m0 fks fds ∧ fks.length ≤ 200 := by
  have hR1 : Rm S0 (S.set (S0.length + 2) (mpL m0)) (mpL m0) 55 [] [] := hR.setp
  generalize hL : (sFor (sKeys (mV 8)) (gmName 4) (P7 (run (j + 11)))) (Ly ls sd sz wy w kk S0.length x4 none none none none none) (S.set (S0.length + 2) (mpL m0)) = r
  have hL0 := hL
  rw [sFor_eq, keys_mp (q := S0.length + 2) (mp := m0) (by simp [Ly]) hR1.p] at hL
  simp only [R.into_ok] at hL
  obtain ⟨δ', S', e, x4', fks, fds, h1, h2, h3, h4⟩ := loop_ofG hL (fun i δ S' => ∃ x4' fks fds, δ = Ly ls sd sz wy w kk S0.length x4' none none none none none ∧ Rm S0 S' (mpL m0) (55 + i) fks fds ∧ FI 3 m0 fks fds ∧ fks.length ≤ i)
    (fun i δ S ⟨x4', fks, fds, _, h, _⟩ => h.p) ⟨x4, [], [], rfl, hR1, fun o ho d e => (by simp [getK] at e), Nat.le_refl _⟩ fun i x δ S1 hx ⟨y4, fks, fds, h1, h2, h3, h4⟩ => by
      subst h1
      rw [List.getElem?_map] at hx
      obtain ⟨o, ho, ex⟩ := Option.map_eq_some_iff.mp hx
      subst ex
      have hi : i < m0.length := (List.getElem?_eq_some_iff.mp ho).1
      have hlen := H.len
      have hom := List.mem_of_getElem? ho
      have hcond : ∃ c S2, (mOr (mT (mB opGt (mB opMod (mB opDiv (mV 3) (mC (.int 3))) (mC (.int 3))) (mC (.int 0)))) (mT (mB opEq (mB opMod (mApp (run (j + 11) ._law_next) (mCons (mV 5) mNil)) (mC (.int 2))) (mC (.int 0))))) (Ly ls sd sz wy w kk S0.length (some (.int o.1)) none none none none none) S1 = .ok c S2 ∧ Rm S0 S2 (mpL m0) (55 + i) fks fds := by
        by_cases c : 0 < wy / 3 % 3
        · exact ⟨true, S1, by simp [opDiv_pos, opMod_pos, c], h2⟩
        · obtain ⟨ws, b, hks, hb⟩ := h2.ks
          obtain ⟨v, U, hv, g1, g2, g3⟩ := next3 (k := j + 10) (by omega) hks
          exact ⟨decide (v % 2 = 0), U, by simp [opDiv_pos, opMod_pos, c, g1], h2.knx g3 g2 (by omega)⟩
      obtain ⟨c, S2, hc, h2'⟩ := hcond
      cases c with
      | false =>
        refine ⟨Ly ls sd sz wy w kk S0.length (some (.int o.1)) none none none none none, S2, .inl ?_, some (.int o.1), fks, fds, rfl, ?_, h3, by omega⟩
        · rw [loopB_eq, show gmName 4 (D.int o.1) (Ly ls sd sz wy w kk S0.length y4 none none none none none) S1 = .ok (Ly ls sd sz wy w kk S0.length (some (.int o.1)) none none none none none) S1 from by simp [Ly]]
          rw [R.into_ok]
          unfold P7
          rw [sIf_eq, hc]
          simp
        · obtain ⟨ws, b, ⟨a, k1, k2, k3, k4, k5⟩, hb⟩ := h2'.ks
          exact ⟨h2'.len, h2'.old, ⟨ws, b, ⟨a, k1, k2, k3, k4, by omega⟩, hb⟩, h2'.p, h2'.f, h2'.fl⟩
      | true =>
        obtain ⟨ws, b, hks, hb⟩ := h2'.ks
        have hix := opIx_mpL (n := o.1) h2'.p (look_con H.conm o hom)
        obtain ⟨d, T, f1, f2, f3, ws', b', f4, f5⟩ := fill3_ok (k := j + 1) (n := S0.length) (q := S0.length + 1) (w := w) (by omega) (by have := H.hw; omega) H.h4 H.hn H.hl (M := 55 + i) (by omega) hb hks (o := o.2) (fun v e => ⟨H.ok o hom v e, H.wl o hom v e⟩)
        have hT := h2'.knx f3 f4 f5
        obtain ⟨hset, hT2⟩ := hT.ins (i := o.1) (d := d) (by omega)
        refine ⟨Ly ls sd sz wy w kk S0.length (some (.int o.1)) none none none none none, _, .inl ?_, some (.int o.1), _, _, rfl, hT2, h3.ins H.conm h2.fl hom f2, ?_⟩
        · rw [loopB_eq, show gmName 4 (D.int o.1) (Ly ls sd sz wy w kk S0.length y4 none none none none none) S1 = .ok (Ly ls sd sz wy w kk S0.length (some (.int o.1)) none none none none none) S1 from by simp [Ly]]
          rw [R.into_ok]
          unfold P7
          rw [sIf_eq, hc]
          simp only [R.into_ok, if_true]
          simp [hix, f1, hset]
        · have := insK_len fks (.inl o.1 : Key); omega
  subst e
  have hlen := H.len
  rw [List.length_map] at h2 h4
  refine ⟨δ', S'.set (S0.length + 2) (mpO m0), lock_nx (by simp [Ly]) hR.p hL0 h2.p, x4', fks, fds, h1, ?_, h3, by omega⟩
  have h5 : Rm S0 (S'.set (S0.length + 2) (mpO m0)) (mpO m0) (55 + m0.length) fks fds := h2.setp
  obtain ⟨ws, b, ⟨a, k1, k2, k3, k4, k5⟩, hb⟩ := h5.ks
  exact ⟨h5.len, h5.old, ⟨ws, b, ⟨a, k1, k2, k3, k4, by omega⟩, hb⟩, h5.p, h5.f, h5.fl⟩

end K_k03
end
section
namespace K_k03
open PySem L2 PM
theorem FI.skip {a : Nat} {m0 : Mp} {fks : List Key} {fds : List D} (h : FI a m0 fks fds) (hl : fks.length = fds.length) {i : Int} (hi : ∀ o ∈ m0, o.1 ≠ i) {d : D} : FI a m0 (insK fks (.inl i)) (insD fks fds (.inl i) d) := by
  intro u hu e he
  rw [getK_ins hl, if_neg (fun q => hi u hu (Sum.inl.inj q).symm)] at he
  exact h u hu e he
theorem piece8 {ls : List Str} {w sd sz wy : Int} {kk : K} {m0 : Mp} (H : Hy ls w kk m0) {S0 S : Sto} {x4 x10 x11 x12 x13 x14 : Option D} {M : Nat} {fks : List Key} {fds : List D} (hR : Rm S0 S (mpO m0) M fks fds) (hF : FI 3 m0 fks fds) (hz : fks.length ≤ 200) :
    ∃ δ' S', sAsg (mApp newTup (mCons (mC (.str "no")) (mCons (mC (.str "kind")) mNil))) (gmSub (mV 9) (mB opAdd (mB opMul (mB opIx (mV 6) (mC (.int 0))) (mC (.int 100))) (mC (.int 1))) opSet) (Ly ls sd sz wy w kk S0.length x4 x10 x11 x12 x13 x14) S = .nx δ' S' ∧
      ∃ fks fds, δ' = Ly ls sd sz wy w kk S0.length x4 x10 x11 x12 x13 x14 ∧ Rm S0 S' (mpO m0) M fks fds ∧ FI 3 m0 fks fds ∧ fks.length ≤ 201 := by
  have hw := H.hw
  obtain ⟨hset, hR2⟩ := hR.ins (i := w * 100 + 1) (d := .tup [.str "no", .str "kind"]) (by omega)
  refine ⟨_, _, ?_, _, _, rfl, hR2, hF.skip hR.fl (fun o ho => (H.key o ho).1), by have := insK_len fks (.inl (w * 100 + 1) : Key); omega⟩
  simp [opMul_l (show -18446744073709551616 < w ∧ w < 18446744073709551616 by omega), hset]
/-- how the fills stand at last -/
def GB (b : Bool) (m0 : Mp) (fks : List Key) (fds : List D) : Prop := (∀ o ∈ m0, ∀ d, getK fks fds (.inl o.1 : Key) = some d → th 70 d = true) ∧ (b = true → ∃ o ∈ m0, ∃ d, getK fks fds (.inl o.1 : Key) = some d ∧ isFillD o.2 d = false) ∧ (b = false → ∀ o ∈ m0, ∀ d, getK fks fds (.inl o.1 : Key) = some d → GFa 20 o.2 d ∧ isFillD o.2 d = true)
theorem FI.gb {a : Nat} {m0 : Mp} {fks : List Key} {fds : List D} (h : FI a m0 fks fds) (ha : a ≤ 12) : GB false m0 fks fds :=
  ⟨fun o ho d hd => gf_th ((h o ho d hd).gf (by omega)), (fun e => nomatch e), fun _ o ho d hd => ⟨(h o ho d hd).mono (by omega), (h o ho d hd).isf ha⟩⟩
theorem listK_mp {S : Sto} {p : Nat} {m0 : Mp} (h : S[p]? = some (mpO m0)) : cListK [.ref p] S = .ok (.lst (m0.map fun o => .int o.1)) S := by
  have h' : S[p]? = some (.dK (m0.map fun p => .inl p.1) (m0.map fun p => olD p.2)) := h
  have e : (m0.map fun p => (Sum.inl p.1 : Key)).all keyFit = true := by rw [List.all_map, List.all_eq_true]; exact fun _ _ => rfl
  simp only [cListK, h', e, if_true, List.map_map]
  rfl
theorem ints_ne {S : Sto} {α : Type} (f : α → Int) (xs : List α) : opNe (.lst (xs.map fun o => .int (f o))) (.lst []) S = .ok (.bl (!decide (xs = []))) S := by
  have : pl 1 (.lst (xs.map fun o => .int (f o))) = true := by simp only [pl]; rw [List.all_map, List.all_eq_true]; exact fun _ _ => rfl
  rw [opNe_of (eqD_lst_nil this (by decide))]
  cases xs <;> simp
theorem piece9 {ls : List Str} {w sd sz wy : Int} {kk : K} {m0 : Mp} {S0 S : Sto} {x4 x10 x11 x12 x13 x14 : Option D} {M : Nat} {fks : List Key} {fds : List D} (hR : Rm S0 S (mpO m0) M fks fds) :
    sAsg (mAndV (mB opEq (mB opMod (mV 3) (mC (.int 3))) (mC (.int 1))) (mB opNe (mApp cListK (mCons (mV 8) mNil)) (mApp newLst mNil))) (gmName 10) (Ly ls sd sz wy w kk S0.length x4 x10 x11 x12 x13 x14) S = .nx (Ly ls sd sz wy w kk S0.length x4 (some (.bl (decide (wy % 3 = 1) && !decide (m0 = [])))) x11 x12 x13 x14) S := by
  have h1 := listK_mp hR.p
  have h2 := ints_ne (S := S) (fun o : Int × OL => o.1) m0
  by_cases c : wy % 3 = 1
  · simp [opMod_pos, c, h1, h2]
  · simp [opMod_pos, c]
theorem piece10 {j : Nat} {ls : List Str} {w sd sz wy : Int} {kk : K} {m0 : Mp} (H : Hy ls w kk m0) {S0 S : Sto} {x4 x11 x12 x13 x14 : Option D} {M : Nat} {fks : List Key} {fds : List D} (hR : Rm S0 S (mpO m0) M fks fds) (hF : FI 3 m0 fks fds) (hz : fks.length ≤ 201) :
    ∃ δ' S', sIf (mT (mV 10)) (sSeq (sAsg (mB opIx (mApp cListK (mCons (mV 8) mNil)) (mB opMod (mB opDiv (mV 3) (mC (.int 9))) (mApp cLen (mCons (mV 8) mNil)))) (gmName 4)) (sAsg (mApp (run (j + 1) ._law_odd) (mCons (mB opDiv (mV 3) (mC (.int 27))) (mCons (mB opIx (mV 8) (mV 4)) mNil))) (gmSub (mV 9) (mV 4) opSet))) sPass (Ly ls sd sz wy w kk S0.length x4 (some (.bl (decide (wy % 3 = 1) && !decide (m0 = [])))) x11 x12 x13 x14) S = .nx δ' S' ∧
      ∃ b x4 fks fds, δ' = Ly ls sd sz wy w kk S0.length x4 (some (.bl b)) x11 x12 x13 x14 ∧ Rm S0 S' (mpO m0) M fks fds ∧ fks.length ≤ 202 ∧ ((b = true ∧ wy % 3 = 1 ∧ GB true m0 fks fds) ∨ (b = false ∧ FI 3 m0 fks fds)) := by
  by_cases c : wy % 3 = 1 ∧ ¬ m0 = []
  · obtain ⟨c1, c2⟩ := c
    have hpos : (0 : Int) < (m0.length : Nat) := by
      have : m0.length ≠ 0 := fun e => c2 (List.length_eq_zero_iff.mp e)
      omega
    obtain ⟨o, ho, hix⟩ := opIx_map (f := fun o : Int × OL => D.int o.1) (xs := m0) (j := wy / 9 % (m0.length : Nat)) (Int.emod_nonneg _ (by omega)) (Int.emod_lt_of_pos _ hpos)
    have h1 := listK_mp hR.p
    have hlen : cLen [.ref (S0.length + 2)] S = .ok (.int (m0.length : Nat)) S := by
      have h' : S[S0.length + 2]? = some (.dK (m0.map fun p => .inl p.1) (m0.map fun p => olD p.2)) := hR.p
      simp [lenOf, h']
    have hbl := opIx_mp (n := o.1) hR.p (look_con H.conm o ho)
    obtain ⟨d, hod, hp⟩ := odd_ok (k := j) (S := S) (n := wy / 27) (o := o.2) (fun v e => H.ok o ho v e)
    obtain ⟨hset, hR2⟩ := hR.ins (i := o.1) (d := d) (by omega)
    refine ⟨_, _, ?_, true, some (.int o.1), _, _, rfl, hR2, by have := insK_len fks (.inl o.1 : Key); omega, .inl ⟨rfl, c1, fun u hu e he => ?_, fun _ => ⟨o, ho, d, ?_, hp.2.1⟩, (fun e => nomatch e)⟩⟩
    · have e10 : (decide (wy % 3 = 1) && !decide (m0 = [])) = true := by simp [c1, c2]
      rw [e10]
      simp only [sIf_eq, mT_eq, mV_eq]
      simp only [List.getElem?_cons_succ, List.getElem?_cons_zero, R.bind_ok, R.into_ok, if_true, sSeq_eq, sAsg_eq]
      simp [h1, opDiv_pos, opMod_pos hpos, lenOf] at hlen ⊢
      simp [hlen, opMod_pos hpos]
      have hix' := hix S
      simp at hix'
      simp [hix', hbl, opDiv_pos, hod, hset]
    · rw [getK_ins hR.fl] at he
      by_cases q : o.1 = u.1
      · rw [if_pos (by rw [q])] at he
        cases he
        exact hp.1
      · rw [if_neg (fun x => q (Sum.inl.inj x))] at he
        exact gf_th ((hF u hu e he).gf (by omega))
    · rw [getK_ins hR.fl, if_pos rfl]
  · have e10 : (decide (wy % 3 = 1) && !decide (m0 = [])) = false := by
      by_cases c1 : wy % 3 = 1
      · by_cases c2 : m0 = []
        · simp [c2]
        · exact absurd ⟨c1, c2⟩ c
      · simp [c1]
    rw [e10]
    exact ⟨_, S, by simp only [sIf_eq, mT_eq, mV_eq, List.getElem?_cons_succ, List.getElem?_cons_zero, R.bind_ok, R.into_ok, Bool.false_eq_true, if_false, sPass_eq], false, x4, fks, fds, rfl, hR, by omega, .inr ⟨rfl, hF⟩⟩

end K_k03
end
section
namespace K_k03
open PySem L2 PM
noncomputable abbrev PW : Sm := (sIf (mT (mB opIsN (mB opIx (mV 8) (mV 4)) (mC .non))) (sAsg (mApp newTup (mCons (mC (.str "record")) (mCons (mApp newTup (mCons (mApp newTup (mCons (mC (.str "a")) (mCons (mD3 kGet (mV 9) (mV 4) (mApp newTup (mCons (mC (.str "number")) mNil))) mNil))) mNil)) (mCons (mC .non) mNil)))) (gmSub (mV 9) (mV 4) opSet)) sPass)
theorem wrap_in {a : Nat} (ha : 1 ≤ a) {ls : List Str} {w sd sz wy : Int} {kk : K} {m0 : Mp} (H : Hy ls w kk m0) {S0 S : Sto} {x4 x10 x11 x12 x13 x14 : Option D} {M : Nat} {fks : List Key} {fds : List D} (hR : Rm S0 S (mpO m0) M fks fds) (hF : FI a m0 fks fds) (hz : fks.length + m0.length < 100000) :
    ∃ δ' S', lockS 8 (sFor (sKeys (mV 8)) (gmName 4) PW) (Ly ls sd sz wy w kk S0.length x4 x10 x11 x12 x13 x14) S = .nx δ' S' ∧
      ∃ x4' fks' fds', δ' = Ly ls sd sz wy w kk S0.length x4' x10 x11 x12 x13 x14 ∧ Rm S0 S' (mpO m0) M fks' fds' ∧ FI (a + 1) m0 fks' fds' ∧ (∀ o ∈ m0, o.2 = none → (getK fks' fds' (.inl o.1 : Key)).isSome = true) ∧ fks'.length ≤ fks.length + m0.length := by
  have hR1 : Rm S0 (S.set (S0.length + 2) (mpL m0)) (mpL m0) M fks fds := hR.setp
  generalize hL : (sFor (sKeys (mV 8)) (gmName 4) PW) (Ly ls sd sz wy w kk S0.length x4 x10 x11 x12 x13 x14) (S.set (S0.length + 2) (mpL m0)) = r
  have hL0 := hL
  rw [sFor_eq, keys_mp (q := S0.length + 2) (mp := m0) (by simp [Ly]) hR1.p] at hL
  simp only [R.into_ok] at hL
  obtain ⟨δ', S', e, x4', fks', fds', h1, h2, h3, h3', h4⟩ := loop_ofG hL (fun i δ S' => ∃ x4' fks' fds', δ = Ly ls sd sz wy w kk S0.length x4' x10 x11 x12 x13 x14 ∧ Rm S0 S' (mpL m0) M fks' fds' ∧
      (∀ (t : Nat) o, m0[t]? = some o → ∀ d, getK fks' fds' (.inl o.1 : Key) = some d → GFa (if t < i then a + 1 else a) o.2 d) ∧ (∀ (t : Nat) o, m0[t]? = some o → t < i → o.2 = none → (getK fks' fds' (.inl o.1 : Key)).isSome = true) ∧ fks'.length ≤ fks.length + i)
    (fun i δ S ⟨x4', fks, fds, _, h, _⟩ => h.p) ⟨x4, fks, fds, rfl, hR1, fun t o ho d e => hF o (List.mem_of_getElem? ho) d e, fun t o _ h => by omega, Nat.le_refl _⟩ fun i x δ S1 hx ⟨y4, fks, fds, h1, h2, h3, h3', h4⟩ => by
      subst h1
      rw [List.getElem?_map] at hx
      obtain ⟨o, ho, ex⟩ := Option.map_eq_some_iff.mp hx
      subst ex
      have hi : i < m0.length := (List.getElem?_eq_some_iff.mp ho).1
      have hom := List.mem_of_getElem? ho
      have hix := opIx_mpL (n := o.1) h2.p (look_con H.conm o hom)
      have hg4 : gmName 4 (D.int o.1) (Ly ls sd sz wy w kk S0.length y4 x10 x11 x12 x13 x14) S1 = .ok (Ly ls sd sz wy w kk S0.length (some (.int o.1)) x10 x11 x12 x13 x14) S1 := by simp [Ly]
      cases hc : o.2 with
      | some v =>
        refine ⟨Ly ls sd sz wy w kk S0.length (some (.int o.1)) x10 x11 x12 x13 x14, S1, .inl ?_, some (.int o.1), fks, fds, rfl, h2, fun t u hu d hd => ?_, fun t u hu ht hn => ?_, by omega⟩
        · rw [hc] at hix
          rw [loopB_eq, hg4, R.into_ok]
          unfold PW
          simp [hix, olD, wD, isNon]
        · have := h3 t u hu d hd
          by_cases q : t < i
          · rw [if_pos (by omega)]; rw [if_pos q] at this; exact this
          · rw [if_neg q] at this
            split
            · exact this.mono (by omega)
            · exact this
        · rcases Nat.lt_or_ge t i with q | q
          · exact h3' t u hu q hn
          · have : t = i := by omega
            subst this
            rw [ho] at hu; cases hu
            rw [hc] at hn; cases hn
      | none =>
        have hval : ∃ k, (getK fks fds (.inl o.1 : Key)).getD (.tup [.str "number"]) = kd k ∧ VK a k ∧ kn k ≤ 200 + a := by
          cases hg : getK fks fds (.inl o.1 : Key) with
          | none =>
            obtain ⟨a', rfl⟩ : ∃ a', a = a' + 1 := ⟨a - 1, by omega⟩
            exact ⟨.num, rfl, .num, by rw [kn]; omega⟩
          | some d =>
            have := h3 i o ho d hg
            rw [if_neg (by omega), hc] at this
            exact this
        obtain ⟨k, ek, hv, hk⟩ := hval
        obtain ⟨hset, hR2⟩ := h2.ins (i := o.1) (d := kd (wrapK k)) (by omega)
        have hnew : GFa (a + 1) o.2 (kd (wrapK k)) := by rw [hc]; exact ⟨wrapK k, rfl, wrap_vk hv, by rw [wrap_kn]; omega⟩
        have hkey : ∀ (t : Nat) u, m0[t]? = some u → o.1 = u.1 → t = i := fun t u hu e => by
          have g1 : (m0.map (·.1))[t]? = some o.1 := by rw [List.getElem?_map, hu, e]; rfl
          have g2 : (m0.map (·.1))[i]? = some o.1 := by rw [List.getElem?_map, ho]; rfl
          obtain ⟨l1, e1⟩ := List.getElem?_eq_some_iff.mp g1
          obtain ⟨l2, e2⟩ := List.getElem?_eq_some_iff.mp g2
          exact (List.getElem_inj H.nd).mp (e1.trans e2.symm)
        refine ⟨Ly ls sd sz wy w kk S0.length (some (.int o.1)) x10 x11 x12 x13 x14, _, .inl ?_, some (.int o.1), _, _, rfl, hR2, fun t u hu d hd => ?_, fun t u hu ht hn => ?_, by have := insK_len fks (.inl o.1 : Key); omega⟩
        · rw [hc] at hix
          rw [loopB_eq, hg4, R.into_ok]
          unfold PW
          rw [wrap_kd] at hset ⊢
          simp [hix, olD, isNon, mD3, isDct_dI h2.f, kGet_dI h2.f, ek, hset]
        · rw [getK_ins h2.fl] at hd
          by_cases q : o.1 = u.1
          · rw [if_pos (by rw [q])] at hd
            cases hd
            have := hkey t u hu q
            subst this
            rw [ho] at hu; cases hu
            rw [if_pos (by omega)]; exact hnew
          · rw [if_neg (fun x => q (Sum.inl.inj x))] at hd
            have := h3 t u hu d hd
            by_cases q : t < i
            · rw [if_pos (by omega)]; rw [if_pos q] at this; exact this
            · rw [if_neg q] at this
              split
              · exact this.mono (by omega)
              · exact this
        · rw [getK_ins h2.fl]
          by_cases q : o.1 = u.1
          · rw [if_pos (by rw [q])]; rfl
          · rw [if_neg (fun x => q (Sum.inl.inj x))]
            rcases Nat.lt_or_ge t i with q2 | q2
            · exact h3' t u hu q2 hn
            · have : t = i := by omega
              subst this
              rw [ho] at hu; cases hu
              exact absurd rfl q
  subst e
  rw [List.length_map] at h3 h3' h4
  refine ⟨δ', S'.set (S0.length + 2) (mpO m0), lock_nx (by simp [Ly]) hR.p hL0 h2.p, x4', fks', fds', h1, h2.setp, fun o ho d hd => ?_, fun o ho hn => ?_, h4⟩
  · obtain ⟨t, ht⟩ := List.getElem?_of_mem ho
    have := h3 t o ht d hd
    rwa [if_pos (List.getElem?_eq_some_iff.mp ht).1] at this
  · obtain ⟨t, ht⟩ := List.getElem?_of_mem ho
    exact h3' t o ht (List.getElem?_eq_some_iff.mp ht).1 hn
theorem piece11 {j : Nat} {ls : List Str} {w sd sz wy : Int} {kk : K} {m0 : Mp} (H : Hy ls w kk m0) {S0 S : Sto} {x4 x11 x12 x13 x14 : Option D} {M : Nat} {fks : List Key} {fds : List D} {b : Bool} (hR : Rm S0 S (mpO m0) M fks fds) (hz : fks.length ≤ 202)
    (hB : (b = true ∧ wy % 3 = 1 ∧ GB true m0 fks fds) ∨ (b = false ∧ FI 3 m0 fks fds)) :
    ∃ δ' S', sIf (mT (mB opEq (mB opMod (mV 3) (mC (.int 9))) (mC (.int 2)))) (sSeq (sFor (sRange1 (mC (.int 11))) (gmName 11) (lockS 8 (sFor (sKeys (mV 8)) (gmName 4) PW))) (sSeq (lockS 8 (sAsg (mComp (sKeys (mV 8)) (gmName 4) (mAnd (mT (mB opIsN (mB opIx (mV 8) (mV 4)) (mC .non))) (mT (mB opGt (mApp (run (j + 20) ._law_deep) (mCons (mB opIx (mV 9) (mV 4)) mNil)) (mC (.int 12))))) (mV 4) [4]) (gmName 12))) (sAsg (mB opNe (mV 12) (mApp newLst mNil)) (gmName 10)))) sPass (Ly ls sd sz wy w kk S0.length x4 (some (.bl b)) x11 x12 x13 x14) S = .nx δ' S' ∧
      ∃ b x4 x11 x12 fks fds, δ' = Ly ls sd sz wy w kk S0.length x4 (some (.bl b)) x11 x12 x13 x14 ∧ Rm S0 S' (mpO m0) M fks fds ∧ fks.length ≤ 2500 ∧ GB b m0 fks fds ∧ (b = true → wy % 3 = 1 ∨ wy % 9 = 2) := by
  by_cases c : wy % 9 = 2
  · have hF : FI 3 m0 fks fds := by
      rcases hB with ⟨_, h, _⟩ | ⟨_, h⟩
      · omega
      · exact h
    have hc : (mT (mB opEq (mB opMod (mV 3) (mC (.int 9))) (mC (.int 2)))) (Ly ls sd sz wy w kk S0.length x4 (some (.bl b)) x11 x12 x13 x14) S = .ok true S := by simp [opMod_pos, c]
    rw [sIf_eq, hc]
    simp only [R.into_ok, if_true]
    have hlim : limR 0 11 = true := limR_ok (by omega)
    have hsr : sRange1 (mC (.int 11)) (Ly ls sd sz wy w kk S0.length x4 (some (.bl b)) x11 x12 x13 x14) S = .ok (rangeD 0 11, fun _ => True) S := by simp [hlim]
    rw [sSeq_eq, sFor_eq, hsr]
    simp only [R.into_ok]
    generalize hL : loopM _ _ _ _ _ = r
    have hlen := H.len
    obtain ⟨δ1, S1, e, y4, y11, fks1, fds1, h1, h2, h3, h4, h5⟩ := loop_of hL (fun i δ S' => ∃ y4 y11 fks' fds', δ = Ly ls sd sz wy w kk S0.length y4 (some (.bl b)) y11 x12 x13 x14 ∧ Rm S0 S' (mpO m0) M fks' fds' ∧ FI (3 + i) m0 fks' fds' ∧ (0 < i → ∀ o ∈ m0, o.2 = none → (getK fks' fds' (.inl o.1 : Key)).isSome = true) ∧ fks'.length ≤ 202 + 200 * i)
      ⟨x4, x11, fks, fds, rfl, hR, hF, fun h => by omega, by omega⟩ fun i x δ S1 hx ⟨y4, y11, fks1, fds1, h1, h2, h3, h4, h5⟩ => by
        subst h1
        obtain ⟨hi, _⟩ := rangeD_get' hx
        obtain ⟨δ', S', g1, x4', fks', fds', g2, g3, g4, g5, g6⟩ := wrap_in (a := 3 + i) (by omega) H (sd := sd) (sz := sz) (wy := wy) (x4 := y4) (x10 := some (.bl b)) (x11 := some x) (x12 := x12) (x13 := x13) (x14 := x14) h2 h3 (by omega)
        refine ⟨δ', S', .inl ?_, x4', some x, fks', fds', g2, g3, g4, fun _ => g5, by omega⟩
        rw [loopB_eq, show gmName 11 x (Ly ls sd sz wy w kk S0.length y4 (some (.bl b)) y11 x12 x13 x14) S1 = .ok (Ly ls sd sz wy w kk S0.length y4 (some (.bl b)) (some x) x12 x13 x14) S1 from by simp [Ly], R.into_ok, g1]
    subst e h1
    rw [rangeD_length] at h3 h4 h5
    have h4 := h4 (by omega)
    have h2L : Rm S0 (S1.set (S0.length + 2) (mpL m0)) (mpL m0) M fks1 fds1 := h2.setp
    have hnone : ∀ o ∈ m0, o.2 = none → ∃ k, getK fks1 fds1 (.inl o.1 : Key) = some (kd k) ∧ VK 14 k := fun o ho hn => by
      obtain ⟨d, hd⟩ := Option.isSome_iff_exists.mp (h4 o ho hn)
      have := h3 o ho d hd
      rw [hn] at this
      obtain ⟨k, e, hv, _⟩ := this
      exact ⟨k, by rw [hd, e], hv⟩
    have hcomp : mComp (sKeys (mV 8)) (gmName 4) (mAnd (mT (mB opIsN (mB opIx (mV 8) (mV 4)) (mC .non))) (mT (mB opGt (mApp (run (j + 20) ._law_deep) (mCons (mB opIx (mV 9) (mV 4)) mNil)) (mC (.int 12))))) (mV 4) [4] (Ly ls sd sz wy w kk S0.length y4 (some (.bl b)) y11 x12 x13 x14) (S1.set (S0.length + 2) (mpL m0)) =
        .ok (.lst ((m0.filter fun o => decide (o.2 = none) && !isFillD none ((getK fks1 fds1 (.inl o.1 : Key)).getD .non)).map fun o => .int o.1)) (S1.set (S0.length + 2) (mpL m0)) := by
      rw [mComp_eq, keys_mp (q := S0.length + 2) (mp := m0) (by simp [Ly]) h2L.p]
      simp only [R.bind_ok, wipeD]
      rw [comp_filtm (i := fun o : Int × OL => .int o.1) (p := fun o => decide (o.2 = none) && !isFillD none ((getK fks1 fds1 (.inl o.1 : Key)).getD .non)) (f := fun o => .int o.1) h2L.p _ _ fun o ho => ?_, List.nil_append]
      have hix := opIx_mpL (n := o.1) h2L.p (look_con H.conm o ho)
      cases hn : o.2 with
      | some v =>
        rw [hn] at hix
        exact ⟨Ly ls sd sz wy w kk S0.length (some (.int o.1)) (some (.bl b)) y11 x12 x13 x14, by simp [Ly], by simp [hix, olD, wD, isNon], fun h => by simp⟩
      | none =>
        rw [hn] at hix
        obtain ⟨k, hk, hv⟩ := hnone o ho hn
        have hdp := ldeep_ok 14 (j := j + 20) (S := S1.set (S0.length + 2) (mpL m0)) hv (by omega)
        have hf : isFillD none (kd k) = decide (dp k ≤ 12) := kindIn_dp 12 hv
        refine ⟨Ly ls sd sz wy w kk S0.length (some (.int o.1)) (some (.bl b)) y11 x12 x13 x14, by simp [Ly], ?_, fun h => by simp⟩
        simp [hix, olD, isNon, opIx_dI h2L.f hk, hdp, hk, hf]
        rw [← decide_not]; exact decide_eq_decide.mpr (by omega)
    have hlk := lock_nx (i := 8) (p := S0.length + 2) (m := sAsg (mComp (sKeys (mV 8)) (gmName 4) (mAnd (mT (mB opIsN (mB opIx (mV 8) (mV 4)) (mC .non))) (mT (mB opGt (mApp (run (j + 20) ._law_deep) (mCons (mB opIx (mV 9) (mV 4)) mNil)) (mC (.int 12))))) (mV 4) [4]) (gmName 12)) (δ := Ly ls sd sz wy w kk S0.length y4 (some (.bl b)) y11 x12 x13 x14) (by simp [Ly]) h2.p (by rw [sAsg_eq, hcomp]; simp only [R.into_ok, gmName_eq]; rfl) h2L.p
    rw [RS.seq_nx, sSeq_eq, hlk, RS.seq_nx, List.set_set, set_get h2.p]
    have hne := ints_ne (S := S1) (fun o : Int × OL => o.1) (m0.filter fun o => decide (o.2 = none) && !isFillD none ((getK fks1 fds1 (.inl o.1 : Key)).getD .non))
    refine ⟨_, S1, ?_, !decide ((m0.filter fun o => decide (o.2 = none) && !isFillD none ((getK fks1 fds1 (.inl o.1 : Key)).getD .non)) = []), y4, y11, some (.lst ((m0.filter fun o => decide (o.2 = none) && !isFillD none ((getK fks1 fds1 (.inl o.1 : Key)).getD .non)).map fun o => .int o.1)), fks1, fds1, rfl, h2, by omega, ⟨fun o ho d hd => gf_th ((h3 o ho d hd).gf (by omega)), fun ht => ?_, fun hf o ho d hd => ⟨(h3 o ho d hd).mono (by omega), ?_⟩⟩, fun _ => .inr c⟩
    · simp only [sAsg_eq, mB_eq, mV_eq, mApp_eq, mNil_eq]
      simp only [Ly, List.set_cons_succ, List.set_cons_zero, List.getElem?_cons_succ, List.getElem?_cons_zero, R.bind_ok]
      simp [hne]
    · have : (m0.filter fun o => decide (o.2 = none) && !isFillD none ((getK fks1 fds1 (.inl o.1 : Key)).getD .non)) ≠ [] := by simpa using ht
      obtain ⟨o, ho⟩ := List.exists_mem_of_ne_nil _ this
      obtain ⟨ho1, ho2⟩ := List.mem_filter.mp ho
      rw [Bool.and_eq_true, decide_eq_true_eq, Bool.not_eq_true'] at ho2
      obtain ⟨k, hk, hv⟩ := hnone o ho1 ho2.1
      refine ⟨o, ho1, kd k, hk, ?_⟩
      have := ho2.2
      rw [hk] at this
      rw [ho2.1]; exact this
    · cases hn : o.2 with
      | some v =>
        have := h3 o ho d hd
        rw [hn] at this
        exact isFill_rest this
      | none =>
        have he : (m0.filter fun o => decide (o.2 = none) && !isFillD none ((getK fks1 fds1 (.inl o.1 : Key)).getD .non)) = [] := by simpa using hf
        cases hq : isFillD none d with
        | true => rfl
        | false =>
          have : o ∈ (m0.filter fun o => decide (o.2 = none) && !isFillD none ((getK fks1 fds1 (.inl o.1 : Key)).getD .non)) := List.mem_filter.mpr ⟨ho, by rw [hn, hd]; simp [hq]⟩
          rw [he] at this; cases this
  · have hc : (mT (mB opEq (mB opMod (mV 3) (mC (.int 9))) (mC (.int 2)))) (Ly ls sd sz wy w kk S0.length x4 (some (.bl b)) x11 x12 x13 x14) S = .ok false S := by simp [opMod_pos, c]
    rw [sIf_eq, hc]
    simp only [R.into_ok, Bool.false_eq_true, if_false, sPass_eq]
    refine ⟨_, _, rfl, b, x4, x11, x12, fks, fds, rfl, hR, by omega, ?_, ?_⟩
    · rcases hB with ⟨rfl, _, h⟩ | ⟨rfl, h⟩
      · exact h
      · exact h.gb (by omega)
    · rcases hB with ⟨_, h, _⟩ | ⟨rfl, h⟩
      · exact fun _ => .inl h
      · exact fun e => nomatch e

end K_k03
end
section
namespace K_k03
open PySem L2 PM
theorem lockcomp {ls : List Str} {w sd sz wy : Int} {kk : K} {m0 : Mp} {S0 S : Sto} {x4 x10 x11 x12 x13 x14 : Option D} {M : Nat} {fks : List Key} {fds : List D} (hR : Rm S0 S (mpO m0) M fks fds) {t : Tm} {i : Nat} {p : Int × OL → Bool}
    (ht : ∀ o ∈ m0, t (Ly ls sd sz wy w kk S0.length (some (.int o.1)) x10 x11 x12 x13 x14) (S.set (S0.length + 2) (mpL m0)) = .ok (p o) (S.set (S0.length + 2) (mpL m0))) :
    lockS 8 (sAsg (mComp (sKeys (mV 8)) (gmName 4) t (mV 4) [4]) (gmName i)) (Ly ls sd sz wy w kk S0.length x4 x10 x11 x12 x13 x14) S = .nx ((Ly ls sd sz wy w kk S0.length x4 x10 x11 x12 x13 x14).set i (some (.lst ((m0.filter p).map fun o => .int o.1)))) S := by
  have hL : Rm S0 (S.set (S0.length + 2) (mpL m0)) (mpL m0) M fks fds := hR.setp
  have hcomp : mComp (sKeys (mV 8)) (gmName 4) t (mV 4) [4] (Ly ls sd sz wy w kk S0.length x4 x10 x11 x12 x13 x14) (S.set (S0.length + 2) (mpL m0)) = .ok (.lst ((m0.filter p).map fun o => .int o.1)) (S.set (S0.length + 2) (mpL m0)) := by
    rw [mComp_eq, keys_mp (q := S0.length + 2) (mp := m0) (by simp [Ly]) hL.p]
    simp only [R.bind_ok, wipeD]
    rw [comp_filtm (i := fun o : Int × OL => .int o.1) (p := p) (f := fun o => .int o.1) hL.p _ _ fun o ho => ⟨Ly ls sd sz wy w kk S0.length (some (.int o.1)) x10 x11 x12 x13 x14, by simp [Ly], ht o ho, fun h => by simp⟩, List.nil_append]
  rw [lock_nx (i := 8) (p := S0.length + 2) (by simp [Ly]) hR.p (by rw [sAsg_eq, hcomp]; simp only [R.into_ok, gmName_eq]; rfl) hL.p, List.set_set, set_get hR.p]
theorem piece12 {ls : List Str} {w sd sz wy : Int} {kk : K} {m0 : Mp} (H : Hy ls w kk m0) {S0 S : Sto} {x4 x10 x11 x12 x13 x14 : Option D} {M : Nat} {fks : List Key} {fds : List D} (hR : Rm S0 S (mpO m0) M fks fds) :
    lockS 8 (sAsg (mComp (sKeys (mV 8)) (gmName 4) (mT (mB opIsN (mB opIx (mV 8) (mV 4)) (mC .non))) (mV 4) [4]) (gmName 13)) (Ly ls sd sz wy w kk S0.length x4 x10 x11 x12 x13 x14) S = .nx (Ly ls sd sz wy w kk S0.length x4 x10 x11 x12 (some (.lst ((m0.filter fun o => decide (o.2 = none)).map fun o => .int o.1))) x14) S := by
  have hL : Rm S0 (S.set (S0.length + 2) (mpL m0)) (mpL m0) M fks fds := hR.setp
  rw [lockcomp hR (p := fun o => decide (o.2 = none)) fun o ho => ?_]
  · rfl
  · have hix := opIx_mpL (n := o.1) hL.p (look_con H.conm o ho)
    cases hn : o.2 <;> rw [hn] at hix <;> simp [hix, olD, wD, isNon]
theorem piece12b {ls : List Str} {w sd sz wy : Int} {kk : K} {m0 : Mp} (H : Hy ls w kk m0) {S0 S : Sto} {x4 x10 x11 x12 x13 x14 : Option D} {M : Nat} {fks : List Key} {fds : List D} (hR : Rm S0 S (mpO m0) M fks fds) :
    lockS 8 (sAsg (mComp (sKeys (mV 8)) (gmName 4) (mT (mB opNotN (mB opIx (mV 8) (mV 4)) (mC .non))) (mV 4) [4]) (gmName 14)) (Ly ls sd sz wy w kk S0.length x4 x10 x11 x12 x13 x14) S = .nx (Ly ls sd sz wy w kk S0.length x4 x10 x11 x12 x13 (some (.lst ((m0.filter fun o => !decide (o.2 = none)).map fun o => .int o.1)))) S := by
  have hL : Rm S0 (S.set (S0.length + 2) (mpL m0)) (mpL m0) M fks fds := hR.setp
  rw [lockcomp hR (p := fun o => !decide (o.2 = none)) fun o ho => ?_]
  · rfl
  · have hix := opIx_mpL (n := o.1) hL.p (look_con H.conm o ho)
    cases hn : o.2 <;> rw [hn] at hix <;> simp [hix, olD, wD, isNon]
theorem piece13 {ls : List Str} {w sd sz wy : Int} {kk : K} {m0 : Mp} (H : Hy ls w kk m0) {S0 S : Sto} {x4 x11 x12 : Option D} {M : Nat} {fks : List Key} {fds : List D} {b : Bool} (hR : Rm S0 S (mpO m0) M fks fds) (hz : fks.length ≤ 2500) (hB : GB b m0 fks fds) (hb : b = true → wy % 3 = 1 ∨ wy % 9 = 2) :
    ∃ δ' S', sIf (mAnd (mT (mB opIn (mB opMod (mV 3) (mC (.int 9))) (mApp newLst (mCons (mC (.int 5)) (mCons (mC (.int 8)) mNil))))) (mAnd (mT (mB opNe (mV 13) (mApp newLst mNil))) (mT (mB opNe (mV 14) (mApp newLst mNil))))) (sSeq (sExpr (mD3 kPop (mV 9) (mB opIx (mV 14) (mC (.int 0))) (mC .non))) (sAsg (mB opIx (mApp newLst (mCons (mApp newTup (mCons (mC (.str "blank")) (mCons (mB opIx (mV 14) (mC (.int 0))) mNil))) (mCons (mApp newTup (mCons (mC (.str "record")) (mCons (mApp newTup (mCons (mApp newTup (mCons (mC (.str "a")) (mCons (mApp newTup (mCons (mC (.str "number")) mNil)) mNil))) mNil)) (mCons (mB opIx (mV 14) (mC (.int 0))) mNil)))) mNil))) (mB opMod (mB opDiv (mV 3) (mC (.int 9))) (mC (.int 2)))) (gmSub (mV 9) (mB opIx (mV 13) (mC (.int 0))) opSet))) sPass
        (Ly ls sd sz wy w kk S0.length x4 (some (.bl b)) x11 x12 (some (.lst ((m0.filter fun o => decide (o.2 = none)).map fun o => .int o.1))) (some (.lst ((m0.filter fun o => !decide (o.2 = none)).map fun o => .int o.1)))) S = .nx δ' S' ∧
      ∃ fks fds x13 x14, δ' = Ly ls sd sz wy w kk S0.length x4 (some (.bl b)) x11 x12 x13 x14 ∧ Rm S0 S' (mpO m0) M fks fds ∧ GB b m0 fks fds := by
  have hn1 := fun S => ints_ne (S := S) (fun o : Int × OL => o.1) (m0.filter fun o => decide (o.2 = none))
  have hn2 := fun S => ints_ne (S := S) (fun o : Int × OL => o.1) (m0.filter fun o => !decide (o.2 = none))
  have hm1 : ∀ o ∈ m0.filter (fun o => decide (o.2 = none)), o ∈ m0 ∧ o.2 = none := fun o ho => by
    have := List.mem_filter.mp ho
    exact ⟨this.1, by simpa using this.2⟩
  have hm2 : ∀ o ∈ m0.filter (fun o => !decide (o.2 = none)), o ∈ m0 ∧ o.2 ≠ none := fun o ho => by
    have := List.mem_filter.mp ho
    exact ⟨this.1, by simpa using this.2⟩
  generalize m0.filter (fun o => decide (o.2 = none)) = k1 at *
  generalize m0.filter (fun o => !decide (o.2 = none)) = r1 at *
  by_cases c : (wy % 9 = 5 ∨ wy % 9 = 8) ∧ k1 ≠ [] ∧ r1 ≠ []
  · obtain ⟨c1, c2, c3⟩ := c
    obtain ⟨o, k2, rfl⟩ := List.exists_cons_of_ne_nil c2
    obtain ⟨u, r2, rfl⟩ := List.exists_cons_of_ne_nil c3
    obtain ⟨ho, hon⟩ := hm1 o (by simp)
    obtain ⟨hu, _⟩ := hm2 u (by simp)
    have hbf : b = false := by
      cases b with
      | false => rfl
      | true => rcases hb rfl with h | h <;> omega
    subst hbf
    have hc : (mAnd (mT (mB opIn (mB opMod (mV 3) (mC (.int 9))) (mApp newLst (mCons (mC (.int 5)) (mCons (mC (.int 8)) mNil))))) (mAnd (mT (mB opNe (mV 13) (mApp newLst mNil))) (mT (mB opNe (mV 14) (mApp newLst mNil))))) (Ly ls sd sz wy w kk S0.length x4 (some (.bl false)) x11 x12 (some (.lst ((o :: k2).map fun o => .int o.1))) (some (.lst ((u :: r2).map fun o => .int o.1)))) S = .ok true S := by
      have h1 := hn1 S
      have h2 := hn2 S
      simp only [List.map_cons] at h1 h2
      simp [opMod_pos, nl_ok, opIn_58, c1, h1, h2]
    rw [sIf_eq, hc]
    simp only [R.into_ok, if_true]
    -- the fills behind pop
    have hpop : ∃ S2 fks2 fds2 d, kPop (.ref (S0.length + 3)) (.int u.1) .non S = .ok d S2 ∧ Rm S0 S2 (mpO m0) M fks2 fds2 ∧ fks2.length ≤ fks.length ∧ ∀ j d, getK fks2 fds2 j = some d → getK fks fds j = some d := by
      cases hg : getK fks fds (.inl u.1 : Key) with
      | none => exact ⟨S, fks, fds, .non, by simp only [kPop, hR.f, PM.keyOf, hg], hR, Nat.le_refl _, fun _ _ h => h⟩
      | some d => exact ⟨_, _, _, d, by simp only [kPop, hR.f, PM.keyOf, hg]; rfl, hR.setf (del_len hR.fl).1, (del_len hR.fl).2, fun _ _ h => getK_del hR.fl h⟩
    obtain ⟨S2, fks2, fds2, d0, hp, hR2, hz2, hsub⟩ := hpop
    have hd : ∃ d, (∀ S, at1 (atI [D.tup [.str "blank", .int u.1], .tup [.str "record", .tup [.tup [.str "a", .tup [.str "number"]]], .int u.1]] (wy / 9 % 2)) S = .ok d S) ∧ GFa 2 none d := by
      have h0 := (H.key u hu).2
      refine atI_all (P := GFa 2 none) ?_ (by omega) (by simp; omega)
      intro x hx
      simp only [List.mem_cons, List.not_mem_nil, or_false] at hx
      rcases hx with rfl | rfl
      · exact ⟨.blk u.1, rfl, .blk h0, by simp [kn]⟩
      · exact ⟨.rc [Str.ofString "a"] [.num] (some u.1), rfl, .rc rfl (by decide +kernel) (fun l hl => by rw [List.mem_singleton.mp hl]; exact isLab_a) (fun x hx => by rw [List.mem_singleton.mp hx]; exact .num) (fun i e => by cases e; exact h0), by simp [kn, kns]⟩
    obtain ⟨d, hat, hgf⟩ := hd
    obtain ⟨hset, hR3⟩ := hR2.ins (i := o.1) (d := d) (by omega)
    refine ⟨_, _, ?_, _, _, some (.lst ((o :: k2).map fun o => .int o.1)), some (.lst ((u :: r2).map fun o => .int o.1)), rfl, hR3, ?_⟩
    · simp [mD3, isDct_dI hR.f, hp, nl_ok, opDiv_pos, opMod_pos]
      simp [hat, hset]
    · have hgo : ∀ v ∈ m0, ∀ e, getK (insK fks2 (.inl o.1 : Key)) (insD fks2 fds2 (.inl o.1) d) (.inl v.1) = some e → GFa 20 v.2 e ∧ isFillD v.2 e = true := fun v hv e he => by
        rw [getK_ins hR2.fl] at he
        by_cases q : o.1 = v.1
        · rw [if_pos (by rw [q])] at he
          cases he
          rw [← H.conm o ho v hv q, hon]
          exact ⟨hgf.mono (by omega), hgf.isf (by omega)⟩
        · rw [if_neg (fun x => q (Sum.inl.inj x))] at he
          exact hB.2.2 rfl v hv e (hsub _ _ he)
      exact ⟨fun v hv e he => gf_th ((hgo v hv e he).1.gf (by omega)), (fun e => nomatch e), fun _ => hgo⟩
  · have hc : (mAnd (mT (mB opIn (mB opMod (mV 3) (mC (.int 9))) (mApp newLst (mCons (mC (.int 5)) (mCons (mC (.int 8)) mNil))))) (mAnd (mT (mB opNe (mV 13) (mApp newLst mNil))) (mT (mB opNe (mV 14) (mApp newLst mNil))))) (Ly ls sd sz wy w kk S0.length x4 (some (.bl b)) x11 x12 (some (.lst (k1.map fun o => .int o.1))) (some (.lst (r1.map fun o => .int o.1)))) S = .ok false S := by
      by_cases c1 : wy % 9 = 5 ∨ wy % 9 = 8
      · by_cases c2 : k1 = []
        · have h1 := hn1 S
          rw [c2] at h1
          subst c2
          simp at h1
          simp [opMod_pos, nl_ok, opIn_58, c1, h1]
        · have c3 : r1 = [] := by
            by_cases c3 : r1 = []
            · exact c3
            · exact absurd ⟨c1, c2, c3⟩ c
          have h1 := hn1 S
          have h2 := hn2 S
          subst c3
          simp at h2
          simp [opMod_pos, nl_ok, opIn_58, c1, h1, c2, h2]
      · simp [opMod_pos, nl_ok, opIn_58, c1]
    rw [sIf_eq, hc]
    simp only [R.into_ok, Bool.false_eq_true, if_false, sPass_eq]
    exact ⟨_, _, rfl, fks, fds, _, _, rfl, hR, hB⟩

end K_k03
end
section
namespace K_k03
open PySem L2 PM
theorem ans_ok {ls : List Str} {w : Int} {kk : K} {m0 : Mp} (H : Hy ls w kk m0) {fks : List Key} {fds : List D} {b : Bool} (hB : GB b m0 fks fds) : ∃ z, pl 40 (rzD z) = true ∧ ∀ j f S, f < S.length → S[f]? = some (.dK fks fds) →
    run (j + 50) ._law_due [kd kk, .ref f, .bl b] S = .ok (rzD z) S ∧ run (j + 50) ._law_tried [kd kk, .ref f] S = .ok (rzD z) S := by
  have hth : ∀ o ∈ occ kk, ∀ d, getK fks fds (.inl o.1 : Key) = some d → th 70 d = true := fun o ho => hB.1 o ((H.mem o).mpr ho)
  cases b with
  | true =>
    refine ⟨.bad, by decide +kernel, fun j f S hf hS => ⟨due_odd (j := j + 49), tried_rz (j := j + 44) ?_⟩⟩
    obtain ⟨o, ho, d, h1, h2⟩ := hB.2.1 rfl
    exact (filled_bad (j := j + 9) (k' := .num) hf hS H.vk (by omega) H.kn H.con hth (A := True) (B := False) (fun _ => ⟨o, (H.mem o).mp ho, d, h1, h2⟩) (fun h => h.elim)).1 trivial
  | false =>
    have hall := hB.2.2 rfl
    obtain ⟨k', hv, hf1, hf2⟩ := fill_both (fks := fks) (fds := fds) 6 H.vk (by have := H.kn; omega) fun o ho d e => (hall o ((H.mem o).mpr ho) d e).1.gf (by omega)
    refine ⟨rzK k', ?_, fun j f S hf hS => ⟨due_ok (j := j + 10) (n := 6) (by omega) hv (hf2 f (j + 10 + 39) S (by omega) hS), tried_rz (j := j + 44) ?_⟩⟩
    · unfold rzK
      split
      · rename_i c
        split
        · exact pl_mono _ (by omega) (vk_pl (hv.to c.2))
        · decide +kernel
      · decide +kernel
    · exact (filled_bad (j := j + 9) (k' := k') hf hS H.vk (by omega) H.kn H.con hth (A := False) (B := True) (fun h => h.elim) (fun _ => ⟨fun o ho d e => (hall o ((H.mem o).mpr ho) d e).2, hv, hf1 f⟩)).2 trivial
theorem tail_ok {j : Nat} {ls : List Str} {w sd sz wy : Int} {kk : K} {m0 : Mp} (H : Hy ls w kk m0) {S0 S : Sto} {x4 x11 x12 x13 x14 : Option D} {M : Nat} {fks : List Key} {fds : List D} {b : Bool} (hR : Rm S0 S (mpO m0) M fks fds) (hB : GB b m0 fks fds) :
    Gd S0 ((sSeq (sAsg (mApp cDictC (mCons (mV 9) mNil)) (gmName 15)) (sSeq (sAsg (mApp (run (j + 50) ._law_due) (mCons (mV 7) (mCons (mV 9) (mCons (mV 10) mNil)))) (gmName 16)) (sSeq (sAsg (mApp (run (j + 50) ._law_tried) (mCons (mV 7) (mCons (mV 9) mNil))) (gmName 17)) (sSeq (sExpr (mDClear (mV 9))) (sSeq (sIf (mOr (mT (mB opNe (mV 17) (mV 16))) (mT (mB opNe (mU (opIsi "list") (mV 17)) (mU (opIsi "list") (mV 16))))) (sRet (mC (.bl false))) sPass) (sRet (mAndV (mB opEq (mApp (run (j + 50) ._law_tried) (mCons (mV 7) (mCons (mV 15) mNil))) (mV 16)) (mB opEq (mApp (run (j + 50) ._law_tried) (mCons (mApp newTup (mCons (mC (.str "none")) mNil)) (mCons (mV 15) mNil))) (mApp newLst (mCons (mC (.str "BadKind")) mNil)))))))))) (Ly ls sd sz wy w kk S0.length x4 (some (.bl b)) x11 x12 x13 x14) S) := by
  obtain ⟨z, hpl, hz⟩ := ans_ok H hB
  have hcp : cDictC [.ref (S0.length + 3)] S = .ok (.ref S.length) (S ++ [.dK fks fds]) := by simp only [cDictC, dkOf, hR.f]
  have hlt : S0.length + 3 < S.length := by have := hR.len; omega
  have hU : (S ++ [MO.dK fks fds])[S0.length + 3]? = some (.dK fks fds) := by rw [List.getElem?_append_left hlt]; exact hR.f
  obtain ⟨d1, t1⟩ := hz j (S0.length + 3) (S ++ [.dK fks fds]) (by simp; omega) hU
  have hV : ((S ++ [MO.dK fks fds]).set (S0.length + 3) (.dK [] []))[S.length]? = some (.dK fks fds) := by
    rw [List.getElem?_set_ne (by omega)]; exact sto_snoc
  obtain ⟨_, t2⟩ := hz j S.length ((S ++ [MO.dK fks fds]).set (S0.length + 3) (.dK [] [])) (by simp) hV
  have t3 := tried_none (j := j + 10) (f := S.length) (S := (S ++ [MO.dK fks fds]).set (S0.length + 3) (.dK [] []))
  rw [show j + 10 + 40 = j + 50 by omega] at t3
  have hcl : mDClear (mV 9) = fun δ S => (mV 9 δ S).bind fun x S1 => match x with
    | .ref n => match S1[n]? with
      | some (.dK _ _) => .ok .non (S1.set n (.dK [] []))
      | _ => .stuck
    | _ => .stuck := rfl
  have hpre : (S ++ [MO.dK fks fds]).set (S0.length + 3) (.dK [] []) = S0 ++ ((S ++ [MO.dK fks fds]).set (S0.length + 3) (.dK [] [])).drop S0.length := by
    have e : ((S ++ [MO.dK fks fds]).set (S0.length + 3) (.dK [] [])).take S0.length = S0 := by
      apply List.ext_getElem?
      intro i
      rw [List.getElem?_take]
      split
      · rename_i hi
        rw [List.getElem?_set_ne (by omega), List.getElem?_append_left (by omega)]; exact hR.old i hi
      · rename_i hi; rw [List.getElem?_eq_none (by omega)]
    conv => lhs; rw [← List.take_append_drop S0.length ((S ++ [MO.dK fks fds]).set (S0.length + 3) (.dK [] [])), e]
  have hne : ∀ S, opNe (rzD z) (rzD z) S = .ok (.bl false) S := fun S => opNe_of (eqD_self hpl (by omega))
  have heq : ∀ S, opEq (rzD z) (rzD z) S = .ok (.bl true) S := fun S => opEq_of (eqD_self hpl (by omega))
  have hbk : ∀ S, opEq (.lst [.str "BadKind"]) (.lst [.str "BadKind"]) S = .ok (.bl true) S := fun S => opEq_of (eqD_self (n := 1) (by decide +kernel) (by omega))
  have hisi : ∃ c, ∀ S, opIsi "list" (rzD z) S = .ok (.bl c) S := by
    cases z with
    | bad => exact ⟨true, fun S => by simp [rzD]⟩
    | great => exact ⟨true, fun S => by simp [rzD]⟩
    | made k => exact ⟨false, fun S => by cases k <;> simp [rzD, kd]⟩
  obtain ⟨c, hisi⟩ := hisi
  refine ⟨((S ++ [MO.dK fks fds]).set (S0.length + 3) (.dK [] [])).drop S0.length, ?_⟩
  rw [← hpre]
  have hbb : ∀ S, opNe (.bl c) (.bl c) S = .ok (.bl false) S := fun S => opNe_of (eqD_self (n := 0) rfl (by omega))
  generalize hVV : (S ++ [MO.dK fks fds]).set (S0.length + 3) (.dK [] []) = V at *
  generalize rzD z = r at *
  simp [hcp]
  simp [d1, t1, hcl, hU, hVV, hne, hisi, hbb, t2, heq, t3, nl_ok, hbk]
theorem seq_nx' {a b : Sm} {δ δ' : PM.Loc} {S S' : Sto} (h : a δ S = .nx δ' S') : sSeq a b δ S = b δ' S' := by rw [sSeq_eq, h, RS.seq_nx]
theorem lab_ne_z {c : Int} (h : 0 ≤ c) {m : Nat} (hm : m ≤ 8) : (labs c m ++ [Str.ofString "zzzzzzzz"]).Nodup := by
  refine List.nodup_append.mpr ⟨labs_nodup c hm, by simp, fun a ha b hb e => ?_⟩
  have hb := List.mem_singleton.mp hb
  subst hb
  unfold labs at ha
  obtain ⟨k, _, e2⟩ := List.mem_map.mp ha
  have h1 := lab_len h k
  rw [e2, e] at h1
  have : (Str.ofString "zzzzzzzz").length = 8 := by decide +kernel
  omega
theorem round_gd {j : Nat} {CE : CsE} {ls : List Str} (h4 : ls.length = 4) (hn : (ls ++ [Str.ofString "zzzzzzzz"]).Nodup) (hl : ∀ l ∈ ls, IsLab l) {sd sz wy nu : Int} (S0 : Sto) :
    Gd S0 (b__law_round (run (j + 50)) CE [some (.lst (ls.map .str)), some (.int sd), some (.int sz), some (.int wy), some (.int nu), none, none, none, none, none, none, none, none, none, none, none, none, none] S0) := by
  have hp : ∀ S, opPow (.int 10) (.int 6) S = .ok (.int 1000000) S := fun S => opPow_int (by decide)
  have hnl : ls.Nodup := (List.nodup_append.mp hn).1
  unfold b__law_round
  rw [seq_nx' (δ' := [some (.lst (ls.map .str)), some (.int sd), some (.int sz), some (.int wy), some (.int nu), some (.ref S0.length), none, none, none, none, none, none, none, none, none, none, none, none]) (S' := S0 ++ [.lst [.int (1 + sd % 2147483645), .int (8 + sz % 23)]]) (by simp [opMod_pos])]
  rw [seq_nx' (δ' := [some (.lst (ls.map .str)), some (.int sd), some (.int sz), some (.int wy), some (.int nu), some (.ref S0.length), some (.lst [.int (1 + nu % 1000000), .ref (S0.length + 1)]), none, none, none, none, none, none, none, none, none, none, none]) (S' := S0 ++ [.lst [.int (1 + sd % 2147483645), .int (8 + sz % 23)], .lst []]) (by simp [opMod_pos, hp])]
  have hw : 1 ≤ 1 + nu % 1000000 ∧ 1 + nu % 1000000 ≤ 1000000 := by omega
  generalize 1 + nu % 1000000 = w at *
  obtain ⟨kk, T, hk, vk, ⟨b', ws', ⟨a', k0, kS, kq, kws, kb⟩, _, kos, kkn⟩, knx⟩ := kind3_ok (n := S0.length) (q := S0.length + 1) (by omega) (w := w) (by omega) h4 hnl hl (2 + sz / 23 % 4).toNat (k := j + 50) (M := 30) (S := S0 ++ [.lst [.int (1 + sd % 2147483645), .int (8 + sz % 23)], .lst []]) (l := 3 + sz / 23 % 4) (b := 8 + sz % 23) (ws := []) (by omega) (by omega) (by omega)
    ⟨1 + sd % 2147483645, by omega, by simp, by simp, (by simp), by simp; omega⟩
  rw [seq_nx' (δ' := [some (.lst (ls.map .str)), some (.int sd), some (.int sz), some (.int wy), some (.int nu), some (.ref S0.length), some (.lst [.int w, .ref (S0.length + 1)]), some (kd kk), none, none, none, none, none, none, none, none, none, none]) (S' := T) (by simp [opDiv_pos, opMod_pos, hk])]
  have hTl : T.length = S0.length + 2 := by rw [knx.1]; simp
  have hold : ∀ i, i < S0.length → T[i]? = S0[i]? := fun i hi => by rw [knx.2 i (by omega) (by omega), List.getElem?_append_left hi]
  have hvk : VK 6 kk := vk.mono (by omega)
  have hkn : kn kk ≤ 121 := by omega
  have hcon : Con (occ kk) := con_oko hw.1 kos
  have hpc := pa_con (occ kk) [] hcon
  have hol := occ_len kk
  have hpl := pa_len (occ kk) []
  have hws : ws'.length ≤ 30 := by omega
  have hmo : MpOk (pa [] (occ kk)).1 := pa_ok (fun p hp => nomatch hp) (occ_ok 6 hvk)
  have hnd : ((pa [] (occ kk)).1.map (·.1)).Nodup := pa_nodup _ _ (by simp)
  have hbl := lblanks_ok (q := T.length) 6 (j := j + 50) (S := T ++ [mpO []]) (m := []) hvk (by omega) sto_snoc hcon (by simp; omega)
  rw [sto_snoc_set] at hbl
  have H : Hy ls w kk (pa [] (occ kk)).1 := by
    refine ⟨h4, hn, hl, hw, hvk, by omega, hcon, fun o => ⟨fun h => by simpa using hpc.2.1 o h, fun h => hpc.2.2.2 o (by simpa using h)⟩, hpc.2.2.1, hmo, hnd, by simp at hpl; omega, fun o ho v e => ?_, fun o ho => ?_⟩
    · have := occ_wlen hvk o (by simpa using hpc.2.1 o ho) v e
      omega
    · have := kos o (by simpa using hpc.2.1 o ho)
      rcases this with ⟨i, hi, e⟩ | ⟨i, l, hi, e⟩
      · subst e
        refine ⟨fun e => ?_, Int.mul_nonneg (by omega) (by omega)⟩
        simp only at e
        rw [Int.mul_assoc] at e
        have h1 : w * (2 * (i : Int) - 100) = 1 := by rw [Int.mul_sub]; omega
        have h2 : w = 1 := Int.eq_one_of_dvd_one (by omega) ⟨_, h1.symm⟩
        subst h2; omega
      · subst e
        have hi30 : i < ws'.length := (List.getElem?_eq_some_iff.mp hi).1
        refine ⟨fun e => ?_, Int.mul_nonneg (by omega) (by omega)⟩
        simp only at e
        have h1 : w * (1 + 2 * (i : Int) - 100) = 1 := by rw [Int.mul_sub]; omega
        have h2 : w = 1 := Int.eq_one_of_dvd_one (by omega) ⟨_, h1.symm⟩
        subst h2; omega
  generalize (pa [] (occ kk)).1 = m0 at *
  have e0 : (T ++ [MO.dK [] []]) = T ++ [mpO []] := rfl
  rw [seq_nx' (δ' := [some (.lst (ls.map .str)), some (.int sd), some (.int sz), some (.int wy), some (.int nu), some (.ref S0.length), some (.lst [.int w, .ref (S0.length + 1)]), some (kd kk), some (.ref (S0.length + 2)), none, none, none, none, none, none, none, none, none]) (S' := T ++ [mpO m0]) (by simp [e0, hbl]; exact hTl)]
  have hS4 : (T ++ [mpO m0])[S0.length]? = some (.lst [.int a', .int b']) := by rw [List.getElem?_append_left (by omega)]; exact kS
  rw [seq_nx' (δ' := [some (.lst (ls.map .str)), some (.int sd), some (.int sz), some (.int wy), some (.int nu), some (.ref S0.length), some (.lst [.int w, .ref (S0.length + 1)]), some (kd kk), some (.ref (S0.length + 2)), none, none, none, none, none, none, none, none, none]) (S' := (T ++ [mpO m0]).set S0.length (.lst [.int a', .int 25])) (by simp [opSet_lst hS4])]
  have hR : Rm S0 ((T ++ [mpO m0]).set S0.length (.lst [.int a', .int 25]) ++ [.dK [] []]) (mpO m0) 55 [] [] := by
    refine ⟨by simp; omega, fun i hi => ?_, ⟨ws', 25, ⟨a', k0, ?_, ?_, kws, by omega⟩, by omega⟩, ?_, ?_, rfl⟩
    · rw [List.getElem?_append_left (by simp; omega), List.getElem?_set_ne (by omega), List.getElem?_append_left (by omega)]; exact hold i hi
    · rw [List.getElem?_append_left (by simp; omega)]; exact sto_set hS4
    · rw [List.getElem?_append_left (by simp; omega), List.getElem?_set_ne (by omega), List.getElem?_append_left (by omega)]; exact kq
    · rw [List.getElem?_append_left (by simp; omega), List.getElem?_set_ne (by omega), ← hTl]; exact sto_snoc
    · have : S0.length + 3 = ((T ++ [mpO m0]).set S0.length (.lst [.int a', .int 25])).length := by simp; omega
      rw [this]; exact sto_snoc
  rw [seq_nx' (δ' := Ly ls sd sz wy w kk S0.length (some (.int nu)) none none none none none) (S' := (T ++ [mpO m0]).set S0.length (.lst [.int a', .int 25]) ++ [.dK [] []]) (by simp [Ly]; omega)]
  generalize (T ++ [mpO m0]).set S0.length (.lst [.int a', .int 25]) ++ [.dK [] []] = S6 at *
  refine gd_seq _ (piece7 (j := j + 39) H hR) ?_
  rintro δ S ⟨x4, fks, fds, rfl, hR, hF, hz⟩
  refine gd_seq _ (piece8 H hR hF hz) ?_
  rintro δ S ⟨fks, fds, rfl, hR, hF, hz⟩
  rw [seq_nx' (piece9 hR)]
  refine gd_seq _ (piece10 (j := j + 49) H hR hF hz) ?_
  rintro δ S ⟨b, x4, fks, fds, rfl, hR, hz, hB⟩
  refine gd_seq _ (piece11 (j := j + 30) H hR hz hB) ?_
  rintro δ S ⟨b, x4, x11, x12, fks, fds, rfl, hR, hz, hB, hb⟩
  rw [seq_nx' (piece12 H hR), seq_nx' (piece12b H hR)]
  refine gd_seq _ (piece13 H hR hz hB hb) ?_
  rintro δ S ⟨fks, fds, x13, x14, rfl, hR, hB⟩
  exact tail_ok H hR hB
theorem round_ok {j : Nat} {ls : List Str} (h4 : ls.length = 4) (hn : (ls ++ [Str.ofString "zzzzzzzz"]).Nodup) (hl : ∀ l ∈ ls, IsLab l) {sd sz wy nu : Int} (S0 : Sto) :
    run (j + 51) ._law_round [.lst (ls.map .str), .int sd, .int sz, .int wy, .int nu] S0 = .ok (.bl true) S0 := by
  rw [run_succ]
  simp only [body, fin, slots, runB]
  obtain ⟨T, e⟩ := round_gd (j := j) (CE := runE (j + 50)) h4 hn hl (sd := sd) (sz := sz) (wy := wy) (nu := nu) S0
  show finFrz 0 S0 (match b__law_round (run (j + 50)) (runE (j + 50)) [some (.lst (ls.map .str)), some (.int sd), some (.int sz), some (.int wy), some (.int nu), none, none, none, none, none, none, none, none, none, none, none, none, none] S0 with
    | .nx _ S' => .ok .non S'
    | .rt d S' => .ok d S'
    | .exc c _ S' => .exc c S'
    | _ => .stuck) = _
  rw [e]
  exact finFrz_app rfl
theorem main_ok (ns : List Int) (hns : ns.length ≤ 63) : ∃ S', run 60 .law [.scr (ns.map D.int)] [] = .ok (.bl true) S' := by
  have ec : ∀ (i : Nat) S, run 59 ._law_cell [.scr (ns.map D.int), .int i] S = .ok (.int (cellv ns i)) S := fun i S => cell_ok (k := 58)
  have z0 := cellv_lo ns 0
  have hL : run 59 ._law_labels [.int (cellv ns 0), .int 4] [] = .ok (.lst ((labs (cellv ns 0) 4).map .str)) [] := labels_ok (k := 58) (m := 4) z0 (by decide)
  have h4 := labs_len (cellv ns 0) 4
  have hl := labs_is z0 (m := 4)
  have hnz := lab_ne_z z0 (m := 4) (by decide)
  have e0 := ec 0
  generalize labs (cellv ns 0) 4 = ls at *
  rw [run_succ]
  simp only [body, fin, slots, runB, b_law]
  have l3 : limR 0 3 = true := limR_ok (by omega)
  have l4 : limR 0 4 = true := limR_ok (by omega)
  have e0' : ∀ S, run 59 ._law_cell [.scr (ns.map D.int), .int 0] S = .ok (.int (cellv ns 0)) S := e0
  simp [e0', hL, l3]
  generalize hL1 : loopM _ _ _ _ _ = r
  obtain ⟨δ', S', e, ⟨x2, x3, x4, eδ⟩, eS⟩ := loop_of hL1 (fun i δ S' => (∃ x2 x3 x4, δ = [some (.scr (ns.map D.int)), some (.lst (ls.map .str)), x2, x3, x4]) ∧ S' = [])
    ⟨⟨_, _, _, rfl⟩, rfl⟩ (fun i x δ S1 hx ⟨⟨x2, x3, x4, hδ⟩, hS⟩ => by
      obtain ⟨hi, ex⟩ := rangeD_get' hx
      subst hδ hS ex
      have hcomp : compM (fun _ => True) (gmName 4) mYes (mApp (run 59 ._law_cell) (mCons (mV 0) (mCons (mB opAdd (mB opAdd (mC (.int 1)) (mB opMul (mC (.int 4)) (mV 2))) (mV 4)) mNil))) [some (.scr (ns.map D.int)), some (.lst (ls.map .str)), some (.int i), x3, none] [] (rangeD 0 4) [] = .ok (.lst ((List.range 4).map fun k => .int (cellv ns (1 + 4 * i + k)))) [] := by
        rw [rangeD_map, comp_map (f := fun k : Nat => D.int (cellv ns (1 + 4 * i + k))) (hg := trivial) (h := fun k hk => ⟨_, rfl, rfl, by
          have := ec (1 + 4 * i + k) []
          rw [show (((1 + 4 * i + k : Nat)) : Int) = 1 + 4 * (i : Int) + (k : Int) by omega] at this
          simp [opMul_l, this]⟩), List.nil_append]
      have hr := round_ok (j := 8) h4 hnz hl (sd := cellv ns (1 + 4 * i)) (sz := cellv ns (1 + 4 * i + 1)) (wy := cellv ns (1 + 4 * i + 2)) (nu := cellv ns (1 + 4 * i + 3)) []
      refine ⟨[some (.scr (ns.map D.int)), some (.lst (ls.map .str)), some (.int i), some (.lst ((List.range 4).map fun k => .int (cellv ns (1 + 4 * i + k)))), x4], [], .inl ?_, ⟨_, _, _, rfl⟩, rfl⟩
      have e4 : (List.range 4).map (fun k => D.int (cellv ns (1 + 4 * i + k))) = [.int (cellv ns (1 + 4 * i)), .int (cellv ns (1 + 4 * i + 1)), .int (cellv ns (1 + 4 * i + 2)), .int (cellv ns (1 + 4 * i + 3))] := rfl
      rw [e4] at hcomp ⊢
      simp [loopB_eq, l4, wipeD]
      rw [hcomp]
      simp [hr])
  subst e eδ eS
  simp [finRaw]

end K_k03
end
namespace K_k03
open PySem PySem.Spec L2 PM PyProof.Rows
structure Mgs (mg : Str → Option Value) : Prop where
  m_ValueError : mg "ValueError" = none
  m_all : mg "all" = none
  m_bool : mg "bool" = none
  m_dict : mg "dict" = none
  m_int : mg "int" = none
  m_isinstance : mg "isinstance" = none
  m_len : mg "len" = none
  m_list : mg "list" = none
  m_max : mg "max" = none
  m_range : mg "range" = none
  m_set : mg "set" = none
  m_sorted : mg "sorted" = none
  m_str : mg "str" = none
  m_sum : mg "sum" = none
  m_tuple : mg "tuple" = none
  g_MOST_KIND_DEEP : ∃ t, mg "MOST_KIND_DEEP" = some (.int 12 t)
  g_MOST_KNOTS : ∃ t, mg "MOST_KNOTS" = some (.int 200 t)
  g_MOST_SIGNS : ∃ t, mg "MOST_SIGNS" = some (.int 8 t)
  g_SMALL : ∃ t, mg "SMALL" = some (.str "abcdefghijklmnopqrstuvwxyz" t)
structure XT (K : PySem.W.Frag) (mg : Str → Option Value) (y : Str) (C : Addr) : Prop where
  c : XC K mg y C
  t_BadFill : ∃ CT, mg "BadFill" = some (.ref CT) ∧ PySem.W.kitOne K (.ref C) (.ref CT) = some (isx y "BadFill")
  t_BadKind : ∃ CT, mg "BadKind" = some (.ref CT) ∧ PySem.W.kitOne K (.ref C) (.ref CT) = some (isx y "BadKind")
  t_Lacks : ∃ CT, mg "Lacks" = some (.ref CT) ∧ PySem.W.kitOne K (.ref C) (.ref CT) = some (isx y "Lacks")
  t_NoDefinition : ∃ CT, mg "NoDefinition" = some (.ref CT) ∧ PySem.W.kitOne K (.ref C) (.ref CT) = some (isx y "NoDefinition")
  t_NoNumber : ∃ CT, mg "NoNumber" = some (.ref CT) ∧ PySem.W.kitOne K (.ref C) (.ref CT) = some (isx y "NoNumber")
  t_NoRecord : ∃ CT, mg "NoRecord" = some (.ref CT) ∧ PySem.W.kitOne K (.ref C) (.ref CT) = some (isx y "NoRecord")
  t_TooGreat : ∃ CT, mg "TooGreat" = some (.ref CT) ∧ PySem.W.kitOne K (.ref C) (.ref CT) = some (isx y "TooGreat")
  t_ValueError : PySem.W.kitOne K (.ref C) (.type "ValueError") = some (isx y "ValueError")
structure Xs (K : PySem.W.Frag) (mg : Str → Option Value) : Prop where
  f : ∃ CF, mg "FieldError" = some (.ref CF) ∧ ∀ y, okX y = true → ∃ C, XT K mg y C ∧ PySem.W.exmOne K (.ref C) (.ref CF) = some true
theorem Xs.x {K : PySem.W.Frag} {mg : Str → Option Value} (X : Xs K mg) (y : Str) (h : okX y = true) : ∃ C, XC K mg y C := let ⟨_, _, hF⟩ := X.f; let ⟨C, h, _⟩ := hF y h; ⟨C, h.c⟩
theorem xt_at {K : PySem.W.Frag} {mg : Str → Option Value} {CF C : Addr} {y : Str} (hF : ∀ y, okX y = true → ∃ C, XT K mg y C ∧ PySem.W.exmOne K (.ref C) (.ref CF) = some true) (hy : okX y = true) (hx : XC K mg y C) : XT K mg y C := by
  obtain ⟨D, h, _⟩ := hF y hy
  have e := h.c.g.symm.trans hx.g
  cases e
  exact h
section
variable {w : World} {K : PySem.W.Frag} {mg : Str → Option Value} {base : Heap} {k : Nat} {C : Cs} {CE : CsE}
theorem sc__law_lone : FnScope N__law_lone ["_law_e"] (defScope (top 38)) := ⟨rfl, rfl, rfl, by decide +kernel, rfl, by decide +kernel, by decide +kernel⟩
theorem der__law_lone (M : Mgs mg) {y : Str} {C0 : Addr} (ht : XT K mg y C0) (f : Addr) (cdv : Value) (A : Around) (outer : List Env) (s : Shared) (H : Hp) (p : Addr × Obj) (hot : L2H.Hot1 A p) (ho : ObE C0 p.2) (hr : L2H.RoomH k (A.deeper (envOfC "_law_lone" (defScope (top 38)) s.heap.objs.size f cdv))) :
    DSs (L2H.cxH (L2N.CX PySem.Challenge.rw_fieldrest_k03_blanks_filled.prog w) PySem.Challenge.rw_fieldrest_k03_blanks_filled.prog w K mg base N__law_lone "_law_lone" (defScope (top 38)) f cdv A outer s H xk0 p) w0 (defBody (top 38)) (b__law_lone p.1 y) := by
  have nd := sc__law_lone.nd
  have hu : Ru (A.deeper (envOfC "_law_lone" (defScope (top 38)) s.heap.objs.size f cdv)) := ⟨by have := hr.un; omega⟩
  obtain ⟨a, oe⟩ := p
  exact (ds_cons (ds_set (i := 1) nd rfl (Or.inl rfl) (de_bin opAdd_ok (de_bin opAdd_ok (de_callTy cIntB_ok (by rfl) M.m_int (by decide +kernel) (da_cons (de_isEo (List.mem_singleton.mpr rfl) ht.c.i ho (by rfl) M.m_isinstance (de_var (pv 0)) ht.t_BadFill (by rfl)) da_nil)) (de_callTy cIntB_ok (by rfl) M.m_int (by decide +kernel) (da_cons (de_isEo (List.mem_singleton.mpr rfl) ht.c.i ho (by rfl) M.m_isinstance (de_var (pv 0)) ht.t_BadKind (by rfl)) da_nil))) (de_callTy cIntB_ok (by rfl) M.m_int (by decide +kernel) (da_cons (de_isEo (List.mem_singleton.mpr rfl) ht.c.i ho (by rfl) M.m_isinstance (de_var (pv 0)) ht.t_Lacks (by rfl)) da_nil))))
    (ds_cons (ds_set (i := 1) nd rfl (Or.inl rfl) (de_bin opAdd_ok (de_bin opAdd_ok (de_bin opAdd_ok (de_var (pv 1)) (de_callTy cIntB_ok (by rfl) M.m_int (by decide +kernel) (da_cons (de_isEo (List.mem_singleton.mpr rfl) ht.c.i ho (by rfl) M.m_isinstance (de_var (pv 0)) ht.t_NoDefinition (by rfl)) da_nil))) (de_callTy cIntB_ok (by rfl) M.m_int (by decide +kernel) (da_cons (de_isEo (List.mem_singleton.mpr rfl) ht.c.i ho (by rfl) M.m_isinstance (de_var (pv 0)) ht.t_NoNumber (by rfl)) da_nil))) (de_callTy cIntB_ok (by rfl) M.m_int (by decide +kernel) (da_cons (de_isEo (List.mem_singleton.mpr rfl) ht.c.i ho (by rfl) M.m_isinstance (de_var (pv 0)) ht.t_NoRecord (by rfl)) da_nil))))
    (ds_one (ds_ret (de_and (de_isE (List.mem_singleton.mpr rfl) ht.c.i ho (by rfl) M.m_isinstance (de_var (pv 0)) (pe_bltn (v := .ty "ValueError") (by rfl) M.m_ValueError (by decide +kernel) rfl) (fun _ h => h) ht.t_ValueError) (de_one (de_cmp (opEq_ok hu) (de_bin opAdd_ok (de_var (pv 1)) (de_callTy cIntB_ok (by rfl) M.m_int (by decide +kernel) (da_cons (de_isEo (List.mem_singleton.mpr rfl) ht.c.i ho (by rfl) M.m_isinstance (de_var (pv 0)) ht.t_TooGreat (by rfl)) da_nil))) de_int (nomark _))))))))
theorem sc_is_whole : FnScope N_is_whole ["thing"] (defScope (top 12)) := ⟨rfl, rfl, rfl, by decide +kernel, rfl, by decide +kernel, by decide +kernel⟩
theorem der_is_whole (hC : ∀ g, Has PySem.Challenge.rw_fieldrest_k03_blanks_filled.prog w K mg base k (nm g) (ar g) (C g)) (M : Mgs mg) (hE : ∀ g y C, okX y = true → XT K mg y C → HasE PySem.Challenge.rw_fieldrest_k03_blanks_filled.prog w K mg base k (nmE g) (arE g) C (fun a => CE g a y)) (XF : Xs K mg) (f : Addr) (cdv : Value) (A : Around) (outer : List Env) (s : Shared) (H : Hp) (E : XK) (hr : Room k (A.deeper (envOfC "is_whole" (defScope (top 12)) s.heap.objs.size f cdv))) :
    DSs (cxOf (L2N.CX PySem.Challenge.rw_fieldrest_k03_blanks_filled.prog w) PySem.Challenge.rw_fieldrest_k03_blanks_filled.prog w K mg base N_is_whole "is_whole" (defScope (top 12)) f cdv A outer s H E) (fun cls d _ H => E cls d H) (defBody (top 12)) (b_is_whole C CE) := by
  have nd := sc_is_whole.nd
  have hu := Ru.of hr
  have tk : L2N.Takes (cxOf (L2N.CX PySem.Challenge.rw_fieldrest_k03_blanks_filled.prog w) PySem.Challenge.rw_fieldrest_k03_blanks_filled.prog w K mg base N_is_whole "is_whole" (defScope (top 12)) f cdv A outer s H E) (fun cls d _ H => E cls d H) := L2N.takes_of rfl rfl rfl rfl
  exact (ds_one (ds_ret (de_and (de_isi (by rfl) M.m_isinstance (de_var (pv 0)) (pe_bltn (v := .ty "int") (by rfl) M.m_int (by decide +kernel) rfl)) (de_one (de_not (de_isi (by rfl) M.m_isinstance (de_var (pv 0)) (pe_bltn (v := .ty "bool") (by rfl) M.m_bool (by decide +kernel) rfl)))))))
theorem sc_is_word : FnScope N_is_word ["thing"] (defScope (top 13)) := ⟨rfl, rfl, rfl, by decide +kernel, rfl, by decide +kernel, by decide +kernel⟩
theorem der_is_word (hC : ∀ g, Has PySem.Challenge.rw_fieldrest_k03_blanks_filled.prog w K mg base k (nm g) (ar g) (C g)) (M : Mgs mg) (hE : ∀ g y C, okX y = true → XT K mg y C → HasE PySem.Challenge.rw_fieldrest_k03_blanks_filled.prog w K mg base k (nmE g) (arE g) C (fun a => CE g a y)) (XF : Xs K mg) (f : Addr) (cdv : Value) (A : Around) (outer : List Env) (s : Shared) (H : Hp) (E : XK) (hr : Room k (A.deeper (envOfC "is_word" (defScope (top 13)) s.heap.objs.size f cdv))) :
    DSs (cxOf (L2N.CX PySem.Challenge.rw_fieldrest_k03_blanks_filled.prog w) PySem.Challenge.rw_fieldrest_k03_blanks_filled.prog w K mg base N_is_word "is_word" (defScope (top 13)) f cdv A outer s H E) (fun cls d _ H => E cls d H) (defBody (top 13)) (b_is_word C CE) := by
  have nd := sc_is_word.nd
  have hu := Ru.of hr
  have tk : L2N.Takes (cxOf (L2N.CX PySem.Challenge.rw_fieldrest_k03_blanks_filled.prog w) PySem.Challenge.rw_fieldrest_k03_blanks_filled.prog w K mg base N_is_word "is_word" (defScope (top 13)) f cdv A outer s H E) (fun cls d _ H => E cls d H) := L2N.takes_of rfl rfl rfl rfl
  exact (ds_one (ds_ret (de_and (de_isi (by rfl) M.m_isinstance (de_var (pv 0)) (pe_bltn (v := .ty "str") (by rfl) M.m_str (by decide +kernel) rfl)) (de_and (de_chain opLe_ok opLe_ok de_int (de_callB cLen_ok (by rfl) M.m_len (by decide +kernel) (da_cons (de_var (pv 0)) da_nil)) (de_gint (by rfl) M.g_MOST_SIGNS)) (de_one (de_callB (cAll_ok rfl) (by rfl) M.m_all (by decide +kernel) (da_cons (de_comp (own := [("sign", 1)]) rfl nd (di_items (de_var (pv 0))) (blkOk_by (N := N_is_word) (sc := (defScope (top 13))) (own := [("sign", 1)]) (by decide +kernel)) (fun _ _ _ _ _ => pg_name (i := 1) nd rfl (Or.inl rfl)) (tgr_name (by decide)) (fun _ _ _ _ _ => dts_nil) (fun _ _ _ _ _ => (de_cmp (opIn_ok hu) (de_var (pv 1)) (de_gstr (by rfl) M.g_SMALL (by decide +kernel)) rfl))) da_nil)))))))
theorem sc_is_pair : FnScope N_is_pair ["thing"] (defScope (top 14)) := ⟨rfl, rfl, rfl, by decide +kernel, rfl, by decide +kernel, by decide +kernel⟩
theorem der_is_pair (hC : ∀ g, Has PySem.Challenge.rw_fieldrest_k03_blanks_filled.prog w K mg base k (nm g) (ar g) (C g)) (M : Mgs mg) (hE : ∀ g y C, okX y = true → XT K mg y C → HasE PySem.Challenge.rw_fieldrest_k03_blanks_filled.prog w K mg base k (nmE g) (arE g) C (fun a => CE g a y)) (XF : Xs K mg) (f : Addr) (cdv : Value) (A : Around) (outer : List Env) (s : Shared) (H : Hp) (E : XK) (hr : Room k (A.deeper (envOfC "is_pair" (defScope (top 14)) s.heap.objs.size f cdv))) :
    DSs (cxOf (L2N.CX PySem.Challenge.rw_fieldrest_k03_blanks_filled.prog w) PySem.Challenge.rw_fieldrest_k03_blanks_filled.prog w K mg base N_is_pair "is_pair" (defScope (top 14)) f cdv A outer s H E) (fun cls d _ H => E cls d H) (defBody (top 14)) (b_is_pair C CE) := by
  have nd := sc_is_pair.nd
  have hu := Ru.of hr
  have tk : L2N.Takes (cxOf (L2N.CX PySem.Challenge.rw_fieldrest_k03_blanks_filled.prog w) PySem.Challenge.rw_fieldrest_k03_blanks_filled.prog w K mg base N_is_pair "is_pair" (defScope (top 14)) f cdv A outer s H E) (fun cls d _ H => E cls d H) := L2N.takes_of rfl rfl rfl rfl
  exact (ds_one (ds_ret (de_and (de_isi (by rfl) M.m_isinstance (de_var (pv 0)) (pe_bltn (v := .ty "tuple") (by rfl) M.m_tuple (by decide +kernel) rfl)) (de_and (de_cmp (opEq_ok hu) (de_callB cLen_ok (by rfl) M.m_len (by decide +kernel) (da_cons (de_var (pv 0)) da_nil)) de_int (nomark _)) (de_one (de_call (hC .is_word) hr tk (by rfl) (dal_cons (de_ix (opIx_ok hu) (de_var (pv 0)) de_int) dal_nil)))))))
theorem sc_is_rest : FnScope N_is_rest ["thing"] (defScope (top 18)) := ⟨rfl, rfl, rfl, by decide +kernel, rfl, by decide +kernel, by decide +kernel⟩
theorem der_is_rest (hC : ∀ g, Has PySem.Challenge.rw_fieldrest_k03_blanks_filled.prog w K mg base k (nm g) (ar g) (C g)) (M : Mgs mg) (hE : ∀ g y C, okX y = true → XT K mg y C → HasE PySem.Challenge.rw_fieldrest_k03_blanks_filled.prog w K mg base k (nmE g) (arE g) C (fun a => CE g a y)) (XF : Xs K mg) (f : Addr) (cdv : Value) (A : Around) (outer : List Env) (s : Shared) (H : Hp) (E : XK) (hr : Room k (A.deeper (envOfC "is_rest" (defScope (top 18)) s.heap.objs.size f cdv))) :
    DSs (cxOf (L2N.CX PySem.Challenge.rw_fieldrest_k03_blanks_filled.prog w) PySem.Challenge.rw_fieldrest_k03_blanks_filled.prog w K mg base N_is_rest "is_rest" (defScope (top 18)) f cdv A outer s H E) (fun cls d _ H => E cls d H) (defBody (top 18)) (b_is_rest C CE) := by
  have nd := sc_is_rest.nd
  have hu := Ru.of hr
  have tk : L2N.Takes (cxOf (L2N.CX PySem.Challenge.rw_fieldrest_k03_blanks_filled.prog w) PySem.Challenge.rw_fieldrest_k03_blanks_filled.prog w K mg base N_is_rest "is_rest" (defScope (top 18)) f cdv A outer s H E) (fun cls d _ H => E cls d H) := L2N.takes_of rfl rfl rfl rfl
  exact (ds_one (ds_ret (de_or (de_cmp opIsN_ok (de_var (pv 0)) de_non (nomark _)) (de_one (de_and (de_call (hC .is_whole) hr tk (by rfl) (dal_cons (de_var (pv 0)) dal_nil)) (de_one (de_cmp opGe_ok (de_var (pv 0)) de_int (nomark _))))))))
theorem sc_is_row : FnScope N_is_row ["fields", "deep"] (defScope (top 19)) := ⟨rfl, rfl, rfl, by decide +kernel, rfl, by decide +kernel, by decide +kernel⟩
theorem der_is_row (hC : ∀ g, Has PySem.Challenge.rw_fieldrest_k03_blanks_filled.prog w K mg base k (nm g) (ar g) (C g)) (M : Mgs mg) (hE : ∀ g y C, okX y = true → XT K mg y C → HasE PySem.Challenge.rw_fieldrest_k03_blanks_filled.prog w K mg base k (nmE g) (arE g) C (fun a => CE g a y)) (XF : Xs K mg) (f : Addr) (cdv : Value) (A : Around) (outer : List Env) (s : Shared) (H : Hp) (E : XK) (hr : Room k (A.deeper (envOfC "is_row" (defScope (top 19)) s.heap.objs.size f cdv))) :
    DSs (cxOf (L2N.CX PySem.Challenge.rw_fieldrest_k03_blanks_filled.prog w) PySem.Challenge.rw_fieldrest_k03_blanks_filled.prog w K mg base N_is_row "is_row" (defScope (top 19)) f cdv A outer s H E) (fun cls d _ H => E cls d H) (defBody (top 19)) (b_is_row C CE) := by
  have nd := sc_is_row.nd
  have hu := Ru.of hr
  have tk : L2N.Takes (cxOf (L2N.CX PySem.Challenge.rw_fieldrest_k03_blanks_filled.prog w) PySem.Challenge.rw_fieldrest_k03_blanks_filled.prog w K mg base N_is_row "is_row" (defScope (top 19)) f cdv A outer s H E) (fun cls d _ H => E cls d H) := L2N.takes_of rfl rfl rfl rfl
  exact (ds_cons (ds_if (dw_pt (dw_or (dt_not (dt_val (de_isi (by rfl) M.m_isinstance (de_var (pv 0)) (pe_bltn (v := .ty "tuple") (by rfl) M.m_tuple (by decide +kernel) rfl)))) (dw_or1 (dt_not (dt_val (de_callB (cAll_ok rfl) (by rfl) M.m_all (by decide +kernel) (da_cons (de_comp (own := [("pair", 2)]) rfl nd (di_items (de_var (pv 0))) (blkOk_by (N := N_is_row) (sc := (defScope (top 19))) (own := [("pair", 2)]) (by decide +kernel)) (fun _ _ _ _ _ => pg_name (i := 2) nd rfl (Or.inl rfl)) (tgr_name (by decide)) (fun _ _ _ _ _ => dts_nil) (fun _ _ _ _ _ => (de_call (hC .is_pair) hr takesN0 (by rfl) (dal_cons (de_var (pv 2)) dal_nil)))) da_nil))))))) (ds_one (ds_ret de_bl)) ds_nil)
    (ds_cons (ds_setComp (own := [("pair", 2)]) (i := 3) rfl nd rfl rfl (sw_true rfl rfl rfl (by decide +kernel)) (di_items (de_var (pv 0))) (blkOk_by (N := N_is_row) (sc := (defScope (top 19))) (own := [("pair", 2)]) (by decide +kernel)) (fun _ _ _ _ _ => pg_name (i := 2) nd rfl (Or.inl rfl)) (tgr_name (by decide)) (fun _ _ _ _ _ => dts_nil) (fun _ _ _ _ _ => (de_ix (opIx_ok hu) (de_var (pv 2)) de_int)))
    (ds_cons (ds_if (dw_pt (dw_or (dt_cmp (opNe_ok hu) (de_var (pv 3)) (de_callB cSorted_ok (by rfl) M.m_sorted (by decide +kernel) (da_cons (de_var (pv 3)) da_nil)) (nomark _)) (dw_or1 (dt_cmp (opNe_ok hu) (de_lenSet rfl (by rfl) M.m_len (by rfl) M.m_set (de_var (pv 3))) (de_callB cLen_ok (by rfl) M.m_len (by decide +kernel) (da_cons (de_var (pv 3)) da_nil)) (nomark _))))) (ds_one (ds_ret de_bl)) ds_nil)
    (ds_one (ds_ret (de_callB (cAll_ok rfl) (by rfl) M.m_all (by decide +kernel) (da_cons (de_comp (own := [("pair", 2)]) rfl nd (di_items (de_var (pv 0))) (blkOk_by (N := N_is_row) (sc := (defScope (top 19))) (own := [("pair", 2)]) (by decide +kernel)) (fun _ _ _ _ _ => pg_name (i := 2) nd rfl (Or.inl rfl)) (tgr_name (by decide)) (fun _ _ _ _ _ => dts_nil) (fun _ _ _ _ _ => (de_call (hC .is_kind_in) hr takesN0 (by rfl) (dal_cons (de_ix (opIx_ok hu) (de_var (pv 2)) de_int) (dal_cons (de_var (pv 1)) dal_nil))))) da_nil)))))))
theorem sc_is_kind_in : FnScope N_is_kind_in ["thing", "deep"] (defScope (top 20)) := ⟨rfl, rfl, rfl, by decide +kernel, rfl, by decide +kernel, by decide +kernel⟩
theorem der_is_kind_in (hC : ∀ g, Has PySem.Challenge.rw_fieldrest_k03_blanks_filled.prog w K mg base k (nm g) (ar g) (C g)) (M : Mgs mg) (hE : ∀ g y C, okX y = true → XT K mg y C → HasE PySem.Challenge.rw_fieldrest_k03_blanks_filled.prog w K mg base k (nmE g) (arE g) C (fun a => CE g a y)) (XF : Xs K mg) (f : Addr) (cdv : Value) (A : Around) (outer : List Env) (s : Shared) (H : Hp) (E : XK) (hr : Room k (A.deeper (envOfC "is_kind_in" (defScope (top 20)) s.heap.objs.size f cdv))) :
    DSs (cxOf (L2N.CX PySem.Challenge.rw_fieldrest_k03_blanks_filled.prog w) PySem.Challenge.rw_fieldrest_k03_blanks_filled.prog w K mg base N_is_kind_in "is_kind_in" (defScope (top 20)) f cdv A outer s H E) (fun cls d _ H => E cls d H) (defBody (top 20)) (b_is_kind_in C CE) := by
  have nd := sc_is_kind_in.nd
  have hu := Ru.of hr
  have tk : L2N.Takes (cxOf (L2N.CX PySem.Challenge.rw_fieldrest_k03_blanks_filled.prog w) PySem.Challenge.rw_fieldrest_k03_blanks_filled.prog w K mg base N_is_kind_in "is_kind_in" (defScope (top 20)) f cdv A outer s H E) (fun cls d _ H => E cls d H) := L2N.takes_of rfl rfl rfl rfl
  exact (ds_cons (ds_if (dw_pt (dw_or (dt_cmp (opEq_ok hu) (de_var (pv 1)) de_int (nomark _)) (dw_or (dt_not (dt_val (de_isi (by rfl) M.m_isinstance (de_var (pv 0)) (pe_bltn (v := .ty "tuple") (by rfl) M.m_tuple (by decide +kernel) rfl)))) (dw_or (dt_cmp opLt_ok (de_callB cLen_ok (by rfl) M.m_len (by decide +kernel) (da_cons (de_var (pv 0)) da_nil)) de_int (nomark _)) (dw_or1 (dt_not (dt_val (de_isi (by rfl) M.m_isinstance (de_ix (opIx_ok hu) (de_var (pv 0)) de_int) (pe_bltn (v := .ty "str") (by rfl) M.m_str (by decide +kernel) rfl))))))))) (ds_one (ds_ret de_bl)) ds_nil)
    (ds_cons (ds_if (dt_cmp (opEq_ok hu) (de_ix (opIx_ok hu) (de_var (pv 0)) de_int) (de_str (by decide +kernel)) (nomark _)) (ds_one (ds_ret (de_cmp (opEq_ok hu) (de_callB cLen_ok (by rfl) M.m_len (by decide +kernel) (da_cons (de_var (pv 0)) da_nil)) de_int (nomark _)))) ds_nil)
    (ds_cons (ds_if (dt_cmp (opEq_ok hu) (de_ix (opIx_ok hu) (de_var (pv 0)) de_int) (de_str (by decide +kernel)) (nomark _)) (ds_one (ds_ret (de_and (de_cmp (opEq_ok hu) (de_callB cLen_ok (by rfl) M.m_len (by decide +kernel) (da_cons (de_var (pv 0)) da_nil)) de_int (nomark _)) (de_and (de_call (hC .is_whole) hr tk (by rfl) (dal_cons (de_ix (opIx_ok hu) (de_var (pv 0)) de_int) dal_nil)) (de_one (de_cmp opGe_ok (de_ix (opIx_ok hu) (de_var (pv 0)) de_int) de_int (nomark _))))))) ds_nil)
    (ds_one (ds_ret (de_and (de_cmp (opEq_ok hu) (de_ix (opIx_ok hu) (de_var (pv 0)) de_int) (de_str (by decide +kernel)) (nomark _)) (de_and (de_cmp (opEq_ok hu) (de_callB cLen_ok (by rfl) M.m_len (by decide +kernel) (da_cons (de_var (pv 0)) da_nil)) de_int (nomark _)) (de_and (de_call (hC .is_rest) hr tk (by rfl) (dal_cons (de_ix (opIx_ok hu) (de_var (pv 0)) de_int) dal_nil)) (de_one (de_call (hC .is_row) hr tk (by rfl) (dal_cons (de_ix (opIx_ok hu) (de_var (pv 0)) de_int) (dal_cons (de_bin opSub_ok (de_var (pv 1)) de_int) dal_nil))))))))))))
theorem sc_knots : FnScope N_knots ["kind"] (defScope (top 21)) := ⟨rfl, rfl, rfl, by decide +kernel, rfl, by decide +kernel, by decide +kernel⟩
theorem der_knots (hC : ∀ g, Has PySem.Challenge.rw_fieldrest_k03_blanks_filled.prog w K mg base k (nm g) (ar g) (C g)) (M : Mgs mg) (hE : ∀ g y C, okX y = true → XT K mg y C → HasE PySem.Challenge.rw_fieldrest_k03_blanks_filled.prog w K mg base k (nmE g) (arE g) C (fun a => CE g a y)) (XF : Xs K mg) (f : Addr) (cdv : Value) (A : Around) (outer : List Env) (s : Shared) (H : Hp) (E : XK) (hr : Room k (A.deeper (envOfC "knots" (defScope (top 21)) s.heap.objs.size f cdv))) :
    DSs (cxOf (L2N.CX PySem.Challenge.rw_fieldrest_k03_blanks_filled.prog w) PySem.Challenge.rw_fieldrest_k03_blanks_filled.prog w K mg base N_knots "knots" (defScope (top 21)) f cdv A outer s H E) (fun cls d _ H => E cls d H) (defBody (top 21)) (b_knots C CE) := by
  have nd := sc_knots.nd
  have hu := Ru.of hr
  have tk : L2N.Takes (cxOf (L2N.CX PySem.Challenge.rw_fieldrest_k03_blanks_filled.prog w) PySem.Challenge.rw_fieldrest_k03_blanks_filled.prog w K mg base N_knots "knots" (defScope (top 21)) f cdv A outer s H E) (fun cls d _ H => E cls d H) := L2N.takes_of rfl rfl rfl rfl
  exact (ds_cons (ds_if (dt_cmp (opNe_ok hu) (de_ix (opIx_ok hu) (de_var (pv 0)) de_int) (de_str (by decide +kernel)) (nomark _)) (ds_one (ds_ret de_int)) ds_nil)
    (ds_one (ds_ret (de_bin opAdd_ok de_int (de_callB (cSum_ok rfl) (by rfl) M.m_sum (by decide +kernel) (da_cons (de_comp (own := [("pair", 1)]) rfl nd (di_items (de_ix (opIx_ok hu) (de_var (pv 0)) de_int)) (blkOk_by (N := N_knots) (sc := (defScope (top 21))) (own := [("pair", 1)]) (by decide +kernel)) (fun _ _ _ _ _ => pg_name (i := 1) nd rfl (Or.inl rfl)) (tgr_name (by decide)) (fun _ _ _ _ _ => dts_nil) (fun _ _ _ _ _ => (de_call (hC .knots) hr takesN0 (by rfl) (dal_cons (de_ix (opIx_ok hu) (de_var (pv 1)) de_int) dal_nil)))) da_nil))))))
theorem sc_depth : FnScope N_depth ["kind"] (defScope (top 22)) := ⟨rfl, rfl, rfl, by decide +kernel, rfl, by decide +kernel, by decide +kernel⟩
theorem der_depth (hC : ∀ g, Has PySem.Challenge.rw_fieldrest_k03_blanks_filled.prog w K mg base k (nm g) (ar g) (C g)) (M : Mgs mg) (hE : ∀ g y C, okX y = true → XT K mg y C → HasE PySem.Challenge.rw_fieldrest_k03_blanks_filled.prog w K mg base k (nmE g) (arE g) C (fun a => CE g a y)) (XF : Xs K mg) (f : Addr) (cdv : Value) (A : Around) (outer : List Env) (s : Shared) (H : Hp) (E : XK) (hr : Room k (A.deeper (envOfC "depth" (defScope (top 22)) s.heap.objs.size f cdv))) :
    DSs (cxOf (L2N.CX PySem.Challenge.rw_fieldrest_k03_blanks_filled.prog w) PySem.Challenge.rw_fieldrest_k03_blanks_filled.prog w K mg base N_depth "depth" (defScope (top 22)) f cdv A outer s H E) (fun cls d _ H => E cls d H) (defBody (top 22)) (b_depth C CE) := by
  have nd := sc_depth.nd
  have hu := Ru.of hr
  have tk : L2N.Takes (cxOf (L2N.CX PySem.Challenge.rw_fieldrest_k03_blanks_filled.prog w) PySem.Challenge.rw_fieldrest_k03_blanks_filled.prog w K mg base N_depth "depth" (defScope (top 22)) f cdv A outer s H E) (fun cls d _ H => E cls d H) := L2N.takes_of rfl rfl rfl rfl
  exact (ds_cons (ds_if (dt_cmp (opNe_ok hu) (de_ix (opIx_ok hu) (de_var (pv 0)) de_int) (de_str (by decide +kernel)) (nomark _)) (ds_one (ds_ret de_int)) ds_nil)
    (ds_one (ds_ret (de_bin opAdd_ok de_int (de_maxD rfl hu (by rfl) M.m_max (de_comp (own := [("pair", 1)]) rfl nd (di_items (de_ix (opIx_ok hu) (de_var (pv 0)) de_int)) (blkOk_by (N := N_depth) (sc := (defScope (top 22))) (own := [("pair", 1)]) (by decide +kernel)) (fun _ _ _ _ _ => pg_name (i := 1) nd rfl (Or.inl rfl)) (tgr_name (by decide)) (fun _ _ _ _ _ => dts_nil) (fun _ _ _ _ _ => (de_call (hC .depth) hr takesN0 (by rfl) (dal_cons (de_ix (opIx_ok hu) (de_var (pv 1)) de_int) dal_nil)))) de_int)))))
theorem sc_blanks_in : FnScope N_blanks_in ["kind", "found"] (defScope (top 23)) := ⟨rfl, rfl, rfl, by decide +kernel, rfl, by decide +kernel, by decide +kernel⟩
theorem der_blanks_in (hC : ∀ g, Has PySem.Challenge.rw_fieldrest_k03_blanks_filled.prog w K mg base k (nm g) (ar g) (C g)) (M : Mgs mg) (hE : ∀ g y C, okX y = true → XT K mg y C → HasE PySem.Challenge.rw_fieldrest_k03_blanks_filled.prog w K mg base k (nmE g) (arE g) C (fun a => CE g a y)) (XF : Xs K mg) (f : Addr) (cdv : Value) (A : Around) (outer : List Env) (s : Shared) (H : Hp) (E : XK) (hr : Room k (A.deeper (envOfC "blanks_in" (defScope (top 23)) s.heap.objs.size f cdv))) :
    DSs (cxOf (L2N.CX PySem.Challenge.rw_fieldrest_k03_blanks_filled.prog w) PySem.Challenge.rw_fieldrest_k03_blanks_filled.prog w K mg base N_blanks_in "blanks_in" (defScope (top 23)) f cdv A outer s H E) (fun cls d _ H => E cls d H) (defBody (top 23)) (b_blanks_in C CE) := by
  have nd := sc_blanks_in.nd
  have hu := Ru.of hr
  have tk : L2N.Takes (cxOf (L2N.CX PySem.Challenge.rw_fieldrest_k03_blanks_filled.prog w) PySem.Challenge.rw_fieldrest_k03_blanks_filled.prog w K mg base N_blanks_in "blanks_in" (defScope (top 23)) f cdv A outer s H E) (fun cls d _ H => E cls d H) := L2N.takes_of rfl rfl rfl rfl
  exact (ds_cons (ds_if (dt_cmp (opEq_ok hu) (de_ix (opIx_ok hu) (de_var (pv 0)) de_int) (de_str (by decide +kernel)) (nomark _)) (ds_one (ds_ret (de_call (hC .put_blank) hr tk (by rfl) (dal_cons (de_var (pv 1)) (dal_cons (de_ix (opIx_ok hu) (de_var (pv 0)) de_int) (dal_cons de_non dal_nil)))))) ds_nil)
    (ds_cons (ds_set (i := 2) nd rfl (Or.inl rfl) de_bl)
    (ds_cons (ds_if (dt_cmp (opEq_ok hu) (de_ix (opIx_ok hu) (de_var (pv 0)) de_int) (de_str (by decide +kernel)) (nomark _)) (ds_cons (ds_for (passes_of rfl) rfl (di_items (de_ix (opIx_ok hu) (de_var (pv 0)) de_int)) (dg_name (pg_name (i := 3) nd rfl (Or.inl rfl))) (ds_one (ds_set (i := 2) nd rfl (Or.inl rfl) (de_and (de_call (hC .blanks_in) hr tk (by rfl) (dal_cons (de_ix (opIx_ok hu) (de_var (pv 3)) de_int) (dal_cons (de_var (pv 1)) dal_nil))) (de_one (de_var (pv 2)))))))
    (ds_one (ds_if (dt_cmp opNotN_ok (de_ix (opIx_ok hu) (de_var (pv 0)) de_int) de_non (nomark _)) (ds_one (ds_set (i := 2) nd rfl (Or.inl rfl) (de_and (de_call (hC .put_blank) hr tk (by rfl) (dal_cons (de_var (pv 1)) (dal_cons (de_ix (opIx_ok hu) (de_var (pv 0)) de_int) (dal_cons (de_comp (own := [("pair", 3)]) rfl nd (di_items (de_ix (opIx_ok hu) (de_var (pv 0)) de_int)) (blkOk_by (N := N_blanks_in) (sc := (defScope (top 23))) (own := [("pair", 3)]) (by decide +kernel)) (fun _ _ _ _ _ => pg_name (i := 3) nd rfl (Or.inl rfl)) (tgr_name (by decide)) (fun _ _ _ _ _ => dts_nil) (fun _ _ _ _ _ => (de_ix (opIx_ok hu) (de_var (pv 3)) de_int))) dal_nil)))) (de_one (de_var (pv 2)))))) ds_nil))) ds_nil)
    (ds_one (ds_ret (de_var (pv 2)))))))
theorem sc_put_blank : FnScope N_put_blank ["found", "number", "labels"] (defScope (top 24)) := ⟨rfl, rfl, rfl, by decide +kernel, rfl, by decide +kernel, by decide +kernel⟩
theorem der_put_blank (hC : ∀ g, Has PySem.Challenge.rw_fieldrest_k03_blanks_filled.prog w K mg base k (nm g) (ar g) (C g)) (M : Mgs mg) (hE : ∀ g y C, okX y = true → XT K mg y C → HasE PySem.Challenge.rw_fieldrest_k03_blanks_filled.prog w K mg base k (nmE g) (arE g) C (fun a => CE g a y)) (XF : Xs K mg) (f : Addr) (cdv : Value) (A : Around) (outer : List Env) (s : Shared) (H : Hp) (E : XK) (hr : Room k (A.deeper (envOfC "put_blank" (defScope (top 24)) s.heap.objs.size f cdv))) :
    DSs (cxOf (L2N.CX PySem.Challenge.rw_fieldrest_k03_blanks_filled.prog w) PySem.Challenge.rw_fieldrest_k03_blanks_filled.prog w K mg base N_put_blank "put_blank" (defScope (top 24)) f cdv A outer s H E) (fun cls d _ H => E cls d H) (defBody (top 24)) (b_put_blank C CE) := by
  have nd := sc_put_blank.nd
  have hu := Ru.of hr
  have tk : L2N.Takes (cxOf (L2N.CX PySem.Challenge.rw_fieldrest_k03_blanks_filled.prog w) PySem.Challenge.rw_fieldrest_k03_blanks_filled.prog w K mg base N_put_blank "put_blank" (defScope (top 24)) f cdv A outer s H E) (fun cls d _ H => E cls d H) := L2N.takes_of rfl rfl rfl rfl
  exact (ds_cons (ds_if (dt_cmp (opNotIn_ok hu) (de_var (pv 1)) (de_var (pv 0)) rfl) (ds_one (ds_asg (de_var (pv 2)) (dg_sub (de_var (pv 0)) (de_var (pv 1)) (opSet_ok hu)))) ds_nil)
    (ds_one (ds_ret (de_cmp (opEq_ok hu) (de_ix (opIx_ok hu) (de_var (pv 0)) (de_var (pv 1))) (de_var (pv 2)) (nomark _)))))
theorem sc_is_kind : FnScope N_is_kind ["thing"] (defScope (top 25)) := ⟨rfl, rfl, rfl, by decide +kernel, rfl, by decide +kernel, by decide +kernel⟩
theorem der_is_kind (hC : ∀ g, Has PySem.Challenge.rw_fieldrest_k03_blanks_filled.prog w K mg base k (nm g) (ar g) (C g)) (M : Mgs mg) (hE : ∀ g y C, okX y = true → XT K mg y C → HasE PySem.Challenge.rw_fieldrest_k03_blanks_filled.prog w K mg base k (nmE g) (arE g) C (fun a => CE g a y)) (XF : Xs K mg) (f : Addr) (cdv : Value) (A : Around) (outer : List Env) (s : Shared) (H : Hp) (E : XK) (hr : Room k (A.deeper (envOfC "is_kind" (defScope (top 25)) s.heap.objs.size f cdv))) :
    DSs (cxOf (L2N.CX PySem.Challenge.rw_fieldrest_k03_blanks_filled.prog w) PySem.Challenge.rw_fieldrest_k03_blanks_filled.prog w K mg base N_is_kind "is_kind" (defScope (top 25)) f cdv A outer s H E) (fun cls d _ H => E cls d H) (defBody (top 25)) (b_is_kind C CE) := by
  have nd := sc_is_kind.nd
  have hu := Ru.of hr
  have tk : L2N.Takes (cxOf (L2N.CX PySem.Challenge.rw_fieldrest_k03_blanks_filled.prog w) PySem.Challenge.rw_fieldrest_k03_blanks_filled.prog w K mg base N_is_kind "is_kind" (defScope (top 25)) f cdv A outer s H E) (fun cls d _ H => E cls d H) := L2N.takes_of rfl rfl rfl rfl
  exact (ds_one (ds_ret (de_and (de_call (hC .is_kind_in) hr tk (by rfl) (dal_cons (de_var (pv 0)) (dal_cons (de_gint (by rfl) M.g_MOST_KIND_DEEP) dal_nil))) (de_and (de_cmp opLe_ok (de_call (hC .knots) hr tk (by rfl) (dal_cons (de_var (pv 0)) dal_nil)) (de_gint (by rfl) M.g_MOST_KNOTS) (nomark _)) (de_one (de_call (hC .blanks_in) hr tk (by rfl) (dal_cons (de_var (pv 0)) (dal_cons de_newK dal_nil))))))))
theorem sc_need_kind : FnScope N_need_kind ["thing"] (defScope (top 26)) := ⟨rfl, rfl, rfl, by decide +kernel, rfl, by decide +kernel, by decide +kernel⟩
theorem der_need_kind (hC : ∀ g, Has PySem.Challenge.rw_fieldrest_k03_blanks_filled.prog w K mg base k (nm g) (ar g) (C g)) (M : Mgs mg) (hE : ∀ g y C, okX y = true → XT K mg y C → HasE PySem.Challenge.rw_fieldrest_k03_blanks_filled.prog w K mg base k (nmE g) (arE g) C (fun a => CE g a y)) (XF : Xs K mg) (f : Addr) (cdv : Value) (A : Around) (outer : List Env) (s : Shared) (H : Hp) (E : XK) (hr : Room k (A.deeper (envOfC "need_kind" (defScope (top 26)) s.heap.objs.size f cdv))) :
    DSs (cxOf (L2N.CX PySem.Challenge.rw_fieldrest_k03_blanks_filled.prog w) PySem.Challenge.rw_fieldrest_k03_blanks_filled.prog w K mg base N_need_kind "need_kind" (defScope (top 26)) f cdv A outer s H E) (fun cls d _ H => E cls d H) (defBody (top 26)) (b_need_kind C CE) := by
  have nd := sc_need_kind.nd
  have hu := Ru.of hr
  have tk : L2N.Takes (cxOf (L2N.CX PySem.Challenge.rw_fieldrest_k03_blanks_filled.prog w) PySem.Challenge.rw_fieldrest_k03_blanks_filled.prog w K mg base N_need_kind "need_kind" (defScope (top 26)) f cdv A outer s H E) (fun cls d _ H => E cls d H) := L2N.takes_of rfl rfl rfl rfl
  exact (ds_one (ds_if (dt_not (dt_val (de_call (hC .is_kind) hr tk (by rfl) (dal_cons (de_var (pv 0)) dal_nil)))) (ds_one (ds_raiseX rfl tk (XF.x "BadKind" rfl) (by rfl))) ds_nil))
theorem sc_fill : FnScope N_fill ["kind", "fills"] (defScope (top 27)) := ⟨rfl, rfl, rfl, by decide +kernel, rfl, by decide +kernel, by decide +kernel⟩
theorem der_fill (hC : ∀ g, Has PySem.Challenge.rw_fieldrest_k03_blanks_filled.prog w K mg base k (nm g) (ar g) (C g)) (M : Mgs mg) (hE : ∀ g y C, okX y = true → XT K mg y C → HasE PySem.Challenge.rw_fieldrest_k03_blanks_filled.prog w K mg base k (nmE g) (arE g) C (fun a => CE g a y)) (XF : Xs K mg) (f : Addr) (cdv : Value) (A : Around) (outer : List Env) (s : Shared) (H : Hp) (E : XK) (hr : Room k (A.deeper (envOfC "fill" (defScope (top 27)) s.heap.objs.size f cdv))) :
    DSs (cxOf (L2N.CX PySem.Challenge.rw_fieldrest_k03_blanks_filled.prog w) PySem.Challenge.rw_fieldrest_k03_blanks_filled.prog w K mg base N_fill "fill" (defScope (top 27)) f cdv A outer s H E) (fun cls d _ H => E cls d H) (defBody (top 27)) (b_fill C CE) := by
  have nd := sc_fill.nd
  have hu := Ru.of hr
  have tk : L2N.Takes (cxOf (L2N.CX PySem.Challenge.rw_fieldrest_k03_blanks_filled.prog w) PySem.Challenge.rw_fieldrest_k03_blanks_filled.prog w K mg base N_fill "fill" (defScope (top 27)) f cdv A outer s H E) (fun cls d _ H => E cls d H) := L2N.takes_of rfl rfl rfl rfl
  exact (ds_cons (ds_if (dw_pt (dw_and (dt_cmp (opEq_ok hu) (de_ix (opIx_ok hu) (de_var (pv 0)) de_int) (de_str (by decide +kernel)) (nomark _)) (dw_and1 (dt_cmp (opIn_ok hu) (de_ix (opIx_ok hu) (de_var (pv 0)) de_int) (de_var (pv 1)) rfl)))) (ds_one (ds_ret (de_ix (opIx_ok hu) (de_var (pv 1)) (de_ix (opIx_ok hu) (de_var (pv 0)) de_int)))) ds_nil)
    (ds_cons (ds_if (dt_cmp (opNe_ok hu) (de_ix (opIx_ok hu) (de_var (pv 0)) de_int) (de_str (by decide +kernel)) (nomark _)) (ds_one (ds_ret (de_var (pv 0)))) ds_nil)
    (ds_cons (ds_setComp (own := [("pair", 3)]) (i := 2) rfl nd rfl rfl (sw_true rfl rfl rfl (by decide +kernel)) (di_items (de_ix (opIx_ok hu) (de_var (pv 0)) de_int)) (blkOk_by (N := N_fill) (sc := (defScope (top 27))) (own := [("pair", 3)]) (by decide +kernel)) (fun _ _ _ _ _ => pg_name (i := 3) nd rfl (Or.inl rfl)) (tgr_name (by decide)) (fun _ _ _ _ _ => dts_nil) (fun _ _ _ _ _ => (de_tup (da_cons (de_ix (opIx_ok hu) (de_var (pv 3)) de_int) (da_cons (de_call (hC .fill) hr takesN0 (by rfl) (dal_cons (de_ix (opIx_ok hu) (de_var (pv 3)) de_int) (dal_cons (de_var (pv 1)) dal_nil))) da_nil)))))
    (ds_cons (ds_set (i := 4) nd rfl (Or.inl rfl) (de_ix (opIx_ok hu) (de_var (pv 0)) de_int))
    (ds_cons (ds_if (dw_pt (dw_and (dt_cmp opNotN_ok (de_var (pv 4)) de_non (nomark _)) (dw_and1 (dt_cmp (opIn_ok hu) (de_var (pv 4)) (de_var (pv 1)) rfl)))) (ds_cons (ds_set (i := 2) nd rfl (Or.inl rfl) (de_bin opAdd_ok (de_var (pv 2)) (de_callTy cList_ok (by rfl) M.m_list (by decide +kernel) (da_cons (de_ix (opIx_ok hu) (de_ix (opIx_ok hu) (de_var (pv 1)) (de_var (pv 4))) de_int) da_nil))))
    (ds_one (ds_set (i := 4) nd rfl (Or.inl rfl) (de_ix (opIx_ok hu) (de_ix (opIx_ok hu) (de_var (pv 1)) (de_var (pv 4))) de_int)))) ds_nil)
    (ds_one (ds_ret (de_tup (da_cons (de_str (by decide +kernel)) (da_cons (de_callTy cTuple_ok (by rfl) M.m_tuple (by decide +kernel) (da_cons (de_callB cSortedF_ok (by rfl) M.m_sorted (by decide +kernel) (da_cons (de_var (pv 2)) da_nil)) da_nil)) (da_cons (de_var (pv 4)) da_nil)))))))))))
theorem sc_is_fill : FnScope N_is_fill ["labels", "thing"] (defScope (top 28)) := ⟨rfl, rfl, rfl, by decide +kernel, rfl, by decide +kernel, by decide +kernel⟩
theorem der_is_fill (hC : ∀ g, Has PySem.Challenge.rw_fieldrest_k03_blanks_filled.prog w K mg base k (nm g) (ar g) (C g)) (M : Mgs mg) (hE : ∀ g y C, okX y = true → XT K mg y C → HasE PySem.Challenge.rw_fieldrest_k03_blanks_filled.prog w K mg base k (nmE g) (arE g) C (fun a => CE g a y)) (XF : Xs K mg) (f : Addr) (cdv : Value) (A : Around) (outer : List Env) (s : Shared) (H : Hp) (E : XK) (hr : Room k (A.deeper (envOfC "is_fill" (defScope (top 28)) s.heap.objs.size f cdv))) :
    DSs (cxOf (L2N.CX PySem.Challenge.rw_fieldrest_k03_blanks_filled.prog w) PySem.Challenge.rw_fieldrest_k03_blanks_filled.prog w K mg base N_is_fill "is_fill" (defScope (top 28)) f cdv A outer s H E) (fun cls d _ H => E cls d H) (defBody (top 28)) (b_is_fill C CE) := by
  have nd := sc_is_fill.nd
  have hu := Ru.of hr
  have tk : L2N.Takes (cxOf (L2N.CX PySem.Challenge.rw_fieldrest_k03_blanks_filled.prog w) PySem.Challenge.rw_fieldrest_k03_blanks_filled.prog w K mg base N_is_fill "is_fill" (defScope (top 28)) f cdv A outer s H E) (fun cls d _ H => E cls d H) := L2N.takes_of rfl rfl rfl rfl
  exact (ds_cons (ds_if (dt_cmp opIsN_ok (de_var (pv 0)) de_non (nomark _)) (ds_one (ds_ret (de_call (hC .is_kind_in) hr tk (by rfl) (dal_cons (de_var (pv 1)) (dal_cons (de_gint (by rfl) M.g_MOST_KIND_DEEP) dal_nil))))) ds_nil)
    (ds_cons (ds_if (dw_pt (dw_or (dt_not (dt_val (de_isi (by rfl) M.m_isinstance (de_var (pv 1)) (pe_bltn (v := .ty "tuple") (by rfl) M.m_tuple (by decide +kernel) rfl)))) (dw_or (dt_cmp (opNe_ok hu) (de_callB cLen_ok (by rfl) M.m_len (by decide +kernel) (da_cons (de_var (pv 1)) da_nil)) de_int (nomark _)) (dw_or1 (dt_not (dt_val (de_call (hC .is_kind_in) hr tk (by rfl) (dal_cons (de_bin opAdd_ok (de_tup (da_cons (de_str (by decide +kernel)) da_nil)) (de_var (pv 1))) (dal_cons (de_gint (by rfl) M.g_MOST_KIND_DEEP) dal_nil))))))))) (ds_one (ds_ret de_bl)) ds_nil)
    (ds_one (ds_ret (de_callB (cAll_ok rfl) (by rfl) M.m_all (by decide +kernel) (da_cons (de_comp (own := [("pair", 2)]) rfl nd (di_items (de_ix (opIx_ok hu) (de_var (pv 1)) de_int)) (blkOk_by (N := N_is_fill) (sc := (defScope (top 28))) (own := [("pair", 2)]) (by decide +kernel)) (fun _ _ _ _ _ => pg_name (i := 2) nd rfl (Or.inl rfl)) (tgr_name (by decide)) (fun _ _ _ _ _ => dts_nil) (fun _ _ _ _ _ => (de_cmp (opNotIn_ok hu) (de_ix (opIx_ok hu) (de_var (pv 2)) de_int) (de_var (pv 0)) rfl))) da_nil))))))
theorem sc_filled : FnScope N_filled ["kind", "fills"] (defScope (top 29)) := ⟨rfl, rfl, rfl, by decide +kernel, rfl, by decide +kernel, by decide +kernel⟩
theorem der_filled (hC : ∀ g, Has PySem.Challenge.rw_fieldrest_k03_blanks_filled.prog w K mg base k (nm g) (ar g) (C g)) (M : Mgs mg) (hE : ∀ g y C, okX y = true → XT K mg y C → HasE PySem.Challenge.rw_fieldrest_k03_blanks_filled.prog w K mg base k (nmE g) (arE g) C (fun a => CE g a y)) (XF : Xs K mg) (f : Addr) (cdv : Value) (A : Around) (outer : List Env) (s : Shared) (H : Hp) (E : XK) (hr : Room k (A.deeper (envOfC "filled" (defScope (top 29)) s.heap.objs.size f cdv))) :
    DSs (cxOf (L2N.CX PySem.Challenge.rw_fieldrest_k03_blanks_filled.prog w) PySem.Challenge.rw_fieldrest_k03_blanks_filled.prog w K mg base N_filled "filled" (defScope (top 29)) f cdv A outer s H E) (fun cls d _ H => E cls d H) (defBody (top 29)) (b_filled C CE) := by
  have nd := sc_filled.nd
  have hu := Ru.of hr
  have tk : L2N.Takes (cxOf (L2N.CX PySem.Challenge.rw_fieldrest_k03_blanks_filled.prog w) PySem.Challenge.rw_fieldrest_k03_blanks_filled.prog w K mg base N_filled "filled" (defScope (top 29)) f cdv A outer s H E) (fun cls d _ H => E cls d H) := L2N.takes_of rfl rfl rfl rfl
  exact (ds_cons (ds_expr (de_call (hC .need_kind) hr tk (by rfl) (dal_cons (de_var (pv 0)) dal_nil)))
    (ds_cons (ds_set (i := 2) nd rfl (Or.inl rfl) de_newK)
    (ds_cons (ds_expr (de_call (hC .blanks_in) hr tk (by rfl) (dal_cons (de_var (pv 0)) (dal_cons (de_var (pv 2)) dal_nil))))
    (ds_cons (ds_lock (i := 2) (ds_for (passes_of rfl) rfl (di_keys (de_var (pv 2))) (dg_name (pg_name (i := 3) nd rfl (Or.inl rfl))) (ds_one (ds_if (dw_pt (dw_and (dt_cmp (opIn_ok hu) (de_var (pv 3)) (de_var (pv 1)) rfl) (dw_and1 (dt_not (dt_val (de_call (hC .is_fill) hr tk (by rfl) (dal_cons (de_ix (opIx_ok hu) (de_var (pv 2)) (de_var (pv 3))) (dal_cons (de_ix (opIx_ok hu) (de_var (pv 1)) (de_var (pv 3))) dal_nil)))))))) (ds_one (ds_raiseX rfl tk (XF.x "BadFill" rfl) (by rfl))) ds_nil))))
    (ds_cons (ds_set (i := 4) nd rfl (Or.inl rfl) (de_call (hC .fill) hr tk (by rfl) (dal_cons (de_var (pv 0)) (dal_cons (de_var (pv 1)) dal_nil))))
    (ds_cons (ds_if (dw_pt (dw_or (dt_cmp opGt_ok (de_call (hC .knots) hr tk (by rfl) (dal_cons (de_var (pv 4)) dal_nil)) (de_gint (by rfl) M.g_MOST_KNOTS) (nomark _)) (dw_or1 (dt_cmp opGt_ok (de_call (hC .depth) hr tk (by rfl) (dal_cons (de_var (pv 4)) dal_nil)) (de_gint (by rfl) M.g_MOST_KIND_DEEP) (nomark _))))) (ds_one (ds_raiseX rfl tk (XF.x "TooGreat" rfl) (by rfl))) ds_nil)
    (ds_cons (ds_if (dt_not (dt_val (de_call (hC .is_kind) hr tk (by rfl) (dal_cons (de_var (pv 4)) dal_nil)))) (ds_one (ds_raiseX rfl tk (XF.x "BadFill" rfl) (by rfl))) ds_nil)
    (ds_one (ds_ret (de_var (pv 4)))))))))))
theorem sc__law_cell : FnScope N__law_cell ["_law_script", "_law_k"] (defScope (top 31)) := ⟨rfl, rfl, rfl, by decide +kernel, rfl, by decide +kernel, by decide +kernel⟩
theorem der__law_cell (hC : ∀ g, Has PySem.Challenge.rw_fieldrest_k03_blanks_filled.prog w K mg base k (nm g) (ar g) (C g)) (M : Mgs mg) (hE : ∀ g y C, okX y = true → XT K mg y C → HasE PySem.Challenge.rw_fieldrest_k03_blanks_filled.prog w K mg base k (nmE g) (arE g) C (fun a => CE g a y)) (XF : Xs K mg) (f : Addr) (cdv : Value) (A : Around) (outer : List Env) (s : Shared) (H : Hp) (E : XK) (hr : Room k (A.deeper (envOfC "_law_cell" (defScope (top 31)) s.heap.objs.size f cdv))) :
    DSs (cxOf (L2N.CX PySem.Challenge.rw_fieldrest_k03_blanks_filled.prog w) PySem.Challenge.rw_fieldrest_k03_blanks_filled.prog w K mg base N__law_cell "_law_cell" (defScope (top 31)) f cdv A outer s H E) (fun cls d _ H => E cls d H) (defBody (top 31)) (b__law_cell C CE) := by
  have nd := sc__law_cell.nd
  have hu := Ru.of hr
  have tk : L2N.Takes (cxOf (L2N.CX PySem.Challenge.rw_fieldrest_k03_blanks_filled.prog w) PySem.Challenge.rw_fieldrest_k03_blanks_filled.prog w K mg base N__law_cell "_law_cell" (defScope (top 31)) f cdv A outer s H E) (fun cls d _ H => E cls d H) := L2N.takes_of rfl rfl rfl rfl
  exact (ds_cons (ds_if (dt_cmp opLt_ok (de_var (pv 1)) (de_callB cLen_ok (by rfl) M.m_len (by decide +kernel) (da_cons (de_var (pv 0)) da_nil)) (nomark _)) (ds_one (ds_ret (de_bin opMod_ok (de_bin opMul_ok (de_ix (opIx_ok hu) (de_var (pv 0)) (de_var (pv 1))) de_int) de_int))) ds_nil)
    (ds_one (ds_ret de_int)))
theorem sc__law_next : FnScope N__law_next ["_law_state"] (defScope (top 32)) := ⟨rfl, rfl, rfl, by decide +kernel, rfl, by decide +kernel, by decide +kernel⟩
theorem der__law_next (hC : ∀ g, Has PySem.Challenge.rw_fieldrest_k03_blanks_filled.prog w K mg base k (nm g) (ar g) (C g)) (M : Mgs mg) (hE : ∀ g y C, okX y = true → XT K mg y C → HasE PySem.Challenge.rw_fieldrest_k03_blanks_filled.prog w K mg base k (nmE g) (arE g) C (fun a => CE g a y)) (XF : Xs K mg) (f : Addr) (cdv : Value) (A : Around) (outer : List Env) (s : Shared) (H : Hp) (E : XK) (hr : Room k (A.deeper (envOfC "_law_next" (defScope (top 32)) s.heap.objs.size f cdv))) :
    DSs (cxOf (L2N.CX PySem.Challenge.rw_fieldrest_k03_blanks_filled.prog w) PySem.Challenge.rw_fieldrest_k03_blanks_filled.prog w K mg base N__law_next "_law_next" (defScope (top 32)) f cdv A outer s H E) (fun cls d _ H => E cls d H) (defBody (top 32)) (b__law_next C CE) := by
  have nd := sc__law_next.nd
  have hu := Ru.of hr
  have tk : L2N.Takes (cxOf (L2N.CX PySem.Challenge.rw_fieldrest_k03_blanks_filled.prog w) PySem.Challenge.rw_fieldrest_k03_blanks_filled.prog w K mg base N__law_next "_law_next" (defScope (top 32)) f cdv A outer s H E) (fun cls d _ H => E cls d H) := L2N.takes_of rfl rfl rfl rfl
  exact (ds_cons (ds_asg (de_bin opMod_ok (de_bin opAdd_ok (de_bin opMul_ok (de_ix (opIx_ok hu) (de_var (pv 0)) de_int) de_int) de_int) de_int) (dg_sub (de_var (pv 0)) de_int (opSet_ok hu)))
    (ds_cons (ds_asg (de_bin opSub_ok (de_ix (opIx_ok hu) (de_var (pv 0)) de_int) de_int) (dg_sub (de_var (pv 0)) de_int (opSet_ok hu)))
    (ds_one (ds_ret (de_bin opDiv_ok (de_ix (opIx_ok hu) (de_var (pv 0)) de_int) de_int)))))
theorem sc__law_labels : FnScope N__law_labels ["_law_cell_here", "_law_many"] (defScope (top 33)) := ⟨rfl, rfl, rfl, by decide +kernel, rfl, by decide +kernel, by decide +kernel⟩
theorem der__law_labels (hC : ∀ g, Has PySem.Challenge.rw_fieldrest_k03_blanks_filled.prog w K mg base k (nm g) (ar g) (C g)) (M : Mgs mg) (hE : ∀ g y C, okX y = true → XT K mg y C → HasE PySem.Challenge.rw_fieldrest_k03_blanks_filled.prog w K mg base k (nmE g) (arE g) C (fun a => CE g a y)) (XF : Xs K mg) (f : Addr) (cdv : Value) (A : Around) (outer : List Env) (s : Shared) (H : Hp) (E : XK) (hr : Room k (A.deeper (envOfC "_law_labels" (defScope (top 33)) s.heap.objs.size f cdv))) :
    DSs (cxOf (L2N.CX PySem.Challenge.rw_fieldrest_k03_blanks_filled.prog w) PySem.Challenge.rw_fieldrest_k03_blanks_filled.prog w K mg base N__law_labels "_law_labels" (defScope (top 33)) f cdv A outer s H E) (fun cls d _ H => E cls d H) (defBody (top 33)) (b__law_labels C CE) := by
  have nd := sc__law_labels.nd
  have hu := Ru.of hr
  have tk : L2N.Takes (cxOf (L2N.CX PySem.Challenge.rw_fieldrest_k03_blanks_filled.prog w) PySem.Challenge.rw_fieldrest_k03_blanks_filled.prog w K mg base N__law_labels "_law_labels" (defScope (top 33)) f cdv A outer s H E) (fun cls d _ H => E cls d H) := L2N.takes_of rfl rfl rfl rfl
  exact (ds_cons (ds_set (i := 2) nd rfl (Or.inr rfl) (de_str (by decide +kernel)))
    (ds_cons (ds_set (i := 3) nd rfl (Or.inl rfl) (de_bin opMod_ok (de_var (pv 0)) de_int))
    (ds_cons (ds_set (i := 4) nd rfl (Or.inl rfl) (de_bin opMod_ok (de_bin opDiv_ok (de_var (pv 0)) de_int) (de_bin opAdd_ok (de_var (pv 3)) de_int)))
    (ds_cons (ds_set (i := 5) nd rfl (Or.inr rfl) (de_bin opMod_ok (de_bin opDiv_ok (de_var (pv 0)) de_int) de_int))
    (ds_cons (ds_set (i := 6) nd rfl (Or.inl rfl) (de_join (de_str (by decide +kernel)) (de_comp (own := [("_law_k", 7)]) rfl nd (di_range1 (by rfl) M.m_range (de_var (pv 3))) (blkOk_by (N := N__law_labels) (sc := (defScope (top 33))) (own := [("_law_k", 7)]) (by decide +kernel)) (fun _ _ _ _ _ => pg_name (i := 7) nd rfl (Or.inl rfl)) (tgr_name (by decide)) (fun _ _ _ _ _ => dts_nil) (fun _ _ _ _ _ => (de_ix (opIx_ok hu) (de_var (pv 2)) (de_bin opMod_ok (de_bin opAdd_ok (de_var (pv 5)) (de_bin opMul_ok (de_bin opDiv_ok (de_var (pv 0)) de_int) (de_var (pv 7)))) de_int))))))
    (ds_cons (ds_set (i := 8) nd rfl (Or.inl rfl) (de_lstR da_nil))
    (ds_cons (ds_for (passes_of rfl) rfl (di_range1 (by rfl) M.m_range (de_var (pv 1))) (dg_name (pg_name (i := 7) nd rfl (Or.inl rfl))) (ds_cons (ds_set (i := 9) nd rfl (Or.inl rfl) (de_ix (opIx_ok hu) (de_var (pv 2)) (de_bin opMod_ok (de_bin opAdd_ok (de_bin opDiv_ok (de_var (pv 0)) de_int) (de_bin opMul_ok de_int (de_var (pv 7)))) de_int)))
    (ds_one (ds_expr (de_mlist PySem.F.slot_list_append PySem.F.type_list_append cAppend_ok (de_var (pv 8)) (da_cons (de_bin opAdd_ok (de_bin opAdd_ok (de_slice (de_var (pv 6)) do_none (do_some (de_var (pv 4)))) (de_var (pv 9))) (de_slice (de_var (pv 6)) (do_some (de_var (pv 4))) do_none)) da_nil))))))
    (ds_one (ds_ret (de_var (pv 8)))))))))))
theorem sc__law_kind : FnScope N__law_kind ["_law_state", "_law_labels_here", "_law_met_here", "_law_left"] (defScope (top 34)) := ⟨rfl, rfl, rfl, by decide +kernel, rfl, by decide +kernel, by decide +kernel⟩
theorem der__law_kind (hC : ∀ g, Has PySem.Challenge.rw_fieldrest_k03_blanks_filled.prog w K mg base k (nm g) (ar g) (C g)) (M : Mgs mg) (hE : ∀ g y C, okX y = true → XT K mg y C → HasE PySem.Challenge.rw_fieldrest_k03_blanks_filled.prog w K mg base k (nmE g) (arE g) C (fun a => CE g a y)) (XF : Xs K mg) (f : Addr) (cdv : Value) (A : Around) (outer : List Env) (s : Shared) (H : Hp) (E : XK) (hr : Room k (A.deeper (envOfC "_law_kind" (defScope (top 34)) s.heap.objs.size f cdv))) :
    DSs (cxOf (L2N.CX PySem.Challenge.rw_fieldrest_k03_blanks_filled.prog w) PySem.Challenge.rw_fieldrest_k03_blanks_filled.prog w K mg base N__law_kind "_law_kind" (defScope (top 34)) f cdv A outer s H E) (fun cls d _ H => E cls d H) (defBody (top 34)) (b__law_kind C CE) := by
  have nd := sc__law_kind.nd
  have hu := Ru.of hr
  have tk : L2N.Takes (cxOf (L2N.CX PySem.Challenge.rw_fieldrest_k03_blanks_filled.prog w) PySem.Challenge.rw_fieldrest_k03_blanks_filled.prog w K mg base N__law_kind "_law_kind" (defScope (top 34)) f cdv A outer s H E) (fun cls d _ H => E cls d H) := L2N.takes_of rfl rfl rfl rfl
  exact (ds_cons (ds_set (i := 4) nd rfl (Or.inl rfl) (de_call (hC ._law_next) hr tk (by rfl) (dal_cons (de_var (pv 0)) dal_nil)))
    (ds_cons (ds_if (dw_pt (dw_or (dt_cmp opLe_ok (de_var (pv 3)) de_int (nomark _)) (dw_or (dt_cmp opLe_ok (de_ix (opIx_ok hu) (de_var (pv 0)) de_int) de_int (nomark _)) (dw_or1 (dt_cmp opLt_ok (de_bin opMod_ok (de_var (pv 4)) de_int) de_int (nomark _)))))) (ds_one (ds_ret (de_tup (da_cons (de_str (by decide +kernel)) da_nil)))) ds_nil)
    (ds_cons (ds_if (dt_cmp (opEq_ok hu) (de_bin opMod_ok (de_var (pv 4)) de_int) de_int (nomark _)) (ds_one (ds_ret (de_tup (da_cons (de_str (by decide +kernel)) (da_cons (de_bin opMul_ok (de_bin opMul_ok (de_ix (opIx_ok hu) (de_var (pv 2)) de_int) de_int) (de_bin opMod_ok (de_bin opDiv_ok (de_var (pv 4)) de_int) de_int)) da_nil))))) ds_nil)
    (ds_cons (ds_set (i := 5) nd rfl (Or.inr rfl) (de_slice (de_lst (da_cons (de_ix (opIx_ok hu) (de_var (pv 1)) (de_bin opMod_ok (de_bin opDiv_ok (de_var (pv 4)) de_int) de_int)) (da_cons (de_ix (opIx_ok hu) (de_var (pv 1)) (de_bin opMod_ok (de_bin opDiv_ok (de_var (pv 4)) de_int) de_int)) (da_cons (de_ix (opIx_ok hu) (de_var (pv 1)) (de_bin opMod_ok (de_bin opDiv_ok (de_var (pv 4)) de_int) de_int)) da_nil)))) do_none (do_some (de_bin opMod_ok (de_bin opDiv_ok (de_var (pv 4)) de_int) de_int))))
    (ds_cons (ds_setComp (own := [("_law_label", 7)]) (i := 6) rfl nd rfl rfl (sw_true rfl rfl rfl (by decide +kernel)) (di_items (de_callB cSorted_ok (by rfl) M.m_sorted (by decide +kernel) (da_cons (de_var (pv 1)) da_nil))) (blkOk_by (N := N__law_kind) (sc := (defScope (top 34))) (own := [("_law_label", 7)]) (by decide +kernel)) (fun _ _ _ _ _ => pg_name (i := 7) nd rfl (Or.inl rfl)) (tgr_name (by decide)) (fun _ _ _ _ _ => dts_one (dt_cmp (opIn_ok hu) (de_var (pv 7)) (de_var (pv 5)) rfl)) (fun _ _ _ _ _ => (de_var (pv 7))))
    (ds_cons (ds_set (i := 8) nd rfl (Or.inl rfl) (de_callTy cTuple_ok (by rfl) M.m_tuple (by decide +kernel) (da_cons (de_comp (own := [("_law_label", 7)]) rfl nd (di_items (de_var (pv 6))) (blkOk_by (N := N__law_kind) (sc := (defScope (top 34))) (own := [("_law_label", 7)]) (by decide +kernel)) (fun _ _ _ _ _ => pg_name (i := 7) nd rfl (Or.inl rfl)) (tgr_name (by decide)) (fun _ _ _ _ _ => dts_nil) (fun _ _ _ _ _ => (de_tup (da_cons (de_var (pv 7)) (da_cons (de_call (hC ._law_kind) hr takesN0 (by rfl) (dal_cons (de_var (pv 0)) (dal_cons (de_var (pv 1)) (dal_cons (de_var (pv 2)) (dal_cons (de_bin opSub_ok (de_var (pv 3)) de_int) dal_nil))))) da_nil))))) da_nil)))
    (ds_cons (ds_if (dt_cmp (opEq_ok hu) (de_bin opMod_ok (de_bin opDiv_ok (de_var (pv 4)) de_int) de_int) de_int (nomark _)) (ds_one (ds_ret (de_tup (da_cons (de_str (by decide +kernel)) (da_cons (de_var (pv 8)) (da_cons de_non da_nil)))))) ds_nil)
    (ds_cons (ds_if (dt_cmp (opNotIn_ok hu) (de_var (pv 6)) (de_ix (opIx_ok hu) (de_var (pv 2)) de_int) rfl) (ds_one (ds_expr (de_mlist PySem.F.slot_list_append PySem.F.type_list_append cAppend_ok (de_ix (opIx_ok hu) (de_var (pv 2)) de_int) (da_cons (de_var (pv 6)) da_nil)))) ds_nil)
    (ds_one (ds_ret (de_tup (da_cons (de_str (by decide +kernel)) (da_cons (de_var (pv 8)) (da_cons (de_bin opMul_ok (de_ix (opIx_ok hu) (de_var (pv 2)) de_int) (de_bin opAdd_ok de_int (de_bin opMul_ok de_int (de_mlist PySem.F.slot_list_index PySem.F.type_list_index (cIndex_ok hu) (de_ix (opIx_ok hu) (de_var (pv 2)) de_int) (da_cons (de_var (pv 6)) da_nil))))) da_nil))))))))))))))
theorem sc__law_blanks : FnScope N__law_blanks ["_law_kind_here", "_law_found"] (defScope (top 35)) := ⟨rfl, rfl, rfl, by decide +kernel, rfl, by decide +kernel, by decide +kernel⟩
theorem der__law_blanks (hC : ∀ g, Has PySem.Challenge.rw_fieldrest_k03_blanks_filled.prog w K mg base k (nm g) (ar g) (C g)) (M : Mgs mg) (hE : ∀ g y C, okX y = true → XT K mg y C → HasE PySem.Challenge.rw_fieldrest_k03_blanks_filled.prog w K mg base k (nmE g) (arE g) C (fun a => CE g a y)) (XF : Xs K mg) (f : Addr) (cdv : Value) (A : Around) (outer : List Env) (s : Shared) (H : Hp) (E : XK) (hr : Room k (A.deeper (envOfC "_law_blanks" (defScope (top 35)) s.heap.objs.size f cdv))) :
    DSs (cxOf (L2N.CX PySem.Challenge.rw_fieldrest_k03_blanks_filled.prog w) PySem.Challenge.rw_fieldrest_k03_blanks_filled.prog w K mg base N__law_blanks "_law_blanks" (defScope (top 35)) f cdv A outer s H E) (fun cls d _ H => E cls d H) (defBody (top 35)) (b__law_blanks C CE) := by
  have nd := sc__law_blanks.nd
  have hu := Ru.of hr
  have tk : L2N.Takes (cxOf (L2N.CX PySem.Challenge.rw_fieldrest_k03_blanks_filled.prog w) PySem.Challenge.rw_fieldrest_k03_blanks_filled.prog w K mg base N__law_blanks "_law_blanks" (defScope (top 35)) f cdv A outer s H E) (fun cls d _ H => E cls d H) := L2N.takes_of rfl rfl rfl rfl
  exact (ds_cons (ds_if (dt_cmp (opEq_ok hu) (de_ix (opIx_ok hu) (de_var (pv 0)) de_int) (de_str (by decide +kernel)) (nomark _)) (ds_one (ds_asg de_non (dg_sub (de_var (pv 1)) (de_ix (opIx_ok hu) (de_var (pv 0)) de_int) (opSet_ok hu)))) ds_nil)
    (ds_cons (ds_if (dt_cmp (opEq_ok hu) (de_ix (opIx_ok hu) (de_var (pv 0)) de_int) (de_str (by decide +kernel)) (nomark _)) (ds_cons (ds_for (passes_of rfl) rfl (di_items (de_ix (opIx_ok hu) (de_var (pv 0)) de_int)) (dg_name (pg_name (i := 2) nd rfl (Or.inl rfl))) (ds_one (ds_expr (de_call (hC ._law_blanks) hr tk (by rfl) (dal_cons (de_ix (opIx_ok hu) (de_var (pv 2)) de_int) (dal_cons (de_var (pv 1)) dal_nil))))))
    (ds_one (ds_if (dt_cmp opNotN_ok (de_ix (opIx_ok hu) (de_var (pv 0)) de_int) de_non (nomark _)) (ds_one (ds_asg (de_comp (own := [("_law_pair", 2)]) rfl nd (di_items (de_ix (opIx_ok hu) (de_var (pv 0)) de_int)) (blkOk_by (N := N__law_blanks) (sc := (defScope (top 35))) (own := [("_law_pair", 2)]) (by decide +kernel)) (fun _ _ _ _ _ => pg_name (i := 2) nd rfl (Or.inl rfl)) (tgr_name (by decide)) (fun _ _ _ _ _ => dts_nil) (fun _ _ _ _ _ => (de_ix (opIx_ok hu) (de_var (pv 2)) de_int))) (dg_sub (de_var (pv 1)) (de_ix (opIx_ok hu) (de_var (pv 0)) de_int) (opSet_ok hu)))) ds_nil))) ds_nil)
    (ds_one (ds_ret (de_var (pv 1))))))
theorem sc__law_filled : FnScope N__law_filled ["_law_kind_here", "_law_fills"] (defScope (top 36)) := ⟨rfl, rfl, rfl, by decide +kernel, rfl, by decide +kernel, by decide +kernel⟩
theorem der__law_filled (hC : ∀ g, Has PySem.Challenge.rw_fieldrest_k03_blanks_filled.prog w K mg base k (nm g) (ar g) (C g)) (M : Mgs mg) (hE : ∀ g y C, okX y = true → XT K mg y C → HasE PySem.Challenge.rw_fieldrest_k03_blanks_filled.prog w K mg base k (nmE g) (arE g) C (fun a => CE g a y)) (XF : Xs K mg) (f : Addr) (cdv : Value) (A : Around) (outer : List Env) (s : Shared) (H : Hp) (E : XK) (hr : Room k (A.deeper (envOfC "_law_filled" (defScope (top 36)) s.heap.objs.size f cdv))) :
    DSs (cxOf (L2N.CX PySem.Challenge.rw_fieldrest_k03_blanks_filled.prog w) PySem.Challenge.rw_fieldrest_k03_blanks_filled.prog w K mg base N__law_filled "_law_filled" (defScope (top 36)) f cdv A outer s H E) (fun cls d _ H => E cls d H) (defBody (top 36)) (b__law_filled C CE) := by
  have nd := sc__law_filled.nd
  have hu := Ru.of hr
  have tk : L2N.Takes (cxOf (L2N.CX PySem.Challenge.rw_fieldrest_k03_blanks_filled.prog w) PySem.Challenge.rw_fieldrest_k03_blanks_filled.prog w K mg base N__law_filled "_law_filled" (defScope (top 36)) f cdv A outer s H E) (fun cls d _ H => E cls d H) := L2N.takes_of rfl rfl rfl rfl
  let XX := cxOf (L2N.CX PySem.Challenge.rw_fieldrest_k03_blanks_filled.prog w) PySem.Challenge.rw_fieldrest_k03_blanks_filled.prog w K mg base N__law_filled "_law_filled" (defScope (top 36)) f cdv A outer s H E
  exact (ds_cons (ds_if (dt_cmp (opEq_ok hu) (de_ix (opIx_ok hu) (de_var (pv 0)) de_int) (de_str (by decide +kernel)) (nomark _)) (ds_one (ds_ret (de_dget2 hu (de_var (pv 1)) (de_ix (opIx_ok hu) (de_var (pv 0)) de_int) (de_var (pv 0)) ⟨rfl, rfl, rfl, rfl⟩))) ds_nil)
    (ds_cons (ds_if (dt_cmp (opEq_ok hu) (de_ix (opIx_ok hu) (de_var (pv 0)) de_int) (de_str (by decide +kernel)) (nomark _)) (ds_one (ds_ret (de_var (pv 0)))) ds_nil)
    (ds_cons (ds_setComp (own := [("_law_label", 4), ("_law_inner", 3)]) (i := 2) rfl nd rfl rfl (sw_true rfl rfl rfl (by decide +kernel)) (di_items (de_ix (opIx_ok hu) (de_var (pv 0)) de_int)) (blkOk_by (N := N__law_filled) (sc := (defScope (top 36))) (own := [("_law_label", 4), ("_law_inner", 3)]) (by decide +kernel)) (fun _ _ _ _ _ => pg_tup (n := 2) rfl (pgs_cons (pg_name (i := 4) nd rfl (Or.inl rfl)) (pgs_cons (pg_name (i := 3) nd rfl (Or.inl rfl)) pgs_nil)) rfl rfl) (tgr_tup (X := XX) (is := [4, 3]) (.cons (e := .Name "x" ⟨0, 0, 0, 0⟩) (.cons (e := .Name "x" ⟨0, 0, 0, 0⟩) .nil)) (by decide)) (fun _ _ _ _ _ => dts_nil) (fun _ _ _ _ _ => (de_tup (da_cons (de_var (pv 4)) (da_cons (de_call (hC ._law_filled) hr takesN0 (by rfl) (dal_cons (de_var (pv 3)) (dal_cons (de_var (pv 1)) dal_nil))) da_nil)))))
    (ds_cons (ds_set (i := 5) nd rfl (Or.inl rfl) (de_ix (opIx_ok hu) (de_var (pv 0)) de_int))
    (ds_cons (ds_if (dw_pt (dw_and (dt_cmp opNotN_ok (de_var (pv 5)) de_non (nomark _)) (dw_and1 (dt_cmp (opIn_ok hu) (de_var (pv 5)) (de_var (pv 1)) rfl)))) (ds_cons (ds_set (i := 2) nd rfl (Or.inl rfl) (de_bin opAdd_ok (de_var (pv 2)) (de_callTy cList_ok (by rfl) M.m_list (by decide +kernel) (da_cons (de_ix (opIx_ok hu) (de_ix (opIx_ok hu) (de_var (pv 1)) (de_var (pv 5))) de_int) da_nil))))
    (ds_one (ds_set (i := 5) nd rfl (Or.inl rfl) (de_ix (opIx_ok hu) (de_ix (opIx_ok hu) (de_var (pv 1)) (de_var (pv 5))) de_int)))) ds_nil)
    (ds_cons (ds_set (i := 6) nd rfl (Or.inr rfl) (de_callTy (cDictR_ok rfl) (by rfl) M.m_dict (by decide +kernel) (da_cons (de_var (pv 2)) da_nil)))
    (ds_one (ds_ret (de_tup (da_cons (de_str (by decide +kernel)) (da_cons (de_callTy cTuple_ok (by rfl) M.m_tuple (by decide +kernel) (da_cons (de_comp (own := [("_law_label", 4)]) rfl nd (di_items (de_callB cSorted_ok (by rfl) M.m_sorted (by decide +kernel) (da_cons (de_callTy (cListK_ok rfl) (by rfl) M.m_list (by decide +kernel) (da_cons (de_var (pv 6)) da_nil)) da_nil))) (blkOk_by (N := N__law_filled) (sc := (defScope (top 36))) (own := [("_law_label", 4)]) (by decide +kernel)) (fun _ _ _ _ _ => pg_name (i := 4) nd rfl (Or.inl rfl)) (tgr_name (by decide)) (fun _ _ _ _ _ => dts_nil) (fun _ _ _ _ _ => (de_tup (da_cons (de_var (pv 4)) (da_cons (de_ix (opIx_ok hu) (de_var (pv 6)) (de_var (pv 4))) da_nil))))) da_nil)) (da_cons (de_var (pv 5)) da_nil))))))))))))
theorem sc__law_fill : FnScope N__law_fill ["_law_state", "_law_labels_here", "_law_met_here", "_law_ahead"] (defScope (top 37)) := ⟨rfl, rfl, rfl, by decide +kernel, rfl, by decide +kernel, by decide +kernel⟩
theorem der__law_fill (hC : ∀ g, Has PySem.Challenge.rw_fieldrest_k03_blanks_filled.prog w K mg base k (nm g) (ar g) (C g)) (M : Mgs mg) (hE : ∀ g y C, okX y = true → XT K mg y C → HasE PySem.Challenge.rw_fieldrest_k03_blanks_filled.prog w K mg base k (nmE g) (arE g) C (fun a => CE g a y)) (XF : Xs K mg) (f : Addr) (cdv : Value) (A : Around) (outer : List Env) (s : Shared) (H : Hp) (E : XK) (hr : Room k (A.deeper (envOfC "_law_fill" (defScope (top 37)) s.heap.objs.size f cdv))) :
    DSs (cxOf (L2N.CX PySem.Challenge.rw_fieldrest_k03_blanks_filled.prog w) PySem.Challenge.rw_fieldrest_k03_blanks_filled.prog w K mg base N__law_fill "_law_fill" (defScope (top 37)) f cdv A outer s H E) (fun cls d _ H => E cls d H) (defBody (top 37)) (b__law_fill C CE) := by
  have nd := sc__law_fill.nd
  have hu := Ru.of hr
  have tk : L2N.Takes (cxOf (L2N.CX PySem.Challenge.rw_fieldrest_k03_blanks_filled.prog w) PySem.Challenge.rw_fieldrest_k03_blanks_filled.prog w K mg base N__law_fill "_law_fill" (defScope (top 37)) f cdv A outer s H E) (fun cls d _ H => E cls d H) := L2N.takes_of rfl rfl rfl rfl
  exact (ds_cons (ds_if (dt_cmp opIsN_ok (de_var (pv 3)) de_non (nomark _)) (ds_one (ds_ret (de_call (hC ._law_kind) hr tk (by rfl) (dal_cons (de_var (pv 0)) (dal_cons (de_var (pv 1)) (dal_cons (de_var (pv 2)) (dal_cons de_int dal_nil))))))) ds_nil)
    (ds_cons (ds_setComp (own := [("_law_label", 5)]) (i := 4) rfl nd rfl rfl (sw_true rfl rfl rfl (by decide +kernel)) (di_items (de_callB cSorted_ok (by rfl) M.m_sorted (by decide +kernel) (da_cons (de_bin opAdd_ok (de_var (pv 1)) (de_lst (da_cons (de_str (by decide +kernel)) da_nil))) da_nil))) (blkOk_by (N := N__law_fill) (sc := (defScope (top 37))) (own := [("_law_label", 5)]) (by decide +kernel)) (fun _ _ _ _ _ => pg_name (i := 5) nd rfl (Or.inl rfl)) (tgr_name (by decide)) (fun _ _ _ _ _ => dts_one (dt_cmp (opNotIn_ok hu) (de_var (pv 5)) (de_var (pv 3)) rfl)) (fun _ _ _ _ _ => (de_var (pv 5))))
    (ds_cons (ds_set (i := 6) nd rfl (Or.inl rfl) (de_callTy cTuple_ok (by rfl) M.m_tuple (by decide +kernel) (da_cons (de_comp (own := [("_law_label", 5)]) rfl nd (di_items (de_var (pv 4))) (blkOk_by (N := N__law_fill) (sc := (defScope (top 37))) (own := [("_law_label", 5)]) (by decide +kernel)) (fun _ _ _ _ _ => pg_name (i := 5) nd rfl (Or.inl rfl)) (tgr_name (by decide)) (fun _ _ _ _ _ => dts_one (dt_cmp (opEq_ok hu) (de_bin opMod_ok (de_call (hC ._law_next) hr takesN0 (by rfl) (dal_cons (de_var (pv 0)) dal_nil)) de_int) de_int (nomark _))) (fun _ _ _ _ _ => (de_tup (da_cons (de_var (pv 5)) (da_cons (de_call (hC ._law_kind) hr takesN0 (by rfl) (dal_cons (de_var (pv 0)) (dal_cons (de_var (pv 1)) (dal_cons (de_var (pv 2)) (dal_cons de_int dal_nil))))) da_nil))))) da_nil)))
    (ds_cons (ds_if (dt_cmp (opEq_ok hu) (de_bin opMod_ok (de_call (hC ._law_next) hr tk (by rfl) (dal_cons (de_var (pv 0)) dal_nil)) de_int) de_int (nomark _)) (ds_one (ds_ret (de_tup (da_cons (de_var (pv 6)) (da_cons de_non da_nil))))) ds_nil)
    (ds_cons (ds_set (i := 7) nd rfl (Or.inl rfl) (de_bin opAdd_ok (de_bin opAdd_ok (de_var (pv 3)) (de_lst (da_cons (de_str (by decide +kernel)) da_nil))) (de_comp (own := [("_law_pair", 8)]) rfl nd (di_items (de_var (pv 6))) (blkOk_by (N := N__law_fill) (sc := (defScope (top 37))) (own := [("_law_pair", 8)]) (by decide +kernel)) (fun _ _ _ _ _ => pg_name (i := 8) nd rfl (Or.inl rfl)) (tgr_name (by decide)) (fun _ _ _ _ _ => dts_nil) (fun _ _ _ _ _ => (de_ix (opIx_ok hu) (de_var (pv 8)) de_int)))))
    (ds_cons (ds_set (i := 7) nd rfl (Or.inl rfl) (de_callB cSorted_ok (by rfl) M.m_sorted (by decide +kernel) (da_cons (de_comp (own := [("_law_word", 9)]) rfl nd (di_items (de_var (pv 7))) (blkOk_by (N := N__law_fill) (sc := (defScope (top 37))) (own := [("_law_word", 9)]) (by decide +kernel)) (fun _ _ _ _ _ => pg_name (i := 9) nd rfl (Or.inl rfl)) (tgr_name (by decide)) (fun _ _ _ _ _ => dts_one (dt_cmp (opNe_ok hu) (de_var (pv 9)) (de_str (by decide +kernel)) (nomark _))) (fun _ _ _ _ _ => (de_var (pv 9)))) da_nil)))
    (ds_cons (ds_if (dt_cmp (opNotIn_ok hu) (de_var (pv 7)) (de_ix (opIx_ok hu) (de_var (pv 2)) de_int) rfl) (ds_one (ds_expr (de_mlist PySem.F.slot_list_append PySem.F.type_list_append cAppend_ok (de_ix (opIx_ok hu) (de_var (pv 2)) de_int) (da_cons (de_var (pv 7)) da_nil)))) ds_nil)
    (ds_one (ds_ret (de_tup (da_cons (de_var (pv 6)) (da_cons (de_bin opMul_ok (de_ix (opIx_ok hu) (de_var (pv 2)) de_int) (de_bin opAdd_ok de_int (de_bin opMul_ok de_int (de_mlist PySem.F.slot_list_index PySem.F.type_list_index (cIndex_ok hu) (de_ix (opIx_ok hu) (de_var (pv 2)) de_int) (da_cons (de_var (pv 7)) da_nil))))) da_nil))))))))))))
theorem sc__law_knots : FnScope N__law_knots ["_law_kind_here"] (defScope (top 39)) := ⟨rfl, rfl, rfl, by decide +kernel, rfl, by decide +kernel, by decide +kernel⟩
theorem der__law_knots (hC : ∀ g, Has PySem.Challenge.rw_fieldrest_k03_blanks_filled.prog w K mg base k (nm g) (ar g) (C g)) (M : Mgs mg) (hE : ∀ g y C, okX y = true → XT K mg y C → HasE PySem.Challenge.rw_fieldrest_k03_blanks_filled.prog w K mg base k (nmE g) (arE g) C (fun a => CE g a y)) (XF : Xs K mg) (f : Addr) (cdv : Value) (A : Around) (outer : List Env) (s : Shared) (H : Hp) (E : XK) (hr : Room k (A.deeper (envOfC "_law_knots" (defScope (top 39)) s.heap.objs.size f cdv))) :
    DSs (cxOf (L2N.CX PySem.Challenge.rw_fieldrest_k03_blanks_filled.prog w) PySem.Challenge.rw_fieldrest_k03_blanks_filled.prog w K mg base N__law_knots "_law_knots" (defScope (top 39)) f cdv A outer s H E) (fun cls d _ H => E cls d H) (defBody (top 39)) (b__law_knots C CE) := by
  have nd := sc__law_knots.nd
  have hu := Ru.of hr
  have tk : L2N.Takes (cxOf (L2N.CX PySem.Challenge.rw_fieldrest_k03_blanks_filled.prog w) PySem.Challenge.rw_fieldrest_k03_blanks_filled.prog w K mg base N__law_knots "_law_knots" (defScope (top 39)) f cdv A outer s H E) (fun cls d _ H => E cls d H) := L2N.takes_of rfl rfl rfl rfl
  exact (ds_cons (ds_if (dt_cmp (opNe_ok hu) (de_ix (opIx_ok hu) (de_var (pv 0)) de_int) (de_str (by decide +kernel)) (nomark _)) (ds_one (ds_ret de_int)) ds_nil)
    (ds_one (ds_ret (de_bin opAdd_ok de_int (de_callB (cSum_ok rfl) (by rfl) M.m_sum (by decide +kernel) (da_cons (de_comp (own := [("_law_pair", 1)]) rfl nd (di_items (de_ix (opIx_ok hu) (de_var (pv 0)) de_int)) (blkOk_by (N := N__law_knots) (sc := (defScope (top 39))) (own := [("_law_pair", 1)]) (by decide +kernel)) (fun _ _ _ _ _ => pg_name (i := 1) nd rfl (Or.inl rfl)) (tgr_name (by decide)) (fun _ _ _ _ _ => dts_nil) (fun _ _ _ _ _ => (de_call (hC ._law_knots) hr takesN0 (by rfl) (dal_cons (de_ix (opIx_ok hu) (de_var (pv 1)) de_int) dal_nil)))) da_nil))))))
theorem sc__law_deep : FnScope N__law_deep ["_law_kind_here"] (defScope (top 40)) := ⟨rfl, rfl, rfl, by decide +kernel, rfl, by decide +kernel, by decide +kernel⟩
theorem der__law_deep (hC : ∀ g, Has PySem.Challenge.rw_fieldrest_k03_blanks_filled.prog w K mg base k (nm g) (ar g) (C g)) (M : Mgs mg) (hE : ∀ g y C, okX y = true → XT K mg y C → HasE PySem.Challenge.rw_fieldrest_k03_blanks_filled.prog w K mg base k (nmE g) (arE g) C (fun a => CE g a y)) (XF : Xs K mg) (f : Addr) (cdv : Value) (A : Around) (outer : List Env) (s : Shared) (H : Hp) (E : XK) (hr : Room k (A.deeper (envOfC "_law_deep" (defScope (top 40)) s.heap.objs.size f cdv))) :
    DSs (cxOf (L2N.CX PySem.Challenge.rw_fieldrest_k03_blanks_filled.prog w) PySem.Challenge.rw_fieldrest_k03_blanks_filled.prog w K mg base N__law_deep "_law_deep" (defScope (top 40)) f cdv A outer s H E) (fun cls d _ H => E cls d H) (defBody (top 40)) (b__law_deep C CE) := by
  have nd := sc__law_deep.nd
  have hu := Ru.of hr
  have tk : L2N.Takes (cxOf (L2N.CX PySem.Challenge.rw_fieldrest_k03_blanks_filled.prog w) PySem.Challenge.rw_fieldrest_k03_blanks_filled.prog w K mg base N__law_deep "_law_deep" (defScope (top 40)) f cdv A outer s H E) (fun cls d _ H => E cls d H) := L2N.takes_of rfl rfl rfl rfl
  exact (ds_cons (ds_if (dt_cmp (opNe_ok hu) (de_ix (opIx_ok hu) (de_var (pv 0)) de_int) (de_str (by decide +kernel)) (nomark _)) (ds_one (ds_ret de_int)) ds_nil)
    (ds_one (ds_ret (de_bin opAdd_ok de_int (de_maxD rfl hu (by rfl) M.m_max (de_comp (own := [("_law_pair", 1)]) rfl nd (di_items (de_ix (opIx_ok hu) (de_var (pv 0)) de_int)) (blkOk_by (N := N__law_deep) (sc := (defScope (top 40))) (own := [("_law_pair", 1)]) (by decide +kernel)) (fun _ _ _ _ _ => pg_name (i := 1) nd rfl (Or.inl rfl)) (tgr_name (by decide)) (fun _ _ _ _ _ => dts_nil) (fun _ _ _ _ _ => (de_call (hC ._law_deep) hr takesN0 (by rfl) (dal_cons (de_ix (opIx_ok hu) (de_var (pv 1)) de_int) dal_nil)))) de_int)))))
theorem sc__law_met : FnScope N__law_met ["_law_kind_here", "_law_seen"] (defScope (top 41)) := ⟨rfl, rfl, rfl, by decide +kernel, rfl, by decide +kernel, by decide +kernel⟩
theorem der__law_met (hC : ∀ g, Has PySem.Challenge.rw_fieldrest_k03_blanks_filled.prog w K mg base k (nm g) (ar g) (C g)) (M : Mgs mg) (hE : ∀ g y C, okX y = true → XT K mg y C → HasE PySem.Challenge.rw_fieldrest_k03_blanks_filled.prog w K mg base k (nmE g) (arE g) C (fun a => CE g a y)) (XF : Xs K mg) (f : Addr) (cdv : Value) (A : Around) (outer : List Env) (s : Shared) (H : Hp) (E : XK) (hr : Room k (A.deeper (envOfC "_law_met" (defScope (top 41)) s.heap.objs.size f cdv))) :
    DSs (cxOf (L2N.CX PySem.Challenge.rw_fieldrest_k03_blanks_filled.prog w) PySem.Challenge.rw_fieldrest_k03_blanks_filled.prog w K mg base N__law_met "_law_met" (defScope (top 41)) f cdv A outer s H E) (fun cls d _ H => E cls d H) (defBody (top 41)) (b__law_met C CE) := by
  have nd := sc__law_met.nd
  have hu := Ru.of hr
  have tk : L2N.Takes (cxOf (L2N.CX PySem.Challenge.rw_fieldrest_k03_blanks_filled.prog w) PySem.Challenge.rw_fieldrest_k03_blanks_filled.prog w K mg base N__law_met "_law_met" (defScope (top 41)) f cdv A outer s H E) (fun cls d _ H => E cls d H) := L2N.takes_of rfl rfl rfl rfl
  exact (ds_cons (ds_if (dt_cmp (opEq_ok hu) (de_ix (opIx_ok hu) (de_var (pv 0)) de_int) (de_str (by decide +kernel)) (nomark _)) (ds_one (ds_ret (de_cmp opIsN_ok (de_dsetd (de_var (pv 1)) (de_ix (opIx_ok hu) (de_var (pv 0)) de_int) de_non ⟨rfl, rfl, rfl, rfl⟩) de_non (nomark _)))) ds_nil)
    (ds_cons (ds_set (i := 2) nd rfl (Or.inl rfl) de_bl)
    (ds_cons (ds_if (dt_cmp (opEq_ok hu) (de_ix (opIx_ok hu) (de_var (pv 0)) de_int) (de_str (by decide +kernel)) (nomark _)) (ds_cons (ds_for (passes_of rfl) rfl (di_items (de_ix (opIx_ok hu) (de_var (pv 0)) de_int)) (dg_name (pg_name (i := 3) nd rfl (Or.inl rfl))) (ds_one (ds_set (i := 2) nd rfl (Or.inl rfl) (de_and (de_call (hC ._law_met) hr tk (by rfl) (dal_cons (de_ix (opIx_ok hu) (de_var (pv 3)) de_int) (dal_cons (de_var (pv 1)) dal_nil))) (de_one (de_var (pv 2)))))))
    (ds_cons (ds_setComp (own := [("_law_pair", 3)]) (i := 4) rfl nd rfl rfl (sw_true rfl rfl rfl (by decide +kernel)) (di_items (de_ix (opIx_ok hu) (de_var (pv 0)) de_int)) (blkOk_by (N := N__law_met) (sc := (defScope (top 41))) (own := [("_law_pair", 3)]) (by decide +kernel)) (fun _ _ _ _ _ => pg_name (i := 3) nd rfl (Or.inl rfl)) (tgr_name (by decide)) (fun _ _ _ _ _ => dts_nil) (fun _ _ _ _ _ => (de_ix (opIx_ok hu) (de_var (pv 3)) de_int)))
    (ds_one (ds_if (dw_pt (dw_and (dt_cmp opNotN_ok (de_ix (opIx_ok hu) (de_var (pv 0)) de_int) de_non (nomark _)) (dw_and1 (dt_cmp (opNe_ok hu) (de_dsetd (de_var (pv 1)) (de_ix (opIx_ok hu) (de_var (pv 0)) de_int) (de_var (pv 4)) ⟨rfl, rfl, rfl, rfl⟩) (de_var (pv 4)) (nomark _))))) (ds_one (ds_ret de_bl)) ds_nil)))) ds_nil)
    (ds_one (ds_ret (de_var (pv 2)))))))
theorem sc__law_odd : FnScope N__law_odd ["_law_number", "_law_ahead"] (defScope (top 42)) := ⟨rfl, rfl, rfl, by decide +kernel, rfl, by decide +kernel, by decide +kernel⟩
theorem der__law_odd (hC : ∀ g, Has PySem.Challenge.rw_fieldrest_k03_blanks_filled.prog w K mg base k (nm g) (ar g) (C g)) (M : Mgs mg) (hE : ∀ g y C, okX y = true → XT K mg y C → HasE PySem.Challenge.rw_fieldrest_k03_blanks_filled.prog w K mg base k (nmE g) (arE g) C (fun a => CE g a y)) (XF : Xs K mg) (f : Addr) (cdv : Value) (A : Around) (outer : List Env) (s : Shared) (H : Hp) (E : XK) (hr : Room k (A.deeper (envOfC "_law_odd" (defScope (top 42)) s.heap.objs.size f cdv))) :
    DSs (cxOf (L2N.CX PySem.Challenge.rw_fieldrest_k03_blanks_filled.prog w) PySem.Challenge.rw_fieldrest_k03_blanks_filled.prog w K mg base N__law_odd "_law_odd" (defScope (top 42)) f cdv A outer s H E) (fun cls d _ H => E cls d H) (defBody (top 42)) (b__law_odd C CE) := by
  have nd := sc__law_odd.nd
  have hu := Ru.of hr
  have tk : L2N.Takes (cxOf (L2N.CX PySem.Challenge.rw_fieldrest_k03_blanks_filled.prog w) PySem.Challenge.rw_fieldrest_k03_blanks_filled.prog w K mg base N__law_odd "_law_odd" (defScope (top 42)) f cdv A outer s H E) (fun cls d _ H => E cls d H) := L2N.takes_of rfl rfl rfl rfl
  exact (ds_cons (ds_set (i := 2) nd rfl (Or.inl rfl) (de_tup (da_cons (de_str (by decide +kernel)) da_nil)))
    (ds_cons (ds_set (i := 3) nd rfl (Or.inl rfl) (de_lst (da_cons de_non (da_cons (de_tup da_nil) (da_cons (de_tup (da_cons (de_str (by decide +kernel)) da_nil)) (da_cons (de_tup (da_cons (de_tup da_nil) (da_cons de_int (da_cons de_int da_nil)))) (da_cons (de_tup (da_cons (de_tup (da_cons (de_str (by decide +kernel)) (da_cons (de_var (pv 2)) da_nil))) (da_cons de_non da_nil))) (da_cons (de_tup (da_cons (de_lst da_nil) (da_cons de_non da_nil))) da_nil))))))))
    (ds_cons (ds_set (i := 3) nd rfl (Or.inl rfl) (de_bin opAdd_ok (de_var (pv 3)) (de_lst (da_cons (de_tup (da_cons (de_tup (da_cons (de_tup (da_cons (de_str (by decide +kernel)) (da_cons (de_var (pv 2)) da_nil))) (da_cons (de_tup (da_cons (de_str (by decide +kernel)) (da_cons (de_var (pv 2)) da_nil))) da_nil))) (da_cons de_non da_nil))) da_nil))))
    (ds_cons (ds_set (i := 3) nd rfl (Or.inl rfl) (de_bin opAdd_ok (de_var (pv 3)) (de_lst (da_cons (de_tup (da_cons (de_tup (da_cons (de_tup (da_cons (de_str (by decide +kernel)) (da_cons (de_var (pv 2)) da_nil))) da_nil)) (da_cons de_non da_nil))) (da_cons (de_tup (da_cons (de_tup (da_cons (de_tup (da_cons (de_str (by decide +kernel)) (da_cons de_non da_nil))) da_nil)) (da_cons de_non da_nil))) (da_cons (de_tup (da_cons (de_tup da_nil) (da_cons de_bl da_nil))) (da_cons (de_tup (da_cons (de_tup da_nil) (da_cons (de_neg de_int) da_nil))) da_nil)))))))
    (ds_cons (ds_set (i := 3) nd rfl (Or.inl rfl) (de_bin opAddR_ok (de_var (pv 3)) (de_lst (da_cons (de_tup (da_cons (de_str (by decide +kernel)) (da_cons de_int da_nil))) (da_cons de_int (da_cons (de_str (by decide +kernel)) da_nil))))))
    (ds_cons (ds_if (dw_pt (dw_and (dt_cmp opNotN_ok (de_var (pv 1)) de_non (nomark _)) (dw_and1 (dt_cmp (opNe_ok hu) (de_var (pv 1)) (de_lst da_nil) (nomark _))))) (ds_one (ds_expr (de_mlist PySem.F.slot_list_append PySem.F.type_list_append cAppend_ok (de_var (pv 3)) (da_cons (de_tup (da_cons (de_tup (da_cons (de_tup (da_cons (de_ix (opIx_ok hu) (de_var (pv 1)) de_int) (da_cons (de_var (pv 2)) da_nil))) da_nil)) (da_cons de_non da_nil))) da_nil)))) ds_nil)
    (ds_one (ds_ret (de_ix (opIx_ok hu) (de_bin opAdd_ok (de_var (pv 3)) (de_lst (da_cons (de_tup (da_cons (de_str (by decide +kernel)) (da_cons (de_neg de_int) da_nil))) da_nil))) (de_bin opMod_ok (de_var (pv 0)) (de_bin opAdd_ok (de_callB cLen_ok (by rfl) M.m_len (by decide +kernel) (da_cons (de_var (pv 3)) da_nil)) de_int)))))))))))
theorem sc__law_tried : FnScope N__law_tried ["_law_kind_here", "_law_fills"] (defScope (top 43)) := ⟨rfl, rfl, rfl, by decide +kernel, rfl, by decide +kernel, by decide +kernel⟩
theorem der__law_tried (hC : ∀ g, Has PySem.Challenge.rw_fieldrest_k03_blanks_filled.prog w K mg base k (nm g) (ar g) (C g)) (M : Mgs mg) (hE : ∀ g y C, okX y = true → XT K mg y C → HasE PySem.Challenge.rw_fieldrest_k03_blanks_filled.prog w K mg base k (nmE g) (arE g) C (fun a => CE g a y)) (XF : Xs K mg) (f : Addr) (cdv : Value) (A : Around) (outer : List Env) (s : Shared) (H : Hp) (E : XK) (hr : Room k (A.deeper (envOfC "_law_tried" (defScope (top 43)) s.heap.objs.size f cdv))) :
    DSs (cxOf (L2N.CX PySem.Challenge.rw_fieldrest_k03_blanks_filled.prog w) PySem.Challenge.rw_fieldrest_k03_blanks_filled.prog w K mg base N__law_tried "_law_tried" (defScope (top 43)) f cdv A outer s H E) (fun cls d _ H => E cls d H) (defBody (top 43)) (b__law_tried C CE) := by
  have nd := sc__law_tried.nd
  have hu := Ru.of hr
  obtain ⟨CF, gF, hF⟩ := XF.f
  have tk : L2N.Takes (cxOf (L2N.CX PySem.Challenge.rw_fieldrest_k03_blanks_filled.prog w) PySem.Challenge.rw_fieldrest_k03_blanks_filled.prog w K mg base N__law_tried "_law_tried" (defScope (top 43)) f cdv A outer s H E) (fun cls d _ H => E cls d H) := L2N.takes_of rfl rfl rfl rfl
  let XX := cxOf (L2N.CX PySem.Challenge.rw_fieldrest_k03_blanks_filled.prog w) PySem.Challenge.rw_fieldrest_k03_blanks_filled.prog w K mg base N__law_tried "_law_tried" (defScope (top 43)) f cdv A outer s H E
  exact (ds_one (ds_tryAs (i := 2) rfl rfl nd rfl rfl ⟨by rfl, by decide, .inl gF⟩ tk (fun y hy => let ⟨C, h, e⟩ := hF y hy; ⟨C, h.c, e⟩) (fun W' pn xe tk' pq => (ds_one (ds_ret (de_call (hC .filled) hr tk' (by rfl) (dal_cons (de_var (pv 0)) (dal_cons (de_var (pv 1)) dal_nil))))))
    (fun a oe y C pn hy hx ho => have ht : XT K mg y C := xt_at hF hy hx; (ds_cons (ds_if (dt_not (dt_val (de_callE (X := XX) (a := a) (oe := oe) (pn := pn) (hE ._law_lone y C hy ht) (L2H.roomH_of hr) ho (by rfl) (dal_cons (de_var (pv 2)) dal_nil)))) (ds_one (ds_ret (de_lst (da_cons (de_str (by decide +kernel)) da_nil)))) ds_nil)
    (ds_cons (ds_if (dt_val (de_isEo List.mem_cons_self ht.c.i ho (by rfl) M.m_isinstance (de_var (pv 2)) ht.t_BadKind (by rfl))) (ds_one (ds_ret (de_lst (da_cons (de_str (by decide +kernel)) da_nil)))) ds_nil)
    (ds_one (ds_ret (de_lst (da_cons (de_ix (opIx_ok ⟨hu.un⟩) (de_lst (da_cons (de_str (by decide +kernel)) (da_cons (de_str (by decide +kernel)) da_nil))) (de_callTy cIntB_ok (by rfl) M.m_int (by decide +kernel) (da_cons (de_isEo List.mem_cons_self ht.c.i ho (by rfl) M.m_isinstance (de_var (pv 2)) ht.t_TooGreat (by rfl)) da_nil))) da_nil)))))))))
theorem sc__law_due : FnScope N__law_due ["_law_kind_here", "_law_fills", "_law_odd_here"] (defScope (top 44)) := ⟨rfl, rfl, rfl, by decide +kernel, rfl, by decide +kernel, by decide +kernel⟩
theorem der__law_due (hC : ∀ g, Has PySem.Challenge.rw_fieldrest_k03_blanks_filled.prog w K mg base k (nm g) (ar g) (C g)) (M : Mgs mg) (hE : ∀ g y C, okX y = true → XT K mg y C → HasE PySem.Challenge.rw_fieldrest_k03_blanks_filled.prog w K mg base k (nmE g) (arE g) C (fun a => CE g a y)) (XF : Xs K mg) (f : Addr) (cdv : Value) (A : Around) (outer : List Env) (s : Shared) (H : Hp) (E : XK) (hr : Room k (A.deeper (envOfC "_law_due" (defScope (top 44)) s.heap.objs.size f cdv))) :
    DSs (cxOf (L2N.CX PySem.Challenge.rw_fieldrest_k03_blanks_filled.prog w) PySem.Challenge.rw_fieldrest_k03_blanks_filled.prog w K mg base N__law_due "_law_due" (defScope (top 44)) f cdv A outer s H E) (fun cls d _ H => E cls d H) (defBody (top 44)) (b__law_due C CE) := by
  have nd := sc__law_due.nd
  have hu := Ru.of hr
  have tk : L2N.Takes (cxOf (L2N.CX PySem.Challenge.rw_fieldrest_k03_blanks_filled.prog w) PySem.Challenge.rw_fieldrest_k03_blanks_filled.prog w K mg base N__law_due "_law_due" (defScope (top 44)) f cdv A outer s H E) (fun cls d _ H => E cls d H) := L2N.takes_of rfl rfl rfl rfl
  exact (ds_cons (ds_if (dt_val (de_var (pv 2))) (ds_one (ds_ret (de_lst (da_cons (de_str (by decide +kernel)) da_nil)))) ds_nil)
    (ds_cons (ds_set (i := 3) nd rfl (Or.inl rfl) (de_call (hC ._law_filled) hr tk (by rfl) (dal_cons (de_var (pv 0)) (dal_cons (de_var (pv 1)) dal_nil))))
    (ds_cons (ds_if (dw_pt (dw_or (dt_cmp opGt_ok (de_call (hC ._law_knots) hr tk (by rfl) (dal_cons (de_var (pv 3)) dal_nil)) de_int (nomark _)) (dw_or1 (dt_cmp opGt_ok (de_call (hC ._law_deep) hr tk (by rfl) (dal_cons (de_var (pv 3)) dal_nil)) de_int (nomark _))))) (ds_one (ds_ret (de_lst (da_cons (de_str (by decide +kernel)) da_nil)))) ds_nil)
    (ds_one (ds_ret (de_ifE (dt_val (de_call (hC ._law_met) hr tk (by rfl) (dal_cons (de_var (pv 3)) (dal_cons de_newK dal_nil)))) (de_var (pv 3)) (de_lst (da_cons (de_str (by decide +kernel)) da_nil))))))))
theorem sc__law_round : FnScope N__law_round ["_law_labels_here", "_law_seed", "_law_size", "_law_way", "_law_number"] (defScope (top 45)) := ⟨rfl, rfl, rfl, by decide +kernel, rfl, by decide +kernel, by decide +kernel⟩
theorem der__law_round (hC : ∀ g, Has PySem.Challenge.rw_fieldrest_k03_blanks_filled.prog w K mg base k (nm g) (ar g) (C g)) (M : Mgs mg) (hE : ∀ g y C, okX y = true → XT K mg y C → HasE PySem.Challenge.rw_fieldrest_k03_blanks_filled.prog w K mg base k (nmE g) (arE g) C (fun a => CE g a y)) (XF : Xs K mg) (f : Addr) (cdv : Value) (A : Around) (outer : List Env) (s : Shared) (H : Hp) (E : XK) (hr : Room k (A.deeper (envOfC "_law_round" (defScope (top 45)) s.heap.objs.size f cdv))) :
    DSs (cxOf (L2N.CX PySem.Challenge.rw_fieldrest_k03_blanks_filled.prog w) PySem.Challenge.rw_fieldrest_k03_blanks_filled.prog w K mg base N__law_round "_law_round" (defScope (top 45)) f cdv A outer s H E) (fun cls d _ H => E cls d H) (defBody (top 45)) (b__law_round C CE) := by
  have nd := sc__law_round.nd
  have hu := Ru.of hr
  have tk : L2N.Takes (cxOf (L2N.CX PySem.Challenge.rw_fieldrest_k03_blanks_filled.prog w) PySem.Challenge.rw_fieldrest_k03_blanks_filled.prog w K mg base N__law_round "_law_round" (defScope (top 45)) f cdv A outer s H E) (fun cls d _ H => E cls d H) := L2N.takes_of rfl rfl rfl rfl
  exact (ds_cons (ds_set (i := 5) nd rfl (Or.inl rfl) (de_lstR (da_cons (de_bin opAdd_ok de_int (de_bin opMod_ok (de_var (pv 1)) de_int)) (da_cons (de_bin opAdd_ok de_int (de_bin opMod_ok (de_var (pv 2)) de_int)) da_nil))))
    (ds_cons (ds_set (i := 6) nd rfl (Or.inl rfl) (de_lst (da_cons (de_bin opAdd_ok de_int (de_bin opMod_ok (de_var (pv 4)) (de_bin opPow_ok de_int de_int))) (da_cons (de_lstR da_nil) da_nil))))
    (ds_cons (ds_set (i := 7) nd rfl (Or.inl rfl) (de_call (hC ._law_kind) hr tk (by rfl) (dal_cons (de_var (pv 5)) (dal_cons (de_var (pv 0)) (dal_cons (de_var (pv 6)) (dal_cons (de_bin opAdd_ok de_int (de_bin opMod_ok (de_bin opDiv_ok (de_var (pv 2)) de_int) de_int)) dal_nil))))))
    (ds_cons (ds_set (i := 8) nd rfl (Or.inr rfl) (de_call (hC ._law_blanks) hr tk (by rfl) (dal_cons (de_var (pv 7)) (dal_cons de_newK dal_nil))))
    (ds_cons (ds_asg de_int (dg_sub (de_var (pv 5)) de_int (opSet_ok hu)))
    (ds_cons (ds_set (i := 9) nd rfl (Or.inr rfl) de_newK)
    (ds_cons (ds_lock (i := 8) (ds_for (passes_of rfl) rfl (di_keys (de_var (pv 8))) (dg_name (pg_name (i := 4) nd rfl (Or.inl rfl))) (ds_one (ds_if (dw_pt (dw_or (dt_cmp opGt_ok (de_bin opMod_ok (de_bin opDiv_ok (de_var (pv 3)) de_int) de_int) de_int (nomark _)) (dw_or1 (dt_cmp (opEq_ok hu) (de_bin opMod_ok (de_call (hC ._law_next) hr tk (by rfl) (dal_cons (de_var (pv 5)) dal_nil)) de_int) de_int (nomark _))))) (ds_one (ds_asg (de_call (hC ._law_fill) hr tk (by rfl) (dal_cons (de_var (pv 5)) (dal_cons (de_var (pv 0)) (dal_cons (de_var (pv 6)) (dal_cons (de_ix (opIx_ok hu) (de_var (pv 8)) (de_var (pv 4))) dal_nil))))) (dg_sub (de_var (pv 9)) (de_var (pv 4)) (opSet_ok hu)))) ds_nil))))
    (ds_cons (ds_asg (de_tup (da_cons (de_str (by decide +kernel)) (da_cons (de_str (by decide +kernel)) da_nil))) (dg_sub (de_var (pv 9)) (de_bin opAdd_ok (de_bin opMul_ok (de_ix (opIx_ok hu) (de_var (pv 6)) de_int) de_int) de_int) (opSet_ok hu)))
    (ds_cons (ds_set (i := 10) nd rfl (Or.inl rfl) (de_and (de_cmp (opEq_ok hu) (de_bin opMod_ok (de_var (pv 3)) de_int) de_int (nomark _)) (de_one (de_cmp (opNe_ok hu) (de_callTy (cListK_ok rfl) (by rfl) M.m_list (by decide +kernel) (da_cons (de_var (pv 8)) da_nil)) (de_lst da_nil) (nomark _)))))
    (ds_cons (ds_if (dt_val (de_var (pv 10))) (ds_cons (ds_set (i := 4) nd rfl (Or.inl rfl) (de_ix (opIx_ok hu) (de_callTy (cListK_ok rfl) (by rfl) M.m_list (by decide +kernel) (da_cons (de_var (pv 8)) da_nil)) (de_bin opMod_ok (de_bin opDiv_ok (de_var (pv 3)) de_int) (de_callB cLen_ok (by rfl) M.m_len (by decide +kernel) (da_cons (de_var (pv 8)) da_nil)))))
    (ds_one (ds_asg (de_call (hC ._law_odd) hr tk (by rfl) (dal_cons (de_bin opDiv_ok (de_var (pv 3)) de_int) (dal_cons (de_ix (opIx_ok hu) (de_var (pv 8)) (de_var (pv 4))) dal_nil))) (dg_sub (de_var (pv 9)) (de_var (pv 4)) (opSet_ok hu))))) ds_nil)
    (ds_cons (ds_if (dt_cmp (opEq_ok hu) (de_bin opMod_ok (de_var (pv 3)) de_int) de_int (nomark _)) (ds_cons (ds_for (passes_of rfl) rfl (di_range1 (by rfl) M.m_range de_int) (dg_name (pg_name (i := 11) nd rfl (Or.inl rfl))) (ds_one (ds_lock (i := 8) (ds_for (passes_of rfl) rfl (di_keys (de_var (pv 8))) (dg_name (pg_name (i := 4) nd rfl (Or.inl rfl))) (ds_one (ds_if (dt_cmp opIsN_ok (de_ix (opIx_ok hu) (de_var (pv 8)) (de_var (pv 4))) de_non (nomark _)) (ds_one (ds_asg (de_tup (da_cons (de_str (by decide +kernel)) (da_cons (de_tup (da_cons (de_tup (da_cons (de_str (by decide +kernel)) (da_cons (de_dget2 hu (de_var (pv 9)) (de_var (pv 4)) (de_tup (da_cons (de_str (by decide +kernel)) da_nil)) ⟨rfl, rfl, rfl, rfl⟩) da_nil))) da_nil)) (da_cons de_non da_nil)))) (dg_sub (de_var (pv 9)) (de_var (pv 4)) (opSet_ok hu)))) ds_nil))))))
    (ds_cons (ds_lock (i := 8) (ds_setComp (own := [("_law_number", 4)]) (i := 12) rfl nd rfl rfl (sw_true rfl rfl rfl (by decide +kernel)) (di_keys (de_var (pv 8))) (blkOk_by (N := N__law_round) (sc := (defScope (top 45))) (own := [("_law_number", 4)]) (by decide +kernel)) (fun _ _ _ _ _ => pg_name (i := 4) nd rfl (Or.inl rfl)) (tgr_name (by decide)) (fun _ _ _ _ _ => dts_one (dw_pt (dw_and (dt_cmp opIsN_ok (de_ix (opIx_ok hu) (de_var (pv 8)) (de_var (pv 4))) de_non (nomark _)) (dw_and1 (dt_cmp opGt_ok (de_call (hC ._law_deep) hr takesN0 (by rfl) (dal_cons (de_ix (opIx_ok hu) (de_var (pv 9)) (de_var (pv 4))) dal_nil)) de_int (nomark _)))))) (fun _ _ _ _ _ => (de_var (pv 4)))))
    (ds_one (ds_set (i := 10) nd rfl (Or.inl rfl) (de_cmp (opNe_ok hu) (de_var (pv 12)) (de_lst da_nil) (nomark _)))))) ds_nil)
    (ds_cons (ds_lock (i := 8) (ds_setComp (own := [("_law_number", 4)]) (i := 13) rfl nd rfl rfl (sw_true rfl rfl rfl (by decide +kernel)) (di_keys (de_var (pv 8))) (blkOk_by (N := N__law_round) (sc := (defScope (top 45))) (own := [("_law_number", 4)]) (by decide +kernel)) (fun _ _ _ _ _ => pg_name (i := 4) nd rfl (Or.inl rfl)) (tgr_name (by decide)) (fun _ _ _ _ _ => dts_one (dt_cmp opIsN_ok (de_ix (opIx_ok hu) (de_var (pv 8)) (de_var (pv 4))) de_non (nomark _))) (fun _ _ _ _ _ => (de_var (pv 4)))))
    (ds_cons (ds_lock (i := 8) (ds_setComp (own := [("_law_number", 4)]) (i := 14) rfl nd rfl rfl (sw_true rfl rfl rfl (by decide +kernel)) (di_keys (de_var (pv 8))) (blkOk_by (N := N__law_round) (sc := (defScope (top 45))) (own := [("_law_number", 4)]) (by decide +kernel)) (fun _ _ _ _ _ => pg_name (i := 4) nd rfl (Or.inl rfl)) (tgr_name (by decide)) (fun _ _ _ _ _ => dts_one (dt_cmp opNotN_ok (de_ix (opIx_ok hu) (de_var (pv 8)) (de_var (pv 4))) de_non (nomark _))) (fun _ _ _ _ _ => (de_var (pv 4)))))
    (ds_cons (ds_if (dw_pt (dw_and (dt_cmp (opIn_ok hu) (de_bin opMod_ok (de_var (pv 3)) de_int) (de_lst (da_cons de_int (da_cons de_int da_nil))) rfl) (dw_and (dt_cmp (opNe_ok hu) (de_var (pv 13)) (de_lst da_nil) (nomark _)) (dw_and1 (dt_cmp (opNe_ok hu) (de_var (pv 14)) (de_lst da_nil) (nomark _)))))) (ds_cons (ds_expr (de_dpop2 (de_var (pv 9)) (de_ix (opIx_ok hu) (de_var (pv 14)) de_int) de_non ⟨rfl, rfl, rfl, rfl⟩))
    (ds_one (ds_asg (de_ix (opIx_ok hu) (de_lst (da_cons (de_tup (da_cons (de_str (by decide +kernel)) (da_cons (de_ix (opIx_ok hu) (de_var (pv 14)) de_int) da_nil))) (da_cons (de_tup (da_cons (de_str (by decide +kernel)) (da_cons (de_tup (da_cons (de_tup (da_cons (de_str (by decide +kernel)) (da_cons (de_tup (da_cons (de_str (by decide +kernel)) da_nil)) da_nil))) da_nil)) (da_cons (de_ix (opIx_ok hu) (de_var (pv 14)) de_int) da_nil)))) da_nil))) (de_bin opMod_ok (de_bin opDiv_ok (de_var (pv 3)) de_int) de_int)) (dg_sub (de_var (pv 9)) (de_ix (opIx_ok hu) (de_var (pv 13)) de_int) (opSet_ok hu))))) ds_nil)
    (ds_cons (ds_set (i := 15) nd rfl (Or.inl rfl) (de_callTy cDictC_ok (by rfl) M.m_dict (by decide +kernel) (da_cons (de_var (pv 9)) da_nil)))
    (ds_cons (ds_set (i := 16) nd rfl (Or.inl rfl) (de_call (hC ._law_due) hr tk (by rfl) (dal_cons (de_var (pv 7)) (dal_cons (de_var (pv 9)) (dal_cons (de_var (pv 10)) dal_nil)))))
    (ds_cons (ds_set (i := 17) nd rfl (Or.inl rfl) (de_call (hC ._law_tried) hr tk (by rfl) (dal_cons (de_var (pv 7)) (dal_cons (de_var (pv 9)) dal_nil))))
    (ds_cons (ds_expr (de_dclear (de_var (pv 9))))
    (ds_cons (ds_if (dw_pt (dw_or (dt_cmp (opNe_ok hu) (de_var (pv 17)) (de_var (pv 16)) (nomark _)) (dw_or1 (dt_cmp (opNe_ok hu) (de_isi (by rfl) M.m_isinstance (de_var (pv 17)) (pe_bltn (v := .ty "list") (by rfl) M.m_list (by decide +kernel) rfl)) (de_isi (by rfl) M.m_isinstance (de_var (pv 16)) (pe_bltn (v := .ty "list") (by rfl) M.m_list (by decide +kernel) rfl)) (nomark _))))) (ds_one (ds_ret de_bl)) ds_nil)
    (ds_one (ds_ret (de_and (de_cmp (opEq_ok hu) (de_call (hC ._law_tried) hr tk (by rfl) (dal_cons (de_var (pv 7)) (dal_cons (de_var (pv 15)) dal_nil))) (de_var (pv 16)) (nomark _)) (de_one (de_cmp (opEq_ok hu) (de_call (hC ._law_tried) hr tk (by rfl) (dal_cons (de_tup (da_cons (de_str (by decide +kernel)) da_nil)) (dal_cons (de_var (pv 15)) dal_nil))) (de_lst (da_cons (de_str (by decide +kernel)) da_nil)) (nomark _)))))))))))))))))))))))))
theorem sc_law : FnScope N_law ["_law_script"] (defScope (top 46)) := ⟨rfl, rfl, rfl, by decide +kernel, rfl, by decide +kernel, by decide +kernel⟩
theorem der_law (hC : ∀ g, Has PySem.Challenge.rw_fieldrest_k03_blanks_filled.prog w K mg base k (nm g) (ar g) (C g)) (M : Mgs mg) (hE : ∀ g y C, okX y = true → XT K mg y C → HasE PySem.Challenge.rw_fieldrest_k03_blanks_filled.prog w K mg base k (nmE g) (arE g) C (fun a => CE g a y)) (XF : Xs K mg) (f : Addr) (cdv : Value) (A : Around) (outer : List Env) (s : Shared) (H : Hp) (E : XK) (hr : Room k (A.deeper (envOfC "law" (defScope (top 46)) s.heap.objs.size f cdv))) :
    DSs (cxOf (L2N.CX PySem.Challenge.rw_fieldrest_k03_blanks_filled.prog w) PySem.Challenge.rw_fieldrest_k03_blanks_filled.prog w K mg base N_law "law" (defScope (top 46)) f cdv A outer s H E) (fun cls d _ H => E cls d H) (defBody (top 46)) (b_law C CE) := by
  have nd := sc_law.nd
  have hu := Ru.of hr
  have tk : L2N.Takes (cxOf (L2N.CX PySem.Challenge.rw_fieldrest_k03_blanks_filled.prog w) PySem.Challenge.rw_fieldrest_k03_blanks_filled.prog w K mg base N_law "law" (defScope (top 46)) f cdv A outer s H E) (fun cls d _ H => E cls d H) := L2N.takes_of rfl rfl rfl rfl
  exact (ds_cons (ds_set (i := 1) nd rfl (Or.inl rfl) (de_call (hC ._law_labels) hr tk (by rfl) (dal_cons (de_call (hC ._law_cell) hr tk (by rfl) (dal_cons (de_var (pv 0)) (dal_cons de_int dal_nil))) (dal_cons de_int dal_nil))))
    (ds_cons (ds_for (passes_of rfl) rfl (di_range1 (by rfl) M.m_range de_int) (dg_name (pg_name (i := 2) nd rfl (Or.inr rfl))) (ds_cons (ds_setComp (own := [("_law_turn", 4)]) (i := 3) rfl nd rfl rfl (sw_true rfl rfl rfl (by decide +kernel)) (di_range1 (by rfl) M.m_range de_int) (blkOk_by (N := N_law) (sc := (defScope (top 46))) (own := [("_law_turn", 4)]) (by decide +kernel)) (fun _ _ _ _ _ => pg_name (i := 4) nd rfl (Or.inl rfl)) (tgr_name (by decide)) (fun _ _ _ _ _ => dts_nil) (fun _ _ _ _ _ => (de_call (hC ._law_cell) hr takesN0 (by rfl) (dal_cons (de_var (pv 0)) (dal_cons (de_bin opAdd_ok (de_bin opAdd_ok de_int (de_bin opMul_ok de_int (de_var (pv 2)))) (de_var (pv 4))) dal_nil)))))
    (ds_one (ds_if (dt_not (dt_val (de_call (hC ._law_round) hr tk (by rfl) (dal_cons (de_var (pv 1)) (dal_cons (de_ix (opIx_ok hu) (de_var (pv 3)) de_int) (dal_cons (de_ix (opIx_ok hu) (de_var (pv 3)) de_int) (dal_cons (de_ix (opIx_ok hu) (de_var (pv 3)) de_int) (dal_cons (de_ix (opIx_ok hu) (de_var (pv 3)) de_int) dal_nil)))))))) (ds_one (ds_ret de_bl)) ds_nil))))
    (ds_one (ds_ret de_bl))))
end

structure Facts (K : PySem.W.Frag) (mg : Str → Option Value) : Prop where
  M : Mgs mg
  XF : Xs K mg
  F_is_whole : ∃ f fd, Fun K "is_whole" "is_whole" (top 12) f fd ∧ mg "is_whole" = some (.ref f) ∧ Binds K fd ["thing"] []
  F_is_word : ∃ f fd, Fun K "is_word" "is_word" (top 13) f fd ∧ mg "is_word" = some (.ref f) ∧ Binds K fd ["thing"] []
  F_is_pair : ∃ f fd, Fun K "is_pair" "is_pair" (top 14) f fd ∧ mg "is_pair" = some (.ref f) ∧ Binds K fd ["thing"] []
  F_is_rest : ∃ f fd, Fun K "is_rest" "is_rest" (top 18) f fd ∧ mg "is_rest" = some (.ref f) ∧ Binds K fd ["thing"] []
  F_is_row : ∃ f fd, Fun K "is_row" "is_row" (top 19) f fd ∧ mg "is_row" = some (.ref f) ∧ Binds K fd ["fields", "deep"] []
  F_is_kind_in : ∃ f fd, Fun K "is_kind_in" "is_kind_in" (top 20) f fd ∧ mg "is_kind_in" = some (.ref f) ∧ Binds K fd ["thing", "deep"] []
  F_knots : ∃ f fd, Fun K "knots" "knots" (top 21) f fd ∧ mg "knots" = some (.ref f) ∧ Binds K fd ["kind"] []
  F_depth : ∃ f fd, Fun K "depth" "depth" (top 22) f fd ∧ mg "depth" = some (.ref f) ∧ Binds K fd ["kind"] []
  F_blanks_in : ∃ f fd, Fun K "blanks_in" "blanks_in" (top 23) f fd ∧ mg "blanks_in" = some (.ref f) ∧ Binds K fd ["kind", "found"] []
  F_put_blank : ∃ f fd, Fun K "put_blank" "put_blank" (top 24) f fd ∧ mg "put_blank" = some (.ref f) ∧ Binds K fd ["found", "number", "labels"] []
  F_is_kind : ∃ f fd, Fun K "is_kind" "is_kind" (top 25) f fd ∧ mg "is_kind" = some (.ref f) ∧ Binds K fd ["thing"] []
  F_need_kind : ∃ f fd, Fun K "need_kind" "need_kind" (top 26) f fd ∧ mg "need_kind" = some (.ref f) ∧ Binds K fd ["thing"] []
  F_fill : ∃ f fd, Fun K "fill" "fill" (top 27) f fd ∧ mg "fill" = some (.ref f) ∧ Binds K fd ["kind", "fills"] []
  F_is_fill : ∃ f fd, Fun K "is_fill" "is_fill" (top 28) f fd ∧ mg "is_fill" = some (.ref f) ∧ Binds K fd ["labels", "thing"] []
  F_filled : ∃ f fd, Fun K "filled" "filled" (top 29) f fd ∧ mg "filled" = some (.ref f) ∧ Binds K fd ["kind", "fills"] []
  F__law_cell : ∃ f fd, Fun K "_law_cell" "_law_cell" (top 31) f fd ∧ mg "_law_cell" = some (.ref f) ∧ Binds K fd ["_law_script", "_law_k"] []
  F__law_next : ∃ f fd, Fun K "_law_next" "_law_next" (top 32) f fd ∧ mg "_law_next" = some (.ref f) ∧ Binds K fd ["_law_state"] []
  F__law_labels : ∃ f fd, Fun K "_law_labels" "_law_labels" (top 33) f fd ∧ mg "_law_labels" = some (.ref f) ∧ Binds K fd ["_law_cell_here", "_law_many"] []
  F__law_kind : ∃ f fd, Fun K "_law_kind" "_law_kind" (top 34) f fd ∧ mg "_law_kind" = some (.ref f) ∧ Binds K fd ["_law_state", "_law_labels_here", "_law_met_here", "_law_left"] []
  F__law_blanks : ∃ f fd, Fun K "_law_blanks" "_law_blanks" (top 35) f fd ∧ mg "_law_blanks" = some (.ref f) ∧ Binds K fd ["_law_kind_here", "_law_found"] []
  F__law_filled : ∃ f fd, Fun K "_law_filled" "_law_filled" (top 36) f fd ∧ mg "_law_filled" = some (.ref f) ∧ Binds K fd ["_law_kind_here", "_law_fills"] []
  F__law_fill : ∃ f fd, Fun K "_law_fill" "_law_fill" (top 37) f fd ∧ mg "_law_fill" = some (.ref f) ∧ Binds K fd ["_law_state", "_law_labels_here", "_law_met_here", "_law_ahead"] []
  F__law_lone : ∃ f fd, Fun K "_law_lone" "_law_lone" (top 38) f fd ∧ mg "_law_lone" = some (.ref f) ∧ Binds K fd ["_law_e"] []
  F__law_knots : ∃ f fd, Fun K "_law_knots" "_law_knots" (top 39) f fd ∧ mg "_law_knots" = some (.ref f) ∧ Binds K fd ["_law_kind_here"] []
  F__law_deep : ∃ f fd, Fun K "_law_deep" "_law_deep" (top 40) f fd ∧ mg "_law_deep" = some (.ref f) ∧ Binds K fd ["_law_kind_here"] []
  F__law_met : ∃ f fd, Fun K "_law_met" "_law_met" (top 41) f fd ∧ mg "_law_met" = some (.ref f) ∧ Binds K fd ["_law_kind_here", "_law_seen"] []
  F__law_odd : ∃ f fd, Fun K "_law_odd" "_law_odd" (top 42) f fd ∧ mg "_law_odd" = some (.ref f) ∧ Binds K fd ["_law_number", "_law_ahead"] []
  F__law_tried : ∃ f fd, Fun K "_law_tried" "_law_tried" (top 43) f fd ∧ mg "_law_tried" = some (.ref f) ∧ Binds K fd ["_law_kind_here", "_law_fills"] []
  F__law_due : ∃ f fd, Fun K "_law_due" "_law_due" (top 44) f fd ∧ mg "_law_due" = some (.ref f) ∧ Binds K fd ["_law_kind_here", "_law_fills", "_law_odd_here"] []
  F__law_round : ∃ f fd, Fun K "_law_round" "_law_round" (top 45) f fd ∧ mg "_law_round" = some (.ref f) ∧ Binds K fd ["_law_labels_here", "_law_seed", "_law_size", "_law_way", "_law_number"] []
  F_law : ∃ f fd, Fun K "law" "law" (top 46) f fd ∧ mg "law" = some (.ref f) ∧ Binds K fd ["_law_script"] []
theorem all_hasE {w : World} {K : PySem.W.Frag} {mg : Str → Option Value} {base : Heap} (T : Facts K mg) : ∀ (k : Nat) (g : FnX) (y : Str) (C : Addr), okX y = true → XT K mg y C → HasE PySem.Challenge.rw_fieldrest_k03_blanks_filled.prog w K mg base k (nmE g) (arE g) C (fun a => runE k g a y)
  | 0, g, y, C, hy, ht => by
    cases g with
    | _law_lone => obtain ⟨f, fd, F, hm, hb⟩ := T.F__law_lone; exact ⟨f, fd, _, fun _ _ _ _ _ _ _ _ _ _ _ _ _ _ _ _ _ _ _ _ _ _ g => g.elim, hm, F.kp, hb, rfl⟩
  | k + 1, g, y, C, hy, ht => by
    cases g with
    | _law_lone => obtain ⟨f, fd, F, hm, hb⟩ := T.F__law_lone; exact ⟨f, fd, _, fnE_of F sc__law_lone finRaw_ok (fun cdv A outer s H p hot ho hr => der__law_lone T.M ht f cdv A outer s H p hot ho hr), hm, F.kp, hb, rfl⟩
theorem all_has {w : World} {K : PySem.W.Frag} {mg : Str → Option Value} {base : Heap} (T : Facts K mg) : ∀ (k : Nat) (g : Fn), Has PySem.Challenge.rw_fieldrest_k03_blanks_filled.prog w K mg base k (nm g) (ar g) (run k g)
  | 0, g => by
    cases g with
    | is_whole => obtain ⟨f, fd, F, hm, hb⟩ := T.F_is_whole; exact has_zero F hm hb rfl
    | is_word => obtain ⟨f, fd, F, hm, hb⟩ := T.F_is_word; exact has_zero F hm hb rfl
    | is_pair => obtain ⟨f, fd, F, hm, hb⟩ := T.F_is_pair; exact has_zero F hm hb rfl
    | is_rest => obtain ⟨f, fd, F, hm, hb⟩ := T.F_is_rest; exact has_zero F hm hb rfl
    | is_row => obtain ⟨f, fd, F, hm, hb⟩ := T.F_is_row; exact has_zero F hm hb rfl
    | is_kind_in => obtain ⟨f, fd, F, hm, hb⟩ := T.F_is_kind_in; exact has_zero F hm hb rfl
    | knots => obtain ⟨f, fd, F, hm, hb⟩ := T.F_knots; exact has_zero F hm hb rfl
    | depth => obtain ⟨f, fd, F, hm, hb⟩ := T.F_depth; exact has_zero F hm hb rfl
    | blanks_in => obtain ⟨f, fd, F, hm, hb⟩ := T.F_blanks_in; exact has_zero F hm hb rfl
    | put_blank => obtain ⟨f, fd, F, hm, hb⟩ := T.F_put_blank; exact has_zero F hm hb rfl
    | is_kind => obtain ⟨f, fd, F, hm, hb⟩ := T.F_is_kind; exact has_zero F hm hb rfl
    | need_kind => obtain ⟨f, fd, F, hm, hb⟩ := T.F_need_kind; exact has_zero F hm hb rfl
    | fill => obtain ⟨f, fd, F, hm, hb⟩ := T.F_fill; exact has_zero F hm hb rfl
    | is_fill => obtain ⟨f, fd, F, hm, hb⟩ := T.F_is_fill; exact has_zero F hm hb rfl
    | filled => obtain ⟨f, fd, F, hm, hb⟩ := T.F_filled; exact has_zero F hm hb rfl
    | _law_cell => obtain ⟨f, fd, F, hm, hb⟩ := T.F__law_cell; exact has_zero F hm hb rfl
    | _law_next => obtain ⟨f, fd, F, hm, hb⟩ := T.F__law_next; exact has_zero F hm hb rfl
    | _law_labels => obtain ⟨f, fd, F, hm, hb⟩ := T.F__law_labels; exact has_zero F hm hb rfl
    | _law_kind => obtain ⟨f, fd, F, hm, hb⟩ := T.F__law_kind; exact has_zero F hm hb rfl
    | _law_blanks => obtain ⟨f, fd, F, hm, hb⟩ := T.F__law_blanks; exact has_zero F hm hb rfl
    | _law_filled => obtain ⟨f, fd, F, hm, hb⟩ := T.F__law_filled; exact has_zero F hm hb rfl
    | _law_fill => obtain ⟨f, fd, F, hm, hb⟩ := T.F__law_fill; exact has_zero F hm hb rfl
    | _law_knots => obtain ⟨f, fd, F, hm, hb⟩ := T.F__law_knots; exact has_zero F hm hb rfl
    | _law_deep => obtain ⟨f, fd, F, hm, hb⟩ := T.F__law_deep; exact has_zero F hm hb rfl
    | _law_met => obtain ⟨f, fd, F, hm, hb⟩ := T.F__law_met; exact has_zero F hm hb rfl
    | _law_odd => obtain ⟨f, fd, F, hm, hb⟩ := T.F__law_odd; exact has_zero F hm hb rfl
    | _law_tried => obtain ⟨f, fd, F, hm, hb⟩ := T.F__law_tried; exact has_zero F hm hb rfl
    | _law_due => obtain ⟨f, fd, F, hm, hb⟩ := T.F__law_due; exact has_zero F hm hb rfl
    | _law_round => obtain ⟨f, fd, F, hm, hb⟩ := T.F__law_round; exact has_zero F hm hb rfl
    | law => obtain ⟨f, fd, F, hm, hb⟩ := T.F_law; exact has_zero F hm hb rfl
  | k + 1, g => by
    have hC := all_has (w := w) (base := base) T k
    have hE := all_hasE (w := w) (base := base) T k
    cases g with
    | is_whole => obtain ⟨f, fd, F, hm, hb⟩ := T.F_is_whole; exact has_of F sc_is_whole hm hb rfl finRaw_ok (der_is_whole hC T.M hE T.XF f)
    | is_word => obtain ⟨f, fd, F, hm, hb⟩ := T.F_is_word; exact has_of F sc_is_word hm hb rfl finRaw_ok (der_is_word hC T.M hE T.XF f)
    | is_pair => obtain ⟨f, fd, F, hm, hb⟩ := T.F_is_pair; exact has_of F sc_is_pair hm hb rfl finRaw_ok (der_is_pair hC T.M hE T.XF f)
    | is_rest => obtain ⟨f, fd, F, hm, hb⟩ := T.F_is_rest; exact has_of F sc_is_rest hm hb rfl finRaw_ok (der_is_rest hC T.M hE T.XF f)
    | is_row => obtain ⟨f, fd, F, hm, hb⟩ := T.F_is_row; exact has_of F sc_is_row hm hb rfl finRaw_ok (der_is_row hC T.M hE T.XF f)
    | is_kind_in => obtain ⟨f, fd, F, hm, hb⟩ := T.F_is_kind_in; exact has_of F sc_is_kind_in hm hb rfl finRaw_ok (der_is_kind_in hC T.M hE T.XF f)
    | knots => obtain ⟨f, fd, F, hm, hb⟩ := T.F_knots; exact has_of F sc_knots hm hb rfl finRaw_ok (der_knots hC T.M hE T.XF f)
    | depth => obtain ⟨f, fd, F, hm, hb⟩ := T.F_depth; exact has_of F sc_depth hm hb rfl finRaw_ok (der_depth hC T.M hE T.XF f)
    | blanks_in => obtain ⟨f, fd, F, hm, hb⟩ := T.F_blanks_in; exact has_of F sc_blanks_in hm hb rfl finRaw_ok (der_blanks_in hC T.M hE T.XF f)
    | put_blank => obtain ⟨f, fd, F, hm, hb⟩ := T.F_put_blank; exact has_of F sc_put_blank hm hb rfl finRaw_ok (der_put_blank hC T.M hE T.XF f)
    | is_kind => obtain ⟨f, fd, F, hm, hb⟩ := T.F_is_kind; exact has_of F sc_is_kind hm hb rfl finFrz_ok (der_is_kind hC T.M hE T.XF f)
    | need_kind => obtain ⟨f, fd, F, hm, hb⟩ := T.F_need_kind; exact has_of F sc_need_kind hm hb rfl finRaw_ok (der_need_kind hC T.M hE T.XF f)
    | fill => obtain ⟨f, fd, F, hm, hb⟩ := T.F_fill; exact has_of F sc_fill hm hb rfl finRaw_ok (der_fill hC T.M hE T.XF f)
    | is_fill => obtain ⟨f, fd, F, hm, hb⟩ := T.F_is_fill; exact has_of F sc_is_fill hm hb rfl finRaw_ok (der_is_fill hC T.M hE T.XF f)
    | filled => obtain ⟨f, fd, F, hm, hb⟩ := T.F_filled; exact has_of F sc_filled hm hb rfl finFrz_ok (der_filled hC T.M hE T.XF f)
    | _law_cell => obtain ⟨f, fd, F, hm, hb⟩ := T.F__law_cell; exact has_of F sc__law_cell hm hb rfl finRaw_ok (der__law_cell hC T.M hE T.XF f)
    | _law_next => obtain ⟨f, fd, F, hm, hb⟩ := T.F__law_next; exact has_of F sc__law_next hm hb rfl finRaw_ok (der__law_next hC T.M hE T.XF f)
    | _law_labels => obtain ⟨f, fd, F, hm, hb⟩ := T.F__law_labels; exact has_of F sc__law_labels hm hb rfl finFrz_ok (der__law_labels hC T.M hE T.XF f)
    | _law_kind => obtain ⟨f, fd, F, hm, hb⟩ := T.F__law_kind; exact has_of F sc__law_kind hm hb rfl finRaw_ok (der__law_kind hC T.M hE T.XF f)
    | _law_blanks => obtain ⟨f, fd, F, hm, hb⟩ := T.F__law_blanks; exact has_of F sc__law_blanks hm hb rfl finRaw_ok (der__law_blanks hC T.M hE T.XF f)
    | _law_filled => obtain ⟨f, fd, F, hm, hb⟩ := T.F__law_filled; exact has_of F sc__law_filled hm hb rfl finFrz_ok (der__law_filled hC T.M hE T.XF f)
    | _law_fill => obtain ⟨f, fd, F, hm, hb⟩ := T.F__law_fill; exact has_of F sc__law_fill hm hb rfl finRaw_ok (der__law_fill hC T.M hE T.XF f)
    | _law_knots => obtain ⟨f, fd, F, hm, hb⟩ := T.F__law_knots; exact has_of F sc__law_knots hm hb rfl finRaw_ok (der__law_knots hC T.M hE T.XF f)
    | _law_deep => obtain ⟨f, fd, F, hm, hb⟩ := T.F__law_deep; exact has_of F sc__law_deep hm hb rfl finRaw_ok (der__law_deep hC T.M hE T.XF f)
    | _law_met => obtain ⟨f, fd, F, hm, hb⟩ := T.F__law_met; exact has_of F sc__law_met hm hb rfl finRaw_ok (der__law_met hC T.M hE T.XF f)
    | _law_odd => obtain ⟨f, fd, F, hm, hb⟩ := T.F__law_odd; exact has_of F sc__law_odd hm hb rfl finFrz_ok (der__law_odd hC T.M hE T.XF f)
    | _law_tried => obtain ⟨f, fd, F, hm, hb⟩ := T.F__law_tried; exact has_of F sc__law_tried hm hb rfl finRaw_ok (der__law_tried hC T.M hE T.XF f)
    | _law_due => obtain ⟨f, fd, F, hm, hb⟩ := T.F__law_due; exact has_of F sc__law_due hm hb rfl finFrz_ok (der__law_due hC T.M hE T.XF f)
    | _law_round => obtain ⟨f, fd, F, hm, hb⟩ := T.F__law_round; exact has_of F sc__law_round hm hb rfl finFrz_ok (der__law_round hC T.M hE T.XF f)
    | law => obtain ⟨f, fd, F, hm, hb⟩ := T.F_law; exact has_of F sc_law hm hb rfl finRaw_ok (der_law hC T.M hE T.XF f)
/-- the program's top: the defs stand there as the text says -/
theorem all_mk {w : World} {K : PySem.W.Frag} {h : Heap} {mg : Str → Option Value} {fa : Addr} (X : K.In h) (G : h.Ns mainGlobals mg) (hfa : mg "law" = some (.ref fa)) {f0 f1 f2 f3 f4 f5 f6 f7 f8 f9 f10 f11 f12 f13 f14 f15 f16 f17 f18 f19 f20 f21 f22 f23 f24 f25 f26 f27 f28 f29 f30 : Addr}
    {od0 an0 od1 an1 od2 an2 od3 an3 od4 an4 od5 an5 od6 an6 od7 an7 od8 an8 od9 an9 od10 an10 od11 an11 od12 an12 od13 an13 od14 an14 od15 an15 od16 an16 od17 an17 od18 an18 od19 an19 od20 an20 od21 an21 od22 an22 od23 an23 od24 an24 od25 an25 od26 an26 od27 an27 od28 an28 od29 an29 od30 an30 : Option Addr} {sl0 sl1 sl2 sl3 sl4 sl5 sl6 sl7 sl8 sl9 sl10 sl11 sl12 sl13 sl14 sl15 sl16 sl17 sl18 sl19 sl20 sl21 sl22 sl23 sl24 sl25 sl26 sl27 sl28 sl29 sl30 : Array (Option Value)} {oc0 kV0 dc0 pm0 cd0 ct0 oc1 kV1 dc1 pm1 cd1 ct1 oc2 kV2 dc2 pm2 cd2 ct2 oc3 kV3 dc3 pm3 cd3 ct3 oc4 kV4 dc4 pm4 cd4 ct4 oc5 kV5 dc5 pm5 cd5 ct5 oc6 kV6 dc6 pm6 cd6 ct6 oc7 kV7 dc7 pm7 cd7 ct7 oc8 kV8 dc8 pm8 cd8 ct8 oc9 kV9 dc9 pm9 cd9 ct9 oc10 kV10 dc10 pm10 cd10 ct10 oc11 kV11 dc11 pm11 cd11 ct11 oc12 kV12 dc12 pm12 cd12 ct12 oc13 kV13 dc13 pm13 cd13 ct13 oc14 kV14 dc14 pm14 cd14 ct14 oc15 kV15 dc15 pm15 cd15 ct15 oc16 kV16 dc16 pm16 cd16 ct16 oc17 kV17 dc17 pm17 cd17 ct17 oc18 kV18 dc18 pm18 cd18 ct18 oc19 kV19 dc19 pm19 cd19 ct19 oc20 kV20 dc20 pm20 cd20 ct20 oc21 kV21 dc21 pm21 cd21 ct21 oc22 kV22 dc22 pm22 cd22 ct22 oc23 kV23 dc23 pm23 cd23 ct23 oc24 kV24 dc24 pm24 cd24 ct24 oc25 kV25 dc25 pm25 cd25 ct25 oc26 kV26 dc26 pm26 cd26 ct26 oc27 kV27 dc27 pm27 cd27 ct27 oc28 kV28 dc28 pm28 cd28 ct28 oc29 kV29 dc29 pm29 cd29 ct29 oc30 kV30 dc30 pm30 cd30 ct30 : Value} {tk_MOST_KIND_DEEP tk_MOST_KNOTS tk_MOST_SIGNS tk_SMALL : Tok}
    (a0 : PySem.W.nsIn K mainGlobals "is_whole" = some (some (.ref f0))) (l0 : K.lookup f0 = some ⟨oc0, od0, .func (PySem.W.fnOf "is_whole" "is_whole" (defArgs (top 12)) (defBody (top 12)) (defScope (top 12)) .none kV0 dc0 pm0 an0 cd0 ct0), sl0⟩) (c0 : PySem.W.codeIn K cd0 "is_whole" = true) (k0 : PySem.W.keepIn K (.ref f0) = true)
    (a1 : PySem.W.nsIn K mainGlobals "is_word" = some (some (.ref f1))) (l1 : K.lookup f1 = some ⟨oc1, od1, .func (PySem.W.fnOf "is_word" "is_word" (defArgs (top 13)) (defBody (top 13)) (defScope (top 13)) .none kV1 dc1 pm1 an1 cd1 ct1), sl1⟩) (c1 : PySem.W.codeIn K cd1 "is_word" = true) (k1 : PySem.W.keepIn K (.ref f1) = true)
    (a2 : PySem.W.nsIn K mainGlobals "is_pair" = some (some (.ref f2))) (l2 : K.lookup f2 = some ⟨oc2, od2, .func (PySem.W.fnOf "is_pair" "is_pair" (defArgs (top 14)) (defBody (top 14)) (defScope (top 14)) .none kV2 dc2 pm2 an2 cd2 ct2), sl2⟩) (c2 : PySem.W.codeIn K cd2 "is_pair" = true) (k2 : PySem.W.keepIn K (.ref f2) = true)
    (a3 : PySem.W.nsIn K mainGlobals "is_rest" = some (some (.ref f3))) (l3 : K.lookup f3 = some ⟨oc3, od3, .func (PySem.W.fnOf "is_rest" "is_rest" (defArgs (top 18)) (defBody (top 18)) (defScope (top 18)) .none kV3 dc3 pm3 an3 cd3 ct3), sl3⟩) (c3 : PySem.W.codeIn K cd3 "is_rest" = true) (k3 : PySem.W.keepIn K (.ref f3) = true)
    (a4 : PySem.W.nsIn K mainGlobals "is_row" = some (some (.ref f4))) (l4 : K.lookup f4 = some ⟨oc4, od4, .func (PySem.W.fnOf "is_row" "is_row" (defArgs (top 19)) (defBody (top 19)) (defScope (top 19)) .none kV4 dc4 pm4 an4 cd4 ct4), sl4⟩) (c4 : PySem.W.codeIn K cd4 "is_row" = true) (k4 : PySem.W.keepIn K (.ref f4) = true)
    (a5 : PySem.W.nsIn K mainGlobals "is_kind_in" = some (some (.ref f5))) (l5 : K.lookup f5 = some ⟨oc5, od5, .func (PySem.W.fnOf "is_kind_in" "is_kind_in" (defArgs (top 20)) (defBody (top 20)) (defScope (top 20)) .none kV5 dc5 pm5 an5 cd5 ct5), sl5⟩) (c5 : PySem.W.codeIn K cd5 "is_kind_in" = true) (k5 : PySem.W.keepIn K (.ref f5) = true)
    (a6 : PySem.W.nsIn K mainGlobals "knots" = some (some (.ref f6))) (l6 : K.lookup f6 = some ⟨oc6, od6, .func (PySem.W.fnOf "knots" "knots" (defArgs (top 21)) (defBody (top 21)) (defScope (top 21)) .none kV6 dc6 pm6 an6 cd6 ct6), sl6⟩) (c6 : PySem.W.codeIn K cd6 "knots" = true) (k6 : PySem.W.keepIn K (.ref f6) = true)
    (a7 : PySem.W.nsIn K mainGlobals "depth" = some (some (.ref f7))) (l7 : K.lookup f7 = some ⟨oc7, od7, .func (PySem.W.fnOf "depth" "depth" (defArgs (top 22)) (defBody (top 22)) (defScope (top 22)) .none kV7 dc7 pm7 an7 cd7 ct7), sl7⟩) (c7 : PySem.W.codeIn K cd7 "depth" = true) (k7 : PySem.W.keepIn K (.ref f7) = true)
    (a8 : PySem.W.nsIn K mainGlobals "blanks_in" = some (some (.ref f8))) (l8 : K.lookup f8 = some ⟨oc8, od8, .func (PySem.W.fnOf "blanks_in" "blanks_in" (defArgs (top 23)) (defBody (top 23)) (defScope (top 23)) .none kV8 dc8 pm8 an8 cd8 ct8), sl8⟩) (c8 : PySem.W.codeIn K cd8 "blanks_in" = true) (k8 : PySem.W.keepIn K (.ref f8) = true)
    (a9 : PySem.W.nsIn K mainGlobals "put_blank" = some (some (.ref f9))) (l9 : K.lookup f9 = some ⟨oc9, od9, .func (PySem.W.fnOf "put_blank" "put_blank" (defArgs (top 24)) (defBody (top 24)) (defScope (top 24)) .none kV9 dc9 pm9 an9 cd9 ct9), sl9⟩) (c9 : PySem.W.codeIn K cd9 "put_blank" = true) (k9 : PySem.W.keepIn K (.ref f9) = true)
    (a10 : PySem.W.nsIn K mainGlobals "is_kind" = some (some (.ref f10))) (l10 : K.lookup f10 = some ⟨oc10, od10, .func (PySem.W.fnOf "is_kind" "is_kind" (defArgs (top 25)) (defBody (top 25)) (defScope (top 25)) .none kV10 dc10 pm10 an10 cd10 ct10), sl10⟩) (c10 : PySem.W.codeIn K cd10 "is_kind" = true) (k10 : PySem.W.keepIn K (.ref f10) = true)
    (a11 : PySem.W.nsIn K mainGlobals "need_kind" = some (some (.ref f11))) (l11 : K.lookup f11 = some ⟨oc11, od11, .func (PySem.W.fnOf "need_kind" "need_kind" (defArgs (top 26)) (defBody (top 26)) (defScope (top 26)) .none kV11 dc11 pm11 an11 cd11 ct11), sl11⟩) (c11 : PySem.W.codeIn K cd11 "need_kind" = true) (k11 : PySem.W.keepIn K (.ref f11) = true)
    (a12 : PySem.W.nsIn K mainGlobals "fill" = some (some (.ref f12))) (l12 : K.lookup f12 = some ⟨oc12, od12, .func (PySem.W.fnOf "fill" "fill" (defArgs (top 27)) (defBody (top 27)) (defScope (top 27)) .none kV12 dc12 pm12 an12 cd12 ct12), sl12⟩) (c12 : PySem.W.codeIn K cd12 "fill" = true) (k12 : PySem.W.keepIn K (.ref f12) = true)
    (a13 : PySem.W.nsIn K mainGlobals "is_fill" = some (some (.ref f13))) (l13 : K.lookup f13 = some ⟨oc13, od13, .func (PySem.W.fnOf "is_fill" "is_fill" (defArgs (top 28)) (defBody (top 28)) (defScope (top 28)) .none kV13 dc13 pm13 an13 cd13 ct13), sl13⟩) (c13 : PySem.W.codeIn K cd13 "is_fill" = true) (k13 : PySem.W.keepIn K (.ref f13) = true)
    (a14 : PySem.W.nsIn K mainGlobals "filled" = some (some (.ref f14))) (l14 : K.lookup f14 = some ⟨oc14, od14, .func (PySem.W.fnOf "filled" "filled" (defArgs (top 29)) (defBody (top 29)) (defScope (top 29)) .none kV14 dc14 pm14 an14 cd14 ct14), sl14⟩) (c14 : PySem.W.codeIn K cd14 "filled" = true) (k14 : PySem.W.keepIn K (.ref f14) = true)
    (a15 : PySem.W.nsIn K mainGlobals "_law_cell" = some (some (.ref f15))) (l15 : K.lookup f15 = some ⟨oc15, od15, .func (PySem.W.fnOf "_law_cell" "_law_cell" (defArgs (top 31)) (defBody (top 31)) (defScope (top 31)) .none kV15 dc15 pm15 an15 cd15 ct15), sl15⟩) (c15 : PySem.W.codeIn K cd15 "_law_cell" = true) (k15 : PySem.W.keepIn K (.ref f15) = true)
    (a16 : PySem.W.nsIn K mainGlobals "_law_next" = some (some (.ref f16))) (l16 : K.lookup f16 = some ⟨oc16, od16, .func (PySem.W.fnOf "_law_next" "_law_next" (defArgs (top 32)) (defBody (top 32)) (defScope (top 32)) .none kV16 dc16 pm16 an16 cd16 ct16), sl16⟩) (c16 : PySem.W.codeIn K cd16 "_law_next" = true) (k16 : PySem.W.keepIn K (.ref f16) = true)
    (a17 : PySem.W.nsIn K mainGlobals "_law_labels" = some (some (.ref f17))) (l17 : K.lookup f17 = some ⟨oc17, od17, .func (PySem.W.fnOf "_law_labels" "_law_labels" (defArgs (top 33)) (defBody (top 33)) (defScope (top 33)) .none kV17 dc17 pm17 an17 cd17 ct17), sl17⟩) (c17 : PySem.W.codeIn K cd17 "_law_labels" = true) (k17 : PySem.W.keepIn K (.ref f17) = true)
    (a18 : PySem.W.nsIn K mainGlobals "_law_kind" = some (some (.ref f18))) (l18 : K.lookup f18 = some ⟨oc18, od18, .func (PySem.W.fnOf "_law_kind" "_law_kind" (defArgs (top 34)) (defBody (top 34)) (defScope (top 34)) .none kV18 dc18 pm18 an18 cd18 ct18), sl18⟩) (c18 : PySem.W.codeIn K cd18 "_law_kind" = true) (k18 : PySem.W.keepIn K (.ref f18) = true)
    (a19 : PySem.W.nsIn K mainGlobals "_law_blanks" = some (some (.ref f19))) (l19 : K.lookup f19 = some ⟨oc19, od19, .func (PySem.W.fnOf "_law_blanks" "_law_blanks" (defArgs (top 35)) (defBody (top 35)) (defScope (top 35)) .none kV19 dc19 pm19 an19 cd19 ct19), sl19⟩) (c19 : PySem.W.codeIn K cd19 "_law_blanks" = true) (k19 : PySem.W.keepIn K (.ref f19) = true)
    (a20 : PySem.W.nsIn K mainGlobals "_law_filled" = some (some (.ref f20))) (l20 : K.lookup f20 = some ⟨oc20, od20, .func (PySem.W.fnOf "_law_filled" "_law_filled" (defArgs (top 36)) (defBody (top 36)) (defScope (top 36)) .none kV20 dc20 pm20 an20 cd20 ct20), sl20⟩) (c20 : PySem.W.codeIn K cd20 "_law_filled" = true) (k20 : PySem.W.keepIn K (.ref f20) = true)
    (a21 : PySem.W.nsIn K mainGlobals "_law_fill" = some (some (.ref f21))) (l21 : K.lookup f21 = some ⟨oc21, od21, .func (PySem.W.fnOf "_law_fill" "_law_fill" (defArgs (top 37)) (defBody (top 37)) (defScope (top 37)) .none kV21 dc21 pm21 an21 cd21 ct21), sl21⟩) (c21 : PySem.W.codeIn K cd21 "_law_fill" = true) (k21 : PySem.W.keepIn K (.ref f21) = true)
    (a22 : PySem.W.nsIn K mainGlobals "_law_lone" = some (some (.ref f22))) (l22 : K.lookup f22 = some ⟨oc22, od22, .func (PySem.W.fnOf "_law_lone" "_law_lone" (defArgs (top 38)) (defBody (top 38)) (defScope (top 38)) .none kV22 dc22 pm22 an22 cd22 ct22), sl22⟩) (c22 : PySem.W.codeIn K cd22 "_law_lone" = true) (k22 : PySem.W.keepIn K (.ref f22) = true)
    (a23 : PySem.W.nsIn K mainGlobals "_law_knots" = some (some (.ref f23))) (l23 : K.lookup f23 = some ⟨oc23, od23, .func (PySem.W.fnOf "_law_knots" "_law_knots" (defArgs (top 39)) (defBody (top 39)) (defScope (top 39)) .none kV23 dc23 pm23 an23 cd23 ct23), sl23⟩) (c23 : PySem.W.codeIn K cd23 "_law_knots" = true) (k23 : PySem.W.keepIn K (.ref f23) = true)
    (a24 : PySem.W.nsIn K mainGlobals "_law_deep" = some (some (.ref f24))) (l24 : K.lookup f24 = some ⟨oc24, od24, .func (PySem.W.fnOf "_law_deep" "_law_deep" (defArgs (top 40)) (defBody (top 40)) (defScope (top 40)) .none kV24 dc24 pm24 an24 cd24 ct24), sl24⟩) (c24 : PySem.W.codeIn K cd24 "_law_deep" = true) (k24 : PySem.W.keepIn K (.ref f24) = true)
    (a25 : PySem.W.nsIn K mainGlobals "_law_met" = some (some (.ref f25))) (l25 : K.lookup f25 = some ⟨oc25, od25, .func (PySem.W.fnOf "_law_met" "_law_met" (defArgs (top 41)) (defBody (top 41)) (defScope (top 41)) .none kV25 dc25 pm25 an25 cd25 ct25), sl25⟩) (c25 : PySem.W.codeIn K cd25 "_law_met" = true) (k25 : PySem.W.keepIn K (.ref f25) = true)
    (a26 : PySem.W.nsIn K mainGlobals "_law_odd" = some (some (.ref f26))) (l26 : K.lookup f26 = some ⟨oc26, od26, .func (PySem.W.fnOf "_law_odd" "_law_odd" (defArgs (top 42)) (defBody (top 42)) (defScope (top 42)) .none kV26 dc26 pm26 an26 cd26 ct26), sl26⟩) (c26 : PySem.W.codeIn K cd26 "_law_odd" = true) (k26 : PySem.W.keepIn K (.ref f26) = true)
    (a27 : PySem.W.nsIn K mainGlobals "_law_tried" = some (some (.ref f27))) (l27 : K.lookup f27 = some ⟨oc27, od27, .func (PySem.W.fnOf "_law_tried" "_law_tried" (defArgs (top 43)) (defBody (top 43)) (defScope (top 43)) .none kV27 dc27 pm27 an27 cd27 ct27), sl27⟩) (c27 : PySem.W.codeIn K cd27 "_law_tried" = true) (k27 : PySem.W.keepIn K (.ref f27) = true)
    (a28 : PySem.W.nsIn K mainGlobals "_law_due" = some (some (.ref f28))) (l28 : K.lookup f28 = some ⟨oc28, od28, .func (PySem.W.fnOf "_law_due" "_law_due" (defArgs (top 44)) (defBody (top 44)) (defScope (top 44)) .none kV28 dc28 pm28 an28 cd28 ct28), sl28⟩) (c28 : PySem.W.codeIn K cd28 "_law_due" = true) (k28 : PySem.W.keepIn K (.ref f28) = true)
    (a29 : PySem.W.nsIn K mainGlobals "_law_round" = some (some (.ref f29))) (l29 : K.lookup f29 = some ⟨oc29, od29, .func (PySem.W.fnOf "_law_round" "_law_round" (defArgs (top 45)) (defBody (top 45)) (defScope (top 45)) .none kV29 dc29 pm29 an29 cd29 ct29), sl29⟩) (c29 : PySem.W.codeIn K cd29 "_law_round" = true) (k29 : PySem.W.keepIn K (.ref f29) = true)
    (a30 : PySem.W.nsIn K mainGlobals "law" = some (some (.ref f30))) (l30 : K.lookup f30 = some ⟨oc30, od30, .func (PySem.W.fnOf "law" "law" (defArgs (top 46)) (defBody (top 46)) (defScope (top 46)) .none kV30 dc30 pm30 an30 cd30 ct30), sl30⟩) (c30 : PySem.W.codeIn K cd30 "law" = true) (k30 : PySem.W.keepIn K (.ref f30) = true)
    (z_ValueError : PySem.W.nsIn K mainGlobals "ValueError" = some none)
    (z_all : PySem.W.nsIn K mainGlobals "all" = some none)
    (z_bool : PySem.W.nsIn K mainGlobals "bool" = some none)
    (z_dict : PySem.W.nsIn K mainGlobals "dict" = some none)
    (z_int : PySem.W.nsIn K mainGlobals "int" = some none)
    (z_isinstance : PySem.W.nsIn K mainGlobals "isinstance" = some none)
    (z_len : PySem.W.nsIn K mainGlobals "len" = some none)
    (z_list : PySem.W.nsIn K mainGlobals "list" = some none)
    (z_max : PySem.W.nsIn K mainGlobals "max" = some none)
    (z_range : PySem.W.nsIn K mainGlobals "range" = some none)
    (z_set : PySem.W.nsIn K mainGlobals "set" = some none)
    (z_sorted : PySem.W.nsIn K mainGlobals "sorted" = some none)
    (z_str : PySem.W.nsIn K mainGlobals "str" = some none)
    (z_sum : PySem.W.nsIn K mainGlobals "sum" = some none)
    (z_tuple : PySem.W.nsIn K mainGlobals "tuple" = some none)
    (y_MOST_KIND_DEEP : PySem.W.nsIn K mainGlobals "MOST_KIND_DEEP" = some (some (.int 12 tk_MOST_KIND_DEEP)))
    (y_MOST_KNOTS : PySem.W.nsIn K mainGlobals "MOST_KNOTS" = some (some (.int 200 tk_MOST_KNOTS)))
    (y_MOST_SIGNS : PySem.W.nsIn K mainGlobals "MOST_SIGNS" = some (some (.int 8 tk_MOST_SIGNS)))
    (y_SMALL : PySem.W.nsIn K mainGlobals "SMALL" = some (some (.str "abcdefghijklmnopqrstuvwxyz" tk_SMALL)))
    {c_BadFill c_BadKind c_Lacks c_NoDefinition c_NoNumber c_NoRecord c_TooGreat c_FieldError : Addr}
    (n_BadFill : PySem.W.nsIn K mainGlobals "BadFill" = some (some (.ref c_BadFill))) (ty_BadFill : PySem.W.typeIn K (.ref c_BadFill) = some (.type "type")) (ic_BadFill : PySem.W.isClsIn K c_BadFill = true) (ss_BadFill : PySem.W.subIn K (.ref c_BadFill) (.ref c_BadFill) = some true)
    (n_BadKind : PySem.W.nsIn K mainGlobals "BadKind" = some (some (.ref c_BadKind))) (ty_BadKind : PySem.W.typeIn K (.ref c_BadKind) = some (.type "type")) (ic_BadKind : PySem.W.isClsIn K c_BadKind = true) (ss_BadKind : PySem.W.subIn K (.ref c_BadKind) (.ref c_BadKind) = some true)
    (n_Lacks : PySem.W.nsIn K mainGlobals "Lacks" = some (some (.ref c_Lacks))) (ty_Lacks : PySem.W.typeIn K (.ref c_Lacks) = some (.type "type")) (ic_Lacks : PySem.W.isClsIn K c_Lacks = true) (ss_Lacks : PySem.W.subIn K (.ref c_Lacks) (.ref c_Lacks) = some true)
    (n_NoDefinition : PySem.W.nsIn K mainGlobals "NoDefinition" = some (some (.ref c_NoDefinition))) (ty_NoDefinition : PySem.W.typeIn K (.ref c_NoDefinition) = some (.type "type")) (ic_NoDefinition : PySem.W.isClsIn K c_NoDefinition = true) (ss_NoDefinition : PySem.W.subIn K (.ref c_NoDefinition) (.ref c_NoDefinition) = some true)
    (n_NoNumber : PySem.W.nsIn K mainGlobals "NoNumber" = some (some (.ref c_NoNumber))) (ty_NoNumber : PySem.W.typeIn K (.ref c_NoNumber) = some (.type "type")) (ic_NoNumber : PySem.W.isClsIn K c_NoNumber = true) (ss_NoNumber : PySem.W.subIn K (.ref c_NoNumber) (.ref c_NoNumber) = some true)
    (n_NoRecord : PySem.W.nsIn K mainGlobals "NoRecord" = some (some (.ref c_NoRecord))) (ty_NoRecord : PySem.W.typeIn K (.ref c_NoRecord) = some (.type "type")) (ic_NoRecord : PySem.W.isClsIn K c_NoRecord = true) (ss_NoRecord : PySem.W.subIn K (.ref c_NoRecord) (.ref c_NoRecord) = some true)
    (n_TooGreat : PySem.W.nsIn K mainGlobals "TooGreat" = some (some (.ref c_TooGreat))) (ty_TooGreat : PySem.W.typeIn K (.ref c_TooGreat) = some (.type "type")) (ic_TooGreat : PySem.W.isClsIn K c_TooGreat = true) (ss_TooGreat : PySem.W.subIn K (.ref c_TooGreat) (.ref c_TooGreat) = some true)
    (n_FieldError : PySem.W.nsIn K mainGlobals "FieldError" = some (some (.ref c_FieldError))) (ty_FieldError : PySem.W.typeIn K (.ref c_FieldError) = some (.type "type")) (ic_FieldError : PySem.W.isClsIn K c_FieldError = true) (ss_FieldError : PySem.W.subIn K (.ref c_FieldError) (.ref c_FieldError) = some true)
    (fb : PySem.W.subIn K (.ref c_FieldError) (.type "BaseException") = some true) (fh : PySem.W.hasDictIn K c_FieldError = true)
    (an : PySem.W.specialIn K (.builtin "object.__class__") "__get__" = some (some (.builtin "getset_descriptor.__get__"))) (at1 : PySem.W.takesIn K (.builtin "object.__class__") = some true)
    (x_BadKind : PySem.W.excIn K c_BadKind [.type "ValueError", .type "Exception", .type "BaseException", .type "object"] "ValueError.__new__" = true) (kk_BadKind : PySem.W.keepIn K (.ref c_BadKind) = true) (b_BadKind : PySem.W.subIn K (.ref c_BadKind) (.type "BaseException") = some true)
    (eg_BadKind : PySem.W.findIn K (.ref c_BadKind) "__getattribute__" = some (some (.builtin "BaseException.__getattribute__"))) (ek_BadKind : PySem.W.findIn K (.ref c_BadKind) "__getattr__" = some none) (ed_BadKind : PySem.W.hasDictIn K c_BadKind = true) (ea_BadKind : PySem.W.findIn K (.ref c_BadKind) "__class__" = some (some (.builtin "object.__class__"))) (em_BadKind : PySem.W.mroIn K c_BadKind (.type "object") = some true)
    (sf_BadKind : PySem.W.subIn K (.ref c_BadKind) (.ref c_FieldError) = some true) (sv_BadKind : PySem.W.subIn K (.ref c_BadKind) (.type "ValueError") = some true)
    (s_BadKind_BadFill : PySem.W.subIn K (.ref c_BadKind) (.ref c_BadFill) = some false)
    (s_BadKind_BadKind : PySem.W.subIn K (.ref c_BadKind) (.ref c_BadKind) = some true)
    (s_BadKind_Lacks : PySem.W.subIn K (.ref c_BadKind) (.ref c_Lacks) = some false)
    (s_BadKind_NoDefinition : PySem.W.subIn K (.ref c_BadKind) (.ref c_NoDefinition) = some false)
    (s_BadKind_NoNumber : PySem.W.subIn K (.ref c_BadKind) (.ref c_NoNumber) = some false)
    (s_BadKind_NoRecord : PySem.W.subIn K (.ref c_BadKind) (.ref c_NoRecord) = some false)
    (s_BadKind_TooGreat : PySem.W.subIn K (.ref c_BadKind) (.ref c_TooGreat) = some false)
    (x_BadFill : PySem.W.excIn K c_BadFill [.type "ValueError", .type "Exception", .type "BaseException", .type "object"] "ValueError.__new__" = true) (kk_BadFill : PySem.W.keepIn K (.ref c_BadFill) = true) (b_BadFill : PySem.W.subIn K (.ref c_BadFill) (.type "BaseException") = some true)
    (eg_BadFill : PySem.W.findIn K (.ref c_BadFill) "__getattribute__" = some (some (.builtin "BaseException.__getattribute__"))) (ek_BadFill : PySem.W.findIn K (.ref c_BadFill) "__getattr__" = some none) (ed_BadFill : PySem.W.hasDictIn K c_BadFill = true) (ea_BadFill : PySem.W.findIn K (.ref c_BadFill) "__class__" = some (some (.builtin "object.__class__"))) (em_BadFill : PySem.W.mroIn K c_BadFill (.type "object") = some true)
    (sf_BadFill : PySem.W.subIn K (.ref c_BadFill) (.ref c_FieldError) = some true) (sv_BadFill : PySem.W.subIn K (.ref c_BadFill) (.type "ValueError") = some true)
    (s_BadFill_BadFill : PySem.W.subIn K (.ref c_BadFill) (.ref c_BadFill) = some true)
    (s_BadFill_BadKind : PySem.W.subIn K (.ref c_BadFill) (.ref c_BadKind) = some false)
    (s_BadFill_Lacks : PySem.W.subIn K (.ref c_BadFill) (.ref c_Lacks) = some false)
    (s_BadFill_NoDefinition : PySem.W.subIn K (.ref c_BadFill) (.ref c_NoDefinition) = some false)
    (s_BadFill_NoNumber : PySem.W.subIn K (.ref c_BadFill) (.ref c_NoNumber) = some false)
    (s_BadFill_NoRecord : PySem.W.subIn K (.ref c_BadFill) (.ref c_NoRecord) = some false)
    (s_BadFill_TooGreat : PySem.W.subIn K (.ref c_BadFill) (.ref c_TooGreat) = some false)
    (x_TooGreat : PySem.W.excIn K c_TooGreat [.type "ValueError", .type "Exception", .type "BaseException", .type "object"] "ValueError.__new__" = true) (kk_TooGreat : PySem.W.keepIn K (.ref c_TooGreat) = true) (b_TooGreat : PySem.W.subIn K (.ref c_TooGreat) (.type "BaseException") = some true)
    (eg_TooGreat : PySem.W.findIn K (.ref c_TooGreat) "__getattribute__" = some (some (.builtin "BaseException.__getattribute__"))) (ek_TooGreat : PySem.W.findIn K (.ref c_TooGreat) "__getattr__" = some none) (ed_TooGreat : PySem.W.hasDictIn K c_TooGreat = true) (ea_TooGreat : PySem.W.findIn K (.ref c_TooGreat) "__class__" = some (some (.builtin "object.__class__"))) (em_TooGreat : PySem.W.mroIn K c_TooGreat (.type "object") = some true)
    (sf_TooGreat : PySem.W.subIn K (.ref c_TooGreat) (.ref c_FieldError) = some true) (sv_TooGreat : PySem.W.subIn K (.ref c_TooGreat) (.type "ValueError") = some true)
    (s_TooGreat_BadFill : PySem.W.subIn K (.ref c_TooGreat) (.ref c_BadFill) = some false)
    (s_TooGreat_BadKind : PySem.W.subIn K (.ref c_TooGreat) (.ref c_BadKind) = some false)
    (s_TooGreat_Lacks : PySem.W.subIn K (.ref c_TooGreat) (.ref c_Lacks) = some false)
    (s_TooGreat_NoDefinition : PySem.W.subIn K (.ref c_TooGreat) (.ref c_NoDefinition) = some false)
    (s_TooGreat_NoNumber : PySem.W.subIn K (.ref c_TooGreat) (.ref c_NoNumber) = some false)
    (s_TooGreat_NoRecord : PySem.W.subIn K (.ref c_TooGreat) (.ref c_NoRecord) = some false)
    (s_TooGreat_TooGreat : PySem.W.subIn K (.ref c_TooGreat) (.ref c_TooGreat) = some true)
    (main : ∀ ns : List Int, ns.length ≤ 63 → ∃ S', run 60 .law [.scr (ns.map D.int)] [] = .ok (.bl true) S') :
    ∃ fd : FuncData, (∀ (s : Shared) (v : Value), BindsTo s fd ⟨[v], []⟩ [("_law_script", v)]) ∧ ∀ base : Heap, K.In base → base.Ns mainGlobals mg → FnOk PySem.Challenge.rw_fieldrest_k03_blanks_filled.prog w K mg base (L2N.CX PySem.Challenge.rw_fieldrest_k03_blanks_filled.prog w) 60 fa fd ["_law_script"] (spLaw K) := by
  have T : Facts K mg := by
    have hX : Xs K mg := by
      refine ⟨c_FieldError, PySem.W.mg_of X G n_FieldError, fun y hy => ?_⟩
      simp only [okX, Bool.or_eq_true, decide_eq_true_eq] at hy
      rcases hy with (hy | hy) | hy
      · subst hy
        exact ⟨c_BadKind, ⟨⟨PySem.W.mg_of X G n_BadKind, x_BadKind, kk_BadKind, b_BadKind, ty_BadKind, ⟨eg_BadKind, ek_BadKind, b_BadKind, ed_BadKind, ea_BadKind, an, at1, em_BadKind⟩⟩, ⟨c_BadFill, PySem.W.mg_of X G n_BadFill, by rw [show isx (Str.ofString "BadKind") (Str.ofString "BadFill") = false from by decide +kernel]; exact kit_own ic_BadFill ty_BadFill s_BadKind_BadFill ss_BadFill⟩, ⟨c_BadKind, PySem.W.mg_of X G n_BadKind, by rw [show isx (Str.ofString "BadKind") (Str.ofString "BadKind") = true from by decide +kernel]; exact kit_own ic_BadKind ty_BadKind s_BadKind_BadKind ss_BadKind⟩, ⟨c_Lacks, PySem.W.mg_of X G n_Lacks, by rw [show isx (Str.ofString "BadKind") (Str.ofString "Lacks") = false from by decide +kernel]; exact kit_own ic_Lacks ty_Lacks s_BadKind_Lacks ss_Lacks⟩, ⟨c_NoDefinition, PySem.W.mg_of X G n_NoDefinition, by rw [show isx (Str.ofString "BadKind") (Str.ofString "NoDefinition") = false from by decide +kernel]; exact kit_own ic_NoDefinition ty_NoDefinition s_BadKind_NoDefinition ss_NoDefinition⟩, ⟨c_NoNumber, PySem.W.mg_of X G n_NoNumber, by rw [show isx (Str.ofString "BadKind") (Str.ofString "NoNumber") = false from by decide +kernel]; exact kit_own ic_NoNumber ty_NoNumber s_BadKind_NoNumber ss_NoNumber⟩, ⟨c_NoRecord, PySem.W.mg_of X G n_NoRecord, by rw [show isx (Str.ofString "BadKind") (Str.ofString "NoRecord") = false from by decide +kernel]; exact kit_own ic_NoRecord ty_NoRecord s_BadKind_NoRecord ss_NoRecord⟩, ⟨c_TooGreat, PySem.W.mg_of X G n_TooGreat, by rw [show isx (Str.ofString "BadKind") (Str.ofString "TooGreat") = false from by decide +kernel]; exact kit_own ic_TooGreat ty_TooGreat s_BadKind_TooGreat ss_TooGreat⟩, by rw [show isx (Str.ofString "BadKind") (Str.ofString "ValueError") = true from by decide +kernel]; exact kit_val sv_BadKind⟩, PySem.W.exm_ref fb fh ty_FieldError sf_BadKind⟩
      · subst hy
        exact ⟨c_BadFill, ⟨⟨PySem.W.mg_of X G n_BadFill, x_BadFill, kk_BadFill, b_BadFill, ty_BadFill, ⟨eg_BadFill, ek_BadFill, b_BadFill, ed_BadFill, ea_BadFill, an, at1, em_BadFill⟩⟩, ⟨c_BadFill, PySem.W.mg_of X G n_BadFill, by rw [show isx (Str.ofString "BadFill") (Str.ofString "BadFill") = true from by decide +kernel]; exact kit_own ic_BadFill ty_BadFill s_BadFill_BadFill ss_BadFill⟩, ⟨c_BadKind, PySem.W.mg_of X G n_BadKind, by rw [show isx (Str.ofString "BadFill") (Str.ofString "BadKind") = false from by decide +kernel]; exact kit_own ic_BadKind ty_BadKind s_BadFill_BadKind ss_BadKind⟩, ⟨c_Lacks, PySem.W.mg_of X G n_Lacks, by rw [show isx (Str.ofString "BadFill") (Str.ofString "Lacks") = false from by decide +kernel]; exact kit_own ic_Lacks ty_Lacks s_BadFill_Lacks ss_Lacks⟩, ⟨c_NoDefinition, PySem.W.mg_of X G n_NoDefinition, by rw [show isx (Str.ofString "BadFill") (Str.ofString "NoDefinition") = false from by decide +kernel]; exact kit_own ic_NoDefinition ty_NoDefinition s_BadFill_NoDefinition ss_NoDefinition⟩, ⟨c_NoNumber, PySem.W.mg_of X G n_NoNumber, by rw [show isx (Str.ofString "BadFill") (Str.ofString "NoNumber") = false from by decide +kernel]; exact kit_own ic_NoNumber ty_NoNumber s_BadFill_NoNumber ss_NoNumber⟩, ⟨c_NoRecord, PySem.W.mg_of X G n_NoRecord, by rw [show isx (Str.ofString "BadFill") (Str.ofString "NoRecord") = false from by decide +kernel]; exact kit_own ic_NoRecord ty_NoRecord s_BadFill_NoRecord ss_NoRecord⟩, ⟨c_TooGreat, PySem.W.mg_of X G n_TooGreat, by rw [show isx (Str.ofString "BadFill") (Str.ofString "TooGreat") = false from by decide +kernel]; exact kit_own ic_TooGreat ty_TooGreat s_BadFill_TooGreat ss_TooGreat⟩, by rw [show isx (Str.ofString "BadFill") (Str.ofString "ValueError") = true from by decide +kernel]; exact kit_val sv_BadFill⟩, PySem.W.exm_ref fb fh ty_FieldError sf_BadFill⟩
      · subst hy
        exact ⟨c_TooGreat, ⟨⟨PySem.W.mg_of X G n_TooGreat, x_TooGreat, kk_TooGreat, b_TooGreat, ty_TooGreat, ⟨eg_TooGreat, ek_TooGreat, b_TooGreat, ed_TooGreat, ea_TooGreat, an, at1, em_TooGreat⟩⟩, ⟨c_BadFill, PySem.W.mg_of X G n_BadFill, by rw [show isx (Str.ofString "TooGreat") (Str.ofString "BadFill") = false from by decide +kernel]; exact kit_own ic_BadFill ty_BadFill s_TooGreat_BadFill ss_BadFill⟩, ⟨c_BadKind, PySem.W.mg_of X G n_BadKind, by rw [show isx (Str.ofString "TooGreat") (Str.ofString "BadKind") = false from by decide +kernel]; exact kit_own ic_BadKind ty_BadKind s_TooGreat_BadKind ss_BadKind⟩, ⟨c_Lacks, PySem.W.mg_of X G n_Lacks, by rw [show isx (Str.ofString "TooGreat") (Str.ofString "Lacks") = false from by decide +kernel]; exact kit_own ic_Lacks ty_Lacks s_TooGreat_Lacks ss_Lacks⟩, ⟨c_NoDefinition, PySem.W.mg_of X G n_NoDefinition, by rw [show isx (Str.ofString "TooGreat") (Str.ofString "NoDefinition") = false from by decide +kernel]; exact kit_own ic_NoDefinition ty_NoDefinition s_TooGreat_NoDefinition ss_NoDefinition⟩, ⟨c_NoNumber, PySem.W.mg_of X G n_NoNumber, by rw [show isx (Str.ofString "TooGreat") (Str.ofString "NoNumber") = false from by decide +kernel]; exact kit_own ic_NoNumber ty_NoNumber s_TooGreat_NoNumber ss_NoNumber⟩, ⟨c_NoRecord, PySem.W.mg_of X G n_NoRecord, by rw [show isx (Str.ofString "TooGreat") (Str.ofString "NoRecord") = false from by decide +kernel]; exact kit_own ic_NoRecord ty_NoRecord s_TooGreat_NoRecord ss_NoRecord⟩, ⟨c_TooGreat, PySem.W.mg_of X G n_TooGreat, by rw [show isx (Str.ofString "TooGreat") (Str.ofString "TooGreat") = true from by decide +kernel]; exact kit_own ic_TooGreat ty_TooGreat s_TooGreat_TooGreat ss_TooGreat⟩, by rw [show isx (Str.ofString "TooGreat") (Str.ofString "ValueError") = true from by decide +kernel]; exact kit_val sv_TooGreat⟩, PySem.W.exm_ref fb fh ty_FieldError sf_TooGreat⟩
    refine ⟨⟨PySem.W.mg_none_of X G z_ValueError, PySem.W.mg_none_of X G z_all, PySem.W.mg_none_of X G z_bool, PySem.W.mg_none_of X G z_dict, PySem.W.mg_none_of X G z_int, PySem.W.mg_none_of X G z_isinstance, PySem.W.mg_none_of X G z_len, PySem.W.mg_none_of X G z_list, PySem.W.mg_none_of X G z_max, PySem.W.mg_none_of X G z_range, PySem.W.mg_none_of X G z_set, PySem.W.mg_none_of X G z_sorted, PySem.W.mg_none_of X G z_str, PySem.W.mg_none_of X G z_sum, PySem.W.mg_none_of X G z_tuple, ⟨tk_MOST_KIND_DEEP, PySem.W.mg_of X G y_MOST_KIND_DEEP⟩, ⟨tk_MOST_KNOTS, PySem.W.mg_of X G y_MOST_KNOTS⟩, ⟨tk_MOST_SIGNS, PySem.W.mg_of X G y_MOST_SIGNS⟩, ⟨tk_SMALL, PySem.W.mg_of X G y_SMALL⟩⟩, hX, ?_, ?_, ?_, ?_, ?_, ?_, ?_, ?_, ?_, ?_, ?_, ?_, ?_, ?_, ?_, ?_, ?_, ?_, ?_, ?_, ?_, ?_, ?_, ?_, ?_, ?_, ?_, ?_, ?_, ?_, ?_⟩
    · exact ⟨f0, _, fun_mk (st := top 12) l0 c0 k0, PySem.W.mg_of X G a0, (fun_mk (st := top 12) l0 c0 k0).binds (ps := ["thing"]) fun _ _ _ _ _ _ us hl => match us, hl with | [_], _ => rfl⟩
    · exact ⟨f1, _, fun_mk (st := top 13) l1 c1 k1, PySem.W.mg_of X G a1, (fun_mk (st := top 13) l1 c1 k1).binds (ps := ["thing"]) fun _ _ _ _ _ _ us hl => match us, hl with | [_], _ => rfl⟩
    · exact ⟨f2, _, fun_mk (st := top 14) l2 c2 k2, PySem.W.mg_of X G a2, (fun_mk (st := top 14) l2 c2 k2).binds (ps := ["thing"]) fun _ _ _ _ _ _ us hl => match us, hl with | [_], _ => rfl⟩
    · exact ⟨f3, _, fun_mk (st := top 18) l3 c3 k3, PySem.W.mg_of X G a3, (fun_mk (st := top 18) l3 c3 k3).binds (ps := ["thing"]) fun _ _ _ _ _ _ us hl => match us, hl with | [_], _ => rfl⟩
    · exact ⟨f4, _, fun_mk (st := top 19) l4 c4 k4, PySem.W.mg_of X G a4, (fun_mk (st := top 19) l4 c4 k4).binds (ps := ["fields", "deep"]) fun _ _ _ _ _ _ us hl => match us, hl with | [_, _], _ => rfl⟩
    · exact ⟨f5, _, fun_mk (st := top 20) l5 c5 k5, PySem.W.mg_of X G a5, (fun_mk (st := top 20) l5 c5 k5).binds (ps := ["thing", "deep"]) fun _ _ _ _ _ _ us hl => match us, hl with | [_, _], _ => rfl⟩
    · exact ⟨f6, _, fun_mk (st := top 21) l6 c6 k6, PySem.W.mg_of X G a6, (fun_mk (st := top 21) l6 c6 k6).binds (ps := ["kind"]) fun _ _ _ _ _ _ us hl => match us, hl with | [_], _ => rfl⟩
    · exact ⟨f7, _, fun_mk (st := top 22) l7 c7 k7, PySem.W.mg_of X G a7, (fun_mk (st := top 22) l7 c7 k7).binds (ps := ["kind"]) fun _ _ _ _ _ _ us hl => match us, hl with | [_], _ => rfl⟩
    · exact ⟨f8, _, fun_mk (st := top 23) l8 c8 k8, PySem.W.mg_of X G a8, (fun_mk (st := top 23) l8 c8 k8).binds (ps := ["kind", "found"]) fun _ _ _ _ _ _ us hl => match us, hl with | [_, _], _ => rfl⟩
    · exact ⟨f9, _, fun_mk (st := top 24) l9 c9 k9, PySem.W.mg_of X G a9, (fun_mk (st := top 24) l9 c9 k9).binds (ps := ["found", "number", "labels"]) fun _ _ _ _ _ _ us hl => match us, hl with | [_, _, _], _ => rfl⟩
    · exact ⟨f10, _, fun_mk (st := top 25) l10 c10 k10, PySem.W.mg_of X G a10, (fun_mk (st := top 25) l10 c10 k10).binds (ps := ["thing"]) fun _ _ _ _ _ _ us hl => match us, hl with | [_], _ => rfl⟩
    · exact ⟨f11, _, fun_mk (st := top 26) l11 c11 k11, PySem.W.mg_of X G a11, (fun_mk (st := top 26) l11 c11 k11).binds (ps := ["thing"]) fun _ _ _ _ _ _ us hl => match us, hl with | [_], _ => rfl⟩
    · exact ⟨f12, _, fun_mk (st := top 27) l12 c12 k12, PySem.W.mg_of X G a12, (fun_mk (st := top 27) l12 c12 k12).binds (ps := ["kind", "fills"]) fun _ _ _ _ _ _ us hl => match us, hl with | [_, _], _ => rfl⟩
    · exact ⟨f13, _, fun_mk (st := top 28) l13 c13 k13, PySem.W.mg_of X G a13, (fun_mk (st := top 28) l13 c13 k13).binds (ps := ["labels", "thing"]) fun _ _ _ _ _ _ us hl => match us, hl with | [_, _], _ => rfl⟩
    · exact ⟨f14, _, fun_mk (st := top 29) l14 c14 k14, PySem.W.mg_of X G a14, (fun_mk (st := top 29) l14 c14 k14).binds (ps := ["kind", "fills"]) fun _ _ _ _ _ _ us hl => match us, hl with | [_, _], _ => rfl⟩
    · exact ⟨f15, _, fun_mk (st := top 31) l15 c15 k15, PySem.W.mg_of X G a15, (fun_mk (st := top 31) l15 c15 k15).binds (ps := ["_law_script", "_law_k"]) fun _ _ _ _ _ _ us hl => match us, hl with | [_, _], _ => rfl⟩
    · exact ⟨f16, _, fun_mk (st := top 32) l16 c16 k16, PySem.W.mg_of X G a16, (fun_mk (st := top 32) l16 c16 k16).binds (ps := ["_law_state"]) fun _ _ _ _ _ _ us hl => match us, hl with | [_], _ => rfl⟩
    · exact ⟨f17, _, fun_mk (st := top 33) l17 c17 k17, PySem.W.mg_of X G a17, (fun_mk (st := top 33) l17 c17 k17).binds (ps := ["_law_cell_here", "_law_many"]) fun _ _ _ _ _ _ us hl => match us, hl with | [_, _], _ => rfl⟩
    · exact ⟨f18, _, fun_mk (st := top 34) l18 c18 k18, PySem.W.mg_of X G a18, (fun_mk (st := top 34) l18 c18 k18).binds (ps := ["_law_state", "_law_labels_here", "_law_met_here", "_law_left"]) fun _ _ _ _ _ _ us hl => match us, hl with | [_, _, _, _], _ => rfl⟩
    · exact ⟨f19, _, fun_mk (st := top 35) l19 c19 k19, PySem.W.mg_of X G a19, (fun_mk (st := top 35) l19 c19 k19).binds (ps := ["_law_kind_here", "_law_found"]) fun _ _ _ _ _ _ us hl => match us, hl with | [_, _], _ => rfl⟩
    · exact ⟨f20, _, fun_mk (st := top 36) l20 c20 k20, PySem.W.mg_of X G a20, (fun_mk (st := top 36) l20 c20 k20).binds (ps := ["_law_kind_here", "_law_fills"]) fun _ _ _ _ _ _ us hl => match us, hl with | [_, _], _ => rfl⟩
    · exact ⟨f21, _, fun_mk (st := top 37) l21 c21 k21, PySem.W.mg_of X G a21, (fun_mk (st := top 37) l21 c21 k21).binds (ps := ["_law_state", "_law_labels_here", "_law_met_here", "_law_ahead"]) fun _ _ _ _ _ _ us hl => match us, hl with | [_, _, _, _], _ => rfl⟩
    · exact ⟨f22, _, fun_mk (st := top 38) l22 c22 k22, PySem.W.mg_of X G a22, (fun_mk (st := top 38) l22 c22 k22).binds (ps := ["_law_e"]) fun _ _ _ _ _ _ us hl => match us, hl with | [_], _ => rfl⟩
    · exact ⟨f23, _, fun_mk (st := top 39) l23 c23 k23, PySem.W.mg_of X G a23, (fun_mk (st := top 39) l23 c23 k23).binds (ps := ["_law_kind_here"]) fun _ _ _ _ _ _ us hl => match us, hl with | [_], _ => rfl⟩
    · exact ⟨f24, _, fun_mk (st := top 40) l24 c24 k24, PySem.W.mg_of X G a24, (fun_mk (st := top 40) l24 c24 k24).binds (ps := ["_law_kind_here"]) fun _ _ _ _ _ _ us hl => match us, hl with | [_], _ => rfl⟩
    · exact ⟨f25, _, fun_mk (st := top 41) l25 c25 k25, PySem.W.mg_of X G a25, (fun_mk (st := top 41) l25 c25 k25).binds (ps := ["_law_kind_here", "_law_seen"]) fun _ _ _ _ _ _ us hl => match us, hl with | [_, _], _ => rfl⟩
    · exact ⟨f26, _, fun_mk (st := top 42) l26 c26 k26, PySem.W.mg_of X G a26, (fun_mk (st := top 42) l26 c26 k26).binds (ps := ["_law_number", "_law_ahead"]) fun _ _ _ _ _ _ us hl => match us, hl with | [_, _], _ => rfl⟩
    · exact ⟨f27, _, fun_mk (st := top 43) l27 c27 k27, PySem.W.mg_of X G a27, (fun_mk (st := top 43) l27 c27 k27).binds (ps := ["_law_kind_here", "_law_fills"]) fun _ _ _ _ _ _ us hl => match us, hl with | [_, _], _ => rfl⟩
    · exact ⟨f28, _, fun_mk (st := top 44) l28 c28 k28, PySem.W.mg_of X G a28, (fun_mk (st := top 44) l28 c28 k28).binds (ps := ["_law_kind_here", "_law_fills", "_law_odd_here"]) fun _ _ _ _ _ _ us hl => match us, hl with | [_, _, _], _ => rfl⟩
    · exact ⟨f29, _, fun_mk (st := top 45) l29 c29 k29, PySem.W.mg_of X G a29, (fun_mk (st := top 45) l29 c29 k29).binds (ps := ["_law_labels_here", "_law_seed", "_law_size", "_law_way", "_law_number"]) fun _ _ _ _ _ _ us hl => match us, hl with | [_, _, _, _, _], _ => rfl⟩
    · exact ⟨f30, _, fun_mk (st := top 46) l30 c30 k30, PySem.W.mg_of X G a30, (fun_mk (st := top 46) l30 c30 k30).binds (ps := ["_law_script"]) fun _ _ _ _ _ _ us hl => match us, hl with | [_], _ => rfl⟩
  have e := hfa.symm.trans (PySem.W.mg_of X G a30)
  cases e
  refine ⟨PySem.W.fnOf "law" "law" (defArgs (top 46)) (defBody (top 46)) (defScope (top 46)) .none kV30 dc30 pm30 an30 cd30 ct30, fun s v => .of_eq rfl, fun base _ _ => ?_⟩
  have Fl := fun_mk (st := top 46) l30 c30 k30
  have hC := all_has (w := w) (base := base) T 59
  have hE := all_hasE (w := w) (base := base) T 59
  have Fk := has_fn Fl sc_law rfl finRaw_ok (der_law hC T.M hE T.XF fa)
  exact law_fn Fk main
end K_k03

open PySem PySem.W PyProof.Rows
set_option maxRecDepth 100000 in
set_option maxHeartbeats 0 in
theorem PySem.Challenge.cw_fieldrest_k03_blanks_filled_holds : PySem.Challenge.rw_fieldrest_k03_blanks_filled.Holds := by
  w_on; o_law; k_head; (case hw => w_witness2)
  k_fill
  refine PM.walk (l := PySem.Challenge.rw_fieldrest_k03_blanks_filled) (N := 60) (x := "_law_script") rfl rfl ⟨rfl, by decide, by decide⟩ (fun w h Y => PySem.W.kIn_of Y) ?F
  case F =>
    intro w mg fa h KX G hmg
    refine' K_k03.all_mk KX G hmg ?a0 ?l0 ?c0 ?k0 ?a1 ?l1 ?c1 ?k1 ?a2 ?l2 ?c2 ?k2 ?a3 ?l3 ?c3 ?k3 ?a4 ?l4 ?c4 ?k4 ?a5 ?l5 ?c5 ?k5 ?a6 ?l6 ?c6 ?k6 ?a7 ?l7 ?c7 ?k7 ?a8 ?l8 ?c8 ?k8 ?a9 ?l9 ?c9 ?k9 ?a10 ?l10 ?c10 ?k10 ?a11 ?l11 ?c11 ?k11 ?a12 ?l12 ?c12 ?k12 ?a13 ?l13 ?c13 ?k13 ?a14 ?l14 ?c14 ?k14 ?a15 ?l15 ?c15 ?k15 ?a16 ?l16 ?c16 ?k16 ?a17 ?l17 ?c17 ?k17 ?a18 ?l18 ?c18 ?k18 ?a19 ?l19 ?c19 ?k19 ?a20 ?l20 ?c20 ?k20 ?a21 ?l21 ?c21 ?k21 ?a22 ?l22 ?c22 ?k22 ?a23 ?l23 ?c23 ?k23 ?a24 ?l24 ?c24 ?k24 ?a25 ?l25 ?c25 ?k25 ?a26 ?l26 ?c26 ?k26 ?a27 ?l27 ?c27 ?k27 ?a28 ?l28 ?c28 ?k28 ?a29 ?l29 ?c29 ?k29 ?a30 ?l30 ?c30 ?k30 ?z_ValueError ?z_all ?z_bool ?z_dict ?z_int ?z_isinstance ?z_len ?z_list ?z_max ?z_range ?z_set ?z_sorted ?z_str ?z_sum ?z_tuple ?y_MOST_KIND_DEEP ?y_MOST_KNOTS ?y_MOST_SIGNS ?y_SMALL ?n_BadFill ?ty_BadFill ?ic_BadFill ?ss_BadFill ?n_BadKind ?ty_BadKind ?ic_BadKind ?ss_BadKind ?n_Lacks ?ty_Lacks ?ic_Lacks ?ss_Lacks ?n_NoDefinition ?ty_NoDefinition ?ic_NoDefinition ?ss_NoDefinition ?n_NoNumber ?ty_NoNumber ?ic_NoNumber ?ss_NoNumber ?n_NoRecord ?ty_NoRecord ?ic_NoRecord ?ss_NoRecord ?n_TooGreat ?ty_TooGreat ?ic_TooGreat ?ss_TooGreat ?n_FieldError ?ty_FieldError ?ic_FieldError ?ss_FieldError ?fb ?fh ?an ?at1 ?x_BadKind ?kk_BadKind ?b_BadKind ?eg_BadKind ?ek_BadKind ?ed_BadKind ?ea_BadKind ?em_BadKind ?sf_BadKind ?sv_BadKind ?s_BadKind_BadFill ?s_BadKind_BadKind ?s_BadKind_Lacks ?s_BadKind_NoDefinition ?s_BadKind_NoNumber ?s_BadKind_NoRecord ?s_BadKind_TooGreat ?x_BadFill ?kk_BadFill ?b_BadFill ?eg_BadFill ?ek_BadFill ?ed_BadFill ?ea_BadFill ?em_BadFill ?sf_BadFill ?sv_BadFill ?s_BadFill_BadFill ?s_BadFill_BadKind ?s_BadFill_Lacks ?s_BadFill_NoDefinition ?s_BadFill_NoNumber ?s_BadFill_NoRecord ?s_BadFill_TooGreat ?x_TooGreat ?kk_TooGreat ?b_TooGreat ?eg_TooGreat ?ek_TooGreat ?ed_TooGreat ?ea_TooGreat ?em_TooGreat ?sf_TooGreat ?sv_TooGreat ?s_TooGreat_BadFill ?s_TooGreat_BadKind ?s_TooGreat_Lacks ?s_TooGreat_NoDefinition ?s_TooGreat_NoNumber ?s_TooGreat_NoRecord ?s_TooGreat_TooGreat K_k03.main_ok
    (case a0 => k_is); (case l0 => k_is); (case c0 => k_is); (case k0 => k_is)
    (case a1 => k_is); (case l1 => k_is); (case c1 => k_is); (case k1 => k_is)
    (case a2 => k_is); (case l2 => k_is); (case c2 => k_is); (case k2 => k_is)
    (case a3 => k_is); (case l3 => k_is); (case c3 => k_is); (case k3 => k_is)
    (case a4 => k_is); (case l4 => k_is); (case c4 => k_is); (case k4 => k_is)
    (case a5 => k_is); (case l5 => k_is); (case c5 => k_is); (case k5 => k_is)
    (case a6 => k_is); (case l6 => k_is); (case c6 => k_is); (case k6 => k_is)
    (case a7 => k_is); (case l7 => k_is); (case c7 => k_is); (case k7 => k_is)
    (case a8 => k_is); (case l8 => k_is); (case c8 => k_is); (case k8 => k_is)
    (case a9 => k_is); (case l9 => k_is); (case c9 => k_is); (case k9 => k_is)
    (case a10 => k_is); (case l10 => k_is); (case c10 => k_is); (case k10 => k_is)
    (case a11 => k_is); (case l11 => k_is); (case c11 => k_is); (case k11 => k_is)
    (case a12 => k_is); (case l12 => k_is); (case c12 => k_is); (case k12 => k_is)
    (case a13 => k_is); (case l13 => k_is); (case c13 => k_is); (case k13 => k_is)
    (case a14 => k_is); (case l14 => k_is); (case c14 => k_is); (case k14 => k_is)
    (case a15 => k_is); (case l15 => k_is); (case c15 => k_is); (case k15 => k_is)
    (case a16 => k_is); (case l16 => k_is); (case c16 => k_is); (case k16 => k_is)
    (case a17 => k_is); (case l17 => k_is); (case c17 => k_is); (case k17 => k_is)
    (case a18 => k_is); (case l18 => k_is); (case c18 => k_is); (case k18 => k_is)
    (case a19 => k_is); (case l19 => k_is); (case c19 => k_is); (case k19 => k_is)
    (case a20 => k_is); (case l20 => k_is); (case c20 => k_is); (case k20 => k_is)
    (case a21 => k_is); (case l21 => k_is); (case c21 => k_is); (case k21 => k_is)
    (case a22 => k_is); (case l22 => k_is); (case c22 => k_is); (case k22 => k_is)
    (case a23 => k_is); (case l23 => k_is); (case c23 => k_is); (case k23 => k_is)
    (case a24 => k_is); (case l24 => k_is); (case c24 => k_is); (case k24 => k_is)
    (case a25 => k_is); (case l25 => k_is); (case c25 => k_is); (case k25 => k_is)
    (case a26 => k_is); (case l26 => k_is); (case c26 => k_is); (case k26 => k_is)
    (case a27 => k_is); (case l27 => k_is); (case c27 => k_is); (case k27 => k_is)
    (case a28 => k_is); (case l28 => k_is); (case c28 => k_is); (case k28 => k_is)
    (case a29 => k_is); (case l29 => k_is); (case c29 => k_is); (case k29 => k_is)
    (case a30 => k_is); (case l30 => k_is); (case c30 => k_is); (case k30 => k_is)
    (case z_ValueError => k_is)
    (case z_all => k_is)
    (case z_bool => k_is)
    (case z_dict => k_is)
    (case z_int => k_is)
    (case z_isinstance => k_is)
    (case z_len => k_is)
    (case z_list => k_is)
    (case z_max => k_is)
    (case z_range => k_is)
    (case z_set => k_is)
    (case z_sorted => k_is)
    (case z_str => k_is)
    (case z_sum => k_is)
    (case z_tuple => k_is)
    (case y_MOST_KIND_DEEP => k_is)
    (case y_MOST_KNOTS => k_is)
    (case y_MOST_SIGNS => k_is)
    (case y_SMALL => k_is)
    (case n_BadFill => first | k_is | rfl)
    (case ty_BadFill => first | k_is | rfl)
    (case ic_BadFill => first | k_is | rfl)
    (case ss_BadFill => first | k_is | rfl)
    (case n_BadKind => first | k_is | rfl)
    (case ty_BadKind => first | k_is | rfl)
    (case ic_BadKind => first | k_is | rfl)
    (case ss_BadKind => first | k_is | rfl)
    (case n_Lacks => first | k_is | rfl)
    (case ty_Lacks => first | k_is | rfl)
    (case ic_Lacks => first | k_is | rfl)
    (case ss_Lacks => first | k_is | rfl)
    (case n_NoDefinition => first | k_is | rfl)
    (case ty_NoDefinition => first | k_is | rfl)
    (case ic_NoDefinition => first | k_is | rfl)
    (case ss_NoDefinition => first | k_is | rfl)
    (case n_NoNumber => first | k_is | rfl)
    (case ty_NoNumber => first | k_is | rfl)
    (case ic_NoNumber => first | k_is | rfl)
    (case ss_NoNumber => first | k_is | rfl)
    (case n_NoRecord => first | k_is | rfl)
    (case ty_NoRecord => first | k_is | rfl)
    (case ic_NoRecord => first | k_is | rfl)
    (case ss_NoRecord => first | k_is | rfl)
    (case n_TooGreat => first | k_is | rfl)
    (case ty_TooGreat => first | k_is | rfl)
    (case ic_TooGreat => first | k_is | rfl)
    (case ss_TooGreat => first | k_is | rfl)
    (case n_FieldError => first | k_is | rfl)
    (case ty_FieldError => first | k_is | rfl)
    (case ic_FieldError => first | k_is | rfl)
    (case ss_FieldError => first | k_is | rfl)
    (case fb => first | k_is | rfl)
    (case fh => first | k_is | rfl)
    (case an => first | k_is | rfl)
    (case at1 => first | k_is | rfl)
    (case x_BadKind => k_exc)
    (case kk_BadKind => first | k_is | rfl)
    (case b_BadKind => first | k_is | rfl)
    (case eg_BadKind => first | k_is | rfl)
    (case ek_BadKind => first | k_is | rfl)
    (case ed_BadKind => first | k_is | rfl)
    (case ea_BadKind => first | k_is | rfl)
    (case em_BadKind => first | k_is | rfl)
    (case sf_BadKind => first | k_is | rfl)
    (case sv_BadKind => first | k_is | rfl)
    (case s_BadKind_BadFill => first | k_is | rfl)
    (case s_BadKind_BadKind => first | k_is | rfl)
    (case s_BadKind_Lacks => first | k_is | rfl)
    (case s_BadKind_NoDefinition => first | k_is | rfl)
    (case s_BadKind_NoNumber => first | k_is | rfl)
    (case s_BadKind_NoRecord => first | k_is | rfl)
    (case s_BadKind_TooGreat => first | k_is | rfl)
    (case x_BadFill => k_exc)
    (case kk_BadFill => first | k_is | rfl)
    (case b_BadFill => first | k_is | rfl)
    (case eg_BadFill => first | k_is | rfl)
    (case ek_BadFill => first | k_is | rfl)
    (case ed_BadFill => first | k_is | rfl)
    (case ea_BadFill => first | k_is | rfl)
    (case em_BadFill => first | k_is | rfl)
    (case sf_BadFill => first | k_is | rfl)
    (case sv_BadFill => first | k_is | rfl)
    (case s_BadFill_BadFill => first | k_is | rfl)
    (case s_BadFill_BadKind => first | k_is | rfl)
    (case s_BadFill_Lacks => first | k_is | rfl)
    (case s_BadFill_NoDefinition => first | k_is | rfl)
    (case s_BadFill_NoNumber => first | k_is | rfl)
    (case s_BadFill_NoRecord => first | k_is | rfl)
    (case s_BadFill_TooGreat => first | k_is | rfl)
    (case x_TooGreat => k_exc)
    (case kk_TooGreat => first | k_is | rfl)
    (case b_TooGreat => first | k_is | rfl)
    (case eg_TooGreat => first | k_is | rfl)
    (case ek_TooGreat => first | k_is | rfl)
    (case ed_TooGreat => first | k_is | rfl)
    (case ea_TooGreat => first | k_is | rfl)
    (case em_TooGreat => first | k_is | rfl)
    (case sf_TooGreat => first | k_is | rfl)
    (case sv_TooGreat => first | k_is | rfl)
    (case s_TooGreat_BadFill => first | k_is | rfl)
    (case s_TooGreat_BadKind => first | k_is | rfl)
    (case s_TooGreat_Lacks => first | k_is | rfl)
    (case s_TooGreat_NoDefinition => first | k_is | rfl)
    (case s_TooGreat_NoNumber => first | k_is | rfl)
    (case s_TooGreat_NoRecord => first | k_is | rfl)
    (case s_TooGreat_TooGreat => first | k_is | rfl)

