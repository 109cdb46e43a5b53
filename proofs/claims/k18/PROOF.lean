import PyProof.Rows.All
import Wide.All
import OpenK.AllK
import Wide.FinOn
import HandS.ForMost
import HandS.ForExc
import HandS.Wide
import HandS.IsInst
import HandS.Star
import HandS.Style
import HandS.TupAny
import HandS.ExcOwn
import HandS.ExcSuper
import HandS.ExcIs
import HandS.CallLocal
import KE.KDictKeyed
import KE.KDictWalk
import HandS.DictComp
import HandS.ForDict
import HandS.Conv
import HandS.Lambda
import HandS.TupMul
import HandS.SetFor
import HandS.Zip
import HandS.RevRange
import HandS.Deep
import HandS.ExcInit
import HandS.Nested
import KE.KExcSuper
import HandS.ExcField
import KE.GoesMore
import HandS.RaiseMore
import KE.GoesZip
import HandS.EndTab
import PyProof.ReprLen
import HandS.Defaults
import HandS.CallSlots
import HandS.TryMany
import PySem.Challenge.RW_gridshapes_k18_whole_rest_papers_by_anyo
set_option Elab.async false
set_option pp.deepTerms.threshold 5
set_option pp.deepTerms false
set_option linter.all false
set_option maxRecDepth 100000
set_option maxHeartbeats 4000000
/-! A layer of plain data over the hand layer: values without a heap, local lists by content. -/
namespace DL
open PySem PySem.Spec PyProof.Rows L2

/-- plain data -/
inductive D where
  | non | bl (b : Bool) | int (i : Int) | str (x : Str) | tup (ds : List D) | lst (ds : List D) | ro (ds : List D) | ob (v : V) | exc (a C dd : Addr) (fl : Str) (d : D) | dct (kvs : List (D × D)) | thk (f c : Addr) (q : Str) (σ : List (Option V)) (is : List Nat) (ds : List D)

/-! a dict whose keys are tuples of ints (nested ones, too) -/
mutual
def D.nkI : Nat → D → Option NestedKey
  | n, .int i => some (.num i)
  | n, .tup ds => match n with
    | 0 => none
    | m + 1 => (D.nkA m ds).map .tup
  | _, .non => none
  | _, .bl _ => none
  | _, .str _ => none
  | _, .lst _ => none
  | _, .ro _ => none
  | _, .ob _ => none
  | _, .exc _ _ _ _ _ => none
  | _, .dct _ => none
  | _, .thk _ _ _ _ _ _ => none
def D.nkA : Nat → List D → Option (List NestedKey)
  | _, [] => some []
  | n, d :: ds => (D.nkI n d).bind fun k => (D.nkA n ds).map fun ks => k :: ks
end
/-- the key that a tuple is -/
def D.nk : D → Option NestedKey
  | .tup ds => D.nkI 7 (.tup ds)
  | _ => none
def DctAt (d : Addr) (xs : List (NestedKey × Addr × Value)) (h : Heap) : Prop :=
  (d == sysModules) = false ∧ xs.length ≤ sizeLine ∧ ∃ (w : World) (o : Obj) (es : Array DictEntry) (ep : Nat), h.get? d = some o ∧ o.ExactDict ∧ o.data = .dict es ep ∧ es.toList = xs.map (fun x => ⟨x.1.hash w, .ref x.2.1, x.2.2⟩) ∧ (xs.map (·.1)).Nodup
def dctO (d : Addr) (xs : List (NestedKey × Addr × Value)) : HO := .ext (DctAt d xs)

mutual
/-- the value stands for the data, over the tracked heap F -/
inductive Dv (K : PySem.W.Frag) (F : Hp) : V → D → Prop
  | non : Dv K F .non .non
  | bl (b : Bool) : Dv K F (.bl b) (.bl b)
  | int (i : Int) : Dv K F (.int i) (.int i)
  | str (x : Str) : Dv K F (.str x) (.str x)
  | tup {a : Addr} {xs : List V} {ds : List D} : SqT K F a xs → DvA K F xs ds → Dv K F (.ref a) (.tup ds)
  | lst {a : Addr} {xs : List V} {ds : List D} : F a = some (.lst xs) → DvA K F xs ds → Dv K F (.ref a) (.lst ds)
  | ro {a : Addr} {xs : List V} {ds : List D} : SqL K F a xs → DvA K F xs ds → Dv K F (.ref a) (.ro ds)
  | ob (v : V) : Dv K F v (.ob v)
  /-- an exception caught: at a, of the class at C, its dict at dd -/
  | exc {a C dd : Addr} {fl : Str} {v : V} {d : D} : F dd = some (.xd [(fl, v)]) → Dv K F v d → Dv K F (.ref a) (.exc a C dd fl d)
  | dct {a : Addr} {o : Obj} {xs : List (NestedKey × Addr × Value)} {kvs : List (D × D)} : F a = some (.frz o (dctO a xs)) → DvP K F xs kvs → Dv K F (.ref a) (.dct kvs)
  /-- a lambda at f: what it captures stands in the slots is of its maker's σ -/
  | thk {f c : Addr} {q : Str} {σ : List (Option V)} {is : List Nat} {vs : List V} {ds : List D} : F c = some (LamX.CodeO c q) → (is.map fun i => σ[i]?) = vs.map (fun v => some (some v)) → DvA K F vs ds → Dv K F (.ref f) (.thk f c q σ is ds)
inductive DvA (K : PySem.W.Frag) (F : Hp) : List V → List D → Prop
  | nil : DvA K F [] []
  | cons {v : V} {vs : List V} {d : D} {ds : List D} : Dv K F v d → DvA K F vs ds → DvA K F (v :: vs) (d :: ds)
inductive DvP (K : PySem.W.Frag) (F : Hp) : List (NestedKey × Addr × Value) → List (D × D) → Prop
  | nil : DvP K F [] []
  | cons {k : NestedKey} {b : Addr} {u : Value} {v : V} {kd vd : D} {xs : List (NestedKey × Addr × Value)} {kvs : List (D × D)} : D.nk kd = some k → Dv K F (.ref b) kd → RelV v u → Dv K F v vd → DvP K F xs kvs → DvP K F ((k, b, u) :: xs) ((kd, vd) :: kvs)
end

theorem Same.seqT {K : PySem.W.Frag} {H H' : Hp} {a : Addr} {xs : List V} (e : Same H H') (h : SqT K H a xs) : SqT K H' a xs := by
  rcases h with h | h
  · rcases h with h | ⟨o, h⟩
    · exact .inl (.inl (e _ _ h))
    · exact .inl (.inr ⟨o, e _ _ h⟩)
  · exact .inr h

section
variable {K : PySem.W.Frag} {F F' : Hp}
mutual
theorem Dv.mono (s : Same F F') : ∀ {v : V} {d : D}, Dv K F v d → Dv K F' v d
  | _, _, .non => .non
  | _, _, .bl b => .bl b
  | _, _, .int i => .int i
  | _, _, .str x => .str x
  | _, _, .tup h a => .tup (Same.seqT s h) (DvA.mono s a)
  | _, _, .lst h a => .lst (s _ _ h) (DvA.mono s a)
  | _, _, .ro h a => .ro (s.seq h) (DvA.mono s a)
  | _, _, .ob v => .ob v
  | _, _, .exc h d => .exc (s _ _ h) (Dv.mono s d)
  | _, _, .dct h p => .dct (s _ _ h) (DvP.mono s p)
  | _, _, .thk c h a => .thk (s _ _ c) h (DvA.mono s a)
theorem DvA.mono (s : Same F F') : ∀ {vs : List V} {ds : List D}, DvA K F vs ds → DvA K F' vs ds
  | _, _, .nil => .nil
  | _, _, .cons h t => .cons (Dv.mono s h) (DvA.mono s t)
theorem DvP.mono (s : Same F F') : ∀ {xs : List (NestedKey × Addr × Value)} {kvs : List (D × D)}, DvP K F xs kvs → DvP K F' xs kvs
  | _, _, .nil => .nil
  | _, _, .cons e h r d t => .cons e (Dv.mono s h) r (Dv.mono s d) (DvP.mono s t)
end
theorem DvA.length : ∀ {vs : List V} {ds : List D}, DvA K F vs ds → vs.length = ds.length
  | _, _, .nil => rfl
  | _, _, .cons _ t => by rw [List.length_cons, List.length_cons, DvA.length t]
theorem DvA.get : ∀ {vs : List V} {ds : List D} {i : Nat} {d : D}, DvA K F vs ds → ds[i]? = some d → ∃ v, vs[i]? = some v ∧ Dv K F v d
  | _, _, _, _, .nil, e => by simp at e
  | _, _, 0, _, .cons r _, e => by simp at e; subst e; exact ⟨_, rfl, r⟩
  | _, _, i + 1, d, .cons _ t, e => by
    obtain ⟨v, h1, h2⟩ := DvA.get (i := i) (d := d) t (by simpa using e)
    exact ⟨v, by simpa using h1, h2⟩
theorem DvA.getV : ∀ {vs : List V} {ds : List D} {i : Nat} {v : V}, DvA K F vs ds → vs[i]? = some v → ∃ d, ds[i]? = some d ∧ Dv K F v d
  | _, _, _, _, .nil, e => by simp at e
  | _, _, 0, _, .cons r _, e => by simp at e; subst e; exact ⟨_, rfl, r⟩
  | _, _, i + 1, v, .cons _ t, e => by
    obtain ⟨d, h1, h2⟩ := DvA.getV (i := i) (v := v) t (by simpa using e)
    exact ⟨d, by simpa using h1, h2⟩
theorem DvA.append : ∀ {vs ws : List V} {ds es : List D}, DvA K F vs ds → DvA K F ws es → DvA K F (vs ++ ws) (ds ++ es)
  | _, _, _, _, .nil, s => s
  | _, _, _, _, .cons r t, s => .cons r (DvA.append t s)
theorem DvA.take : ∀ {vs : List V} {ds : List D} (n : Nat), DvA K F vs ds → DvA K F (vs.take n) (ds.take n)
  | _, _, 0, _ => by rw [List.take_zero, List.take_zero]; exact .nil
  | _, _, _ + 1, .nil => .nil
  | _, _, n + 1, .cons r t => .cons r (DvA.take n t)
theorem DvA.drop : ∀ {vs : List V} {ds : List D} (n : Nat), DvA K F vs ds → DvA K F (vs.drop n) (ds.drop n)
  | _, _, 0, r => r
  | _, _, _ + 1, .nil => .nil
  | _, _, n + 1, .cons _ t => DvA.drop n t
theorem DvA.reverse {vs : List V} {ds : List D} (h : DvA K F vs ds) : DvA K F vs.reverse ds.reverse := by
  induction vs generalizing ds with
  | nil => cases h; exact .nil
  | cons v r ih =>
    cases h with
    | cons h1 h2 => rw [List.reverse_cons, List.reverse_cons]; exact DvA.append (ih h2) (.cons h1 .nil)
theorem DvA.set {v : V} {d : D} (h : Dv K F v d) : ∀ {vs : List V} {ds : List D} (i : Nat), DvA K F vs ds → DvA K F (vs.set i v) (ds.set i d)
  | _, _, _, .nil => .nil
  | _, _, 0, .cons _ t => .cons h t
  | _, _, i + 1, .cons r t => .cons r (DvA.set h i t)
theorem DvA.rep {vs : List V} {ds : List D} (h : DvA K F vs ds) : ∀ k : Nat, DvA K F (List.replicate k vs).flatten (List.replicate k ds).flatten
  | 0 => .nil
  | k + 1 => by
    rw [List.replicate_succ, List.replicate_succ, List.flatten_cons, List.flatten_cons]
    exact DvA.append h (DvA.rep h k)
theorem DvA.dropLast {vs : List V} {ds : List D} (h : DvA K F vs ds) : DvA K F vs.dropLast ds.dropLast := by
  rw [List.dropLast_eq_take, List.dropLast_eq_take, h.length]
  exact DvA.take _ h
theorem DvA.ints {ns : List Int} : DvA K F (ns.map V.int) (ns.map D.int) := by
  induction ns with
  | nil => exact .nil
  | cons n r ih => exact .cons (.int n) ih
theorem DvA.ints_inv : ∀ {vs : List V} {ns : List Int}, DvA K F vs (ns.map D.int) → vs = ns.map V.int
  | _, [], h => by cases h; rfl
  | _, n :: r, h => by
    cases h with
    | cons h1 h2 =>
      cases h1
      rw [List.map_cons, DvA.ints_inv h2]
end

/-- what a local holds: data, or a list of its own at an address -/
inductive Sv where
  | fz (d : D) | own (a : Addr) (xs : List D)
abbrev Env := List (Option Sv)
/-- an exception: its class's address, the one field, the value told -/
structure Exc where
  C : Addr
  fld : Str
  val : D
def ExR (K : PySem.W.Frag) (F : Hp) (cls : Value) (dd : Option Addr) (x : Exc) : Prop :=
  cls = .ref x.C ∧ ∃ p v, dd = some p ∧ F p = some (.xd [(x.fld, v)]) ∧ Dv K F v x.val

/-- the tables of code objects that defs with lambdas write to, each with the name of its code objects -/
class TabSet where
  T : List (Addr × Str)
/-- none, where nothing else is said -/
instance (priority := low) noTabs : TabSet := ⟨[]⟩
/-- no table, no code object -/
def Plain (o : HO) : Prop := (∀ ps, o ≠ .tbl ps) ∧ ∀ c q, o ≠ LamX.CodeO c q
/-- .. and how they stand: neither in what never changes nor in the others' part, and no code object in this -/
structure TabsOk [TabSet] (R F H : Hp) : Prop where
  tabs : LamX.Tabs TabSet.T H
  nr : ∀ c o, R c = some o → Plain o
  nf : ∀ b ps, F b ≠ some (.tbl ps)
variable [TabSet]
theorem TabsOk.ext {R F H H' : Hp} (t : TabsOk R F H) (e : ∀ b o, H b = some o → H' b = some o) : TabsOk R F H' := ⟨t.tabs.ext e, t.nr, t.nf⟩
theorem TabsOk.new {R F H : Hp} {p : Addr} {o : HO} (t : TabsOk R F H) (hp : H p = none) : TabsOk R F (upd H p o) := t.ext fun b u q => by rw [upd_ne (ne_of_none q hp)]; exact q
theorem TabsOk.at {R F H : Hp} (t : TabsOk R F H) {x : Addr × Str} (m : x ∈ TabSet.T) : ∃ ps, H x.1 = some (.tbl ps) := let ⟨ps, h, _⟩ := t.tabs x m; ⟨ps, h⟩
theorem TabsOk.newF {R F H : Hp} {p : Addr} {o : HO} (t : TabsOk R F H) (hp : H p = none) (n : ∀ ps, o ≠ .tbl ps) : TabsOk R (upd F p o) (upd H p o) := ⟨(t.new hp).tabs, t.nr, fun b ps e => by
  by_cases z : b = p
  · subst z; rw [upd_same] at e; exact n ps (Option.some.inj e)
  · rw [upd_ne z] at e; exact t.nf b ps e⟩
theorem plain_lst {vs : List V} : Plain (.lst vs) := by
  refine ⟨fun _ z => ?_, fun c q z => ?_⟩
  · cases z
  · unfold LamX.CodeO at z
    cases z
/-- another part for the others, plain things in it -/
theorem TabsOk.re {R R' F H : Hp} (t : TabsOk R F H) (h : ∀ c o, R' c = some o → R c = some o ∨ Plain o) : TabsOk R' F H := ⟨t.tabs, fun c o z => (h c _ z).elim (fun z => t.nr c o z) fun n => n, t.nf⟩
theorem TabsOk.less {R R1 F H : Hp} (t : TabsOk R1 F H) (s : ∀ b o, R b = some o → R1 b = some o) : TabsOk R F H := t.re fun c o e => .inl (s _ _ e)
theorem TabsOk.held {R F H : Hp} {p : Addr} {o : HO} (t : TabsOk R F H) (n : Plain o) : TabsOk (upd R p o) F H := t.re fun c u e => by
  by_cases z : c = p
  · subst z; rw [upd_same] at e; cases e; exact .inr n
  · rw [upd_ne z] at e; exact .inl e
theorem TabsOk.let {R F H : Hp} {p : Addr} {o : HO} (t : TabsOk (upd R p o) F H) (h : R p = none) : TabsOk R F H := t.less fun b u e => by rw [upd_ne (ne_of_none e h)]; exact e
theorem heap_all (o : Obj) (nf : o.isFreed = false) : ∀ n : Nat, ∃ h : Heap, h.objs.size = n ∧ ∀ b, b < n → h.get? b = some o
  | 0 => ⟨{ objs := #[] }, rfl, fun b hb => absurd hb (Nat.not_lt_zero b)⟩
  | n + 1 => by
    obtain ⟨h, e, g⟩ := heap_all o nf n
    refine ⟨h.push o, by rw [Heap.size_push, e], fun b hb => ?_⟩
    by_cases z : b = n
    · subst z
      rw [← e]
      exact Heap.get?_push_size _ nf
    · exact Heap.get?_push_of_some _ (g b (by omega))
theorem plain_dct {a : Addr} {xs : List (NestedKey × Addr × Value)} : Plain (dctO a xs) := by
  refine ⟨fun _ z => ?_, fun c q z => ?_⟩
  · unfold dctO at z
    cases z
  unfold dctO LamX.CodeO at z
  injection z with z
  obtain ⟨h, e, g⟩ := heap_all { cls := .none, data := .fields #[.none, .str q 0] } rfl (c + a + 1)
  have h2 := congrFun z h
  have yes : DctAt a xs h := by rw [h2]; exact ⟨_, _, 0, g c (by omega), rfl, rfl⟩
  obtain ⟨_, _, w, o, es, ep, ho, _, hd, _⟩ := yes
  rw [g a (by omega)] at ho
  cases ho
  cases hd
theorem TabsOk.upd' {R F H : Hp} {p : Addr} {o o' : HO} (t : TabsOk R F H) (h : H p = some o) (n : Plain o) : TabsOk R F (upd H p o') := ⟨fun x m => by
  obtain ⟨ps, h1, h2, h3⟩ := t.1 x m
  refine ⟨ps, ?_, h2, fun pos cv hc => ?_⟩
  · rw [upd_ne (fun z => by rw [z, h] at h1; exact n.1 _ (Option.some.inj h1))]; exact h1
  · obtain ⟨c, e1, e2⟩ := h3 pos cv hc
    refine ⟨c, e1, ?_⟩
    rw [upd_ne (fun z => by rw [z, h] at e2; exact n.2 _ _ (Option.some.inj e2))]; exact e2, t.nr, t.nf⟩
theorem TabsOk.un {R F H : Hp} {p : Addr} {o : HO} (t : TabsOk R F H) (h : H p = some o) (n : Plain o) : TabsOk R F (fun b => if b = p then none else H b) := ⟨fun x m => by
  obtain ⟨ps, h1, h2, h3⟩ := t.1 x m
  refine ⟨ps, ?_, h2, fun pos cv hc => ?_⟩
  · show (if x.1 = p then none else H x.1) = _
    rw [if_neg (fun z => by rw [z, h] at h1; exact n.1 _ (Option.some.inj h1))]; exact h1
  · obtain ⟨c, e1, e2⟩ := h3 pos cv hc
    refine ⟨c, e1, ?_⟩
    show (if c = p then none else H c) = _
    rw [if_neg (fun z => by rw [z, h] at e2; exact n.2 _ _ (Option.some.inj e2))]; exact e2, t.nr, t.nf⟩
/-- a list is changed -/
theorem TabsOk.lst {R F H : Hp} {a : Addr} {vs ws : List V} (t : TabsOk R F H) (h : H a = some (.lst vs)) : TabsOk R F (upd H a (.lst ws)) := t.upd' h plain_lst
/-- a list is for ever -/
theorem TabsOk.frz {R F H : Hp} {a : Addr} {vs : List V} (t : TabsOk R F H) : TabsOk R (upd F a (.lst vs)) H := ⟨t.tabs, t.nr, fun b ps e => by
  by_cases z : b = a
  · subst z; rw [upd_same] at e; cases e
  · rw [upd_ne z] at e; exact t.nf b ps e⟩
/-- the abstract state: F what never changes, R what is another's, the locals' own lists -/
structure Rel (K : PySem.W.Frag) (R F : Hp) (ρ : Env) (σ : L2.St) (H : Hp) : Prop where
  sF : Same F H
  sR : Same R H
  dj : ∀ a o, F a = some o → R a = none
  len : ρ.length = σ.length
  fz : ∀ (i : Nat) d, ρ[i]? = some (some (.fz d)) → ∃ v, σ[i]? = some (some v) ∧ Dv K F v d
  own : ∀ (i : Nat) a xs, ρ[i]? = some (some (.own a xs)) → σ[i]? = some (some (.ref a)) ∧ (∃ vs, H a = some (.lst vs) ∧ DvA K F vs xs) ∧ F a = none ∧ R a = none
  inj : ∀ (i j : Nat) a xs ys, ρ[i]? = some (some (.own a xs)) → ρ[j]? = some (some (.own a ys)) → i = j
  tb : TabsOk R F H

section
variable {K : PySem.W.Frag} {R F : Hp} {ρ : Env} {σ : L2.St} {H : Hp} {p : Addr} {o : HO}
theorem same_upd {F : Hp} {p : Addr} {o : HO} (h : F p = none) : Same F (upd F p o) := fun b u q => by rw [upd_ne (ne_of_none q h)]; exact q
/-- a new thing, for ever -/
theorem Rel.alloc (r : Rel K R F ρ σ H) (hp : H p = none) (n : ∀ ps, o ≠ .tbl ps := by intro _ z; cases z) : Same F (upd F p o) ∧ Rel K R (upd F p o) ρ σ (upd H p o) := by
  have hF : F p = none := Same.free r.sF hp
  have hR : R p = none := Same.free r.sR hp
  have sF' : Same F (upd F p o) := same_upd hF
  refine ⟨sF', ⟨fun b u q => ?_, fun b u q => ?_, fun b u q => ?_, r.len, fun i d e => ?_, fun i a xs e => ?_, r.inj, r.tb.newF hp n⟩⟩
  · by_cases hb : b = p
    · subst hb; rw [upd_same] at q ⊢; exact q
    · rw [upd_ne hb] at q ⊢; exact r.sF _ _ q
  · rw [upd_ne (ne_of_none q hR)]; exact r.sR _ _ q
  · by_cases hb : b = p
    · subst hb; exact hR
    · rw [upd_ne hb] at q; exact r.dj _ _ q
  · obtain ⟨v, h1, h2⟩ := r.fz i d e
    exact ⟨v, h1, h2.mono sF'⟩
  · obtain ⟨h1, ⟨vs, h2, h3⟩, h4, h5⟩ := r.own i a xs e
    have ne : a ≠ p := ne_of_none h2 hp
    exact ⟨h1, ⟨vs, by rw [upd_ne ne]; exact h2, h3.mono sF'⟩, by rw [upd_ne ne]; exact h4, h5⟩
/-- a new list of a local's own -/
theorem Rel.allocOwn {i : Nat} {vs : List V} {xs : List D} (r : Rel K R F ρ σ H) (hp : H p = none) (h : DvA K F vs xs) :
    Rel K R F (ρ.set i (some (.own p xs))) (σ.set i (some (.ref p))) (upd H p (.lst vs)) := by
  have hF : F p = none := Same.free r.sF hp
  have hR : R p = none := Same.free r.sR hp
  refine ⟨fun b u q => ?_, fun b u q => ?_, r.dj, by simp [r.len], fun j d e => ?_, fun j a ys e => ?_, fun j l a ys zs e1 e2 => ?_, r.tb.new hp⟩
  · rw [upd_ne (ne_of_none q hF)]; exact r.sF _ _ q
  · rw [upd_ne (ne_of_none q hR)]; exact r.sR _ _ q
  · by_cases hj : i = j
    · subst hj
      by_cases hl : i < ρ.length
      · rw [List.getElem?_set_self hl] at e; cases e
      · rw [List.getElem?_eq_none (by simpa using hl)] at e; cases e
    · rw [List.getElem?_set_ne hj] at e ⊢; exact r.fz j d e
  · by_cases hj : i = j
    · subst hj
      by_cases hl : i < ρ.length
      · rw [List.getElem?_set_self hl] at e
        cases e
        exact ⟨List.getElem?_set_self (by rw [← r.len]; exact hl), ⟨vs, upd_same, h⟩, hF, hR⟩
      · rw [List.getElem?_eq_none (by simpa using hl)] at e; cases e
    · rw [List.getElem?_set_ne hj] at e ⊢
      obtain ⟨h1, ⟨ws, h2, h3⟩, h4, h5⟩ := r.own j a ys e
      exact ⟨h1, ⟨ws, by rw [upd_ne (ne_of_none h2 hp)]; exact h2, h3⟩, h4, h5⟩
  · have key : ∀ m ws, (ρ.set i (some (.own p xs)))[m]? = some (some (.own a ws)) → (m = i ∧ a = p) ∨ (m ≠ i ∧ ρ[m]? = some (some (.own a ws))) := fun m ws e => by
      by_cases hm : i = m
      · subst hm
        by_cases hl : i < ρ.length
        · rw [List.getElem?_set_self hl] at e; cases e; exact .inl ⟨rfl, rfl⟩
        · rw [List.getElem?_eq_none (by simpa using hl)] at e; cases e
      · rw [List.getElem?_set_ne hm] at e; exact .inr ⟨Ne.symm hm, e⟩
    have no : ∀ (m : Nat) (ws : List D), ρ[m]? = some (some (Sv.own p ws)) → False := fun m ws e => by
      obtain ⟨_, ⟨us, h2, _⟩, _⟩ := r.own m p ws e
      rw [hp] at h2; cases h2
    rcases key j ys e1 with ⟨h1, h2⟩ | ⟨h1, h2⟩
    · rcases key l zs e2 with ⟨h3, h4⟩ | ⟨h3, h4⟩
      · rw [h1, h3]
      · subst h2; exact (no _ _ h4).elim
    · rcases key l zs e2 with ⟨h3, h4⟩ | ⟨h3, h4⟩
      · subst h4; exact (no _ _ h2).elim
      · exact r.inj j l a ys zs h2 h4
/-- a local gets data -/
theorem Rel.setF {i : Nat} {v : V} {d : D} (r : Rel K R F ρ σ H) (h : Dv K F v d) : Rel K R F (ρ.set i (some (.fz d))) (σ.set i (some v)) H := by
  have key : ∀ m a ws, (ρ.set i (some (.fz d)))[m]? = some (some (.own a ws)) → i ≠ m ∧ ρ[m]? = some (some (.own a ws)) := fun m a ws e => by
    by_cases hm : i = m
    · subst hm
      by_cases hl : i < ρ.length
      · rw [List.getElem?_set_self hl] at e; cases e
      · rw [List.getElem?_eq_none (by simpa using hl)] at e; cases e
    · rw [List.getElem?_set_ne hm] at e; exact ⟨hm, e⟩
  refine ⟨r.sF, r.sR, r.dj, by simp [r.len], fun j e' e => ?_, fun j a ys e => ?_, fun j l a ys zs e1 e2 => r.inj j l a ys zs (key _ _ _ e1).2 (key _ _ _ e2).2, r.tb⟩
  · by_cases hj : i = j
    · subst hj
      by_cases hl : i < ρ.length
      · rw [List.getElem?_set_self hl] at e
        cases e
        exact ⟨v, List.getElem?_set_self (by rw [← r.len]; exact hl), h⟩
      · rw [List.getElem?_eq_none (by simpa using hl)] at e; cases e
    · rw [List.getElem?_set_ne hj] at e ⊢; exact r.fz j _ e
  · obtain ⟨hj, e'⟩ := key _ _ _ e
    rw [List.getElem?_set_ne hj]
    exact r.own j a ys e'
/-- a local's slot is forgotten -/
theorem Rel.unset {i : Nat} {u : Option V} (r : Rel K R F ρ σ H) : Rel K R F (ρ.set i none) (σ.set i u) H := by
  have key : ∀ m (y : Sv), (ρ.set i none)[m]? = some (some y) → i ≠ m ∧ ρ[m]? = some (some y) := fun m y e => by
    by_cases hm : i = m
    · subst hm
      by_cases hl : i < ρ.length
      · rw [List.getElem?_set_self hl] at e; cases e
      · rw [List.getElem?_eq_none (by simpa using hl)] at e; cases e
    · rw [List.getElem?_set_ne hm] at e; exact ⟨hm, e⟩
  refine ⟨r.sF, r.sR, r.dj, by simp [r.len], fun j e' e => ?_, fun j a ys e => ?_, fun j l a ys zs e1 e2 => r.inj j l a ys zs (key _ _ e1).2 (key _ _ e2).2, r.tb⟩
  · obtain ⟨hj, e'⟩ := key _ _ e
    rw [List.getElem?_set_ne hj]; exact r.fz j _ e'
  · obtain ⟨hj, e'⟩ := key _ _ e
    rw [List.getElem?_set_ne hj]; exact r.own j a ys e'
/-- an own list is changed -/
theorem Rel.write {i : Nat} {a : Addr} {xs ys : List D} {ws : List V} (r : Rel K R F ρ σ H) (e : ρ[i]? = some (some (.own a xs))) (h : DvA K F ws ys) :
    Rel K R F (ρ.set i (some (.own a ys))) σ (upd H a (.lst ws)) := by
  obtain ⟨h1, ⟨vs, h2, h3⟩, h4, h5⟩ := r.own i a xs e
  have hl : i < ρ.length := (List.getElem?_eq_some_iff.mp e).1
  have key : ∀ m b zs, (ρ.set i (some (.own a ys)))[m]? = some (some (.own b zs)) → (m = i ∧ b = a ∧ zs = ys) ∨ (m ≠ i ∧ ρ[m]? = some (some (.own b zs))) := fun m b zs e => by
    by_cases hm : i = m
    · subst hm; rw [List.getElem?_set_self hl] at e; cases e; exact .inl ⟨rfl, rfl, rfl⟩
    · rw [List.getElem?_set_ne hm] at e; exact .inr ⟨Ne.symm hm, e⟩
  refine ⟨fun b u q => ?_, fun b u q => ?_, r.dj, by simp [r.len], fun j d q => ?_, fun j b zs q => ?_, fun j l b zs us e1 e2 => ?_, r.tb.lst h2⟩
  · rw [upd_ne (ne_of_none q h4)]; exact r.sF _ _ q
  · rw [upd_ne (ne_of_none q h5)]; exact r.sR _ _ q
  · by_cases hj : i = j
    · subst hj; rw [List.getElem?_set_self hl] at q; cases q
    · rw [List.getElem?_set_ne hj] at q; exact r.fz j d q
  · rcases key j b zs q with ⟨rfl, rfl, rfl⟩ | ⟨hj, q'⟩
    · exact ⟨h1, ⟨ws, upd_same, h⟩, h4, h5⟩
    · obtain ⟨g1, ⟨us, g2, g3⟩, g4, g5⟩ := r.own j b zs q'
      have ne : b ≠ a := fun z => by subst z; exact hj (r.inj j i b zs xs q' e)
      exact ⟨g1, ⟨us, by rw [upd_ne ne]; exact g2, g3⟩, g4, g5⟩
  · rcases key j b zs e1 with ⟨g1, g2, _⟩ | ⟨g1, g2⟩
    · rcases key l b us e2 with ⟨g3, g4, _⟩ | ⟨g3, g4⟩
      · rw [g1, g3]
      · subst g2; exact (g3 (r.inj l i b us xs g4 e)).elim
    · rcases key l b us e2 with ⟨g3, g4, _⟩ | ⟨g3, g4⟩
      · subst g4; exact (g1 (r.inj j i b zs xs g2 e)).elim
      · exact r.inj j l b zs us g2 g4
/-- an own list becomes data for ever -/
theorem Rel.freeze {i : Nat} {a : Addr} {xs : List D} (r : Rel K R F ρ σ H) (e : ρ[i]? = some (some (.own a xs))) :
    ∃ F', Same F F' ∧ Rel K R F' (ρ.set i (some (.fz (.lst xs)))) σ H ∧ Dv K F' (.ref a) (.lst xs) ∧ σ[i]? = some (some (.ref a)) := by
  obtain ⟨h1, ⟨vs, h2, h3⟩, h4, h5⟩ := r.own i a xs e
  have hl : i < ρ.length := (List.getElem?_eq_some_iff.mp e).1
  have sF' : Same F (upd F a (.lst vs)) := same_upd h4
  have dv : Dv K (upd F a (.lst vs)) (.ref a) (.lst xs) := .lst upd_same (h3.mono sF')
  have key : ∀ m b zs, (ρ.set i (some (.fz (.lst xs))))[m]? = some (some (.own b zs)) → i ≠ m ∧ ρ[m]? = some (some (.own b zs)) := fun m b zs e => by
    by_cases hm : i = m
    · subst hm; rw [List.getElem?_set_self hl] at e; cases e
    · rw [List.getElem?_set_ne hm] at e; exact ⟨hm, e⟩
  refine ⟨_, sF', ⟨fun b u q => ?_, r.sR, fun b u q => ?_, by simp [r.len], fun j d q => ?_, fun j b zs q => ?_, fun j l b zs us e1 e2 => r.inj j l b zs us (key _ _ _ e1).2 (key _ _ _ e2).2, r.tb.frz⟩, dv, h1⟩
  · by_cases hb : b = a
    · subst hb; rw [upd_same] at q; cases q; exact h2
    · rw [upd_ne hb] at q; exact r.sF _ _ q
  · by_cases hb : b = a
    · subst hb; exact h5
    · rw [upd_ne hb] at q; exact r.dj _ _ q
  · by_cases hj : i = j
    · subst hj; rw [List.getElem?_set_self hl] at q; cases q; exact ⟨_, h1, dv⟩
    · rw [List.getElem?_set_ne hj] at q
      obtain ⟨v, g1, g2⟩ := r.fz j d q
      exact ⟨v, g1, g2.mono sF'⟩
  · obtain ⟨hj, q'⟩ := key _ _ _ q
    obtain ⟨g1, ⟨us, g2, g3⟩, g4, g5⟩ := r.own j b zs q'
    have ne : b ≠ a := fun z => by subst z; exact hj (r.inj i j b xs zs e q')
    exact ⟨g1, ⟨us, g2, g3.mono sF'⟩, by rw [upd_ne ne]; exact g4, g5⟩
/-- an own list read where it stands -/
theorem Rel.borrow {i : Nat} {a : Addr} {xs : List D} (r : Rel K R F ρ σ H) (e : ρ[i]? = some (some (.own a xs))) : ∃ vs, σ[i]? = some (some (.ref a)) ∧ H a = some (.lst vs) ∧ DvA K F vs xs := by
  obtain ⟨h1, ⟨vs, h2, h3⟩, _⟩ := r.own i a xs e
  exact ⟨vs, h1, h2, h3⟩
end
end DL
namespace DL
open PySem PySem.Spec PyProof.Rows L2
variable [TabSet]

abbrev Qn := D → Env → Prop
abbrev Qx := Exc → Env → Prop
/-- what must hold so that an expression gives data -/
abbrev We := Env → Qn → Qx → Prop
abbrev Wt := Env → (Bool → Env → Prop) → Qx → Prop
abbrev Wa := Env → (List D → Env → Prop) → Qx → Prop
structure Es where
  nx : Env → Prop
  rt : D → Env → Prop
  bk : Env → Prop
  ct : Env → Prop
  ex : Qx
  /-- a new list is handed back -/
  rn : List D → Env → Prop := fun _ _ => False
abbrev Ws := Env → Es → Prop

def MonoE (f : We) : Prop := ∀ ρ (Q Q' : Qn) (E E' : Qx), (∀ d ρ, Q d ρ → Q' d ρ) → (∀ x ρ, E x ρ → E' x ρ) → f ρ Q E → f ρ Q' E'
def MonoT (f : Wt) : Prop := ∀ ρ (Q Q' : Bool → Env → Prop) (E E' : Qx), (∀ d ρ, Q d ρ → Q' d ρ) → (∀ x ρ, E x ρ → E' x ρ) → f ρ Q E → f ρ Q' E'
def MonoA (f : Wa) : Prop := ∀ ρ (Q Q' : List D → Env → Prop) (E E' : Qx), (∀ d ρ, Q d ρ → Q' d ρ) → (∀ x ρ, E x ρ → E' x ρ) → f ρ Q E → f ρ Q' E'
structure Es.le (D D' : Es) : Prop where
  nx : ∀ ρ, D.nx ρ → D'.nx ρ
  rt : ∀ d ρ, D.rt d ρ → D'.rt d ρ
  bk : ∀ ρ, D.bk ρ → D'.bk ρ
  ct : ∀ ρ, D.ct ρ → D'.ct ρ
  ex : ∀ x ρ, D.ex x ρ → D'.ex x ρ
  rn : ∀ xs ρ, D.rn xs ρ → D'.rn xs ρ
def MonoS (g : Ws) : Prop := ∀ ρ (D D' : Es), D.le D' → g ρ D → g ρ D'
theorem Es.le.refl (D : Es) : D.le D := ⟨fun _ h => h, fun _ _ h => h, fun _ h => h, fun _ h => h, fun _ _ h => h, fun _ _ h => h⟩

section
variable (K : PySem.W.Frag) (R F : Hp) (σ : L2.St)
/-- the pure wish that a wish about values and heaps is -/
def upE (Q : VK) : Qn := fun d ρ' => ∀ F' H' v, Same F F' → Rel K R F' ρ' σ H' → Dv K F' v d → Q v H'
def upT (Q : Bool → Hp → Prop) : Bool → Env → Prop := fun b ρ' => ∀ F' H', Same F F' → Rel K R F' ρ' σ H' → Q b H'
def upA (Q : List V → Hp → Prop) : List D → Env → Prop := fun ds ρ' => ∀ F' H' vs, Same F F' → Rel K R F' ρ' σ H' → DvA K F' vs ds → Q vs H'
def upX (W : WX) : Qx := fun x ρ' => ∀ F' H' cls dd, Same F F' → Rel K R F' ρ' σ H' → ExR K F' cls dd x → W cls dd σ H'
def upS (W : WX) (D : L2.Ends) : Es where
  nx := fun ρ' => ∀ F' σ' H', Same F F' → Rel K R F' ρ' σ' H' → D.nx σ' H'
  rt := fun d ρ' => ∀ F' σ' H' v, Same F F' → Rel K R F' ρ' σ' H' → Dv K F' v d → D.rt v H'
  bk := fun ρ' => ∀ F' σ' H', Same F F' → Rel K R F' ρ' σ' H' → D.bk σ' H'
  ct := fun ρ' => ∀ F' σ' H', Same F F' → Rel K R F' ρ' σ' H' → D.ct σ' H'
  ex := fun x ρ' => ∀ F' σ' H' cls dd, Same F F' → Rel K R F' ρ' σ' H' → ExR K F' cls dd x → W cls dd σ' H'
  rn := fun xs ρ' => ∀ F' σ' H' p vs, Same F F' → Rel K R F' ρ' σ' H' → H' p = none → DvA K F' vs xs → D.rt (.ref p) (upd H' p (.lst vs))
end
section
variable {K : PySem.W.Frag} {R F F' : Hp} {σ : L2.St}
theorem upX.mono {W : WX} (s : Same F F') : ∀ x ρ, upX K R F σ W x ρ → upX K R F' σ W x ρ := fun _ _ h F2 H2 cls dd s2 r e => h F2 H2 cls dd (s.trans s2) r e
theorem upE.mono {Q : VK} (s : Same F F') : ∀ x ρ, upE K R F σ Q x ρ → upE K R F' σ Q x ρ := fun _ _ h F2 H2 v s2 r e => h F2 H2 v (s.trans s2) r e
theorem upS.mono {W : WX} {D : L2.Ends} (s : Same F F') : (upS K R F W D).le (upS K R F' W D) :=
  ⟨fun _ h F2 σ2 H2 s2 r => h F2 σ2 H2 (s.trans s2) r, fun _ _ h F2 σ2 H2 v s2 r e => h F2 σ2 H2 v (s.trans s2) r e, fun _ h F2 σ2 H2 s2 r => h F2 σ2 H2 (s.trans s2) r,
    fun _ h F2 σ2 H2 s2 r => h F2 σ2 H2 (s.trans s2) r, fun _ _ h F2 σ2 H2 cls dd s2 r e => h F2 σ2 H2 cls dd (s.trans s2) r e, fun _ _ h F2 σ2 H2 p vs s2 r e d => h F2 σ2 H2 p vs (s.trans s2) r e d⟩
theorem upS.exX {W : WX} {D : L2.Ends} : ∀ x ρ, (upS K R F W D).ex x ρ → upX K R F σ W x ρ := fun _ _ h F2 H2 cls dd s r e => h F2 σ H2 cls dd s r e
end

/-- an expression that gives data -/
structure DE (X : Cx) (e : Expr) (f : We) : Prop where
  mono : MonoE f
  run : ∀ (W : WX), Takes X W → ∃ t, PE X e t ∧ ∀ R F σ H ρ (Q : VK), Rel X.K R F ρ σ H → f ρ (upE X.K R F σ Q) (upX X.K R F σ W) → t σ H Q
structure DT (X : Cx) (e : Expr) (f : Wt) : Prop where
  mono : MonoT f
  run : ∀ (W : WX), Takes X W → ∃ t, PT X e t ∧ ∀ R F σ H ρ (Q : Bool → Hp → Prop), Rel X.K R F ρ σ H → f ρ (upT X.K R F σ Q) (upX X.K R F σ W) → t σ H Q
/-- a chain of and, or as a test -/
structure DW (X : Cx) (e : Expr) (f : Wt) : Prop where
  mono : MonoT f
  run : ∀ (W : WX), Takes X W → ∃ t, PW X e t ∧ ∀ R F σ H ρ (Q : Bool → Hp → Prop), Rel X.K R F ρ σ H → f ρ (upT X.K R F σ Q) (upX X.K R F σ W) → t σ H Q
structure DA (X : Cx) (es : List Expr) (f : Wa) : Prop where
  mono : MonoA f
  run : ∀ (W : WX), Takes X W → ∃ t, PA X es t ∧ ∀ R F σ H ρ (Q : List V → Hp → Prop), Rel X.K R F ρ σ H → f ρ (upA X.K R F σ Q) (upX X.K R F σ W) → t σ H Q
structure DS (X : Cx) (st : Stmt) (g : Ws) : Prop where
  mono : MonoS g
  run : ∀ (W : WX), Takes X W → ∃ t, PS X st t ∧ ∀ R F σ H ρ (D : L2.Ends), Rel X.K R F ρ σ H → g ρ (upS X.K R F W D) → t D σ H
structure DSs (X : Cx) (st : List Stmt) (g : Ws) : Prop where
  mono : MonoS g
  run : ∀ (W : WX), Takes X W → ∃ t, PSs X st t ∧ ∀ R F σ H ρ (D : L2.Ends), Rel X.K R F ρ σ H → g ρ (upS X.K R F W D) → t D σ H
/-- a target of an assignment; is: the slots that it sets -/
abbrev Wg := D → Env → (Env → Prop) → Prop
def Off (is : List Nat) (σ σ' : L2.St) : Prop := ∀ vs : List Nat, (∀ i ∈ is, i ∈ vs) → wipe σ' vs = wipe σ vs
theorem Off.refl {is : List Nat} (σ : L2.St) : Off is σ σ := fun _ _ => rfl
theorem Off.trans {is js : List Nat} {σ σ1 σ2 : L2.St} (a : Off is σ σ1) (b : Off js σ1 σ2) : Off (is ++ js) σ σ2 := fun vs h =>
  (b vs fun i hi => h i (List.mem_append_right _ hi)).trans (a vs fun i hi => h i (List.mem_append_left _ hi))
theorem wipe_comm (σ : L2.St) (i : Nat) (x : Option V) : ∀ vs : List Nat, i ∈ vs → wipe (σ.set i x) vs = wipe σ vs
  | [], h => by cases h
  | v :: vs, h => by
    show (wipe (σ.set i x) vs).set v none = (wipe σ vs).set v none
    by_cases hv : i ∈ vs
    · rw [wipe_comm σ i x vs hv]
    · have e : v = i := by
        rcases List.mem_cons.mp h with z | z
        · exact z.symm
        · exact absurd z hv
      subst e
      have key : ∀ ws : List Nat, v ∉ ws → wipe (σ.set v x) ws = (wipe σ ws).set v x := by
        intro ws
        induction ws with
        | nil => intro _; rfl
        | cons w r ih =>
          intro hn
          simp only [List.mem_cons, not_or] at hn
          show (wipe (σ.set v x) r).set w none = ((wipe σ r).set w none).set v x
          rw [ih hn.2, List.set_comm _ _ hn.1]
      rw [key vs hv, List.set_set]
theorem Off.set (σ : L2.St) (i : Nat) (x : Option V) : Off [i] σ (σ.set i x) := fun vs h => wipe_comm σ i x vs (h i (by simp))
structure DG (X : Cx) (tg : Expr) (is : List Nat) (g : Wg) : Prop where
  mono : ∀ d ρ (Q Q' : Env → Prop), (∀ ρ, Q ρ → Q' ρ) → g d ρ Q → g d ρ Q'
  run : ∃ t, PG X tg t ∧ ∀ R F σ H ρ v d (Q : L2.St → Hp → Prop), Rel X.K R F ρ σ H → Dv X.K F v d → g d ρ (fun ρ' => ∀ F' σ' H', Same F F' → Rel X.K R F' ρ' σ' H' → Off is σ σ' → Q σ' H') → t v σ H Q
abbrev Wgs := List D → Env → (Env → Prop) → Prop
structure DGs (X : Cx) (tg : List Expr) (is : List Nat) (g : Wgs) : Prop where
  mono : ∀ d ρ (Q Q' : Env → Prop), (∀ ρ, Q ρ → Q' ρ) → g d ρ Q → g d ρ Q'
  run : ∃ t, PGs X tg t ∧ ∀ R F σ H ρ vs ds (Q : L2.St → Hp → Prop), Rel X.K R F ρ σ H → DvA X.K F vs ds → g ds ρ (fun ρ' => ∀ F' σ' H', Same F F' → Rel X.K R F' ρ' σ' H' → Off is σ σ' → Q σ' H') → t vs σ H Q

/-! ### values -/
def dC (d : D) : We := fun ρ Q _ => Q d ρ
def dVar (i : Nat) : We := fun ρ Q _ => ∃ d, ρ[i]? = some (some (.fz d)) ∧ Q d ρ
/-- an own list, handed on: data from here on -/
def dFrz (i : Nat) : We := fun ρ Q _ => (∃ a xs, ρ[i]? = some (some (.own a xs)) ∧ Q (.lst xs) (ρ.set i (some (.fz (.lst xs))))) ∨ ∃ d, ρ[i]? = some (some (.fz d)) ∧ Q d ρ
section
variable {X : Cx} {pos : Pos}
theorem de_const {e : Expr} {v : V} {d : D} (h : PE X e (tC v)) (dv : ∀ K F, Dv K F v d) : DE X e (dC d) :=
  ⟨fun _ _ _ _ _ hQ _ h => hQ _ _ h, fun W tk => ⟨_, h, fun R F σ H ρ Q r hq => hq F H v (Same.refl F) r (dv _ _)⟩⟩
theorem de_int {i j pos} : DE X (.Constant (.int i) j pos) (dC (.int i)) := de_const pe_int fun _ _ => .int i
theorem de_bl {i j pos} : DE X (.Constant (.bool i) j pos) (dC (.bl i)) := de_const pe_bl fun _ _ => .bl i
theorem de_non {j pos} : DE X (.Constant .none j pos) (dC .non) := de_const pe_non fun _ _ => .non
theorem de_str {x j pos} : DE X (.Constant (.str x) j pos) (dC (.str x)) := de_const pe_str fun _ _ => .str x
theorem de_var {i : Nat} {x : Str} (hN : X.N[i]? = some x) (hv : Vis X.env.scope x) (hd : (x == ("__debug__" : Str)) = false := by decide) (hcd : (x == ("__classdict__" : Str)) = false := by decide) : DE X (.Name x pos) (dVar i) :=
  ⟨fun _ _ _ _ _ hQ _ ⟨d, e, h⟩ => ⟨d, e, hQ _ _ h⟩, fun W tk => ⟨_, pe_var hN hv hd hcd, fun R F σ H ρ Q r ⟨d, e, hq⟩ => by
    obtain ⟨v, h1, h2⟩ := r.fz i d e
    exact ⟨v, h1, hq F H v (Same.refl F) r h2⟩⟩⟩
theorem de_frz {i : Nat} {x : Str} (hN : X.N[i]? = some x) (hv : Vis X.env.scope x) (hd : (x == ("__debug__" : Str)) = false := by decide) (hcd : (x == ("__classdict__" : Str)) = false := by decide) : DE X (.Name x pos) (dFrz i) :=
  ⟨fun _ _ _ _ _ hQ _ h => h.imp (fun ⟨a, xs, e, h⟩ => ⟨a, xs, e, hQ _ _ h⟩) (fun ⟨d, e, h⟩ => ⟨d, e, hQ _ _ h⟩), fun W tk => ⟨_, pe_var hN hv hd hcd, fun R F σ H ρ Q r h => by
    rcases h with ⟨a, xs, e, hq⟩ | ⟨d, e, hq⟩
    · obtain ⟨F', s, r', dv, h1⟩ := r.freeze e
      exact ⟨_, h1, hq F' H _ s r' dv⟩
    · obtain ⟨v, h1, h2⟩ := r.fz i d e
      exact ⟨v, h1, hq F H v (Same.refl F) r h2⟩⟩⟩
/-- a global that is an object: a def, a class, a built-in type -/
theorem de_glob {x : Str} {v : V} {u : Value} (hg : Gl X x) (hm : X.mg x = some u) (r : RelV v u) (hd : (x == ("__debug__" : Str)) = false := by decide) : DE X (.Name x pos) (dC (.ob v)) := de_const (pe_glob hg hm r hd) fun _ _ => .ob v
/-- a module's constant that is plain data -/
theorem de_globD {x : Str} {v : V} {u : Value} {d : D} (hg : Gl X x) (hm : X.mg x = some u) (r : RelV v u) (hd : (x == ("__debug__" : Str)) = false := by decide) (dv : ∀ F, Dv X.K F v d) : DE X (.Name x pos) (dC d) :=
  ⟨fun _ _ _ _ _ hQ _ h => hQ _ _ h, fun W tk => ⟨_, pe_glob hg hm r hd, fun R F σ H ρ Q r hq => hq F H v (Same.refl F) r (dv _)⟩⟩
end

/-! ### operators by values -/
abbrev G2 := D → D → (D → Prop) → Prop
abbrev GA := List D → (D → Prop) → Prop
/-- the rule r of the machine gives what g says of data -/
def OpD (K : PySem.W.Frag) (r : R2) (g : G2) : Prop := ∀ F H x y dx dy (Q : VK), Same F H → Dv K F x dx → Dv K F y dy → g dx dy (fun d => (∀ v, Dv K F v d → Q v H) ∧ ∀ p o, H p = none → (∀ ps, o ≠ .tbl ps) → Dv K (upd F p o) (.ref p) d → Q (.ref p) (upd H p o)) → r x y H Q
/-- .. the data may be there already (at once) or be new (at p) -/
structure DOp (X : Cx) (f : Value → Value → Sem Value) (g : G2) : Prop where
  mono : ∀ x y (Q Q' : D → Prop), (∀ d, Q d → Q' d) → g x y Q → g x y Q'
  run : ∃ r, OpR X f r ∧ OpD X.K r g
structure DCall (X : Cx) (f : Value) (g : GA) : Prop where
  mono : ∀ x (Q Q' : D → Prop), (∀ d, Q d → Q' d) → g x Q → g x Q'
  run : ∃ r : List V → Hp → VK → Prop, CallR X f r ∧ ∀ F H xs ds (Q : VK), Same F H → DvA X.K F xs ds → g ds (fun d => (∀ v, Dv X.K F v d → Q v H) ∧ ∀ p o, H p = none → (∀ ps, o ≠ .tbl ps) → Dv X.K (upd F p o) (.ref p) d → Q (.ref p) (upd H p o)) → r xs H Q
/-- what is wanted behind an operation, from what is wanted of data -/
theorem up_fin {K : PySem.W.Frag} {R F F1 : Hp} {ρ : Env} {σ : L2.St} {H : Hp} {Q : VK} {d : D} (s : Same F F1) (r : Rel K R F1 ρ σ H) (h : upE K R F σ Q d ρ) :
    (∀ v, Dv K F1 v d → Q v H) ∧ ∀ p o, H p = none → (∀ ps, o ≠ .tbl ps) → Dv K (upd F1 p o) (.ref p) d → Q (.ref p) (upd H p o) :=
  ⟨fun v dv => h F1 H v s r dv, fun p o hp nt dv => by
    obtain ⟨s2, r2⟩ := r.alloc (o := o) hp nt
    exact h _ _ _ (s.trans s2) r2 dv⟩

def dOp (g : G2) (fa fb : We) : We := fun ρ Q E => fa ρ (fun x ρ1 => fb ρ1 (fun y ρ2 => g x y fun d => Q d ρ2) E) E
section
variable {X : Cx} {a b e : Expr} {fa fb : We} {pos : Pos} {g : G2}
/-- two expressions in a row -/
theorem two_run {W : WX} (ha : DE X a fa) (hb : DE X b fb) (tk : Takes X W) : ∃ ta tb, PE X a ta ∧ PE X b tb ∧ ∀ R F σ H ρ (P : D → D → Env → Prop) (T : V → V → Hp → Prop), Rel X.K R F ρ σ H →
    (∀ dx dy ρ2 F2 H2 x y, P dx dy ρ2 → Same F F2 → Rel X.K R F2 ρ2 σ H2 → Dv X.K F2 x dx → Dv X.K F2 y dy → T x y H2) →
    fa ρ (fun x ρ1 => fb ρ1 (fun y ρ2 => P x y ρ2) (upX X.K R F σ W)) (upX X.K R F σ W) → ta σ H fun x H1 => tb σ H1 fun y H2 => T x y H2 := by
  obtain ⟨ta, pa, ka⟩ := ha.run W tk
  obtain ⟨tb, pb, kb⟩ := hb.run W tk
  refine ⟨ta, tb, pa, pb, fun R F σ H ρ P T r hT h => ?_⟩
  refine ka R F σ H ρ _ r (ha.mono _ _ _ _ _ (fun dx ρ1 h1 F1 H1 x s1 r1 d1 => ?_) (fun _ _ z => z) h)
  refine kb R F1 σ H1 ρ1 _ r1 (hb.mono _ _ _ _ _ (fun dy ρ2 h2 F2 H2 y s2 r2 d2 => ?_) (upX.mono s1) h1)
  exact hT dx dy ρ2 F2 H2 x y h2 (s1.trans s2) r2 (d1.mono s2) d2
theorem dOp_mono (hg : ∀ x y (Q Q' : D → Prop), (∀ d, Q d → Q' d) → g x y Q → g x y Q') (ma : MonoE fa) (mb : MonoE fb) : MonoE (dOp g fa fb) := fun ρ Q Q' E E' hQ hE h =>
  ma ρ _ _ _ _ (fun x ρ1 h1 => mb ρ1 _ _ _ _ (fun y ρ2 h2 => hg x y _ _ (fun d h3 => hQ d ρ2 h3) h2) hE h1) hE h
theorem de_op {op : Operator} (ho : DOp X (binaryOp op) g) (ha : DE X a fa) (hb : DE X b fb) : DE X (.BinOp a op b pos) (dOp g fa fb) := by
  refine ⟨dOp_mono ho.mono ha.mono hb.mono, fun W tk => ?_⟩
  obtain ⟨r, hr, hd⟩ := ho.run
  obtain ⟨ta, tb, pa, pb, k⟩ := two_run ha hb tk
  refine ⟨_, pe_op hr pa pb, fun R F σ H ρ Q rl h => ?_⟩
  refine k R F σ H ρ (fun x y ρ2 => g x y fun d => upE X.K R F σ Q d ρ2) (fun x y H2 => r x y H2 Q) rl (fun dx dy ρ2 F2 H2 x y hP s2 r2 d1 d2 => ?_) h
  exact hd F2 H2 x y dx dy Q r2.sF d1 d2 (ho.mono dx dy _ _ (fun d hq => up_fin s2 r2 hq) hP)
theorem de_cmp {op : CmpOp} (ho : DOp X (compareOp op) g) (ha : DE X a fa) (hb : DE X b fb) (hm : behindInMarks op b = false) : DE X (.Compare a [op] [b] pos) (dOp g fa fb) := by
  refine ⟨dOp_mono ho.mono ha.mono hb.mono, fun W tk => ?_⟩
  obtain ⟨r, hr, hd⟩ := ho.run
  obtain ⟨ta, tb, pa, pb, k⟩ := two_run ha hb tk
  refine ⟨_, pe_cmpR hr pa pb hm, fun R F σ H ρ Q rl h => ?_⟩
  refine k R F σ H ρ (fun x y ρ2 => g x y fun d => upE X.K R F σ Q d ρ2) (fun x y H2 => r x y H2 Q) rl (fun dx dy ρ2 F2 H2 x y hP s2 r2 d1 d2 => ?_) h
  exact hd F2 H2 x y dx dy Q r2.sF d1 d2 (ho.mono dx dy _ _ (fun d hq => up_fin s2 r2 hq) hP)
/-- an expression's truth value, for a test -/
def dTest (f : We) : Wt := fun ρ Q E => f ρ (fun d ρ1 => ∃ b, d = .bl b ∧ Q b ρ1) E
theorem dTest_mono {f : We} (m : MonoE f) : MonoT (dTest f) := fun ρ Q Q' E E' hQ hE h => m ρ _ _ _ _ (fun d ρ1 ⟨b, e, h1⟩ => ⟨b, e, hQ b ρ1 h1⟩) hE h
theorem upE_test {K : PySem.W.Frag} {R F : Hp} {σ : L2.St} {Q : Bool → Hp → Prop} {d : D} {ρ : Env} (h : ∃ b, d = .bl b ∧ upT K R F σ Q b ρ) : upE K R F σ (fun x H' => ∃ k, x = .bl k ∧ Q k H') d ρ := by
  obtain ⟨b, rfl, h⟩ := h
  intro F' H' v s r dv
  cases dv
  exact ⟨b, rfl, h F' H' s r⟩
theorem dt_val {f : We} (h : DE X e f) (he : ∀ whole, isTrue e X.env whole = (do let v ← whole; standAt e.pos; holding [v] (truthy v)) := by intro _; rfl) : DT X e (dTest f) := by
  refine ⟨dTest_mono h.mono, fun W tk => ?_⟩
  obtain ⟨t, p, k⟩ := h.run W tk
  refine ⟨_, pt_val p he, fun R F σ H ρ Q rl hw => k R F σ H ρ _ rl (h.mono _ _ _ _ _ (fun d ρ1 => upE_test) (fun _ _ z => z) hw)⟩
theorem dt_cmp {op : CmpOp} (ho : DOp X (compareOp op) g) (ha : DE X a fa) (hb : DE X b fb) (hm : behindInMarks op b = false) : DT X (.Compare a [op] [b] pos) (dTest (dOp g fa fb)) := by
  refine ⟨dTest_mono (dOp_mono ho.mono ha.mono hb.mono), fun W tk => ?_⟩
  obtain ⟨r, hr, hd⟩ := ho.run
  obtain ⟨ta, tb, pa, pb, k⟩ := two_run ha hb tk
  refine ⟨_, pt_cmpR hr pa pb hm, fun R F σ H ρ Q rl h => ?_⟩
  refine k R F σ H ρ (fun x y ρ2 => g x y fun d => ∃ c, d = .bl c ∧ upT X.K R F σ Q c ρ2) (fun x y H2 => r x y H2 fun x H' => ∃ k, x = .bl k ∧ Q k H') rl (fun dx dy ρ2 F2 H2 x y hP s2 r2 d1 d2 => ?_) h
  exact hd F2 H2 x y dx dy _ r2.sF d1 d2 (ho.mono dx dy _ _ (fun d hq => up_fin s2 r2 (upE_test hq)) hP)
end

/-! ### arguments, tuples, lists -/
def dNil : Wa := fun ρ Q _ => Q [] ρ
def dCons (f : We) (g : Wa) : Wa := fun ρ Q E => f ρ (fun x ρ1 => g ρ1 (fun xs ρ2 => Q (x :: xs) ρ2) E) E
/-- *e -/
def itemsD : D → Option (List D)
  | .tup xs => some xs
  | .lst xs => some xs
  | .ro xs => some xs
  | _ => none
def dStar (f : We) (g : Wa) : Wa := fun ρ Q E => f ρ (fun x ρ1 => ∃ ys, itemsD x = some ys ∧ g ρ1 (fun xs ρ2 => Q (ys ++ xs) ρ2) E) E
theorem items_of {K : PySem.W.Frag} {F : Hp} {v : V} {d : D} {ys : List D} (h : Dv K F v d) (e : itemsD d = some ys) : ∃ a xs, v = .ref a ∧ (SqT K F a xs ∨ SqL K F a xs) ∧ DvA K F xs ys := by
  cases h with
  | tup h a => cases e; exact ⟨_, _, rfl, .inl h, a⟩
  | lst h a => cases e; exact ⟨_, _, rfl, .inr (SqL.of h), a⟩
  | ro h a => cases e; exact ⟨_, _, rfl, .inr h, a⟩
  | _ => cases e
section
variable {X : Cx} {e : Expr} {es : List Expr} {f : We} {g : Wa} {pos : Pos}
theorem da_nil : DA X [] dNil := ⟨fun _ _ _ _ _ hQ _ h => hQ _ _ h, fun W tk => ⟨_, pa_nil, fun R F σ H ρ Q r h => h F H [] (Same.refl F) r .nil⟩⟩
theorem dCons_mono (m : MonoE f) (m2 : MonoA g) : MonoA (dCons f g) := fun ρ Q Q' E E' hQ hE h => m ρ _ _ _ _ (fun x ρ1 h1 => m2 ρ1 _ _ _ _ (fun xs ρ2 h2 => hQ _ _ h2) hE h1) hE h
theorem da_cons (h : DE X e f) (hr : DA X es g) (hs : starEach (e :: es) X.env = (false, eval e X.env) :: starEach es X.env := by rfl) : DA X (e :: es) (dCons f g) := by
  refine ⟨dCons_mono h.mono hr.mono, fun W tk => ?_⟩
  obtain ⟨ta, pa, ka⟩ := h.run W tk
  obtain ⟨tb, pb, kb⟩ := hr.run W tk
  refine ⟨_, pa_cons pa pb hs, fun R F σ H ρ Q r hw => ?_⟩
  refine ka R F σ H ρ _ r (h.mono _ _ _ _ _ (fun dx ρ1 h1 F1 H1 x s1 r1 d1 => ?_) (fun _ _ z => z) hw)
  refine kb R F1 σ H1 ρ1 _ r1 (hr.mono _ _ _ _ _ (fun ds ρ2 h2 F2 H2 xs s2 r2 d2 => ?_) (upX.mono s1) h1)
  exact h2 F2 H2 _ (s1.trans s2) r2 (.cons (d1.mono s2) d2)
theorem da_star {p : Pos} (h : DE X e f) (hr : DA X es g) (hs : starEach (.Starred e p :: es) X.env = (true, eval e X.env) :: starEach es X.env := by rfl) : DA X (.Starred e p :: es) (dStar f g) := by
  refine ⟨fun ρ Q Q' E E' hQ hE hw => h.mono ρ _ _ _ _ (fun x ρ1 ⟨ys, e1, h1⟩ => ⟨ys, e1, hr.mono ρ1 _ _ _ _ (fun xs ρ2 h2 => hQ _ _ h2) hE h1⟩) hE hw, fun W tk => ?_⟩
  obtain ⟨ta, pa, ka⟩ := h.run W tk
  obtain ⟨tb, pb, kb⟩ := hr.run W tk
  refine ⟨_, StX.pa_star pa pb hs, fun R F σ H ρ Q r hw => ?_⟩
  refine ka R F σ H ρ _ r (h.mono _ _ _ _ _ (fun dx ρ1 ⟨ys, e1, h1⟩ F1 H1 x s1 r1 d1 => ?_) (fun _ _ z => z) hw)
  obtain ⟨a, xs, rfl, hx, hy⟩ := items_of d1 e1
  refine ⟨a, xs, rfl, hx.elim (fun z => .inl (Same.seqT r1.sF z)) (fun z => .inr (r1.sF.seq z)), ?_⟩
  refine kb R F1 σ H1 ρ1 _ r1 (hr.mono _ _ _ _ _ (fun ds ρ2 h2 F2 H2 zs s2 r2 d2 => ?_) (upX.mono s1) h1)
  exact h2 F2 H2 _ (s1.trans s2) r2 ((hy.mono s2).append d2)
def dTup (g : Wa) : We := fun ρ Q E => g ρ (fun xs ρ1 => xs.length ≤ sizeLine ∧ Q (.tup xs) ρ1) E
def dLst (g : Wa) : We := fun ρ Q E => g ρ (fun xs ρ1 => xs.length ≤ sizeLine ∧ Q (.lst xs) ρ1) E
theorem de_tup {k : Nat} (h : DA X es g) : DE X (.Tuple es k pos) (dTup g) := by
  refine ⟨fun ρ Q Q' E E' hQ hE hw => h.mono ρ _ _ _ _ (fun x ρ1 ⟨h1, h2⟩ => ⟨h1, hQ _ _ h2⟩) hE hw, fun W tk => ?_⟩
  obtain ⟨ta, pa, ka⟩ := h.run W tk
  refine ⟨_, pe_tup pa, fun R F σ H ρ Q r hw => ka R F σ H ρ _ r (h.mono _ _ _ _ _ (fun ds ρ1 ⟨h1, h2⟩ F1 H1 xs s1 r1 d1 => ?_) (fun _ _ z => z) hw)⟩
  refine ⟨by rw [d1.length]; exact h1, fun p hp => (up_fin s1 r1 h2).2 p _ hp (fun _ z => by cases z) (.tup (SqT.of upd_same) (d1.mono (same_upd (Same.free r1.sF hp))))⟩
end

/-! ### and, or, not, if -/
section
variable {X : Cx} {a b e : Expr} {rest : List Expr} {fa fb : We} {ta tb : Wt} {pos : Pos}
/-- a known truth value is chosen by -/
inductive Ite (b : Bool) (P Q : Prop) : Prop
  | mk (t : b = true → P) (f : b = false → Q)
theorem Ite.tt {P Q : Prop} (h : P) : Ite true P Q := ⟨fun _ => h, fun z => Bool.noConfusion z⟩
theorem Ite.ff {P Q : Prop} (h : Q) : Ite false P Q := ⟨fun z => Bool.noConfusion z, fun _ => h⟩
theorem Ite.dec {p : Prop} [Decidable p] {P Q : Prop} (t : p → P) (f : ¬ p → Q) : Ite (decide p) P Q := ⟨fun h => t (of_decide_eq_true h), fun h => f (of_decide_eq_false h)⟩
theorem Ite.imp {b : Bool} {P Q P' Q' : Prop} (h : Ite b P Q) (t : P → P') (f : Q → Q') : Ite b P' Q' := h.casesOn fun h1 h2 => ⟨fun z => t (h1 z), fun z => f (h2 z)⟩
theorem Ite.out {b : Bool} {P Q : Prop} (h : Ite b P Q) : if b = true then P else Q := by
  obtain ⟨h1, h2⟩ := h
  cases b with
  | true => exact h1 rfl
  | false => exact h2 rfl
def dAnd (ta tb : Wt) : Wt := fun ρ Q E => ta ρ (fun b ρ1 => Ite b (tb ρ1 Q E) (Q false ρ1)) E
def dOr (ta tb : Wt) : Wt := fun ρ Q E => ta ρ (fun b ρ1 => Ite b (Q true ρ1) (tb ρ1 Q E)) E
def dNot (ta : Wt) : Wt := fun ρ Q E => ta ρ (fun b ρ1 => Q (!b) ρ1) E
theorem dw_and1 (h : DT X a ta) : DW X (.BoolOp .And [a] pos) ta := ⟨h.mono, fun W tk => let ⟨t, p, k⟩ := h.run W tk; ⟨t, pw_and1 p, k⟩⟩
theorem dw_or1 (h : DT X a ta) : DW X (.BoolOp .Or [a] pos) ta := ⟨h.mono, fun W tk => let ⟨t, p, k⟩ := h.run W tk; ⟨t, pw_or1 p, k⟩⟩
theorem dAnd_mono (ma : MonoT ta) (mb : MonoT tb) : MonoT (dAnd ta tb) := fun ρ Q Q' E E' hQ hE h => ma ρ _ _ _ _ (fun b ρ1 h1 => h1.imp (fun z => mb ρ1 _ _ _ _ hQ hE z) (fun z => hQ _ _ z)) hE h
theorem dOr_mono (ma : MonoT ta) (mb : MonoT tb) : MonoT (dOr ta tb) := fun ρ Q Q' E E' hQ hE h => ma ρ _ _ _ _ (fun b ρ1 h1 => h1.imp (fun z => hQ _ _ z) (fun z => mb ρ1 _ _ _ _ hQ hE z)) hE h
theorem dw_and (h : DT X a ta) (hb : DW X (.BoolOp .And (b :: rest) pos) tb) : DW X (.BoolOp .And (a :: b :: rest) pos) (dAnd ta tb) := by
  refine ⟨dAnd_mono h.mono hb.mono, fun W tk => ?_⟩
  obtain ⟨t1, p1, k1⟩ := h.run W tk
  obtain ⟨t2, p2, k2⟩ := hb.run W tk
  refine ⟨_, pw_and p1 p2, fun R F σ H ρ Q r hw => k1 R F σ H ρ _ r (h.mono _ _ _ _ _ (fun b ρ1 h1 F1 H1 s1 r1 => ?_) (fun _ _ z => z) hw)⟩
  refine (h1.imp (fun z => ?_) (fun z => ?_)).out
  · exact k2 R F1 σ H1 ρ1 Q r1 (hb.mono _ _ _ _ _ (fun b ρ2 h2 F2 H2 s2 r2 => h2 F2 H2 (s1.trans s2) r2) (upX.mono s1) z)
  · exact z F1 H1 s1 r1
theorem dw_or (h : DT X a ta) (hb : DW X (.BoolOp .Or (b :: rest) pos) tb) : DW X (.BoolOp .Or (a :: b :: rest) pos) (dOr ta tb) := by
  refine ⟨dOr_mono h.mono hb.mono, fun W tk => ?_⟩
  obtain ⟨t1, p1, k1⟩ := h.run W tk
  obtain ⟨t2, p2, k2⟩ := hb.run W tk
  refine ⟨_, pw_or p1 p2, fun R F σ H ρ Q r hw => k1 R F σ H ρ _ r (h.mono _ _ _ _ _ (fun b ρ1 h1 F1 H1 s1 r1 => ?_) (fun _ _ z => z) hw)⟩
  refine (h1.imp (fun z => ?_) (fun z => ?_)).out
  · exact z F1 H1 s1 r1
  · exact k2 R F1 σ H1 ρ1 Q r1 (hb.mono _ _ _ _ _ (fun b ρ2 h2 F2 H2 s2 r2 => h2 F2 H2 (s1.trans s2) r2) (upX.mono s1) z)
theorem dt_w (h : DW X e ta) : DT X e ta := ⟨h.mono, fun W tk => let ⟨t, p, k⟩ := h.run W tk; ⟨t, p.pt, k⟩⟩
theorem dt_not (h : DT X a ta) : DT X (.UnaryOp .Not a pos) (dNot ta) := by
  refine ⟨fun ρ Q Q' E E' hQ hE hw => h.mono ρ _ _ _ _ (fun b ρ1 h1 => hQ _ _ h1) hE hw, fun W tk => ?_⟩
  obtain ⟨t1, p1, k1⟩ := h.run W tk
  exact ⟨_, pt_not p1, fun R F σ H ρ Q r hw => k1 R F σ H ρ _ r hw⟩
/-- .. as values: all but the last one are truth values -/
def dAndV (fa fb : We) : We := fun ρ Q E => fa ρ (fun d ρ1 => ∃ b, d = .bl b ∧ Ite b (fb ρ1 Q E) (Q (.bl false) ρ1)) E
def dOrV (fa fb : We) : We := fun ρ Q E => fa ρ (fun d ρ1 => ∃ b, d = .bl b ∧ Ite b (Q (.bl true) ρ1) (fb ρ1 Q E)) E
def dNotV (fa : We) : We := fun ρ Q E => fa ρ (fun d ρ1 => ∃ b, d = .bl b ∧ Q (.bl (!b)) ρ1) E
theorem de_one {op} (h : DE X a fa) : DE X (.BoolOp op [a] pos) fa := ⟨h.mono, fun W tk => let ⟨t, p, k⟩ := h.run W tk; ⟨t, pe_one p, k⟩⟩
theorem de_and (h : DE X a fa) (hb : DE X (.BoolOp .And (b :: rest) pos) fb) : DE X (.BoolOp .And (a :: b :: rest) pos) (dAndV fa fb) := by
  refine ⟨fun ρ Q Q' E E' hQ hE hw => h.mono ρ _ _ _ _ (fun d ρ1 ⟨b, e, h1⟩ => ⟨b, e, h1.imp (fun z => hb.mono ρ1 _ _ _ _ hQ hE z) (fun z => hQ _ _ z)⟩) hE hw, fun W tk => ?_⟩
  obtain ⟨t1, p1, k1⟩ := h.run W tk
  obtain ⟨t2, p2, k2⟩ := hb.run W tk
  refine ⟨_, pe_and p1 p2, fun R F σ H ρ Q r hw => k1 R F σ H ρ _ r (h.mono _ _ _ _ _ (fun d ρ1 ⟨b, e, h1⟩ F1 H1 v s1 r1 dv => ?_) (fun _ _ z => z) hw)⟩
  subst e
  cases dv
  refine ⟨b, rfl, (h1.imp (fun z => ?_) (fun z => ?_)).out⟩
  · exact k2 R F1 σ H1 ρ1 Q r1 (hb.mono _ _ _ _ _ (upE.mono s1) (upX.mono s1) z)
  · exact z F1 H1 _ s1 r1 (.bl false)
theorem de_or (h : DE X a fa) (hb : DE X (.BoolOp .Or (b :: rest) pos) fb) : DE X (.BoolOp .Or (a :: b :: rest) pos) (dOrV fa fb) := by
  refine ⟨fun ρ Q Q' E E' hQ hE hw => h.mono ρ _ _ _ _ (fun d ρ1 ⟨b, e, h1⟩ => ⟨b, e, h1.imp (fun z => hQ _ _ z) (fun z => hb.mono ρ1 _ _ _ _ hQ hE z)⟩) hE hw, fun W tk => ?_⟩
  obtain ⟨t1, p1, k1⟩ := h.run W tk
  obtain ⟨t2, p2, k2⟩ := hb.run W tk
  refine ⟨_, pe_or p1 p2, fun R F σ H ρ Q r hw => k1 R F σ H ρ _ r (h.mono _ _ _ _ _ (fun d ρ1 ⟨b, e, h1⟩ F1 H1 v s1 r1 dv => ?_) (fun _ _ z => z) hw)⟩
  subst e
  cases dv
  refine ⟨b, rfl, (h1.imp (fun z => ?_) (fun z => ?_)).out⟩
  · exact z F1 H1 _ s1 r1 (.bl true)
  · exact k2 R F1 σ H1 ρ1 Q r1 (hb.mono _ _ _ _ _ (upE.mono s1) (upX.mono s1) z)
theorem de_not (h : DE X a fa) : DE X (.UnaryOp .Not a pos) (dNotV fa) := by
  refine ⟨fun ρ Q Q' E E' hQ hE hw => h.mono ρ _ _ _ _ (fun d ρ1 ⟨b, e, h1⟩ => ⟨b, e, hQ _ _ h1⟩) hE hw, fun W tk => ?_⟩
  obtain ⟨t1, p1, k1⟩ := h.run W tk
  refine ⟨_, pe_not p1, fun R F σ H ρ Q r hw => k1 R F σ H ρ _ r (h.mono _ _ _ _ _ (fun d ρ1 ⟨b, e, h1⟩ F1 H1 v s1 r1 dv => ?_) (fun _ _ z => z) hw)⟩
  subst e
  cases dv
  exact ⟨b, rfl, h1 F1 H1 _ s1 r1 (.bl _)⟩
def dIf (tc : Wt) (fa fb : We) : We := fun ρ Q E => tc ρ (fun b ρ1 => Ite b (fa ρ1 Q E) (fb ρ1 Q E)) E
theorem de_if {c : Expr} {tc : Wt} (hc : DT X c tc) (ha : DE X a fa) (hb : DE X b fb) : DE X (.IfExp c a b pos) (dIf tc fa fb) := by
  refine ⟨fun ρ Q Q' E E' hQ hE hw => hc.mono ρ _ _ _ _ (fun d ρ1 h1 => h1.imp (fun z => ha.mono ρ1 _ _ _ _ hQ hE z) (fun z => hb.mono ρ1 _ _ _ _ hQ hE z)) hE hw, fun W tk => ?_⟩
  obtain ⟨t0, p0, k0⟩ := hc.run W tk
  obtain ⟨t1, p1, k1⟩ := ha.run W tk
  obtain ⟨t2, p2, k2⟩ := hb.run W tk
  refine ⟨_, pe_ifExp p0 p1 p2, fun R F σ H ρ Q r hw => k0 R F σ H ρ _ r (hc.mono _ _ _ _ _ (fun b ρ1 h1 F1 H1 s1 r1 => ?_) (fun _ _ z => z) hw)⟩
  refine (h1.imp (fun z => ?_) (fun z => ?_)).out
  · exact k1 R F1 σ H1 ρ1 Q r1 (ha.mono _ _ _ _ _ (upE.mono s1) (upX.mono s1) z)
  · exact k2 R F1 σ H1 ρ1 Q r1 (hb.mono _ _ _ _ _ (upE.mono s1) (upX.mono s1) z)
end

/-! ### statements -/
section
variable {X : Cx} {st : Stmt} {rest : List Stmt} {g g2 : Ws} {e : Expr} {f : We} {pos : Pos}
def dSkip : Ws := fun ρ D => D.nx ρ
def dSeq (g g2 : Ws) : Ws := fun ρ D => g ρ { D with nx := fun ρ' => g2 ρ' D }
theorem dSeq_mono (m : MonoS g) (m2 : MonoS g2) : MonoS (dSeq g g2) := fun ρ D D' l h => m ρ { D with nx := fun ρ' => g2 ρ' D } { D' with nx := fun ρ' => g2 ρ' D' } ⟨fun ρ1 z => m2 ρ1 D D' l z, l.rt, l.bk, l.ct, l.ex, l.rn⟩ h
theorem dss_nil : DSs X [] dSkip := ⟨fun ρ D D' l h => l.nx _ h, fun W tk => ⟨_, pss_nil, fun R F σ H ρ D r h => h F σ H (Same.refl F) r⟩⟩
theorem dss_cons (h : DS X st g) (hr : DSs X rest g2) : DSs X (st :: rest) (dSeq g g2) := by
  refine ⟨dSeq_mono h.mono hr.mono, fun W tk => ?_⟩
  obtain ⟨t1, p1, k1⟩ := h.run W tk
  obtain ⟨t2, p2, k2⟩ := hr.run W tk
  refine ⟨_, pss_cons p1 p2, fun R F σ H ρ D r hw => k1 R F σ H ρ { D with nx := t2 D } r (h.mono _ { upS X.K R F W D with nx := fun ρ' => g2 ρ' (upS X.K R F W D) } _ ⟨fun ρ1 z F1 σ1 H1 s1 r1 => ?_, fun _ _ z => z, fun _ z => z, fun _ z => z, fun _ _ z => z, fun _ _ z => z⟩ hw)⟩
  exact k2 R F1 σ1 H1 ρ1 D r1 (hr.mono _ _ _ (upS.mono s1) z)
theorem dss_one (h : DS X st g) : DSs X [st] g := ⟨h.mono, fun W tk => let ⟨t, p, k⟩ := h.run W tk; ⟨t, pss_one p, k⟩⟩
def dBrk : Ws := fun ρ D => D.bk ρ
def dCnt : Ws := fun ρ D => D.ct ρ
def dExpr (f : We) : Ws := fun ρ D => f ρ (fun _ ρ1 => D.nx ρ1) D.ex
theorem ds_expr (h : DE X e f) (hs : swapsWith e none pos.line X.env = pure false := by rfl) : DS X (.Expr e pos) (dExpr f) := by
  refine ⟨fun ρ D D' l hw => h.mono ρ _ _ _ _ (fun _ ρ1 z => l.nx _ z) l.ex hw, fun W tk => ?_⟩
  obtain ⟨t, p, k⟩ := h.run W tk
  refine ⟨_, ps_expr p hs, fun R F σ H ρ D r hw => k R F σ H ρ _ r (h.mono _ _ _ _ _ (fun d ρ1 z F1 H1 v s1 r1 dv => z F1 σ H1 s1 r1) upS.exX hw)⟩
def dRet (f : We) : Ws := fun ρ D => f ρ D.rt D.ex
theorem ds_ret (h : DE X e f) : DS X (.Return (some e) pos) (dRet f) := by
  refine ⟨fun ρ D D' l hw => h.mono ρ _ _ _ _ l.rt l.ex hw, fun W tk => ?_⟩
  obtain ⟨t, p, k⟩ := h.run W tk
  refine ⟨_, ps_ret p, fun R F σ H ρ D r hw => k R F σ H ρ _ r (h.mono _ _ _ _ _ (fun d ρ1 z F1 H1 v s1 r1 dv => z F1 σ H1 v s1 r1 dv) upS.exX hw)⟩
def dRetN : Ws := fun ρ D => D.rt .non ρ
def dIfS (tc : Wt) (g g2 : Ws) : Ws := fun ρ D => tc ρ (fun b ρ1 => Ite b (g ρ1 D) (g2 ρ1 D)) D.ex
theorem ds_if {c : Expr} {tc : Wt} {a b : List Stmt} (hc : DT X c tc) (ha : DSs X a g) (hb : DSs X b g2) : DS X (.If c a b pos) (dIfS tc g g2) := by
  refine ⟨fun ρ D D' l hw => hc.mono ρ _ _ _ _ (fun b ρ1 z => z.imp (fun z => ha.mono _ _ _ l z) (fun z => hb.mono _ _ _ l z)) l.ex hw, fun W tk => ?_⟩
  obtain ⟨t0, p0, k0⟩ := hc.run W tk
  obtain ⟨t1, p1, k1⟩ := ha.run W tk
  obtain ⟨t2, p2, k2⟩ := hb.run W tk
  refine ⟨_, ps_if p0 p1 p2, fun R F σ H ρ D r hw => k0 R F σ H ρ _ r (hc.mono _ _ _ _ _ (fun b ρ1 h1 F1 H1 s1 r1 => ?_) upS.exX hw)⟩
  refine (h1.imp (fun z => ?_) (fun z => ?_)).out
  · exact k1 R F1 σ H1 ρ1 D r1 (ha.mono _ _ _ (upS.mono s1) z)
  · exact k2 R F1 σ H1 ρ1 D r1 (hb.mono _ _ _ (upS.mono s1) z)
/-- code that is never reached -/
def dNever : Ws := fun _ _ => False
theorem ds_never : DS X st dNever := ⟨fun _ _ _ _ h => h, fun W tk => ⟨_, ps_never, fun _ _ _ _ _ _ _ h => h⟩⟩
/-- targets -/
def gN (i : Nat) : Wg := fun d ρ Q => Q (ρ.set i (some (.fz d)))
theorem dg_name {i : Nat} {x : Str} (hN : X.N.Nodup) (hi : X.N[i]? = some x) (hx : Loc X.env.scope x) (hf : X.fn x = true ∨ X.env.scope.names.lookup x = some .local := by first | exact .inl rfl | exact .inr rfl | assumption) : DG X (.Name x pos) [i] (gN i) :=
  ⟨fun d ρ Q Q' hQ h => hQ _ h, ⟨_, pg_name hN hi hx hf, fun R F σ H ρ v d Q r dv h => h F _ H (Same.refl F) (r.setF dv) (Off.set σ i _)⟩⟩
def gsNil : Wgs := fun ds ρ Q => ds = [] ∧ Q ρ
def gsCons (g : Wg) (gs : Wgs) : Wgs := fun ds ρ Q => ∃ d r, ds = d :: r ∧ g d ρ fun ρ1 => gs r ρ1 Q
theorem dgs_nil : DGs X [] [] gsNil := ⟨fun d ρ Q Q' hQ h => ⟨h.1, hQ _ h.2⟩, ⟨_, pgs_nil, fun R F σ H ρ vs ds Q r dv h => by
  obtain ⟨rfl, h⟩ := h
  cases dv
  exact ⟨rfl, h F σ H (Same.refl F) r (Off.refl σ)⟩⟩⟩
theorem dgs_cons {es : List Expr} {g : Wg} {gs : Wgs} {is js : List Nat} (h1 : DG X e is g) (h2 : DGs X es js gs) (hs : (assignEach (e :: es) X.env).map (·.2) = assign e X.env :: (assignEach es X.env).map (·.2) := by rfl) : DGs X (e :: es) (is ++ js) (gsCons g gs) := by
  refine ⟨fun ds ρ Q Q' hQ ⟨d, r, e, h⟩ => ⟨d, r, e, h1.mono _ _ _ _ (fun ρ1 z => h2.mono _ _ _ _ hQ z) h⟩, ?_⟩
  obtain ⟨t1, p1, k1⟩ := h1.run
  obtain ⟨t2, p2, k2⟩ := h2.run
  refine ⟨_, pgs_cons p1 p2 hs, fun R F σ H ρ vs ds Q r dv ⟨d, rs, ed, h⟩ => ?_⟩
  subst ed
  cases dv with
  | cons d1 d2 =>
    refine ⟨_, _, rfl, k1 R F σ H ρ _ _ _ r d1 (h1.mono _ _ _ _ (fun ρ1 z F1 σ1 H1 s1 r1 o1 => ?_) h)⟩
    exact k2 R F1 σ1 H1 ρ1 _ _ Q r1 (d2.mono s1) (h2.mono _ _ _ _ (fun ρ2 z2 F2 σ2 H2 s2 r2 o2 => z2 F2 σ2 H2 (s1.trans s2) r2 (o1.trans o2)) z)
/-- (a, b, ..) = a tuple of that length -/
def gT (n : Nat) (gs : Wgs) : Wg := fun d ρ Q => ∃ xs, d = .tup xs ∧ xs.length = n ∧ gs xs ρ Q
theorem dg_tup {es : List Expr} {k n : Nat} {gs : Wgs} {is : List Nat} (hc : X.calm = true) (h : DGs X es is gs)
    (hn : (assignEach es X.env).length = n := by rfl) (hst : (assignEach es X.env).findIdx? (·.1) = none := by rfl) : DG X (.Tuple es k pos) is (gT n gs) := by
  refine ⟨fun d ρ Q Q' hQ ⟨xs, e, hl, h1⟩ => ⟨xs, e, hl, h.mono _ _ _ _ hQ h1⟩, ?_⟩
  obtain ⟨t, p, k⟩ := h.run
  refine ⟨_, pg_tup hc p hn hst, fun R F σ H ρ v d Q r dv ⟨xs, e, hl, h1⟩ => ?_⟩
  subst e
  cases dv with
  | tup hq ha => exact ⟨_, _, rfl, Same.seqT r.sF hq, by rw [ha.length]; exact hl, k R F σ H ρ _ _ Q r ha h1⟩
/-- target = e -/
def dAsg (f : We) (g : Wg) : Ws := fun ρ D => f ρ (fun d ρ1 => g d ρ1 D.nx) D.ex
theorem ds_asg {tg : Expr} {g : Wg} {is : List Nat} (he : DE X e f) (hg : DG X tg is g) (hs : swapsWithSole [tg] e pos.line X.env = pure false := by rfl) (hw : swappedStores [tg] e X.env = pure none := by rfl)
    (h1 : (assignEach [tg] X.env).map (·.2) = [assign tg X.env] := by rfl) : DS X (.Assign [tg] e pos) (dAsg f g) := by
  refine ⟨fun ρ D D' l hw => he.mono ρ _ _ _ _ (fun d ρ1 z => hg.mono _ _ _ _ l.nx z) l.ex hw, fun W tk => ?_⟩
  obtain ⟨t1, p1, k1⟩ := he.run W tk
  obtain ⟨t2, p2, k2⟩ := hg.run
  refine ⟨_, ps_asg p1 p2 hs hw h1, fun R F σ H ρ D r hw => k1 R F σ H ρ _ r (he.mono _ _ _ _ _ (fun d ρ1 z F1 H1 v s1 r1 dv => ?_) upS.exX hw)⟩
  exact k2 R F1 σ H1 ρ1 v d _ r1 dv (hg.mono _ _ _ _ (fun ρ2 z2 F2 σ2 H2 s2 r2 _ => z2 F2 σ2 H2 (s1.trans s2) r2) z)
def dSet (i : Nat) (f : We) : Ws := fun ρ D => f ρ (fun d ρ1 => D.nx (ρ1.set i (some (.fz d)))) D.ex
theorem ds_set {i : Nat} {x : Str} {pos' : Pos} (hN : X.N.Nodup) (hi : X.N[i]? = some x) (hx : Loc X.env.scope x) (he : DE X e f) (hs : swapsWith e (some (.Name x pos')) pos.line X.env = pure false := by rfl) (hf : X.fn x = true ∨ X.env.scope.names.lookup x = some .local := by first | exact .inl rfl | exact .inr rfl | assumption) :
    DS X (.Assign [.Name x pos'] e pos) (dSet i f) := by
  refine ⟨fun ρ D D' l hw => he.mono ρ _ _ _ _ (fun d ρ1 z => l.nx _ z) l.ex hw, fun W tk => ?_⟩
  obtain ⟨t1, p1, k1⟩ := he.run W tk
  refine ⟨_, ps_set hN hi hx p1 hs hf, fun R F σ H ρ D r hw => k1 R F σ H ρ _ r (he.mono _ _ _ _ _ (fun d ρ1 z F1 H1 v s1 r1 dv => z F1 _ H1 s1 (r1.setF dv)) upS.exX hw)⟩
end

/-! ### while -/
def dWhile (tc : Wt) (gb : Ws) : Ws := fun ρ D => ∃ I : Nat → Env → Prop, (∃ m, I m ρ) ∧ ∀ m ρ, I m ρ → tc ρ (fun b ρ1 => Ite b (gb ρ1 { D with nx := fun ρ2 => ∃ m', m' < m ∧ I m' ρ2, ct := fun ρ2 => ∃ m', m' < m ∧ I m' ρ2, bk := D.nx }) (D.nx ρ1)) D.ex
section
variable {X : Cx} {pos : Pos}
theorem dWhile_mono {tc : Wt} {gb : Ws} (mc : MonoT tc) (mb : MonoS gb) : MonoS (dWhile tc gb) := fun ρ D D' l ⟨I, h0, h⟩ =>
  ⟨I, h0, fun m ρ hi => mc _ _ _ _ _ (fun b ρ1 z => z.imp (fun z => mb _ { D with nx := fun ρ2 => ∃ m', m' < m ∧ I m' ρ2, ct := fun ρ2 => ∃ m', m' < m ∧ I m' ρ2, bk := D.nx } _ ⟨fun _ z => z, l.rt, l.nx, fun _ z => z, l.ex, l.rn⟩ z) (fun z => l.nx _ z)) l.ex (h m ρ hi)⟩
theorem ds_while {c : Expr} {body : List Stmt} {tc : Wt} {gb : Ws} (hp : PassesOwn (model X.prog X.w) X.A X.env X.xe) (hc : DT X c tc) (hb : DSs X body gb) : DS X (.While c body [] pos) (dWhile tc gb) := by
  refine ⟨dWhile_mono hc.mono hb.mono, fun W tk => ?_⟩
  obtain ⟨t1, p1, k1⟩ := hc.run W tk
  obtain ⟨t2, p2, k2⟩ := hb.run W tk
  refine ⟨_, ps_while hp p1 p2, fun R F σ H ρ D r ⟨I, ⟨m0, h0⟩, h⟩ => ?_⟩
  refine ⟨fun m σ H => ∃ F' ρ, Same F F' ∧ Rel X.K R F' ρ σ H ∧ I m ρ, ⟨m0, F, ρ, Same.refl F, r, h0⟩, ?_⟩
  rintro m σ1 H1 ⟨F1, ρ1, s1, r1, i1⟩
  refine k1 R F1 σ1 H1 ρ1 _ r1 (hc.mono _ _ _ _ _ (fun b ρ2 z F2 H2 s2 r2 => ?_) (fun x ρ z => upX.mono s1 x ρ (upS.exX (D := D) x ρ z)) (h m ρ1 i1))
  refine (z.imp (fun z => ?_) (fun z => ?_)).out
  · refine ⟨fun σ3 H3 => ∃ m', m' < m ∧ ∃ F' ρ, Same F F' ∧ Rel X.K R F' ρ σ3 H3 ∧ I m' ρ, fun σ3 H3 z => z, ?_⟩
    have s12 := s1.trans s2
    refine k2 R F2 σ1 H2 ρ2 _ r2 (hb.mono _ { upS X.K R F W D with nx := fun ρ2 => ∃ m', m' < m ∧ I m' ρ2, ct := fun ρ2 => ∃ m', m' < m ∧ I m' ρ2, bk := (upS X.K R F W D).nx } _ ⟨fun ρ3 ⟨m', hm, i3⟩ F3 σ3 H3 s3 r3 => ⟨m', hm, F3, ρ3, s12.trans s3, r3, i3⟩, fun d ρ3 z F3 σ3 H3 v s3 r3 dv => z F3 σ3 H3 v (s12.trans s3) r3 dv, fun ρ3 z F3 σ3 H3 s3 r3 => z F3 σ3 H3 (s12.trans s3) r3,
      fun ρ3 ⟨m', hm, i3⟩ F3 σ3 H3 s3 r3 => ⟨m', hm, F3, ρ3, s12.trans s3, r3, i3⟩, fun x ρ3 z F3 σ3 H3 cls dd s3 r3 e => z F3 σ3 H3 cls dd (s12.trans s3) r3 e, fun xs ρ3 z F3 σ3 H3 p vs s3 r3 e dv => z F3 σ3 H3 p vs (s12.trans s3) r3 e dv⟩ z)
  · exact z F2 σ1 H2 (s1.trans s2) r2
end
end DL
namespace DL
open PySem PySem.Spec PyProof.Rows L2
variable [TabSet]

/-! ### operators on data -/
abbrev FinD (K : PySem.W.Frag) (F H : Hp) (Q : VK) (d : D) : Prop := (∀ v, Dv K F v d → Q v H) ∧ ∀ p o, H p = none → (∀ ps, o ≠ .tbl ps) → Dv K (upd F p o) (.ref p) d → Q (.ref p) (upd H p o)
section
variable {K : PySem.W.Frag} {F H : Hp} {Q : VK} {p : Addr}
theorem FinD.newL {xs : List V} {ds : List D} (s : Same F H) (h : FinD K F H Q (.lst ds)) (a : DvA K F xs ds) : ∀ p, H p = none → Q (.ref p) (upd H p (.lst xs)) := fun p hp =>
  h.2 p _ hp (fun _ z => by cases z) (.lst upd_same (a.mono (same_upd (Same.free s hp))))
theorem FinD.newT {xs : List V} {ds : List D} (s : Same F H) (h : FinD K F H Q (.tup ds)) (a : DvA K F xs ds) : ∀ p, H p = none → Q (.ref p) (upd H p (.tup xs)) := fun p hp =>
  h.2 p _ hp (fun _ z => by cases z) (.tup (SqT.of upd_same) (a.mono (same_upd (Same.free s hp))))
end
theorem DOp.or {X : Cx} {f : Value → Value → Sem Value} {g g' : G2} (a : DOp X f g) (b : DOp X f g') : DOp X f (fun x y Q => g x y Q ∨ g' x y Q) := by
  refine ⟨fun x y Q Q' h z => z.imp (a.mono x y Q Q' h) (b.mono x y Q Q' h), ?_⟩
  obtain ⟨r, hr, hd⟩ := a.run
  obtain ⟨r', hr', hd'⟩ := b.run
  exact ⟨_, hr.or hr', fun F H x y dx dy Q s d1 d2 z => z.imp (hd F H x y dx dy Q s d1 d2) (hd' F H x y dx dy Q s d1 d2)⟩
theorem DOp.imp {X : Cx} {f : Value → Value → Sem Value} {g g' : G2} (a : DOp X f g) (h : ∀ x y Q, g' x y Q → g x y Q) (m : ∀ x y (Q Q' : D → Prop), (∀ d, Q d → Q' d) → g' x y Q → g' x y Q') : DOp X f g' := by
  obtain ⟨r, hr, hd⟩ := a.run
  exact ⟨m, r, hr, fun F H x y dx dy Q s d1 d2 z => hd F H x y dx dy Q s d1 d2 (h _ _ _ z)⟩
/-- two ints -/
def gI (C : Int → Int → Prop) (f : Int → Int → D) : G2 := fun x y Q => ∃ i j, x = .int i ∧ y = .int j ∧ C i j ∧ Q (f i j)
theorem gI_mono {C f} : ∀ x y (Q Q' : D → Prop), (∀ d, Q d → Q' d) → gI C f x y Q → gI C f x y Q' := fun _ _ _ _ h ⟨i, j, a, b, c, q⟩ => ⟨i, j, a, b, c, h _ q⟩
section
variable {X : Cx}
theorem dop_int {f : Value → Value → Sem Value} {C : Int → Int → Prop} {g : Int → Int → Int} (h : OpR X f (rI C fun i j => .int (g i j))) : DOp X f (gI C fun i j => .int (g i j)) :=
  ⟨gI_mono, _, h, fun F H x y dx dy Q s d1 d2 ⟨i, j, e1, e2, c, q⟩ => by
    subst e1; subst e2
    cases d1; cases d2
    exact ⟨i, j, rfl, rfl, c, q.1 _ (.int _)⟩⟩
theorem dop_int0 {f : Value → Value → Sem Value} {g : Int → Int → Int} (h : OpR X f (rI0 fun i j => .int (g i j))) : DOp X f (gI (fun _ _ => True) fun i j => .int (g i j)) :=
  ⟨gI_mono, _, h, fun F H x y dx dy Q s d1 d2 ⟨i, j, e1, e2, c, q⟩ => by
    subst e1; subst e2
    cases d1; cases d2
    exact ⟨i, j, rfl, rfl, q.1 _ (.int _)⟩⟩
theorem dop_intB {f : Value → Value → Sem Value} {g : Int → Int → Bool} (h : OpR X f (rI0 fun i j => .bl (g i j))) : DOp X f (gI (fun _ _ => True) fun i j => .bl (g i j)) :=
  ⟨gI_mono, _, h, fun F H x y dx dy Q s d1 d2 ⟨i, j, e1, e2, c, q⟩ => by
    subst e1; subst e2
    cases d1; cases d2
    exact ⟨i, j, rfl, rfl, q.1 _ (.bl _)⟩⟩
/-! + -/
def gAdd : G2
  | .int i, .int j, Q => Q (.int (i + j))
  | .lst a, .lst b, Q => a.length + b.length ≤ sizeLine ∧ Q (.lst (a ++ b))
  | .tup a, .tup b, Q => a.length + b.length ≤ sizeLine ∧ Q (.tup (a ++ b))
  | .str a, .str b, Q => a.length + b.length ≤ sizeLine ∧ Q (.str (a ++ b))
  | _, _, _ => False
theorem gAdd_mono : ∀ x y (Q Q' : D → Prop), (∀ d, Q d → Q' d) → gAdd x y Q → gAdd x y Q' := by
  intro x y Q Q' h z
  unfold gAdd at z ⊢
  split at z
  · exact h _ z
  · exact ⟨z.1, h _ z.2⟩
  · exact ⟨z.1, h _ z.2⟩
  · exact ⟨z.1, h _ z.2⟩
  · exact z.elim
theorem gAdd_cases {x y : D} {Q : D → Prop} (z : gAdd x y Q) : (((∃ i j, x = .int i ∧ y = .int j ∧ Q (.int (i + j))) ∨ ∃ a b, x = .lst a ∧ y = .lst b ∧ a.length + b.length ≤ sizeLine ∧ Q (.lst (a ++ b))) ∨
    ∃ a b, x = .tup a ∧ y = .tup b ∧ a.length + b.length ≤ sizeLine ∧ Q (.tup (a ++ b))) ∨ ∃ a b, x = .str a ∧ y = .str b ∧ a.length + b.length ≤ sizeLine ∧ Q (.str (a ++ b)) := by
  unfold gAdd at z
  split at z
  · exact .inl (.inl (.inl ⟨_, _, rfl, rfl, z⟩))
  · exact .inl (.inl (.inr ⟨_, _, rfl, rfl, z.1, z.2⟩))
  · exact .inl (.inr ⟨_, _, rfl, rfl, z.1, z.2⟩)
  · exact .inr ⟨_, _, rfl, rfl, z.1, z.2⟩
  · exact z.elim
theorem op_Add : DOp X (binaryOp .Add) gAdd := by
  refine ⟨gAdd_mono, _, ((op_add.or op_cat).or op_catA).or op_add_str, fun F H x y dx dy Q s d1 d2 z => ?_⟩
  rcases gAdd_cases z with ((⟨i, j, rfl, rfl, q⟩ | ⟨a, b, rfl, rfl, hl, q⟩) | ⟨a, b, rfl, rfl, hl, q⟩) | ⟨a, b, rfl, rfl, hl, q⟩
  · cases d1; cases d2
    exact .inl (.inl (.inl ⟨i, j, rfl, rfl, q.1 _ (.int _)⟩))
  · cases d1 with
    | lst h1 a1 =>
      cases d2 with
      | lst h2 a2 => exact .inl (.inl (.inr ⟨_, _, _, _, rfl, rfl, s _ _ h1, s _ _ h2, by rw [a1.length, a2.length]; exact hl, FinD.newL s q (a1.append a2)⟩))
  · cases d1 with
    | tup h1 a1 =>
      cases d2 with
      | tup h2 a2 =>
        refine .inl (.inr ⟨_, _, _, _, rfl, rfl, Same.seqT s h1, Same.seqT s h2, by rw [a1.length, a2.length]; exact hl, fun e => ?_, fun _ e => ?_, fun _ _ => FinD.newT s q (a1.append a2)⟩)
        · subst e; cases a1; exact q.1 _ (.tup h2 a2)
        · subst e; cases a2; rw [List.append_nil] at q; exact q.1 _ (.tup h1 a1)
  · cases d1; cases d2
    exact .inr ⟨_, _, rfl, rfl, hl, q.1 _ (.str _)⟩
/-! -, *, //, %, ** -/
theorem op_Sub : DOp X (binaryOp .Sub) (gI (fun _ _ => True) fun i j => .int (i - j)) := dop_int0 op_sub
/-- a product that the machine reckons -/
def MulOk (i j : Int) : Prop := i.natAbs.log2 + j.natAbs.log2 < 1000000 ∨ i.natAbs < 2 ^ 64 ∨ j.natAbs < 2 ^ 64
theorem MulOk.cmul {i j : Int} (h : i.natAbs < 2 ^ 64 ∨ j.natAbs < 2 ^ 64) : CMul i j := by
  unfold CMul
  omega
def gMul : G2
  | .int i, .int j, Q => MulOk i j ∧ Q (.int (i * j))
  | .lst a, .int k, Q => (-(2 ^ 63) ≤ k ∧ k < 2 ^ 63 ∧ a.length * k.toNat ≤ sizeLine) ∧ Q (.lst (List.replicate k.toNat a).flatten)
  | .tup a, .int k, Q => (a ≠ [] ∧ 2 ≤ k ∧ k ≤ 1000 ∧ a.length ≤ 1000) ∧ Q (.tup (List.replicate k.toNat a).flatten)
  | _, _, _ => False
theorem gMul_mono : ∀ x y (Q Q' : D → Prop), (∀ d, Q d → Q' d) → gMul x y Q → gMul x y Q' := by
  intro x y Q Q' h z
  unfold gMul at z ⊢
  split at z
  · exact ⟨z.1, h _ z.2⟩
  · exact ⟨z.1, h _ z.2⟩
  · exact ⟨z.1, h _ z.2⟩
  · exact z.elim
theorem op_Mul : DOp X (binaryOp .Mult) gMul := by
  refine ⟨gMul_mono, _, ((op_mulW.or op_mul).or op_rep).or op_repT, fun F H x y dx dy Q s d1 d2 z => ?_⟩
  unfold gMul at z
  split at z
  · cases d1; cases d2
    rcases z.1 with h | h
    · exact .inl (.inl (.inl ⟨_, _, rfl, rfl, h, z.2.1 _ (.int _)⟩))
    · exact .inl (.inl (.inr ⟨_, _, rfl, rfl, MulOk.cmul h, z.2.1 _ (.int _)⟩))
  · cases d1 with
    | lst h1 a1 =>
      cases d2
      obtain ⟨⟨c1, c2, c3⟩, q⟩ := z
      exact .inl (.inr ⟨_, _, _, rfl, rfl, s _ _ h1, c1, c2, by rw [a1.length]; exact c3, FinD.newL s q (a1.rep _)⟩)
  · cases d1 with
    | tup h1 a1 =>
      cases d2
      obtain ⟨⟨c1, c2, c3, c4⟩, q⟩ := z
      refine .inr ⟨_, _, _, rfl, rfl, Same.seqT s h1, fun e => ?_, c2, c3, by rw [a1.length]; exact c4, FinD.newT s q (a1.rep _)⟩
      subst e; cases a1; exact c1 rfl
  · exact z.elim
/-- a divisor that the machine divides by -/
def DivOk (_ j : Int) : Prop := j ≠ 0 ∧ j.natAbs.log2 < 9000
theorem op_fdivA : OpR X (binaryOp .FloorDiv) (rI DivOk fun i j => .int (i.fdiv j)) := opI fun _ _ _ _ _ _ _ hc q => floordiv_int hc.1 q (.inl (PyProof.noPylong_of_log2 hc.2))
theorem op_Div : DOp X (binaryOp .FloorDiv) (gI DivOk fun i j => .int (i.fdiv j)) := dop_int op_fdivA
theorem op_Mod : DOp X (binaryOp .Mod) (gI (fun _ j => j ≠ 0) fun i j => .int (i.fmod j)) := dop_int op_modN
theorem op_Pow : DOp X (binaryOp .Pow) (gI CPow fun i j => .int (i ^ j.toNat)) := dop_int op_pow
/-! -x -/
def dNeg (f : We) : We := fun ρ Q E => f ρ (fun d ρ1 => ∃ i, d = .int i ∧ Q (.int (-i)) ρ1) E
theorem de_neg {a : Expr} {f : We} {pos : Pos} (h : DE X a f) : DE X (.UnaryOp .USub a pos) (dNeg f) := by
  refine ⟨fun ρ Q Q' E E' hQ hE hw => h.mono ρ _ _ _ _ (fun d ρ1 ⟨i, e, q⟩ => ⟨i, e, hQ _ _ q⟩) hE hw, fun W tk => ?_⟩
  obtain ⟨t, p, k⟩ := h.run W tk
  refine ⟨_, pe_un un_neg p, fun R F σ H ρ Q r hw => k R F σ H ρ _ r (h.mono _ _ _ _ _ (fun d ρ1 ⟨i, e, q⟩ F1 H1 v s1 r1 dv => ?_) (fun _ _ z => z) hw)⟩
  subst e
  cases dv
  exact ⟨i, rfl, q F1 H1 _ s1 r1 (.int _)⟩
/-! < and its like, of ints and of tuples of ints -/
theorem op_Lt : DOp X (compareOp .Lt) (gI (fun _ _ => True) fun i j => .bl (decide (i < j))) := dop_intB op_lt
theorem op_Le : DOp X (compareOp .LtE) (gI (fun _ _ => True) fun i j => .bl (decide (i ≤ j))) := dop_intB op_le
theorem op_Gt : DOp X (compareOp .Gt) (gI (fun _ _ => True) fun i j => .bl (decide (j < i))) := dop_intB op_gt
theorem op_Ge : DOp X (compareOp .GtE) (gI (fun _ _ => True) fun i j => .bl (decide (j ≤ i))) := dop_intB op_ge
def gLtT : G2 := fun x y Q => ∃ ns ms : List Int, x = .tup (ns.map D.int) ∧ y = .tup (ms.map D.int) ∧ Q (.bl (HT.lexLt ns ms))
theorem op_LtT (hu : X.A.units < cLine) : DOp X (compareOp .Lt) gLtT := by
  refine ⟨fun x y Q Q' h ⟨ns, ms, a, b, q⟩ => ⟨ns, ms, a, b, h _ q⟩, _, op_ltT hu, fun F H x y dx dy Q s d1 d2 ⟨ns, ms, e1, e2, q⟩ => ?_⟩
  subst e1; subst e2
  cases d1 with
  | tup h1 a1 =>
    cases d2 with
    | tup h2 a2 =>
      have e1 := a1.ints_inv
      have e2 := a2.ints_inv
      subst e1; subst e2
      exact ⟨_, _, ns, ms, rfl, rfl, Same.seqT s h1, Same.seqT s h2, q.1 _ (.bl _)⟩

/-! == -/
mutual
def D.py : D → PyData
  | .non => .none
  | .bl b => .bool b
  | .int i => .int i
  | .str x => .str x
  | .tup ds => .tuple (D.pyA ds)
  | .lst ds => .list (D.pyA ds)
  | .ro ds => .list (D.pyA ds)
  | .ob _ => .none
  | .exc _ _ _ _ _ => .none
  | .dct _ => .none
  | .thk _ _ _ _ _ _ => .none
def D.pyA : List D → List PyData
  | [] => []
  | d :: ds => d.py :: D.pyA ds
end
mutual
/-- data that may be compared: no objects, n deep at most -/
def D.flat (n : Nat) : D → Bool
  | .non => true
  | .bl _ => true
  | .int _ => true
  | .str x => PyData.canLay0 (.str x)
  | .tup ds => (match n with | 0 => false | m + 1 => D.flatA m ds)
  | .lst ds => (match n with | 0 => false | m + 1 => D.flatA m ds)
  | .ro ds => (match n with | 0 => false | m + 1 => D.flatA m ds)
  | .ob _ => false
  | .exc _ _ _ _ _ => false
  | .dct _ => false
  | .thk _ _ _ _ _ _ => false
def D.flatA (n : Nat) : List D → Bool
  | [] => true
  | d :: ds => d.flat n && D.flatA n ds
end
mutual
theorem Dv.dp {K : PySem.W.Frag} {H : Hp} {n : Nat} : ∀ {v : V} {d : D}, Dv K H v d → d.flat n = true → Dp K H v d.py
  | _, .non, .non, _ => .non
  | _, .bl _, .bl b, _ => .bl b
  | _, .int _, .int i, _ => .int i
  | _, .str _, .str x, _ => .str x
  | _, .tup ds, .tup h a, f => by
    unfold D.flat at f
    cases n with
    | zero => cases f
    | succ m => exact .tup h (DvA.dp a f)
  | _, .lst ds, .lst h a, f => by
    unfold D.flat at f
    cases n with
    | zero => cases f
    | succ m => exact .lst (SqL.of h) (DvA.dp a f)
  | _, .ro ds, .ro h a, f => by
    unfold D.flat at f
    cases n with
    | zero => cases f
    | succ m => exact .lst h (DvA.dp a f)
  | _, .ob _, .ob _, f => by cases f
  | _, .exc _ _ _ _ _, .exc _ _, f => by cases f
  | _, .dct _, .dct _ _, f => by cases f
  | _, .thk _ _ _ _ _ _, .thk _ _ _, f => by cases f
theorem DvA.dp {K : PySem.W.Frag} {H : Hp} {n : Nat} : ∀ {vs : List V} {ds : List D}, DvA K H vs ds → D.flatA n ds = true → DpAll K H vs (D.pyA ds)
  | _, [], .nil, _ => .nil
  | _, d :: ds, .cons h t, f => by
    unfold D.flatA at f
    rw [Bool.and_eq_true] at f
    exact .cons (Dv.dp h f.1) (DvA.dp t f.2)
end
mutual
theorem flat_depth {n : Nat} : ∀ {d : D}, d.flat n = true → d.py.canLay0 = true ∧ d.py.depth ≤ n
  | .non, _ => ⟨rfl, Nat.zero_le _⟩
  | .bl _, _ => ⟨rfl, Nat.zero_le _⟩
  | .int _, _ => ⟨rfl, Nat.zero_le _⟩
  | .str _, f => ⟨f, Nat.zero_le _⟩
  | .tup ds, f => by
    unfold D.flat at f
    cases n with
    | zero => cases f
    | succ m =>
      obtain ⟨h1, h2⟩ := flatA_depth (ds := ds) f
      exact ⟨h1, by show PyData.depth (.tuple (D.pyA ds)) ≤ m + 1; unfold PyData.depth; omega⟩
  | .lst ds, f => by
    unfold D.flat at f
    cases n with
    | zero => cases f
    | succ m =>
      obtain ⟨h1, h2⟩ := flatA_depth (ds := ds) f
      exact ⟨h1, by show PyData.depth (.list (D.pyA ds)) ≤ m + 1; unfold PyData.depth; omega⟩
  | .ro ds, f => by
    unfold D.flat at f
    cases n with
    | zero => cases f
    | succ m =>
      obtain ⟨h1, h2⟩ := flatA_depth (ds := ds) f
      exact ⟨h1, by show PyData.depth (.list (D.pyA ds)) ≤ m + 1; unfold PyData.depth; omega⟩
  | .ob _, f => by cases f
  | .exc _ _ _ _ _, f => by cases f
  | .dct _, f => by cases f
  | .thk _ _ _ _ _ _, f => by cases f
theorem flatA_depth {n : Nat} : ∀ {ds : List D}, D.flatA n ds = true → PyData.canLayAll0 (D.pyA ds) = true ∧ PyData.depthAll (D.pyA ds) ≤ n
  | [], _ => ⟨rfl, Nat.zero_le _⟩
  | d :: ds, f => by
    unfold D.flatA at f
    rw [Bool.and_eq_true] at f
    obtain ⟨h1, h2⟩ := flat_depth (d := d) f.1
    obtain ⟨h3, h4⟩ := flatA_depth (ds := ds) f.2
    refine ⟨by show PyData.canLayAll0 (d.py :: D.pyA ds) = true; unfold PyData.canLayAll0; rw [h1, h3]; rfl, ?_⟩
    show PyData.depthAll (d.py :: D.pyA ds) ≤ n
    unfold PyData.depthAll
    omega
end
theorem flat_shaped {n : Nat} {d : D} (f : d.flat n = true) (hn : n ≤ 64) : SeqAt.shaped d.py = true := by
  obtain ⟨h1, h2⟩ := flat_depth f
  unfold SeqAt.shaped
  rw [h1, decide_eq_true (by omega)]
  rfl
/-- Python's == -/
def D.eq (d e : D) : Bool := PyData.eqv d.py e.py
def gEq : G2 := fun x y Q => (x.flat 60 = true ∧ y.flat 60 = true) ∧ Q (.bl (x.eq y))
def gNe : G2 := fun x y Q => (x.flat 60 = true ∧ y.flat 60 = true) ∧ Q (.bl (!x.eq y))
theorem op_Eq (hu : X.A.units + 64 < cLine) : DOp X (compareOp .Eq) gEq :=
  ⟨fun x y Q Q' h z => ⟨z.1, h _ z.2⟩, _, op_eqD hu, fun F H x y dx dy Q s d1 d2 ⟨⟨f1, f2⟩, q⟩ => ⟨_, _, (d1.mono s).dp f1, (d2.mono s).dp f2, flat_shaped f1 (by decide), flat_shaped f2 (by decide), q.1 _ (.bl _)⟩⟩
theorem op_Ne (hu : X.A.units + 64 < cLine) : DOp X (compareOp .NotEq) gNe :=
  ⟨fun x y Q Q' h z => ⟨z.1, h _ z.2⟩, _, op_neD hu, fun F H x y dx dy Q s d1 d2 ⟨⟨f1, f2⟩, q⟩ => ⟨_, _, (d1.mono s).dp f1, (d2.mono s).dp f2, flat_shaped f1 (by decide), flat_shaped f2 (by decide), q.1 _ (.bl _)⟩⟩
/-! is: of None, of truth values -/
def gIs (neg : Bool) : G2 := fun x y Q => (∃ a b, x = .bl a ∧ y = .bl b ∧ Q (.bl (xor neg (decide (a = b)))))
def isNon : D → Bool
  | .non => true
  | _ => false
/-- x is None; objects of other kinds are not asked -/
def gIsN (neg : Bool) : G2 := fun x y Q => y = .non ∧ (∀ v, x ≠ .ob v) ∧ Q (.bl (xor neg (isNon x)))
theorem isNon_of {K : PySem.W.Frag} {F : Hp} {x : V} {d : D} (h : Dv K F x d) (no : ∀ v, d ≠ .ob v) : decide (x = .non) = isNon d := by
  cases h with
  | ob => exact absurd rfl (no _)
  | non => rfl
  | _ => rfl
theorem op_IsN : DOp X (compareOp .Is) (gIsN false) :=
  ⟨fun x y Q Q' h ⟨a, b, q⟩ => ⟨a, b, h _ q⟩, _, op_isN, fun F H x y dx dy Q s d1 d2 ⟨e, no, q⟩ => by
    subst e
    cases d2
    rw [isNon_of d1 no]
    exact ⟨rfl, by have := q.1 (.bl (xor false (isNon dx))) (.bl _); simpa using this⟩⟩
theorem op_NotN : DOp X (compareOp .IsNot) (gIsN true) :=
  ⟨fun x y Q Q' h ⟨a, b, q⟩ => ⟨a, b, h _ q⟩, _, op_notN, fun F H x y dx dy Q s d1 d2 ⟨e, no, q⟩ => by
    subst e
    cases d2
    refine ⟨rfl, ?_⟩
    rw [isNon_of d1 no]
    have := q.1 (.bl (xor true (isNon dx))) (.bl _)
    simpa using this⟩
end
end DL
namespace DL
open PySem PySem.Spec PyProof.Rows L2
variable [TabSet]

/-! ### x[i] -/
theorem DvA.atI {K : PySem.W.Frag} {F : Hp} {vs : List V} {ds : List D} {i : Int} {d : D} (h : DvA K F vs ds) (e : atI ds i = some d) : ∃ v, L2.atI vs i = some v ∧ Dv K F v d := by
  unfold L2.atI at e ⊢
  rw [h.length]
  cases q : ixN ds.length i with
  | none => rw [q] at e; cases e
  | some j =>
    rw [q] at e
    obtain ⟨v, h1, h2⟩ := h.get (i := j) (d := d) e
    exact ⟨v, h1, h2⟩
def gIx : G2
  | .tup xs, .int i, Q => ∃ d, atI xs i = some d ∧ Q d
  | .lst xs, .int i, Q => ∃ d, atI xs i = some d ∧ Q d
  | .ro xs, .int i, Q => ∃ d, atI xs i = some d ∧ Q d
  | .str x, .int i, Q => x.length ≤ sizeLine ∧ ∃ c, atI x.cps.toList i = some c ∧ Q (.str ⟨#[c]⟩)
  | _, _, _ => False
theorem gIx_mono : ∀ x y (Q Q' : D → Prop), (∀ d, Q d → Q' d) → gIx x y Q → gIx x y Q' := by
  intro x y Q Q' h z
  unfold gIx at z ⊢
  split at z
  · obtain ⟨d, e, q⟩ := z; exact ⟨d, e, h _ q⟩
  · obtain ⟨d, e, q⟩ := z; exact ⟨d, e, h _ q⟩
  · obtain ⟨d, e, q⟩ := z; exact ⟨d, e, h _ q⟩
  · obtain ⟨l, d, e, q⟩ := z; exact ⟨l, d, e, h _ q⟩
  · exact z.elim
section
variable {X : Cx} {a b e : Expr} {fa fb f : We} {pos : Pos}
theorem gIx_run {F H : Hp} {x y : V} {dx dy : D} {Q : VK} (s : Same F H) (d1 : Dv X.K F x dx) (d2 : Dv X.K F y dy) (z : gIx dx dy fun d => ∀ v, Dv X.K F v d → Q v H) : rIx X.K x y H Q := by
  unfold gIx at z
  split at z
  · obtain ⟨d, e, q⟩ := z
    cases d2
    cases d1 with
    | tup h1 a1 =>
      obtain ⟨v, h2, h3⟩ := DvA.atI a1 e
      exact .inr (.inl ⟨_, _, _, v, rfl, rfl, Same.seqT s h1, h2, q v h3⟩)
  · obtain ⟨d, e, q⟩ := z
    cases d2
    cases d1 with
    | lst h1 a1 =>
      obtain ⟨v, h2, h3⟩ := DvA.atI a1 e
      exact .inl ⟨_, _, _, v, rfl, rfl, SqL.of (s _ _ h1), h2, q v h3⟩
  · obtain ⟨d, e, q⟩ := z
    cases d2
    cases d1 with
    | ro h1 a1 =>
      obtain ⟨v, h2, h3⟩ := DvA.atI a1 e
      exact .inl ⟨_, _, _, v, rfl, rfl, s.seq h1, h2, q v h3⟩
  · obtain ⟨hl, c, e, q⟩ := z
    cases d2
    cases d1
    exact .inr (.inr ⟨_, _, c, rfl, rfl, hl, e, q _ (.str _)⟩)
  · exact z.elim
theorem de_ix (ha : DE X a fa) (hb : DE X b fb) (hs : PlainIx b := by exact fun _ _ => rfl) : DE X (.Subscript a b pos) (dOp gIx fa fb) := by
  refine ⟨dOp_mono gIx_mono ha.mono hb.mono, fun W tk => ?_⟩
  obtain ⟨ta, tb, pa, pb, k⟩ := two_run ha hb tk
  refine ⟨_, pe_ix ix_seq pa pb hs, fun R F σ H ρ Q rl h => ?_⟩
  refine k R F σ H ρ (fun x y ρ2 => gIx x y fun d => upE X.K R F σ Q d ρ2) (fun x y H2 => rIx X.K x y H2 Q) rl (fun dx dy ρ2 F2 H2 x y hP s2 r2 d1 d2 => ?_) h
  exact gIx_run r2.sF d1 d2 (gIx_mono _ _ _ _ (fun d hq => (up_fin s2 r2 hq).1) hP)
/-- an own list's item, the list read where it stands -/
def dIxO (i : Nat) (fb : We) : We := fun ρ Q E => ∃ a xs, ρ[i]? = some (some (.own a xs)) ∧ fb ρ (fun y ρ1 => ∃ ys j d, ρ1[i]? = some (some (.own a ys)) ∧ y = .int j ∧ atI ys j = some d ∧ Q d ρ1) E
theorem de_ixO {i : Nat} {x : Str} {p2 : Pos} (hN : X.N[i]? = some x) (hv : Vis X.env.scope x) (hb : DE X b fb) (hs : PlainIx b := by exact fun _ _ => rfl)
    (hd : (x == ("__debug__" : Str)) = false := by decide) (hcd : (x == ("__classdict__" : Str)) = false := by decide) : DE X (.Subscript (.Name x p2) b pos) (dIxO i fb) := by
  refine ⟨fun ρ Q Q' E E' hQ hE ⟨a, xs, h0, hw⟩ => ⟨a, xs, h0, hb.mono ρ _ _ _ _ (fun y ρ1 ⟨ys, j, d, h1, h2, h3, h4⟩ => ⟨ys, j, d, h1, h2, h3, hQ _ _ h4⟩) hE hw⟩, fun W tk => ?_⟩
  obtain ⟨tb, pb, kb⟩ := hb.run W tk
  refine ⟨_, pe_ix ix_list (pe_var (pos := p2) hN hv hd hcd) pb hs, fun R F σ H ρ Q rl ⟨a, xs, h0, h⟩ => ⟨_, (rl.own i a xs h0).1, ?_⟩⟩
  refine kb R F σ H ρ _ rl (hb.mono _ _ _ _ _ (fun y ρ1 ⟨ys, j, d, h1, h2, h3, h4⟩ F1 H1 v s1 r1 dv => ?_) (fun _ _ z => z) h)
  subst h2
  cases dv
  obtain ⟨vs, _, g2, g3⟩ := r1.borrow h1
  obtain ⟨v, h5, h6⟩ := DvA.atI g3 h3
  exact ⟨_, _, _, v, rfl, rfl, SqL.of g2, h5, h4 F1 H1 v s1 r1 h6⟩

/-! ### slices x[a:b] -/
theorem DvA.cut {K : PySem.W.Frag} {F : Hp} {vs : List V} {ds : List D} (h : DvA K F vs ds) (lo hi : Option Int) : DvA K F (cutV vs lo hi) ((ds.drop (HT.sIx ds.length 0 lo)).take (HT.sIx ds.length ds.length hi - HT.sIx ds.length 0 lo)) := by
  unfold cutV
  rw [h.length]
  exact (h.drop _).take _
/-- the items of xs[lo:hi] -/
def cut (xs : List D) (lo hi : Option Int) : List D := (xs.drop (HT.sIx xs.length 0 lo)).take (HT.sIx xs.length xs.length hi - HT.sIx xs.length 0 lo)
/-- an optional part of a slice -/
abbrev Wo := Env → (Option Int → Env → Prop) → Qx → Prop
structure DO (X : Cx) (o : Option Expr) (f : Wo) : Prop where
  mono : ∀ ρ (Q Q' : Option Int → Env → Prop) (E E' : Qx), (∀ d ρ, Q d ρ → Q' d ρ) → (∀ x ρ, E x ρ → E' x ρ) → f ρ Q E → f ρ Q' E'
  run : ∀ (W : WX), Takes X W → ∃ t, PO X o t ∧ ∀ R F σ H ρ (Q : Option Int → Hp → Prop), Rel X.K R F ρ σ H → f ρ (fun i ρ' => ∀ F' H', Same F F' → Rel X.K R F' ρ' σ H' → Q i H') (upX X.K R F σ W) → t σ H Q
def oNone : Wo := fun ρ Q _ => Q none ρ
def oSome (f : We) : Wo := fun ρ Q E => f ρ (fun d ρ1 => ∃ i, d = .int i ∧ Q (some i) ρ1) E
theorem do_none : DO X none oNone := ⟨fun _ _ _ _ _ hQ _ h => hQ _ _ h, fun W tk => ⟨_, po_none, fun R F σ H ρ Q r h => h F H (Same.refl F) r⟩⟩
theorem do_some (h : DE X e f) : DO X (some e) (oSome f) := by
  refine ⟨fun ρ Q Q' E E' hQ hE hw => h.mono ρ _ _ _ _ (fun d ρ1 ⟨i, e, q⟩ => ⟨i, e, hQ _ _ q⟩) hE hw, fun W tk => ?_⟩
  obtain ⟨t, p, k⟩ := h.run W tk
  refine ⟨_, po_some p, fun R F σ H ρ Q r hw => k R F σ H ρ _ r (h.mono _ _ _ _ _ (fun d ρ1 ⟨i, e, q⟩ F1 H1 v s1 r1 dv => ?_) (fun _ _ z => z) hw)⟩
  subst e
  cases dv
  exact ⟨i, rfl, q F1 H1 s1 r1⟩
def gCut : D → Option Int → Option Int → (D → Prop) → Prop
  | .tup xs, lo, hi, Q => Q (.tup (cut xs lo hi))
  | .lst xs, lo, hi, Q => Q (.lst (cut xs lo hi))
  | .ro xs, lo, hi, Q => Q (.lst (cut xs lo hi))
  | _, _, _, _ => False
theorem gCut_mono : ∀ x lo hi (Q Q' : D → Prop), (∀ d, Q d → Q' d) → gCut x lo hi Q → gCut x lo hi Q' := by
  intro x lo hi Q Q' h z
  unfold gCut at z ⊢
  split at z
  · exact h _ z
  · exact h _ z
  · exact h _ z
  · exact z.elim
def dCut (fa : We) (fl fh : Wo) : We := fun ρ Q E => fa ρ (fun x ρ1 => fl ρ1 (fun lo ρ2 => fh ρ2 (fun hi ρ3 => gCut x lo hi fun d => Q d ρ3) E) E) E
theorem sIx_whole {n : Nat} {lo hi : Option Int} {xs : List D} (h1 : HT.sIx xs.length 0 lo = 0) (h2 : HT.sIx xs.length xs.length hi = xs.length) : cut xs lo hi = xs := by
  unfold cut
  rw [h1, h2, List.drop_zero]
  simp
theorem SlR.or {r r' : V → Option Int → Option Int → Hp → VK → Prop} (h : SlR X r) (h' : SlR X r') : SlR X (fun x lo hi H Q => r x lo hi H Q ∨ r' x lo hi H Q) := by
  intro pins s σ H x v vl vu lo hi sl Q I rx hs pl pu q
  rcases q with q | q
  · exact h pins s σ H x v vl vu lo hi sl Q I rx hs pl pu q
  · exact h' pins s σ H x v vl vu lo hi sl Q I rx hs pl pu q
theorem de_cut {lo hi : Option Expr} {fl fh : Wo} {p2 : Pos} (ha : DE X a fa) (hl : DO X lo fl) (hh : DO X hi fh) : DE X (.Subscript a (.Slice lo hi none p2) pos) (dCut fa fl fh) := by
  refine ⟨fun ρ Q Q' E E' hQ hE hw => ha.mono ρ _ _ _ _ (fun x ρ1 h1 => hl.mono ρ1 _ _ _ _ (fun l ρ2 h2 => hh.mono ρ2 _ _ _ _ (fun u ρ3 h3 => gCut_mono _ _ _ _ _ (fun d q => hQ _ _ q) h3) hE h2) hE h1) hE hw, fun W tk => ?_⟩
  obtain ⟨t1, p1, k1⟩ := ha.run W tk
  obtain ⟨t2, p2', k2⟩ := hl.run W tk
  obtain ⟨t3, p3, k3⟩ := hh.run W tk
  refine ⟨_, pe_slice (SlR.or sl_list sl_tupA) p1 p2' p3, fun R F σ H ρ Q r hw => k1 R F σ H ρ _ r (ha.mono _ _ _ _ _ (fun dx ρ1 h1 F1 H1 x s1 r1 d1 => ?_) (fun _ _ z => z) hw)⟩
  refine k2 R F1 σ H1 ρ1 _ r1 (hl.mono _ _ _ _ _ (fun lo' ρ2 h2 F2 H2 s2 r2 => ?_) (upX.mono s1) h1)
  refine k3 R F2 σ H2 ρ2 _ r2 (hh.mono _ _ _ _ _ (fun hi' ρ3 h3 F3 H3 s3 r3 => ?_) (upX.mono (s1.trans s2)) h2)
  have s13 := s1.trans (s2.trans s3)
  have d3 := d1.mono (s2.trans s3)
  unfold gCut at h3
  split at h3
  · cases d3 with
    | tup hq ha =>
      have fin := up_fin s13 r3 h3
      refine .inr ⟨_, _, rfl, Same.seqT r3.sF hq, fun ⟨w1, w2⟩ => ?_, fun _ => FinD.newT r3.sF fin (ha.cut _ _)⟩
      rw [ha.length] at w1 w2
      rw [sIx_whole (n := 0) w1 w2] at h3
      exact h3 F3 H3 _ s13 r3 (.tup hq ha)
  · cases d3 with
    | lst hq ha => exact .inl ⟨_, _, rfl, SqL.of (r3.sF _ _ hq), FinD.newL r3.sF (up_fin s13 r3 h3) (ha.cut _ _)⟩
  · cases d3 with
    | ro hq ha => exact .inl ⟨_, _, rfl, r3.sF.seq hq, FinD.newL r3.sF (up_fin s13 r3 h3) (ha.cut _ _)⟩
  · exact h3.elim
/-- .. of an own list -/
def dCutO (i : Nat) (fl fh : Wo) : We := fun ρ Q E => ∃ a xs, ρ[i]? = some (some (.own a xs)) ∧ fl ρ (fun lo ρ2 => fh ρ2 (fun hi ρ3 => ∃ ys, ρ3[i]? = some (some (.own a ys)) ∧ Q (.lst (cut ys lo hi)) ρ3) E) E
/-- xs[::-1] of a list -/
def dRevL (fa : We) : We := fun ρ Q E => fa ρ (fun x ρ1 => ∃ xs, (x = .lst xs ∨ x = .ro xs) ∧ Q (.lst xs.reverse) ρ1) E
end

/-! ### built-ins -/
def dCall (g : GA) (fa : Wa) : We := fun ρ Q E => fa ρ (fun xs ρ1 => g xs fun d => Q d ρ1) E
section
variable {X : Cx} {x : Str} {p pos : Pos} {e : Expr} {es : List Expr} {id T : String} {g : GA} {fa : Wa} {fe : We}
theorem dCall_mono (hg : ∀ x (Q Q' : D → Prop), (∀ d, Q d → Q' d) → g x Q → g x Q') (m : MonoA fa) : MonoE (dCall g fa) := fun ρ Q Q' E E' hQ hE hw => m ρ _ _ _ _ (fun xs ρ1 h1 => hg _ _ _ (fun d q => hQ _ _ q) h1) hE hw
theorem de_callB (hc : DCall X (.builtin id) g) (hg : Gl X x) (hm : X.mg x = none) (hv : bootBuiltins x = some (.builtin id)) (ha : DA X (e :: es) fa) (hn : x ≠ "__name__" := by decide) (hdb : (x == ("__debug__" : Str)) = false := by decide)
    (he : starEach (e :: es) X.env = (false, eval e X.env) :: starEach es X.env := by rfl) (hpl : (backTo pos (starEach es X.env)).any (·.1) = false := by rfl) : DE X (.Call (.Name x p) (e :: es) [] pos) (dCall g fa) := by
  refine ⟨dCall_mono hc.mono ha.mono, fun W tk => ?_⟩
  obtain ⟨t, pt, k⟩ := ha.run W tk
  obtain ⟨r, hr, hd⟩ := hc.run
  refine ⟨_, pe_callB hr hg hm hv pt hn hdb he hpl, fun R F σ H ρ Q rl hw => k R F σ H ρ _ rl (ha.mono _ _ _ _ _ (fun ds ρ1 h1 F1 H1 vs s1 r1 dv => ?_) (fun _ _ z => z) hw)⟩
  exact hd F1 H1 vs ds Q r1.sF dv (hc.mono _ _ _ (fun d q => up_fin s1 r1 q) h1)
theorem de_callTy (hc : DCall X (.type T) g) (hg : Gl X x) (hm : X.mg x = none) (hv : bootBuiltins x = some (.type T)) (ha : DA X (e :: es) fa) (hn : x ≠ "__name__" := by decide) (hdb : (x == ("__debug__" : Str)) = false := by decide)
    (he : starEach (e :: es) X.env = (false, eval e X.env) :: starEach es X.env := by rfl) (hpl : (backTo pos (starEach es X.env)).any (·.1) = false := by rfl) : DE X (.Call (.Name x p) (e :: es) [] pos) (dCall g fa) := by
  refine ⟨dCall_mono hc.mono ha.mono, fun W tk => ?_⟩
  obtain ⟨t, pt, k⟩ := ha.run W tk
  obtain ⟨r, hr, hd⟩ := hc.run
  refine ⟨_, pe_callTy hr hg hm hv pt hn hdb he hpl, fun R F σ H ρ Q rl hw => k R F σ H ρ _ rl (ha.mono _ _ _ _ _ (fun ds ρ1 h1 F1 H1 vs s1 r1 dv => ?_) (fun _ _ z => z) hw)⟩
  exact hd F1 H1 vs ds Q r1.sF dv (hc.mono _ _ _ (fun d q => up_fin s1 r1 q) h1)
/-- len -/
def gLen : GA
  | [.tup xs], Q => Q (.int xs.length)
  | [.lst xs], Q => Q (.int xs.length)
  | [.ro xs], Q => Q (.int xs.length)
  | [.str x], Q => x.length ≤ sizeLine ∧ Q (.int x.length)
  | _, _ => False
theorem c_len : DCall X (.builtin "len") gLen := by
  refine ⟨fun x Q Q' h z => ?_, _, CallR.or call_len_seq call_len_str, fun F H vs ds Q s d z => ?_⟩
  · unfold gLen at z ⊢
    split at z
    · exact h _ z
    · exact h _ z
    · exact h _ z
    · exact ⟨z.1, h _ z.2⟩
    · exact z.elim
  · unfold gLen at z
    split at z
    · cases d with
      | cons d1 d2 =>
        cases d2
        cases d1 with
        | tup h a => exact .inl ⟨_, _, rfl, .inr (Same.seqT s h), by rw [a.length]; exact z.1 _ (.int _)⟩
    · cases d with
      | cons d1 d2 =>
        cases d2
        cases d1 with
        | lst h a => exact .inl ⟨_, _, rfl, .inl (SqL.of (s _ _ h)), by rw [a.length]; exact z.1 _ (.int _)⟩
    · cases d with
      | cons d1 d2 =>
        cases d2
        cases d1 with
        | ro h a => exact .inl ⟨_, _, rfl, .inl (s.seq h), by rw [a.length]; exact z.1 _ (.int _)⟩
    · cases d with
      | cons d1 d2 =>
        cases d2
        cases d1
        exact .inr ⟨_, rfl, z.1, z.2.1 _ (.int _)⟩
    · exact z.elim
/-- len(found) -/
def dLenO (i : Nat) : We := fun ρ Q _ => ∃ a xs, ρ[i]? = some (some (.own a xs)) ∧ Q (.int xs.length) ρ
theorem de_lenO {i : Nat} {y : Str} {p2 : Pos} (hg : Gl X "len") (hm : X.mg "len" = none) (hN : X.N[i]? = some y) (hv : Vis X.env.scope y) (hd : (y == ("__debug__" : Str)) = false := by decide) (hcd : (y == ("__classdict__" : Str)) = false := by decide)
    (he : starEach [Expr.Name y p2] X.env = [(false, eval (.Name y p2) X.env)] := by rfl) : DE X (.Call (.Name "len" p) [.Name y p2] [] pos) (dLenO i) := by
  refine ⟨fun ρ Q Q' E E' hQ hE ⟨a, xs, h0, h⟩ => ⟨a, xs, h0, hQ _ _ h⟩, fun W tk => ?_⟩
  refine ⟨_, pe_callB call_len_seq hg hm PySem.boot_len (pa_cons (pe_var (pos := p2) hN hv hd hcd) pa_nil), fun R F σ H ρ Q r ⟨a, xs, h0, h⟩ => ?_⟩
  obtain ⟨vs, g1, g2, g3⟩ := r.borrow h0
  exact ⟨_, g1, _, _, rfl, .inl (SqL.of g2), by rw [g3.length]; exact h F H _ (Same.refl F) r (.int _)⟩
/-- tuple(found) -/
def dTupO (i : Nat) : We := fun ρ Q _ => ∃ a xs, ρ[i]? = some (some (.own a xs)) ∧ Q (.tup xs) ρ
theorem de_tupO {i : Nat} {y : Str} {p2 : Pos} (hg : Gl X "tuple") (hm : X.mg "tuple" = none) (hN : X.N[i]? = some y) (hv : Vis X.env.scope y) (hd : (y == ("__debug__" : Str)) = false := by decide) (hcd : (y == ("__classdict__" : Str)) = false := by decide)
    (he : starEach [Expr.Name y p2] X.env = [(false, eval (.Name y p2) X.env)] := by rfl) : DE X (.Call (.Name "tuple" p) [.Name y p2] [] pos) (dTupO i) := by
  refine ⟨fun ρ Q Q' E E' hQ hE ⟨a, xs, h0, h⟩ => ⟨a, xs, h0, hQ _ _ h⟩, fun W tk => ?_⟩
  refine ⟨_, pe_callTy call_tuple_of hg hm (by decide +kernel) (pa_cons (pe_var (pos := p2) hN hv hd hcd) pa_nil), fun R F σ H ρ Q r ⟨a, xs, h0, h⟩ => ?_⟩
  obtain ⟨vs, g1, g2, g3⟩ := r.borrow h0
  exact ⟨_, g1, _, _, rfl, .inl ⟨SqL.of g2, FinD.newT r.sF (up_fin (Same.refl F) r h) g3⟩⟩
/-- tuple(x), list(x) -/
def gTupC : GA
  | [.tup xs], Q => Q (.tup xs)
  | [.lst xs], Q => Q (.tup xs)
  | [.ro xs], Q => Q (.tup xs)
  | _, _ => False
theorem c_tuple : DCall X (.type "tuple") gTupC := by
  refine ⟨fun x Q Q' h z => ?_, _, call_tuple_of, fun F H vs ds Q s d z => ?_⟩
  · unfold gTupC at z ⊢
    split at z
    · exact h _ z
    · exact h _ z
    · exact h _ z
    · exact z.elim
  · unfold gTupC at z
    split at z
    · cases d with
      | cons d1 d2 =>
        cases d2
        cases d1 with
        | tup h a => exact ⟨_, _, rfl, .inr ⟨Same.seqT s h, z.1 _ (.tup h a)⟩⟩
    · cases d with
      | cons d1 d2 =>
        cases d2
        cases d1 with
        | lst h a => exact ⟨_, _, rfl, .inl ⟨SqL.of (s _ _ h), FinD.newT s z a⟩⟩
    · cases d with
      | cons d1 d2 =>
        cases d2
        cases d1 with
        | ro h a => exact ⟨_, _, rfl, .inl ⟨s.seq h, FinD.newT s z a⟩⟩
    · exact z.elim
def gLstC : GA
  | [.tup xs], Q => Q (.lst xs)
  | [.lst xs], Q => Q (.lst xs)
  | [.ro xs], Q => Q (.lst xs)
  | _, _ => False
theorem c_list : DCall X (.type "list") gLstC := by
  refine ⟨fun x Q Q' h z => ?_, _, call_list_of, fun F H vs ds Q s d z => ?_⟩
  · unfold gLstC at z ⊢
    split at z
    · exact h _ z
    · exact h _ z
    · exact h _ z
    · exact z.elim
  · unfold gLstC at z
    split at z
    · cases d with
      | cons d1 d2 =>
        cases d2
        cases d1 with
        | tup h a => exact ⟨_, _, rfl, .inr (Same.seqT s h), FinD.newL s z a⟩
    · cases d with
      | cons d1 d2 =>
        cases d2
        cases d1 with
        | lst h a => exact ⟨_, _, rfl, .inl (SqL.of (s _ _ h)), FinD.newL s z a⟩
    · cases d with
      | cons d1 d2 =>
        cases d2
        cases d1 with
        | ro h a => exact ⟨_, _, rfl, .inl (s.seq h), FinD.newL s z a⟩
    · exact z.elim
/-- abs, max, min of two, int(..) -/
def gAbs : GA := fun xs Q => ∃ i, xs = [.int i] ∧ Q (.int (if i < 0 then -i else i))
theorem c_abs : DCall X (.builtin "abs") gAbs := ⟨fun _ _ _ h ⟨i, e, q⟩ => ⟨i, e, h _ q⟩, _, call_abs, fun F H vs ds Q s d ⟨i, e, q⟩ => by
  subst e
  cases d with
  | cons d1 d2 => cases d2; cases d1; exact ⟨i, rfl, q.1 _ (.int _)⟩⟩
def gMax2 : GA := fun xs Q => ∃ i j, xs = [.int i, .int j] ∧ Q (.int (if j > i then j else i))
theorem c_max2 (hc : X.calm = true) : DCall X (.builtin "max") gMax2 := ⟨fun _ _ _ h ⟨i, j, e, q⟩ => ⟨i, j, e, h _ q⟩, _, call_max2 hc, fun F H vs ds Q s d ⟨i, j, e, q⟩ => by
  subst e
  cases d with
  | cons d1 d2 => cases d2 with
    | cons d2 d3 => cases d3; cases d1; cases d2; exact ⟨i, j, rfl, q.1 _ (.int _)⟩⟩
def gMin2 : GA := fun xs Q => ∃ i j, xs = [.int i, .int j] ∧ Q (.int (if j < i then j else i))
theorem c_min2 (hc : X.calm = true) : DCall X (.builtin "min") gMin2 := ⟨fun _ _ _ h ⟨i, j, e, q⟩ => ⟨i, j, e, h _ q⟩, _, call_min2 hc, fun F H vs ds Q s d ⟨i, j, e, q⟩ => by
  subst e
  cases d with
  | cons d1 d2 => cases d2 with
    | cons d2 d3 => cases d3; cases d1; cases d2; exact ⟨i, j, rfl, q.1 _ (.int _)⟩⟩
def gInt : GA
  | [.int i], Q => Q (.int i)
  | [.bl b], Q => Q (.int (if b then 1 else 0))
  | _, _ => False
theorem c_int : DCall X (.type "int") gInt := by
  refine ⟨fun x Q Q' h z => ?_, _, call_int1, fun F H vs ds Q s d z => ?_⟩
  · unfold gInt at z ⊢
    split at z
    · exact h _ z
    · exact h _ z
    · exact z.elim
  · unfold gInt at z
    split at z
    · cases d with
      | cons d1 d2 => cases d2; cases d1; exact .inl ⟨_, rfl, z.1 _ (.int _)⟩
    · cases d with
      | cons d1 d2 => cases d2; cases d1; exact .inr ⟨_, rfl, z.1 _ (.int _)⟩
    · exact z.elim
def gAll : GA := fun xs Q => ∃ bs : List Bool, xs = [.lst (bs.map D.bl)] ∧ Q (.bl (bs.all fun b => b))
def gAny : GA := fun xs Q => ∃ bs : List Bool, xs = [.lst (bs.map D.bl)] ∧ Q (.bl (bs.any fun b => b))
theorem bls_inv {K : PySem.W.Frag} {F : Hp} : ∀ {vs : List V} {bs : List Bool}, DvA K F vs (bs.map D.bl) → vs = bs.map V.bl
  | _, [], h => by cases h; rfl
  | _, n :: r, h => by
    cases h with
    | cons h1 h2 =>
      cases h1
      rw [List.map_cons, bls_inv h2]
theorem c_all (hc : X.calm = true) : DCall X (.builtin "all") gAll := ⟨fun _ _ _ h ⟨ns, e, q⟩ => ⟨ns, e, h _ q⟩, _, cr_all hc, fun F H vs ds Q s d ⟨bs, e, q⟩ => by
  subst e
  cases d with
  | cons d1 d2 =>
    cases d2
    cases d1 with
    | lst h a => have := bls_inv a; subst this; exact ⟨_, bs, rfl, SqL.of (s _ _ h), q.1 _ (.bl _)⟩⟩
theorem c_any (hc : X.calm = true) : DCall X (.builtin "any") gAny := ⟨fun _ _ _ h ⟨ns, e, q⟩ => ⟨ns, e, h _ q⟩, _, cr_any hc, fun F H vs ds Q s d ⟨bs, e, q⟩ => by
  subst e
  cases d with
  | cons d1 d2 =>
    cases d2
    cases d1 with
    | lst h a => have := bls_inv a; subst this; exact ⟨_, bs, rfl, SqL.of (s _ _ h), q.1 _ (.bl _)⟩⟩

/-! ### isinstance -/
/-- the names of the types of data -/
def D.tn : D → Option String
  | .non => some "NoneType"
  | .bl _ => some "bool"
  | .int _ => some "int"
  | .str _ => some "str"
  | .tup _ => some "tuple"
  | .lst _ => some "list"
  | .ro _ => some "list"
  | .ob _ => none
  | .exc _ _ _ _ _ => none
  | .dct _ => some "dict"
  | .thk _ _ _ _ _ _ => none
/-- the type of a value; of a dict of our own, too -/
def TyY (K : PySem.W.Frag) (H : Hp) (x : V) (t : Value) : Prop := TyX K H x t ∨ (t = .type "dict" ∧ ∃ a o xs, x = .ref a ∧ H a = some (.frz o (dctO a xs)))
theorem kit_ofY {X : Cx} {pins : List (Addr × Obj)} {σ : L2.St} {H : Hp} {s : Shared} {x : V} {u t : Value} (I : Inv X pins σ H s) (rx : RelV x u) (ty : TyY X.K H x t) : ∃ P : Heap → Prop, PySem.W.KitX X.K u t P ∧ P s.heap ∧ u ≠ .builtin "__main__.__loader__#opaque" := by
  rcases ty with ty | ⟨rfl, a, ob, xs, rfl, h⟩
  · exact kit_of I rx ty
  · cases (show u = Value.ref a from rx)
    obtain ⟨_, ⟨_, _, _, o, es, ep, h1, h2, _⟩, _⟩ := (show ObjOk X.prog X.w H s.heap a (.frz ob (.ext (DctAt a xs))) from I.hok a _ h)
    exact ⟨_, PySem.W.kitx_dict, ⟨o, h1, h2.1⟩, fun z => nomatch z⟩
def rIsiY (K : PySem.W.Frag) : List V → Hp → VK → Prop := fun xs H Q => ∃ (x c : V) (t u : Value) (b : Bool), xs = [x, c] ∧ ClsV c u ∧ TyY K H x t ∧ PySem.W.kitOne K t u = some b ∧ Q (.bl b) H
section
variable {X : Cx}
theorem callY_isi : CallR X (.builtin "isinstance") (rIsiY X.K) := by
  intro pins s σ H xs us Q I r h
  obtain ⟨x, c, t, u, b, rfl, k, ty, e, q⟩ := h
  obtain ⟨u1, u2, rfl, r1, r2⟩ := vals2 r
  have e2 := k.eq r2
  subst e2
  obtain ⟨P, Z, p, hx⟩ := kit_ofY I r1 ty
  exact PySem.W.kia_one Z I.kIn p e hx fun tk => ⟨.bl b, H, I.tok tk, rfl, q⟩
end
theorem Dv.tyx {K : PySem.W.Frag} {F H : Hp} {v : V} {d : D} {n : String} (s : Same F H) (h : Dv K F v d) (e : d.tn = some n) : TyY K H v (.type n) := by
  cases h with
  | non => cases e; exact .inl <| .base .non
  | bl b => cases e; exact .inl <| .base (.bl b)
  | int i => cases e; exact .inl <| .base (.int i)
  | str x => cases e; exact .inl <| .base (.str x)
  | tup h a =>
    cases e
    rcases Same.seqT s h with h | ⟨o, its, k, h1, h2, _⟩
    · rcases h with h | ⟨o, h⟩
      · exact .inl <| .base (.tup h)
      · exact .inl <| .fTuple h
    · exact .inl <| .kTuple h1 h2
  | lst h a => cases e; exact .inl <| .base (.lst (s _ _ h))
  | ro h a =>
    cases e
    rcases s.seq h with h | ⟨o, its, k, h1, h2, _⟩
    · rcases h with h | ⟨o, h⟩
      · exact .inl <| .base (.lst h)
      · exact .inl <| .base (.frz h)
    · exact .inl <| .kList h1 h2
  | ob => cases e
  | exc => cases e
  | dct h p => cases e; exact .inr ⟨rfl, _, _, _, rfl, s _ _ h⟩
  | thk _ _ _ => cases e
/-- the tests of types that are asked: none is asked of an object -/
def isI : D → Bool
  | .int _ => true
  | .bl _ => true
  | _ => false
def isB : D → Bool
  | .bl _ => true
  | _ => false
def isS : D → Bool
  | .str _ => true
  | _ => false
def isT : D → Bool
  | .tup _ => true
  | _ => false
def isO : D → Bool
  | .ob _ => true
  | .exc _ _ _ _ _ => true
  | .thk _ _ _ _ _ _ => true
  | _ => false
def dIsi (tst : D → Bool) (f : We) : We := fun ρ Q E => f ρ (fun d ρ1 => isO d = false ∧ Q (.bl (tst d)) ρ1) E
/-- the test tst is isinstance(.., T), by the table of built-in types -/
def TyTest (tst : D → Bool) (T : String) : Prop := ∀ d n, d.tn = some n → kitB n T = some (tst d)
theorem tt_int : TyTest isI "int" := fun d n e => by cases d <;> cases e <;> (dsimp only [isI]; decide +kernel)
theorem tt_bool : TyTest isB "bool" := fun d n e => by cases d <;> cases e <;> (dsimp only [isB]; decide +kernel)
theorem tt_str : TyTest isS "str" := fun d n e => by cases d <;> cases e <;> (dsimp only [isS]; decide +kernel)
theorem tt_tuple : TyTest isT "tuple" := fun d n e => by cases d <;> cases e <;> (dsimp only [isT]; decide +kernel)
theorem tn_of {d : D} (h : isO d = false) : ∃ n, d.tn = some n := by
  cases d with
  | ob v => cases h
  | exc a C dd d => cases h
  | thk f c q σ is ds => cases h
  | _ => exact ⟨_, rfl⟩
theorem de_isi {tst : D → Bool} {y : Str} {p2 : Pos} (tt : TyTest tst T) (hg : Gl X "isinstance") (hm : X.mg "isinstance" = none) (hgy : Gl X y) (hmy : X.mg y = none) (hvy : bootBuiltins y = some (.type T)) (h : DE X e fe)
    (hn : y ≠ "__name__" := by decide) (hd : (y == ("__debug__" : Str)) = false := by decide)
    (he : starEach (e :: [Expr.Name y p2]) X.env = (false, eval e X.env) :: starEach [Expr.Name y p2] X.env := by rfl) :
    DE X (.Call (.Name "isinstance" p) [e, .Name y p2] [] pos) (dIsi tst fe) := by
  refine ⟨fun ρ Q Q' E E' hQ hE hw => h.mono ρ _ _ _ _ (fun d ρ1 ⟨a, q⟩ => ⟨a, hQ _ _ q⟩) hE hw, fun W tk => ?_⟩
  obtain ⟨t, pt, k⟩ := h.run W tk
  refine ⟨_, pe_callB callY_isi hg hm (by decide +kernel) (pa_cons pt (pa_cons (pe_bltn (v := .ty T) hgy hmy hvy rfl hn hd) pa_nil) he) (he := he), fun R F σ H ρ Q r hw => k R F σ H ρ _ r (h.mono _ _ _ _ _ (fun d ρ1 ⟨o, q⟩ F1 H1 v s1 r1 dv => ?_) (fun _ _ z => z) hw)⟩
  obtain ⟨n, en⟩ := tn_of o
  exact ⟨v, .ty T, .type n, .type T, _, rfl, .ty T, dv.tyx r1.sF en, kit_ty (tt d n en), q F1 H1 _ s1 r1 (.bl _)⟩
end
end DL
namespace DL
open PySem PySem.Spec PyProof.Rows L2
variable [TabSet]

/-! ### methods of an own list -/
/-- found.append(e) and its like, as an expression: g from the list's items and the arguments: the value and the new items -/
abbrev GM := List D → List D → (D → List D → Prop) → Prop
structure DMt (X : Cx) (id : String) (g : GM) : Prop where
  mono : ∀ x y (Q Q' : D → List D → Prop), (∀ d l, Q d l → Q' d l) → g x y Q → g x y Q'
  run : ∃ r, MtR X id r ∧ ∀ F H a vs xs ws ys (Q : VK), H a = some (.lst vs) → DvA X.K F vs xs → DvA X.K F ws ys → g xs ys (fun d zs => ∀ us v, DvA X.K F us zs → Dv X.K F v d → Q v (upd H a (.lst us))) → r (.ref a) ws H Q
def dMt (i : Nat) (g : GM) (fa : Wa) : We := fun ρ Q E => ∃ a xs, ρ[i]? = some (some (.own a xs)) ∧ fa ρ (fun ys ρ1 => ∃ xs1, ρ1[i]? = some (some (.own a xs1)) ∧ g xs1 ys fun d zs => Q d (ρ1.set i (some (.own a zs)))) E
section
variable {X : Cx} {e : Expr} {es : List Expr} {fa : Wa} {g : GM} {name x : Str} {id : String} {apos cpos p2 : Pos} {i : Nat}
theorem de_mt (pa : PlainAttrs "list") (slot : Slot "list" name id) (hty : typeOf (.builtin id) = pure (.type "method_descriptor")) (hm : DMt X id g) (hN : X.N[i]? = some x) (hv : Vis X.env.scope x) (ha : DA X (e :: es) fa)
    (hd : (x == ("__debug__" : Str)) = false := by decide) (hcd : (x == ("__classdict__" : Str)) = false := by decide)
    (hbase : attributeBase (.Name x p2) name X.env (eval (.Name x p2) X.env) = eval (.Name x p2) X.env := by rfl)
    (hfew : ((backTo cpos (starEach (e :: es) X.env)).all (fun x => !x.1) && (backToKw cpos (keywordEach [] X.env)).all (fun x => x.1.isSome)
      && decide ((e :: es).length + ([] : List Keyword).length + (if ([] : List Keyword).isEmpty then 0 else 1) < 30)) = true := by rfl)
    (hline : (apos.endLine == cpos.line) = true := by rfl) (hs : starEach (e :: es) X.env = (false, eval e X.env) :: starEach es X.env := by rfl) (hplain : (backTo cpos (starEach es X.env)).any (·.1) = false := by rfl) :
    DE X (.Call (.Attribute (.Name x p2) name apos) (e :: es) [] cpos) (dMt i g fa) := by
  refine ⟨fun ρ Q Q' E E' hQ hE ⟨a, xs, h0, hw⟩ => ⟨a, xs, h0, ha.mono _ _ _ _ _ (fun ys ρ1 ⟨xs1, h1, h2⟩ => ⟨xs1, h1, hm.mono _ _ _ _ (fun d zs q => hQ _ _ q) h2⟩) hE hw⟩, fun W tk => ?_⟩
  obtain ⟨t, pt, k⟩ := ha.run W tk
  obtain ⟨r, hr, hd'⟩ := hm.run
  refine ⟨_, pe_bm pa slot hty hr (pe_var (pos := p2) hN hv hd hcd) pt hbase hfew hline hs hplain, fun R F σ H ρ Q rl ⟨a, xs, h0, hw⟩ => ?_⟩
  obtain ⟨vs0, g1, g2, g3⟩ := rl.borrow h0
  refine ⟨_, g1, .inl ⟨rfl, _, SqL.of g2⟩, ?_⟩
  refine k R F σ H ρ _ rl (ha.mono _ _ _ _ _ (fun ys ρ1 ⟨xs1, h1, h2⟩ F1 H1 ws s1 r1 dv => ?_) (fun _ _ z => z) hw)
  obtain ⟨vs, _, g5, g6⟩ := r1.borrow h1
  exact hd' F1 H1 a vs xs1 ws ys Q g5 g6 dv (hm.mono _ _ _ _ (fun d zs q us v du dd => q F1 _ v s1 (r1.write h1 du) dd) h2)
def gApp : GM := fun xs ys Q => ∃ y, ys = [y] ∧ xs.length < sizeLine ∧ Q .non (xs ++ [y])
theorem m_app : DMt X "list.append" gApp := ⟨fun _ _ _ _ h ⟨y, e, l, q⟩ => ⟨y, e, l, h _ _ q⟩, _, mt_append, fun F H a vs xs ws ys Q hH d1 d2 ⟨y, e, l, q⟩ => by
  subst e
  cases d2 with
  | cons h1 h2 => cases h2; exact ⟨_, _, _, rfl, rfl, hH, by rw [d1.length]; exact l, q _ _ (d1.append (.cons h1 .nil)) .non⟩⟩
end
/-- found.extend(e) -/
def dExtend (i : Nat) (f : We) : We := fun ρ Q E => ∃ a xs, ρ[i]? = some (some (.own a xs)) ∧ f ρ (fun d ρ1 => ∃ xs1 zs, ρ1[i]? = some (some (.own a xs1)) ∧ d = .lst zs ∧ xs1.length + zs.length ≤ sizeLine ∧ Q .non (ρ1.set i (some (.own a (xs1 ++ zs))))) E
/-! ### found[i] = e -/
def dSetI (i : Nat) (fk fe : We) : Ws := fun ρ D => fe ρ (fun d ρ1 => ∃ a xs, ρ1[i]? = some (some (.own a xs)) ∧ fk ρ1 (fun y ρ2 => ∃ xs2 k j, ρ2[i]? = some (some (.own a xs2)) ∧ y = .int k ∧ ixN xs2.length k = some j ∧ D.nx (ρ2.set i (some (.own a (xs2.set j d))))) D.ex) D.ex
theorem ds_setI {X : Cx} {k e : Expr} {fk fe : We} {x : Str} {p2 p3 pos : Pos} {i : Nat} (hN : X.N[i]? = some x) (hv : Vis X.env.scope x) (hk : DE X k fk) (he : DE X e fe)
    (hd : (x == ("__debug__" : Str)) = false := by decide) (hcd : (x == ("__classdict__" : Str)) = false := by decide)
    (ha : ∀ v, assign (.Subscript (.Name x p2) k p3) X.env v = (do
      let ov ← holding [v] (eval (.Name x p2) X.env)
      let iv ← holding [v, ov] (eval k X.env)
      standAt p3
      holding [v, ov, iv] (setItem ov iv v)
      release [v, ov, iv] []) := by intro _; rfl)
    (hs : swapsWithSole [.Subscript (.Name x p2) k p3] e pos.line X.env = pure false := by rfl) (hw : swappedStores [.Subscript (.Name x p2) k p3] e X.env = pure none := by rfl)
    (h1 : (assignEach [.Subscript (.Name x p2) k p3] X.env).map (·.2) = [assign (.Subscript (.Name x p2) k p3) X.env] := by rfl) : DS X (.Assign [.Subscript (.Name x p2) k p3] e pos) (dSetI i fk fe) := by
  refine ⟨fun ρ D D' l hw => he.mono ρ _ _ _ _ (fun d ρ1 ⟨a, xs, h1, h2⟩ => ⟨a, xs, h1, hk.mono _ _ _ _ _ (fun y ρ2 ⟨xs2, k, j, h3, h4, h5, h6⟩ => ⟨xs2, k, j, h3, h4, h5, l.nx _ h6⟩) l.ex h2⟩) l.ex hw, fun W tk => ?_⟩
  obtain ⟨t1, p1, k1⟩ := he.run W tk
  obtain ⟨t2, pk2, k2⟩ := hk.run W tk
  refine ⟨_, ps_asg p1 (pg_sub (pe_var (pos := p2) hN hv hd hcd) pk2 set_list ha) hs hw h1, fun R F σ H ρ D r hw => ?_⟩
  refine k1 R F σ H ρ _ r (he.mono _ _ _ _ _ (fun d ρ1 ⟨a, xs, h1, h2⟩ F1 H1 v s1 r1 dv => ?_) upS.exX hw)
  refine ⟨_, (r1.own i a xs h1).1, ?_⟩
  refine k2 R F1 σ H1 ρ1 _ r1 (hk.mono _ _ _ _ _ (fun y ρ2 ⟨xs2, kk, j, h3, h4, h5, h6⟩ F2 H2 w s2 r2 dw => ?_) (fun x ρ z => upX.mono s1 x ρ (upS.exX (D := D) x ρ z)) h2)
  subst h4
  cases dw
  obtain ⟨vs, _, g5, g6⟩ := r2.borrow h3
  exact ⟨a, vs, kk, j, rfl, rfl, g5, by rw [g6.length]; exact h5, h6 F2 σ _ (s1.trans s2) (r2.write h3 (DvA.set (dv.mono s2) j g6))⟩

/-! ### expressions that make a new list -/
structure DN (X : Cx) (e : Expr) (f : Wa) : Prop where
  mono : MonoA f
  run : ∀ (W : WX), Takes X W → ∃ t, PE X e t ∧ ∀ R F σ H ρ (Q : VK), Rel X.K R F ρ σ H → f ρ (fun xs ρ' => ∀ F' H' p vs, Same F F' → Rel X.K R F' ρ' σ H' → H' p = none → DvA X.K F' vs xs → Q (.ref p) (upd H' p (.lst vs))) (upX X.K R F σ W) → t σ H Q
section
variable {X : Cx} {e : Expr} {es : List Expr} {fa : Wa} {f : We} {pos : Pos}
def nLst (g : Wa) : Wa := fun ρ Q E => g ρ (fun xs ρ1 => xs.length ≤ sizeLine ∧ Q xs ρ1) E
theorem dn_lst (h : DA X es fa) : DN X (.List es pos) (nLst fa) := by
  refine ⟨fun ρ Q Q' E E' hQ hE hw => h.mono ρ _ _ _ _ (fun x ρ1 ⟨h1, h2⟩ => ⟨h1, hQ _ _ h2⟩) hE hw, fun W tk => ?_⟩
  obtain ⟨ta, pa, ka⟩ := h.run W tk
  refine ⟨_, pe_lst pa, fun R F σ H ρ Q r hw => ka R F σ H ρ _ r (h.mono _ _ _ _ _ (fun ds ρ1 ⟨h1, h2⟩ F1 H1 xs s1 r1 d1 => ?_) (fun _ _ z => z) hw)⟩
  exact ⟨by rw [d1.length]; exact h1, fun p hp => h2 F1 H1 p xs s1 r1 hp d1⟩
/-- list(e) -/
def nLstC (f : We) : Wa := fun ρ Q E => f ρ (fun d ρ1 => ∃ xs, itemsD d = some xs ∧ Q xs ρ1) E
/-- name = a new list, the local's own from here on -/
def dNew (i : Nat) (fa : Wa) : Ws := fun ρ D => fa ρ (fun xs ρ1 => ∀ p, D.nx (ρ1.set i (some (.own p xs)))) D.ex
theorem ds_new {i : Nat} {x : Str} {pos' : Pos} (hN : X.N.Nodup) (hi : X.N[i]? = some x) (hx : Loc X.env.scope x) (he : DN X e fa) (hs : swapsWith e (some (.Name x pos')) pos.line X.env = pure false := by rfl) (hf : X.fn x = true ∨ X.env.scope.names.lookup x = some .local := by first | exact .inl rfl | exact .inr rfl | assumption) :
    DS X (.Assign [.Name x pos'] e pos) (dNew i fa) := by
  refine ⟨fun ρ D D' l hw => he.mono ρ _ _ _ _ (fun d ρ1 z p => l.nx _ (z p)) l.ex hw, fun W tk => ?_⟩
  obtain ⟨t1, p1, k1⟩ := he.run W tk
  refine ⟨_, ps_set hN hi hx p1 hs hf, fun R F σ H ρ D r hw => k1 R F σ H ρ _ r (he.mono _ _ _ _ _ (fun xs ρ1 z F1 H1 p vs s1 r1 hp dv => ?_) upS.exX hw)⟩
  exact z p F1 _ _ s1 (r1.allocOwn hp dv)
/-- return of a new list -/
def dRetL (fa : Wa) : Ws := fun ρ D => fa ρ D.rn D.ex
theorem ds_retL (h : DN X e fa) : DS X (.Return (some e) pos) (dRetL fa) := by
  refine ⟨fun ρ D D' l hw => h.mono ρ _ _ _ _ l.rn l.ex hw, fun W tk => ?_⟩
  obtain ⟨t, p, k⟩ := h.run W tk
  refine ⟨_, ps_ret p, fun R F σ H ρ D r hw => k R F σ H ρ _ r (h.mono _ _ _ _ _ (fun xs ρ1 z F1 H1 p vs s1 r1 hp dv => z F1 σ H1 p vs s1 r1 hp dv) upS.exX hw)⟩
end

/-! ### a, b = e1, e2 (and three), some of them new lists -/
inductive Mv where
  | e (d : D) | n (xs : List D)
abbrev Wm := Env → (List Mv → Env → Prop) → Qx → Prop
/-- the values vs stand for ms; R1: R with the new lists at the addresses S -/
inductive MR (K : PySem.W.Frag) (R R1 F : Hp) : List Mv → List V → List Addr → Prop
  | nil : MR K R R1 F [] [] []
  | e {v d ms vs S} : Dv K F v d → MR K R R1 F ms vs S → MR K R R1 F (.e d :: ms) (v :: vs) S
  | n {p ws xs ms vs S} : R p = none → R1 p = some (.lst ws) → DvA K F ws xs → p ∉ S → MR K R R1 F ms vs S → MR K R R1 F (.n xs :: ms) (.ref p :: vs) (p :: S)
structure DM (X : Cx) (es : List Expr) (f : Wm) : Prop where
  mono : ∀ ρ (Q Q' : List Mv → Env → Prop) (E E' : Qx), (∀ d ρ, Q d ρ → Q' d ρ) → (∀ x ρ, E x ρ → E' x ρ) → f ρ Q E → f ρ Q' E'
  run : ∀ (W : WX), Takes X W → ∃ t, PA X es t ∧ ∀ R F σ H ρ (Q : List V → Hp → Prop), Rel X.K R F ρ σ H → f ρ (fun ms ρ' => ∀ R1 F' H' vs S, Same F F' → Same R R1 → Rel X.K R1 F' ρ' σ H' → MR X.K R R1 F' ms vs S → Q vs H') (upX X.K R F σ W) → t σ H Q
def mNil : Wm := fun ρ Q _ => Q [] ρ
def mE (f : We) (g : Wm) : Wm := fun ρ Q E => f ρ (fun d ρ1 => g ρ1 (fun ms ρ2 => Q (.e d :: ms) ρ2) E) E
def mN (f : Wa) (g : Wm) : Wm := fun ρ Q E => f ρ (fun xs ρ1 => g ρ1 (fun ms ρ2 => Q (.n xs :: ms) ρ2) E) E
section
variable {X : Cx} {e : Expr} {es : List Expr} {f : We} {fa : Wa} {g : Wm} {pos : Pos}
theorem MR.mono {K : PySem.W.Frag} {R R1 F F' : Hp} (s : Same F F') : ∀ {ms vs S}, MR K R R1 F ms vs S → MR K R R1 F' ms vs S := fun h => by
  induction h with
  | nil => exact .nil
  | e d _ ih => exact .e (d.mono s) ih
  | n a b c d _ ih => exact .n a b (c.mono s) d ih
theorem upX.framed {K : PySem.W.Frag} {R R1 F : Hp} {σ : L2.St} {W : WX} (s : Same R R1) (hd : ∀ F ρ H, Rel K R1 F ρ σ H → Rel K R F ρ σ H) : ∀ x ρ, upX K R F σ W x ρ → upX K R1 F σ W x ρ := fun _ _ h F2 H2 cls dd s2 r e => h F2 H2 cls dd s2 (hd _ _ _ r) e
theorem Rel.lessR {K : PySem.W.Frag} {R R1 F : Hp} {ρ : Env} {σ : L2.St} {H : Hp} (s : Same R R1) (r : Rel K R1 F ρ σ H) : Rel K R F ρ σ H :=
  ⟨r.sF, s.trans r.sR, fun a o h => Same.free s (r.dj a o h), r.len, r.fz, fun i a xs h => let ⟨h1, h2, h3, h4⟩ := r.own i a xs h; ⟨h1, h2, h3, Same.free s h4⟩, r.inj, r.tb.less s⟩
theorem dm_nil : DM X [] mNil := ⟨fun _ _ _ _ _ hQ _ h => hQ _ _ h, fun W tk => ⟨_, pa_nil, fun R F σ H ρ Q r h => h R F H [] [] (Same.refl F) (Same.refl R) r .nil⟩⟩
theorem dm_e (h : DE X e f) (hr : DM X es g) (hs : starEach (e :: es) X.env = (false, eval e X.env) :: starEach es X.env := by rfl) : DM X (e :: es) (mE f g) := by
  refine ⟨fun ρ Q Q' E E' hQ hE hw => h.mono ρ _ _ _ _ (fun d ρ1 z => hr.mono ρ1 _ _ _ _ (fun ms ρ2 q => hQ _ _ q) hE z) hE hw, fun W tk => ?_⟩
  obtain ⟨t1, p1, k1⟩ := h.run W tk
  obtain ⟨t2, p2, k2⟩ := hr.run W tk
  refine ⟨_, pa_cons p1 p2 hs, fun R F σ H ρ Q r hw => k1 R F σ H ρ _ r (h.mono _ _ _ _ _ (fun d ρ1 z F1 H1 v s1 r1 dv => ?_) (fun _ _ z => z) hw)⟩
  refine k2 R F1 σ H1 ρ1 _ r1 (hr.mono _ _ _ _ _ (fun ms ρ2 q R1 F2 H2 vs S s2 sr r2 m => ?_) (upX.mono s1) z)
  exact q R1 F2 H2 _ S (s1.trans s2) sr r2 (.e (dv.mono s2) m)
/-- a list that another one holds -/
theorem Rel.frame {K : PySem.W.Frag} {R F : Hp} {ρ : Env} {σ : L2.St} {H : Hp} {p : Addr} {o : HO} (r : Rel K R F ρ σ H) (hp : H p = none) (n : Plain o) : Rel K (upd R p o) F ρ σ (upd H p o) ∧ Same R (upd R p o) := by
  have hF : F p = none := Same.free r.sF hp
  have hR : R p = none := Same.free r.sR hp
  refine ⟨⟨fun b u q => ?_, fun b u q => ?_, fun b u q => ?_, r.len, r.fz, fun i a xs e => ?_, r.inj, (r.tb.new hp).held n⟩, same_upd hR⟩
  · rw [upd_ne (ne_of_none q hF)]; exact r.sF _ _ q
  · by_cases hb : b = p
    · subst hb; rw [upd_same] at q ⊢; exact q
    · rw [upd_ne hb] at q ⊢; exact r.sR _ _ q
  · by_cases hb : b = p
    · subst hb; rw [hF] at q; cases q
    · rw [upd_ne hb]; exact r.dj _ _ q
  · obtain ⟨h1, ⟨vs, h2, h3⟩, h4, h5⟩ := r.own i a xs e
    have ne : a ≠ p := ne_of_none h2 hp
    exact ⟨h1, ⟨vs, by rw [upd_ne ne]; exact h2, h3⟩, h4, by rw [upd_ne ne]; exact h5⟩
theorem dm_n (h : DN X e fa) (hr : DM X es g) (hs : starEach (e :: es) X.env = (false, eval e X.env) :: starEach es X.env := by rfl) : DM X (e :: es) (mN fa g) := by
  refine ⟨fun ρ Q Q' E E' hQ hE hw => h.mono ρ _ _ _ _ (fun d ρ1 z => hr.mono ρ1 _ _ _ _ (fun ms ρ2 q => hQ _ _ q) hE z) hE hw, fun W tk => ?_⟩
  obtain ⟨t1, p1, k1⟩ := h.run W tk
  obtain ⟨t2, p2, k2⟩ := hr.run W tk
  refine ⟨_, pa_cons p1 p2 hs, fun R F σ H ρ Q r hw => k1 R F σ H ρ _ r (h.mono _ _ _ _ _ (fun xs ρ1 z F1 H1 p ws s1 r1 hp dv => ?_) (fun _ _ z => z) hw)⟩
  obtain ⟨r1', sR⟩ := r1.frame (o := .lst ws) hp plain_lst
  have hR : R p = none := Same.free r1.sR hp
  refine k2 (upd R p (.lst ws)) F1 σ _ ρ1 _ r1' (hr.mono _ _ _ _ _ (fun ms ρ2 q R1 F2 H2 vs S s2 sr r2 m => ?_) (fun x ρ z => upX.framed sR (fun _ _ _ r => r.lessR sR) x ρ (upX.mono s1 x ρ z)) z)
  have m' : p ∉ S ∧ MR X.K R R1 F2 ms vs S := by
    clear q
    induction m with
    | nil => exact ⟨by simp, .nil⟩
    | e d _ ih => exact ⟨ih.1, .e d ih.2⟩
    | @n p' ws' xs' ms' vs' S' a b c d _ ih =>
      have ne : p' ≠ p := fun z => by subst z; rw [upd_same] at a; cases a
      rw [upd_ne ne] at a
      exact ⟨by simp only [List.mem_cons, not_or]; exact ⟨Ne.symm ne, ih.1⟩, .n a b c d ih.2⟩
  exact q R1 F2 H2 _ (p :: S) (s1.trans s2) (sR.trans sr) r2 (.n hR (sr _ _ upd_same) (dv.mono s2) m'.1 m'.2)
def setM (i : Nat) (m : Mv) (ρ : Env) (Q : Env → Prop) : Prop := match m with
  | .e d => Q (ρ.set i (some (.fz d)))
  | .n xs => ∀ p, Q (ρ.set i (some (.own p xs)))
/-- a held list becomes a local's own -/
theorem Rel.take {K : PySem.W.Frag} {R1 F : Hp} {ρ : Env} {σ : L2.St} {H : Hp} {p : Addr} {ws : List V} {xs : List D} {i : Nat} (r : Rel K R1 F ρ σ H) (hp : R1 p = some (.lst ws)) (d : DvA K F ws xs) :
    Rel K (fun b => if b = p then none else R1 b) F (ρ.set i (some (.own p xs))) (σ.set i (some (.ref p))) H := by
  have hH := r.sR _ _ hp
  have hF : F p = none := by
    cases e : F p with
    | none => rfl
    | some o => have := r.dj _ _ e; rw [hp] at this; cases this
  have no : ∀ (m : Nat) (us : List D), ρ[m]? = some (some (Sv.own p us)) → False := fun m us e => by
    obtain ⟨_, _, _, h⟩ := r.own m p us e
    rw [hp] at h; cases h
  have key : ∀ m a us, (ρ.set i (some (.own p xs)))[m]? = some (some (.own a us)) → (m = i ∧ a = p ∧ us = xs ∧ i < ρ.length) ∨ (m ≠ i ∧ ρ[m]? = some (some (.own a us))) := fun m a us e => by
    by_cases hm : i = m
    · subst hm
      by_cases hl : i < ρ.length
      · rw [List.getElem?_set_self hl] at e; cases e; exact .inl ⟨rfl, rfl, rfl, hl⟩
      · rw [List.getElem?_eq_none (by simpa using hl)] at e; cases e
    · rw [List.getElem?_set_ne hm] at e; exact .inr ⟨Ne.symm hm, e⟩
  refine ⟨r.sF, fun b u q => ?_, fun b u q => ?_, by simp [r.len], fun j e' e => ?_, fun j a us e => ?_, fun j l a us zs e1 e2 => ?_, r.tb.less fun b u q => ?_⟩
  · by_cases hb : b = p
    · rw [if_pos hb] at q; cases q
    · rw [if_neg hb] at q; exact r.sR _ _ q
  · by_cases hb : b = p
    · rw [if_pos hb]
    · rw [if_neg hb]; exact r.dj _ _ q
  · by_cases hj : i = j
    · subst hj
      by_cases hl : i < ρ.length
      · rw [List.getElem?_set_self hl] at e; cases e
      · rw [List.getElem?_eq_none (by simpa using hl)] at e; cases e
    · rw [List.getElem?_set_ne hj] at e ⊢; exact r.fz j _ e
  · rcases key j a us e with ⟨rfl, rfl, rfl, hl⟩ | ⟨hj, e'⟩
    · exact ⟨List.getElem?_set_self (by rw [← r.len]; exact hl), ⟨ws, hH, d⟩, hF, if_pos rfl⟩
    · rw [List.getElem?_set_ne (Ne.symm hj)]
      obtain ⟨h1, h2, h3, h4⟩ := r.own j a us e'
      have ne : a ≠ p := fun z => by subst z; exact no _ _ e'
      exact ⟨h1, h2, h3, by rw [if_neg ne]; exact h4⟩
  · rcases key j a us e1 with ⟨h1, h2, _⟩ | ⟨h1, h2⟩
    · rcases key l a zs e2 with ⟨h3, h4, _⟩ | ⟨h3, h4⟩
      · rw [h1, h3]
      · subst h2; exact (no _ _ h4).elim
    · rcases key l a zs e2 with ⟨h3, h4, _⟩ | ⟨h3, h4⟩
      · subst h4; exact (no _ _ h2).elim
      · exact r.inj j l a us zs h2 h4
  · by_cases hb : b = p
    · rw [if_pos hb] at q; cases q
    · rw [if_neg hb] at q; exact q
/-- one target is stored -/
theorem set_one {K : PySem.W.Frag} {R R1 F F0 : Hp} {ρ : Env} {σ : L2.St} {H : Hp} {m : Mv} {ms : List Mv} {v : V} {vs : List V} {S : List Addr} {i : Nat} {Q : Env → Prop} (sR : Same R R1) (r : Rel K R1 F ρ σ H) (h : MR K R R1 F (m :: ms) (v :: vs) S) (q : setM i m ρ Q) :
    ∃ ρ' R2 S', Same R R2 ∧ Rel K R2 F ρ' (σ.set i (some v)) H ∧ MR K R R2 F ms vs S' ∧ Q ρ' := by
  cases h with
  | e d t => exact ⟨_, R1, S, sR, r.setF d, t, q⟩
  | @n p ws xs _ _ S' a b c d t =>
    refine ⟨_, _, S', fun b' u z => ?_, r.take b c, ?_, q p⟩
    · show (if b' = p then none else R1 b') = some u
      have ne : b' ≠ p := fun e => by subst e; rw [a] at z; cases z
      rw [if_neg ne]
      exact sR _ _ z
    · clear q r c
      induction t with
      | nil => exact .nil
      | e d' _ ih => exact .e d' (ih d)
      | @n p' ws' xs' ms' vs' S'' a' b' c' d' _ ih =>
        simp only [List.mem_cons, not_or] at d
        have ne : p' ≠ p := Ne.symm d.1
        exact .n a' (by show (if p' = p then none else R1 p') = _; rw [if_neg ne]; exact b') c' d' (ih d.2)
def dPar2 (i j : Nat) (fm : Wm) : Ws := fun ρ D => fm ρ (fun ms ρ1 => ∃ m1 m2, ms = [m1, m2] ∧ setM i m1 ρ1 fun ρ2 => setM j m2 ρ2 D.nx) D.ex
theorem setM_mono {i : Nat} {m : Mv} {ρ : Env} {Q Q' : Env → Prop} (h : ∀ ρ, Q ρ → Q' ρ) (z : setM i m ρ Q) : setM i m ρ Q' := by
  cases m with
  | e d => exact h _ z
  | n xs => exact fun p => h _ (z p)
theorem ds_par2 {i j : Nat} {x y : Str} {a b : Expr} {fm : Wm} {px py pt : Pos} {kt k2 pt2} (hc : X.calm = true) (hN : X.N.Nodup) (hi : X.N[i]? = some x) (hj : X.N[j]? = some y) (hij : i ≠ j)
    (hx : X.env.scope.names.lookup x = some .local) (hy : X.env.scope.names.lookup y = some .local) (ha : DM X [a, b] fm)
    (hw : swappedStores [.Tuple [.Name x px, .Name y py] kt pt] (.Tuple [a, b] k2 pt2) X.env = pure (some [x, y]))
    (hs : swapsWithSole [.Tuple [.Name x px, .Name y py] kt pt] (.Tuple [a, b] k2 pt2) pos.line X.env = pure false := by rfl) :
    DS X (.Assign [.Tuple [.Name x px, .Name y py] kt pt] (.Tuple [a, b] k2 pt2) pos) (dPar2 i j fm) := by
  refine ⟨fun ρ D D' l hw => ha.mono ρ _ _ _ _ (fun ms ρ1 ⟨m1, m2, e, z⟩ => ⟨m1, m2, e, setM_mono (fun ρ2 z2 => setM_mono l.nx z2) z⟩) l.ex hw, fun W tk => ?_⟩
  obtain ⟨t, p, k⟩ := ha.run W tk
  refine ⟨_, ps_par hc hN hi hj hij hx hy p hw hs, fun R F σ H ρ D r hw' => k R F σ H ρ _ r (ha.mono _ _ _ _ _ (fun ms ρ1 ⟨m1, m2, e, z⟩ R1 F1 H1 vs S s1 sr r1 m => ?_) upS.exX hw')⟩
  subst e
  have hvs : ∃ v w, vs = [v, w] := by
    cases m with
    | e d t => cases t with
      | e d t => cases t; exact ⟨_, _, rfl⟩
      | n _ _ _ _ t => cases t; exact ⟨_, _, rfl⟩
    | n _ _ _ _ t => cases t with
      | e d t => cases t; exact ⟨_, _, rfl⟩
      | n _ _ _ _ t => cases t; exact ⟨_, _, rfl⟩
  obtain ⟨v, w, rfl⟩ := hvs
  obtain ⟨ρ2, R2, S2, sr2, r2, t2, z2⟩ := set_one (F0 := F) (i := i) sr r1 m z
  obtain ⟨ρ3, R3, S3, sr3, r3, t3, z3⟩ := set_one (F0 := F) (i := j) sr2 r2 t2 z2
  exact ⟨v, w, rfl, z3 F1 _ H1 s1 (r3.lessR sr3)⟩
def dPar3 (i j l : Nat) (fm : Wm) : Ws := fun ρ D => fm ρ (fun ms ρ1 => ∃ m1 m2 m3, ms = [m1, m2, m3] ∧ setM i m1 ρ1 fun ρ2 => setM j m2 ρ2 fun ρ3 => setM l m3 ρ3 D.nx) D.ex
theorem MR.len {K : PySem.W.Frag} {R R1 F : Hp} {ms : List Mv} {vs : List V} {S : List Addr} (h : MR K R R1 F ms vs S) : vs.length = ms.length := by
  induction h with
  | nil => rfl
  | e _ _ ih => rw [List.length_cons, List.length_cons, ih]
  | n _ _ _ _ _ ih => rw [List.length_cons, List.length_cons, ih]
theorem ds_par3 {i j l : Nat} {x y z : Str} {a b c : Expr} {fm : Wm} {px py pz pt : Pos} {kt k2 pt2} (hc : X.calm = true) (hN : X.N.Nodup) (hi : X.N[i]? = some x) (hj : X.N[j]? = some y) (hl : X.N[l]? = some z) (hij : i ≠ j) (hil : i ≠ l) (hjl : j ≠ l)
    (hx : X.env.scope.names.lookup x = some .local) (hy : X.env.scope.names.lookup y = some .local) (hz : X.env.scope.names.lookup z = some .local) (ha : DM X [a, b, c] fm)
    (hw : swappedStores [.Tuple [.Name x px, .Name y py, .Name z pz] kt pt] (.Tuple [a, b, c] k2 pt2) X.env = pure (some [x, y, z]))
    (hs : swapsWithSole [.Tuple [.Name x px, .Name y py, .Name z pz] kt pt] (.Tuple [a, b, c] k2 pt2) pos.line X.env = pure false := by rfl) :
    DS X (.Assign [.Tuple [.Name x px, .Name y py, .Name z pz] kt pt] (.Tuple [a, b, c] k2 pt2) pos) (dPar3 i j l fm) := by
  refine ⟨fun ρ D D' le hw => ha.mono ρ _ _ _ _ (fun ms ρ1 ⟨m1, m2, m3, e, z⟩ => ⟨m1, m2, m3, e, setM_mono (fun ρ2 z2 => setM_mono (fun ρ3 z3 => setM_mono le.nx z3) z2) z⟩) le.ex hw, fun W tk => ?_⟩
  obtain ⟨t, p, k⟩ := ha.run W tk
  refine ⟨_, ps_par3 hc hN hi hj hl hij hil hjl hx hy hz p hw hs, fun R F σ H ρ D r hw' => k R F σ H ρ _ r (ha.mono _ _ _ _ _ (fun ms ρ1 ⟨m1, m2, m3, e, z⟩ R1 F1 H1 vs S s1 sr r1 m => ?_) upS.exX hw')⟩
  subst e
  have hlen := m.len
  obtain ⟨v1, v2, v3, rfl⟩ : ∃ v1 v2 v3, vs = [v1, v2, v3] := by
    match vs, hlen with
    | [a, b, c], _ => exact ⟨a, b, c, rfl⟩
  obtain ⟨ρ2, R2, S2, sr2, r2, t2, z2⟩ := set_one (F0 := F) (i := i) sr r1 m z
  obtain ⟨ρ3, R3, S3, sr3, r3, t3, z3⟩ := set_one (F0 := F) (i := j) sr2 r2 t2 z2
  obtain ⟨ρ4, R4, S4, sr4, r4, t4, z4⟩ := set_one (F0 := F) (i := l) sr3 r3 t3 z3
  exact ⟨v1, v2, v3, rfl, z4 F1 _ H1 s1 (r4.lessR sr4)⟩
end
end DL
namespace DL
open PySem PySem.Spec PyProof.Rows L2
variable [TabSet]

/-! ### what a loop walks: data, fixed ahead of the loop -/
/-- J yields the items of ds in every state that keeps F -/
def Yields (K : PySem.W.Frag) (J : It) (R0 F : Hp) (ds : List D) : Prop := ∀ (i : Nat) R F1 ρ σ H, Same R0 R → Same F F1 → Rel K R F1 ρ σ H →
  (ds.length ≤ i → J.stop i H) ∧ ∀ d, ds[i]? = some d → J.go i H ∧ ∀ x H', J.yld i H x H' → ∃ F2, Same F1 F2 ∧ Rel K R F2 ρ σ H' ∧ Dv K F2 x d
theorem Yields.mono {K : PySem.W.Frag} {J : It} {R0 F F' : Hp} {ds : List D} (h : Yields K J R0 F ds) (s : Same F F') : Yields K J R0 F' ds := fun i R F1 ρ σ H s0 s1 r => h i R F1 ρ σ H s0 (s.trans s1) r
structure DI (X : Cx) (tg iter : Expr) (f : Wa) : Prop where
  mono : MonoA f
  run : ∀ (W : WX), Takes X W → ∃ ti, PI X tg iter ti ∧ ∀ R F σ H ρ (Q : It → Hp → Prop), Rel X.K R F ρ σ H → f ρ (fun ds ρ' => ∀ F' H' J, Same F F' → Rel X.K R F' ρ' σ H' → Yields X.K J R F' ds → Q J H') (upX X.K R F σ W) → ti σ H Q
/-- a list or a tuple -/
def iSeq (K : PySem.W.Frag) (tl : TE) : TI := fun σ H R => tl σ H fun x H1 => ∃ a, x = .ref a ∧ (((∃ xs, SqL K H1 a xs) ∧ R (Itl K a) H1) ∨ ((∃ xs, SqT K H1 a xs) ∧ R (Itt K a) H1))
theorem pi_seq {X : Cx} {tg l : Expr} {tl : TE} (hl : PE X l tl) : PI X tg l (iSeq X.K tl) := by
  refine ⟨fun pins s σ H R I h => ?_⟩
  refine thn (hl.run pins s σ H _ I h) fun v s1 ⟨x, H1, I1, r1, q1⟩ => ?_
  obtain ⟨a, e, q⟩ := q1
  subst e
  cases r1
  rcases q with ⟨⟨xs, hq⟩, q⟩ | ⟨⟨xs, hq⟩, q⟩
  · obtain ⟨its, rv, p, hz⟩ := I1.list hq
    refine wpAny_pyIter_list p.isList ?_
    refine ⟨s1.heap.objs.size, [s1.heap.objs.size], _, _, H1, rfl, I1.kept (t' := s1.toks) fun b o e => Heap.get?_push_of_some _ e, turn_list a _, ⟨_, Heap.get?_push_size _ rfl, rfl, rfl⟩, fun b hb => ?_, q⟩
    have e : b = s1.heap.objs.size := by simpa using hb
    subst e
    exact I1.fpOk (Nat.le_refl _) (I1.hok.fresh (Nat.le_refl _))
  · obtain ⟨its, rv, p, hz⟩ := I1.tuple hq
    refine wpAny_pyIter_tuple (show s1.heap.IsTuple a its.toArray from p) ?_
    refine ⟨s1.heap.objs.size, [s1.heap.objs.size], _, _, H1, rfl, I1.kept (t' := s1.toks) fun b o e => Heap.get?_push_of_some _ e, turn_tuple a _, ⟨_, Heap.get?_push_size _ rfl, rfl, rfl⟩, fun b hb => ?_, q⟩
    have e : b = s1.heap.objs.size := by simpa using hb
    subst e
    exact I1.fpOk (Nat.le_refl _) (I1.hok.fresh (Nat.le_refl _))
theorem yields_list {K : PySem.W.Frag} {R0 : Hp} {a : Addr} {F : Hp} {xs : List V} {ds : List D} (hq : SqL K F a xs) (ha : DvA K F xs ds) : Yields K (Itl K a) R0 F ds := fun i R F1 ρ σ H _ s r => by
  have hH := r.sF.seq (s.seq hq)
  refine ⟨fun h => ⟨xs, hH, by rw [ha.length]; exact h⟩, fun d e => ?_⟩
  obtain ⟨v, h1, h2⟩ := ha.get e
  refine ⟨⟨xs, v, hH, h1⟩, fun x H' ⟨eH, y⟩ => ?_⟩
  subst eH
  have := y xs hH
  rw [h1] at this
  cases this
  exact ⟨F1, Same.refl F1, r, h2.mono s⟩
theorem yields_tup {K : PySem.W.Frag} {R0 : Hp} {a : Addr} {F : Hp} {xs : List V} {ds : List D} (hq : SqT K F a xs) (ha : DvA K F xs ds) : Yields K (Itt K a) R0 F ds := fun i R F1 ρ σ H _ s r => by
  have hH := Same.seqT r.sF (Same.seqT s hq)
  refine ⟨fun h => ⟨xs, hH, by rw [ha.length]; exact h⟩, fun d e => ?_⟩
  obtain ⟨v, h1, h2⟩ := ha.get e
  refine ⟨⟨xs, v, hH, h1⟩, fun x H' ⟨eH, y⟩ => ?_⟩
  subst eH
  have := y xs hH
  rw [h1] at this
  cases this
  exact ⟨F1, Same.refl F1, r, h2.mono s⟩
def iItems (f : We) : Wa := fun ρ Q E => f ρ (fun d ρ1 => ∃ ds, itemsD d = some ds ∧ Q ds ρ1) E
theorem di_seq {X : Cx} {tg l : Expr} {f : We} (h : DE X l f) : DI X tg l (iItems f) := by
  refine ⟨fun ρ Q Q' E E' hQ hE hw => h.mono ρ _ _ _ _ (fun d ρ1 ⟨ds, e, q⟩ => ⟨ds, e, hQ _ _ q⟩) hE hw, fun W tk => ?_⟩
  obtain ⟨t, p, k⟩ := h.run W tk
  refine ⟨_, pi_seq p, fun R F σ H ρ Q r hw => k R F σ H ρ _ r (h.mono _ _ _ _ _ (fun d ρ1 ⟨ds, e, q⟩ F1 H1 v s1 r1 dv => ?_) (fun _ _ z => z) hw)⟩
  cases dv with
  | tup hq ha => cases e; exact ⟨_, rfl, .inr ⟨⟨_, Same.seqT r1.sF hq⟩, q F1 H1 _ s1 r1 (yields_tup hq ha)⟩⟩
  | lst hq ha => cases e; exact ⟨_, rfl, .inl ⟨⟨_, SqL.of (r1.sF _ _ hq)⟩, q F1 H1 _ s1 r1 (yields_list (SqL.of hq) ha)⟩⟩
  | ro hq ha => cases e; exact ⟨_, rfl, .inl ⟨⟨_, r1.sF.seq hq⟩, q F1 H1 _ s1 r1 (yields_list hq ha)⟩⟩
  | _ => cases e
/-- range -/
def rangeD (lo : Int) (n : Nat) : List D := (List.range n).map fun (i : Nat) => D.int (lo + (i : Int))
theorem rangeD_get {lo : Int} {n i : Nat} {d : D} (h : (rangeD lo n)[i]? = some d) : i < n ∧ d = .int (lo + i) := by
  unfold rangeD at h
  rw [List.getElem?_map] at h
  by_cases hi : i < n
  · rw [List.getElem?_range hi] at h
    cases h
    exact ⟨hi, rfl⟩
  · rw [List.getElem?_eq_none (by simpa using hi)] at h
    cases h
theorem rangeD_length (lo : Int) (n : Nat) : (rangeD lo n).length = n := by unfold rangeD; simp
theorem yields_range {K : PySem.W.Frag} {R0 : Hp} {F : Hp} {lo : Int} {n : Nat} : Yields K (Itr lo n) R0 F (rangeD lo n) := fun i R F1 ρ σ H _ s r => by
  refine ⟨fun h => by rw [rangeD_length] at h; exact h, fun d e => ?_⟩
  obtain ⟨hi, rfl⟩ := rangeD_get e
  refine ⟨hi, fun x H' ⟨eH, y⟩ => ?_⟩
  subst eH; subst y
  exact ⟨F1, Same.refl F1, r, .int _⟩
def iR1 (fa : Wa) : Wa := fun ρ Q E => fa ρ (fun ds ρ1 => ∃ j, ds = [.int j] ∧ (-(2 ^ 62) ≤ j ∧ j < 2 ^ 62) ∧ Q (rangeD 0 j.toNat) ρ1) E
def iR2 (fa : Wa) : Wa := fun ρ Q E => fa ρ (fun ds ρ1 => ∃ i j, ds = [.int i, .int j] ∧ (-(2 ^ 62) ≤ i ∧ i < 2 ^ 62 ∧ -(2 ^ 62) ≤ j ∧ j < 2 ^ 62) ∧ Q (rangeD i (j - i).toNat) ρ1) E
section
variable {X : Cx} {tg a b : Expr} {fa : Wa} {p pos : Pos}
theorem di_range1 (hg : Gl X "range") (hm : X.mg "range" = none) (ha : DA X [a] fa) (hs : starEach [a] X.env = [(false, eval a X.env)] := by rfl) : DI X tg (.Call (.Name "range" p) [a] [] pos) (iR1 fa) := by
  refine ⟨fun ρ Q Q' E E' hQ hE hw => ha.mono ρ _ _ _ _ (fun d ρ1 ⟨j, e, l, q⟩ => ⟨j, e, l, hQ _ _ q⟩) hE hw, fun W tk => ?_⟩
  obtain ⟨t, pt, k⟩ := ha.run W tk
  refine ⟨_, pi_range1 hg hm pt hs, fun R F σ H ρ Q r hw => k R F σ H ρ _ r (ha.mono _ _ _ _ _ (fun ds ρ1 ⟨j, e, l, q⟩ F1 H1 vs s1 r1 dv => ?_) (fun _ _ z => z) hw)⟩
  subst e
  cases dv with
  | cons d1 d2 => cases d2; cases d1; exact ⟨j, rfl, l.1, l.2, q F1 H1 _ s1 r1 yields_range⟩
/-- zip of two lists or two tuples -/
def zipD (xs ys : List D) : List D := (xs.zip ys).map fun p => D.tup [p.1, p.2]
theorem zipD_get {xs ys : List D} {i : Nat} {d : D} (h : (zipD xs ys)[i]? = some d) : ∃ x y, xs[i]? = some x ∧ ys[i]? = some y ∧ d = .tup [x, y] := by
  unfold zipD at h
  rw [List.getElem?_map] at h
  cases e : (xs.zip ys)[i]? with
  | none => rw [e] at h; cases h
  | some p =>
    rw [e] at h
    cases h
    obtain ⟨h1, h2⟩ := List.getElem?_zip_eq_some.mp e
    exact ⟨p.1, p.2, h1, h2, rfl⟩
theorem zipD_length (xs ys : List D) : (zipD xs ys).length = min xs.length ys.length := by unfold zipD; simp
theorem yields_zipL {K : PySem.W.Frag} {R0 : Hp} {a b : Addr} {F : Hp} {xs ys : List V} {ds es : List D} (h1 : SqL K F a xs) (a1 : DvA K F xs ds) (h2 : SqL K F b ys) (a2 : DvA K F ys es) : Yields K (Itz K a b) R0 F (zipD ds es) := fun i R F1 ρ σ H _ s r => by
  have g1 := r.sF.seq (s.seq h1)
  have g2 := r.sF.seq (s.seq h2)
  refine ⟨fun h => ⟨xs, ys, g1, g2, by rw [zipD_length] at h; rw [a1.length, a2.length]; omega⟩, fun d e => ?_⟩
  obtain ⟨x, y, e1, e2, rfl⟩ := zipD_get e
  obtain ⟨v, hv, dv⟩ := a1.get e1
  obtain ⟨w, hw, dw⟩ := a2.get e2
  refine ⟨⟨xs, ys, v, w, g1, g2, hv, hw⟩, fun z H' ⟨T, x', y', ez, hT, eH, f1, f2⟩ => ?_⟩
  subst ez; subst eH
  have q1 := f1 xs g1
  have q2 := f2 ys g2
  rw [hv] at q1; rw [hw] at q2
  cases q1; cases q2
  obtain ⟨s2, r2⟩ := r.alloc (o := .tup [v, w]) hT
  exact ⟨_, s2, r2, .tup (SqT.of upd_same) (.cons ((dv.mono s).mono s2) (.cons ((dw.mono s).mono s2) .nil))⟩
theorem yields_zipT {K : PySem.W.Frag} {R0 : Hp} {a b : Addr} {F : Hp} {xs ys : List V} {ds es : List D} (h1 : SqT K F a xs) (a1 : DvA K F xs ds) (h2 : SqT K F b ys) (a2 : DvA K F ys es) : Yields K (RZ.ItzT K a b) R0 F (zipD ds es) := fun i R F1 ρ σ H _ s r => by
  have g1 := Same.seqT r.sF (Same.seqT s h1)
  have g2 := Same.seqT r.sF (Same.seqT s h2)
  refine ⟨fun h => ⟨xs, ys, g1, g2, by rw [zipD_length] at h; rw [a1.length, a2.length]; omega⟩, fun d e => ?_⟩
  obtain ⟨x, y, e1, e2, rfl⟩ := zipD_get e
  obtain ⟨v, hv, dv⟩ := a1.get e1
  obtain ⟨w, hw, dw⟩ := a2.get e2
  refine ⟨⟨xs, ys, v, w, g1, g2, hv, hw⟩, fun z H' ⟨T, x', y', ez, hT, eH, f1, f2⟩ => ?_⟩
  subst ez; subst eH
  have q1 := f1 xs g1
  have q2 := f2 ys g2
  rw [hv] at q1; rw [hw] at q2
  cases q1; cases q2
  obtain ⟨s2, r2⟩ := r.alloc (o := .tup [v, w]) hT
  exact ⟨_, s2, r2, .tup (SqT.of upd_same) (.cons ((dv.mono s).mono s2) (.cons ((dw.mono s).mono s2) .nil))⟩
def isSeqL : D → Option (List D)
  | .lst xs => some xs
  | .ro xs => some xs
  | _ => none
def iZipD (fa : Wa) : Wa := fun ρ Q E => fa ρ (fun ds ρ1 => ∃ x y, ds = [x, y] ∧ ∃ xs ys, ((x = .tup xs ∧ y = .tup ys) ∨ (isSeqL x = some xs ∧ isSeqL y = some ys)) ∧ Q (zipD xs ys) ρ1) E
theorem seqL_of {K : PySem.W.Frag} {F : Hp} {v : V} {d : D} {xs : List D} (h : Dv K F v d) (e : isSeqL d = some xs) : ∃ a vs, v = .ref a ∧ SqL K F a vs ∧ DvA K F vs xs := by
  cases h with
  | lst h a => cases e; exact ⟨_, _, rfl, SqL.of h, a⟩
  | ro h a => cases e; exact ⟨_, _, rfl, h, a⟩
  | _ => cases e
theorem di_zip {elts : List Expr} {kk : Nat} {tpos : Pos} (hg : Gl X "zip") (hm : X.mg "zip" = none) (ha : DA X [a, b] fa)
    (hs : starEach [a, b] X.env = (false, eval a X.env) :: starEach [b] X.env := by rfl) (hpl : (backTo pos (starEach [b] X.env)).any (·.1) = false := by rfl) : DI X (.Tuple elts kk tpos) (.Call (.Name "zip" p) [a, b] [] pos) (iZipD fa) := by
  refine ⟨fun ρ Q Q' E E' hQ hE hw => ha.mono ρ _ _ _ _ (fun d ρ1 ⟨x, y, e, xs, ys, l, q⟩ => ⟨x, y, e, xs, ys, l, hQ _ _ q⟩) hE hw, fun W tk => ?_⟩
  obtain ⟨t, pt, k⟩ := ha.run W tk
  refine ⟨_, RZ.pi_zipA hg hm pt hs hpl, fun R F σ H ρ Q r hw => k R F σ H ρ _ r (ha.mono _ _ _ _ _ (fun ds ρ1 ⟨x, y, e, xs, ys, l, q⟩ F1 H1 vs s1 r1 dv => ?_) (fun _ _ z => z) hw)⟩
  subst e
  cases dv with
  | cons d1 d2 => cases d2 with
    | cons d2 d3 =>
      cases d3
      rcases l with ⟨rfl, rfl⟩ | ⟨l1, l2⟩
      · cases d1 with
        | tup h1 a1 => cases d2 with
          | tup h2 a2 => exact ⟨_, _, _, _, rfl, .inr ⟨Same.seqT r1.sF h1, Same.seqT r1.sF h2, q F1 H1 _ s1 r1 (yields_zipT h1 a1 h2 a2)⟩⟩
      · obtain ⟨a1, v1, rfl, h1, g1⟩ := seqL_of d1 l1
        obtain ⟨a2, v2, rfl, h2, g2⟩ := seqL_of d2 l2
        exact ⟨_, _, _, _, rfl, .inl ⟨r1.sF.seq h1, r1.sF.seq h2, q F1 H1 _ s1 r1 (yields_zipL h1 g1 h2 g2)⟩⟩
/-- enumerate of a list -/
def enumD (xs : List D) : List D := xs.mapIdx fun i x => D.tup [.int i, x]
def iEnumD (fa : Wa) : Wa := fun ρ Q E => fa ρ (fun ds ρ1 => ∃ x xs, ds = [x] ∧ isSeqL x = some xs ∧ Q (enumD xs) ρ1) E
end

/-! ### for -/
def forL (g : Wg) (gb : Ws) : List D → Env → Es → Prop
  | [], ρ, D => D.nx ρ
  | d :: ds, ρ, D => g d ρ (fun ρ1 => gb ρ1 { D with nx := fun ρ2 => forL g gb ds ρ2 D, ct := fun ρ2 => forL g gb ds ρ2 D, bk := D.nx })
def dFor (wi : Wa) (g : Wg) (gb : Ws) : Ws := fun ρ D => wi ρ (fun ds ρ1 => forL g gb ds ρ1 D) D.ex
section
variable {X : Cx} {tg iter : Expr} {body : List Stmt} {wi : Wa} {g : Wg} {gb : Ws} {is : List Nat} {pos : Pos}
theorem forL_mono (mg : ∀ d ρ (Q Q' : Env → Prop), (∀ ρ, Q ρ → Q' ρ) → g d ρ Q → g d ρ Q') (mb : MonoS gb) : ∀ (ds : List D) ρ (D D' : Es), D.le D' → forL g gb ds ρ D → forL g gb ds ρ D'
  | [], _, _, _, l, h => l.nx _ h
  | d :: ds, ρ, D, D', l, h => mg d ρ _ _ (fun ρ1 z => mb ρ1 { D with nx := fun ρ2 => forL g gb ds ρ2 D, ct := fun ρ2 => forL g gb ds ρ2 D, bk := D.nx } _
      ⟨fun ρ2 z => forL_mono mg mb ds ρ2 D D' l z, l.rt, l.nx, fun ρ2 z => forL_mono mg mb ds ρ2 D D' l z, l.ex, l.rn⟩ z) h
theorem ds_for (hp : PassesOwn (model X.prog X.w) X.A X.env X.xe) (hc : X.calm = true) (hi : DI X tg iter wi) (hg : DG X tg is g) (hb : DSs X body gb)
    (hs : ∀ x, foldedSetIterable iter X.env x = pure x := by intro _; rfl) : DS X (.For tg iter body [] pos) (dFor wi g gb) := by
  refine ⟨fun ρ D D' l hw => hi.mono ρ _ _ _ _ (fun ds ρ1 z => forL_mono hg.mono hb.mono ds ρ1 D D' l z) l.ex hw, fun W tk => ?_⟩
  obtain ⟨ti, pi, ki⟩ := hi.run W tk
  obtain ⟨t1, p1, k1⟩ := hg.run
  obtain ⟨t2, p2, k2⟩ := hb.run W tk
  refine ⟨_, ps_for hp hc pi p1 p2 hs, fun R F σ H ρ D r hw => ki R F σ H ρ _ r (hi.mono _ _ _ _ _ (fun ds ρ1 z F1 H1 J s1 r1 hy => ?_) upS.exX hw)⟩
  refine ⟨fun i m σ H => m = ds.length - i ∧ i ≤ ds.length ∧ ∃ F' ρ, Same F1 F' ∧ Rel X.K R F' ρ σ H ∧ forL g gb (ds.drop i) ρ (upS X.K R F' W D), ⟨ds.length, rfl, Nat.zero_le _, F1, ρ1, Same.refl _, r1, forL_mono hg.mono hb.mono _ _ _ _ (upS.mono s1) z⟩, ?_⟩
  rintro i m σ2 H2 ⟨rfl, hle, F2, ρ2, s2, r2, z2⟩
  obtain ⟨y1, y2⟩ := hy i R F2 ρ2 σ2 H2 (Same.refl R) s2 r2
  by_cases hlt : i < ds.length
  · obtain ⟨d, hd⟩ : ∃ d, ds[i]? = some d := ⟨ds[i], List.getElem?_eq_getElem hlt⟩
    have hdrop : ds.drop i = d :: ds.drop (i + 1) := by
      rw [List.drop_eq_getElem_cons hlt]
      rw [List.getElem?_eq_getElem hlt] at hd
      cases hd
      rfl
    obtain ⟨hgo, y3⟩ := y2 d hd
    rw [hdrop] at z2
    refine .inr ⟨hgo, fun σ' H' => i + 1 ≤ ds.length ∧ ∃ F' ρ, Same F1 F' ∧ Rel X.K R F' ρ σ' H' ∧ forL g gb (ds.drop (i + 1)) ρ (upS X.K R F' W D), fun σ' H' h => ⟨ds.length - (i + 1), by omega, rfl, h.1, h.2⟩, fun x H3 hx => ?_⟩
    obtain ⟨F3, s3, r3, dv⟩ := y3 x H3 hx
    refine k1 R F3 σ2 H3 ρ2 x d _ r3 dv (hg.mono _ _ _ _ (fun ρ4 z4 F4 σ4 H4 s4 r4 o4 => ?_) z2)
    have s24 := s3.trans s4
    refine k2 R F4 σ4 H4 ρ4 _ r4 (hb.mono _ { upS X.K R F2 W D with nx := fun ρ2 => forL g gb (ds.drop (i + 1)) ρ2 (upS X.K R F2 W D), ct := fun ρ2 => forL g gb (ds.drop (i + 1)) ρ2 (upS X.K R F2 W D), bk := (upS X.K R F2 W D).nx } _ ?_ z4)
    have up := upS.mono (K := X.K) (R := R) (W := W) (D := D) s24
    have again : ∀ ρ5, forL g gb (ds.drop (i + 1)) ρ5 (upS X.K R F2 W D) → ∀ F5 σ5 H5, Same F4 F5 → Rel X.K R F5 ρ5 σ5 H5 → i + 1 ≤ ds.length ∧ ∃ F' ρ, Same F1 F' ∧ Rel X.K R F' ρ σ5 H5 ∧ forL g gb (ds.drop (i + 1)) ρ (upS X.K R F' W D) :=
      fun ρ5 z5 F5 σ5 H5 s5 r5 => ⟨hlt, F5, ρ5, (s2.trans s24).trans s5, r5, forL_mono hg.mono hb.mono _ _ _ _ (upS.mono (s24.trans s5)) z5⟩
    exact ⟨fun ρ5 z5 F5 σ5 H5 s5 r5 => again ρ5 z5 F5 σ5 H5 s5 r5, fun d5 ρ5 z5 => up.rt d5 ρ5 z5, fun ρ5 z5 => up.nx ρ5 z5, fun ρ5 z5 F5 σ5 H5 s5 r5 => again ρ5 z5 F5 σ5 H5 s5 r5, fun x5 ρ5 z5 => up.ex x5 ρ5 z5, fun x5 ρ5 z5 => up.rn x5 ρ5 z5⟩
  · have e : i = ds.length := by omega
    subst e
    rw [List.drop_length] at z2
    exact .inl ⟨y1 (Nat.le_refl _), z2 F2 σ2 H2 (Same.refl _) r2⟩
end

/-! ### list comprehensions -/
def wipeE (ρ : Env) : List Nat → Env
  | [] => ρ
  | v :: vs => (wipeE ρ vs).set v none
def frzOnly : Option (Option Sv) → Option Sv
  | some (some (.fz d)) => some (.fz d)
  | _ => none
/-- the slots vs as they stood in ρ0 -/
def backE (ρ0 ρ : Env) : List Nat → Env
  | [] => ρ
  | v :: vs => (backE ρ0 ρ vs).set v (frzOnly ρ0[v]?)
theorem Rel.wipe {K : PySem.W.Frag} {R F : Hp} {ρ : Env} {σ : L2.St} {H : Hp} (r : Rel K R F ρ σ H) : ∀ vs, Rel K R F (wipeE ρ vs) (L2.wipe σ vs) H
  | [] => r
  | v :: vs => (Rel.wipe r vs).unset
theorem Rel.back {K : PySem.W.Frag} {R F : Hp} {ρ0 : Env} {σ : L2.St} {H : Hp} {F0 H0 : Hp} (r0 : Rel K R F0 ρ0 σ H0) (s : Same F0 F) : ∀ (vs : List Nat) {ρ : Env}, Rel K R F ρ (L2.wipe σ vs) H → Rel K R F (backE ρ0 ρ vs) σ H
  | [], ρ, r => r
  | v :: vs, ρ, r => by
    show Rel K R F ((backE ρ0 ρ vs).set v (frzOnly ρ0[v]?)) σ H
    have key : ∀ (σ1 : L2.St), Rel K R F ρ (σ1.set v none) H → Rel K R F (ρ.set v none) σ1 H := fun σ1 r1 => by
      have hnone : ∀ (y : Sv), ρ[v]? = some (some y) → False := fun y e => by
        have hl : v < σ1.length := by
          have := (List.getElem?_eq_some_iff.mp e).1
          rw [r1.len] at this
          simpa using this
        cases y with
        | fz d =>
          obtain ⟨u, h1, _⟩ := r1.fz v d e
          rw [List.getElem?_set_self hl] at h1; cases h1
        | own a xs =>
          have h1 := (r1.own v a xs e).1
          rw [List.getElem?_set_self hl] at h1; cases h1
      have key : ∀ (m : Nat) (y : Sv), (ρ.set v none)[m]? = some (some y) → v ≠ m ∧ ρ[m]? = some (some y) := fun m y e => by
        by_cases hm : v = m
        · subst hm
          by_cases hl : v < ρ.length
          · rw [List.getElem?_set_self hl] at e; cases e
          · rw [List.getElem?_eq_none (by simpa using hl)] at e; cases e
        · rw [List.getElem?_set_ne hm] at e; exact ⟨hm, e⟩
      refine ⟨r1.sF, r1.sR, r1.dj, by have := r1.len; simp at this ⊢; exact this, fun i d e => ?_, fun i a xs e => ?_, fun i j a xs ys e1 e2 => r1.inj i j a xs ys (key _ _ e1).2 (key _ _ e2).2, r1.tb⟩
      · obtain ⟨hi, e'⟩ := key _ _ e
        obtain ⟨u, h1, h2⟩ := r1.fz i d e'
        rw [List.getElem?_set_ne hi] at h1
        exact ⟨u, h1, h2⟩
      · obtain ⟨hi, e'⟩ := key _ _ e
        obtain ⟨h1, h2⟩ := r1.own i a xs e'
        rw [List.getElem?_set_ne hi] at h1
        exact ⟨h1, h2⟩
    have r1 : Rel K R F (backE ρ0 (ρ.set v none) vs) σ H := Rel.back (ρ0 := ρ0) r0 s vs (ρ := ρ.set v none) (key _ r)
    have r2 : Rel K R F ((backE ρ0 (ρ.set v none) vs).set v (frzOnly ρ0[v]?)) σ H := by
      cases e : ρ0[v]? with
      | none =>
        have := r1.unset (i := v) (u := none)
        have hs : σ.set v none = σ := by
          rw [List.getElem?_eq_none_iff, r0.len] at e
          exact List.set_eq_of_length_le e
        rw [hs] at this
        exact this
      | some o =>
        cases o with
        | none =>
          have hl : v < σ.length := by rw [← r0.len]; exact (List.getElem?_eq_some_iff.mp e).1
          have := r1.unset (i := v) (u := σ[v])
          rw [List.set_getElem_self] at this
          exact this
        | some y =>
          cases y with
          | fz d =>
            obtain ⟨u, h1, h2⟩ := r0.fz v d e
            have := r1.setF (i := v) (h2.mono s)
            have hs : σ.set v (some u) = σ := by
              obtain ⟨hl, h3⟩ := List.getElem?_eq_some_iff.mp h1
              rw [← h3, List.set_getElem_self]
            rw [hs] at this
            exact this
          | own a xs =>
            have hl : v < σ.length := by rw [← r0.len]; exact (List.getElem?_eq_some_iff.mp e).1
            have := r1.unset (i := v) (u := σ[v])
            rw [List.set_getElem_self] at this
            exact this
    have e3 : ∀ (vs : List Nat) (ρ : Env), (backE ρ0 (ρ.set v none) vs).set v (frzOnly ρ0[v]?) = (backE ρ0 ρ vs).set v (frzOnly ρ0[v]?) := by
      intro vs
      induction vs with
      | nil => intro ρ; show (ρ.set v none).set v _ = _; rw [List.set_set]; rfl
      | cons w ws ih =>
        intro ρ
        show ((backE ρ0 (ρ.set v none) ws).set w (frzOnly ρ0[w]?)).set v _ = ((backE ρ0 ρ ws).set w (frzOnly ρ0[w]?)).set v _
        by_cases hw : w = v
        · subst hw
          rw [List.set_set, List.set_set]
          exact ih ρ
        · rw [List.set_comm _ _ hw, ih ρ, List.set_comm _ _ (Ne.symm hw)]
    rw [← e3]
    exact r2
def noX : Qx := fun _ _ => False
def lcL (g : Wg) (tt : Wt) (te : We) (vs : List Nat) : List D → List D → Env → (List D → Env → Prop) → Prop
  | [], acc, ρ, Q => Q acc ρ
  | d :: ds, acc, ρ, Q => g d ρ (fun ρ1 => tt ρ1 (fun b ρ2 => Ite b (te ρ2 (fun y ρ3 => lcL g tt te vs ds (acc ++ [y]) (wipeE ρ3 vs) Q) noX) (lcL g tt te vs ds acc (wipeE ρ2 vs) Q)) noX)
def nLc (wi : Wa) (g : Wg) (tt : Wt) (te : We) (vs : List Nat) : Wa := fun ρ Q E => wi ρ (fun ds ρ1 => ds.length ≤ sizeLine ∧ lcL g tt te vs ds [] (wipeE ρ1 vs) fun acc ρ2 => Q acc (backE ρ1 ρ2 vs)) E
/-- the tests of a clause -/
structure DTs (X : Cx) (ifs : List Expr) (f : Wt) : Prop where
  mono : MonoT f
  run : ∀ (W : WX), Takes X W → ∃ t, PTs X ifs t ∧ ∀ R F σ H ρ (Q : Bool → Hp → Prop), Rel X.K R F ρ σ H → f ρ (upT X.K R F σ Q) (upX X.K R F σ W) → t σ H Q
def tAll : Wt := fun ρ Q _ => Q true ρ
section
variable {X : Cx}
theorem dts_nil : DTs X [] tAll := ⟨fun _ _ _ _ _ hQ _ h => hQ _ _ h, fun W tk => ⟨_, pts_nil, fun R F σ H ρ Q r h => h F H (Same.refl F) r⟩⟩
theorem dts_one {c : Expr} {f : Wt} (h : DT X c f) : DTs X [c] f := ⟨h.mono, fun W tk => let ⟨t, p, k⟩ := h.run W tk; ⟨t, pts_one p, k⟩⟩
theorem lcL_mono {g : Wg} {tt : Wt} {te : We} {vs : List Nat} (mg : ∀ d ρ (Q Q' : Env → Prop), (∀ ρ, Q ρ → Q' ρ) → g d ρ Q → g d ρ Q') (mt : MonoT tt) (me : MonoE te) : ∀ (ds acc : List D) ρ (Q Q' : List D → Env → Prop), (∀ a ρ, Q a ρ → Q' a ρ) → lcL g tt te vs ds acc ρ Q → lcL g tt te vs ds acc ρ Q'
  | [], _, _, _, _, hQ, h => hQ _ _ h
  | d :: ds, acc, ρ, Q, Q', hQ, h => mg d ρ _ _ (fun ρ1 z1 => mt ρ1 _ _ _ _ (fun b ρ2 z2 => z2.imp (fun z => me ρ2 _ _ _ _ (fun y ρ3 z3 => lcL_mono mg mt me ds (acc ++ [y]) _ Q Q' hQ z3) (fun _ _ z => z) z) (fun z => lcL_mono mg mt me ds acc _ Q Q' hQ z)) (fun _ _ z => z) z1) h
theorem noX_up {K : PySem.W.Frag} {R F : Hp} {σ : L2.St} : ∀ x ρ, noX x ρ → upX K R F σ (fun _ _ _ _ => False) x ρ := fun _ _ h => h.elim
theorem nLc_mono {wi : Wa} {g : Wg} {tt : Wt} {te : We} {vs : List Nat} (mi : MonoA wi) (mg : ∀ d ρ (Q Q' : Env → Prop), (∀ ρ, Q ρ → Q' ρ) → g d ρ Q → g d ρ Q') (mt : MonoT tt) (me : MonoE te) : MonoA (nLc wi g tt te vs) :=
  fun ρ Q Q' E E' hQ hE hw => mi ρ _ _ _ _ (fun ds ρ1 z => ⟨z.1, lcL_mono mg mt me ds [] _ _ _ (fun a ρ2 z2 => hQ _ _ z2) z.2⟩) hE hw
/-! canonical readings: the same in every context -/
def canE (K : PySem.W.Frag) (f : We) (W : WX) : TE := fun σ H Q => ∃ R F ρ, Rel K R F ρ σ H ∧ f ρ (upE K R F σ Q) (upX K R F σ W)
def canT (K : PySem.W.Frag) (f : Wt) (W : WX) : TT := fun σ H Q => ∃ R F ρ, Rel K R F ρ σ H ∧ f ρ (upT K R F σ Q) (upX K R F σ W)
def canG (K : PySem.W.Frag) (is : List Nat) (g : Wg) : TG := fun v σ H Q => ∃ R F ρ d, Rel K R F ρ σ H ∧ Dv K F v d ∧ g d ρ (fun ρ' => ∀ F' σ' H', Same F F' → Rel K R F' ρ' σ' H' → Off is σ σ' → Q σ' H')
theorem DE.can {e : Expr} {f : We} {W : WX} (h : DE X e f) (tk : Takes X W) : PE X e (canE X.K f W) := by
  obtain ⟨t, p, k⟩ := h.run W tk
  exact ⟨fun pins s σ H Q I ⟨R, F, ρ, r, hw⟩ => p.run pins s σ H Q I (k R F σ H ρ Q r hw)⟩
theorem DTs.can {e : List Expr} {f : Wt} {W : WX} (h : DTs X e f) (tk : Takes X W) : PTs X e (canT X.K f W) := by
  obtain ⟨t, p, k⟩ := h.run W tk
  exact ⟨fun pins s σ H Q I ⟨R, F, ρ, r, hw⟩ => p.run pins s σ H Q I (k R F σ H ρ Q r hw)⟩
theorem DG.can {e : Expr} {g : Wg} {is : List Nat} (h : DG X e is g) : PG X e (canG X.K is g) := by
  obtain ⟨t, p, k⟩ := h.run
  exact ⟨fun pins s σ H v u Q I rv ⟨R, F, ρ, d, r, dv, hw⟩ => p.run pins s σ H v u Q I rv (k R F σ H ρ v d Q r dv hw)⟩
theorem Rel.reframe {K : PySem.W.Frag} {R F : Hp} {ρ : Env} {σ : L2.St} {H : Hp} {p : Addr} {o o' : HO} (r : Rel K (upd R p o) F ρ σ H) (n : Plain o) (n' : Plain o') : Rel K (upd R p o') F ρ σ (upd H p o') := by
  have hF : F p = none := by
    cases e : F p with
    | none => rfl
    | some u => have := r.dj _ _ e; rw [upd_same] at this; cases this
  refine ⟨fun b u q => ?_, fun b u q => ?_, fun b u q => ?_, r.len, r.fz, fun i a xs e => ?_, r.inj, ((r.tb.upd' (r.sR _ _ upd_same) n).re fun c u e => by
    by_cases z : c = p
    · subst z; rw [upd_same] at e; cases e; exact .inr n'
    · rw [upd_ne z] at e; exact .inl (by rw [upd_ne z]; exact e))⟩
  · rw [upd_ne (ne_of_none q hF)]; exact r.sF _ _ q
  · by_cases hb : b = p
    · subst hb; rw [upd_same] at q ⊢; exact q
    · rw [upd_ne hb] at q ⊢; exact r.sR b u (by rw [upd_ne hb]; exact q)
  · have hb : b ≠ p := ne_of_none q hF
    have := r.dj _ _ q
    rw [upd_ne hb] at this ⊢
    exact this
  · obtain ⟨h1, ⟨vs, h2, h3⟩, h4, h5⟩ := r.own i a xs e
    have ne : a ≠ p := fun z => by subst z; rw [upd_same] at h5; cases h5
    rw [upd_ne ne] at h5
    exact ⟨h1, ⟨vs, by rw [upd_ne ne]; exact h2, h3⟩, h4, by rw [upd_ne ne]; exact h5⟩
/-- the list that was held is let out: the heap as it was before -/
theorem Rel.unlay {K : PySem.W.Frag} {R F : Hp} {ρ : Env} {σ : L2.St} {H : Hp} {p : Addr} {o : HO} (r : Rel K (upd R p o) F ρ σ H) (hR : R p = none) (n : Plain o) : Rel K R F ρ σ (fun b => if b = p then none else H b) := by
  have hF : F p = none := by
    cases e : F p with
    | none => rfl
    | some u => have := r.dj _ _ e; rw [upd_same] at this; cases this
  refine ⟨fun b u q => ?_, fun b u q => ?_, fun b u q => ?_, r.len, r.fz, fun i a xs e => ?_, r.inj, (r.tb.un (r.sR _ _ upd_same) n).let hR⟩
  · show (if b = p then none else H b) = some u
    rw [if_neg (ne_of_none q hF)]; exact r.sF _ _ q
  · show (if b = p then none else H b) = some u
    have hb := ne_of_none q hR
    rw [if_neg hb]; exact r.sR b u (by rw [upd_ne hb]; exact q)
  · have hb : b ≠ p := ne_of_none q hF
    have := r.dj _ _ q
    rw [upd_ne hb] at this
    exact this
  · obtain ⟨h1, ⟨vs, h2, h3⟩, h4, h5⟩ := r.own i a xs e
    have ne : a ≠ p := fun z => by subst z; rw [upd_same] at h5; cases h5
    rw [upd_ne ne] at h5
    exact ⟨h1, ⟨vs, by show (if a = p then none else H a) = _; rw [if_neg ne]; exact h2, h3⟩, h4, h5⟩
theorem unlay_upd {H : Hp} {p : Addr} {o : HO} (h : H p = some o) : upd (fun b => if b = p then none else H b) p o = H := by
  funext b
  unfold upd
  by_cases hb : b = p
  · rw [if_pos hb, hb, h]
  · rw [if_neg hb]; exact if_neg hb
theorem lc_run {K : PySem.W.Frag} {ti : TI} {wi : Wa} {g : Wg} {is : List Nat} {tt : Wt} {te : We} {vs : List Nat} {W : WX} (mi : MonoA wi) (mg : ∀ d ρ (Q Q' : Env → Prop), (∀ ρ, Q ρ → Q' ρ) → g d ρ Q → g d ρ Q') (mt : MonoT tt) (me : MonoE te)
    (hsub : ∀ i ∈ is, i ∈ vs) {R F : Hp} {σ : L2.St} {H : Hp} {ρ : Env} {Q : VK}
    (ki : ∀ (Q : It → Hp → Prop), wi ρ (fun ds ρ' => ∀ F' H' J, Same F F' → Rel K R F' ρ' σ H' → Yields K J R F' ds → Q J H') (upX K R F σ W) → ti σ H Q) (r : Rel K R F ρ σ H)
    (hw : nLc wi g tt te vs ρ (fun xs ρ' => ∀ F' H' p vs, Same F F' → Rel K R F' ρ' σ H' → H' p = none → DvA K F' vs xs → Q (.ref p) (upd H' p (.lst vs))) (upX K R F σ W)) :
    tLc ti (canG K is g) (canT K tt fun _ _ _ _ => False) (canE K te fun _ _ _ _ => False) vs σ H Q := by
  refine ki _ (mi _ _ _ _ _ (fun ds ρ1 ⟨hz, z⟩ F1 H1 J s1 r1 hy => ?_) (fun _ _ z => z) hw)
  intro Dd hD
  have hR : R Dd = none := Same.free r1.sR hD
  obtain ⟨rf, sR⟩ := r1.frame (o := .lst []) hD plain_lst
  refine ⟨fun i m H => m = ds.length - i ∧ i ≤ ds.length ∧ ∃ F' ρ acc avs, Same F1 F' ∧ DvA K F' avs acc ∧ acc.length ≤ i ∧ Rel K (upd R Dd (.lst avs)) F' ρ (L2.wipe σ vs) H ∧
    lcL g tt te vs (ds.drop i) acc ρ (fun xs ρ2 => ∀ F' H' p us, Same F F' → Rel K R F' (backE ρ1 ρ2 vs) σ H' → H' p = none → DvA K F' us xs → Q (.ref p) (upd H' p (.lst us))),
    ⟨ds.length, rfl, Nat.zero_le _, F1, _, [], [], Same.refl _, .nil, Nat.le_refl _, rf.wipe vs, z⟩, ?_⟩
  rintro i m H2 ⟨rfl, hle, F2, ρ2, acc, avs, s2, ha, hal, r2, z2⟩
  obtain ⟨y1, y2⟩ := hy i (upd R Dd (.lst avs)) F2 ρ2 (L2.wipe σ vs) H2 (same_upd hR) s2 r2
  by_cases hlt : i < ds.length
  · obtain ⟨d, hd⟩ : ∃ d, ds[i]? = some d := ⟨ds[i], List.getElem?_eq_getElem hlt⟩
    have hdrop : ds.drop i = d :: ds.drop (i + 1) := by
      rw [List.drop_eq_getElem_cons hlt]
      rw [List.getElem?_eq_getElem hlt] at hd
      cases hd
      rfl
    obtain ⟨hgo, y3⟩ := y2 d hd
    rw [hdrop] at z2
    refine .inr ⟨hgo, fun H' => i + 1 ≤ ds.length ∧ ∃ F' ρ acc avs, Same F1 F' ∧ DvA K F' avs acc ∧ acc.length ≤ i + 1 ∧ Rel K (upd R Dd (.lst avs)) F' ρ (L2.wipe σ vs) H' ∧
      lcL g tt te vs (ds.drop (i + 1)) acc ρ (fun xs ρ2 => ∀ F' H' p us, Same F F' → Rel K R F' (backE ρ1 ρ2 vs) σ H' → H' p = none → DvA K F' us xs → Q (.ref p) (upd H' p (.lst us))),
      fun H' h => ⟨ds.length - (i + 1), by omega, rfl, h.1, h.2⟩, fun x H3 hx => ?_⟩
    obtain ⟨F3, s3, r3, dv⟩ := y3 x H3 hx
    refine ⟨_, F3, ρ2, d, r3, dv, mg _ _ _ _ (fun ρ4 z4 F4 σ4 H4 s4 r4 o4 => ?_) z2⟩
    have hoff : L2.wipe σ4 vs = L2.wipe σ vs := by
      have ww : ∀ (ws : List Nat) (τ : L2.St), L2.wipe (L2.wipe τ ws) ws = L2.wipe τ ws := by
        intro ws
        induction ws with
        | nil => intro τ; rfl
        | cons w ws ih =>
          intro τ
          show (L2.wipe ((L2.wipe τ ws).set w none) ws).set w none = (L2.wipe τ ws).set w none
          have key : ∀ (us : List Nat) (τ : L2.St), (L2.wipe (τ.set w none) us).set w none = (L2.wipe τ us).set w none := by
            intro us
            induction us with
            | nil => intro τ; show (τ.set w none).set w none = _; rw [List.set_set]; rfl
            | cons u us ih2 =>
              intro τ
              show ((L2.wipe (τ.set w none) us).set u none).set w none = ((L2.wipe τ us).set u none).set w none
              by_cases hu : u = w
              · subst hu; rw [List.set_set, List.set_set]; exact ih2 τ
              · rw [List.set_comm _ _ hu, ih2 τ, List.set_comm _ _ (Ne.symm hu)]
          rw [key, ih τ]
      rw [o4 vs hsub, ww]
    refine ⟨hoff, _, F4, ρ4, r4, mt _ _ _ _ _ (fun b ρ5 z5 F5 H5 s5 r5 => ?_) noX_up z4⟩
    have s25 := s3.trans (s4.trans s5)
    refine (z5.imp (fun z => ?_) (fun z => ?_)).out
    · refine ⟨_, F5, ρ5, r5, me _ _ _ _ _ (fun y ρ6 z6 F6 H6 v s6 r6 dy => ?_) noX_up z⟩
      have hD6 : H6 Dd = some (.lst avs) := r6.sR _ _ upd_same
      have ha6 := ha.mono (s25.trans s6)
      refine ⟨avs, hD6, by have := ha.length; omega, hlt, F6, _, acc ++ [y], avs ++ [v], s2.trans (s25.trans s6), ha6.append (.cons dy .nil), by rw [List.length_append]; simp; omega, ?_, z6⟩
      have := (r6.wipe vs).reframe plain_lst plain_lst (o' := .lst (avs ++ [v]))
      rw [hoff] at this
      exact this
    · have := r5.wipe vs
      rw [hoff] at this
      exact ⟨hlt, F5, _, acc, avs, s2.trans s25, ha.mono s25, by omega, this, z⟩
  · have e : i = ds.length := by omega
    subst e
    rw [List.drop_length] at z2
    refine .inl ⟨y1 (Nat.le_refl _), ?_⟩
    have hD2 : H2 Dd = some (.lst avs) := r2.sR _ _ upd_same
    have := z2 F2 (fun b => if b = Dd then none else H2 b) Dd avs (s1.trans s2) (Rel.back r1 s2 vs (r2.unlay hR plain_lst)) (if_pos rfl) ha
    rw [unlay_upd hD2] at this
    exact this
/-- [elt for tg in iter if ..] as a new list -/
theorem dn_lc {elt tg iter : Expr} {ifs : List Expr} {scope : Scope} {own : List (Str × Nat)} {pos : Pos} {wi : Wa} {g : Wg} {is : List Nat} {tt : Wt} {te : We} (hc : X.calm = true) (hN : X.N.Nodup) (hi : DI X tg iter wi) (ok : BlkOk X.N X.env.scope scope own) (hsub : ∀ i ∈ is, i ∈ own.map (·.2))
    (hg : ∀ (s : Shared) (H : Hp) (C : Addr) (cl : List (Str × Addr)) (fp : List Addr), DG (X.blk s H scope (compEnvC scope cl C X.env) fp) tg is g) (ht : ∀ (s : Shared) (H : Hp) (C : Addr) (cl : List (Str × Addr)) (fp : List Addr), DTs (X.blk s H scope (compEnvC scope cl C X.env) fp) ifs tt)
    (he : ∀ (s : Shared) (H : Hp) (C : Addr) (cl : List (Str × Addr)) (fp : List Addr), DE (X.blk s H scope (compEnvC scope cl C X.env) fp) elt te) (hs : ∀ x, foldedSetIterable iter X.env x = pure x := by intro _; rfl) :
    DN X (.ListComp elt [⟨tg, iter, ifs, 0⟩] scope pos) (nLc wi g tt te (own.map (·.2))) := by
  have any : X.s_0 = X.s_0 := rfl
  refine ⟨nLc_mono hi.mono (hg X.s_0 X.H_0 0 [] []).mono (ht X.s_0 X.H_0 0 [] []).mono (he X.s_0 X.H_0 0 [] []).mono, fun W tk => ?_⟩
  obtain ⟨ti, pi, ki⟩ := hi.run W tk
  refine ⟨_, pe_lc (g := canG X.K is g) (tt := canT X.K tt fun _ _ _ _ => False) (te := canE X.K te fun _ _ _ _ => False) hc hN pi ok (fun s H C cl fp => (hg s H C cl fp).can) (fun s H C cl fp => (ht s H C cl fp).can takes0) (fun s H C cl fp => (he s H C cl fp).can takes0) hs, fun R F σ H ρ Q r hw => ?_⟩
  exact lc_run hi.mono (hg X.s_0 X.H_0 0 [] []).mono (ht X.s_0 X.H_0 0 [] []).mono (he X.s_0 X.H_0 0 [] []).mono hsub (fun Q => ki R F σ H ρ Q r) r hw
/-- a new list as data -/
def dNw (fa : Wa) : We := fun ρ Q E => fa ρ (fun xs ρ1 => Q (.lst xs) ρ1) E
theorem de_n {e : Expr} {fa : Wa} (h : DN X e fa) : DE X e (dNw fa) := by
  refine ⟨fun ρ Q Q' E E' hQ hE hw => h.mono ρ _ _ _ _ (fun xs ρ1 q => hQ _ _ q) hE hw, fun W tk => ?_⟩
  obtain ⟨t, p, k⟩ := h.run W tk
  refine ⟨_, p, fun R F σ H ρ Q r hw => k R F σ H ρ _ r (h.mono _ _ _ _ _ (fun xs ρ1 q F1 H1 p vs s1 r1 hp dv => ?_) (fun _ _ z => z) hw)⟩
  exact (up_fin s1 r1 q).2 p _ hp (fun _ z => by cases z) (.lst upd_same (dv.mono (same_upd (Same.free r1.sF hp))))
/-- name = [..] on one line -/
theorem ds_setLc {i : Nat} {y : Str} {py : Pos} {elt tg iter : Expr} {ifs : List Expr} {scope : Scope} {own : List (Str × Nat)} {pos spos : Pos} {wi : Wa} {g : Wg} {is : List Nat} {tt : Wt} {te : We} (hc : X.calm = true) (hN : X.N.Nodup) (hy : X.N[i]? = some y) (hyl : X.env.scope.names.lookup y = some .local)
    (hsw : swapsWith (.ListComp elt [⟨tg, iter, ifs, 0⟩] scope pos) (some (.Name y py)) spos.line X.env = pure true) (hi : DI X tg iter wi) (ok : BlkOk X.N X.env.scope scope own) (hsub : ∀ i ∈ is, i ∈ own.map (·.2))
    (hg : ∀ (s : Shared) (H : Hp) (C : Addr) (cl : List (Str × Addr)) (fp : List Addr), DG (X.blk s H scope (compEnvC scope cl C X.env) fp) tg is g) (ht : ∀ (s : Shared) (H : Hp) (C : Addr) (cl : List (Str × Addr)) (fp : List Addr), DTs (X.blk s H scope (compEnvC scope cl C X.env) fp) ifs tt)
    (he : ∀ (s : Shared) (H : Hp) (C : Addr) (cl : List (Str × Addr)) (fp : List Addr), DE (X.blk s H scope (compEnvC scope cl C X.env) fp) elt te) (hs : ∀ x, foldedSetIterable iter X.env x = pure x := by intro _; rfl) :
    DS X (.Assign [.Name y py] (.ListComp elt [⟨tg, iter, ifs, 0⟩] scope pos) spos) (dSet i (dNw (nLc wi g tt te (own.map (·.2))))) := by
  have mm := nLc_mono (vs := own.map (·.2)) hi.mono (hg X.s_0 X.H_0 0 [] []).mono (ht X.s_0 X.H_0 0 [] []).mono (he X.s_0 X.H_0 0 [] []).mono
  refine ⟨fun ρ D D' l hw => mm ρ _ _ _ _ (fun xs ρ1 q => l.nx _ q) l.ex hw, fun W tk => ?_⟩
  obtain ⟨ti, pi, ki⟩ := hi.run W tk
  refine ⟨_, ps_setLc (g := canG X.K is g) (tt := canT X.K tt fun _ _ _ _ => False) (te := canE X.K te fun _ _ _ _ => False) hc hN hy hyl hsw pi ok (fun s H C cl fp => (hg s H C cl fp).can) (fun s H C cl fp => (ht s H C cl fp).can takes0) (fun s H C cl fp => (he s H C cl fp).can takes0) hs, fun R F σ H ρ D r hw => ?_⟩
  refine lc_run hi.mono (hg X.s_0 X.H_0 0 [] []).mono (ht X.s_0 X.H_0 0 [] []).mono (he X.s_0 X.H_0 0 [] []).mono hsub (Q := fun x H1 => gName i x σ H1 D.nx) (fun Q => ki R F σ H ρ Q r) r (mm _ _ _ _ _ (fun xs ρ1 z F1 H1 p vs s1 r1 hp dv => ?_) upS.exX hw)
  obtain ⟨s2, r2⟩ := r1.alloc (o := .lst vs) hp
  exact z _ _ _ (s1.trans s2) (r2.setF (.lst upd_same (dv.mono s2)))
end
end DL
namespace DL
open PySem PySem.Spec PyProof.Rows L2
variable [TabSet]

/-! ### what a def promises, of data -/
/-- of data alone: arguments, what is wanted of the value, of an exception -/
abbrev GS := List D → (D → Prop) → (Exc → Prop) → Prop
/-- of a def whose first argument is a list that it may change -/
abbrev GO := List D → List D → (D → List D → Prop) → (Exc → Prop) → Prop
def MonoP (g : GS) : Prop := ∀ ds (Q Q' : D → Prop) (E E' : Exc → Prop), (∀ d, Q d → Q' d) → (∀ x, E x → E' x) → g ds Q E → g ds Q' E'
def MonoO (g : GO) : Prop := ∀ xs ds (Q Q' : D → List D → Prop) (E E' : Exc → Prop), (∀ d l, Q d l → Q' d l) → (∀ x, E x → E' x) → g xs ds Q E → g xs ds Q' E'
def toSpP (K : PySem.W.Frag) (g : GS) : Sp := fun vs H Q E => ∃ R F ds, Rel K R F [] [] H ∧ DvA K F vs ds ∧
  g ds (fun d => ∀ F' H' v, Same F F' → Rel K R F' [] [] H' → Dv K F' v d → Q v H') (fun x => ∀ F' H' cls dd, Same F F' → Rel K R F' [] [] H' → ExR K F' cls dd x → E cls dd H')
def toSpO (K : PySem.W.Frag) (g : GO) : Sp := fun vs H Q E => ∃ R F a ws xs ds, vs = .ref a :: ws ∧ Rel K R F [some (.own a xs)] [some (.ref a)] H ∧ DvA K F ws ds ∧
  g xs ds (fun d ys => ∀ F' H' v, Same F F' → Rel K R F' [some (.own a ys)] [some (.ref a)] H' → Dv K F' v d → Q v H') (fun x => ∀ F' H' cls dd, Same F F' → Rel K R F' [] [] H' → ExR K F' cls dd x → E cls dd H')

/-- of a def that hands back a new list -/
abbrev GN := List D → (List D → Prop) → (Exc → Prop) → Prop
def MonoN (g : GN) : Prop := ∀ ds (Q Q' : List D → Prop) (E E' : Exc → Prop), (∀ d, Q d → Q' d) → (∀ x, E x → E' x) → g ds Q E → g ds Q' E'
def toSpN (K : PySem.W.Frag) (g : GN) : Sp := fun vs H Q E => ∃ R F ds, Rel K R F [] [] H ∧ DvA K F vs ds ∧
  g ds (fun xs => ∀ F' H' p us, Same F F' → Rel K R F' [] [] H' → H' p = none → DvA K F' us xs → Q (.ref p) (upd H' p (.lst us))) (fun x => ∀ F' H' cls dd, Same F F' → Rel K R F' [] [] H' → ExR K F' cls dd x → E cls dd H')

section
variable {K : PySem.W.Frag} {R F : Hp} {ρ : Env} {σ : L2.St} {H : Hp}
theorem Rel.base (r : Rel K R F ρ σ H) : Rel K R F [] [] H := ⟨r.sF, r.sR, r.dj, rfl, fun i d e => by simp at e, fun i a xs e => by simp at e, fun i j a xs ys e => by simp at e, r.tb⟩
open Classical in
/-- the callers' part: R and the own lists but that at b -/
noncomputable def ownR (R : Hp) (ρ : Env) (H : Hp) (b : Option Addr) : Hp := fun a => (R a).orElse fun _ => if (∃ (i : Nat) (xs : List D), ρ[i]? = some (some (.own a xs))) ∧ some a ≠ b then H a else none
theorem ownR_same {b : Option Addr} : Same R (ownR R ρ H b) := fun a o e => by unfold ownR; rw [e]; rfl
open Classical in
theorem ownR_own {b : Option Addr} {i : Nat} {a : Addr} {xs : List D} (r : Rel K R F ρ σ H) (e : ρ[i]? = some (some (.own a xs))) (ne : some a ≠ b) : ownR R ρ H b a = H a := by
  obtain ⟨_, _, _, h5⟩ := r.own i a xs e
  unfold ownR
  rw [h5]
  show (if _ then H a else none) = H a
  rw [if_pos ⟨⟨i, xs, e⟩, ne⟩]
open Classical in
theorem ownR_at {b : Option Addr} {a : Addr} {o : HO} (h : ownR R ρ H b a = some o) : R a = some o ∨ (H a = some o ∧ some a ≠ b ∧ ∃ (i : Nat) (xs : List D), ρ[i]? = some (some (.own a xs))) := by
  unfold ownR at h
  cases e : R a with
  | some u => rw [e] at h; exact .inl h
  | none =>
    rw [e] at h
    have h' : (if (∃ (i : Nat) (xs : List D), ρ[i]? = some (some (.own a xs))) ∧ some a ≠ b then H a else none) = some o := h
    split at h'
    · rename_i c; exact .inr ⟨h', c.2, c.1⟩
    · cases h'
theorem ownR_dj {b : Option Addr} (r : Rel K R F ρ σ H) : ∀ a o, F a = some o → ownR R ρ H b a = none := fun a o e => by
  cases q : ownR R ρ H b a with
  | none => rfl
  | some u =>
    rcases ownR_at q with h | ⟨_, _, i, xs, h⟩
    · rw [r.dj a o e] at h; cases h
    · have := (r.own i a xs h).2.2.1; rw [e] at this; cases this
theorem ownR_sR {b : Option Addr} (r : Rel K R F ρ σ H) : Same (ownR R ρ H b) H := fun a o e => by
  rcases ownR_at e with h | ⟨h, _⟩
  · exact r.sR _ _ h
  · exact h
theorem ownR_tb {b : Option Addr} (r : Rel K R F ρ σ H) : TabsOk (ownR R ρ H b) F H := r.tb.re fun c o e => by
  rcases ownR_at e with h | ⟨h1, _, i, xs, h2⟩
  · exact .inl h
  · obtain ⟨_, ⟨vs, h3, _⟩, _⟩ := r.own i c xs h2
    rw [h1] at h3; cases h3; exact .inr plain_lst
theorem Rel.toCall (r : Rel K R F ρ σ H) : Rel K (ownR R ρ H none) F [] [] H :=
  ⟨r.sF, ownR_sR r, ownR_dj r, rfl, fun i d e => by simp at e, fun i a xs e => by simp at e, fun i j a xs ys e => by simp at e, ownR_tb r⟩
/-- behind a call that changed none of the locals' own lists -/
theorem Rel.ofCall {F' H' : Hp} (r : Rel K R F ρ σ H) (s : Same F F') (r' : Rel K (ownR R ρ H none) F' [] [] H') : Rel K R F' ρ σ H' := by
  refine ⟨r'.sF, ownR_same.trans r'.sR, fun a o e => Same.free ownR_same (r'.dj a o e), r.len, fun i d e => ?_, fun i a xs e => ?_, r.inj, r'.tb.less ownR_same⟩
  · obtain ⟨v, h1, h2⟩ := r.fz i d e; exact ⟨v, h1, h2.mono s⟩
  · obtain ⟨h1, ⟨vs, h2, h3⟩, h4, h5⟩ := r.own i a xs e
    have h6 := ownR_own (b := none) r e (by simp)
    rw [h2] at h6
    refine ⟨h1, ⟨vs, r'.sR _ _ h6, h3.mono s⟩, ?_, h5⟩
    cases q : F' a with
    | none => rfl
    | some o => have := r'.dj _ _ q; rw [h6] at this; cases this
theorem Rel.toCallO {i : Nat} {a : Addr} {xs : List D} (r : Rel K R F ρ σ H) (e : ρ[i]? = some (some (.own a xs))) : Rel K (ownR R ρ H (some a)) F [some (.own a xs)] [some (.ref a)] H := by
  obtain ⟨h1, h2, h4, h5⟩ := r.own i a xs e
  have hR : ownR R ρ H (some a) a = none := by
    cases q : ownR R ρ H (some a) a with
    | none => rfl
    | some u =>
      rcases ownR_at q with h | ⟨_, h, _⟩
      · rw [h5] at h; cases h
      · exact absurd rfl h
  have one : ∀ {j : Nat} {y : Sv}, ([some (Sv.own a xs)] : Env)[j]? = some (some y) → j = 0 ∧ y = .own a xs := fun {j y} e => by
    cases j with
    | zero => simp at e; exact ⟨rfl, e.symm⟩
    | succ j => simp at e
  refine ⟨r.sF, ownR_sR r, ownR_dj r, rfl, fun j d e => ?_, fun j b ys e => ?_, fun j l b ys zs e1 e2 => ?_, ownR_tb r⟩
  · cases (one e).2
  · obtain ⟨rfl, hb⟩ := one e
    cases hb
    exact ⟨rfl, h2, h4, hR⟩
  · rw [(one e1).1, (one e2).1]
theorem Rel.ofCallO {F' H' : Hp} {i : Nat} {a : Addr} {xs ys : List D} (r : Rel K R F ρ σ H) (e : ρ[i]? = some (some (.own a xs))) (s : Same F F') (r' : Rel K (ownR R ρ H (some a)) F' [some (.own a ys)] [some (.ref a)] H') : Rel K R F' (ρ.set i (some (.own a ys))) σ H' := by
  obtain ⟨g1, g2, g3, g4⟩ := r'.own 0 a ys rfl
  obtain ⟨k1, k2, k3, k4⟩ := r.own i a xs e
  have hl : i < ρ.length := (List.getElem?_eq_some_iff.mp e).1
  have key : ∀ m b zs, (ρ.set i (some (.own a ys)))[m]? = some (some (.own b zs)) → (m = i ∧ b = a ∧ zs = ys) ∨ (m ≠ i ∧ ρ[m]? = some (some (.own b zs))) := fun m b zs e => by
    by_cases hm : i = m
    · subst hm; rw [List.getElem?_set_self hl] at e; cases e; exact .inl ⟨rfl, rfl, rfl⟩
    · rw [List.getElem?_set_ne hm] at e; exact .inr ⟨Ne.symm hm, e⟩
  refine ⟨r'.sF, ownR_same.trans r'.sR, fun a o e => Same.free ownR_same (r'.dj a o e), by simp [r.len], fun j d q => ?_, fun j b zs q => ?_, fun j l b zs us e1 e2 => ?_, r'.tb.less ownR_same⟩
  · by_cases hj : i = j
    · subst hj; rw [List.getElem?_set_self hl] at q; cases q
    · rw [List.getElem?_set_ne hj] at q
      obtain ⟨v, h1, h2⟩ := r.fz j d q
      exact ⟨v, h1, h2.mono s⟩
  · rcases key j b zs q with ⟨rfl, rfl, rfl⟩ | ⟨hj, q'⟩
    · exact ⟨k1, g2, g3, k4⟩
    · obtain ⟨h1, ⟨vs, h2, h3⟩, h4, h5⟩ := r.own j b zs q'
      have ne : b ≠ a := fun z => by subst z; exact hj (r.inj j i b zs xs q' e)
      have h6 := ownR_own (b := some a) r q' (fun z => ne (Option.some.inj z))
      rw [h2] at h6
      refine ⟨h1, ⟨vs, r'.sR _ _ h6, h3.mono s⟩, ?_, h5⟩
      cases q : F' b with
      | none => rfl
      | some o => have := r'.dj _ _ q; rw [h6] at this; cases this
  · rcases key j b zs e1 with ⟨h1, h2, _⟩ | ⟨h1, h2⟩
    · rcases key l b us e2 with ⟨h3, h4, _⟩ | ⟨h3, h4⟩
      · rw [h1, h3]
      · subst h2; exact (h3 (r.inj l i b us xs h4 e)).elim
    · rcases key l b us e2 with ⟨h3, h4, _⟩ | ⟨h3, h4⟩
      · subst h4; exact (h1 (r.inj j i b zs xs h2 e)).elim
      · exact r.inj j l b zs us h2 h4
/-- an exception came out of such a call: the list that was handed on is no more spoken of -/
theorem Rel.ofCallX {F' H' : Hp} {i : Nat} {a : Addr} {xs : List D} (r : Rel K R F ρ σ H) (e : ρ[i]? = some (some (.own a xs))) (s : Same F F') (r' : Rel K (ownR R ρ H (some a)) F' [] [] H') : Rel K R F' (ρ.set i none) σ H' := by
  have key : ∀ (m : Nat) (y : Sv), (ρ.set i none)[m]? = some (some y) → i ≠ m ∧ ρ[m]? = some (some y) := fun m y e => by
    by_cases hm : i = m
    · subst hm
      by_cases hl : i < ρ.length
      · rw [List.getElem?_set_self hl] at e; cases e
      · rw [List.getElem?_eq_none (by simpa using hl)] at e; cases e
    · rw [List.getElem?_set_ne hm] at e; exact ⟨hm, e⟩
  refine ⟨r'.sF, ownR_same.trans r'.sR, fun a o e => Same.free ownR_same (r'.dj a o e), by simp [r.len], fun j d q => ?_, fun j b zs q => ?_, fun j l b zs us e1 e2 => r.inj j l b zs us (key _ _ e1).2 (key _ _ e2).2, r'.tb.less ownR_same⟩
  · obtain ⟨v, h1, h2⟩ := r.fz j d (key _ _ q).2
    exact ⟨v, h1, h2.mono s⟩
  · obtain ⟨hj, q'⟩ := key _ _ q
    obtain ⟨h1, ⟨vs, h2, h3⟩, h4, h5⟩ := r.own j b zs q'
    have ne : b ≠ a := fun z => by subst z; exact hj (r.inj i j b xs zs e q')
    have h6 := ownR_own (b := some a) r q' (fun z => ne (Option.some.inj z))
    rw [h2] at h6
    refine ⟨h1, ⟨vs, r'.sR _ _ h6, h3.mono s⟩, ?_, h5⟩
    cases q : F' b with
    | none => rfl
    | some o => have := r'.dj _ _ q; rw [h6] at this; cases this
end

/-! ### calls -/
def dCallP (g : GS) (fa : Wa) : We := fun ρ Q E => fa ρ (fun ds ρ1 => g ds (fun d => Q d ρ1) (fun x => E x ρ1)) E
def dCallOw (i : Nat) (g : GO) (fa : Wa) : We := fun ρ Q E => ∃ a xs0, ρ[i]? = some (some (.own a xs0)) ∧ fa ρ (fun ds ρ1 => ∃ xs, ρ1[i]? = some (some (.own a xs)) ∧ g xs ds (fun d ys => Q d (ρ1.set i (some (.own a ys)))) (fun x => E x (ρ1.set i none))) E
section
variable {X : Cx} {k : Nat} {f : Addr} {fd : FuncData} {ps : List Str} {g : GS} {go : GO} {fa : Wa} {x : Str} {p pos : Pos} {e : Expr} {es : List Expr}
theorem callP_spec {K : PySem.W.Frag} {R F F1 : Hp} {ρ1 : Env} {σ : L2.St} {H1 : Hp} {vs : List V} {ds : List D} {Q : VK} {W : WX} (m : MonoP g) (s1 : Same F F1) (r1 : Rel K R F1 ρ1 σ H1) (dv : DvA K F1 vs ds) (h : g ds (fun d => upE K R F σ Q d ρ1) (fun x => upX K R F σ W x ρ1)) : toSpP K g vs H1 Q (WE W σ) :=
  ⟨ownR R ρ1 H1 none, F1, ds, r1.toCall, dv, m _ _ _ _ _ (fun d q F' H' v s' r' dv' => q F' H' v (s1.trans s') (r1.ofCall s' r') dv') (fun x q F' H' cls dd s' r' ex => q F' H' cls dd (s1.trans s') (r1.ofCall s' r') ex) h⟩
theorem de_call (m : MonoP g) (Fn : FnOk X.prog X.w X.K X.mg X.base (L2.CX X.prog X.w) k f fd ps (toSpP X.K g)) (hr : Room k X.A) (hg : Gl X x) (hm : X.mg x = some (.ref f)) (hk : PySem.W.keepIn X.K (.ref f) = true) (hb : Binds X.K fd ps []) (ha : DA X (e :: es) fa)
    (hdb : (x == ("__debug__" : Str)) = false := by decide) (he : starEach (e :: es) X.env = (false, eval e X.env) :: starEach es X.env := by rfl) (hpl : (backTo pos (starEach es X.env)).any (·.1) = false := by rfl) :
    DE X (.Call (.Name x p) (e :: es) [] pos) (dCallP g fa) := by
  refine ⟨fun ρ Q Q' E E' hQ hE hw => ha.mono ρ _ _ _ _ (fun ds ρ1 z => m _ _ _ _ _ (fun d q => hQ _ _ q) (fun x q => hE _ _ q) z) hE hw, fun W tk => ?_⟩
  obtain ⟨t, pt, kk⟩ := ha.run W tk
  refine ⟨_, pe_callS Fn hr hg hm hk hb (fun σ => passAt tk σ) pt hdb he hpl, fun R F σ H ρ Q r hw => kk R F σ H ρ _ r (ha.mono _ _ _ _ _ (fun ds ρ1 z F1 H1 vs s1 r1 dv => ?_) (fun _ _ z => z) hw)⟩
  exact callP_spec m s1 r1 dv z
/-- f(e, ..) that gives a new list -/
def nCall (g : GN) (fa : Wa) : Wa := fun ρ Q E => fa ρ (fun ds ρ1 => g ds (fun xs => Q xs ρ1) (fun x => E x ρ1)) E
theorem dn_call {gn : GN} (m : MonoN gn) (Fn : FnOk X.prog X.w X.K X.mg X.base (L2.CX X.prog X.w) k f fd ps (toSpN X.K gn)) (hr : Room k X.A) (hg : Gl X x) (hm : X.mg x = some (.ref f)) (hk : PySem.W.keepIn X.K (.ref f) = true) (hb : Binds X.K fd ps []) (ha : DA X (e :: es) fa)
    (hdb : (x == ("__debug__" : Str)) = false := by decide) (he : starEach (e :: es) X.env = (false, eval e X.env) :: starEach es X.env := by rfl) (hpl : (backTo pos (starEach es X.env)).any (·.1) = false := by rfl) :
    DN X (.Call (.Name x p) (e :: es) [] pos) (nCall gn fa) := by
  refine ⟨fun ρ Q Q' E E' hQ hE hw => ha.mono ρ _ _ _ _ (fun ds ρ1 z => m _ _ _ _ _ (fun d q => hQ _ _ q) (fun x q => hE _ _ q) z) hE hw, fun W tk => ?_⟩
  obtain ⟨t, pt, kk⟩ := ha.run W tk
  refine ⟨_, pe_callS Fn hr hg hm hk hb (fun σ => passAt tk σ) pt hdb he hpl, fun R F σ H ρ Q r hw => kk R F σ H ρ _ r (ha.mono _ _ _ _ _ (fun ds ρ1 z F1 H1 vs s1 r1 dv => ?_) (fun _ _ z => z) hw)⟩
  exact ⟨ownR R ρ1 H1 none, F1, ds, r1.toCall, dv, m _ _ _ _ _ (fun xs q F' H' p us s' r' hp du => q F' H' p us (s1.trans s') (r1.ofCall s' r') hp du) (fun x q F' H' cls dd s' r' ex => q F' H' cls dd (s1.trans s') (r1.ofCall s' r') ex) z⟩
/-- f(src, e, ..): the first argument is a local list that f may change -/
theorem de_callO {i : Nat} {y : Str} {p2 : Pos} (m : MonoO go) (Fn : FnOk X.prog X.w X.K X.mg X.base (L2.CX X.prog X.w) k f fd ps (toSpO X.K go)) (hr : Room k X.A) (hg : Gl X x) (hm : X.mg x = some (.ref f)) (hk : PySem.W.keepIn X.K (.ref f) = true) (hb : Binds X.K fd ps [])
    (hN : X.N[i]? = some y) (hv : Vis X.env.scope y) (ha : DA X es fa) (hd : (y == ("__debug__" : Str)) = false := by decide) (hcd : (y == ("__classdict__" : Str)) = false := by decide)
    (hdb : (x == ("__debug__" : Str)) = false := by decide) (he : starEach (Expr.Name y p2 :: es) X.env = (false, eval (Expr.Name y p2) X.env) :: starEach es X.env := by rfl) (hpl : (backTo pos (starEach es X.env)).any (·.1) = false := by rfl) :
    DE X (.Call (.Name x p) (.Name y p2 :: es) [] pos) (dCallOw i go fa) := by
  refine ⟨fun ρ Q Q' E E' hQ hE ⟨a, xs0, h0, hw⟩ => ⟨a, xs0, h0, ha.mono ρ _ _ _ _ (fun ds ρ1 ⟨xs, h1, z⟩ => ⟨xs, h1, m _ _ _ _ _ _ (fun d l q => hQ _ _ q) (fun x q => hE _ _ q) z⟩) hE hw⟩, fun W tk => ?_⟩
  obtain ⟨t, pt, kk⟩ := ha.run W tk
  refine ⟨_, pe_callS Fn hr hg hm hk hb (fun σ => passAt tk σ) (pa_cons (pe_var (pos := p2) hN hv hd hcd) pt he) hdb he hpl, fun R F σ H ρ Q r ⟨a, xs0, h0, hw⟩ => ⟨_, (r.own i a xs0 h0).1, ?_⟩⟩
  refine kk R F σ H ρ _ r (ha.mono _ _ _ _ _ (fun ds ρ1 ⟨xs, h1, z⟩ F1 H1 vs s1 r1 dv => ?_) (fun _ _ z => z) hw)
  exact ⟨ownR R ρ1 H1 (some a), F1, a, vs, xs, ds, rfl, r1.toCallO h1, dv, m _ _ _ _ _ _ (fun d ys q F' H' v s' r' dv' => q F' H' v (s1.trans s') (r1.ofCallO h1 s' r') dv') (fun x q F' H' cls dd s' r' ex => q F' H' cls dd (s1.trans s') (r1.ofCallX h1 s' r') ex) z⟩

/-! keywords: the values in the parameters' order by their places -/
def pick {α : Type} (perm : List Nat) (l : List α) : List α := perm.filterMap fun i => l[i]?
def dCallK (n : Nat) (ks : List Str) (perm : List Nat) (g : GS) (fa fk : Wa) : We := fun ρ Q E => fa ρ (fun ds ρ1 => fk ρ1 (fun es ρ2 => (ds.length = n ∧ es.length = ks.length) ∧ g (pick perm (ds ++ es)) (fun d => Q d ρ2) (fun x => E x ρ2)) E) E
structure DK (X : Cx) (kws : List Keyword) (f : Wa) : Prop where
  mono : MonoA f
  run : ∀ (W : WX), Takes X W → ∃ t, PK X kws t ∧ ∀ R F σ H ρ (Q : List V → Hp → Prop), Rel X.K R F ρ σ H → f ρ (upA X.K R F σ Q) (upX X.K R F σ W) → t σ H Q
variable {n : Nat} {ks : List Str} {perm : List Nat} {kws : List Keyword} {fk : Wa}
end

/-! ### a def keeps its promise -/
def env0 (N : List Str) (ds : List D) : Env := ds.map (fun d => some (Sv.fz d)) ++ List.replicate (N.length - ds.length) none
theorem env0_rel {K : PySem.W.Frag} {R F : Hp} {H : Hp} {N : List Str} {vs : List V} {ds : List D} (r : Rel K R F [] [] H) (d : DvA K F vs ds) : Rel K R F (env0 N ds) (L2.start N vs) H := by
  have hl := d.length
  have key : ∀ (i : Nat) (y : Sv), (env0 N ds)[i]? = some (some y) → ∃ e, y = .fz e ∧ ds[i]? = some e := fun i y e => by
    unfold env0 at e
    by_cases hi : i < ds.length
    · rw [List.getElem?_append_left (by simpa using hi), List.getElem?_map, List.getElem?_eq_getElem hi] at e
      cases e
      exact ⟨_, rfl, List.getElem?_eq_getElem hi⟩
    · rw [List.getElem?_append_right (by simpa using hi), List.getElem?_replicate] at e
      split at e <;> cases e
  refine ⟨r.sF, r.sR, r.dj, by unfold env0 L2.start; simp [hl], fun i e h => ?_, fun i a xs h => ?_, fun i j a xs ys h => ?_, r.tb⟩
  · obtain ⟨e', he, hd⟩ := key i _ h
    cases he
    obtain ⟨v, h1, h2⟩ := d.get hd
    refine ⟨v, ?_, h2⟩
    have hi : i < vs.length := (List.getElem?_eq_some_iff.mp h1).1
    unfold L2.start
    rw [List.getElem?_append_left (by simpa using hi), List.getElem?_map, h1]
    rfl
  · obtain ⟨e', he, _⟩ := key i _ h; cases he
  · obtain ⟨e', he, _⟩ := key i _ h; cases he
def envO (N : List Str) (a : Addr) (xs : List D) (ds : List D) : Env := some (.own a xs) :: (ds.map (fun d => some (Sv.fz d)) ++ List.replicate (N.length - (ds.length + 1)) none)
theorem envO_rel {K : PySem.W.Frag} {R F : Hp} {H : Hp} {N : List Str} {a : Addr} {xs : List D} {vs : List V} {ds : List D} (r : Rel K R F [some (.own a xs)] [some (.ref a)] H) (d : DvA K F vs ds) : Rel K R F (envO N a xs ds) (L2.start N (.ref a :: vs)) H := by
  have hl := d.length
  obtain ⟨h1, h2, h3, h4⟩ := r.own 0 a xs rfl
  have key : ∀ (i : Nat) (y : Sv), (envO N a xs ds)[i]? = some (some y) → (i = 0 ∧ y = .own a xs) ∨ ∃ j e, i = j + 1 ∧ y = .fz e ∧ ds[j]? = some e := fun i y e => by
    unfold envO at e
    cases i with
    | zero => simp at e; exact .inl ⟨rfl, e.symm⟩
    | succ j =>
      rw [List.getElem?_cons_succ] at e
      by_cases hi : j < ds.length
      · rw [List.getElem?_append_left (by simpa using hi), List.getElem?_map, List.getElem?_eq_getElem hi] at e
        cases e
        exact .inr ⟨j, _, rfl, rfl, List.getElem?_eq_getElem hi⟩
      · rw [List.getElem?_append_right (by simpa using hi), List.getElem?_replicate] at e
        split at e <;> cases e
  refine ⟨r.sF, r.sR, r.dj, by unfold envO L2.start; simp [hl], fun i e h => ?_, fun i b ys h => ?_, fun i j b ys zs e1 e2 => ?_, r.tb⟩
  · rcases key i _ h with ⟨_, z⟩ | ⟨j, e', rfl, z, hd⟩
    · cases z
    · cases z
      obtain ⟨v, h1, h2⟩ := d.get hd
      refine ⟨v, ?_, h2⟩
      have hi : j < vs.length := (List.getElem?_eq_some_iff.mp h1).1
      unfold L2.start
      rw [List.map_cons, List.cons_append, List.getElem?_cons_succ, List.getElem?_append_left (by simpa using hi), List.getElem?_map, h1]
      rfl
  · rcases key i _ h with ⟨rfl, z⟩ | ⟨j, e', rfl, z, hd⟩
    · cases z; exact ⟨rfl, h2, h3, h4⟩
    · cases z
  · rcases key i _ e1 with ⟨rfl, z⟩ | ⟨_, _, _, z, _⟩
    · rcases key j _ e2 with ⟨rfl, z⟩ | ⟨_, _, _, z, _⟩
      · rfl
      · cases z
    · cases z
/-- what is wanted at a def's end -/
@[reducible] def endP (Q : D → Prop) (E : Exc → Prop) : Es := ⟨fun _ => Q .non, fun d _ => Q d, fun _ => False, fun _ => False, fun x _ => E x, fun _ _ => False⟩
/-- .. where the first parameter is the caller's list -/
@[reducible] def endO (a : Addr) (Q : D → List D → Prop) (E : Exc → Prop) : Es := ⟨fun ρ => ∃ ys, ρ[0]? = some (some (.own a ys)) ∧ Q .non ys, fun d ρ => ∃ ys, ρ[0]? = some (some (.own a ys)) ∧ Q d ys, fun _ => False, fun _ => False, fun x _ => E x, fun _ _ => False⟩
section
variable {P : Program} {w : World} {K : PySem.W.Frag} {mg : Str → Option Value} {base : Heap} {x qual : Str} {st : Stmt} {f : Addr} {fd : FuncData} {N ps : List Str} {k : Nat}
/-- the context in which a def's body runs -/
abbrev bodyX (P : Program) (w : World) (K : PySem.W.Frag) (mg : Str → Option Value) (base : Heap) (N : List Str) (qual : Str) (st : Stmt) (f : Addr) (cdv : Value) (A : Around) (outer : List PySem.Env) (s : Shared) (H : Hp) (E : XK) : Cx := cxOf (L2.CX P w) P w K mg base N qual (defScope st) f cdv A outer s H E
theorem fnP (Fn : Fun K x qual st f fd) (S : FnScope N ps (defScope st)) {gs : GS} {g : Ws} (hlen : ∀ ds Q E, gs ds Q E → ds.length = ps.length)
    (hd : ∀ (cdv : Value) (A : Around) (outer : List PySem.Env) (s : Shared) (H : Hp) (E : XK), Room k (A.deeper (envOfC qual (defScope st) s.heap.objs.size f cdv)) → DSs (bodyX P w K mg base N qual st f cdv A outer s H E) (defBody st) g)
    (hs : ∀ ds Q E, gs ds Q E → g (env0 N ds) (endP Q E)) : FnOk P w K mg base (L2.CX P w) (k + 1) f fd ps (toSpP K gs) := by
  refine Fn.okX S (fun vs H Q E ⟨R, F, ds, _, dv, h⟩ => by rw [dv.length]; exact hlen _ _ _ h) fun cdv A outer s H vs Q E hr ⟨R, F, ds, r, dv, h⟩ => ?_
  obtain ⟨t, p, k2⟩ := (hd cdv A outer s H E hr).run (fun cls d _ H => E cls d H) (takes_of rfl rfl rfl rfl)
  refine ⟨t, p, k2 R F _ H _ _ (env0_rel r dv) ((hd cdv A outer s H E hr).mono _ _ _ ?_ (hs _ _ _ h))⟩
  exact ⟨fun ρ q F' σ' H' s' r' => q F' H' _ s' r'.base .non, fun d ρ q F' σ' H' v s' r' dv' => q F' H' v s' r'.base dv', fun _ z => z.elim, fun _ z => z.elim, fun x ρ q F' σ' H' cls dd s' r' ex => q F' H' cls dd s' r'.base ex, fun _ _ z => z.elim⟩
@[reducible] def endN (Q : List D → Prop) (E : Exc → Prop) : Es := ⟨fun _ => False, fun _ _ => False, fun _ => False, fun _ => False, fun x _ => E x, fun xs _ => Q xs⟩
theorem fnN (Fn : Fun K x qual st f fd) (S : FnScope N ps (defScope st)) {gs : GN} {g : Ws} (hlen : ∀ ds Q E, gs ds Q E → ds.length = ps.length)
    (hd : ∀ (cdv : Value) (A : Around) (outer : List PySem.Env) (s : Shared) (H : Hp) (E : XK), Room k (A.deeper (envOfC qual (defScope st) s.heap.objs.size f cdv)) → DSs (bodyX P w K mg base N qual st f cdv A outer s H E) (defBody st) g)
    (hs : ∀ ds Q E, gs ds Q E → g (env0 N ds) (endN Q E)) : FnOk P w K mg base (L2.CX P w) (k + 1) f fd ps (toSpN K gs) := by
  refine Fn.okX S (fun vs H Q E ⟨R, F, ds, _, dv, h⟩ => by rw [dv.length]; exact hlen _ _ _ h) fun cdv A outer s H vs Q E hr ⟨R, F, ds, r, dv, h⟩ => ?_
  obtain ⟨t, p, k2⟩ := (hd cdv A outer s H E hr).run (fun cls d _ H => E cls d H) (takes_of rfl rfl rfl rfl)
  refine ⟨t, p, k2 R F _ H _ _ (env0_rel r dv) ((hd cdv A outer s H E hr).mono _ _ _ ?_ (hs _ _ _ h))⟩
  exact ⟨fun _ z => z.elim, fun _ _ z => z.elim, fun _ z => z.elim, fun _ z => z.elim, fun x ρ q F' σ' H' cls dd s' r' ex => q F' H' cls dd s' r'.base ex, fun xs ρ q F' σ' H' p us s' r' hp du => q F' H' p us s' r'.base hp du⟩
theorem Rel.ret {R F F' : Hp} {ρ' : Env} {σ' : L2.St} {H' : Hp} {a : Addr} {ys : List D} (r : Rel K R F' ρ' σ' H') (e : ρ'[0]? = some (some (.own a ys))) : Rel K R F' [some (.own a ys)] [some (.ref a)] H' := by
  obtain ⟨h1, h2, h3, h4⟩ := r.own 0 a ys e
  have one : ∀ {j : Nat} {y : Sv}, ([some (Sv.own a ys)] : Env)[j]? = some (some y) → j = 0 ∧ y = .own a ys := fun {j y} e => by
    cases j with
    | zero => simp at e; exact ⟨rfl, e.symm⟩
    | succ j => simp at e
  refine ⟨r.sF, r.sR, r.dj, rfl, fun j d e => ?_, fun j b zs e => ?_, fun j l b zs us e1 e2 => ?_, r.tb⟩
  · cases (one e).2
  · obtain ⟨rfl, hb⟩ := one e
    cases hb
    exact ⟨rfl, h2, h3, h4⟩
  · rw [(one e1).1, (one e2).1]
theorem fnO (Fn : Fun K x qual st f fd) (S : FnScope N ps (defScope st)) {gs : GO} {g : Ws} (hlen : ∀ xs ds Q E, gs xs ds Q E → ds.length + 1 = ps.length)
    (hd : ∀ (cdv : Value) (A : Around) (outer : List PySem.Env) (s : Shared) (H : Hp) (E : XK), Room k (A.deeper (envOfC qual (defScope st) s.heap.objs.size f cdv)) → DSs (bodyX P w K mg base N qual st f cdv A outer s H E) (defBody st) g)
    (hs : ∀ a xs ds Q E, gs xs ds Q E → g (envO N a xs ds) (endO a Q E)) : FnOk P w K mg base (L2.CX P w) (k + 1) f fd ps (toSpO K gs) := by
  refine Fn.okX S (fun vs H Q E ⟨R, F, a, ws, xs, ds, ev, _, dv, h⟩ => by rw [ev, List.length_cons, dv.length]; exact hlen _ _ _ _ h) fun cdv A outer s H vs Q E hr ⟨R, F, a, ws, xs, ds, ev, r, dv, h⟩ => ?_
  subst ev
  obtain ⟨t, p, k2⟩ := (hd cdv A outer s H E hr).run (fun cls d _ H => E cls d H) (takes_of rfl rfl rfl rfl)
  refine ⟨t, p, k2 R F _ H _ _ (envO_rel r dv) ((hd cdv A outer s H E hr).mono _ _ _ ?_ (hs a _ _ _ _ h))⟩
  exact ⟨fun ρ ⟨ys, e, q⟩ F' σ' H' s' r' => q F' H' _ s' (r'.ret (F := F) e) .non, fun d ρ ⟨ys, e, q⟩ F' σ' H' v s' r' dv' => q F' H' v s' (r'.ret (F := F) e) dv', fun _ z => z.elim, fun _ z => z.elim, fun x ρ q F' σ' H' cls dd s' r' ex => q F' H' cls dd s' r'.base ex, fun _ _ z => z.elim⟩
/-- a loop's wish about exceptions, in a def's body -/
theorem own_passes {cdv : Value} {A : Around} {outer : List PySem.Env} {s : Shared} {H : Hp} {E : XK} : PassesOwn (model P w) (bodyX P w K mg base N qual st f cdv A outer s H E).A (bodyX P w K mg base N qual st f cdv A outer s H E).env (bodyX P w K mg base N qual st f cdv A outer s H E).xe := by
  exact passes_of (X := bodyX P w K mg base N qual st f cdv A outer s H E) (K := fun e s'' => L2.CX P w outer H s E e s'') rfl
end

/-! ### the law -/
def lawS (n : Nat) : GS := fun ds Q _ => ∃ ns : List Int, ds = [.ro (ns.map D.int)] ∧ ns.length ≤ n ∧ Q (.bl true)
/-- all but the tables -/
def offT (H : Hp) : Hp := fun b => match H b with
  | some (.tbl _) => none
  | o => o
theorem offT_same {H : Hp} : Same (offT H) H := fun b o e => by
  unfold offT at e
  split at e
  · cases e
  · exact e
theorem offT_of {H : Hp} {b : Addr} {o : HO} (e : H b = some o) (n : ∀ ps, o ≠ .tbl ps) : offT H b = some o := by
  unfold offT
  split
  · rename_i ps h; rw [e] at h; exact (n ps (Option.some.inj h)).elim
  · exact e
theorem law_sp {n : Nat} {K : PySem.W.Frag} {H : Hp} {a : Addr} {ns : List Int} (hl : ns.length ≤ n) (hS : SqL K H a (ns.map V.int)) (tb : LamX.Tabs TabSet.T H) : toSpP K (lawS n) [.ref a] H (fun v _ => v = .bl true) fun _ _ _ => False := by
  refine ⟨fun _ => none, offT H, [.ro (ns.map D.int)], ⟨offT_same, fun _ _ e => (by cases e), fun _ _ _ => rfl, rfl, fun i d e => (by simp at e), fun i a xs e => (by simp at e), fun i j a xs ys e => (by simp at e), ⟨tb, (fun _ _ z => by cases z), fun b ps z => ?_⟩⟩, .cons (.ro ?_ DvA.ints) .nil, ns, rfl, hl, fun F' H' v _ _ dv => by cases dv; rfl⟩
  · unfold offT at z
    split at z
    · cases z
    · rename_i n; exact n ps z
  · rcases hS with h | h
    · rcases h with h | ⟨o, h⟩
      · exact .inl (.inl (offT_of h fun _ z => by cases z))
      · exact .inl (.inr ⟨o, offT_of h fun _ z => by cases z⟩)
    · exact .inr h
/-! ### names in short -/
section
variable {X : Cx}
theorem dv (i : Nat) {x : Str} {pos : Pos} (hN : X.N[i]? = some x := by rfl) (hv : Vis X.env.scope x := by first | exact Or.inl rfl | exact Or.inr (Or.inl rfl) | exact Or.inr (Or.inr rfl)) (hd : (x == ("__debug__" : Str)) = false := by decide)
    (hcd : (x == ("__classdict__" : Str)) = false := by decide) : DE X (.Name x pos) (dVar i) := de_var hN hv hd hcd
theorem df (i : Nat) {x : Str} {pos : Pos} (hN : X.N[i]? = some x := by rfl) (hv : Vis X.env.scope x := by first | exact Or.inl rfl | exact Or.inr (Or.inl rfl) | exact Or.inr (Or.inr rfl)) (hd : (x == ("__debug__" : Str)) = false := by decide)
    (hcd : (x == ("__classdict__" : Str)) = false := by decide) : DE X (.Name x pos) (dFrz i) := de_frz hN hv hd hcd
end
end DL
namespace DL
open PySem PySem.Spec PyProof.Rows L2
variable [TabSet]

/-! ### a < b < c -/
def dChain (g g' : G2) (fa fb fc : We) : We := fun ρ Q E => fa ρ (fun x ρ1 => fb ρ1 (fun y ρ2 => g x y fun z => ∃ b, z = .bl b ∧ Ite b (fc ρ2 (fun w ρ3 => g' y w fun d => Q d ρ3) E) (Q (.bl false) ρ2)) E) E
section
variable {X : Cx} {a b c e : Expr} {fa fb fc f : We} {g g' : G2} {pos : Pos}
theorem dChain_mono (hg : ∀ x y (Q Q' : D → Prop), (∀ d, Q d → Q' d) → g x y Q → g x y Q') (hg' : ∀ x y (Q Q' : D → Prop), (∀ d, Q d → Q' d) → g' x y Q → g' x y Q') (ma : MonoE fa) (mb : MonoE fb) (mc : MonoE fc) : MonoE (dChain g g' fa fb fc) := fun ρ Q Q' E E' hQ hE h =>
  ma ρ _ _ _ _ (fun x ρ1 h1 => mb ρ1 _ _ _ _ (fun y ρ2 h2 => hg x y _ _ (fun d ⟨b, e, h3⟩ => ⟨b, e, h3.imp (fun z => mc ρ2 _ _ _ _ (fun w ρ3 h4 => hg' y w _ _ (fun d h5 => hQ _ _ h5) h4) hE z) (fun z => hQ _ _ z)⟩) h2) hE h1) hE h
theorem chain_run {op op' : CmpOp} (ho : DOp X (compareOp op) g) (ho' : DOp X (compareOp op') g') (ha : DE X a fa) (hb : DE X b fb) (hc : DE X c fc) {W : WX} (tk : Takes X W) :
    ∃ r r' ta tb tc, OpR X (compareOp op) r ∧ OpR X (compareOp op') r' ∧ PE X a ta ∧ PE X b tb ∧ PE X c tc ∧ ∀ R F σ H ρ (Q : VK), Rel X.K R F ρ σ H → dChain g g' fa fb fc ρ (upE X.K R F σ Q) (upX X.K R F σ W) → tChain r r' ta tb tc σ H Q := by
  obtain ⟨r, hr, hd⟩ := ho.run
  obtain ⟨r', hr', hd'⟩ := ho'.run
  obtain ⟨ta, tb, pa, pb, k⟩ := two_run ha hb tk
  obtain ⟨tc, pc, kc⟩ := hc.run W tk
  refine ⟨r, r', ta, tb, tc, hr, hr', pa, pb, pc, fun R F σ H ρ Q rl h => ?_⟩
  refine k R F σ H ρ (fun x y ρ2 => g x y fun z => ∃ b, z = .bl b ∧ Ite b (fc ρ2 (fun w ρ3 => g' y w fun d => upE X.K R F σ Q d ρ3) (upX X.K R F σ W)) (upE X.K R F σ Q (.bl false) ρ2)) _ rl (fun dx dy ρ2 F2 H2 x y hP s2 r2 d1 d2 => ?_) h
  refine hd F2 H2 x y dx dy _ r2.sF d1 d2 (ho.mono dx dy _ _ (fun d ⟨bb, eb, hq⟩ => ?_) hP)
  subst eb
  have fin : ∀ H3, Rel X.K R F2 ρ2 σ H3 → ∃ k, V.bl bb = V.bl k ∧ if k = true then tc σ H3 fun w H4 => r' y w H4 Q else Q (.bl false) H3 := fun H3 r3 => by
    refine ⟨bb, rfl, (hq.imp (fun z => ?_) (fun z => ?_)).out⟩
    · refine kc R F2 σ H3 ρ2 _ r3 (hc.mono _ _ _ _ _ (fun dw ρ3 h3 F3 H4 w s3 r4 dv => ?_) (upX.mono s2) z)
      exact hd' F3 H4 y w dy dw Q r4.sF (d2.mono s3) dv (ho'.mono _ _ _ _ (fun d q => up_fin (s2.trans s3) r4 q) h3)
    · exact z F2 H3 _ s2 r3 (.bl false)
  refine ⟨fun v dv => ?_, fun p o hp _ dv => by cases dv⟩
  cases dv
  first
    | exact fin H2 r2
    | (obtain ⟨k, ek, z⟩ := fin H2 r2; exact ⟨k, ek, z⟩)
theorem de_chain {op op' : CmpOp} (ho : DOp X (compareOp op) g) (ho' : DOp X (compareOp op') g') (ha : DE X a fa) (hb : DE X b fb) (hc : DE X c fc) (hm : lastMarks [op, op'] [b, c] = false := by with_unfolding_all rfl) : DE X (.Compare a [op, op'] [b, c] pos) (dChain g g' fa fb fc) := by
  refine ⟨dChain_mono ho.mono ho'.mono ha.mono hb.mono hc.mono, fun W tk => ?_⟩
  obtain ⟨r, r', ta, tb, tc, hr, hr', pa, pb, pc, k⟩ := chain_run ho ho' ha hb hc tk
  exact ⟨_, pe_chain hr hr' pa pb pc hm, k⟩
theorem dt_chain {op op' : CmpOp} (ho : DOp X (compareOp op) g) (ho' : DOp X (compareOp op') g') (ha : DE X a fa) (hb : DE X b fb) (hc : DE X c fc) (hm : lastMarks [op, op'] [b, c] = false := by with_unfolding_all rfl) : DT X (.Compare a [op, op'] [b, c] pos) (dTest (dChain g g' fa fb fc)) := by
  have mm := dChain_mono ho.mono ho'.mono ha.mono hb.mono hc.mono
  refine ⟨dTest_mono mm, fun W tk => ?_⟩
  obtain ⟨r, r', ta, tb, tc, hr, hr', pa, pb, pc, k⟩ := chain_run ho ho' ha hb hc tk
  exact ⟨_, pt_chain hr hr' pa pb pc hm, fun R F σ H ρ Q rl hw => k R F σ H ρ _ rl (mm _ _ _ _ _ (fun d ρ1 => upE_test) (fun _ _ z => z) hw)⟩
/-! ### name += e -/
def dAug (i : Nat) (g : G2) (f : We) : Ws := fun ρ D => ∃ x, ρ[i]? = some (some (.fz x)) ∧ f ρ (fun y ρ1 => g x y fun d => D.nx (ρ1.set i (some (.fz d)))) D.ex
theorem ds_aug {i : Nat} {x : Str} {op : Operator} {pos' : Pos} (ho : DOp X (inplaceOp op) g) (hN : X.N.Nodup) (hi : X.N[i]? = some x) (hx : Loc X.env.scope x) (he : DE X e f) (hf : X.fn x = true ∨ X.env.scope.names.lookup x = some .local := by first | exact .inl rfl | exact .inr rfl | assumption) :
    DS X (.AugAssign (.Name x pos') op e pos) (dAug i g f) := by
  refine ⟨fun ρ D D' l ⟨x, h0, hw⟩ => ⟨x, h0, he.mono _ _ _ _ _ (fun y ρ1 z => ho.mono _ _ _ _ (fun d q => l.nx _ q) z) l.ex hw⟩, fun W tk => ?_⟩
  obtain ⟨t, p, k⟩ := he.run W tk
  obtain ⟨r, hr, hd⟩ := ho.run
  have hip : PIp X op (fun x y H Q => r x y H Q) := fun pins s σ H x y v u Q I r1 r2 h => hr pins s σ H x y v u Q I r1 r2 h
  refine ⟨_, ps_aug hN hi hx p hip hf, fun R F σ H ρ D rl ⟨dx, h0, hw⟩ => ?_⟩
  obtain ⟨v, h1, h2⟩ := rl.fz i dx h0
  refine ⟨v, h1, k R F σ H ρ _ rl (he.mono _ _ _ _ _ (fun dy ρ1 z F1 H1 y s1 r1 dv => ?_) upS.exX hw)⟩
  refine hd F1 H1 v y dx dy _ r1.sF (h2.mono s1) dv (ho.mono _ _ _ _ (fun d q => ?_) z)
  refine ⟨fun u du => q F1 _ H1 s1 (r1.setF du), fun p o hp nt du => ?_⟩
  obtain ⟨s2, r2⟩ := r1.alloc (o := o) hp nt
  exact q _ _ _ (s1.trans s2) (r2.setF du)
theorem op_IAdd : DOp X (inplaceOp .Add) (gI (fun _ _ => True) fun i j => .int (i + j)) := dop_int0 iop_add
end

/-! ### the same, step by step -/
section
variable {ρ : Env} {Q : Qn} {E : Qx} {QA : List D → Env → Prop} {QT : Bool → Env → Prop} {D0 : Es} {nx : Env → Prop} {rt : D → Env → Prop} {bk ct : Env → Prop} {ex : Qx} {rn : List D → Env → Prop} {f fa fb fc : We} {wa wb : Wa} {ta tb : Wt} {g g2 : Ws} {G G' : G2} {d : D} {i j : Nat}
theorem i_C (h : Q d ρ) : dC d ρ Q E := h
theorem i_var (e : ρ[i]? = some (some (.fz d))) (h : Q d ρ) : dVar i ρ Q E := ⟨d, e, h⟩
theorem i_frz {a : Addr} {xs : List D} (e : ρ[i]? = some (some (.own a xs))) (h : Q (.lst xs) (ρ.set i (some (.fz (.lst xs))))) : dFrz i ρ Q E := .inl ⟨a, xs, e, h⟩
theorem i_frz2 (e : ρ[i]? = some (some (.fz d))) (h : Q d ρ) : dFrz i ρ Q E := .inr ⟨d, e, h⟩
theorem i_op (h : fa ρ (fun x ρ1 => fb ρ1 (fun y ρ2 => G x y fun d => Q d ρ2) E) E) : dOp G fa fb ρ Q E := h
theorem i_chain (h : fa ρ (fun x ρ1 => fb ρ1 (fun y ρ2 => G x y fun z => ∃ b, z = .bl b ∧ Ite b (fc ρ2 (fun w ρ3 => G' y w fun d => Q d ρ3) E) (Q (.bl false) ρ2)) E) E) : dChain G G' fa fb fc ρ Q E := h
theorem i_bl {b : Bool} {P : Bool → Prop} (h : P b) : ∃ c, D.bl b = .bl c ∧ P c := ⟨b, rfl, h⟩
theorem i_nil (h : QA [] ρ) : dNil ρ QA E := h
theorem i_cons (h : f ρ (fun x ρ1 => wa ρ1 (fun xs ρ2 => QA (x :: xs) ρ2) E) E) : dCons f wa ρ QA E := h
theorem i_star (h : f ρ (fun x ρ1 => ∃ ys, itemsD x = some ys ∧ wa ρ1 (fun xs ρ2 => QA (ys ++ xs) ρ2) E) E) : dStar f wa ρ QA E := h
theorem i_items {xs : List D} {P : List D → Prop} {x : D} (e : itemsD x = some xs) (h : P xs) : ∃ ys, itemsD x = some ys ∧ P ys := ⟨xs, e, h⟩
theorem i_tup (h : wa ρ (fun xs ρ1 => xs.length ≤ sizeLine ∧ Q (.tup xs) ρ1) E) : dTup wa ρ Q E := h
theorem i_lst (h : wa ρ (fun xs ρ1 => xs.length ≤ sizeLine ∧ Q (.lst xs) ρ1) E) : dLst wa ρ Q E := h
theorem i_nlst (h : wa ρ (fun xs ρ1 => xs.length ≤ sizeLine ∧ QA xs ρ1) E) : nLst wa ρ QA E := h
theorem i_nlstC (h : f ρ (fun d ρ1 => ∃ xs, itemsD d = some xs ∧ QA xs ρ1) E) : nLstC f ρ QA E := h
theorem i_test (h : f ρ (fun d ρ1 => ∃ b, d = .bl b ∧ QT b ρ1) E) : dTest f ρ QT E := h
theorem i_and (h : ta ρ (fun b ρ1 => Ite b (tb ρ1 QT E) (QT false ρ1)) E) : dAnd ta tb ρ QT E := h
theorem i_or (h : ta ρ (fun b ρ1 => Ite b (QT true ρ1) (tb ρ1 QT E)) E) : dOr ta tb ρ QT E := h
theorem i_not (h : ta ρ (fun b ρ1 => QT (!b) ρ1) E) : dNot ta ρ QT E := h
theorem i_andV (h : fa ρ (fun d ρ1 => ∃ b, d = .bl b ∧ Ite b (fb ρ1 Q E) (Q (.bl false) ρ1)) E) : dAndV fa fb ρ Q E := h
theorem i_orV (h : fa ρ (fun d ρ1 => ∃ b, d = .bl b ∧ Ite b (Q (.bl true) ρ1) (fb ρ1 Q E)) E) : dOrV fa fb ρ Q E := h
theorem i_notV (h : fa ρ (fun d ρ1 => ∃ b, d = .bl b ∧ Q (.bl (!b)) ρ1) E) : dNotV fa ρ Q E := h
theorem i_if (h : ta ρ (fun b ρ1 => Ite b (fa ρ1 Q E) (fb ρ1 Q E)) E) : dIf ta fa fb ρ Q E := h
theorem i_neg (h : f ρ (fun d ρ1 => ∃ i, d = .int i ∧ Q (.int (-i)) ρ1) E) : dNeg f ρ Q E := h
theorem i_int {n : Int} {P : Int → Prop} (h : P n) : ∃ i, D.int n = .int i ∧ P i := ⟨n, rfl, h⟩
theorem i_isi {tst : D → Bool} (h : f ρ (fun d ρ1 => isO d = false ∧ Q (.bl (tst d)) ρ1) E) : dIsi tst f ρ Q E := h
theorem i_call {GG : GA} (h : wa ρ (fun xs ρ1 => GG xs fun d => Q d ρ1) E) : dCall GG wa ρ Q E := h
theorem i_callP {S : GS} (h : wa ρ (fun ds ρ1 => S ds (fun d => Q d ρ1) (fun x => E x ρ1)) E) : dCallP S wa ρ Q E := h
theorem i_callN {S : GN} (h : wa ρ (fun ds ρ1 => S ds (fun xs => QA xs ρ1) (fun x => E x ρ1)) E) : nCall S wa ρ QA E := h
theorem i_callO {S : GO} {a : Addr} {xs : List D} (e : ρ[i]? = some (some (.own a xs))) (h : wa ρ (fun ds ρ1 => ∃ xs, ρ1[i]? = some (some (.own a xs)) ∧ S xs ds (fun d ys => Q d (ρ1.set i (some (.own a ys)))) (fun x => E x (ρ1.set i none))) E) : dCallOw i S wa ρ Q E := ⟨a, xs, e, h⟩
theorem i_own {a : Addr} {xs : List D} {P : List D → Prop} (e : ρ[i]? = some (some (.own a xs))) (h : P xs) : ∃ xs, ρ[i]? = some (some (.own a xs)) ∧ P xs := ⟨xs, e, h⟩
theorem i_callK {n : Nat} {ks : List Str} {perm : List Nat} {S : GS} (h : wa ρ (fun ds ρ1 => wb ρ1 (fun es ρ2 => (ds.length = n ∧ es.length = ks.length) ∧ S (pick perm (ds ++ es)) (fun d => Q d ρ2) (fun x => E x ρ2)) E) E) : dCallK n ks perm S wa wb ρ Q E := h
theorem i_nw (h : wa ρ (fun xs ρ1 => Q (.lst xs) ρ1) E) : dNw wa ρ Q E := h
theorem i_lenO {a : Addr} {xs : List D} (e : ρ[i]? = some (some (.own a xs))) (h : Q (.int xs.length) ρ) : dLenO i ρ Q E := ⟨a, xs, e, h⟩
theorem i_tupO {a : Addr} {xs : List D} (e : ρ[i]? = some (some (.own a xs))) (h : Q (.tup xs) ρ) : dTupO i ρ Q E := ⟨a, xs, e, h⟩
theorem i_ixO {a : Addr} {xs : List D} (e : ρ[i]? = some (some (.own a xs))) (h : fb ρ (fun y ρ1 => ∃ ys j d, ρ1[i]? = some (some (.own a ys)) ∧ y = .int j ∧ atI ys j = some d ∧ Q d ρ1) E) : dIxO i fb ρ Q E := ⟨a, xs, e, h⟩
theorem i_mt {GG : GM} {a : Addr} {xs : List D} (e : ρ[i]? = some (some (.own a xs))) (h : wa ρ (fun ys ρ1 => ∃ xs1, ρ1[i]? = some (some (.own a xs1)) ∧ GG xs1 ys fun d zs => Q d (ρ1.set i (some (.own a zs)))) E) : dMt i GG wa ρ Q E := ⟨a, xs, e, h⟩
theorem i_cut {fl fh : Wo} (h : fa ρ (fun x ρ1 => fl ρ1 (fun lo ρ2 => fh ρ2 (fun hi ρ3 => gCut x lo hi fun d => Q d ρ3) E) E) E) : dCut fa fl fh ρ Q E := h
theorem i_cutT {xs : List D} {lo hi : Option Int} {P : D → Prop} (h : P (.tup (cut xs lo hi))) : gCut (.tup xs) lo hi P := h
theorem i_cutL {xs : List D} {lo hi : Option Int} {P : D → Prop} (h : P (.lst (cut xs lo hi))) : gCut (.lst xs) lo hi P := h
theorem i_cutR {xs : List D} {lo hi : Option Int} {P : D → Prop} (h : P (.lst (cut xs lo hi))) : gCut (.ro xs) lo hi P := h
theorem i_oN {QO : Option Int → Env → Prop} (h : QO none ρ) : oNone ρ QO E := h
theorem i_oS {QO : Option Int → Env → Prop} (h : f ρ (fun d ρ1 => ∃ i, d = .int i ∧ QO (some i) ρ1) E) : oSome f ρ QO E := h
/-! operators -/
theorem i_addI {a b : Int} {P : D → Prop} (h : P (.int (a + b))) : gAdd (.int a) (.int b) P := h
theorem i_addL {a b : List D} {P : D → Prop} (h1 : a.length + b.length ≤ sizeLine) (h : P (.lst (a ++ b))) : gAdd (.lst a) (.lst b) P := ⟨h1, h⟩
theorem i_addT {a b : List D} {P : D → Prop} (h1 : a.length + b.length ≤ sizeLine) (h : P (.tup (a ++ b))) : gAdd (.tup a) (.tup b) P := ⟨h1, h⟩
theorem i_mulI {a b : Int} {P : D → Prop} (h1 : MulOk a b) (h : P (.int (a * b))) : gMul (.int a) (.int b) P := ⟨h1, h⟩
theorem i_gI0 {a b : Int} {F : Int → Int → D} {P : D → Prop} (h : P (F a b)) : gI (fun _ _ => True) F (.int a) (.int b) P := ⟨a, b, rfl, rfl, trivial, h⟩
theorem i_eq {x y : D} {P : D → Prop} (h1 : x.flat 60 = true) (h2 : y.flat 60 = true) (h : P (.bl (x.eq y))) : gEq x y P := ⟨⟨h1, h2⟩, h⟩
theorem i_ne {x y : D} {P : D → Prop} (h1 : x.flat 60 = true) (h2 : y.flat 60 = true) (h : P (.bl (!x.eq y))) : gNe x y P := ⟨⟨h1, h2⟩, h⟩
theorem i_isN {x : D} {P : D → Prop} {n : Bool} (h1 : ∀ v, x ≠ .ob v) (h : P (.bl (xor n (isNon x)))) : gIsN n x .non P := ⟨rfl, h1, h⟩
theorem i_isB {a b n : Bool} {P : D → Prop} (h : P (.bl (xor n (decide (a = b))))) : gIs n (.bl a) (.bl b) P := ⟨a, b, rfl, rfl, h⟩
theorem i_ixT {xs : List D} {k : Int} {y : D} {P : D → Prop} (e : atI xs k = some y) (h : P y) : gIx (.tup xs) (.int k) P := ⟨y, e, h⟩
theorem i_ixL {xs : List D} {k : Int} {y : D} {P : D → Prop} (e : atI xs k = some y) (h : P y) : gIx (.lst xs) (.int k) P := ⟨y, e, h⟩
theorem i_ixR {xs : List D} {k : Int} {y : D} {P : D → Prop} (e : atI xs k = some y) (h : P y) : gIx (.ro xs) (.int k) P := ⟨y, e, h⟩
/-! built-ins -/
theorem i_lenT {xs : List D} {P : D → Prop} (h : P (.int xs.length)) : gLen [.tup xs] P := h
theorem i_lenL {xs : List D} {P : D → Prop} (h : P (.int xs.length)) : gLen [.lst xs] P := h
theorem i_lenR {xs : List D} {P : D → Prop} (h : P (.int xs.length)) : gLen [.ro xs] P := h
theorem i_tupCT {xs : List D} {P : D → Prop} (h : P (.tup xs)) : gTupC [.tup xs] P := h
theorem i_tupCL {xs : List D} {P : D → Prop} (h : P (.tup xs)) : gTupC [.lst xs] P := h
theorem i_lstCT {xs : List D} {P : D → Prop} (h : P (.lst xs)) : gLstC [.tup xs] P := h
theorem i_lstCL {xs : List D} {P : D → Prop} (h : P (.lst xs)) : gLstC [.lst xs] P := h
theorem i_abs {n : Int} {P : D → Prop} (h : P (.int (if n < 0 then -n else n))) : gAbs [.int n] P := ⟨n, rfl, h⟩
theorem i_max2 {a b : Int} {P : D → Prop} (h : P (.int (if b > a then b else a))) : gMax2 [.int a, .int b] P := ⟨a, b, rfl, h⟩
theorem i_min2 {a b : Int} {P : D → Prop} (h : P (.int (if b < a then b else a))) : gMin2 [.int a, .int b] P := ⟨a, b, rfl, h⟩
theorem i_intI {n : Int} {P : D → Prop} (h : P (.int n)) : gInt [.int n] P := h
theorem i_intB {b : Bool} {P : D → Prop} (h : P (.int (if b then 1 else 0))) : gInt [.bl b] P := h
/-! statements -/
theorem s_skip (h : nx ρ) : dSkip ρ ⟨nx, rt, bk, ct, ex, rn⟩ := h
theorem s_seq (h : g ρ ⟨fun ρ' => g2 ρ' ⟨nx, rt, bk, ct, ex, rn⟩, rt, bk, ct, ex, rn⟩) : dSeq g g2 ρ ⟨nx, rt, bk, ct, ex, rn⟩ := h
theorem s_brk (h : bk ρ) : dBrk ρ ⟨nx, rt, bk, ct, ex, rn⟩ := h
theorem s_cnt (h : ct ρ) : dCnt ρ ⟨nx, rt, bk, ct, ex, rn⟩ := h
theorem s_expr (h : f ρ (fun _ ρ1 => nx ρ1) ex) : dExpr f ρ ⟨nx, rt, bk, ct, ex, rn⟩ := h
theorem s_ret (h : f ρ rt ex) : dRet f ρ ⟨nx, rt, bk, ct, ex, rn⟩ := h
theorem s_retN (h : rt .non ρ) : dRetN ρ ⟨nx, rt, bk, ct, ex, rn⟩ := h
theorem s_retL (h : wa ρ rn ex) : dRetL wa ρ ⟨nx, rt, bk, ct, ex, rn⟩ := h
theorem s_if (h : ta ρ (fun b ρ1 => Ite b (g ρ1 ⟨nx, rt, bk, ct, ex, rn⟩) (g2 ρ1 ⟨nx, rt, bk, ct, ex, rn⟩)) ex) : dIfS ta g g2 ρ ⟨nx, rt, bk, ct, ex, rn⟩ := h
theorem s_asg {G : Wg} (h : f ρ (fun d ρ1 => G d ρ1 nx) ex) : dAsg f G ρ ⟨nx, rt, bk, ct, ex, rn⟩ := h
theorem s_set (h : f ρ (fun d ρ1 => nx (ρ1.set i (some (.fz d)))) ex) : dSet i f ρ ⟨nx, rt, bk, ct, ex, rn⟩ := h
theorem s_new (h : wa ρ (fun xs ρ1 => ∀ p, nx (ρ1.set i (some (.own p xs)))) ex) : dNew i wa ρ ⟨nx, rt, bk, ct, ex, rn⟩ := h
theorem s_aug {x : D} (e : ρ[i]? = some (some (.fz x))) (h : f ρ (fun y ρ1 => G x y fun d => nx (ρ1.set i (some (.fz d)))) ex) : dAug i G f ρ ⟨nx, rt, bk, ct, ex, rn⟩ := ⟨x, e, h⟩
theorem s_par2 {fm : Wm} (h : fm ρ (fun ms ρ1 => ∃ m1 m2, ms = [m1, m2] ∧ setM i m1 ρ1 fun ρ2 => setM j m2 ρ2 nx) ex) : dPar2 i j fm ρ ⟨nx, rt, bk, ct, ex, rn⟩ := h
theorem s_par3 {l : Nat} {fm : Wm} (h : fm ρ (fun ms ρ1 => ∃ m1 m2 m3, ms = [m1, m2, m3] ∧ setM i m1 ρ1 fun ρ2 => setM j m2 ρ2 fun ρ3 => setM l m3 ρ3 nx) ex) : dPar3 i j l fm ρ ⟨nx, rt, bk, ct, ex, rn⟩ := h
theorem m_nil {QM : List Mv → Env → Prop} (h : QM [] ρ) : mNil ρ QM E := h
theorem m_e {fm : Wm} {QM : List Mv → Env → Prop} (h : f ρ (fun d ρ1 => fm ρ1 (fun ms ρ2 => QM (.e d :: ms) ρ2) E) E) : mE f fm ρ QM E := h
theorem m_n {fm : Wm} {QM : List Mv → Env → Prop} (h : wa ρ (fun xs ρ1 => fm ρ1 (fun ms ρ2 => QM (.n xs :: ms) ρ2) E) E) : mN wa fm ρ QM E := h
theorem i_m2 {m1 m2 : Mv} {P : Mv → Mv → Prop} (h : P m1 m2) : ∃ a b, [m1, m2] = [a, b] ∧ P a b := ⟨m1, m2, rfl, h⟩
theorem i_m3 {m1 m2 m3 : Mv} {P : Mv → Mv → Mv → Prop} (h : P m1 m2 m3) : ∃ a b c, [m1, m2, m3] = [a, b, c] ∧ P a b c := ⟨m1, m2, m3, rfl, h⟩
theorem i_setE {P : Env → Prop} (h : P (ρ.set i (some (.fz d)))) : setM i (.e d) ρ P := h
theorem i_setN {xs : List D} {P : Env → Prop} (h : ∀ p, P (ρ.set i (some (.own p xs)))) : setM i (.n xs) ρ P := h
theorem s_setI (h : fb ρ (fun d ρ1 => ∃ a xs, ρ1[i]? = some (some (.own a xs)) ∧ fa ρ1 (fun y ρ2 => ∃ xs2 k j, ρ2[i]? = some (some (.own a xs2)) ∧ y = .int k ∧ ixN xs2.length k = some j ∧ nx (ρ2.set i (some (.own a (xs2.set j d))))) ex) ex) : dSetI i fa fb ρ ⟨nx, rt, bk, ct, ex, rn⟩ := h
theorem s_for {G : Wg} (h : wa ρ (fun ds ρ1 => forL G g ds ρ1 ⟨nx, rt, bk, ct, ex, rn⟩) ex) : dFor wa G g ρ ⟨nx, rt, bk, ct, ex, rn⟩ := h
theorem g_N {P : Env → Prop} (h : P (ρ.set i (some (.fz d)))) : gN i d ρ P := h
theorem g_T {gs : Wgs} {xs : List D} {n : Nat} {P : Env → Prop} (e : xs.length = n) (h : gs xs ρ P) : gT n gs (.tup xs) ρ P := ⟨xs, rfl, e, h⟩
theorem g_cons {G : Wg} {gs : Wgs} {xs : List D} {P : Env → Prop} (h : G d ρ fun ρ1 => gs xs ρ1 P) : gsCons G gs (d :: xs) ρ P := ⟨d, xs, rfl, h⟩
theorem g_nil {P : Env → Prop} (h : P ρ) : gsNil [] ρ P := ⟨rfl, h⟩
theorem i_itemsI (h : f ρ (fun d ρ1 => ∃ ds, itemsD d = some ds ∧ QA ds ρ1) E) : iItems f ρ QA E := h
theorem i_r1 (h : wa ρ (fun ds ρ1 => ∃ j, ds = [.int j] ∧ (-(2 ^ 62) ≤ j ∧ j < 2 ^ 62) ∧ QA (rangeD 0 j.toNat) ρ1) E) : iR1 wa ρ QA E := h
theorem i_r2 (h : wa ρ (fun ds ρ1 => ∃ i j, ds = [.int i, .int j] ∧ (-(2 ^ 62) ≤ i ∧ i < 2 ^ 62 ∧ -(2 ^ 62) ≤ j ∧ j < 2 ^ 62) ∧ QA (rangeD i (j - i).toNat) ρ1) E) : iR2 wa ρ QA E := h
theorem i_zipD (h : wa ρ (fun ds ρ1 => ∃ x y, ds = [x, y] ∧ ∃ xs ys, ((x = .tup xs ∧ y = .tup ys) ∨ (isSeqL x = some xs ∧ isSeqL y = some ys)) ∧ QA (zipD xs ys) ρ1) E) : iZipD wa ρ QA E := h
theorem i_enumD (h : wa ρ (fun ds ρ1 => ∃ x xs, ds = [x] ∧ isSeqL x = some xs ∧ QA (enumD xs) ρ1) E) : iEnumD wa ρ QA E := h
theorem i_tAll (h : QT true ρ) : tAll ρ QT E := h
end

/-! ### rules in short, for the printed derivations -/
abbrev cLt : G2 := gI (fun _ _ => True) fun i j => .bl (decide (i < j))
abbrev cLe : G2 := gI (fun _ _ => True) fun i j => .bl (decide (i ≤ j))
abbrev cGt : G2 := gI (fun _ _ => True) fun i j => .bl (decide (j < i))
abbrev cGe : G2 := gI (fun _ _ => True) fun i j => .bl (decide (j ≤ i))
abbrev cAdd : G2 := gI (fun _ _ => True) fun i j => .int (i + j)
abbrev cSub : G2 := gI (fun _ _ => True) fun i j => .int (i - j)
abbrev cDiv : G2 := gI DivOk fun i j => .int (i.fdiv j)
abbrev cMod : G2 := gI (fun _ j => j ≠ 0) fun i j => .int (i.fmod j)
abbrev cPow : G2 := gI CPow fun i j => .int (i ^ j.toNat)
section
variable {X : Cx} {x : Str} {pos pos' p p2 p3 : Pos} {e k : Expr} {es : List Expr} {f fk fe : We} {fa : Wa}
theorem dgn (i : Nat) (nd : X.N.Nodup) (hi : X.N[i]? = some x := by rfl) (hx : Loc X.env.scope x := by first | exact Or.inl rfl | exact Or.inr rfl) (hf : X.fn x = true ∨ X.env.scope.names.lookup x = some .local := by first | exact .inl rfl | exact .inr rfl) : DG X (.Name x pos) [i] (gN i) := dg_name nd hi hx hf
theorem dset (i : Nat) (nd : X.N.Nodup) (he : DE X e f) (hi : X.N[i]? = some x := by rfl) (hx : Loc X.env.scope x := by first | exact Or.inl rfl | exact Or.inr rfl) (hs : swapsWith e (some (.Name x pos')) pos.line X.env = pure false := by rfl) (hf : X.fn x = true ∨ X.env.scope.names.lookup x = some .local := by first | exact .inl rfl | exact .inr rfl) :
    DS X (.Assign [.Name x pos'] e pos) (dSet i f) := ds_set nd hi hx he hs hf
theorem dnew (i : Nat) (nd : X.N.Nodup) (he : DN X e fa) (hi : X.N[i]? = some x := by rfl) (hx : Loc X.env.scope x := by first | exact Or.inl rfl | exact Or.inr rfl) (hs : swapsWith e (some (.Name x pos')) pos.line X.env = pure false := by rfl) (hf : X.fn x = true ∨ X.env.scope.names.lookup x = some .local := by first | exact .inl rfl | exact .inr rfl) :
    DS X (.Assign [.Name x pos'] e pos) (dNew i fa) := ds_new nd hi hx he hs hf
theorem daug (i : Nat) {op : Operator} {g : G2} (ho : DOp X (inplaceOp op) g) (nd : X.N.Nodup) (he : DE X e f) (hi : X.N[i]? = some x := by rfl) (hx : Loc X.env.scope x := by first | exact Or.inl rfl | exact Or.inr rfl) (hf : X.fn x = true ∨ X.env.scope.names.lookup x = some .local := by first | exact .inl rfl | exact .inr rfl) :
    DS X (.AugAssign (.Name x pos') op e pos) (dAug i g f) := ds_aug ho nd hi hx he hf
theorem dixO (i : Nat) (hb : DE X k fk) (hN : X.N[i]? = some x := by rfl) (hv : Vis X.env.scope x := by first | exact Or.inl rfl | exact Or.inr (Or.inl rfl) | exact Or.inr (Or.inr rfl)) (hs : PlainIx k := by exact fun _ _ => rfl)
    (hd : (x == ("__debug__" : Str)) = false := by decide) (hcd : (x == ("__classdict__" : Str)) = false := by decide) : DE X (.Subscript (.Name x p2) k pos) (dIxO i fk) := de_ixO hN hv hb hs hd hcd
theorem dlenO (i : Nat) (hm : X.mg "len" = none) (hg : Gl X "len" := by rfl) (hN : X.N[i]? = some x := by rfl) (hv : Vis X.env.scope x := by first | exact Or.inl rfl | exact Or.inr (Or.inl rfl) | exact Or.inr (Or.inr rfl)) (hd : (x == ("__debug__" : Str)) = false := by decide) (hcd : (x == ("__classdict__" : Str)) = false := by decide)
    (he : starEach [Expr.Name x p2] X.env = [(false, eval (.Name x p2) X.env)] := by rfl) : DE X (.Call (.Name "len" p) [.Name x p2] [] pos) (dLenO i) := de_lenO hg hm hN hv hd hcd he
theorem dtupO (i : Nat) (hm : X.mg "tuple" = none) (hg : Gl X "tuple" := by rfl) (hN : X.N[i]? = some x := by rfl) (hv : Vis X.env.scope x := by first | exact Or.inl rfl | exact Or.inr (Or.inl rfl) | exact Or.inr (Or.inr rfl)) (hd : (x == ("__debug__" : Str)) = false := by decide) (hcd : (x == ("__classdict__" : Str)) = false := by decide)
    (he : starEach [Expr.Name x p2] X.env = [(false, eval (.Name x p2) X.env)] := by rfl) : DE X (.Call (.Name "tuple" p) [.Name x p2] [] pos) (dTupO i) := de_tupO hg hm hN hv hd hcd he
theorem dmt (i : Nat) {g : GM} {name : Str} {id : String} {apos cpos : Pos} (slot : Slot "list" name id) (hty : typeOf (.builtin id) = pure (.type "method_descriptor")) (hm : DMt X id g) (ha : DA X (e :: es) fa) (hN : X.N[i]? = some x := by rfl) (hv : Vis X.env.scope x := by first | exact Or.inl rfl | exact Or.inr (Or.inl rfl) | exact Or.inr (Or.inr rfl))
    (hd : (x == ("__debug__" : Str)) = false := by decide) (hcd : (x == ("__classdict__" : Str)) = false := by decide)
    (hbase : attributeBase (.Name x p2) name X.env (eval (.Name x p2) X.env) = eval (.Name x p2) X.env := by rfl)
    (hfew : ((backTo cpos (starEach (e :: es) X.env)).all (fun x => !x.1) && (backToKw cpos (keywordEach [] X.env)).all (fun x => x.1.isSome)
      && decide ((e :: es).length + ([] : List Keyword).length + (if ([] : List Keyword).isEmpty then 0 else 1) < 30)) = true := by rfl)
    (hline : (apos.endLine == cpos.line) = true := by rfl) (hs : starEach (e :: es) X.env = (false, eval e X.env) :: starEach es X.env := by rfl) (hplain : (backTo cpos (starEach es X.env)).any (·.1) = false := by rfl) :
    DE X (.Call (.Attribute (.Name x p2) name apos) (e :: es) [] cpos) (dMt i g fa) := de_mt PySem.F.plainAttrs_list slot hty hm hN hv ha hd hcd hbase hfew hline hs hplain
theorem dcallO (i : Nat) {kk : Nat} {y : Str} {ff : Addr} {fd : FuncData} {ps : List Str} {go : GO} (m : MonoO go) (Fn : FnOk X.prog X.w X.K X.mg X.base (L2.CX X.prog X.w) kk ff fd ps (toSpO X.K go)) (hr : Room kk X.A) (hg : Gl X x) (hm : X.mg x = some (.ref ff)) (hk : PySem.W.keepIn X.K (.ref ff) = true) (hb : Binds X.K fd ps []) (ha : DA X es fa)
    (hN : X.N[i]? = some y := by rfl) (hv : Vis X.env.scope y := by first | exact Or.inl rfl | exact Or.inr (Or.inl rfl) | exact Or.inr (Or.inr rfl)) (hd : (y == ("__debug__" : Str)) = false := by decide) (hcd : (y == ("__classdict__" : Str)) = false := by decide)
    (hdb : (x == ("__debug__" : Str)) = false := by decide) (he : starEach (Expr.Name y p2 :: es) X.env = (false, eval (Expr.Name y p2) X.env) :: starEach es X.env := by rfl) (hpl : (backTo pos (starEach es X.env)).any (·.1) = false := by rfl) :
    DE X (.Call (.Name x p) (.Name y p2 :: es) [] pos) (dCallOw i go fa) := de_callO m Fn hr hg hm hk hb hN hv ha hd hcd hdb he hpl
theorem dsetI (i : Nat) (hk : DE X k fk) (he : DE X e fe) (hN : X.N[i]? = some x := by rfl) (hv : Vis X.env.scope x := by first | exact Or.inl rfl | exact Or.inr (Or.inl rfl) | exact Or.inr (Or.inr rfl))
    (hd : (x == ("__debug__" : Str)) = false := by decide) (hcd : (x == ("__classdict__" : Str)) = false := by decide)
    (ha : ∀ v, assign (.Subscript (.Name x p2) k p3) X.env v = (do
      let ov ← holding [v] (eval (.Name x p2) X.env)
      let iv ← holding [v, ov] (eval k X.env)
      standAt p3
      holding [v, ov, iv] (setItem ov iv v)
      release [v, ov, iv] []) := by intro _; rfl)
    (hs : swapsWithSole [.Subscript (.Name x p2) k p3] e pos.line X.env = pure false := by rfl) (hw : swappedStores [.Subscript (.Name x p2) k p3] e X.env = pure none := by rfl)
    (h1 : (assignEach [.Subscript (.Name x p2) k p3] X.env).map (·.2) = [assign (.Subscript (.Name x p2) k p3) X.env] := by rfl) : DS X (.Assign [.Subscript (.Name x p2) k p3] e pos) (dSetI i fk fe) := ds_setI hN hv hk he hd hcd ha hs hw h1
end
theorem const_int {K : PySem.W.Frag} {mg : Str → Option Value} {c : Str} {n : Int} {t : Tok} (m : mg c = some (.int n t)) (hd : (c == ("__debug__" : Str)) = false := by decide) : ∀ {X : Cx} {pos : Pos}, X.K = K → X.mg = mg → Gl X c → DE X (.Name c pos) (dC (.int n)) := fun {X pos} _ e hg =>
  de_globD (v := .int n) hg (by rw [e]; exact m) ⟨t, rfl⟩ hd fun _ => .int n

/-! ### sizes -/
/-- i has at most n bits -/
class Bd (i : Int) (n : outParam Nat) : Prop where
  out : i.natAbs < 2 ^ n
theorem Bd.of {i : Int} {n : Nat} (h : i.natAbs < 2 ^ n) : Bd i n := ⟨h⟩
instance Bd.add {i j : Int} {n m : Nat} [a : Bd i n] [b : Bd j m] : Bd (i + j) (n + m + 1) := ⟨by
  have h1 := a.out
  have h2 := b.out
  have e1 : (2 : Nat) ^ n ≤ 2 ^ (n + m) := Nat.pow_le_pow_right (by decide) (by omega)
  have e2 : (2 : Nat) ^ m ≤ 2 ^ (n + m) := Nat.pow_le_pow_right (by decide) (by omega)
  have e3 : (2 : Nat) ^ (n + m + 1) = 2 ^ (n + m) * 2 := Nat.pow_succ ..
  omega⟩
instance Bd.sub {i j : Int} {n m : Nat} [a : Bd i n] [b : Bd j m] : Bd (i - j) (n + m + 1) := ⟨by
  have h1 := a.out
  have h2 := b.out
  have e1 : (2 : Nat) ^ n ≤ 2 ^ (n + m) := Nat.pow_le_pow_right (by decide) (by omega)
  have e2 : (2 : Nat) ^ m ≤ 2 ^ (n + m) := Nat.pow_le_pow_right (by decide) (by omega)
  have e3 : (2 : Nat) ^ (n + m + 1) = 2 ^ (n + m) * 2 := Nat.pow_succ ..
  omega⟩
instance Bd.mul {i j : Int} {n m : Nat} [a : Bd i n] [b : Bd j m] : Bd (i * j) (n + m) := ⟨by
  rw [Int.natAbs_mul, Nat.pow_add]
  exact Nat.mul_lt_mul'' a.out b.out⟩
instance Bd.neg {i : Int} {n : Nat} [a : Bd i n] : Bd (-i) n := ⟨by rw [Int.natAbs_neg]; exact a.out⟩
instance Bd.lit {k : Nat} : Bd (OfNat.ofNat k : Int) (k.log2 + 1) := ⟨by
  show (Int.natAbs (k : Int)) < _
  rw [Int.natAbs_natCast]
  exact Nat.lt_log2_self⟩
theorem MulOk.of {i j : Int} {n m : Nat} (a : i.natAbs < 2 ^ n) (b : j.natAbs < 2 ^ m) (h : n + m ≤ 1000000 := by decide) : MulOk i j := by
  refine .inl ?_
  have l : ∀ {x k : Nat}, x < 2 ^ k → x.log2 ≤ k := fun {x k} hx => by
    by_cases h0 : x = 0
    · subst h0; simp
    · exact Nat.le_of_lt ((Nat.log2_lt h0).mpr hx)
  have h1 := l a
  have h2 := l b
  by_cases hk : i.natAbs.log2 + j.natAbs.log2 < 1000000
  · exact hk
  · exfalso
    have h0 : ∀ {x k : Nat}, x < 2 ^ k → x ≠ 0 → x.log2 < k := fun {x k} hx z => (Nat.log2_lt z).mpr hx
    by_cases hi : i.natAbs = 0
    · have e : i.natAbs.log2 = 0 := by rw [hi]; simp
      by_cases hj : j.natAbs = 0
      · have e2 : j.natAbs.log2 = 0 := by rw [hj]; simp
        omega
      · have := h0 b hj; omega
    · have := h0 a hi; omega
theorem DivOk.of {i j : Int} {n : Nat} (h0 : j ≠ 0) (a : j.natAbs < 2 ^ n) (h : n ≤ 9000 := by decide) : DivOk i j := ⟨h0, Nat.lt_of_lt_of_le ((Nat.log2_lt (by omega)).mpr a) h⟩

end DL
namespace DL
open PySem PySem.Spec PyProof.Rows L2
variable [TabSet]

/-! ### == of data -/
theorem D.eq_int {a b : Int} : D.eq (.int a) (.int b) = decide (a = b) := by
  unfold D.eq; simp only [D.py, PyData.eqv]
  rw [Bool.eq_iff_iff]; simp
theorem D.eq_bl {a b : Bool} : D.eq (.bl a) (.bl b) = decide (a = b) := by
  unfold D.eq; simp only [D.py, PyData.eqv]
  cases a <;> cases b <;> rfl
def D.eqA : List D → List D → Bool
  | [], [] => true
  | x :: xs, y :: ys => D.eq x y && D.eqA xs ys
  | _, _ => false
theorem D.eqA_py : ∀ xs ys : List D, PyData.eqvAll (D.pyA xs) (D.pyA ys) = D.eqA xs ys
  | [], [] => by simp only [D.pyA, PyData.eqvAll, D.eqA]
  | [], _ :: _ => by simp only [D.pyA, PyData.eqvAll, D.eqA]
  | _ :: _, [] => by simp only [D.pyA, PyData.eqvAll, D.eqA]
  | x :: xs, y :: ys => by simp only [D.pyA, PyData.eqvAll, D.eqA, D.eqA_py xs ys]; rfl
theorem D.eq_tup {xs ys : List D} : D.eq (.tup xs) (.tup ys) = D.eqA xs ys := by
  unfold D.eq; simp only [D.py, PyData.eqv]; exact D.eqA_py xs ys
theorem D.eqA_nil : D.eqA [] [] = true := by rw [D.eqA]
theorem D.eqA_cons {x y : D} {xs ys : List D} : D.eqA (x :: xs) (y :: ys) = (D.eq x y && D.eqA xs ys) := by rw [D.eqA]
/-- a pair of ints -/
abbrev pt (p : Int × Int) : D := .tup [.int p.1, .int p.2]
theorem D.eq_pt {p q : Int × Int} : D.eq (pt p) (pt q) = decide (p = q) := by
  rw [D.eq_tup, D.eqA_cons, D.eqA_cons, D.eqA_nil, D.eq_int, D.eq_int, Bool.eq_iff_iff]
  simp [Prod.ext_iff]
theorem D.eq_pr {a b c d : Int} : D.eq (.tup [.int a, .int b]) (.tup [.int c, .int d]) = (decide (a = c) && decide (b = d)) := by
  rw [D.eq_tup, D.eqA_cons, D.eqA_cons, D.eqA_nil, D.eq_int, D.eq_int, Bool.and_true]
theorem D.eqA_map {α : Type} {f : α → D} [DecidableEq α] (h : ∀ a b, D.eq (f a) (f b) = decide (a = b)) : ∀ {xs ys : List α}, D.eqA (xs.map f) (ys.map f) = decide (xs = ys)
  | [], [] => by simp [D.eqA]
  | [], _ :: _ => by simp [D.eqA]
  | _ :: _, [] => by simp [D.eqA]
  | x :: xs, y :: ys => by simp only [List.map_cons, D.eqA_cons, h, D.eqA_map h (xs := xs) (ys := ys)]; rw [Bool.eq_iff_iff]; simp
theorem flatA_map {α : Type} {f : α → D} {n : Nat} (h : ∀ a, (f a).flat n = true) : ∀ {xs : List α}, D.flatA n (xs.map f) = true
  | [] => rfl
  | x :: xs => by rw [List.map_cons, D.flatA, h, flatA_map h]; rfl
theorem flat_tup {α : Type} {f : α → D} {n : Nat} (h : ∀ a, (f a).flat n = true) {xs : List α} : (D.tup (xs.map f)).flat (n + 1) = true := by rw [D.flat]; exact flatA_map h
/-! ### more ways of a test -/
theorem Ite.by {b : Bool} {p q : Prop} (h1 : b = true → p) (h2 : b = false → q) : Ite b p q := by
  cases b
  · exact .ff (h2 rfl)
  · exact .tt (h1 rfl)
theorem i_side {P Q : Prop} (h : P) (q : Q) : P ∧ Q := ⟨h, q⟩
theorem le_rfl' {a b : Nat} (h : Nat.ble a b = true) : a ≤ b := Nat.le_of_ble_eq_true h

/-! ### plain notions -/
def isWhole : D → Bool
  | .int _ => true
  | _ => false
def numIn (a b : Int) : D → Bool
  | .int i => decide (a ≤ i) && decide (i ≤ b)
  | _ => false
def tupN (n : Int) : D → Bool
  | .tup xs => decide ((xs.length : Int) = n)
  | _ => false
/-- no object -/
def noO (d : D) : Bool := !isO d
def okP : D → Bool
  | .ob _ => false
  | .exc _ _ _ _ _ => false
  | .thk _ _ _ _ _ _ => false
  | .tup xs => xs.all noO
  | _ => true
def pairIn (m : Int) : D → Bool
  | .tup [x, y] => numIn (-m) m x && numIn (-m) m y
  | _ => false
def sgn (n : Int) : Int := if 0 < n then 1 else if n < 0 then -1 else 0
/-- the source of the law's draws -/
def SrcOk (a b : Int) : Prop := 0 ≤ a ∧ 0 ≤ b ∧ b < 2147483647
/-- a number of moderate size -/
def Sm (x : Int) : Prop := x.natAbs < 2 ^ 4000
/-! ### steps with two lookups, methods, loops -/
section
variable {ρ : Env} {Q : Qn} {E : Qx} {nx : Env → Prop} {i : Nat} {a : Addr} {xs ys : List D} {d : D} {k : Int} {j : Nat}
theorem i_ixO2 {P : D → Prop} (e : ρ[i]? = some (some (.own a xs))) (e2 : atI xs k = some d) (h : P d) : ∃ ys j d, ρ[i]? = some (some (.own a ys)) ∧ D.int k = .int j ∧ atI ys j = some d ∧ P d := ⟨xs, k, d, e, rfl, e2, h⟩
theorem i_own2 {P : Addr → List D → Prop} (e : ρ[i]? = some (some (.own a xs))) (h : P a xs) : ∃ a xs, ρ[i]? = some (some (.own a xs)) ∧ P a xs := ⟨a, xs, e, h⟩
theorem i_setI2 {P : List D → Nat → Prop} (e : ρ[i]? = some (some (.own a xs))) (e2 : ixN xs.length k = some j) (h : P xs j) : ∃ xs2 k' j, ρ[i]? = some (some (.own a xs2)) ∧ D.int k = .int k' ∧ ixN xs2.length k' = some j ∧ P xs2 j := ⟨xs, k, j, e, rfl, e2, h⟩
theorem i_app {P : D → List D → Prop} (h1 : xs.length < sizeLine) (h : P .non (xs ++ [d])) : gApp xs [d] P := ⟨d, rfl, h1, h⟩
theorem i_ext0 {f : We} (e : ρ[i]? = some (some (.own a xs))) (h : f ρ (fun d ρ1 => ∃ xs1 zs, ρ1[i]? = some (some (.own a xs1)) ∧ d = .lst zs ∧ xs1.length + zs.length ≤ sizeLine ∧ Q .non (ρ1.set i (some (.own a (xs1 ++ zs))))) E) : dExtend i f ρ Q E := ⟨a, xs, e, h⟩
theorem i_lc {wi : Wa} {g : Wg} {tt : Wt} {te : We} {vs : List Nat} {QA : List D → Env → Prop} (h : wi ρ (fun ds ρ1 => ds.length ≤ sizeLine ∧ lcL g tt te vs ds [] (wipeE ρ1 vs) fun acc ρ2 => QA acc (backE ρ1 ρ2 vs)) E) : nLc wi g tt te vs ρ QA E := h
theorem i_range1 {P : Int → Prop} (h : -(2 ^ 62) ≤ k ∧ k < 2 ^ 62) (q : P k) : ∃ j, [D.int k] = [.int j] ∧ (-(2 ^ 62) ≤ j ∧ j < 2 ^ 62) ∧ P j := ⟨k, rfl, h, q⟩
variable {rt : D → Env → Prop} {bk ct : Env → Prop} {ex : Qx} {rn : List D → Env → Prop}
theorem forL_inv {G : Wg} {g : Ws} (I : List D → Env → Prop) (hn : ∀ ρ, I [] ρ → nx ρ)
    (hs : ∀ d ds ρ, I (d :: ds) ρ → ∀ K : Env → Prop, (∀ ρ', I ds ρ' → K ρ') → G d ρ (fun ρ1 => g ρ1 ⟨K, rt, nx, K, ex, rn⟩)) : ∀ {ds : List D} {ρ : Env}, I ds ρ → forL G g ds ρ ⟨nx, rt, bk, ct, ex, rn⟩
  | [], _, h => hn _ h
  | d :: ds, ρ, h => hs d ds ρ h _ fun ρ' h' => forL_inv I hn hs h'
/-- .. every turn alike -/
theorem forL_all {G : Wg} {g : Ws} (C : D → Prop) (I : Env → Prop) (hn : ∀ ρ, I ρ → nx ρ)
    (hs : ∀ d ρ, C d → I ρ → ∀ K : Env → Prop, (∀ ρ', I ρ' → K ρ') → G d ρ (fun ρ1 => g ρ1 ⟨K, rt, nx, K, ex, rn⟩)) {ds : List D} {ρ : Env} (hd : ∀ d ∈ ds, C d) (h : I ρ) : forL G g ds ρ ⟨nx, rt, bk, ct, ex, rn⟩ :=
  forL_inv (fun ds ρ => (∀ d ∈ ds, C d) ∧ I ρ) (fun ρ z => hn ρ z.2) (fun d ds ρ z K hK => hs d ρ (z.1 d List.mem_cons_self) z.2 K fun ρ' z' => hK ρ' ⟨fun d' hd' => z.1 d' (List.mem_cons_of_mem _ hd'), z'⟩) ⟨hd, h⟩
/-- a comprehension without a test -/
theorem lcL_inv {g : Wg} {te : We} {vs : List Nat} {QA : List D → Env → Prop} (I : List D → List D → Env → Prop) (hn : ∀ acc ρ, I [] acc ρ → QA acc ρ)
    (hs : ∀ d ds acc ρ, I (d :: ds) acc ρ → ∀ K : D → Env → Prop, (∀ y ρ', I ds (acc ++ [y]) (wipeE ρ' vs) → K y ρ') → g d ρ (fun ρ1 => te ρ1 K noX)) : ∀ {ds acc : List D} {ρ : Env}, I ds acc ρ → lcL g tAll te vs ds acc ρ QA
  | [], acc, ρ, h => hn _ _ h
  | d :: ds, acc, ρ, h => by
    show g d ρ (fun ρ1 => Ite true (te ρ1 (fun y ρ3 => lcL g tAll te vs ds (acc ++ [y]) (wipeE ρ3 vs) QA) noX) _)
    have h1 := hs d ds acc ρ h (fun y ρ3 => lcL g tAll te vs ds (acc ++ [y]) (wipeE ρ3 vs) QA) (fun y ρ' z => lcL_inv I hn hs z)
    have e : (fun ρ1 => Ite true (te ρ1 (fun y ρ3 => lcL g tAll te vs ds (acc ++ [y]) (wipeE ρ3 vs) QA) noX) (lcL g tAll te vs ds acc (wipeE ρ1 vs) QA)) = fun ρ1 => te ρ1 (fun y ρ3 => lcL g tAll te vs ds (acc ++ [y]) (wipeE ρ3 vs) QA) noX := by
      funext ρ1
      exact propext ⟨fun z => by have := z.out; simpa using this, fun z => .tt z⟩
    rw [e]
    exact h1
end
theorem i_mod {a b : Int} {P : D → Prop} (h1 : b ≠ 0) (h : P (.int (a.fmod b))) : cMod (.int a) (.int b) P := ⟨a, b, rfl, rfl, h1, h⟩
theorem i_div {a b : Int} {P : D → Prop} (h1 : DivOk a b) (h : P (.int (a.fdiv b))) : cDiv (.int a) (.int b) P := ⟨a, b, rfl, rfl, h1, h⟩
theorem i_pow {a b : Int} {P : D → Prop} (h1 : CPow a b) (h : P (.int (a ^ b.toNat))) : cPow (.int a) (.int b) P := ⟨a, b, rfl, rfl, h1, h⟩
theorem DivOk.lit {a b : Int} (h0 : b ≠ 0) (h : b.natAbs.log2 < 9000) : DivOk a b := ⟨h0, h⟩
theorem Ite.nt {P Q : Prop} (h : Q) : Ite (!true) P Q := Ite.ff h
theorem Ite.nf {P Q : Prop} (h : P) : Ite (!false) P Q := Ite.tt h
theorem tupN_two {d : D} (h : tupN 2 d = true) : ∃ x y, d = .tup [x, y] := by
  cases d with
  | tup xs =>
    have h' : ((xs.length : Nat) : Int) = 2 := of_decide_eq_true h
    match xs, h' with
    | [x, y], _ => exact ⟨x, y, rfl⟩
    | [], h => cases h
    | [_], h => cases h
    | _ :: _ :: _ :: r, h => simp only [List.length_cons] at h; omega
  | _ => cases h
theorem tupN_twoF {d : D} {m : Int} (h : tupN 2 d = false) : pairIn m d = false := by
  cases d with
  | tup xs =>
    have h' : ¬ ((xs.length : Nat) : Int) = 2 := of_decide_eq_false h
    match xs, h' with
    | [x, y], h => exact absurd rfl h
    | [], _ => rfl
    | [_], _ => rfl
    | _ :: _ :: _ :: r, _ => rfl
  | _ => rfl
theorem range_mem {lo : Int} {n : Nat} {d : D} (h : d ∈ rangeD lo n) : ∃ i : Nat, i < n ∧ d = .int (lo + i) := by
  unfold rangeD at h
  obtain ⟨i, h1, h2⟩ := List.mem_map.mp h
  exact ⟨i, List.mem_range.mp h1, h2.symm⟩
theorem range_len {lo : Int} {n : Nat} : (rangeD lo n).length = n := by unfold rangeD; simp
theorem cut_drop {xs : List D} {k : Nat} : cut xs (some (k : Int)) none = xs.drop k := by
  unfold cut
  rw [HT.sIx_nat, HT.sIx_none]
  have e : xs.drop (min k xs.length) = xs.drop k := by
    by_cases h : k ≤ xs.length
    · rw [Nat.min_eq_left h]
    · rw [Nat.min_eq_right (by omega), List.drop_length, List.drop_eq_nil_of_le (by omega)]
  rw [e, List.take_of_length_le]
  rw [List.length_drop]; omega
theorem cut_dropM {α : Type} {f : α → D} {xs : List α} (k : Nat) {j : Int} (h : j = k) : cut (xs.map f) (some j) none = (xs.drop k).map f := by rw [h, cut_drop, List.map_drop]
theorem lcL_of {α : Type} {e f : α → D} {g : Wg} {te : We} {vs : List Nat} {ρ : Env} {QA : List D → Env → Prop} : ∀ {xs : List α} {acc : List D} (h : ∀ a ∈ xs, ∀ P : D → Env → Prop, (∀ ρ', wipeE ρ' vs = ρ → P (f a) ρ') → g (e a) ρ (fun ρ1 => te ρ1 P noX)) (q : QA (acc ++ xs.map f) ρ), lcL g tAll te vs (xs.map e) acc ρ QA := by
  intro xs acc h q
  refine lcL_inv (fun ds ac ρ' => ρ' = ρ ∧ ∃ ys, (∀ a ∈ ys, a ∈ xs) ∧ ds = ys.map e ∧ ac ++ ys.map f = acc ++ xs.map f) ?_ ?_ ⟨rfl, xs, fun _ z => z, rfl, rfl⟩
  · rintro ac _ ⟨rfl, ys, _, e1, e2⟩
    cases ys with
    | nil => rw [List.map_nil, List.append_nil] at e2; rw [e2]; exact q
    | cons y r => cases e1
  · rintro d ds ac _ ⟨rfl, ys, h1, e1, e2⟩ K hK
    cases ys with
    | nil => cases e1
    | cons y r =>
      rw [List.map_cons] at e1
      obtain ⟨rfl, rfl⟩ := List.cons.inj e1
      refine h y (h1 y List.mem_cons_self) K fun ρ' e3 => hK _ _ ⟨e3, r, fun a ha => h1 a (List.mem_cons_of_mem _ ha), rfl, ?_⟩
      rw [← e2, List.map_cons, List.append_assoc]; rfl
theorem atI_zero {α : Type} {x : α} {xs : List α} : atI (x :: xs) 0 = some x := atI_nat (j := 0) rfl
theorem atI_one {α : Type} {x y : α} {xs : List α} : atI (x :: y :: xs) 1 = some y := atI_nat (j := 1) rfl
theorem atI_two {α : Type} {x y z : α} {xs : List α} : atI (x :: y :: z :: xs) 2 = some z := atI_nat (j := 2) rfl
end DL
namespace DL
open PySem PySem.Spec PyProof.Rows L2
variable [TabSet]

/-! ### xs[lo::2] of a list -/
/-- the places that a slice with a step takes, of n -/
def places (lo : Option Int) (st : Int) (n : Nat) : List Nat := sliceRange (sliceBounds lo none (some st) n).1 (sliceBounds lo none (some st) n).2.1 (sliceBounds lo none (some st) n).2.2
def byStep (xs : List D) (lo : Option Int) (st : Int) : List D := (places lo st xs.length).filterMap (xs[·]?)
theorem vals_pick {xs : List V} {us : List Value} (r : Vals xs us) : ∀ is : List Nat, Vals (is.filterMap (xs[·]?)) (is.filterMap (us[·]?))
  | [] => .nil
  | i :: is => by
    rw [List.filterMap_cons, List.filterMap_cons]
    cases e : xs[i]? with
    | none => rw [r.none_of e]; exact vals_pick r is
    | some x =>
      obtain ⟨u, h1, h2⟩ := r.get e
      rw [h1]
      exact .cons h2 (vals_pick r is)
theorem dva_pick {K : PySem.W.Frag} {F : Hp} {vs : List V} {ds : List D} (r : DvA K F vs ds) : ∀ is : List Nat, DvA K F (is.filterMap (vs[·]?)) (is.filterMap (ds[·]?))
  | [] => .nil
  | i :: is => by
    rw [List.filterMap_cons, List.filterMap_cons]
    cases e : vs[i]? with
    | none =>
      have e2 : ds[i]? = none := by
        rw [List.getElem?_eq_none_iff] at e ⊢
        rw [← r.length]; exact e
      rw [e2]; exact dva_pick r is
    | some x =>
      obtain ⟨u, h1, h2⟩ := r.getV e
      rw [h1]
      exact .cons h2 (dva_pick r is)
def tStep (K : PySem.W.Frag) (st : Int) (te : TE) (tl : TO) : TE := fun σ H Q => te σ H fun x H1 => tl σ H1 fun lo H2 => ∃ a xs, x = .ref a ∧ SqL K H2 a xs ∧ (places lo st xs.length).length ≤ sizeLine ∧ ∀ p, H2 p = none → Q (.ref p) (upd H2 p (.lst ((places lo st xs.length).filterMap (xs[·]?))))
section
variable {X : Cx} {e : Expr} {te : TE} {tl : TO} {lo : Option Expr} {p1 p3 pos : Pos} {fe : We} {fl : Wo}
theorem pe_step {st k : Nat} (h0 : st ≠ 0) (he : PE X e te) (hl : PO X lo tl) : PE X (.Subscript e (.Slice lo none (some (.Constant (.int st) k p1)) p3) pos) (tStep X.K st te tl) := by
  refine ⟨fun pins s σ H Q I h => Subscript_ (thn (he.run pins s σ H _ I h) fun v s1 ⟨x, H1, I1, r1, q1⟩ => ?_)⟩
  have hst : PO X (some (.Constant (.int st) k p1)) (tPart (tC (.int st))) := po_some pe_int
  refine wpAny_Slice (thn (hl.run pins s1 σ H1 _ I1 q1) fun vl s2 ⟨l, H2, I2, pl, a, xs, ex, hx, hz0, q⟩ => ?_)
  refine thn (po_none.run pins s2 σ H2 (fun o H3 => o = none ∧ H3 = H2) I2 ⟨rfl, rfl⟩) fun vu s3 ⟨u, H3, I3, pu, eu, e3⟩ => ?_
  subst eu e3
  refine thn (hst.run pins s3 σ H3 (fun o H4 => o = some (st : Int) ∧ H4 = H3) I3 ⟨_, rfl, rfl, rfl⟩) fun vs s4 ⟨o, H4, I4, ps, eo, e4⟩ => ?_
  subst ex eo e4
  cases r1
  have I5 : Inv X pins σ H4 { s4 with heap := s4.heap.push { cls := .type "slice", data := .fields #[vl, vu, vs] } } := I4.kept (t' := s4.toks) fun b ob z => Heap.get?_push_of_some _ z
  obtain ⟨its, r, ht, hz⟩ := I5.list hx
  have hlen : xs.length = its.length := r.length
  show wpAny (model X.prog X.w) X.A (subscriptTail e (.Slice lo none (some (.Constant (.int st) k p1)) p3) (.ref a) (.ref s4.heap.objs.size)) (EP X pins σ Q) X.xe { s4 with heap := s4.heap.push { cls := .type "slice", data := .fields #[vl, vu, vs] } }
  refine tail_any (ops := [.ref a, .ref s4.heap.objs.size]) ht.isList.typeIs PySem.slot_list_getitem.lookup ?_ (by with_unfolding_all rfl)
  refine wpAny_getItem_list_slice ht.isList (Heap.IsSliceOf.new _ vl vu vs) pl pu ps (by intro z; exact h0 (by have := Option.some.inj z; omega)) ?_ (by rw [List.size_toArray]; omega)
  have hp : slicePick its.toArray l none (some (st : Int)) = ((places l st xs.length).filterMap (its[·]?)).toArray := by
    unfold slicePick places
    rw [List.size_toArray, hlen]
    simp
  rw [hp]
  refine ⟨.ref _, _, I5.laid (t' := s4.toks) (o := .lst ((places l st xs.length).filterMap (xs[·]?))) (fun b ob z => Heap.get?_push_of_some _ z) (Nat.le_refl _) ?_, rfl, q _ (I5.hok.fresh (Nat.le_refl _))⟩
  refine ⟨?_, _, 0, vals_pick r _, Heap.get?_push_size _ rfl⟩
  exact Nat.le_trans (List.length_filterMap_le ..) hz0
def dStep (st : Int) (f : We) (fl : Wo) : We := fun ρ Q E => f ρ (fun x ρ1 => fl ρ1 (fun lo ρ2 => ∃ xs, (x = .lst xs ∨ x = .ro xs) ∧ (places lo st xs.length).length ≤ sizeLine ∧ Q (.lst (byStep xs lo st)) ρ2) E) E
theorem de_step {st k : Nat} (he : DE X e fe) (hl : DO X lo fl) (h0 : st ≠ 0 := by decide) : DE X (.Subscript e (.Slice lo none (some (.Constant (.int st) k p1)) p3) pos) (dStep st fe fl) := by
  refine ⟨fun ρ Q Q' E E' hQ hE hw => he.mono ρ _ _ _ _ (fun x ρ1 h1 => hl.mono ρ1 _ _ _ _ (fun l ρ2 ⟨xs, a, b, q⟩ => ⟨xs, a, b, hQ _ _ q⟩) hE h1) hE hw, fun W tk => ?_⟩
  obtain ⟨t1, p1, k1⟩ := he.run W tk
  obtain ⟨t2, p2, k2⟩ := hl.run W tk
  refine ⟨_, pe_step h0 p1 p2, fun R F σ H ρ Q r hw => k1 R F σ H ρ _ r (he.mono _ _ _ _ _ (fun dx ρ1 h1 F1 H1 x s1 r1 d1 => ?_) (fun _ _ z => z) hw)⟩
  refine k2 R F1 σ H1 ρ1 _ r1 (hl.mono _ _ _ _ _ (fun l ρ2 ⟨xs, ex, hz, q⟩ F2 H2 s2 r2 => ?_) (upX.mono s1) h1)
  have s12 := s1.trans s2
  have d2 := d1.mono s2
  have fin := up_fin s12 r2 q
  rcases ex with ex | ex
  · subst ex
    cases d2 with
    | lst hq ha =>
      refine ⟨_, _, rfl, SqL.of (r2.sF _ _ hq), by rw [ha.length]; exact hz, ?_⟩
      rw [ha.length]
      exact FinD.newL r2.sF fin (dva_pick ha _)
  · subst ex
    cases d2 with
    | ro hq ha =>
      refine ⟨_, _, rfl, r2.sF.seq hq, by rw [ha.length]; exact hz, ?_⟩
      rw [ha.length]
      exact FinD.newL r2.sF fin (dva_pick ha _)
end

/-! ### x in xs -/
def hasD (xs : List D) (d : D) : Bool := xs.any fun z => z.eq d
def gIn (neg : Bool) : G2 := fun x y Q => ∃ ys, y = .lst ys ∧ (x.flat 60 = true ∧ D.flatA 59 ys = true) ∧ Q (.bl (xor neg (hasD ys x)))
theorem hasD_py : ∀ (ys : List D) (x : D), ((D.pyA ys).any fun z => PyData.eqv z x.py) = hasD ys x
  | [], _ => by simp only [D.pyA, hasD, List.any_nil]
  | y :: ys, x => by
    have := hasD_py ys x
    simp only [D.pyA, hasD, List.any_cons] at this ⊢
    rw [this]; rfl
section
variable {X : Cx}
theorem gIn_mono {n : Bool} : ∀ x y (Q Q' : D → Prop), (∀ d, Q d → Q' d) → gIn n x y Q → gIn n x y Q' := fun _ _ _ _ h ⟨ys, e, f, q⟩ => ⟨ys, e, f, h _ q⟩
theorem op_NotInD (hu : X.A.units + 65 < cLine) : DOp X (compareOp .NotIn) (gIn true) := by
  refine ⟨gIn_mono, _, op_notInD hu, fun F H x y dx dy Q s d1 d2 ⟨ys, e, f, q⟩ => ?_⟩
  subst e
  have f2 : (D.lst ys).flat 60 = true := by rw [D.flat]; exact f.2
  refine ⟨_, _, (d1.mono s).dp f.1, (d2.mono s).dp f2, flat_shaped f.1 (by decide), flat_shaped f2 (by decide), ?_⟩
  have := q.1 _ (.bl _)
  rw [Bool.true_xor, ← hasD_py] at this
  exact this
end

/-! ### a def in a local, called -/
def dCallLoc (i : Nat) (f : Addr) (g : GS) (fa : Wa) : We := fun ρ Q E => ρ[i]? = some (some (.fz (.ob (.ref f)))) ∧ dCallP g fa ρ Q E
section
variable {X : Cx} {k i : Nat} {f : Addr} {fd : FuncData} {ps : List Str} {g : GS} {fa : Wa} {x : Str} {p pos : Pos} {e : Expr} {es : List Expr}
theorem pe_callLX {sp : Sp} {E : L2.St → XK} {t : TA} (Fn : FnOk X.prog X.w X.K X.mg X.base (L2.CX X.prog X.w) k f fd ps sp) (hr : Room k X.A) (hN : X.N[i]? = some x) (hv : Vis X.env.scope x) (hk : PySem.W.keepIn X.K (.ref f) = true) (hb : Binds X.K fd ps []) (hx : ∀ σ, PassesAt (L2.CX X.prog X.w) X σ (E σ)) (ha : PA X (e :: es) t)
    (hdb : (x == ("__debug__" : Str)) = false) (hcd : (x == ("__classdict__" : Str)) = false)
    (he : starEach (e :: es) X.env = (false, eval e X.env) :: starEach es X.env) (hpl : (backTo pos (starEach es X.env)).any (·.1) = false) : PE X (.Call (.Name x p) (e :: es) [] pos) (fun σ H Q => σ[i]? = some (some (.ref f)) ∧ t σ H fun vs H1 => sp vs H1 Q (E σ)) := by
  refine ⟨fun pins s σ H Q I ⟨hs, ht⟩ => ?_⟩
  refine wpAny_Call_Name_kw (thn ((pe_var (pos := p) hN hv hdb hcd).run pins s σ H (fun v H1 => v = .ref f ∧ H1 = H) I ⟨.ref f, hs, rfl, rfl⟩) fun u s1 ⟨v, H1, I1, r1, e1, e2⟩ => ?_)
  subst e1 e2
  cases r1
  exact PySem.W.callWith_K (h₀ := X.base) I.ok.mod.kin hk (thn (ha.run pos pins s1 σ _ _ I1 ht) fun us s2 ⟨vs, H2, I2, r, q⟩ => ⟨I2.kIn, run_fnS Fn hr hb (hx σ) I2 r q⟩) he hpl
theorem de_callLoc (m : MonoP g) (Fn : FnOk X.prog X.w X.K X.mg X.base (L2.CX X.prog X.w) k f fd ps (toSpP X.K g)) (hr : Room k X.A) (hk : PySem.W.keepIn X.K (.ref f) = true) (hb : Binds X.K fd ps []) (ha : DA X (e :: es) fa)
    (hN : X.N[i]? = some x := by rfl) (hv : Vis X.env.scope x := by first | exact Or.inl rfl | exact Or.inr (Or.inl rfl) | exact Or.inr (Or.inr rfl)) (hdb : (x == ("__debug__" : Str)) = false := by decide) (hcd : (x == ("__classdict__" : Str)) = false := by decide)
    (he : starEach (e :: es) X.env = (false, eval e X.env) :: starEach es X.env := by rfl) (hpl : (backTo pos (starEach es X.env)).any (·.1) = false := by rfl) :
    DE X (.Call (.Name x p) (e :: es) [] pos) (dCallLoc i f g fa) := by
  refine ⟨fun ρ Q Q' E E' hQ hE ⟨h0, hw⟩ => ⟨h0, ha.mono ρ _ _ _ _ (fun ds ρ1 z => m _ _ _ _ _ (fun d q => hQ _ _ q) (fun x q => hE _ _ q) z) hE hw⟩, fun W tk => ?_⟩
  obtain ⟨t, pt, kk⟩ := ha.run W tk
  refine ⟨_, pe_callLX Fn hr hN hv hk hb (fun σ => passAt tk σ) pt hdb hcd he hpl, fun R F σ H ρ Q r ⟨h0, hw⟩ => ⟨?_, kk R F σ H ρ _ r (ha.mono _ _ _ _ _ (fun ds ρ1 z F1 H1 vs s1 r1 dv => ?_) (fun _ _ z => z) hw)⟩⟩
  · obtain ⟨v, h1, h2⟩ := r.fz i _ h0
    cases h2
    exact h1
  · exact callP_spec m s1 r1 dv z
end

/-! ### a + b as a new list -/
def nAdd (fa fb : We) : Wa := fun ρ Q E => fa ρ (fun x ρ1 => fb ρ1 (fun y ρ2 => ∃ a b, x = .lst a ∧ y = .lst b ∧ a.length + b.length ≤ sizeLine ∧ Q (a ++ b) ρ2) E) E
theorem room65 {k : Nat} {A : Around} (r : Room k A) : A.units + 65 < cLine := by have := r.un; omega
end DL
namespace DL
open PySem PySem.Spec PyProof.Rows L2
variable [TabSet]

/-! ### an own list lent to a loop, then had again -/
section
variable {K : PySem.W.Frag} {R F : Hp} {ρ : Env} {σ : L2.St} {H : Hp} {i : Nat} {a : Addr} {xs : List D} {vs : List V}
end
section
variable {X : Cx}
variable {elt tg : Expr} {ifs : List Expr} {scope : Scope} {own : List (Str × Nat)} {i j : Nat} {x y : Str} {pos spos p2 py : Pos} {g : Wg} {is : List Nat} {tt : Wt} {te : We}
end

def dOpO (i : Nat) (g : G2) (fb : We) : We := fun ρ Q E => ∃ a xs, ρ[i]? = some (some (.own a xs)) ∧ fb ρ (fun y ρ1 => ∃ xs1, ρ1[i]? = some (some (.own a xs1)) ∧ g (.lst xs1) y fun d => Q d ρ1) E
section
variable {X : Cx} {b : Expr} {fb : We} {g : G2} {i : Nat} {x : Str} {op : CmpOp} {pos p2 : Pos}
end
theorem i_opO {i : Nat} {g : G2} {fb : We} {ρ : Env} {Q : Qn} {E : Qx} {a : Addr} {xs : List D} (e : ρ[i]? = some (some (.own a xs))) (h : fb ρ (fun y ρ1 => ∃ xs1, ρ1[i]? = some (some (.own a xs1)) ∧ g (.lst xs1) y fun d => Q d ρ1) E) : dOpO i g fb ρ Q E := ⟨a, xs, e, h⟩
theorem i_step {st : Int} {f : We} {fl : Wo} {ρ : Env} {Q : Qn} {E : Qx} (h : f ρ (fun x ρ1 => fl ρ1 (fun lo ρ2 => ∃ xs, (x = .lst xs ∨ x = .ro xs) ∧ (places lo st xs.length).length ≤ sizeLine ∧ Q (.lst (byStep xs lo st)) ρ2) E) E) : dStep st f fl ρ Q E := h
theorem i_stepL {xs : List D} {P : List D → Prop} (h : P xs) : ∃ ys, (D.lst xs = .lst ys ∨ D.lst xs = .ro ys) ∧ P ys := ⟨xs, .inl rfl, h⟩
theorem i_callLoc {i : Nat} {f : Addr} {g : GS} {fa : Wa} {ρ : Env} {Q : Qn} {E : Qx} (e : ρ[i]? = some (some (.fz (.ob (.ref f))))) (h : dCallP g fa ρ Q E) : dCallLoc i f g fa ρ Q E := ⟨e, h⟩
theorem i_nAdd {fa fb : We} {ρ : Env} {QA : List D → Env → Prop} {E : Qx} (h : fa ρ (fun x ρ1 => fb ρ1 (fun y ρ2 => ∃ a b, x = .lst a ∧ y = .lst b ∧ a.length + b.length ≤ sizeLine ∧ QA (a ++ b) ρ2) E) E) : nAdd fa fb ρ QA E := h
theorem i_in {n : Bool} {x : D} {ys : List D} {P : D → Prop} (h1 : x.flat 60 = true) (h2 : D.flatA 59 ys = true) (h : P (.bl (xor n (hasD ys x)))) : gIn n x (.lst ys) P := ⟨ys, rfl, ⟨h1, h2⟩, h⟩
theorem while_I {tc : Wt} {gb : Ws} {ρ : Env} {nx : Env → Prop} {rt : D → Env → Prop} {bk ct : Env → Prop} {ex : Qx} {rn : List D → Env → Prop} (I : Nat → Env → Prop) {m : Nat} (h0 : I m ρ)
    (hs : ∀ m ρ, I m ρ → tc ρ (fun b ρ1 => Ite b (gb ρ1 ⟨fun ρ2 => ∃ m', m' < m ∧ I m' ρ2, rt, nx, fun ρ2 => ∃ m', m' < m ∧ I m' ρ2, ex, rn⟩) (nx ρ1)) ex) : dWhile tc gb ρ ⟨nx, rt, bk, ct, ex, rn⟩ := ⟨I, ⟨m, h0⟩, hs⟩
theorem fmod_nat (x y : Nat) : Int.fmod (x : Int) (y : Int) = ((x % y : Nat) : Int) := by
  rw [Int.fmod_eq_emod_of_nonneg _ (Int.natCast_nonneg y)]; rfl
theorem abs_if (a : Int) : (if a < 0 then -a else a) = (a.natAbs : Int) := by split <;> omega
/-- a comprehension with a test -/
theorem lcL_fil {α : Type} {e f : α → D} {c : α → Bool} {g : Wg} {tt : Wt} {te : We} {vs : List Nat} {ρ : Env} {QA : List D → Env → Prop} : ∀ {xs : List α} {acc : List D}
    (_ : ∀ a ∈ xs, ∀ (P1 : D → Env → Prop) (P2 : Env → Prop), (c a = true → ∀ ρ', wipeE ρ' vs = ρ → P1 (f a) ρ') → (c a = false → ∀ ρ', wipeE ρ' vs = ρ → P2 (wipeE ρ' vs)) → g (e a) ρ (fun ρ1 => tt ρ1 (fun b ρ2 => Ite b (te ρ2 P1 noX) (P2 (wipeE ρ2 vs))) noX))
    (_ : QA (acc ++ (xs.filter c).map f) ρ), lcL g tt te vs (xs.map e) acc ρ QA
  | [], acc, _, q => by rw [List.filter_nil, List.map_nil, List.append_nil] at q; exact q
  | x :: xs, acc, h, q => by
    refine h x List.mem_cons_self (fun y ρ3 => lcL g tt te vs (xs.map e) (acc ++ [y]) (wipeE ρ3 vs) QA) (fun ρ2 => lcL g tt te vs (xs.map e) acc ρ2 QA) (fun hc ρ' hw => ?_) (fun hc ρ' hw => ?_)
    · rw [hw]
      refine lcL_fil (fun a ha => h a (List.mem_cons_of_mem _ ha)) ?_
      rw [List.filter_cons_of_pos hc, List.map_cons] at q
      rw [List.append_assoc]; exact q
    · rw [hw]
      refine lcL_fil (fun a ha => h a (List.mem_cons_of_mem _ ha)) ?_
      rw [List.filter_cons_of_neg (by rw [hc]; decide)] at q
      exact q
end DL
namespace DL
open PySem PySem.Spec PyProof.Rows L2
variable [TabSet]

/-- what the written part says of the class D and its __init__ -/
structure ErBase (P : Program) (K : PySem.W.Frag) (D fI cc cda : Addr) (params : Arguments) (body : List Stmt) (scope : Scope) : Prop where
  code : PySem.W.codeIn K (.ref cda) "ShapeError.__init__" = true
  file : ∃ ccl cdd vs ccs file tf, K.lookup cda = some ⟨ccl, cdd, .fields vs, ccs⟩ ∧ vs[2]? = some (.str file tf) ∧ ((P.main.file : Str) == file) = true
  cell : ∃ cl cld csl, K.lookup cc = some ⟨cl, cld, .cell (some (.ref D)), csl⟩
  clsD : ∃ cd, PySem.W.clsIn K D = some cd
  tyI : PySem.W.typeIn K (.ref fI) = some (.type "function")
  sup : PySem.W.nsIn K mainGlobals "super" = some none
  top : (P.main.scope.names.lookup ("super" : Str)).isSome = false
  third : PySem.W.nsIn K cStatics "thirdparty.any" = some none
/-- .. and of a class C below it (or it itself) -/
structure ErCls (K : PySem.W.Frag) (D fI C : Addr) : Prop where
  oex : OexC K C
  init : PySem.W.findIn K (.ref C) "__init__" = some (some (.ref fI))
  sup : PySem.W.ks_superIn K C D "__init__" = some (some (.builtin "ValueError.__init__"))
  ve : PySem.W.subIn K (.ref C) (.type "ValueError") = some true
  mro : PySem.W.mroIn K C (.ref D) = some true
  told : PySem.W.findIn K (.ref C) "told" = some none
/-- what the __init__ promises -/
def spEr (K : PySem.W.Frag) (D fI : Addr) : Sp := fun vs H Q _ => ∃ (a C : Addr) (y : V), vs = [.ref a, y] ∧ ErCls K D fI C ∧ H a = some (exo a C none) ∧ ∀ dx, H dx = none → dx ≠ a → Q .non (upd (upd H dx (exd dx [("told", y)])) a (exo a C (some dx)))
end DL
namespace DL
open PySem PySem.Spec PyProof.Rows L2
variable [TabSet]

/-! ### raise of the package's error -/
/-- the class at C, named x: made by its inherited __init__, its told read, asked by isinstance -/
structure ErOk (P : Program) (w : World) (K : PySem.W.Frag) (mg : Str → Option Value) (base : Heap) (x : Str) (C : Addr) : Prop where
  gC : mg x = some (.ref C)
  made : ∃ D fI fd, ErCls K D fI C ∧ FnOk P w K mg base (L2.CX P w) 1 fI fd ["self", "told"] (spEr K D fI) ∧ Binds K fd ["self", "told"] [] ∧ PySem.W.typeIn K (.ref fI) = some (.type "function")
  xf : XfC K C
  ec : ExcC K C
  told : PySem.W.findIn K (.ref C) "told" = some none
def dRaise (C : Addr) (f : We) : Ws := fun ρ D => f ρ (fun d ρ1 => D.ex ⟨C, "told", d⟩ ρ1) D.ex
section
variable {X : Cx} {x : Str} {e : Expr} {f : We} {C : Addr} {p pos pos' : Pos}
end

/-! ### try: .. except X as e: .. -/
def canS (K : PySem.W.Frag) (g : Ws) (W : WX) : TS := fun D σ H => ∃ R F ρ, Rel K R F ρ σ H ∧ g ρ (upS K R F W D)
theorem DSs.can {X : Cx} {st : List Stmt} {g : Ws} {W : WX} (h : DSs X st g) (tk : Takes X W) : PSs X st (canS X.K g W) := by
  obtain ⟨t, p, k⟩ := h.run W tk
  exact ⟨fun pins s σ H D I ⟨R, F, ρ, r, hw⟩ => p.run pins s σ H D I (k R F σ H ρ D r hw)⟩
/-- cat C b: an exception of the class at C is caught (b) or not -/
def dTry (cat : Addr → Bool → Prop) (i : Nat) (gb : Ws) (gs : Addr → Addr → Addr → Ws) : Ws := fun ρ D => gb ρ { D with ex := fun x ρ1 => ∃ b, cat x.C b ∧ (b = true → ∀ a dd, gs a x.C dd (ρ1.set i (some (.fz (.exc a x.C dd x.fld x.val))))
  ⟨fun ρ2 => D.nx (ρ2.set i none), D.rt, fun ρ2 => D.bk (ρ2.set i none), fun ρ2 => D.ct (ρ2.set i none), fun _ _ => False, D.rn⟩) ∧ (b = false → D.ex x ρ1) }
section
variable {X : Cx} {x n : Str} {c : Addr} {i : Nat} {body suite : List Stmt} {b₀ : Stmt} {np pos pos' : Pos} {cat : Addr → Bool → Prop} {gb : Ws} {gs : Addr → Addr → Addr → Ws}
end

/-! ### e.told, isinstance(e, X), in the clause -/
def dTold (fl : Str) (i : Nat) (a C dd : Addr) : We := fun ρ Q _ => ∃ d, ρ[i]? = some (some (.fz (.exc a C dd fl d))) ∧ Q d ρ
section
variable {X : Cx} {i : Nat} {a C dd : Addr} {oe : Obj} {pn : List (Addr × Obj)} {n y fl : Str} {p p2 p3 pos : Pos}
end

/-! isinstance of a caught error that has a dict -/
section
open PySem.Calls
variable {prog : Program} {w : World} {A : Around} {E : Value → Shared → Prop} {s : Shared} {K : PySem.W.Frag} {x C : Addr} {ox : Obj} {odx : Option Obj}
end
section
variable {X : Cx} {i : Nat} {a C dd c : Addr} {oe : Obj} {pn : List (Addr × Obj)} {n y : Str} {p p2 p3 pos : Pos} {sub : Addr → Bool → Prop}
end
theorem i_told {i : Nat} {a C dd : Addr} {ρ : Env} {Q : Qn} {E : Qx} {fl : Str} {d : D} (e : ρ[i]? = some (some (.fz (.exc a C dd fl d)))) (h : Q d ρ) : dTold fl i a C dd ρ Q E := ⟨d, e, h⟩
theorem s_raise {C : Addr} {f : We} {ρ : Env} {nx : Env → Prop} {rt : D → Env → Prop} {bk ct : Env → Prop} {ex : Qx} {rn : List D → Env → Prop} (h : f ρ (fun d ρ1 => ex ⟨C, "told", d⟩ ρ1) ex) : dRaise C f ρ ⟨nx, rt, bk, ct, ex, rn⟩ := h
theorem s_try {cat : Addr → Bool → Prop} {i : Nat} {gb : Ws} {gs : Addr → Addr → Addr → Ws} {ρ : Env} {nx : Env → Prop} {rt : D → Env → Prop} {bk ct : Env → Prop} {ex : Qx} {rn : List D → Env → Prop}
    (h : gb ρ ⟨nx, rt, bk, ct, fun x ρ1 => ∃ b, cat x.C b ∧ (b = true → ∀ a dd, gs a x.C dd (ρ1.set i (some (.fz (.exc a x.C dd x.fld x.val)))) ⟨fun ρ2 => nx (ρ2.set i none), rt, fun ρ2 => bk (ρ2.set i none), fun ρ2 => ct (ρ2.set i none), fun _ _ => False, rn⟩) ∧ (b = false → ex x ρ1), rn⟩) : dTry cat i gb gs ρ ⟨nx, rt, bk, ct, ex, rn⟩ := h
/-- what a def hands back: data, or an exception -/
inductive Out where
  | ok (d : D) | er (x : Exc)
def Out.ho (o : Out) (Q : D → Prop) (E : Exc → Prop) : Prop := match o with
  | .ok d => Q d
  | .er x => E x
theorem Out.mono {o : Out} {Q Q' : D → Prop} {E E' : Exc → Prop} (hQ : ∀ d, Q d → Q' d) (hE : ∀ x, E x → E' x) (h : o.ho Q E) : o.ho Q' E' := by
  cases o with
  | ok d => exact hQ _ h
  | er x => exact hE _ h
theorem D.eq_str {x y : Str} : D.eq (.str x) (.str y) = decide (x = y) := by
  unfold D.eq; simp only [D.py, PyData.eqv]
  rw [Bool.eq_iff_iff]; simp
theorem i_ok {d : D} {Q : D → Prop} {E : Exc → Prop} (h : Q d) : (Out.ok d).ho Q E := h
theorem i_er {x : Exc} {Q : D → Prop} {E : Exc → Prop} (h : E x) : (Out.er x).ho Q E := h
end DL
namespace DL
open PySem PySem.Spec PyProof.Rows L2
variable [TabSet]
end DL
namespace DL
open PySem PySem.Spec PyProof.Rows L2
variable [TabSet]
section
variable {nx : Env → Prop} {rt : D → Env → Prop} {bk ct : Env → Prop} {ex : Qx} {rn : List D → Env → Prop}
/-- a loop over a list: I of what is done -/
theorem forL_list {α : Type} {e : α → D} {G : Wg} {g : Ws} {xs : List α} (I : List α → Env → Prop) (hn : ∀ ρ, I xs ρ → nx ρ)
    (hs : ∀ done a rest ρ, xs = done ++ a :: rest → I done ρ → ∀ K : Env → Prop, (∀ ρ', I (done ++ [a]) ρ' → K ρ') → G (e a) ρ (fun ρ1 => g ρ1 ⟨K, rt, nx, K, ex, rn⟩)) {ρ : Env} (h : I [] ρ) : forL G g (xs.map e) ρ ⟨nx, rt, bk, ct, ex, rn⟩ := by
  refine forL_inv (fun ds ρ => ∃ done rest, xs = done ++ rest ∧ ds = rest.map e ∧ I done ρ) ?_ ?_ ⟨[], xs, rfl, rfl, h⟩
  · rintro ρ ⟨done, rest, e1, e2, hi⟩
    cases rest with
    | nil => rw [List.append_nil] at e1; rw [← e1] at hi; exact hn _ hi
    | cons _ _ => cases e2
  · rintro d ds ρ ⟨done, rest, e1, e2, hi⟩ K hK
    cases rest with
    | nil => cases e2
    | cons a rest =>
      obtain ⟨rfl, rfl⟩ := List.cons.inj e2
      exact hs done a rest ρ e1 hi K fun ρ' h' => hK ρ' ⟨done ++ [a], rest, by rw [e1, List.append_assoc]; rfl, rfl, h'⟩
theorem hasD_ints {xs : List Int} {a : Int} : hasD (xs.map D.int) (.int a) = decide (a ∈ xs) := by
  unfold hasD
  rw [List.any_map, Bool.eq_iff_iff, List.any_eq_true, decide_eq_true_eq]
  constructor
  · rintro ⟨x, hx, e⟩
    have e' : D.eq (.int x) (.int a) = true := e
    rw [D.eq_int, decide_eq_true_eq] at e'
    rw [← e']; exact hx
  · intro h
    exact ⟨a, h, by show D.eq (.int a) (.int a) = true; rw [D.eq_int]; exact decide_eq_true rfl⟩
end
/-! what a local holds, laid plain -/
theorem set_z {a v : Option Sv} {l : Env} : (a :: l).set 0 v = v :: l := rfl
theorem set_s {a v : Option Sv} {l l' : Env} {n : Nat} (h : l.set n v = l') : (a :: l).set (n + 1) v = a :: l' := by rw [List.set_cons_succ, h]
theorem s_seqN {g g2 : Ws} {ρ ρ' : Env} {i : Nat} {v : Option Sv} {D : Es} (e : ρ.set i v = ρ') (h : dSeq g g2 ρ' D) : dSeq g g2 (ρ.set i v) D := by rw [e]; exact h
theorem s_seqN2 {g g2 : Ws} {ρ ρ1 ρ' : Env} {i j : Nat} {v u : Option Sv} {D : Es} (e1 : ρ.set i v = ρ1) (e : ρ1.set j u = ρ') (h : dSeq g g2 ρ' D) : dSeq g g2 ((ρ.set i v).set j u) D := by rw [e1, e]; exact h
theorem s_seqN3 {g g2 : Ws} {ρ ρ1 ρ2 ρ' : Env} {i j k : Nat} {v u w : Option Sv} {D : Es} (e1 : ρ.set i v = ρ1) (e2 : ρ1.set j u = ρ2) (e : ρ2.set k w = ρ') (h : dSeq g g2 ρ' D) : dSeq g g2 (((ρ.set i v).set j u).set k w) D := by rw [e1, e2, e]; exact h
theorem s_seqN4 {g g2 : Ws} {ρ ρ1 ρ2 ρ3 ρ' : Env} {i j k l : Nat} {v u w x : Option Sv} {D : Es} (e1 : ρ.set i v = ρ1) (e2 : ρ1.set j u = ρ2) (e3 : ρ2.set k w = ρ3) (e : ρ3.set l x = ρ') (h : dSeq g g2 ρ' D) : dSeq g g2 ((((ρ.set i v).set j u).set k w).set l x) D := by rw [e1, e2, e3, e]; exact h
theorem i_revL {f : We} {ρ : Env} {Q : Qn} {E : Qx} (h : f ρ (fun x ρ1 => ∃ xs, (x = .lst xs ∨ x = .ro xs) ∧ Q (.lst xs.reverse) ρ1) E) : dRevL f ρ Q E := h
end DL
namespace DL
open PySem PySem.Spec PyProof.Rows L2 HT
variable [TabSet]
/-! ### t[::-1] of a tuple -/
section
variable {prog : Program} {w : World} {A : Around} {E : Value → Shared → Prop} {s : Shared}
theorem back_adjust (n : Nat) : Builtin.Slice.sliceAdjust none none (-1) (n : Int) = ((n : Int) - 1, -1) := by
  unfold Builtin.Slice.sliceAdjust
  simp
theorem back_places (n : Nat) : Builtin.Slice.slicePlaces ((n : Int) - 1) (-1) (-1) = n := by
  unfold Builtin.Slice.slicePlaces
  rw [if_neg (by omega)]
  split
  · rw [show ((-(-1 : Int)) : Int) = 1 by decide, Int.ediv_one]; omega
  · omega
theorem back_applied {sl : Addr} {vs : Value} {n : Nat} {Q : Int × Int × Nat → Shared → Prop} (hS : s.heap.IsSliceOf sl .none .none vs) (pS : IsPart vs (some (-1)))
    (h : Q ((n : Int) - 1, -1, n) s) : wpAny (model prog w) A (Builtin.Slice.sliceApplied (.ref sl) (pure (n : Int))) Q E s := by
  obtain ⟨ob, g1, g2, g3⟩ := id hS
  unfold Builtin.Slice.sliceApplied Builtin.Slice.sliceFields
  refine wpAny_bind (wpAny_bind (wpAny_field g1 g3 (x := .none) rfl (wpAny_bind (wpAny_field g1 g3 (x := .none) rfl (wpAny_bind (wpAny_field g1 g3 (x := vs) rfl (wpAny_pure ?_)))))))
  refine wpAny_bind (slicePart_ pS ?_)
  show wpAny _ _ (if ((-1 : Int) == 0) = true then _ else _) _ _ s
  rw [if_neg (show ¬ ((-1 : Int) == 0) = true by decide)]
  refine wpAny_bind (slicePart_none (wpAny_bind (slicePart_none (wpAny_bind (wpAny_pure ?_)))))
  show wpAny _ _ (match Builtin.Slice.sliceAdjust none none (-1) (n : Int) with | (lo, hi) => pure (lo, (-1 : Int), Builtin.Slice.slicePlaces lo hi (-1))) _ _ s
  rw [back_adjust n]
  show wpAny _ _ (pure ((n : Int) - 1, (-1 : Int), Builtin.Slice.slicePlaces ((n : Int) - 1) (-1) (-1))) _ _ s
  rw [back_places]
  exact wpAny_pure h
theorem back_pick (xs : Array Value) : ((List.range xs.size).filterMap fun (m : Nat) => xs[((xs.size : Int) - 1 + (m : Int) * -1).toNat]?).toArray = xs.toList.reverse.toArray := by
  congr 1
  have e : ∀ m ∈ List.range xs.size, xs[((xs.size : Int) - 1 + (m : Int) * -1).toNat]? = some (xs.toList.reverse.getD m .none) := fun m hm => by
    have hl := List.mem_range.mp hm
    have k : ((xs.size : Int) - 1 + (m : Int) * -1).toNat = xs.size - 1 - m := by omega
    rw [k, List.getD_eq_getElem?_getD, List.getElem?_reverse (by simpa using hl), Array.length_toList, Array.getElem?_toList]
    rw [Array.getElem?_eq_getElem (by omega)]
    rfl
  have h2 : ∀ (l : List Nat), (∀ m ∈ l, xs[((xs.size : Int) - 1 + (m : Int) * -1).toNat]? = some (xs.toList.reverse.getD m .none)) → (l.filterMap fun (m : Nat) => xs[((xs.size : Int) - 1 + (m : Int) * -1).toNat]?) = l.map fun m => xs.toList.reverse.getD m .none := by
    intro l
    induction l with
    | nil => intro _; rfl
    | cons a l ih =>
      intro h
      rw [List.filterMap_cons, h a List.mem_cons_self, List.map_cons, ih fun m hm => h m (List.mem_cons_of_mem _ hm)]
  rw [h2 _ e]
  refine List.ext_getElem (by simp) fun i h1 h2 => ?_
  rw [List.getElem_map, List.getElem_range, List.getD_eq_getElem?_getD, List.getElem?_eq_getElem h2]
  rfl
theorem back_item {t sl : Addr} {its : Array Value} {vs : Value} {Q : Value → Shared → Prop} (hT : IsTup s.heap t its) (hS : s.heap.IsSliceOf sl .none .none vs) (pS : IsPart vs (some (-1)))
    (h : Q (.ref s.heap.objs.size) { s with heap := s.heap.push { cls := .type "tuple", data := .seq its.toList.reverse.toArray } }) (hz : its.size ≤ sizeLine) : wpAny (model prog w) A (getItem (.ref t) (.ref sl)) Q E s := by
  have hO : sizeOk (.seq its.toList.reverse.toArray) := by
    show its.toList.reverse.toArray.size ≤ sizeLine
    rw [List.size_toArray, List.length_reverse, Array.length_toList]; exact hz
  obtain ⟨ob, g1, g2, g3⟩ := id hS
  have hY : s.TypeIs (.ref sl) "slice" := ⟨ob, g1, g2⟩
  unfold getItem
  try with_reducible refine wpAny_holding ?_
  first | refine wpAny_bind (wpAny_pure ?_) | skip
  refine wpAny_bind (wpAny_sequenceKey hT.typeIs (by decide) (wpAny_bind (wpAny_callSpecial?_slot (name := Str.ofString "__getitem__") hT.typeIs PyProof.Rows.slot_tuple_getitem (wpAny_call_entry PyProof.Rows.slot_tuple_getitem hT.typeIs entry_tuple_getitem ?_ (args_tuple_getitem _ _)))))
  show wpAny _ _ (Builtin.Tuple.tupleItemsOf (.ref t) >>= _) _ _ s
  refine wpAny_bind (tupleItemsOf_ hT (wpAny_bind (wpAny_typeOf hY ?_)))
  rw [if_pos (show _ from by decide)]
  refine wpAny_bind (back_applied hS pS ?_)
  show wpAny _ _ (if (((its.size : Int) - 1) == 0 && (-1 : Int) == 1 && its.size == its.size) = true then _ else _) _ _ s
  rw [if_neg (by simp), back_pick]
  first
    | exact wpAny_bind (m := Builtin.Tuple.tupleExact _) (wpAny_newObj_type (wpAny_pure ⟨_, rfl, wpAny_pure h⟩) hO)
    | exact wpAny_bind (m := Builtin.Tuple.tupleExact _) (wpAny_newObj_type (wpAny_bind (wpAny_pure (wpAny_pure ⟨_, rfl, wpAny_pure h⟩))) hO)
    | exact wpAny_bind (wpAny_bind (m := Builtin.Tuple.tupleExact _) (wpAny_newObj_type (wpAny_pure (wpAny_pure ⟨_, rfl, wpAny_pure h⟩)) hO))
    | exact wpAny_bind (wpAny_bind (m := Builtin.Tuple.tupleExact _) (wpAny_newObj_type (wpAny_pure ⟨_, rfl, wpAny_pure h⟩) hO))
end
def tBack (K : PySem.W.Frag) (te : TE) : TE := fun σ H Q => te σ H fun x H1 => ∃ a xs, x = .ref a ∧ SqT K H1 a xs ∧ ∀ p, H1 p = none → Q (.ref p) (upd H1 p (.tup xs.reverse))
section
variable {X : Cx} {e : Expr} {te : TE} {f : We} {k : Nat} {p1 p2 p3 pos : Pos}
theorem pe_back (he : PE X e te) : PE X (.Subscript e (.Slice none none (some (.UnaryOp .USub (.Constant (.int 1) k p1) p2)) p3) pos) (tBack X.K te) := by
  refine ⟨fun pins s σ H Q I h => Subscript_ (thn (he.run pins s σ H _ I h) fun v s1 ⟨x, H1, I1, r1, a, xs, ex, hx, q⟩ => ?_)⟩
  subst ex
  cases r1
  have hM : PO X (some (.UnaryOp .USub (.Constant (.int 1) k p1) p2)) (tPart (tUn (rU fun i => .int (-i)) (tC (.int 1)))) := po_some (pe_un un_neg pe_int)
  refine wpAny_Slice (thn (po_none.run pins s1 σ H1 (fun o H2 => o = none ∧ H2 = H1) I1 ⟨rfl, rfl⟩) fun vl s2 ⟨l, H2, I2, pl, el, e2⟩ => ?_)
  subst el e2
  refine thn (po_none.run pins s2 σ H2 (fun o H3 => o = none ∧ H3 = H2) I2 ⟨rfl, rfl⟩) fun vu s3 ⟨u, H3, I3, pu, eu, e3⟩ => ?_
  subst eu e3
  refine thn (hM.run pins s3 σ H3 (fun o H4 => o = some (-1) ∧ H4 = H3) I3 ⟨1, rfl, -1, rfl, rfl, rfl⟩) fun vs s4 ⟨o, H4, I4, ps, eo, e4⟩ => ?_
  subst eo e4
  cases pl
  cases pu
  have I5 : Inv X pins σ H4 { s4 with heap := s4.heap.push { cls := .type "slice", data := .fields #[.none, .none, vs] } } := I4.kept (t' := s4.toks) fun b ob z => Heap.get?_push_of_some _ z
  obtain ⟨its, r, hT, hz⟩ := I5.tuple hx
  have hlen := r.length
  show wpAny (model X.prog X.w) X.A (subscriptTail e (.Slice none none (some (.UnaryOp .USub (.Constant (.int 1) k p1) p2)) p3) (.ref a) (.ref s4.heap.objs.size)) (EP X pins σ Q) X.xe { s4 with heap := s4.heap.push { cls := .type "slice", data := .fields #[.none, .none, vs] } }
  refine tail_any (ops := [.ref a, .ref s4.heap.objs.size]) hT.typeIs PyProof.Rows.slot_tuple_getitem.lookup ?_ (by with_unfolding_all rfl)
  refine back_item hT (Heap.IsSliceOf.new _ .none .none vs) ps ?_ (by rw [List.size_toArray]; omega)
  refine ⟨.ref _, _, I5.laid (t' := s4.toks) (o := .tup xs.reverse) (fun b ob z => Heap.get?_push_of_some _ z) (Nat.le_refl _) ?_, rfl, q _ (I5.hok.fresh (Nat.le_refl _))⟩
  exact ⟨by rw [List.length_reverse]; omega, _, r.reverse, IsTup.new _ _⟩
/-- .. of data -/
def dBack (f : We) : We := fun ρ Q E => f ρ (fun x ρ1 => ∃ xs, x = .tup xs ∧ Q (.tup xs.reverse) ρ1) E
theorem de_back (ha : DE X e f) : DE X (.Subscript e (.Slice none none (some (.UnaryOp .USub (.Constant (.int 1) k p1) p2)) p3) pos) (dBack f) := by
  refine ⟨fun ρ Q Q' E E' hQ hE hw => ha.mono ρ _ _ _ _ (fun x ρ1 ⟨xs, e, q⟩ => ⟨xs, e, hQ _ _ q⟩) hE hw, fun W tk => ?_⟩
  obtain ⟨t1, p1, k1⟩ := ha.run W tk
  refine ⟨_, pe_back p1, fun R F σ H ρ Q r hw => k1 R F σ H ρ _ r (ha.mono _ _ _ _ _ (fun dx ρ1 ⟨xs, e, q⟩ F1 H1 x s1 r1 d1 => ?_) (fun _ _ z => z) hw)⟩
  subst e
  cases d1 with
  | tup hq ha => exact ⟨_, _, rfl, Same.seqT r1.sF hq, FinD.newT r1.sF (up_fin s1 r1 q) ha.reverse⟩
theorem i_back {ρ : Env} {Q : Qn} {E : Qx} (h : f ρ (fun x ρ1 => ∃ xs, x = .tup xs ∧ Q (.tup xs.reverse) ρ1) E) : dBack f ρ Q E := h
theorem i_back2 {xs : List D} {P : List D → Prop} (h : P xs) : ∃ ys, D.tup xs = .tup ys ∧ P ys := ⟨xs, rfl, h⟩
end
/-! the state of a reading laid plain -/
theorem at_set {α β : Type} {f : Env → α → β → Prop} {Q : α} {E : β} {ρ ρ' : Env} {i : Nat} {v : Option Sv} (e : ρ.set i v = ρ') (h : f ρ' Q E) : f (ρ.set i v) Q E := by rw [e]; exact h
theorem at_set2 {α β : Type} {f : Env → α → β → Prop} {Q : α} {E : β} {ρ ρ1 ρ' : Env} {i j : Nat} {v u : Option Sv} (e1 : ρ.set i v = ρ1) (e : ρ1.set j u = ρ') (h : f ρ' Q E) : f ((ρ.set i v).set j u) Q E := by rw [e1, e]; exact h
end DL
namespace DL
open PySem PySem.Spec PyProof.Rows L2 HT
open AutoSeq1 (wpAny_loadPart')
variable [TabSet]
section
variable {prog : Program} {w : World} {A : Around} {E : Value → Shared → Prop} {s : Shared}
end
/-- a list or a tuple -/
def iEnumA (fa : Wa) : Wa := fun ρ Q E => fa ρ (fun ds ρ1 => ∃ x xs, ds = [x] ∧ (x = .tup xs ∨ isSeqL x = some xs) ∧ Q (enumD xs) ρ1) E
section
variable {X : Cx} {a : Expr} {fa : Wa} {p pos : Pos}
theorem i_enumA {wa : Wa} {ρ : Env} {QA : List D → Env → Prop} {E : Qx} (h : wa ρ (fun ds ρ1 => ∃ x xs, ds = [x] ∧ (x = .tup xs ∨ isSeqL x = some xs) ∧ QA (enumD xs) ρ1) E) : iEnumA wa ρ QA E := h
/-- a, b, .. = a list of that length -/
def gL (n : Nat) (gs : Wgs) : Wg := fun d ρ Q => ∃ xs, d = .lst xs ∧ xs.length = n ∧ gs xs ρ Q
theorem g_L {gs : Wgs} {xs : List D} {n : Nat} {ρ : Env} {P : Env → Prop} (e : xs.length = n) (h : gs xs ρ P) : gL n gs (.lst xs) ρ P := ⟨xs, rfl, e, h⟩
end
end DL
namespace DL
open PySem PySem.Spec PyProof.Rows L2 HT
variable [TabSet]
/-! ### repr of a truth -/
section
variable {X : Cx}
def gRepr : GA := fun xs Q => ∃ b, xs = [.bl b] ∧ Q (.str (if b then "True" else "False"))
theorem i_repr {b : Bool} {P : D → Prop} (h : P (.str (if b then "True" else "False"))) : gRepr [.bl b] P := ⟨b, rfl, h⟩
end
/-! ### [.. for .. if ..] with a test that is a truth of the item -/
theorem lcL_filt {α : Type} {e f : α → D} {p : α → Bool} {g : Wg} {tt : Wt} {te : We} {vs : List Nat} {ρ : Env} {QA : List D → Env → Prop} : ∀ {xs : List α} {acc : List D}
    (h : ∀ a ∈ xs, ∀ (P : D → Env → Prop) (R : Env → Prop), (p a = true → ∀ ρ', wipeE ρ' vs = ρ → P (f a) ρ') → (p a = false → ∀ ρ', wipeE ρ' vs = ρ → R ρ') → g (e a) ρ (fun ρ1 => tt ρ1 (fun b ρ2 => Ite b (te ρ2 P noX) (R ρ2)) noX))
    (q : QA (acc ++ (xs.filter p).map f) ρ), lcL g tt te vs (xs.map e) acc ρ QA := by
  intro xs
  induction xs with
  | nil => intro acc h q; rw [List.filter_nil, List.map_nil, List.append_nil] at q; exact q
  | cons a r ih =>
    intro acc h q
    rw [List.map_cons]
    refine h a List.mem_cons_self _ _ (fun c ρ' e3 => ?_) (fun c ρ' e3 => ?_)
    · rw [e3]
      refine ih (fun b mb => h b (List.mem_cons_of_mem _ mb)) ?_
      rw [List.filter_cons_of_pos c, List.map_cons] at q
      rw [List.append_assoc]; exact q
    · rw [e3]
      refine ih (fun b mb => h b (List.mem_cons_of_mem _ mb)) ?_
      rw [List.filter_cons_of_neg (by rw [c]; decide)] at q
      exact q
end DL
namespace DL
open PySem PySem.Spec PyProof.Rows L2 HT
variable [TabSet]
def nLcEO (i : Nat) (g : Wg) (tt : Wt) (te : We) (vs : List Nat) : Wa := fun ρ Q _ => ∃ a xs, ρ[i]? = some (some (.own a xs)) ∧ xs.length ≤ sizeLine ∧ lcL g tt te vs (enumD xs) [] (wipeE (ρ.set i none) vs) fun acc ρ2 => Q acc ((backE (ρ.set i none) ρ2 vs).set i (some (.own a xs)))
section
variable {X : Cx}
variable {elt : Expr} {elts ifs : List Expr} {kk : Nat} {tpos : Pos} {scope : Scope} {own : List (Str × Nat)} {i j : Nat} {x y : Str} {pos spos p1 p2 p3 py : Pos} {g : Wg} {is : List Nat} {tt : Wt} {te : We}
end
theorem i_lcEO {i : Nat} {g : Wg} {tt : Wt} {te : We} {vs : List Nat} {ρ : Env} {QA : List D → Env → Prop} {E : Qx} {a : Addr} {xs : List D} (e : ρ[i]? = some (some (.own a xs))) (hl : xs.length ≤ sizeLine) (h : lcL g tt te vs (enumD xs) [] (wipeE (ρ.set i none) vs) fun acc ρ2 => QA acc ((backE (ρ.set i none) ρ2 vs).set i (some (.own a xs)))) : nLcEO i g tt te vs ρ QA E := ⟨a, xs, e, hl, h⟩
theorem i_cutO {i : Nat} {fl fh : Wo} {ρ : Env} {Q : Qn} {E : Qx} {a : Addr} {xs : List D} (e : ρ[i]? = some (some (.own a xs))) (h : fl ρ (fun lo ρ2 => fh ρ2 (fun hi ρ3 => ∃ ys, ρ3[i]? = some (some (.own a ys)) ∧ Q (.lst (cut ys lo hi)) ρ3) E) E) : dCutO i fl fh ρ Q E := ⟨a, xs, e, h⟩
/-! ### range(i, j, -1) -/
def rangeDn (i : Int) (n : Nat) : List D := (List.range n).map fun (k : Nat) => D.int (i - (k : Int))
def iR3 (fa : Wa) : Wa := fun ρ Q E => fa ρ (fun ds ρ1 => ∃ i j, ds = [.int i, .int j, .int (-1)] ∧ (-(2 ^ 62) ≤ i ∧ i < 2 ^ 62 ∧ -(2 ^ 62) ≤ j ∧ j < 2 ^ 62) ∧ Q (rangeDn i (i - j).toNat) ρ1) E
section
variable {X : Cx} {tg a b c : Expr} {fa : Wa} {p pos : Pos}
end
theorem i_r3 {wa : Wa} {ρ : Env} {QA : List D → Env → Prop} {E : Qx} (h : wa ρ (fun ds ρ1 => ∃ i j, ds = [.int i, .int j, .int (-1)] ∧ (-(2 ^ 62) ≤ i ∧ i < 2 ^ 62 ∧ -(2 ^ 62) ≤ j ∧ j < 2 ^ 62) ∧ QA (rangeDn i (i - j).toNat) ρ1) E) : iR3 wa ρ QA E := h
end DL
namespace DL
open PySem PySem.Spec PyProof.Rows L2 HT
variable [TabSet]
/-- a tuple, then a list -/
def iZipTL (fa : Wa) : Wa := fun ρ Q E => fa ρ (fun ds ρ1 => ∃ y xs ys, ds = [.tup xs, y] ∧ isSeqL y = some ys ∧ Q (zipD xs ys) ρ1) E
section
variable {X : Cx} {a b : Expr} {fa : Wa} {p pos : Pos}
theorem i_zipM {wa : Wa} {ρ : Env} {QA : List D → Env → Prop} {E : Qx} (h : wa ρ (fun ds ρ1 => ∃ y xs ys, ds = [.tup xs, y] ∧ isSeqL y = some ys ∧ QA (zipD xs ys) ρ1) E) : iZipTL wa ρ QA E := h
end
end DL
/-! ### an error over OverflowError whose __init__ says super().__init__(most), then self.most = most -/
namespace DL
variable [TabSet]
abbrev ovTail : List PySem.Value := [.type "OverflowError", .type "ArithmeticError", .type "Exception", .type "BaseException", .type "object"]
section
open PySem PySem.HandSPX PySem.Builtin PySem.Builtin.ObjectAttr
variable {prog : Program} {w : World} {A : Around} {E : Value → Shared → Prop} {R : Result → Shared → Prop} {hp : Heap} {g : Array GenState} {d : Drawn} {t : Nat} {os : OsState}
end
end DL
namespace DL
open PySem PySem.Spec PyProof.Rows L2
variable [TabSet]
structure OexV (K : PySem.W.Frag) (C : Addr) : Prop where
  cls : ∃ nm q N bs bm sn sub ab col dd k0 k1 k2 k3 k5, K.lookup C = some (excClassObj nm q C N bs bm true sn sub ab col dd k0 k1 k2 k3 k5 "OverflowError.__new__") ∧ bm = ovTail
  sa : PySem.W.findIn K (.ref C) "__setattr__" = some (some (.builtin "object.__setattr__"))
  exC : PySem.W.subIn K (.ref C) (.type "BaseException") = some true
  tyC : PySem.W.typeIn K (.ref C) = some (.type "type")
  kC : PySem.W.keepIn K (.ref C) = true
section
variable {X : Cx} {pins : List (Addr × Obj)} {σ : L2.St} {H : Hp} {s : Shared} {a C dx : Addr} {f : Str} {y : V} {u : Value} {fs : List (Str × V)} {Q : Unit → Shared → Prop} {E : Value → Shared → Prop} {A : Around}
end
section
variable {X : Cx} {o e : Expr} {es : List Expr} {to te : TE} {ta : TA} {f : Str} {p p' p1 p2 pos : Pos}
end
/-- what the written part says of the class D and its __init__ -/
structure ErBaseV (P : Program) (K : PySem.W.Frag) (D fI cc cda : Addr) (params : Arguments) (body : List Stmt) (scope : Scope) : Prop where
  code : PySem.W.codeIn K (.ref cda) "TooMany.__init__" = true
  file : ∃ ccl cdd vs ccs file tf, K.lookup cda = some ⟨ccl, cdd, .fields vs, ccs⟩ ∧ vs[2]? = some (.str file tf) ∧ ((P.main.file : Str) == file) = true
  cell : ∃ cl cld csl, K.lookup cc = some ⟨cl, cld, .cell (some (.ref D)), csl⟩
  clsD : ∃ cd, PySem.W.clsIn K D = some cd
  tyI : PySem.W.typeIn K (.ref fI) = some (.type "function")
  sup : PySem.W.nsIn K mainGlobals "super" = some none
  top : (P.main.scope.names.lookup ("super" : Str)).isSome = false
  third : PySem.W.nsIn K cStatics "thirdparty.any" = some none
/-- .. and of a class C below it (or it itself) -/
structure ErClsV (K : PySem.W.Frag) (D fI C : Addr) : Prop where
  oex : OexV K C
  init : PySem.W.findIn K (.ref C) "__init__" = some (some (.ref fI))
  sup : PySem.W.ks_superIn K C D "__init__" = some (some (.builtin "OverflowError.__init__"))
  ve : PySem.W.subIn K (.ref C) (.type "OverflowError") = some true
  mro : PySem.W.mroIn K C (.ref D) = some true
  told : PySem.W.findIn K (.ref C) "most" = some none
/-- what the __init__ promises -/
def spErV (K : PySem.W.Frag) (D fI : Addr) : Sp := fun vs H Q _ => ∃ (a C : Addr) (y : V), vs = [.ref a, y] ∧ ErClsV K D fI C ∧ H a = some (exo a C none) ∧ ∀ dx, H dx = none → dx ≠ a → Q .non (upd (upd H dx (exd dx [("most", y)])) a (exo a C (some dx)))
/-- the class at C, named x: made by its inherited __init__, its told read, asked by isinstance -/
structure ErOkV (P : Program) (w : World) (K : PySem.W.Frag) (mg : Str → Option Value) (base : Heap) (x : Str) (C : Addr) : Prop where
  gC : mg x = some (.ref C)
  made : ∃ D fI fd, ErClsV K D fI C ∧ FnOk P w K mg base (L2.CX P w) 1 fI fd ["self", "most"] (spErV K D fI) ∧ Binds K fd ["self", "most"] [] ∧ PySem.W.typeIn K (.ref fI) = some (.type "function")
  xf : XfC K C
  ec : ExcC K C
  told : PySem.W.findIn K (.ref C) "most" = some none
def dRaiseV (C : Addr) (f : We) : Ws := fun ρ D => f ρ (fun d ρ1 => D.ex ⟨C, "most", d⟩ ρ1) D.ex
section
variable {X : Cx} {x : Str} {e : Expr} {f : We} {C : Addr} {p pos pos' : Pos}
end

theorem s_raiseV {C : Addr} {f : We} {ρ : Env} {nx : Env → Prop} {rt : D → Env → Prop} {bk ct : Env → Prop} {ex : Qx} {rn : List D → Env → Prop} (h : f ρ (fun d ρ1 => ex ⟨C, "most", d⟩ ρ1) ex) : dRaiseV C f ρ ⟨nx, rt, bk, ct, ex, rn⟩ := h
end DL
/-! dicts whose keys are tuples of ints: {k: v for ..}, dict(..), d[k], d.get(k, x), in, len, list(d), walks -/
namespace DL
open PySem PySem.Spec PyProof.Rows L2
variable [TabSet]

/-! ### keys -/
mutual
theorem nkI_hash {w w' : World} : ∀ {n : Nat} {d : D} {k : NestedKey}, D.nkI n d = some k → k.hash w = k.hash w'
  | n, .int i, k, e => by unfold D.nkI at e; cases e; rfl
  | 0, .tup ds, k, e => by unfold D.nkI at e; cases e
  | m + 1, .tup ds, k, e => by
    unfold D.nkI at e
    obtain ⟨ks, h1, h2⟩ := Option.map_eq_some_iff.mp e
    subst h2
    show NestedKey.hash w (.tup ks) = NestedKey.hash w' (.tup ks)
    unfold NestedKey.hash
    rw [nkA_hash (w := w) (w' := w') h1]
  | n, .non, k, e => by unfold D.nkI at e; cases e
  | n, .bl _, k, e => by unfold D.nkI at e; cases e
  | n, .str _, k, e => by unfold D.nkI at e; cases e
  | n, .lst _, k, e => by unfold D.nkI at e; cases e
  | n, .ro _, k, e => by unfold D.nkI at e; cases e
  | n, .ob _, k, e => by unfold D.nkI at e; cases e
  | n, .exc _ _ _ _ _, k, e => by unfold D.nkI at e; cases e
  | n, .dct _, k, e => by unfold D.nkI at e; cases e
  | n, .thk _ _ _ _ _ _, k, e => by unfold D.nkI at e; cases e
theorem nkA_hash {w w' : World} : ∀ {n : Nat} {ds : List D} {ks : List NestedKey}, D.nkA n ds = some ks → NestedKey.hashes w ks = NestedKey.hashes w' ks
  | n, [], ks, e => by unfold D.nkA at e; cases e; rfl
  | n, d :: ds, ks, e => by
    unfold D.nkA at e
    obtain ⟨k, h1, h2⟩ := Option.bind_eq_some_iff.mp e
    obtain ⟨js, h3, h4⟩ := Option.map_eq_some_iff.mp h2
    subst h4
    show NestedKey.hashes w (k :: js) = NestedKey.hashes w' (k :: js)
    unfold NestedKey.hashes
    rw [nkI_hash (w := w) (w' := w') h1, nkA_hash (w := w) (w' := w') h3]
end
mutual
theorem nkI_depth : ∀ {n : Nat} {d : D} {k : NestedKey}, D.nkI n d = some k → k.depth ≤ n
  | n, .int i, k, e => by unfold D.nkI at e; cases e; exact Nat.zero_le _
  | 0, .tup ds, k, e => by unfold D.nkI at e; cases e
  | m + 1, .tup ds, k, e => by
    unfold D.nkI at e
    obtain ⟨ks, h1, h2⟩ := Option.map_eq_some_iff.mp e
    subst h2
    show NestedKey.depth (.tup ks) ≤ m + 1
    unfold NestedKey.depth
    have := nkA_depth h1
    omega
  | n, .non, k, e => by unfold D.nkI at e; cases e
  | n, .bl _, k, e => by unfold D.nkI at e; cases e
  | n, .str _, k, e => by unfold D.nkI at e; cases e
  | n, .lst _, k, e => by unfold D.nkI at e; cases e
  | n, .ro _, k, e => by unfold D.nkI at e; cases e
  | n, .ob _, k, e => by unfold D.nkI at e; cases e
  | n, .exc _ _ _ _ _, k, e => by unfold D.nkI at e; cases e
  | n, .dct _, k, e => by unfold D.nkI at e; cases e
  | n, .thk _ _ _ _ _ _, k, e => by unfold D.nkI at e; cases e
theorem nkA_depth : ∀ {n : Nat} {ds : List D} {ks : List NestedKey}, D.nkA n ds = some ks → NestedKey.depthAll ks ≤ n
  | n, [], ks, e => by unfold D.nkA at e; cases e; exact Nat.zero_le _
  | n, d :: ds, ks, e => by
    unfold D.nkA at e
    obtain ⟨k, h1, h2⟩ := Option.bind_eq_some_iff.mp e
    obtain ⟨js, h3, h4⟩ := Option.map_eq_some_iff.mp h2
    subst h4
    show NestedKey.depthAll (k :: js) ≤ n
    unfold NestedKey.depthAll
    have := nkI_depth h1
    have := nkA_depth h3
    omega
end
section
variable {X : Cx} {pins : List (Addr × Obj)} {σ : L2.St} {H : Hp} {s : Shared}
mutual
theorem nkI_is (I : Inv X pins σ H s) : ∀ {n : Nat} {d : D} {k : NestedKey} {v : V} {u : Value}, D.nkI n d = some k → Dv X.K H v d → RelV v u → NestedIs s.heap k u
  | n, .int i, k, _, u, e, .int _, r => by
    unfold D.nkI at e; cases e
    obtain ⟨t, rfl⟩ := (show ∃ t, u = Value.int i t from r)
    exact .int i t
  | 0, .tup ds, k, _, u, e, _, _ => by unfold D.nkI at e; cases e
  | m + 1, .tup ds, k, _, u, e, .tup hq ha, r => by
    unfold D.nkI at e
    obtain ⟨ks, h1, h2⟩ := Option.map_eq_some_iff.mp e
    subst h2
    cases (show u = Value.ref _ from r)
    obtain ⟨its, rv, ⟨o, e1, e2, n2, e3⟩, _⟩ := I.tuple hq
    exact .tup e1 e2 e3 (by simpa using nkA_is I h1 ha rv)
  | n, .non, k, _, _, e, _, _ => by unfold D.nkI at e; cases e
  | n, .bl _, k, _, _, e, _, _ => by unfold D.nkI at e; cases e
  | n, .str _, k, _, _, e, _, _ => by unfold D.nkI at e; cases e
  | n, .lst _, k, _, _, e, _, _ => by unfold D.nkI at e; cases e
  | n, .ro _, k, _, _, e, _, _ => by unfold D.nkI at e; cases e
  | n, .ob _, k, _, _, e, _, _ => by unfold D.nkI at e; cases e
  | n, .exc _ _ _ _ _, k, _, _, e, _, _ => by unfold D.nkI at e; cases e
  | n, .dct _, k, _, _, e, _, _ => by unfold D.nkI at e; cases e
  | n, .thk _ _ _ _ _ _, k, _, _, e, _, _ => by unfold D.nkI at e; cases e
theorem nkA_is (I : Inv X pins σ H s) : ∀ {n : Nat} {ds : List D} {ks : List NestedKey} {vs : List V} {us : List Value}, D.nkA n ds = some ks → DvA X.K H vs ds → Vals vs us → NestedAll s.heap ks us
  | n, [], ks, _, _, e, .nil, .nil => by unfold D.nkA at e; cases e; exact .nil
  | n, d :: ds, ks, _, _, e, .cons h t, .cons r rs => by
    unfold D.nkA at e
    obtain ⟨k, h1, h2⟩ := Option.bind_eq_some_iff.mp e
    obtain ⟨js, h3, h4⟩ := Option.map_eq_some_iff.mp h2
    subst h4
    exact .cons (nkI_is I h1 h r) (nkA_is I h3 t rs)
end
theorem nk_I {d : D} {k : NestedKey} (e : d.nk = some k) : D.nkI 7 d = some k := by
  cases d with
  | tup ds => exact e
  | _ => cases e
theorem nk_is (I : Inv X pins σ H s) {d : D} {k : NestedKey} {b : Addr} (e : d.nk = some k) (h : Dv X.K H (.ref b) d) : (nestedKind X.prog X.w).is s.heap k b :=
  ⟨nkI_is I (nk_I e) h (show RelV (.ref b) (.ref b) from rfl), Nat.le_succ_of_le (nkI_depth (nk_I e))⟩
/-- a tuple's value is a reference -/
theorem nk_ref {K : PySem.W.Frag} {F : Hp} {d : D} {k : NestedKey} {v : V} (e : d.nk = some k) (h : Dv K F v d) : ∃ b, v = .ref b := by
  cases h with
  | tup hq ha => exact ⟨_, rfl⟩
  | _ => cases e
end

/-! ### what a dict holds -/
def look (kvs : List (D × D)) (k : D) : Option D := (kvs.find? fun p => decide (D.nk p.1 = D.nk k)).map (·.2)
def dput (kvs : List (D × D)) (k v : D) : List (D × D) := if (look kvs k).isSome then kvs.map fun p => if D.nk p.1 = D.nk k then (p.1, v) else p else kvs ++ [(k, v)]
section
variable {K : PySem.W.Frag} {F : Hp}
theorem DvP.length : ∀ {xs : List (NestedKey × Addr × Value)} {kvs : List (D × D)}, DvP K F xs kvs → xs.length = kvs.length
  | _, _, .nil => rfl
  | _, _, .cons _ _ _ _ t => by rw [List.length_cons, List.length_cons, DvP.length t]
theorem DvP.look {kd : D} {k : NestedKey} (e : D.nk kd = some k) : ∀ {xs : List (NestedKey × Addr × Value)} {kvs : List (D × D)}, DvP K F xs kvs → (look kvs kd = none ∧ atKey xs k = none) ∨ ∃ vd b u v, look kvs kd = some vd ∧ atKey xs k = some (b, u) ∧ RelV v u ∧ Dv K F v vd
  | _, _, .nil => .inl ⟨rfl, rfl⟩
  | _, _, .cons (k := k2) (b := b) (u := u) (v := v) (kd := kd2) (vd := vd) (xs := xs) (kvs := kvs) e2 h r d t => by
    by_cases c : k2 = k
    · subst c
      refine .inr ⟨vd, b, u, v, ?_, ?_, r, d⟩
      · unfold DL.look
        rw [List.find?_cons_of_pos (by simp [e, e2])]
        rfl
      · unfold atKey
        rw [List.find?_cons_of_pos (by simp)]
        rfl
    · have l1 : DL.look ((kd2, vd) :: kvs) kd = DL.look kvs kd := by
        unfold DL.look
        rw [List.find?_cons_of_neg (by simp [e, e2, c])]
      have l2 : atKey ((k2, b, u) :: xs) k = atKey xs k := by
        unfold atKey
        rw [List.find?_cons_of_neg (by simp [c])]
      rw [l1, l2]
      exact DvP.look e t
theorem DvP.repl {kd vd : D} {k : NestedKey} {v : V} {u : Value} (e : D.nk kd = some k) (r : RelV v u) (d : Dv K F v vd) : ∀ {xs : List (NestedKey × Addr × Value)} {kvs : List (D × D)}, DvP K F xs kvs → DvP K F (xs.map (putAt k u)) (kvs.map fun p => if D.nk p.1 = D.nk kd then (p.1, vd) else p)
  | _, _, .nil => .nil
  | _, _, .cons (k := k2) e2 h r2 d2 t => by
    rw [List.map_cons, List.map_cons]
    unfold putAt
    by_cases c : k2 = k
    · subst c
      rw [if_pos rfl, if_pos (e2.trans e.symm)]
      exact .cons e2 h r d (DvP.repl e r d t)
    · rw [if_neg c, if_neg (fun z => c (by have z2 := e2.symm.trans (z.trans e); cases z2; rfl))]
      exact .cons e2 h r2 d2 (DvP.repl e r d t)
theorem DvP.snoc {kd vd : D} {k : NestedKey} {b : Addr} {v : V} {u : Value} (e : D.nk kd = some k) (h : Dv K F (.ref b) kd) (r : RelV v u) (d : Dv K F v vd) : ∀ {xs : List (NestedKey × Addr × Value)} {kvs : List (D × D)}, DvP K F xs kvs → DvP K F (xs ++ [(k, b, u)]) (kvs ++ [(kd, vd)])
  | _, _, .nil => .cons e h r d .nil
  | _, _, .cons e2 h2 r2 d2 t => .cons e2 h2 r2 d2 (DvP.snoc e h r d t)
theorem DvP.put {kd vd : D} {k : NestedKey} {b : Addr} {v : V} {u : Value} {xs : List (NestedKey × Addr × Value)} {kvs : List (D × D)} (p : DvP K F xs kvs) (e : D.nk kd = some k) (h : Dv K F (.ref b) kd) (r : RelV v u) (d : Dv K F v vd) : DvP K F (storedH xs k b u) (dput kvs kd vd) := by
  unfold storedH dput
  rcases p.look e with ⟨l1, l2⟩ | ⟨_, _, _, _, l1, l2, _⟩
  · rw [l1, l2]; exact p.snoc e h r d
  · rw [l1, l2]; exact p.repl e r d
theorem DvP.keys : ∀ {xs : List (NestedKey × Addr × Value)} {kvs : List (D × D)}, DvP K F xs kvs → DvA K F (xs.map fun x => V.ref x.2.1) (kvs.map (·.1))
  | _, _, .nil => .nil
  | _, _, .cons _ h _ _ t => .cons h (DvP.keys t)
theorem DvP.mem {P : NestedKey → Prop} (hP : ∀ d k, D.nk d = some k → P k) : ∀ {xs : List (NestedKey × Addr × Value)} {kvs : List (D × D)}, DvP K F xs kvs → ∀ x ∈ xs, P x.1
  | _, _, .nil, x, m => by cases m
  | _, _, .cons e _ _ _ t, x, m => by
    rcases List.mem_cons.mp m with z | z
    · subst z; exact hP _ _ e
    · exact DvP.mem hP t x z
theorem DvP.kis {X : Cx} {pins : List (Addr × Obj)} {σ : L2.St} {H : Hp} {s : Shared} (I : Inv X pins σ H s) : ∀ {xs : List (NestedKey × Addr × Value)} {kvs : List (D × D)}, DvP X.K H xs kvs → ∀ x ∈ xs, (nestedKind X.prog X.w).is s.heap x.1 x.2.1
  | _, _, .nil, x, m => by cases m
  | _, _, .cons e h _ _ t, x, m => by
    rcases List.mem_cons.mp m with z | z
    · subst z; exact nk_is I e h
    · exact DvP.kis I t x z
end
section
variable {X : Cx} {pins : List (Addr × Obj)} {σ : L2.St} {H : Hp} {s : Shared} {a : Addr} {xs : List (NestedKey × Addr × Value)} {kvs : List (D × D)}
theorem dct_at (I : Inv X pins σ H s) (h : H a = some (dctO a xs) ∨ ∃ o, H a = some (.frz o (dctO a xs))) : DctAt a xs s.heap := by
  rcases h with h | ⟨o, h⟩
  · exact (show ObjOk X.prog X.w H s.heap a (.ext (DctAt a xs)) from I.hok a _ h).1
  · exact (show ObjOk X.prog X.w H s.heap a (.frz o (.ext (DctAt a xs))) from I.hok a _ h).2.1
theorem dct_of (I : Inv X pins σ H s) (h : H a = some (dctO a xs) ∨ ∃ o, H a = some (.frz o (dctO a xs))) (p : DvP X.K H xs kvs) : s.heap.DictOfH (nestedKind X.prog X.w) a xs := by
  obtain ⟨_, _, w, o, es, ep, h1, h2, h3, h4, h5⟩ := dct_at I h
  refine ⟨o, es, ep, h1, h2, h3, ?_, p.kis I, h5⟩
  rw [h4]
  refine List.map_congr_left fun x m => ?_
  have := p.mem (P := fun k => k.hash w = k.hash X.w) (fun d k e => nkI_hash (nk_I e)) x m
  show (⟨x.1.hash w, .ref x.2.1, x.2.2⟩ : DictEntry) = ⟨x.1.hash X.w, .ref x.2.1, x.2.2⟩
  rw [this]
theorem dct_ok {P : Program} {w : World} {H' : Hp} {h' : Heap} (hs : (a == sysModules) = false) (hz : xs.length ≤ sizeLine) (d : h'.DictOfH (nestedKind P w) a xs) : ObjOk P w H' h' a (dctO a xs) := by
  obtain ⟨o, es, ep, h1, h2, h3, h4, _, h5⟩ := d
  refine ⟨⟨hs, hz, w, o, es, ep, h1, h2, h3, h4, h5⟩, ⟨o, h1⟩, ?_⟩
  rintro g1 g2 ⟨z1, z2, w, o, es, ep, q1, q2⟩ k
  exact ⟨z1, z2, w, o, es, ep, k o q1, q2⟩
theorem dct_empty {P : Program} {w : World} {H : Hp} (h : Heap) (hb : sysModules < h.objs.size) : ObjOk P w H (h.push { cls := .type "dict", data := .dict #[] }) h.objs.size (dctO h.objs.size []) :=
  dct_ok (beq_false_of_ne (Nat.ne_of_gt hb)) (Nat.zero_le _) (Heap.DictOfH.new h)
/-- d[k] = v by a comprehension -/
theorem x_dictSet {kd : D} {k : NestedKey} {b : Addr} {r : Value} {Q : Unit → Shared → Prop} {E : Value → Shared → Prop} (hu : X.A.units + 8 < cLine) (I : Inv X pins σ H s) (hD : H a = some (dctO a xs)) (p : DvP X.K H xs kvs) (e : D.nk kd = some k) (hk : Dv X.K H (.ref b) kd) (hz : xs.length < sizeLine)
    (h : ∀ s', Inv X pins σ (upd H a (dctO a (storedH xs k b r))) s' → Q () s') : wpAny (model X.prog X.w) X.A (dictSet a (.ref b) r) Q E s := by
  have g := dct_at I (.inl hD)
  refine wpAny_dictSet_heap (hsz := Nat.le_of_lt hz) hu (nk_is I e hk) (dct_of I (.inl hD) p) fun h' dd' hs => h _ ?_
  have hl : (storedH xs k b r).length ≤ sizeLine := by
    unfold storedH
    split
    · rw [List.length_map]; omega
    · rw [List.length_append, List.length_singleton]; omega
  have he : ∃ q, h'.get? a = some q := let ⟨q, _, _, hq, _⟩ := dd'; ⟨q, hq⟩
  exact I.write (x := a) (e := a) (by rw [hD]; exact True.intro) (.inl rfl) (fun b q hb z => (hs.2 b hb).trans z) he (dct_ok g.1 hl dd')
end

/-! ### what is read -/
/-- what the rules ask of a dict at a, a key b -/
structure KAt (K : PySem.W.Frag) (F : Hp) (x y : V) (kvs : List (D × D)) (kd : D) (a b : Addr) (xs : List (NestedKey × Addr × Value)) (k : NestedKey) : Prop where
  x : x = .ref a
  y : y = .ref b
  d : ∃ o, F a = some (.frz o (dctO a xs))
  p : DvP K F xs kvs
  k : D.nk kd = some k
  dk : Dv K F (.ref b) kd
theorem kat_of {K : PySem.W.Frag} {F : Hp} {x y : V} {kvs : List (D × D)} {kd : D} {k : NestedKey} (h : Dv K F x (.dct kvs)) (hk : Dv K F y kd) (e : D.nk kd = some k) : ∃ a b xs, KAt K F x y kvs kd a b xs k := by
  cases h with
  | dct h p =>
    obtain ⟨b, rfl⟩ := nk_ref e hk
    exact ⟨_, b, _, rfl, rfl, ⟨_, h⟩, p, e, hk⟩
theorem KAt.mono {K : PySem.W.Frag} {F F' : Hp} {x y : V} {kvs : List (D × D)} {kd : D} {a b : Addr} {xs : List (NestedKey × Addr × Value)} {k : NestedKey} (g : KAt K F x y kvs kd a b xs k) (s : Same F F') : KAt K F' x y kvs kd a b xs k :=
  ⟨g.x, g.y, let ⟨o, e⟩ := g.d; ⟨o, s _ _ e⟩, g.p.mono s, g.k, g.dk.mono s⟩
section
variable {X : Cx} {pins : List (Addr × Obj)} {σ : L2.St} {H : Hp} {s : Shared} {x y : V} {kvs : List (D × D)} {kd : D} {a b : Addr} {xs : List (NestedKey × Addr × Value)} {k : NestedKey} {E : Value → Shared → Prop}
theorem KAt.typeIs (g : KAt X.K H x y kvs kd a b xs k) (I : Inv X pins σ H s) : s.TypeIs (.ref a) "dict" := (dct_of I (.inr g.d) g.p).typeIs
theorem KAt.sys (g : KAt X.K H x y kvs kd a b xs k) (I : Inv X pins σ H s) : (a == sysModules) = false := (dct_at I (.inr g.d)).1
theorem KAt.get {Q : Value → Shared → Prop} (hu : X.A.units + 64 < cLine) {F : Hp} (sF : Same F H) (gF : KAt X.K F x y kvs kd a b xs k) (I : Inv X pins σ H s) {vd : D} (l : look kvs kd = some vd) (h : ∀ u v s', Inv X pins σ H s' → RelV v u → Dv X.K F v vd → Q u s') :
    wpAny (model X.prog X.w) X.A (getItem (.ref a) (.ref b)) Q E s := by
  have g := gF.mono sF
  rcases gF.p.look g.k with ⟨l1, _⟩ | ⟨vd2, b2, u, v, l1, l2, r, d⟩
  · rw [l] at l1; cases l1
  · rw [l] at l1; cases l1
    exact wpAny_getItem_heap (by show X.A.units + 1 + 8 < cLine; omega) (nk_is I g.k g.dk) (dct_of I (.inr g.d) g.p) l2 (h _ v _ (I.tok _) r d)
theorem KAt.in {Q : Value → Shared → Prop} (hu : X.A.units + 64 < cLine) (g : KAt X.K H x y kvs kd a b xs k) (I : Inv X pins σ H s) (h : ∀ s', Inv X pins σ H s' → Q (.bool (look kvs kd).isSome) s') :
    wpAny (model X.prog X.w) X.A (compareOp .In (.ref b) (.ref a)) Q E s := by
  refine wpAny_in_heap (by show X.A.units + 1 + 8 < cLine; omega) (nk_is I g.k g.dk) (g.sys I) (dct_of I (.inr g.d) g.p) ?_
  have e : (atKey xs k).isSome = (look kvs kd).isSome := by
    rcases g.p.look g.k with ⟨l1, l2⟩ | ⟨vd2, b2, u, v, l1, l2, r, d⟩ <;> rw [l1, l2] <;> rfl
  rw [e]
  exact h _ (I.tok _)
theorem KAt.get1 {Q : Value → Shared → Prop} (hu : X.A.units + 64 < cLine) {F : Hp} (sF : Same F H) (gF : KAt X.K F x y kvs kd a b xs k) (I : Inv X pins σ H s) (h : ∀ u v s', Inv X pins σ H s' → RelV v u → Dv X.K F v ((look kvs kd).getD .non) → Q u s') :
    wpAny (model X.prog X.w) X.A (call (.builtin "dict.get") [.ref a, .ref b]) Q E s := by
  have g := gF.mono sF
  have dd := dct_of I (.inr g.d) g.p
  refine call_meetsIn PySem.F.slot_dict_get dd.typeIs PySem.F.entry_dict_get (PySem.F.args_dict_get_2 _ _) (meetsH_dict_get (nestedKind X.prog X.w) a b (g.sys I)) ⟨by show X.A.units + 1 + 8 < cLine; omega, k, xs, nk_is I g.k g.dk, dd, ?_⟩
  rcases gF.p.look g.k with ⟨l1, l2⟩ | ⟨vd2, b2, u, v, l1, l2, r, d⟩
  · rw [l2]; exact h _ .non _ (I.tok _) rfl (by rw [l1]; exact .non)
  · rw [l2]; exact h _ v _ (I.tok _) r (by rw [l1]; exact d)
theorem KAt.get2 {Q : Value → Shared → Prop} (hu : X.A.units + 64 < cLine) {F : Hp} (sF : Same F H) (gF : KAt X.K F x y kvs kd a b xs k) (I : Inv X pins σ H s) {zu : Value} {zv : V} {zd : D} (rz : RelV zv zu) (dz : Dv X.K F zv zd) (h : ∀ u v s', Inv X pins σ H s' → RelV v u → Dv X.K F v ((look kvs kd).getD zd) → Q u s') :
    wpAny (model X.prog X.w) X.A (call (.builtin "dict.get") [.ref a, .ref b, zu]) Q E s := by
  have g := gF.mono sF
  have dd := dct_of I (.inr g.d) g.p
  refine call_meetsIn PySem.F.slot_dict_get dd.typeIs PySem.F.entry_dict_get (PySem.F.args_dict_get_3 _ _ _) (meetsH_dict_get_default (nestedKind X.prog X.w) a b (g.sys I) zu) ⟨by show X.A.units + 1 + 8 < cLine; omega, k, xs, nk_is I g.k g.dk, dd, ?_⟩
  rcases gF.p.look g.k with ⟨l1, l2⟩ | ⟨vd2, b2, u, v, l1, l2, r, d⟩
  · rw [l2]; exact h _ zv _ (I.tok _) rz (by rw [l1]; exact dz)
  · rw [l2]; exact h _ v _ (I.tok _) r (by rw [l1]; exact d)
end
/-! as expressions -/
def tXGet (K : PySem.W.Frag) (td ty : TE) : TE := fun σ H Q => td σ H fun x H1 => ty σ H1 fun y H2 => ∃ F kvs kd a b xs k vd, Same F H2 ∧ KAt K F x y kvs kd a b xs k ∧ look kvs kd = some vd ∧ ∀ v, Dv K F v vd → Q v H2
def tXIn (neg : Bool) (K : PySem.W.Frag) (ty td : TE) : TE := fun σ H Q => ty σ H fun y H1 => td σ H1 fun x H2 => ∃ kvs kd a b xs k, KAt K H2 x y kvs kd a b xs k ∧ Q (.bl (xor neg (look kvs kd).isSome)) H2
def tXGet1 (K : PySem.W.Frag) (td ty : TE) : TE := fun σ H Q => td σ H fun x H1 => (∃ a xs, x = .ref a ∧ ∃ o, H1 a = some (.frz o (dctO a xs))) ∧ ty σ H1 fun y H2 => ∃ F kvs kd a b xs k, Same F H2 ∧ KAt K F x y kvs kd a b xs k ∧ ∀ v, Dv K F v ((look kvs kd).getD .non) → Q v H2
def tXGet2 (K : PySem.W.Frag) (td ty tz : TE) : TE := fun σ H Q => td σ H fun x H1 => (∃ a xs, x = .ref a ∧ ∃ o, H1 a = some (.frz o (dctO a xs))) ∧ ty σ H1 fun y H2 => tz σ H2 fun z H3 => ∃ F kvs kd a b xs k zd, Same F H3 ∧ KAt K F x y kvs kd a b xs k ∧ Dv K F z zd ∧ ∀ v, Dv K F v ((look kvs kd).getD zd) → Q v H3
section
variable {X : Cx} {o i e f : Expr} {pos apos cpos : Pos} {td ty tz : TE}
theorem dct_type {pins : List (Addr × Obj)} {σ : L2.St} {H : Hp} {s : Shared} {a : Addr} {xs : List (NestedKey × Addr × Value)} (I : Inv X pins σ H s) (h : ∃ o, H a = some (.frz o (dctO a xs))) : s.TypeIs (.ref a) "dict" ∧ ∀ c, Value.ref a = .ref c → ∃ ob, s.heap.get? c = some ob ∧ ob.dict = none := by
  obtain ⟨_, _, _, ob, es, ep, h1, h2, _⟩ := dct_at I (.inr h)
  exact ⟨⟨ob, h1, h2.1⟩, fun c q => by cases q; exact ⟨ob, h1, h2.2.1⟩⟩
theorem px_get (hu : X.A.units + 64 < cLine) (ho : PE X o td) (hi : PE X i ty) (hs : NoSl i) : PE X (.Subscript o i pos) (tXGet X.K td ty) := by
  refine ⟨fun pins s σ H Q I h => ?_⟩
  refine subD_of PySem.F.slot_dict_getitem.lookup hs (thn (ho.run pins s σ H _ I h) fun u s1 ⟨x, H1, I1, rx, q1⟩ => thn (hi.run pins s1 σ H1 _ I1 q1) fun iv s2 ⟨y, H2, I2, ry, F, kvs, kd, a, b, xs, k, vd, sF, g, l, q2⟩ => ?_)
  obtain rfl : u = Value.ref a := by rw [g.x] at rx; exact rx
  obtain rfl : iv = Value.ref b := by rw [g.y] at ry; exact ry
  exact ⟨(g.mono sF).typeIs I2, KAt.get hu sF g I2 l fun u v s3 I3 r d => ⟨v, H2, I3, r, q2 v d⟩⟩
theorem px_in (hu : X.A.units + 64 < cLine) (hi : PE X i ty) (ho : PE X o td) : PC X .In i o (tXIn false X.K ty td) := by
  refine ⟨fun pins s σ H Q I h => ?_⟩
  refine thn (hi.run pins s σ H _ I h) fun iv s1 ⟨y, H1, I1, ry, q1⟩ => thn (ho.run pins s1 σ H1 _ I1 q1) fun u s2 ⟨x, H2, I2, rx, kvs, kd, a, b, xs, k, g, q2⟩ => ?_
  obtain rfl : u = Value.ref a := by rw [g.x] at rx; exact rx
  obtain rfl : iv = Value.ref b := by rw [g.y] at ry; exact ry
  exact g.in hu I2 fun s3 I3 => ⟨.bl (look kvs kd).isSome, H2, I3, rfl, by rw [Bool.false_xor] at q2; exact q2⟩
theorem px_get1 (hu : X.A.units + 64 < cLine) (ho : PE X o td) (he : PE X e ty) (m : M1 X o "get" apos e cpos) : PE X (.Call (.Attribute o "get" apos) [e] [] cpos) (tXGet1 X.K td ty) := by
  refine ⟨fun pins s σ H Q I h => ?_⟩
  refine wpAny_Call_method m.base m.few m.line PySem.F.plainAttrs_dict PySem.F.slot_dict_get PySem.F.type_dict_get (thn (ho.run pins s σ H _ I h) fun u s1 ⟨x, H1, I1, rx, ⟨a, xs, ex, d⟩, q1⟩ => ?_)
  subst ex
  obtain rfl : u = Value.ref a := rx
  obtain ⟨t1, t2⟩ := dct_type I1 d
  refine ⟨t1, t2, ?_⟩
  rw [m.trees]
  refine Calls.callWith_builtin rfl (Calls.evalArgs_plain (Calls.spliced_cons (thn (he.run pins s1 σ H1 _ I1 q1) fun iv s2 ⟨y, H2, I2, ry, F, kvs, kd, a2, b, xs2, k, sF, g, q2⟩ => Calls.spliced_nil ?_)))
  obtain rfl : a = a2 := by have := g.x; cases this; rfl
  obtain rfl : iv = Value.ref b := by rw [g.y] at ry; exact ry
  exact KAt.get1 hu sF g I2 fun u v s3 I3 r d => ⟨v, H2, I3, r, q2 v d⟩
theorem px_get2 (hu : X.A.units + 64 < cLine) (ho : PE X o td) (he : PE X e ty) (hf : PE X f tz) (m : M2 X o "get" apos e f cpos) : PE X (.Call (.Attribute o "get" apos) [e, f] [] cpos) (tXGet2 X.K td ty tz) := by
  refine ⟨fun pins s σ H Q I h => ?_⟩
  refine wpAny_Call_method m.base m.few m.line PySem.F.plainAttrs_dict PySem.F.slot_dict_get PySem.F.type_dict_get (thn (ho.run pins s σ H _ I h) fun u s1 ⟨x, H1, I1, rx, ⟨a, xs, ex, d⟩, q1⟩ => ?_)
  subst ex
  obtain rfl : u = Value.ref a := rx
  obtain ⟨t1, t2⟩ := dct_type I1 d
  refine ⟨t1, t2, ?_⟩
  rw [m.trees]
  refine Calls.callWith_builtin rfl (Calls.evalArgs_plain (Calls.spliced_cons (thn (he.run pins s1 σ H1 _ I1 q1) fun iv s2 ⟨y, H2, I2, ry, q2⟩ =>
    Calls.spliced_cons (thn (hf.run pins s2 σ H2 _ I2 q2) fun fv s3 ⟨z, H3, I3, rz, F, kvs, kd, a2, b, xs2, k, zd, sF, g, dz, q3⟩ => Calls.spliced_nil ?_))))
  obtain rfl : a = a2 := by have := g.x; cases this; rfl
  obtain rfl : iv = Value.ref b := by rw [g.y] at ry; exact ry
  exact KAt.get2 hu sF g I3 rz dz fun u v s4 I4 r d => ⟨v, H3, I4, r, q3 v d⟩
end

/-! ### as data -/
section
variable {X : Cx} {o i e f : Expr} {pos apos cpos : Pos} {fo fi ff : We}
/-- d[k] -/
def dIxD (fo fi : We) : We := fun ρ Q E => fo ρ (fun d ρ1 => fi ρ1 (fun k ρ2 => ∃ kvs, d = .dct kvs ∧ (D.nk k).isSome = true ∧ ∃ v, look kvs k = some v ∧ Q v ρ2) E) E
/-- k in d -/
def dInD (neg : Bool) (fi fo : We) : We := fun ρ Q E => fi ρ (fun k ρ1 => fo ρ1 (fun d ρ2 => ∃ kvs, d = .dct kvs ∧ (D.nk k).isSome = true ∧ Q (.bl (xor neg (look kvs k).isSome)) ρ2) E) E
def dGet1 (fo fi : We) : We := fun ρ Q E => fo ρ (fun d ρ1 => ∃ kvs, d = .dct kvs ∧ fi ρ1 (fun k ρ2 => (D.nk k).isSome = true ∧ Q ((look kvs k).getD .non) ρ2) E) E
def dGet2 (fo fi ff : We) : We := fun ρ Q E => fo ρ (fun d ρ1 => ∃ kvs, d = .dct kvs ∧ fi ρ1 (fun k ρ2 => ff ρ2 (fun z ρ3 => (D.nk k).isSome = true ∧ Q ((look kvs k).getD z) ρ3) E) E) E
theorem dct_ref {K : PySem.W.Frag} {F H : Hp} {v : V} {kvs : List (D × D)} (s : Same F H) (h : Dv K F v (.dct kvs)) : ∃ a xs, v = .ref a ∧ ∃ o, H a = some (.frz o (dctO a xs)) := by
  cases h with
  | dct h p => exact ⟨_, _, rfl, _, s _ _ h⟩
theorem de_dix (hu : X.A.units + 64 < cLine) (ho : DE X o fo) (hi : DE X i fi) (hs : NoSl i := by intro _ _; rfl) : DE X (.Subscript o i pos) (dIxD fo fi) := by
  refine ⟨fun ρ Q Q' E E' hQ hE hw => ho.mono ρ _ _ _ _ (fun d ρ1 h1 => hi.mono ρ1 _ _ _ _ (fun k ρ2 ⟨kvs, e1, e2, v, l, q⟩ => ⟨kvs, e1, e2, v, l, hQ _ _ q⟩) hE h1) hE hw, fun W tk => ?_⟩
  obtain ⟨t1, p1, k1⟩ := ho.run W tk
  obtain ⟨t2, p2, k2⟩ := hi.run W tk
  refine ⟨_, px_get hu p1 p2 hs, fun R F σ H ρ Q r hw => k1 R F σ H ρ _ r (ho.mono _ _ _ _ _ (fun d ρ1 h1 F1 H1 v s1 r1 dv => ?_) (fun _ _ z => z) hw)⟩
  refine k2 R F1 σ H1 ρ1 _ r1 (hi.mono _ _ _ _ _ (fun k ρ2 ⟨kvs, e1, e2, vd, l, q⟩ F2 H2 v2 s2 r2 dk => ?_) (upX.mono s1) h1)
  subst e1
  obtain ⟨kk, ek⟩ := Option.isSome_iff_exists.mp e2
  obtain ⟨a, b, xs, g⟩ := kat_of (dv.mono s2) dk ek
  exact ⟨F2, kvs, k, a, b, xs, kk, vd, r2.sF, g, l, fun v dv3 => q F2 H2 v (s1.trans s2) r2 dv3⟩
theorem de_din (neg : Bool) {op : CmpOp} (hp : ∀ {ty td : TE}, PE X i ty → PE X o td → PC X op i o (tXIn neg X.K ty td)) (hi : DE X i fi) (ho : DE X o fo) : ∀ (W : WX), Takes X W → ∃ t, PC X op i o t ∧ ∀ R F σ H ρ (Q : VK), Rel X.K R F ρ σ H → dInD neg fi fo ρ (upE X.K R F σ Q) (upX X.K R F σ W) → t σ H Q := fun W tk => by
  obtain ⟨t1, p1, k1⟩ := hi.run W tk
  obtain ⟨t2, p2, k2⟩ := ho.run W tk
  refine ⟨_, hp p1 p2, fun R F σ H ρ Q r hw => k1 R F σ H ρ _ r (hi.mono _ _ _ _ _ (fun k ρ1 h1 F1 H1 v s1 r1 dk => ?_) (fun _ _ z => z) hw)⟩
  refine k2 R F1 σ H1 ρ1 _ r1 (ho.mono _ _ _ _ _ (fun d ρ2 ⟨kvs, e1, e2, q⟩ F2 H2 v2 s2 r2 dv => ?_) (upX.mono s1) h1)
  subst e1
  obtain ⟨kk, ek⟩ := Option.isSome_iff_exists.mp e2
  obtain ⟨a, b, xs, g⟩ := kat_of dv (dk.mono s2) ek
  exact ⟨kvs, k, a, b, xs, kk, g.mono r2.sF, q F2 H2 _ (s1.trans s2) r2 (.bl _)⟩
theorem dInD_mono {neg : Bool} (hi : DE X i fi) (ho : DE X o fo) : MonoE (dInD neg fi fo) := fun ρ Q Q' E E' hQ hE hw => hi.mono ρ _ _ _ _ (fun d ρ1 h1 => ho.mono ρ1 _ _ _ _ (fun k ρ2 ⟨kvs, e1, e2, q⟩ => ⟨kvs, e1, e2, hQ _ _ q⟩) hE h1) hE hw
theorem de_get1 (hu : X.A.units + 64 < cLine) (ho : DE X o fo) (hi : DE X e fi) (m : M1 X o "get" apos e cpos) : DE X (.Call (.Attribute o "get" apos) [e] [] cpos) (dGet1 fo fi) := by
  refine ⟨fun ρ Q Q' E E' hQ hE hw => ho.mono ρ _ _ _ _ (fun d ρ1 ⟨kvs, e1, h1⟩ => ⟨kvs, e1, hi.mono ρ1 _ _ _ _ (fun k ρ2 ⟨e2, q⟩ => ⟨e2, hQ _ _ q⟩) hE h1⟩) hE hw, fun W tk => ?_⟩
  obtain ⟨t1, p1, k1⟩ := ho.run W tk
  obtain ⟨t2, p2, k2⟩ := hi.run W tk
  refine ⟨_, px_get1 hu p1 p2 m, fun R F σ H ρ Q r hw => k1 R F σ H ρ _ r (ho.mono _ _ _ _ _ (fun d ρ1 ⟨kvs, e1, h1⟩ F1 H1 v s1 r1 dv => ?_) (fun _ _ z => z) hw)⟩
  subst e1
  obtain ⟨a0, xs0, x0, d0⟩ := dct_ref r1.sF dv
  refine ⟨⟨a0, xs0, x0, d0⟩, k2 R F1 σ H1 ρ1 _ r1 (hi.mono _ _ _ _ _ (fun k ρ2 ⟨e2, q⟩ F2 H2 v2 s2 r2 dk => ?_) (upX.mono s1) h1)⟩
  obtain ⟨kk, ek⟩ := Option.isSome_iff_exists.mp e2
  obtain ⟨a, b, xs, g⟩ := kat_of (dv.mono s2) dk ek
  exact ⟨F2, kvs, k, a, b, xs, kk, r2.sF, g, fun v dv3 => q F2 H2 v (s1.trans s2) r2 dv3⟩
theorem de_get2 (hu : X.A.units + 64 < cLine) (ho : DE X o fo) (hi : DE X e fi) (hf : DE X f ff) (m : M2 X o "get" apos e f cpos) : DE X (.Call (.Attribute o "get" apos) [e, f] [] cpos) (dGet2 fo fi ff) := by
  refine ⟨fun ρ Q Q' E E' hQ hE hw => ho.mono ρ _ _ _ _ (fun d ρ1 ⟨kvs, e1, h1⟩ => ⟨kvs, e1, hi.mono ρ1 _ _ _ _ (fun k ρ2 h2 => hf.mono ρ2 _ _ _ _ (fun z ρ3 ⟨e2, q⟩ => ⟨e2, hQ _ _ q⟩) hE h2) hE h1⟩) hE hw, fun W tk => ?_⟩
  obtain ⟨t1, p1, k1⟩ := ho.run W tk
  obtain ⟨t2, p2, k2⟩ := hi.run W tk
  obtain ⟨t3, p3, k3⟩ := hf.run W tk
  refine ⟨_, px_get2 hu p1 p2 p3 m, fun R F σ H ρ Q r hw => k1 R F σ H ρ _ r (ho.mono _ _ _ _ _ (fun d ρ1 ⟨kvs, e1, h1⟩ F1 H1 v s1 r1 dv => ?_) (fun _ _ z => z) hw)⟩
  subst e1
  obtain ⟨a0, xs0, x0, d0⟩ := dct_ref r1.sF dv
  refine ⟨⟨a0, xs0, x0, d0⟩, k2 R F1 σ H1 ρ1 _ r1 (hi.mono _ _ _ _ _ (fun k ρ2 h2 F2 H2 v2 s2 r2 dk => ?_) (upX.mono s1) h1)⟩
  have s12 := s1.trans s2
  refine k3 R F2 σ H2 ρ2 _ r2 (hf.mono _ _ _ _ _ (fun z ρ3 ⟨e2, q⟩ F3 H3 v3 s3 r3 dz => ?_) (upX.mono s12) h2)
  obtain ⟨kk, ek⟩ := Option.isSome_iff_exists.mp e2
  obtain ⟨a, b, xs, g⟩ := kat_of (dv.mono (s2.trans s3)) (dk.mono s3) ek
  exact ⟨F3, kvs, k, a, b, xs, kk, z, r3.sF, g, dz, fun v dv3 => q F3 H3 v (s12.trans s3) r3 dv3⟩
end
section
variable {X : Cx} {o i e : Expr} {pos : Pos} {fo fi : We}
theorem de_inD {neg : Bool} {op : CmpOp} (hp : ∀ {ty td : TE}, PE X i ty → PE X o td → PC X op i o (tXIn neg X.K ty td)) (hi : DE X i fi) (ho : DE X o fo) (hm : behindInMarks op o = false) : DE X (.Compare i [op] [o] pos) (dInD neg fi fo) :=
  ⟨dInD_mono hi ho, fun W tk => let ⟨t, p, k⟩ := de_din neg hp hi ho W tk; ⟨t, pe_cmp p hm, k⟩⟩
end

/-! ### len(d), list(d), a walk over d -/
section
variable {X : Cx}
end
def gLenK : GA
  | [.dct kvs], Q => Q (.int kvs.length)
  | _, _ => False
section
variable {X : Cx}
/-- list(d) -/
def nLstK (f : We) : Wa := fun ρ Q E => f ρ (fun d ρ1 => ∃ kvs, d = .dct kvs ∧ Q (kvs.map (·.1)) ρ1) E
end
/-- the keys of the dict at d -/
def ItX (K : PySem.W.Frag) (d : Addr) (o : Obj) (es : List (NestedKey × Addr × Value)) : It :=
  ⟨fun i H => H d = some (.frz o (dctO d es)) ∧ i < es.length, fun i H x H' => H' = H ∧ ∃ en, es[i]? = some en ∧ x = .ref en.2.1, fun i H => H d = some (.frz o (dctO d es)) ∧ es.length ≤ i⟩
section
variable {X : Cx}
theorem frzX {pins : List (Addr × Obj)} {σ : L2.St} {H : Hp} {s : Shared} {d : Addr} {o : Obj} {ks : List (NestedKey × Addr × Value)} (I : Inv X pins σ H s) (h : H d = some (.frz o (dctO d ks))) :
    (d == sysModules) = false ∧ s.heap.get? d = some o ∧ o.ExactDict ∧ ∃ (es : Array DictEntry) (ep : Nat), o.data = .dict es ep ∧ es.size = ks.length ∧
      ∀ (i : Nat) x, ks[i]? = some x → ∃ en : DictEntry, es[i]? = some en ∧ en.key = .ref x.2.1 := by
  obtain ⟨hd, ⟨hs, hz, w, o', es, ep, ho, hx, hdt, he, _⟩, _⟩ := (show ObjOk X.prog X.w H s.heap d (.frz o (.ext (DctAt d ks))) from I.hok d _ h)
  rw [hd] at ho
  cases ho
  refine ⟨hs, hd, hx, es, ep, hdt, by rw [← Array.length_toList, he, List.length_map], fun i x e => ?_⟩
  refine ⟨⟨x.1.hash w, .ref x.2.1, x.2.2⟩, ?_, rfl⟩
  rw [← Array.getElem?_toList, he, List.getElem?_map, e]; rfl
theorem turn_X {P : Program} {w : World} {K : PySem.W.Frag} {tg : Expr} {d : Addr} {o : Obj} {es : Array DictEntry} {ep : Nat} {ks : List (NestedKey × Addr × Value)} (it : Addr) (hod : o.data = .dict es ep) : Turn P w K tg (ItX K d o ks) [it] it (fun i h => h.IsKeyIter it d i ks.length ep) where
  mem := by simp
  obj := fun i h st b hb => by
    have e : b = it := by simpa using hb
    subst e
    obtain ⟨oi, e, c, dd⟩ := st
    exact ⟨oi, e, fun v z => by rw [dd] at z; cases z⟩
  keep := fun i h h' st k => st.at fun oi e => k it (by simp) oi e
  item := by
    intro X hP hw hK hc i pins s σ H E I hf st hg
    subst hP hw hK
    obtain ⟨hd, hi⟩ := hg
    obtain ⟨f0, f1, f2, f3, f4, f5⟩ := hf it (by simp)
    obtain ⟨hs, hgd, hx, es', ep', hdt, hsz, ent⟩ := frzX I hd
    obtain ⟨rfl, rfl⟩ := dict_ep hod hdt
    obtain ⟨x, hx2⟩ : ∃ x, ks[i]? = some x := ⟨ks[i], List.getElem?_eq_getElem hi⟩
    obtain ⟨en, hen, hkey⟩ := ent i x hx2
    refine next_key_item st hgd hdt hsz hen fun h' st' sb => ?_
    have I1 : Inv X pins σ H { s with heap := h' } := I.turned (t' := s.toks) (fun b ob hb e => (sb.2 b hb).trans e) f0 f1 f3 f4 f5
    obtain ⟨oi, e, c, dd⟩ := id st'
    exact ⟨en.key, rfl, go_of (s := { s with heap := h' }) e c dd (by decide) ⟨.ref x.2.1, H, I1, hkey, ⟨rfl, x, hx2, rfl⟩, st', fun b hb => (hf b hb).1⟩⟩
  done := by
    intro X hP hw hK hc i pins s σ H E I hf st hg
    subst hP hw hK
    obtain ⟨hd, hi⟩ := hg
    obtain ⟨f0, f1, f2, f3, f4, f5⟩ := hf it (by simp)
    obtain ⟨hs, hgd, hx, es', ep', hdt, hsz, ent⟩ := frzX I hd
    obtain ⟨rfl, rfl⟩ := dict_ep hod hdt
    exact next_key_end (I.ok.hd hc) st hgd hdt hsz hi fun h' eb => ⟨rfl, I.turned (t' := s.toks) (fun b ob hb e => eb b ob hb e) f0 f1 f3 f4 f5⟩
  self := fun A i s Q E st h => by
    refine wpAny_pyIter_slot st.typeIs PySem.F.slot_dict_keyiterator_iter (wpAny_call_entry PySem.F.slot_dict_keyiterator_iter st.typeIs PySem.F.entry_dict_keyiterator_iter ?_ (PySem.F.args_dict_keyiterator_iter_1 _))
    show wpAny _ _ (ret (.ref it)) _ _ s
    exact wpAny_pure ⟨_, rfl, "dict_keyiterator", _, st.typeIs, PySem.F.slot_dict_keyiterator_next.lookup, h⟩
def iXKeys (K : PySem.W.Frag) (td : TE) : TI := fun σ H R => td σ H fun x H1 => ∃ d o ks, x = .ref d ∧ H1 d = some (.frz o (dctO d ks)) ∧ R (ItX K d o ks) H1
theorem pi_X {tg e : Expr} {td : TE} (he : PE X e td) : PI X tg e (iXKeys X.K td) := by
  refine ⟨fun pins s σ H R I h => ?_⟩
  refine thn (he.run pins s σ H _ I h) fun u s1 ⟨x, H1, I1, rx, d, o, ks, ex, hd, q⟩ => ?_
  subst ex
  obtain rfl : u = Value.ref d := rx
  obtain ⟨hs, hgd, hx, es, ep, hdt, hsz, ent⟩ := frzX I1 hd
  refine iter_keys hs hgd hx hdt (pi_one (tk := s1.toks) I1 _ (turn_X _ hdt) ⟨_, Heap.get?_push_size _ rfl, rfl, ?_⟩ q)
  rw [hsz] <;> rfl
theorem yields_X {K : PySem.W.Frag} {R0 : Hp} {a : Addr} {F : Hp} {o : Obj} {xs : List (NestedKey × Addr × Value)} {kvs : List (D × D)} (hq : F a = some (.frz o (dctO a xs))) (p : DvP K F xs kvs) : Yields K (ItX K a o xs) R0 F (kvs.map (·.1)) := fun i R F1 ρ σ H _ s r => by
  have hH := r.sF _ _ (s _ _ hq)
  have hl := p.length
  refine ⟨fun h => ⟨hH, by rw [List.length_map] at h; omega⟩, fun d e => ?_⟩
  have hi : i < kvs.length := by
    have := (List.getElem?_eq_some_iff.mp e).1
    simpa using this
  refine ⟨⟨hH, by omega⟩, fun x H' ⟨eH, en, e1, e2⟩ => ?_⟩
  subst eH
  obtain ⟨v, h1, h2⟩ := p.keys.get e
  rw [List.getElem?_map, e1] at h1
  cases h1
  subst e2
  exact ⟨F1, Same.refl F1, r, h2.mono s⟩
/-- for k in d -/
def iKeysD (f : We) : Wa := fun ρ Q E => f ρ (fun d ρ1 => ∃ kvs, d = .dct kvs ∧ Q (kvs.map (·.1)) ρ1) E
theorem di_keys {tg l : Expr} {f : We} (h : DE X l f) : DI X tg l (iKeysD f) := by
  refine ⟨fun ρ Q Q' E E' hQ hE hw => h.mono ρ _ _ _ _ (fun d ρ1 ⟨ds, e, q⟩ => ⟨ds, e, hQ _ _ q⟩) hE hw, fun W tk => ?_⟩
  obtain ⟨t, p, k⟩ := h.run W tk
  refine ⟨_, pi_X p, fun R F σ H ρ Q r hw => k R F σ H ρ _ r (h.mono _ _ _ _ _ (fun d ρ1 ⟨kvs, e, q⟩ F1 H1 v s1 r1 dv => ?_) (fun _ _ z => z) hw)⟩
  subst e
  cases dv with
  | dct hq hp => exact ⟨_, _, _, rfl, r1.sF _ _ hq, q F1 H1 _ s1 r1 (yields_X hq hp)⟩
end

/-! ### {k: v for .. in ..} -/
section
variable {X : Cx}
def tDcX (K : PySem.W.Frag) (wi : TI) (g : TG) (tt : TT) (tk tv : TE) (vs : List Nat) : TE := fun σ H Q => wi σ H fun J H1 => ∀ Dd, H1 Dd = none → ∃ W : Nat → Nat → Hp → Prop, (∃ m, W 0 m (upd H1 Dd (dctO Dd []))) ∧ ∀ i m H, W i m H →
  (J.stop i H ∧ ∃ xs, H Dd = some (dctO Dd xs) ∧ ∀ od, Q (.ref Dd) (upd H Dd (.frz od (dctO Dd xs)))) ∨ (J.go i H ∧ ∃ Nx : Hp → Prop, (∀ H', Nx H' → ∃ m', m' < m ∧ W (i + 1) m' H') ∧ ∀ x H', J.yld i H x H' → g x (L2.wipe σ vs) H' fun σ2 H2 => L2.wipe σ2 vs = L2.wipe σ vs ∧ tt σ2 H2 fun b H3 =>
    if b = true then tk σ2 H3 fun y H4 => tv σ2 H4 fun z H5 => ∃ xs kvs kd k b, y = .ref b ∧ H5 Dd = some (dctO Dd xs) ∧ xs.length < sizeLine ∧ DvP K H5 xs kvs ∧ D.nk kd = some k ∧ Dv K H5 (.ref b) kd ∧ ∀ r, RelV z r → Nx (upd H5 Dd (dctO Dd (storedH xs k b r))) else Nx H3)
theorem dcX_core {pins : List (Addr × Obj)} {s : Shared} {σ : L2.St} {H : Hp} {Q : VK} {kx vx tg iter : Expr} {ifs : List Expr} {scope : Scope} {own : List (Str × Nat)} {pos pos' : Pos} {wi : TI} {g : TG} {tt : TT} {tk tv : TE} {use : Option (Value → Sem Unit)} {Qf : Value → Shared → Prop}
    (hu : X.A.units + 64 < cLine) (hc : X.calm = true) (hN : X.N.Nodup) (I : Inv X pins σ H s) (hi : PI X tg iter wi) (ok : BlkOk X.N X.env.scope scope own)
    (hg : ∀ (s : Shared) (H : Hp) (C : Addr) (cl : List (Str × Addr)) (fp : List Addr), PG (X.blk s H scope (compEnvC scope cl C X.env) fp) tg g) (ht : ∀ (s : Shared) (H : Hp) (C : Addr) (cl : List (Str × Addr)) (fp : List Addr), PTs (X.blk s H scope (compEnvC scope cl C X.env) fp) ifs tt)
    (hk : ∀ (s : Shared) (H : Hp) (C : Addr) (cl : List (Str × Addr)) (fp : List Addr), PE (X.blk s H scope (compEnvC scope cl C X.env) fp) kx tk)
    (he : ∀ (s : Shared) (H : Hp) (C : Addr) (cl : List (Str × Addr)) (fp : List Addr), PE (X.blk s H scope (compEnvC scope cl C X.env) fp) vx tv) (hs : ∀ x, foldedSetIterable iter X.env x = pure x)
    (h : tDcX X.K wi g tt tk tv (own.map (·.2)) σ H Q)
    (hRR : ∀ D C s' m H', Inv X pins σ H' s' → (∃ xs, H' D = some (dctO D xs) ∧ ∀ od, Q (.ref D) (upd H' D (.frz od (dctO D xs)))) → s'.heap.Ns C m → FpOk X pins H' C → compPost (model X.prog X.w) X.A X.xe use Qf (.ref D) C (.ok .next) s') :
    wpAny (model X.prog X.w) X.A (comprehension (.DictComp kx vx [⟨tg, iter, ifs, 0⟩] scope pos) scope X.env pos' newDict false (eval iter X.env) use) Qf X.xe s := by
  have hfree : ∀ y ∈ scope.names, y.2 = .free → ∃ c, X.env.cells.lookup y.1 = some c := fun y hy e => by
    rcases ok.free y hy e with k | k
    · exact I.ok.has _ (.inl k)
    · exact I.ok.has _ (.inr k)
  refine wpAny_comprehension_free (use := use) rfl hs (closure_ok hfree) ok.kind (fun y hy e => by rw [ok.uniq y hy, e])
    (thn (hi.run pins s σ H _ I h) fun xv s1 hx => thn hx fun itv s2 h2 => ?_)
  obtain ⟨it, fp, tn, J, H2, e, I2, T, st2, f2, q⟩ := h2
  subst e
  refine wpAny_newObj_type (newEnv_comp ?_)
  generalize hD : s2.heap.objs.size = D
  have hDn : H2 D = none := I2.hok.fresh (Nat.le_of_eq hD)
  obtain ⟨W, ⟨m0, w0⟩, turn⟩ := q D hDn
  generalize hs3 : ({ s2 with heap := s2.heap.push { cls := .type "dict", data := .dict #[] } } : Shared) = s3
  have I3 : Inv X pins σ (upd H2 D (dctO D [])) s3 := by
    rw [← hs3]
    refine I2.laid (t' := s2.toks) (fun b o e => Heap.get?_push_of_some _ e) (Nat.le_of_eq hD) ?_
    rw [← hD]
    exact dct_empty s2.heap I2.big
  have h3 : s3.heap = s2.heap.push { cls := .type "dict", data := .dict #[] } := by rw [← hs3]
  have sz : ∀ b ∈ fp, b < s2.heap.objs.size := fun b hb => by
    obtain ⟨o, e, _⟩ := T.obj _ _ st2 b hb
    exact Heap.lt_size e
  have f3 : ∀ b ∈ fp, FpOk X pins (upd H2 D (dctO D [])) b ∧ b < s3.heap.objs.size := fun b hb => by
    have hlt := sz b hb
    refine ⟨⟨?_, (f2 b hb).2⟩, by rw [h3, Heap.size_push]; exact Nat.lt_succ_of_lt hlt⟩
    rw [upd_ne (by rw [← hD]; exact Nat.ne_of_lt hlt)]
    exact (f2 b hb).1
  have st3 : tn 0 s3.heap := T.keep _ _ _ st2 fun b _ o e => by rw [h3]; exact Heap.get?_push_of_some _ e
  have I4 := block_start I3 ok hN f3
  have pg := hg s3 (upd H2 D (dctO D [])) s3.heap.objs.size (cellsFrom (s3.heap.objs.size + 1) scope.names (cloFrom X.env.cells scope.names [])) fp
  have pt := ht s3 (upd H2 D (dctO D [])) s3.heap.objs.size (cellsFrom (s3.heap.objs.size + 1) scope.names (cloFrom X.env.cells scope.names [])) fp
  have pk := hk s3 (upd H2 D (dctO D [])) s3.heap.objs.size (cellsFrom (s3.heap.objs.size + 1) scope.names (cloFrom X.env.cells scope.names [])) fp
  have pe := he s3 (upd H2 D (dctO D [])) s3.heap.objs.size (cellsFrom (s3.heap.objs.size + 1) scope.names (cloFrom X.env.cells scope.names [])) fp
  show codeAny _ _ (.compStart (.DictComp kx vx [⟨tg, iter, ifs, 0⟩] scope pos) 0 (.ref it) (.ref D) (compEnvC scope (cellsFrom (s3.heap.objs.size + 1) scope.names (cloFrom X.env.cells scope.names [])) s3.heap.objs.size X.env)) (compPost (model X.prog X.w) X.A X.xe use Qf (.ref D) s3.heap.objs.size) { s3 with heap := pushCells (s3.heap.push { cls := .type "dict", data := .dict #[] }) scope.names }
  have nfp : ∀ b ∈ fp, (upd H2 D (dctO D [])) b = none := fun b hb => (f3 b hb).1.1
  generalize hce : compEnvC scope (cellsFrom (s3.heap.objs.size + 1) scope.names (cloFrom X.env.cells scope.names [])) s3.heap.objs.size X.env = ce at I4 pg pt pk pe ⊢
  have cL : ce.locals = s3.heap.objs.size := by subst hce; rfl
  generalize hH3 : upd H2 D (dctO D []) = H3 at I3 I4 pg pt pk pe w0 nfp f3
  generalize hs4 : ({ s3 with heap := pushCells (s3.heap.push { cls := .type "dict", data := .dict #[] }) scope.names } : Shared) = s4 at I4 ⊢
  have st4 : tn 0 s4.heap := T.keep _ _ _ st3 fun b _ o e => by rw [← hs4]; exact pushCells_keeps _ _ _ _ (Heap.get?_push_of_some _ e)
  have stat : ∀ {σ' : L2.St} {H' : Hp} {s' : Shared}, Inv (X.blk s3 H3 scope ce fp) [] σ' H' s' → (∀ b ∈ fp, H' b = none) → ∀ b ∈ fp, FpOk (X.blk s3 H3 scope ce fp) [] H' b := fun {σ' H' s'} I' hn b hb =>
    ⟨hn b hb, (I'.ok.exf b hb).1, I'.ok.exfs b hb, .inl hb, fun x c e => (I'.ok.exf b hb).2 x c e, fun p hp => absurd (show p ∈ ([] : List (Addr × Obj)) ++ [] from hp) (by simp)⟩
  have loop : codeAny (model X.prog X.w) X.A (.compLoop (.DictComp kx vx [⟨tg, iter, ifs, 0⟩] scope pos) 0 (.ref it) (.ref D) ce) (compPost (model X.prog X.w) X.A X.xe use Qf (.ref D) s3.heap.objs.size) s4 := by
    refine compLoop_anyD (fun n s' => ∃ i H', Inv (X.blk s3 H3 scope ce fp) [] (L2.wipe σ (own.map (·.2))) H' s' ∧ tn i s'.heap ∧ (∀ b ∈ fp, H' b = none) ∧ W i n H') ?_ m0 ⟨0, H3, I4, st4, nfp, w0⟩
    rintro n s5 ⟨i, H5, I5, st5, n5, w5⟩
    rcases turn i n H5 w5 with ⟨stop, qq⟩ | ⟨go, Nx, hNx, step⟩
    · have td := T.done (X.blk s3 H3 scope ce fp) rfl rfl rfl hc i [] s5 _ H5 (fun _ _ => False) I5 (stat I5 n5) st5 stop
      refine thnF td fun r s6 ⟨hr, I6⟩ => ?_
      subst hr
      have I7 : Inv X pins σ H5 s6 := I3.call' (ch := fp) I6.os I6.base I6.hok I6.bare fun b hb => ⟨(f3 b hb).1.2.2.2.1, (f3 b hb).1.2.1, (f3 b hb).1.2.2.2.2.1, (f3 b hb).1.2.2.2.2.2⟩
      have nC : H5 s3.heap.objs.size = none := by
        have z : H5 ce.locals = none := I6.free
        rw [cL] at z
        exact z
      obtain ⟨m, hn, _⟩ := I6.loc
      have hn : s6.heap.Ns ce.locals m := hn
      rw [cL] at hn
      exact hRR D s3.heap.objs.size s6 m H5 I7 qq hn (I3.fpOk (Nat.le_refl _) nC)
    · have ti := T.item (X.blk s3 H3 scope ce fp) rfl rfl rfl hc i [] s5 _ H5 (fun _ _ => False) I5 (stat I5 n5) st5 go
      refine thnF ti fun r s6 ⟨u, hr, h6⟩ => ?_
      subst hr
      refine thnF h6 fun _ s7 ⟨x, H7, I7, r7, y7, st7, n7⟩ => ?_
      have I7' := I7.pinned (stat I7 n7) (T.obj _ _ st7)
      refine thnF (pg.run _ s7 _ H7 x u _ I7' r7 (step x H7 y7)) fun _ s8 ⟨σ8, H8, I8, hw8, q8⟩ => ?_
      refine thnF (pt.run _ s8 σ8 H8 _ I8 q8) fun b s9 ⟨H9, I9, q9⟩ => ?_
      have fin : ∀ {s' : Shared} {H' : Hp}, Inv (X.blk s3 H3 scope ce fp) ([] ++ pinsAt fp s7.heap) σ8 H' s' → Nx H' → ∃ m, m < n ∧ ∃ i H', Inv (X.blk s3 H3 scope ce fp) [] (L2.wipe σ (own.map (·.2))) H' s' ∧ tn i s'.heap ∧ (∀ b ∈ fp, H' b = none) ∧ W i m H' := fun {s' H'} I' nx => by
        obtain ⟨m', hm, w'⟩ := hNx H' nx
        have pin' : ∀ b ∈ fp, ∀ o, s7.heap.get? b = some o → s'.heap.get? b = some o ∧ H' b = none := fun b hb o e =>
          let z := I'.pin (b, o) (List.mem_append_right _ (List.mem_append_right _ (mem_pinsAt hb e)))
          ⟨z.1, z.2.1⟩
        have hl : (L2.wipe σ (own.map (·.2))).length = σ8.length := by rw [← hw8, wipe_length]
        refine ⟨m', hm, i + 1, H', (I'.unpinned (pins := [])).weak hl (fun j v e => ?_), T.keep _ _ _ st7 fun b hb o e => (pin' b hb o e).1, fun b hb => ?_, w'⟩
        · rw [← hw8] at e
          exact (wipe_some e).1
        · obtain ⟨o, e, _⟩ := T.obj _ _ st7 b hb
          exact (pin' b hb o e).2
      cases b with
      | false =>
        simp only [Bool.false_eq_true, if_false] at q9 ⊢
        exact fin I9 q9
      | true =>
        simp only [if_true] at q9 ⊢
        refine thnF (pk.run _ s9 σ8 H9 _ I9 q9) fun z s10 ⟨yk, H10, I10, r10, q10⟩ => ?_
        refine thnF (pe.run _ s10 σ8 H10 _ I10 q10) fun z2 s11 ⟨yv, H11, I11, r11, xs, kvs, kd, k, b, ek, hD11, hz11, p11, nk11, dk11, nx⟩ => ?_
        subst ek
        obtain rfl : z = Value.ref b := r10
        exact x_dictSet (X := X.blk s3 H3 scope ce fp) (by show X.A.units + 8 < cLine; omega) I11 hD11 p11 nk11 dk11 hz11 fun s12 I12 => fin I12 (nx _ r11)
  exact codeAny_compStart_dict loop (T.self X.A 0 _ _ _ st4 loop)
theorem px_dc {kx vx tg iter : Expr} {ifs : List Expr} {scope : Scope} {own : List (Str × Nat)} {pos : Pos} {wi : TI} {g : TG} {tt : TT} {tk tv : TE} (hu : X.A.units + 64 < cLine) (hc : X.calm = true) (hN : X.N.Nodup) (hi : PI X tg iter wi) (ok : BlkOk X.N X.env.scope scope own)
    (hg : ∀ (s : Shared) (H : Hp) (C : Addr) (cl : List (Str × Addr)) (fp : List Addr), PG (X.blk s H scope (compEnvC scope cl C X.env) fp) tg g) (ht : ∀ (s : Shared) (H : Hp) (C : Addr) (cl : List (Str × Addr)) (fp : List Addr), PTs (X.blk s H scope (compEnvC scope cl C X.env) fp) ifs tt)
    (hk : ∀ (s : Shared) (H : Hp) (C : Addr) (cl : List (Str × Addr)) (fp : List Addr), PE (X.blk s H scope (compEnvC scope cl C X.env) fp) kx tk)
    (he : ∀ (s : Shared) (H : Hp) (C : Addr) (cl : List (Str × Addr)) (fp : List Addr), PE (X.blk s H scope (compEnvC scope cl C X.env) fp) vx tv) (hs : ∀ x, foldedSetIterable iter X.env x = pure x := by intro _; rfl) :
    PE X (.DictComp kx vx [⟨tg, iter, ifs, 0⟩] scope pos) (tDcX X.K wi g tt tk tv (own.map (·.2))) := by
  refine ⟨fun pins s σ H Q I h => ?_⟩
  rw [arm_eval_DictComp]
  refine dcX_core hu hc hN I hi ok hg ht hk he hs h fun D C s' m H' I' q hn f => ⟨m, hn, fun h'' sb => ?_⟩
  obtain ⟨f0, f1, f2, f3, f4, f5⟩ := f
  obtain ⟨xs, hD, q⟩ := q
  have I2 := I'.turned (t' := s'.toks) (fun b o hb e => (sb.2 b hb).trans e) f0 f1 f3 f4 f5
  obtain ⟨od, I3⟩ := I2.lock hD True.intro
  exact ⟨.ref D, _, I3, rfl, q od⟩
end

def dcL (g : Wg) (tt : Wt) (tk tv : We) (vs : List Nat) : List D → List (D × D) → Env → (List (D × D) → Env → Prop) → Prop
  | [], acc, ρ, Q => Q acc ρ
  | d :: ds, acc, ρ, Q => g d ρ (fun ρ1 => tt ρ1 (fun b ρ2 => Ite b (tk ρ2 (fun y ρ3 => tv ρ3 (fun z ρ4 => (D.nk y).isSome = true ∧ dcL g tt tk tv vs ds (dput acc y z) (wipeE ρ4 vs) Q) noX) noX) (dcL g tt tk tv vs ds acc (wipeE ρ2 vs) Q)) noX)
def nDc (wi : Wa) (g : Wg) (tt : Wt) (tk tv : We) (vs : List Nat) : We := fun ρ Q E => wi ρ (fun ds ρ1 => ds.length ≤ sizeLine ∧ dcL g tt tk tv vs ds [] (wipeE ρ1 vs) fun acc ρ2 => Q (.dct acc) (backE ρ1 ρ2 vs)) E
theorem dcL_mono {g : Wg} {tt : Wt} {tk tv : We} {vs : List Nat} (mg : ∀ d ρ (Q Q' : Env → Prop), (∀ ρ, Q ρ → Q' ρ) → g d ρ Q → g d ρ Q') (mt : MonoT tt) (mk : MonoE tk) (me : MonoE tv) : ∀ (ds : List D) (acc : List (D × D)) ρ (Q Q' : List (D × D) → Env → Prop), (∀ a ρ, Q a ρ → Q' a ρ) → dcL g tt tk tv vs ds acc ρ Q → dcL g tt tk tv vs ds acc ρ Q'
  | [], _, _, _, _, hQ, h => hQ _ _ h
  | d :: ds, acc, ρ, Q, Q', hQ, h => mg d ρ _ _ (fun ρ1 z1 => mt ρ1 _ _ _ _ (fun b ρ2 z2 => z2.imp (fun z => mk ρ2 _ _ _ _ (fun y ρ3 z3 => me ρ3 _ _ _ _ (fun w ρ4 z4 => ⟨z4.1, dcL_mono mg mt mk me ds _ _ Q Q' hQ z4.2⟩) (fun _ _ z => z) z3) (fun _ _ z => z) z) (fun z => dcL_mono mg mt mk me ds acc _ Q Q' hQ z)) (fun _ _ z => z) z1) h
theorem nDc_mono {wi : Wa} {g : Wg} {tt : Wt} {tk tv : We} {vs : List Nat} (mi : MonoA wi) (mg : ∀ d ρ (Q Q' : Env → Prop), (∀ ρ, Q ρ → Q' ρ) → g d ρ Q → g d ρ Q') (mt : MonoT tt) (mk : MonoE tk) (me : MonoE tv) : MonoE (nDc wi g tt tk tv vs) :=
  fun ρ Q Q' E E' hQ hE hw => mi ρ _ _ _ _ (fun ds ρ1 z => ⟨z.1, dcL_mono mg mt mk me ds [] _ _ _ (fun a ρ2 z2 => hQ _ _ z2) z.2⟩) hE hw
theorem unlay_upd2 {H : Hp} {p : Addr} {o : HO} : upd (fun b => if b = p then none else H b) p o = upd H p o := by
  funext b
  unfold upd
  by_cases hb : b = p
  · rw [if_pos hb, if_pos hb]
  · rw [if_neg hb, if_neg hb]; exact if_neg hb
theorem storedH_len {K : Type} [DecidableEq K] (xs : List (K × Addr × Value)) (k : K) (b : Addr) (u : Value) : (storedH xs k b u).length ≤ xs.length + 1 := by
  unfold storedH
  split
  · rw [List.length_map]; omega
  · rw [List.length_append, List.length_singleton]; omega
theorem wipe_off {is vs : List Nat} {σ σ4 : L2.St} (o4 : Off is (L2.wipe σ vs) σ4) (hsub : ∀ i ∈ is, i ∈ vs) : L2.wipe σ4 vs = L2.wipe σ vs := by
  have ww : ∀ (ws : List Nat) (τ : L2.St), L2.wipe (L2.wipe τ ws) ws = L2.wipe τ ws := by
    intro ws
    induction ws with
    | nil => intro τ; rfl
    | cons w ws ih =>
      intro τ
      show (L2.wipe ((L2.wipe τ ws).set w none) ws).set w none = (L2.wipe τ ws).set w none
      have key : ∀ (us : List Nat) (τ : L2.St), (L2.wipe (τ.set w none) us).set w none = (L2.wipe τ us).set w none := by
        intro us
        induction us with
        | nil => intro τ; show (τ.set w none).set w none = _; rw [List.set_set]; rfl
        | cons u us ih2 =>
          intro τ
          show ((L2.wipe (τ.set w none) us).set u none).set w none = ((L2.wipe τ us).set u none).set w none
          by_cases hu : u = w
          · subst hu; rw [List.set_set, List.set_set]; exact ih2 τ
          · rw [List.set_comm _ _ hu, ih2 τ, List.set_comm _ _ (Ne.symm hu)]
      rw [key, ih τ]
  rw [o4 vs hsub, ww]
theorem dc_run {K : PySem.W.Frag} {ti : TI} {wi : Wa} {g : Wg} {is : List Nat} {tt : Wt} {tk tv : We} {vs : List Nat} {W : WX} (mi : MonoA wi) (mg : ∀ d ρ (Q Q' : Env → Prop), (∀ ρ, Q ρ → Q' ρ) → g d ρ Q → g d ρ Q') (mt : MonoT tt) (mk : MonoE tk) (me : MonoE tv)
    (hsub : ∀ i ∈ is, i ∈ vs) {R F : Hp} {σ : L2.St} {H : Hp} {ρ : Env} {Q : VK}
    (ki : ∀ (Q : It → Hp → Prop), wi ρ (fun ds ρ' => ∀ F' H' J, Same F F' → Rel K R F' ρ' σ H' → Yields K J R F' ds → Q J H') (upX K R F σ W) → ti σ H Q) (r : Rel K R F ρ σ H)
    (hw : nDc wi g tt tk tv vs ρ (upE K R F σ Q) (upX K R F σ W)) :
    tDcX K ti (canG K is g) (canT K tt fun _ _ _ _ => False) (canE K tk fun _ _ _ _ => False) (canE K tv fun _ _ _ _ => False) vs σ H Q := by
  refine ki _ (mi _ _ _ _ _ (fun ds ρ1 ⟨hz, z⟩ F1 H1 J s1 r1 hy => ?_) (fun _ _ z => z) hw)
  intro Dd hD
  have hR : R Dd = none := Same.free r1.sR hD
  obtain ⟨rf, sR⟩ := r1.frame (o := dctO Dd []) hD plain_dct
  refine ⟨fun i m H => m = ds.length - i ∧ i ≤ ds.length ∧ ∃ F' ρ acc xs, Same F1 F' ∧ DvP K F' xs acc ∧ xs.length ≤ i ∧ Rel K (upd R Dd (dctO Dd xs)) F' ρ (L2.wipe σ vs) H ∧
    dcL g tt tk tv vs (ds.drop i) acc ρ (fun kvs ρ2 => upE K R F σ Q (.dct kvs) (backE ρ1 ρ2 vs)),
    ⟨ds.length, rfl, Nat.zero_le _, F1, _, [], [], Same.refl _, .nil, Nat.le_refl _, rf.wipe vs, z⟩, ?_⟩
  rintro i m H2 ⟨rfl, hle, F2, ρ2, acc, xs, s2, ha, hal, r2, z2⟩
  obtain ⟨y1, y2⟩ := hy i (upd R Dd (dctO Dd xs)) F2 ρ2 (L2.wipe σ vs) H2 (same_upd hR) s2 r2
  by_cases hlt : i < ds.length
  · obtain ⟨d, hd⟩ : ∃ d, ds[i]? = some d := ⟨ds[i], List.getElem?_eq_getElem hlt⟩
    have hdrop : ds.drop i = d :: ds.drop (i + 1) := by
      rw [List.drop_eq_getElem_cons hlt]
      rw [List.getElem?_eq_getElem hlt] at hd
      cases hd
      rfl
    obtain ⟨hgo, y3⟩ := y2 d hd
    rw [hdrop] at z2
    refine .inr ⟨hgo, fun H' => i + 1 ≤ ds.length ∧ ∃ F' ρ acc xs, Same F1 F' ∧ DvP K F' xs acc ∧ xs.length ≤ i + 1 ∧ Rel K (upd R Dd (dctO Dd xs)) F' ρ (L2.wipe σ vs) H' ∧
      dcL g tt tk tv vs (ds.drop (i + 1)) acc ρ (fun kvs ρ2 => upE K R F σ Q (.dct kvs) (backE ρ1 ρ2 vs)),
      fun H' h => ⟨ds.length - (i + 1), by omega, rfl, h.1, h.2⟩, fun x H3 hx => ?_⟩
    obtain ⟨F3, s3, r3, dv⟩ := y3 x H3 hx
    refine ⟨_, F3, ρ2, d, r3, dv, mg _ _ _ _ (fun ρ4 z4 F4 σ4 H4 s4 r4 o4 => ?_) z2⟩
    have hoff : L2.wipe σ4 vs = L2.wipe σ vs := wipe_off o4 hsub
    refine ⟨hoff, _, F4, ρ4, r4, mt _ _ _ _ _ (fun b ρ5 z5 F5 H5 s5 r5 => ?_) noX_up z4⟩
    have s25 := s3.trans (s4.trans s5)
    refine (z5.imp (fun z => ?_) (fun z => ?_)).out
    · refine ⟨_, F5, ρ5, r5, mk _ _ _ _ _ (fun y ρ6 z6 F6 H6 v s6 r6 dy => ?_) noX_up z⟩
      refine ⟨_, F6, ρ6, r6, me _ _ _ _ _ (fun w ρ7 ⟨hk, z7⟩ F7 H7 v7 s7 r7 dw => ?_) noX_up z6⟩
      have hD7 : H7 Dd = some (dctO Dd xs) := r7.sR _ _ upd_same
      have s27 := s25.trans (s6.trans s7)
      have ha7 := ha.mono s27
      obtain ⟨kk, ek⟩ := Option.isSome_iff_exists.mp hk
      have dy7 := dy.mono s7
      obtain ⟨b, rfl⟩ := nk_ref ek dy7
      refine ⟨xs, acc, y, kk, b, rfl, hD7, by omega, ha7.mono r7.sF, ek, dy7.mono r7.sF, fun r hr => ?_⟩
      refine ⟨hlt, F7, _, dput acc y w, storedH xs kk b r, s2.trans s27, ha7.put ek dy7 hr dw, by have := storedH_len xs kk b r; omega, ?_, z7⟩
      have := (r7.wipe vs).reframe plain_dct plain_dct (o' := dctO Dd (storedH xs kk b r))
      rw [hoff] at this
      exact this
    · have := r5.wipe vs
      rw [hoff] at this
      exact ⟨hlt, F5, _, acc, xs, s2.trans s25, ha.mono s25, by omega, this, z⟩
  · have e : i = ds.length := by omega
    subst e
    rw [List.drop_length] at z2
    refine .inl ⟨y1 (Nat.le_refl _), xs, r2.sR _ _ upd_same, fun od => ?_⟩
    have r3 := Rel.back r1 s2 vs (r2.unlay hR plain_dct)
    have hn : (fun b => if b = Dd then none else H2 b) Dd = none := if_pos rfl
    obtain ⟨s4, r4⟩ := r3.alloc (o := .frz od (dctO Dd xs)) hn
    have := z2 _ _ (.ref Dd) (s1.trans (s2.trans s4)) r4 (.dct upd_same (ha.mono s4))
    rw [unlay_upd2] at this
    exact this
section
variable {X : Cx}
theorem de_dc {kx vx tg iter : Expr} {ifs : List Expr} {scope : Scope} {own : List (Str × Nat)} {pos : Pos} {wi : Wa} {g : Wg} {is : List Nat} {tt : Wt} {tk tv : We} (hu : X.A.units + 64 < cLine) (hc : X.calm = true) (hN : X.N.Nodup) (hi : DI X tg iter wi) (ok : BlkOk X.N X.env.scope scope own) (hsub : ∀ i ∈ is, i ∈ own.map (·.2))
    (hg : ∀ (s : Shared) (H : Hp) (C : Addr) (cl : List (Str × Addr)) (fp : List Addr), DG (X.blk s H scope (compEnvC scope cl C X.env) fp) tg is g) (ht : ∀ (s : Shared) (H : Hp) (C : Addr) (cl : List (Str × Addr)) (fp : List Addr), DTs (X.blk s H scope (compEnvC scope cl C X.env) fp) ifs tt)
    (hk : ∀ (s : Shared) (H : Hp) (C : Addr) (cl : List (Str × Addr)) (fp : List Addr), DE (X.blk s H scope (compEnvC scope cl C X.env) fp) kx tk)
    (he : ∀ (s : Shared) (H : Hp) (C : Addr) (cl : List (Str × Addr)) (fp : List Addr), DE (X.blk s H scope (compEnvC scope cl C X.env) fp) vx tv) (hs : ∀ x, foldedSetIterable iter X.env x = pure x := by intro _; rfl) :
    DE X (.DictComp kx vx [⟨tg, iter, ifs, 0⟩] scope pos) (nDc wi g tt tk tv (own.map (·.2))) := by
  refine ⟨nDc_mono hi.mono (hg X.s_0 X.H_0 0 [] []).mono (ht X.s_0 X.H_0 0 [] []).mono (hk X.s_0 X.H_0 0 [] []).mono (he X.s_0 X.H_0 0 [] []).mono, fun W tk0 => ?_⟩
  obtain ⟨ti, pi, ki⟩ := hi.run W tk0
  refine ⟨_, px_dc (g := canG X.K is g) (tt := canT X.K tt fun _ _ _ _ => False) (tk := canE X.K tk fun _ _ _ _ => False) (tv := canE X.K tv fun _ _ _ _ => False) hu hc hN pi ok (fun s H C cl fp => (hg s H C cl fp).can) (fun s H C cl fp => (ht s H C cl fp).can takes0) (fun s H C cl fp => (hk s H C cl fp).can takes0) (fun s H C cl fp => (he s H C cl fp).can takes0) hs, fun R F σ H ρ Q r hw => ?_⟩
  exact dc_run hi.mono (hg X.s_0 X.H_0 0 [] []).mono (ht X.s_0 X.H_0 0 [] []).mono (hk X.s_0 X.H_0 0 [] []).mono (he X.s_0 X.H_0 0 [] []).mono hsub (fun Q => ki R F σ H ρ Q r) r hw
end

/-! ### dict(xs) of a list of pairs -/
def dputs (es : List (D × D)) : List (D × D) := es.foldl (fun acc e => dput acc e.1 e.2) []
/-- the pairs at ps are es; prs: their keys and values as they stand -/
inductive PrsD (K : PySem.W.Frag) (F : Hp) : List Addr → List (D × D) → Prop
  | nil : PrsD K F [] []
  | cons {p b : Addr} {v : V} {ps : List Addr} {kd vd : D} {es : List (D × D)} {k : NestedKey} : SqT K F p [.ref b, v] → D.nk kd = some k → Dv K F (.ref b) kd → Dv K F v vd → PrsD K F ps es → PrsD K F (p :: ps) ((kd, vd) :: es)
section
variable {X : Cx}
theorem prs_of {pins : List (Addr × Obj)} {σ : L2.St} {F H : Hp} {s : Shared} (sF : Same F H) (I : Inv X pins σ H s) : ∀ {ps : List Addr} {es : List (D × D)}, PrsD X.K F ps es →
    ∃ prs : List (NestedKey × Addr × Value), DvP X.K F prs es ∧ prs.length = ps.length ∧ ∀ (j : Nat) q, prs[j]? = some q → ∃ b, ps[j]? = some b ∧ IsTup s.heap b #[.ref q.2.1, q.2.2]
  | _, _, .nil => ⟨[], .nil, rfl, fun j q e => by simp at e⟩
  | _, _, .cons (p := p) (b := b) (v := v) (kd := kd) (vd := vd) (k := k) h ek dk dv t => by
    obtain ⟨prs, r, hl, hp⟩ := prs_of sF I t
    obtain ⟨its, rv, ht, _⟩ := I.tuple (Same.seqT sF h)
    obtain ⟨u, y, ei, ru, ry⟩ := vals2 rv
    subst ei
    obtain rfl : u = Value.ref b := ru
    refine ⟨(k, b, y) :: prs, .cons ek dk ry dv r, by rw [List.length_cons, List.length_cons, hl], fun j q e => ?_⟩
    cases j with
    | zero =>
      have e' : (k, b, y) = q := Option.some.inj e
      subst e'
      exact ⟨p, rfl, ht⟩
    | succ j =>
      obtain ⟨b', e1, e2⟩ := hp j q (by simpa using e)
      exact ⟨b', by simpa using e1, e2⟩
theorem puts_of {K : PySem.W.Frag} {F : Hp} : ∀ {prs : List (NestedKey × Addr × Value)} {es : List (D × D)} {xs : List (NestedKey × Addr × Value)} {kvs : List (D × D)}, DvP K F prs es → DvP K F xs kvs → DvP K F (storedAllH xs prs) (es.foldl (fun acc e => dput acc e.1 e.2) kvs)
  | _, _, _, _, .nil, h => h
  | _, _, _, _, .cons e h r d t, hx => by have z := puts_of t (DvP.put hx e h r d); exact z
theorem call_dictX (hcalm : X.calm = true) (hu : X.A.units + 64 < cLine) : CallR X (.type "dict") (fun xs H Q => ∃ (F : Hp) (a : Addr) (ps : List Addr) (es : List (D × D)), Same F H ∧ xs = [.ref a] ∧ SqL X.K H a (ps.map V.ref) ∧ PrsD X.K F ps es ∧
    ∀ p ks od, H p = none → DvP X.K F ks (dputs es) → Q (.ref p) (upd H p (.frz od (dctO p ks)))) := by
  intro pins s σ H xs us Q I r q
  obtain ⟨F, a, ps, es, sF, ex, hq, hp, q⟩ := q
  subst ex
  obtain ⟨u, eu, rx⟩ := vals1 r
  subst eu
  cases rx
  obtain ⟨its, rv, pl, hz⟩ := I.list hq
  have ei := refs_at rv
  subst ei
  rw [List.length_map] at hz
  obtain ⟨prs, dp, hl, hpr⟩ := prs_of sF I hp
  obtain ⟨o, n, ho, hc, hd, hdat⟩ := pl
  have P := PairArg.list (prog := X.prog) (w := X.w) a (ps.map Value.ref).toArray (fun j => (ps[j]?).getD 0) (prs.map fun x => (Value.ref x.2.1, x.2.2))
  have hlen : prs.length ≤ sizeLine := by rw [hl]; exact hz
  have his : ∀ x ∈ prs, (nestedKind X.prog X.w).is s.heap x.1 x.2.1 := (dp.mono sF).kis I
  refine call_dict_pairsH (knd := nestedKind X.prog X.w) (ps := prs) P (I.ok.hd hcalm) (by show X.A.units + 1 + 1 + 8 < cLine; omega) ⟨⟨o, n, ho, hc, hd, hdat⟩, by simp [hl], fun j k v e => ?_⟩ ⟨by simp, fun i key v e => ?_⟩ (fun h' hk x hx => ?_) (by simpa using hlen) fun h' tk hd' k => ?_
  · rw [List.getElem?_map] at e
    cases ej : prs[j]? with
    | none => rw [ej] at e; cases e
    | some q2 =>
      rw [ej] at e
      cases e
      obtain ⟨b, e1, e2⟩ := hpr j q2 ej
      refine ⟨by simp [e1], .inl ?_⟩
      show s.heap.IsTuple ((ps[j]?).getD 0) _
      rw [e1]
      exact e2
  · have e' : (prs.map fun x => (Value.ref x.2.1, x.2.2))[i]? = some (key, v) := e
    rw [List.getElem?_map] at e'
    cases ej : prs[i]? with
    | none => rw [ej] at e'; cases e'
    | some q2 =>
      rw [ej] at e'
      cases e'
      exact ⟨q2.1, q2.2.1, rfl, rfl⟩
  · exact nestedKind_stays.all h' (fun b o hb e => hk b o (Nat.ne_of_lt (Heap.lt_size e)) hb e) _ _ (his x hx)
  · have hm : (s.heap.objs.size == sysModules) = false := beq_eq_false_iff_ne.mpr (Nat.ne_of_gt I.big)
    have dp2 : DvP X.K F (storedAllH [] prs) (dputs es) := puts_of dp .nil
    have hlen2 : (storedAllH [] prs).length ≤ sizeLine := by
      have : ∀ (l xs : List (NestedKey × Addr × Value)), (storedAllH xs l).length ≤ xs.length + l.length := by
        intro l
        induction l with
        | nil => intro xs; exact Nat.le_refl _
        | cons y l ih =>
          intro xs
          have h1 := ih (storedH xs y.1 y.2.1 y.2.2)
          have h2 := DL.storedH_len xs y.1 y.2.1 y.2.2
          rw [List.length_cons]
          refine Nat.le_trans h1 ?_
          omega
      have := this prs []
      rw [List.length_nil] at this
      omega
    have k' : ∀ b o, s.heap.get? b = some o → h'.get? b = some o := fun b o e => k b o (fun z => nomatch z) e
    have I1 : Inv X pins σ (upd H s.heap.objs.size (dctO s.heap.objs.size (storedAllH [] prs))) { s with heap := h', toks := tk } := I.laid (t' := tk) k' (Nat.le_refl _) (dct_ok hm hlen2 hd')
    obtain ⟨od, I2⟩ := I1.lock upd_same True.intro
    rw [upd_upd] at I2
    exact ⟨.ref s.heap.objs.size, _, I2, rfl, q _ _ od (I.hok.fresh (Nat.le_refl _)) dp2⟩
end
def gDictK : GA := fun xs Q => ∃ es : List (D × D), (xs = [.lst (es.map fun e => D.tup [e.1, e.2])]) ∧ (∀ e ∈ es, (D.nk e.1).isSome = true) ∧ Q (.dct (dputs es))
theorem prs_inv {K : PySem.W.Frag} {F : Hp} : ∀ {vs : List V} {es : List (D × D)}, DvA K F vs (es.map fun e => D.tup [e.1, e.2]) → (∀ e ∈ es, (D.nk e.1).isSome = true) → ∃ ps : List Addr, vs = ps.map V.ref ∧ PrsD K F ps es
  | _, [], h, _ => by cases h; exact ⟨[], rfl, .nil⟩
  | _, (kd, vd) :: es, h, hk => by
    cases h with
    | cons h1 h2 =>
      obtain ⟨ps, rfl, p⟩ := prs_inv h2 fun e m => hk e (List.mem_cons_of_mem _ m)
      cases h1 with
      | @tup a xs ds hq ha =>
        cases ha with
        | cons d1 ha =>
          cases ha with
          | cons d2 ha =>
            cases ha
            obtain ⟨k, ek⟩ := Option.isSome_iff_exists.mp (hk (kd, vd) List.mem_cons_self)
            obtain ⟨b, rfl⟩ := nk_ref ek d1
            exact ⟨a :: ps, rfl, .cons hq ek d1 d2 p⟩
theorem c_dictK {X : Cx} (hcalm : X.calm = true) (hu : X.A.units + 64 < cLine) : DCall X (.type "dict") gDictK := by
  refine ⟨fun x Q Q' h ⟨es, e, hk, q⟩ => ⟨es, e, hk, h _ q⟩, _, call_dictX hcalm hu, fun F H vs ds Q s d ⟨es, e, hk, q⟩ => ?_⟩
  subst e
  cases d with
  | cons d1 d2 =>
    cases d2
    cases d1 with
    | lst h a =>
      obtain ⟨ps, rfl, p⟩ := prs_inv a hk
      refine ⟨F, _, ps, es, s, rfl, SqL.of (s _ _ h), p, fun p ks od hp dp => ?_⟩
      exact q.2 p _ hp (fun _ z => by cases z) (.dct upd_same (dp.mono (same_upd (Same.free s hp))))
end DL
/-! steps for dicts -/
namespace DL
open PySem PySem.Spec PyProof.Rows L2 HT
variable [TabSet]

theorem nk_pr {a b : Int} : D.nk (.tup [.int a, .int b]) = some (.tup [.num a, .num b]) := rfl
theorem nk_pr_eq {a b c d : Int} : D.nk (.tup [.int a, .int b]) = D.nk (.tup [.int c, .int d]) ↔ a = c ∧ b = d := by
  rw [nk_pr, nk_pr]
  constructor
  · intro h
    injection h with h
    injection h with h
    injection h with h1 h2
    injection h2 with h2 _
    injection h1 with h1
    injection h2 with h2
    exact ⟨h1, h2⟩
  · rintro ⟨rfl, rfl⟩; rfl
section
variable {ρ : Env} {Q : Qn} {E : Qx}
theorem i_dix {fo fi : We} (h : fo ρ (fun d ρ1 => fi ρ1 (fun k ρ2 => ∃ kvs, d = .dct kvs ∧ (D.nk k).isSome = true ∧ ∃ v, look kvs k = some v ∧ Q v ρ2) E) E) : dIxD fo fi ρ Q E := h
theorem i_din {neg : Bool} {fo fi : We} (h : fi ρ (fun k ρ1 => fo ρ1 (fun d ρ2 => ∃ kvs, d = .dct kvs ∧ (D.nk k).isSome = true ∧ Q (.bl (xor neg (look kvs k).isSome)) ρ2) E) E) : dInD neg fi fo ρ Q E := h
theorem i_get1 {fo fi : We} (h : fo ρ (fun d ρ1 => ∃ kvs, d = .dct kvs ∧ fi ρ1 (fun k ρ2 => (D.nk k).isSome = true ∧ Q ((look kvs k).getD .non) ρ2) E) E) : dGet1 fo fi ρ Q E := h
theorem i_get2 {fo fi ff : We} (h : fo ρ (fun d ρ1 => ∃ kvs, d = .dct kvs ∧ fi ρ1 (fun k ρ2 => ff ρ2 (fun z ρ3 => (D.nk k).isSome = true ∧ Q ((look kvs k).getD z) ρ3) E) E) E) : dGet2 fo fi ff ρ Q E := h
theorem i_keysD {f : We} {QA : List D → Env → Prop} (h : f ρ (fun d ρ1 => ∃ kvs, d = .dct kvs ∧ QA (kvs.map (·.1)) ρ1) E) : iKeysD f ρ QA E := h
theorem i_lstK {f : We} {QA : List D → Env → Prop} (h : f ρ (fun d ρ1 => ∃ kvs, d = .dct kvs ∧ QA (kvs.map (·.1)) ρ1) E) : nLstK f ρ QA E := h
theorem i_lenK {kvs : List (D × D)} {P : D → Prop} (h : P (.int kvs.length)) : gLenK [.dct kvs] P := h
theorem i_dc {wi : Wa} {g : Wg} {tt : Wt} {tk tv : We} {vs : List Nat} (h : wi ρ (fun ds ρ1 => ds.length ≤ sizeLine ∧ dcL g tt tk tv vs ds [] (wipeE ρ1 vs) fun acc ρ2 => Q (.dct acc) (backE ρ1 ρ2 vs)) E) : nDc wi g tt tk tv vs ρ Q E := h
/-- what a dict is, behind its name -/
theorem is_dct {kvs : List (D × D)} {P : List (D × D) → Prop} (h : P kvs) : ∃ k2, D.dct kvs = .dct k2 ∧ P k2 := ⟨kvs, rfl, h⟩
end
theorem dcL_of {α : Type} {e kf vf : α → D} {g : Wg} {tk tv : We} {vs : List Nat} {ρ : Env} {QA : List (D × D) → Env → Prop} : ∀ {xs : List α} {acc : List (D × D)} (h : ∀ a ∈ xs, (D.nk (kf a)).isSome = true ∧ ∀ P : D → D → Env → Prop, (∀ ρ', wipeE ρ' vs = ρ → P (kf a) (vf a) ρ') → g (e a) ρ (fun ρ1 => tk ρ1 (fun y ρ3 => tv ρ3 (fun z ρ4 => P y z ρ4) noX) noX)) (q : QA (xs.foldl (fun acc a => dput acc (kf a) (vf a)) acc) ρ), dcL g tAll tk tv vs (xs.map e) acc ρ QA
  | [], acc, _, q => q
  | x :: xs, acc, h, q => by
    obtain ⟨hk, h1⟩ := h x List.mem_cons_self
    have h2 := h1 (fun y z ρ4 => (D.nk y).isSome = true ∧ dcL g tAll tk tv vs (xs.map e) (dput acc y z) (wipeE ρ4 vs) QA) fun ρ' e' => by
      refine ⟨hk, ?_⟩
      rw [e']
      exact dcL_of (fun a m => h a (List.mem_cons_of_mem _ m)) q
    show g (e x) ρ (fun ρ1 => Ite true (tk ρ1 (fun y ρ3 => tv ρ3 (fun z ρ4 => (D.nk y).isSome = true ∧ dcL g tAll tk tv vs (xs.map e) (dput acc y z) (wipeE ρ4 vs) QA) noX) noX) (dcL g tAll tk tv vs (xs.map e) acc (wipeE ρ1 vs) QA))
    have e : (fun ρ1 => Ite true (tk ρ1 (fun y ρ3 => tv ρ3 (fun z ρ4 => (D.nk y).isSome = true ∧ dcL g tAll tk tv vs (xs.map e) (dput acc y z) (wipeE ρ4 vs) QA) noX) noX) (dcL g tAll tk tv vs (xs.map e) acc (wipeE ρ1 vs) QA)) = fun ρ1 => tk ρ1 (fun y ρ3 => tv ρ3 (fun z ρ4 => (D.nk y).isSome = true ∧ dcL g tAll tk tv vs (xs.map e) (dput acc y z) (wipeE ρ4 vs) QA) noX) noX := by
      funext ρ1
      exact propext ⟨fun z => by have := z.out; simpa using this, fun z => .tt z⟩
    rw [e]
    exact h2
theorem look_none {kvs : List (D × D)} {k : D} (h : ∀ p ∈ kvs, D.nk p.1 ≠ D.nk k) : look kvs k = none := by
  unfold look
  rw [List.find?_eq_none.mpr fun p m => by simpa using h p m]; rfl
/-- unlike keys, one behind the other -/
theorem dput_new {α : Type} {kf vf : α → D} : ∀ {xs : List α} {acc : List (D × D)}, (xs.Pairwise fun a b => D.nk (kf a) ≠ D.nk (kf b)) → (∀ p ∈ acc, ∀ a ∈ xs, D.nk p.1 ≠ D.nk (kf a)) → xs.foldl (fun acc a => dput acc (kf a) (vf a)) acc = acc ++ xs.map fun a => (kf a, vf a)
  | [], acc, _, _ => (List.append_nil _).symm
  | x :: xs, acc, hp, ha => by
    obtain ⟨p1, p2⟩ := List.pairwise_cons.mp hp
    have e : dput acc (kf x) (vf x) = acc ++ [(kf x, vf x)] := by
      unfold dput
      rw [look_none fun p m => ha p m x List.mem_cons_self]; rfl
    rw [List.foldl_cons, e, dput_new p2 fun p m a ma => ?_, List.append_assoc]
    · rfl
    · rcases List.mem_append.mp m with z | z
      · exact ha p z a (List.mem_cons_of_mem _ ma)
      · rw [List.mem_singleton.mp z]; exact p1 a ma
theorem dputs_map {α : Type} {kf vf : α → D} {xs : List α} (h : xs.Pairwise fun a b => D.nk (kf a) ≠ D.nk (kf b)) : dputs (xs.map fun a => (kf a, vf a)) = xs.map fun a => (kf a, vf a) := by
  unfold dputs
  rw [List.foldl_map, dput_new h (fun p m => by cases m)]; rfl

/-! ### repr of an int -/
theorem strOk_of (s : String) : (PyData.str (Str.ofString s)).canLay0 = true := by
  show PyData.strOk (Str.ofString s) = true
  unfold PyData.strOk
  rw [Str.ofString_eq_toList, Array.all_eq_true']
  intro x m
  simp only [List.mem_toArray, List.mem_map] at m
  obtain ⟨c, _, rfl⟩ := m
  have := c.valid
  refine decide_eq_true ?_
  show c.val.toNat < 0x110000
  rcases this with h | h
  · exact Nat.lt_trans h (by decide)
  · exact h.2
end DL
/-! repr of data at any depth: defs called where no repr is under way -/
namespace DL
open PySem PySem.Spec PyProof.Rows L2 HT
variable [TabSet]

/-! ### the rule -/
theorem call_reprD {X : Cx} (hG : X.A.guards = some []) (hu : X.A.units + 64 < cLine) : CallR X (.builtin "repr") (fun xs H Q => ∃ x d, xs = [x] ∧ Dp X.K H x d ∧ (d.showable = true ∧ d.hasDict = false) ∧ d.depth ≤ 60 ∧ d.shown.length ≤ sizeLine ∧ Q (.str d.shown) H) := by
  intro pins s σ H xs us Q I r h
  obtain ⟨x, d, rfl, hd, ⟨hs, hnd⟩, hdep, hsz, q⟩ := h
  obtain ⟨u, rfl, ru⟩ := vals1 r
  obtain ⟨as, rr⟩ := Dp.reads I d x u hd ru
  have fin : ∀ (h' : Heap) (t : Tok) (tk : Nat), (∀ b o, s.heap.get? b = some o → h'.get? b = some o) → EP X pins σ Q (.str d.shown t) { s with heap := h', toks := tk } := fun h' t tk hk =>
    ⟨.str d.shown, H, I.kept hk, ⟨t, rfl⟩, q⟩
  cases hd with
  | non => cases ru; exact PySem.P.repr_of_none (fin _ _ _ fun _ _ e => e)
  | bl b => cases ru; exact PySem.P.repr_of_bool (fin _ _ _ fun _ _ e => e)
  | int i =>
    obtain ⟨t, rfl⟩ := ru
    exact PySem.P.repr_of_int (by simpa [PyData.showable] using hs) (fin _ _ _ fun _ _ e => e)
  | str x =>
    obtain ⟨t, rfl⟩ := ru
    exact PySem.P.repr_of_str (fin _ _ _ fun _ _ e => e) hsz
  | lst h1 h2 =>
    cases ru
    exact repr_of_reads' rr hs (fun z => by rw [hnd] at z; cases z) hG (by omega) (fun _ _ e => e) (fun h' t tk hk => fin h' t tk hk) hsz
  | tup h1 h2 =>
    cases ru
    exact repr_of_reads' rr hs (fun z => by rw [hnd] at z; cases z) hG (by omega) (fun _ _ e => e) (fun h' t tk hk => fin h' t tk hk) hsz
mutual
theorem py_noDict : ∀ d : D, d.py.hasDict = false
  | .non => rfl
  | .bl _ => rfl
  | .int _ => rfl
  | .str _ => rfl
  | .tup ds => py_noDictA ds
  | .lst ds => py_noDictA ds
  | .ro ds => py_noDictA ds
  | .ob _ => rfl
  | .exc _ _ _ _ _ => rfl
  | .dct _ => rfl
  | .thk _ _ _ _ _ _ => rfl
theorem py_noDictA : ∀ ds : List D, PyData.hasDictAll (D.pyA ds) = false
  | [] => rfl
  | d :: ds => by
    show (d.py.hasDict || PyData.hasDictAll (D.pyA ds)) = false
    rw [py_noDict d, py_noDictA ds]; rfl
end
/-- data that repr tells, in n signs at most -/
structure Rp (k n : Nat) (d : D) : Prop where
  flat : d.flat k = true
  sh : d.py.showable = true
  len : d.py.shown.length ≤ n
  ok : PyData.strOk d.py.shown = true
def gReprD : GA := fun xs Q => ∃ d n, xs = [d] ∧ (Rp 60 n d ∧ n ≤ 16777216) ∧ Q (.str d.py.shown)
theorem c_reprD {X : Cx} (hG : X.A.guards = some []) (hu : X.A.units + 64 < cLine) : DCall X (.builtin "repr") gReprD :=
  ⟨fun _ _ _ h ⟨d, n, e, l, q⟩ => ⟨d, n, e, l, h _ q⟩, _, call_reprD hG hu, fun F H vs ds Q s d ⟨x, n, e, ⟨l, hn⟩, q⟩ => by
    subst e
    cases d with
    | cons d1 d2 =>
      cases d2
      exact ⟨_, _, rfl, (d1.mono s).dp l.flat, ⟨l.sh, py_noDict _⟩, (flat_depth l.flat).2, Nat.le_trans l.len (by rw [PySem.sizeLine_eq]; exact hn), q.1 _ (.str _)⟩⟩
theorem i_reprD {d : D} {P : D → Prop} (n : Nat) (l : Rp 60 n d) (hn : n ≤ 16777216) (h : P (.str d.py.shown)) : gReprD [d] P := ⟨d, n, rfl, ⟨l, hn⟩, h⟩
mutual
theorem flat_mono {k m : Nat} (h : k ≤ m) : ∀ {d : D}, d.flat k = true → d.flat m = true
  | .non, _ => rfl
  | .bl _, _ => rfl
  | .int _, _ => rfl
  | .str _, f => f
  | .tup ds, f => by
    unfold D.flat at f ⊢
    match k, m, h, f with
    | k + 1, m + 1, h, f => exact flatA_mono (Nat.le_of_succ_le_succ h) f
  | .lst ds, f => by
    unfold D.flat at f ⊢
    match k, m, h, f with
    | k + 1, m + 1, h, f => exact flatA_mono (Nat.le_of_succ_le_succ h) f
  | .ro ds, f => by
    unfold D.flat at f ⊢
    match k, m, h, f with
    | k + 1, m + 1, h, f => exact flatA_mono (Nat.le_of_succ_le_succ h) f
theorem flatA_mono {k m : Nat} (h : k ≤ m) : ∀ {ds : List D}, D.flatA k ds = true → D.flatA m ds = true
  | [], _ => rfl
  | d :: ds, f => by
    unfold D.flatA at f ⊢
    rw [Bool.and_eq_true] at f ⊢
    exact ⟨flat_mono h f.1, flatA_mono h f.2⟩
end
theorem Rp.le {k n m : Nat} {d : D} (r : Rp k n d) (h : n ≤ m) : Rp k m d := ⟨r.flat, r.sh, Nat.le_trans r.len h, r.ok⟩
theorem Rp.up {k j n : Nat} {d : D} (r : Rp k n d) (h : k ≤ j) : Rp j n d := ⟨flat_mono h r.flat, r.sh, r.len, r.ok⟩
theorem Rp.int {k : Nat} {i : Int} (h : i.natAbs < 2 ^ 1900) : Rp k 1921 (.int i) := by
  have l : i.natAbs.log2 < 1920 := by
    by_cases z : i.natAbs = 0
    · rw [z]; decide
    · rw [Nat.log2_lt z]; exact Nat.lt_trans h (Nat.pow_lt_pow_right (by decide) (by decide))
  refine ⟨rfl, by show decide _ = true; rw [decide_eq_true l], ?_, strOk_of _⟩
  show (Str.ofString (toString i)).length ≤ 1921
  rw [PySem.ofString_length]
  exact int_text_length_le (by decide) l
/-- numbers below 2 ^ 200: shorter -/
theorem Rp.ints {k : Nat} {i : Int} (h : i.natAbs < 2 ^ 300) : Rp k 301 (.int i) := by
  have l : i.natAbs.log2 < 300 := by
    by_cases z : i.natAbs = 0
    · rw [z]; decide
    · rw [Nat.log2_lt z]; exact h
  refine ⟨rfl, by show decide _ = true; rw [decide_eq_true (by omega)], ?_, strOk_of _⟩
  show (Str.ofString (toString i)).length ≤ 301
  rw [PySem.ofString_length]
  exact int_text_length_le (by decide) l
theorem Rp.bl {k : Nat} {b : Bool} : Rp k 5 (.bl b) := ⟨rfl, rfl, by cases b <;> decide, by cases b <;> decide +kernel⟩
theorem Rp.non {k : Nat} : Rp k 4 .non := ⟨rfl, rfl, by decide, by decide +kernel⟩
theorem Rp.str {k n : Nat} {x : Str} (h : PyData.canLay0 (.str x) = true) (l : (reprText x).length ≤ n) (o : PyData.strOk (reprText x) = true) : Rp k n (.str x) := ⟨h, rfl, l, o⟩
theorem strOk_app {a b : Str} (h1 : PyData.strOk a = true) (h2 : PyData.strOk b = true) : PyData.strOk (a ++ b) = true := by
  show (a.cps ++ b.cps).all _ = true
  rw [Array.all_append]
  exact Bool.and_eq_true _ _ ▸ ⟨h1, h2⟩
theorem strOk_from : ∀ {ts : List Str} {k : Nat} {acc : Str}, PyData.strOk acc = true → (∀ t ∈ ts, PyData.strOk t = true) → PyData.strOk (textFrom k acc ts) = true
  | [], _, _, h, _ => h
  | t :: r, k, acc, h, ht => by
    show PyData.strOk (textFrom (k + 1) (acc ++ (if k > 0 then ", " else "" : String) ++ t) r) = true
    refine strOk_from (strOk_app (strOk_app h ?_) (ht t List.mem_cons_self)) fun x m => ht x (List.mem_cons_of_mem _ m)
    exact strOk_of _
theorem strOk_join {sep : Str} (hs : PyData.strOk sep = true) : ∀ {ts : List Str}, (∀ t ∈ ts, PyData.strOk t = true) → PyData.strOk (Str.join sep ts) = true
  | [], _ => strOk_of ""
  | [x], h => h x List.mem_cons_self
  | x :: y :: r, h => strOk_app (strOk_app (h x List.mem_cons_self) hs) (strOk_join hs fun t m => h t (List.mem_cons_of_mem _ m))
theorem strOk_list {ts : List Str} (h : ∀ t ∈ ts, PyData.strOk t = true) : PyData.strOk (listText ts) = true := by
  unfold listText
  exact strOk_app (strOk_from (strOk_of "[") h) (strOk_of "]")
theorem strOk_tup {ts : List Str} (h : ∀ t ∈ ts, PyData.strOk t = true) : PyData.strOk (tupleText ts) = true := by
  unfold tupleText
  exact strOk_app (strOk_app (strOk_of "(") (strOk_join (strOk_of ", ") h)) (strOk_of _)
theorem all_rpS {k n : Nat} : ∀ {ds : List D}, (∀ d ∈ ds, Rp k n d) → ∀ t ∈ PyData.shownAll (D.pyA ds), PyData.strOk t = true
  | [], _, t, m => by cases m
  | d :: ds, h, t, m => by
    rcases List.mem_cons.mp (show t ∈ d.py.shown :: PyData.shownAll (D.pyA ds) from m) with e | m
    · rw [e]; exact (h d List.mem_cons_self).ok
    · exact all_rpS (fun x m => h x (List.mem_cons_of_mem _ m)) t m
theorem all_rp {k n : Nat} : ∀ {ds : List D}, (∀ d ∈ ds, Rp k n d) → D.flatA k ds = true ∧ PyData.showableAll (D.pyA ds) = true ∧ ((PyData.shownAll (D.pyA ds)).map (·.length)).sum ≤ ds.length * n ∧ (PyData.shownAll (D.pyA ds)).length = ds.length
  | [], _ => ⟨rfl, rfl, by simp [PyData.shownAll, D.pyA], rfl⟩
  | d :: ds, h => by
    obtain ⟨a, b, c, e⟩ := all_rp (k := k) (n := n) (ds := ds) fun x m => h x (List.mem_cons_of_mem _ m)
    have r := h d List.mem_cons_self
    refine ⟨?_, ?_, ?_, ?_⟩
    · show (d.flat k && D.flatA k ds) = true
      rw [r.flat, a]; rfl
    · show (d.py.showable && PyData.showableAll (D.pyA ds)) = true
      rw [r.sh, b]; rfl
    · show ((d.py.shown :: PyData.shownAll (D.pyA ds)).map (·.length)).sum ≤ _
      rw [List.map_cons, List.sum_cons, List.length_cons, Nat.add_mul, Nat.one_mul]
      have := r.len
      omega
    · show (d.py.shown :: PyData.shownAll (D.pyA ds)).length = _
      rw [List.length_cons, List.length_cons, e]
theorem Rp.tup {k n : Nat} {ds : List D} (h : ∀ d ∈ ds, Rp k n d) : Rp (k + 1) (ds.length * (n + 2) + 3) (.tup ds) := by
  obtain ⟨a, b, c, e⟩ := all_rp h
  refine ⟨a, b, ?_, strOk_tup (all_rpS h)⟩
  show (tupleText (PyData.shownAll (D.pyA ds))).length ≤ _
  have := tupleText_len_le (PyData.shownAll (D.pyA ds))
  rw [e] at this
  rw [Nat.mul_add]
  omega
theorem Rp.lst {k n : Nat} {ds : List D} (h : ∀ d ∈ ds, Rp k n d) : Rp (k + 1) (ds.length * (n + 2) + 3) (.lst ds) := by
  obtain ⟨a, b, c, e⟩ := all_rp h
  refine ⟨a, b, ?_, strOk_list (all_rpS h)⟩
  show (listText (PyData.shownAll (D.pyA ds))).length ≤ _
  have := listText_len_le (PyData.shownAll (D.pyA ds))
  rw [e] at this
  rw [Nat.mul_add]
  omega
theorem Rp.ro {k n : Nat} {ds : List D} (h : ∀ d ∈ ds, Rp k n d) : Rp (k + 1) (ds.length * (n + 2) + 3) (.ro ds) := by
  have r := Rp.lst h
  exact ⟨r.flat, r.sh, r.len, r.ok⟩
theorem Rp.flatS {k n m : Nat} {d : D} (r : Rp k n d) : (D.str d.py.shown).flat m = true := r.ok
/-! ### defs called where no repr is under way -/
structure FnG (P : Program) (w : World) (K : PySem.W.Frag) (mg : Str → Option Value) (base : Heap) (CX : CXT) (k : Nat) (f : Addr) (fd : FuncData) (ps : List Str) (sp : Sp) : Prop where
  len : ∀ vs H Q E, sp vs H Q E → vs.length = ps.length
  run : ∀ (A : Around) (outer : List PySem.Env) (s : Shared) (H : Hp) (args : Args) (us : List Value) (vs : List V) (Q : VK) (E : XK), A.guards = some [] → Room k A → Env0 P w K mg base A outer s H → BindsTo s fd args (ps.zip us) → Vals vs us → sp vs H Q E →
    codeAny (model P w) A (.call (.ref f) args) (CR CX outer P w H s Q E) s
section
variable {P : Program} {w : World} {K : PySem.W.Frag} {mg : Str → Option Value} {base : Heap} {x qual : Str} {st : Stmt} {f : Addr} {fd : FuncData} {N ps : List Str} {k j : Nat} {sp : Sp}
theorem FnG.mono {CX : CXT} (F : FnG P w K mg base CX j f fd ps sp) (h : j ≤ k) : FnG P w K mg base CX k f fd ps sp :=
  ⟨F.len, fun A outer s H args us vs Q E hG hr => F.run A outer s H args us vs Q E hG (hr.mono h)⟩
/-- a def's promise from its body, no repr being under way -/
theorem okG (F : Fun K x qual st f fd) (S : FnScope N ps (defScope st)) (len : ∀ vs H Q E, sp vs H Q E → vs.length = ps.length)
    (hbody : ∀ (cdv : Value) (A : Around) (outer : List PySem.Env) (s : Shared) (H : Hp) (vs : List V) (Q : VK) (E : XK), (A.deeper (envOfC qual (defScope st) s.heap.objs.size f cdv)).guards = some [] → Room k (A.deeper (envOfC qual (defScope st) s.heap.objs.size f cdv)) → sp vs H Q E →
      ∃ t, PSs (cxOf (L2.CX P w) P w K mg base N qual (defScope st) f cdv A outer s H E) (defBody st) t ∧ t { nx := fun _ H' => Q .non H', rt := Q } (L2.start N vs) H) : FnG P w K mg base (L2.CX P w) (k + 1) f fd ps sp := by
  obtain ⟨oc, od, kV, doc, pm, an, cdv, ct, osl, rfl, lk, hcd⟩ := F.ex
  exact ⟨len, fun A outer s H args us vs Q E hG hr e0 hb r hsp => LamX.run_ofS lk hcd S hr e0 hb r (len _ _ _ _ hsp) fun hr' => hbody cdv A outer s H vs Q E hG hr' hsp⟩
theorem fnPG (Fn : Fun K x qual st f fd) (S : FnScope N ps (defScope st)) {gs : GS} {g : Ws} (hlen : ∀ ds Q E, gs ds Q E → ds.length = ps.length)
    (hd : ∀ (cdv : Value) (A : Around) (outer : List PySem.Env) (s : Shared) (H : Hp) (E : XK), (A.deeper (envOfC qual (defScope st) s.heap.objs.size f cdv)).guards = some [] → Room k (A.deeper (envOfC qual (defScope st) s.heap.objs.size f cdv)) → DSs (bodyX P w K mg base N qual st f cdv A outer s H E) (defBody st) g)
    (hs : ∀ ds Q E, gs ds Q E → g (env0 N ds) (endP Q E)) : FnG P w K mg base (L2.CX P w) (k + 1) f fd ps (toSpP K gs) := by
  refine okG Fn S (fun vs H Q E ⟨R, F, ds, _, dv, h⟩ => by rw [dv.length]; exact hlen _ _ _ h) fun cdv A outer s H vs Q E hG hr ⟨R, F, ds, r, dv, h⟩ => ?_
  obtain ⟨t, p, k2⟩ := (hd cdv A outer s H E hG hr).run (fun cls d _ H => E cls d H) (takes_of rfl rfl rfl rfl)
  refine ⟨t, p, k2 R F _ H _ _ (env0_rel r dv) ((hd cdv A outer s H E hG hr).mono _ _ _ ?_ (hs _ _ _ h))⟩
  exact ⟨fun ρ q F' σ' H' s' r' => q F' H' _ s' r'.base .non, fun d ρ q F' σ' H' v s' r' dv' => q F' H' v s' r'.base dv', fun _ z => z.elim, fun _ z => z.elim, fun x ρ q F' σ' H' cls dd s' r' ex => q F' H' cls dd s' r'.base ex, fun _ _ z => z.elim⟩
end
/-! ### calls of them -/
section
variable {X : Cx} {k : Nat} {f : Addr} {fd : FuncData} {ps : List Str} {g : GS} {go : GO} {gn : GN} {fa : Wa} {x : Str} {p pos : Pos} {e : Expr} {es : List Expr} {sp : Sp} {t : TA} {E : L2.St → XK}
end
/-! ### the law's call, no repr being under way -/
section
open PySem.W Att
variable {P : Program} {w : World} {K : PySem.W.Frag} {mg mb : Str → Option Value} {a : Addr} {s₁ : Shared} {vs : List Value} {ns : List Int}
/-- the state at the law's call: at most the script is tracked -/
theorem law_entry (KX : K.In s₁.heap) (hns : s₁.heap.Ns mainGlobals mg) (hb : s₁.heap.Ns builtinsNs mb) (hbb : ∀ x : Str, x ≠ "__name__" → mb x = bootBuiltins x) (hlim : s₁.heap.NoLimit) (hg : s₁.gens = #[])
    (ha : s₁.heap.get? a = some { cls := .type "list", data := .seq vs.toArray }) (hi : IntsAre vs ns) (hl : ns.length ≤ sizeLine) :
    ∃ (H : Hp) (base : Heap), Only H ∧ SqL K H a (ns.map V.int) ∧ K.In base ∧ base.Ns mainGlobals mg ∧ Env0 P w K mg base callerA [] s₁ H := by
  have rv := vals_ints hi
  have lv := hi.length
  obtain ⟨H, one, hS, hok⟩ : ∃ H : Hp, (∀ b, H b = none ∨ (b = a ∧ K.lookup a = none ∧ ∃ o xs, H b = some (.frz o (.lst xs)))) ∧ SqL K H a (ns.map V.int) ∧ HOk P w H s₁.heap := by
    cases hk : K.lookup a with
    | some o =>
      have e := KX a o hk
      rw [ha] at e
      cases e
      exact ⟨fun _ => none, fun _ => .inl rfl, .inr ⟨_, vs.toArray, _, hk, rfl, rfl, rfl, by rw [List.size_toArray, lv]; exact hl, by simpa using rv⟩, fun b u z => nomatch (show (none : Option HO) = some u from z)⟩
    | none =>
      refine ⟨upd (fun _ => none) a (.frz { cls := .type "list", data := .seq vs.toArray } (.lst (ns.map V.int))), fun b => ?_, .inl (.inr ⟨_, upd_same⟩), fun b u z => ?_⟩
      · by_cases e : b = a
        · subst e; exact .inr ⟨rfl, rfl, _, _, upd_same⟩
        · exact .inl (by rw [upd_ne e])
      · by_cases e : b = a
        · subst e
          rw [upd_same] at z
          cases z
          exact ⟨ha, by rw [List.length_map]; exact hl, vs, _, rv, ha⟩
        · rw [upd_ne e] at z
          cases z
  have keep : ∀ {b : Addr} {o : Obj}, s₁.heap.get? b = some o → (b = a → K.lookup a = none → False) → (hidT s₁.heap H).get? b = some o := fun {b o} e n => hidT_get e (by
    rcases one b with z | ⟨h1, h2, _⟩
    · exact z
    · exact (n h1 h2).elim)
  have nsK : ∀ {b : Addr} {m : Str → Option Value}, s₁.heap.Ns b m → (hidT s₁.heap H).Ns b m := fun {b m} ⟨o, es, ep, e, d, r⟩ => by
    refine ⟨o, es, ep, keep e fun z _ => ?_, d, r⟩
    subst z
    rw [ha] at e
    cases e
    have d' : Data.seq vs.toArray _ = Data.dict es ep := d
    cases d'
  have inK : K.In (hidT s₁.heap H) := fun b o e => keep (KX b o e) fun z n => by
    subst z
    rw [e] at n
    cases n
  refine ⟨H, hidT s₁.heap H, fun b => ?_, hS, inK, nsK hns, ⟨rfl, ⟨inK, nsK hns, ⟨mb, nsK hb, hbb⟩, let ⟨mc, h1, h2⟩ := hlim; ⟨mc, nsK h1, h2⟩⟩, fun b o e => of_hidT e, Nat.le_of_eq (hidT_size _ _), trivial, fun b hb => absurd (show b ∈ ([] : List Addr) from hb) (by simp), hok, .of_eq hg⟩⟩
  rcases one b with z | ⟨_, _, z⟩
  · exact .inl z
  · exact .inr z
theorem walk_ofG {l : PySem.W.OpenLaw} {n k : Nat} {q : Program} {loose : List Str} {XP : (Str → Option Value) → Heap → Prop} {YP : World → Heap → Prop} {d : DefRec} {K : Params → PySem.W.Frag} {CX : World → CXT} {sp : World → Sp} {x : Str}
    (hn : l.most = some n) (hn2 : n ≤ sizeLine) (hdf : d.params.defaults = []) (hr : Room k callerA)
    (hY : ∀ (w : World) (h : Heap), YP w h → (K w.params).In h)
    (F : ∀ (w : World) (mg : Str → Option Value) (fa : Addr) (h : Heap), (K w.params).In h → h.Ns mainGlobals mg → mg d.name = some (.ref fa) →
      ∃ fd : FuncData, (∀ (s : Shared) (u : Value), BindsTo s fd ⟨[u], []⟩ [(x, u)]) ∧
        ∀ base : Heap, (K w.params).In base → base.Ns mainGlobals mg → FnG l.prog w (K w.params) mg base (CX w) k fa fd [x] (sp w))
    (hsp : ∀ (w : World) (H : Hp) (a : Addr) (ns : List Int), ns.length ≤ n → Only H → SqL (K w.params) H a (ns.map V.int) → sp w [.ref a] H (fun v _ => v = .bl true) fun _ _ _ => False)
    (hCX : ∀ (w : World) (H : Hp) (s : Shared) (e : Value) (s' : Shared), CX w [] H s (fun _ _ _ => False) e s' → False) :
    PySem.W.WalkO q loose XP YP l.row.toRowW d [] (fun f vs => PySem.call f vs) := by
  refine Att.attach_call hn hdf fun w s₀ s₁ mg mb fa o pm cd doc a vs ns G Y ho hd hcd hmg hobj hints hlen hg => ?_
  have KX := hY w _ Y
  obtain ⟨fd, hb, hF⟩ := F w mg fa _ KX G.T.g hmg
  obtain ⟨H, base, hO, hS, hKb, hNb, e0⟩ := law_entry (P := l.prog) (w := w) KX G.T.g G.T.b G.T.builtins G.T.nolimit hg hobj hints (Nat.le_trans hlen hn2)
  refine codeAny_mono ((hF base hKb hNb).run callerA [] s₁ H ⟨[.ref a], []⟩ [.ref a] [.ref a] _ _ rfl hr e0 (hb s₁ (.ref a)) (.cons rfl .nil) (hsp w H a ns hlen hO hS)) fun r s' h => ?_
  cases r with
  | error e => exact (hCX w H s₁ e s' h).elim
  | ok fl =>
    cases fl with
    | next => exact False.elim h
    | brk => exact False.elim h
    | cont => exact False.elim h
    | ret u =>
      obtain ⟨v, H', os, bare, un, hok', r', q⟩ := h
      obtain rfl : v = .bl true := q
      obtain rfl : u = Value.bool true := r'
      refine ⟨rfl, OldK.of_keep fun b o e => ?_, os, bare⟩
      rcases hO b with z | ⟨ob, xs, z⟩
      · exact un.keep b o e z (fun m => absurd (show b ∈ ([] : List Addr) from m) (by simp)) (by simp)
      · obtain ⟨e1, _⟩ := e0.hok b _ z
        obtain ⟨e2, _⟩ := hok' b _ (un.frzs b ob _ z)
        rw [e] at e1
        cases e1
        exact e2
end
/-! ### {} -/
theorem pe_dict0 {X : Cx} {pos : Pos} : PE X (.Dict [] [] pos) (fun _ H Q => ∀ p od, H p = none → Q (.ref p) (upd H p (.frz od (dctO p [])))) := ⟨fun pins s σ H Q I h =>
  wpAny_Dict_empty ⟨.ref s.heap.objs.size, _, I.laid (a := s.heap.objs.size) (o := .frz { cls := .type "dict", data := .dict #[] } (dctO s.heap.objs.size [])) (t' := s.toks) (fun _ _ q => Heap.get?_push_of_some _ q) (Nat.le_refl _) ⟨Heap.get?_push_size _ rfl, dct_empty s.heap I.big⟩, rfl, h _ _ (I.hok.fresh (Nat.le_refl _))⟩⟩
def dDct0 : We := fun ρ Q _ => Q (.dct []) ρ
theorem de_dict0 {X : Cx} {pos : Pos} : DE X (.Dict [] [] pos) dDct0 := by
  refine ⟨fun ρ Q Q' E E' hQ hE hw => hQ _ _ hw, fun W tk => ⟨_, pe_dict0, fun R F σ H ρ Q r hw p od hp => ?_⟩⟩
  exact (up_fin (Same.refl F) r hw).2 p _ hp (fun _ z => by cases z) (.dct upd_same .nil)
theorem i_dict0 {ρ : Env} {Q : Qn} {E : Qx} (h : Q (.dct []) ρ) : dDct0 ρ Q E := h
/-! ### str of an int, bool of an int -/
def gStrI : GA := fun xs Q => ∃ i : Int, xs = [.int i] ∧ i.natAbs.log2 < 1920 ∧ Q (.str (toString i))
theorem c_strI {X : Cx} : DCall X (.type "str") gStrI := ⟨fun _ _ _ h ⟨i, e, l, q⟩ => ⟨i, e, l, h _ q⟩, _, call_str_int, fun F H vs ds Q s d ⟨i, e, l, q⟩ => by
  subst e
  cases d with
  | cons d1 d2 => cases d2; cases d1; exact ⟨i, rfl, l, q.1 _ (.str _)⟩⟩
theorem i_strI {i : Int} {P : D → Prop} (l : i.natAbs < 2 ^ 1900) (h : P (.str (toString i))) : gStrI [.int i] P := ⟨i, rfl, by
  by_cases z : i.natAbs = 0
  · rw [z]; decide
  · rw [Nat.log2_lt z]; exact Nat.lt_trans l (Nat.pow_lt_pow_right (by decide) (by decide)), h⟩
def gBoolI : GA := fun xs Q => ∃ i : Int, xs = [.int i] ∧ Q (.bl (i != 0))
theorem c_boolI {X : Cx} : DCall X (.type "bool") gBoolI := ⟨fun _ _ _ h ⟨i, e, q⟩ => ⟨i, e, h _ q⟩, _, call_bool1, fun F H vs ds Q s d ⟨i, e, q⟩ => by
  subst e
  cases d with
  | cons d1 d2 => cases d2; cases d1; exact .inl ⟨i, rfl, q.1 _ (.bl _)⟩⟩
theorem i_boolI {i : Int} {P : D → Prop} (h : P (.bl (i != 0))) : gBoolI [.int i] P := ⟨i, rfl, h⟩
/-! ### defs with defaults -/
/-- a def with a tuple of defaults, told as data -/
structure FunE (K : PySem.W.Frag) (x qual : Str) (st : Stmt) (defs : List D) (f : Addr) (fd : FuncData) : Prop where
  ex : ∃ (oc : Value) (od : Option Addr) (T : Addr) (o : Obj) (its : List Value) (n : Nat) (vs : List V) (kV doc pm : Value) (an : Option Addr) (cdv ct : Value) (osl : Array (Option Value)),
    fd = PySem.W.fnOf x qual (defArgs st) (defBody st) (defScope st) (.ref T) kV doc pm an cdv ct ∧ K.lookup f = some ⟨oc, od, .func fd, osl⟩ ∧ PySem.W.codeIn K cdv qual = true ∧ K.lookup T = some o ∧ o.data = .seq its.toArray n ∧ Vals vs its ∧ ∀ F, DvA K F vs defs
  kp : PySem.W.keepIn K (.ref f) = true
section
variable {P : Program} {w : World} {K : PySem.W.Frag} {mg : Str → Option Value} {base : Heap} {x qual : Str} {st : Stmt} {f : Addr} {fd : FuncData} {N ps : List Str} {k : Nat} {defs : List D}
/-- values that fill up -/
def DfB (K : PySem.W.Frag) (fd : FuncData) (ps : List Str) (defs : List D) : Prop := ∃ (dvs : List V) (ds : List Value), Vals dvs ds ∧ Binds K fd ps ds ∧ ∀ F, DvA K F dvs defs
theorem FunE.binds (F : FunE K x qual st defs f fd) (n j : Nat) (hn : n + (defs.length - j) = ps.length)
    (h : ∀ (T : Addr) (kV doc pm : Value) (an : Option Addr) (cdv ct : Value) (us its : List Value), us.length = n → its.length = defs.length →
      ∃ k, bindArgs (PySem.W.fnOf x qual (defArgs st) (defBody st) (defScope st) (.ref T) kV doc pm an cdv ct) ⟨us, []⟩ = seqItems? (.ref T) >>= k ∧ k (some its.toArray) = pure (ps.zip (us ++ its.drop j))) : DfB K fd ps (defs.drop j) := by
  obtain ⟨oc, od, T, o, its, m, vs, kV, doc, pm, an, cdv, ct, osl, rfl, lk, hcd, lT, oT, rT, dT⟩ := F.ex
  have l1 : its.length = defs.length := by rw [← rT.length]; exact (dT fun _ => none).length
  refine ⟨vs.drop j, its.drop j, rT.drop j, fun s us X hlen => ?_, fun F => (dT F).drop j⟩
  have l2 : us.length = n := by
    rw [List.length_append, List.length_drop, l1] at hlen
    omega
  obtain ⟨k, e1, e2⟩ := h T kV doc pm an cdv ct us its l2 l1
  refine L2.BindsTo.of_looks fun M => ?_
  rw [e1]
  exact looks_items X lT oT (.of_pure e2)
end
def dCallPd (g : GS) (defs : List D) (fa : Wa) : We := fun ρ Q E => fa ρ (fun ds ρ1 => g (ds ++ defs) (fun d => Q d ρ1) (fun x => E x ρ1)) E
theorem i_callPd {g : GS} {defs : List D} {fa : Wa} {ρ : Env} {Q : Qn} {E : Qx} (h : fa ρ (fun ds ρ1 => g (ds ++ defs) (fun d => Q d ρ1) (fun x => E x ρ1)) E) : dCallPd g defs fa ρ Q E := h
section
variable {X : Cx} {k : Nat} {f : Addr} {fd : FuncData} {ps : List Str} {g : GS} {fa : Wa} {x : Str} {p pos : Pos} {e : Expr} {es : List Expr} {defs : List D}
end
/-! ### a new list by keywords -/
def nCallK (n : Nat) (ks : List Str) (perm : List Nat) (g : GN) (fa fk : Wa) : Wa := fun ρ Q E => fa ρ (fun ds ρ1 => fk ρ1 (fun es ρ2 => (ds.length = n ∧ es.length = ks.length) ∧ g (pick perm (ds ++ es)) (fun xs => Q xs ρ2) (fun x => E x ρ2)) E) E
theorem i_callNK {n : Nat} {ks : List Str} {perm : List Nat} {g : GN} {fa fk : Wa} {ρ : Env} {Q : List D → Env → Prop} {E : Qx} (h : fa ρ (fun ds ρ1 => fk ρ1 (fun es ρ2 => (ds.length = n ∧ es.length = ks.length) ∧ g (pick perm (ds ++ es)) (fun xs => Q xs ρ2) (fun x => E x ρ2)) E) E) : nCallK n ks perm g fa fk ρ Q E := h
section
variable {X : Cx} {k n : Nat} {f : Addr} {fd : FuncData} {ps ks : List Str} {perm : List Nat} {gn : GN} {fk : Wa} {kws : List Keyword} {x : Str} {p pos : Pos}
end
def dOpR (i : Nat) (g : G2) (fa : We) : We := fun ρ Q E => fa ρ (fun x ρ1 => ∃ a xs, ρ1[i]? = some (some (.own a xs)) ∧ g x (.lst xs) fun d => Q d ρ1) E
theorem i_opR {i : Nat} {g : G2} {fa : We} {ρ : Env} {Q : Qn} {E : Qx} (h : fa ρ (fun x ρ1 => ∃ a xs, ρ1[i]? = some (some (.own a xs)) ∧ g x (.lst xs) fun d => Q d ρ1) E) : dOpR i g fa ρ Q E := h
section
variable {X : Cx} {e : Expr} {fa : We} {g : G2} {i : Nat} {x : Str} {op : CmpOp} {pos p2 : Pos}
end
section
variable {K : PySem.W.Frag} {x qual : Str} {st : Stmt} {f : Addr} {fd : FuncData} {ps : List Str} {defs : List D}
end
end DL
/-! try: .. except A as e: .. except B as e: .. -/
namespace DL
open PySem PySem.Spec PyProof.Rows L2 HT
variable [TabSet]

abbrev Clz := Value × (Addr → Value → Option Addr → TS)
inductive HdsAs (X : Cx) (n : Str) : List ExceptHandler → List Clz → Prop
  | nil : HdsAs X n [] []
  | cons {x : Str} {c : Value} {ts : Addr → Value → Option Addr → TS} {b₀ : Stmt} {suite : List Stmt} {np pos' : Pos} {hds : List ExceptHandler} {l : List Clz} (hc : Names X x c)
      (hsu : ∀ (a : Addr) (oe : Obj) (cls : Value) (d : Option Addr) (pn : List (Addr × Obj)), Zc cls d oe → (∃ vs, oe.data = .fields vs) → PSs (X.suite a ((a, oe) :: pn)) (b₀ :: suite) (ts a cls d)) (r : HdsAs X n hds l) :
      HdsAs X n (.ExceptHandler (some (.Name x np)) (some n) (b₀ :: suite) pos' :: hds) ((c, ts) :: l)
section
variable {X : Cx} {n : Str} {i : Nat} {body : List Stmt} {h₀ : ExceptHandler} {hds : List ExceptHandler} {l : List Clz} {pos : Pos} {tb : WX → TS} {Wout : WX}
end
/-! the same over data -/
abbrev Cl := Addr × (Addr → Bool → Prop) × (Addr → Addr → Addr → Ws)
def clz (K : PySem.W.Frag) (q : Cl) : Clz := (.ref q.1, fun a cls d D σ H => ∃ C dd, q.2.1 C true ∧ cls = .ref C ∧ d = some dd ∧ canS K (q.2.2 a C dd) (fun _ _ _ _ => False) D σ H)
inductive HdsD (X : Cx) (n : Str) : List ExceptHandler → List Cl → Prop
  | nil : HdsD X n [] []
  | cons {x : Str} {c : Addr} {cat : Addr → Bool → Prop} {gs : Addr → Addr → Addr → Ws} {b₀ : Stmt} {suite : List Stmt} {np pos' : Pos} {hds : List ExceptHandler} {l : List Cl} (hcat : ∀ C b, cat C b → PySem.W.exmOne X.K (.ref C) (.ref c) = some b) (hm : X.mg x = some (.ref c))
      (hsu : ∀ (a : Addr) (oe : Obj) (C dd : Addr) (pn : List (Addr × Obj)), cat C true → Zc (.ref C) (some dd) oe → (∃ vs, oe.data = .fields vs) → DSs (X.suite a ((a, oe) :: pn)) (b₀ :: suite) (gs a C dd)) (r : HdsD X n hds l)
      (hg : Gl X x := by rfl) (hdb : (x == ("__debug__" : Str)) = false := by decide) : HdsD X n (.ExceptHandler (some (.Name x np)) (some n) (b₀ :: suite) pos' :: hds) ((c, cat, gs) :: l)
section
variable {X : Cx} {n : Str} {i : Nat} {body : List Stmt} {h₀ : ExceptHandler} {hds : List ExceptHandler} {l : List Cl} {pos : Pos} {gb : Ws}
theorem HdsD.as (h : HdsD X n hds l) : HdsAs X n hds (l.map (clz X.K)) := by
  induction h with
  | nil => exact .nil
  | @cons x c cat gs b₀ suite np pos' hds l hcat hm hsu r hg hdb ih =>
    refine .cons ⟨hg, hdb, .inl hm⟩ (fun a oe cls d pn hz hf => ⟨fun pins s σ H D I ⟨C, dd, hC, e1, e2, hc⟩ => ?_⟩) ih
    subst e1 e2
    exact ((hsu a oe C dd pn hC hz hf).can takes0).run pins s σ H D I hc
end
end DL
/-! A lambda without parameters, handed to a def that calls it. -/
namespace DL
open PySem PySem.Spec PyProof.Rows L2
variable [TabSet]

/-- what a call of a lambda promises: of its value, of what it raises -/
abbrev TH := (D → Prop) → (Exc → Prop) → Prop
/-- a() where the first slot holds a lambda that was handed in -/
def dAsk (i : Nat) (th : D) (T : TH) : We := fun ρ Q E => ρ[i]? = some (some (.fz th)) ∧ T (fun d => Q d ρ) (fun x => E x ρ)
section
variable {X : Cx} {pins : List (Addr × Obj)} {σ : L2.St} {H : Hp} {s : Shared}
end
/-- what the def promises that is handed a lambda, from the lambda's own promise -/
abbrev GT := TH → (D → Prop) → (Exc → Prop) → Prop
structure TellX (P : Program) (w : World) (K : PySem.W.Frag) (mg : Str → Option Value) (base : Heap) (k : Nat) (g : Addr) (fd : FuncData) (x a : Str) (S : GT) : Prop where
  ex : ∃ (st : Stmt) (N : List Str) (g' : D → TH → Ws), Fun K x x st g fd ∧ FnScope N [a] (defScope st) ∧ N[0]? = some a ∧ Vis (defScope st) a ∧
    (∀ (th : D) (T : TH) (cdv : Value) (A : Around) (outer : List PySem.Env) (s : Shared) (H : Hp) (E : XK), A.guards = some [] → Room k (A.deeper (envOfC x (defScope st) s.heap.objs.size g cdv)) →
      (∀ pn xe p1 p2, DE ((bodyX P w K mg base N x st g cdv A outer s H E).tr pn xe) (.Call (.Name a p1) [] [] p2) (dAsk 0 th T)) → DSs (bodyX P w K mg base N x st g cdv A outer s H E) (defBody st) (g' th T)) ∧
    ∀ th T Q E, S T Q E → g' th T (env0 N [th]) (endP Q E)
section
variable {X : Cx}
end
theorem TellX.mono {P : Program} {w : World} {K : PySem.W.Frag} {mg : Str → Option Value} {base : Heap} {j k : Nat} {g : Addr} {fd : FuncData} {x a : Str} {S : GT} (t : TellX P w K mg base j g fd x a S) (h : j ≤ k) : TellX P w K mg base k g fd x a S := by
  obtain ⟨st, N, g', h1, h2, h3, h4, h5, h6⟩ := t.ex
  exact ⟨st, N, g', h1, h2, h3, h4, fun th T cdv A outer s H E hG hr => h5 th T cdv A outer s H E hG (hr.mono h), h6⟩
section
variable {P : Program} {w : World} {K : PySem.W.Frag} {mg : Str → Option Value} {base : Heap} {x qual : Str} {st : Stmt} {f c : Addr} {fd : FuncData} {N ps : List Str} {k : Nat}
end
/-! ### the law's call where lambdas are made -/
section
open PySem.W Att
/-- how the law's promise is told: cs, the code objects, their tables, the names of what is made -/
structure LawTab (l : PySem.W.OpenLaw) (w : World) (K : PySem.W.Frag) (CX : CXT) (k n : Nat) (x : Str) (mg : Str → Option Value) (fa : Addr) (ms : List Str) : Prop where
  ex : ∃ (cs : List (Addr × Addr)) (fd : FuncData) (sp : Sp), (∀ p ∈ cs, ∃ m ∈ ms, tabIn K m = some p) ∧ (∀ p ∈ cs, K.lookup p.2 = none) ∧ (∀ (s : Shared) (u : Value), BindsTo s fd ⟨[u], []⟩ [(x, u)]) ∧
    (∀ (H : Hp) (a : Addr) (ns : List Int), ns.length ≤ n → (∀ p ∈ cs, H p.2 = some (.tbl #[])) → SqL K H a (ns.map V.int) → sp [.ref a] H (fun v _ => v = .bl true) fun _ _ _ => False) ∧
    ∀ base : Heap, K.In base → base.Ns mainGlobals mg → (∀ p ∈ cs, LamX.TabB base mg p.1 p.2) → FnG l.prog w K mg base CX k fa fd [x] sp
end
/-! ### a call without arguments -/
section
variable {X : Cx} {k : Nat} {f : Addr} {fd : FuncData} {ps : List Str} {g : GS} {x : Str} {p pos : Pos}
end
end DL
/-! A new list by one of two ways. -/
namespace DL
open PySem PySem.Spec PyProof.Rows L2
variable [TabSet]
def nIf (tc : Wt) (fa fb : Wa) : Wa := fun ρ Q E => tc ρ (fun b ρ1 => Ite b (fa ρ1 Q E) (fb ρ1 Q E)) E
theorem i_nIf {tc : Wt} {fa fb : Wa} {ρ : Env} {QA : List D → Env → Prop} {E : Qx} (h : tc ρ (fun b ρ1 => Ite b (fa ρ1 QA E) (fb ρ1 QA E)) E) : nIf tc fa fb ρ QA E := h
end DL
namespace DL
open PySem PySem.Spec PyProof.Rows L2
/-! ### x in t, t a tuple -/
section
variable {X : Cx}
def rInT (K : PySem.W.Frag) : R2 := fun x y H Q => ∃ d ds, Dp K H x d ∧ Dp K H y (.tuple ds) ∧ SeqAt.shaped d = true ∧ SeqAt.shaped (.tuple ds) = true ∧ Q (.bl (ds.any fun z => PyData.eqv z d)) H
theorem op_inT (hu : X.A.units + 65 < cLine) : OpR X (compareOp .In) (rInT X.K) := by
  intro pins s σ H x y v u Q I rx ry h
  obtain ⟨d, ds, hd, he, sd, se, q⟩ := h
  obtain ⟨as, r1⟩ := Dp.reads I d x v hd rx
  obtain ⟨bs, r2⟩ := Dp.reads I (.tuple ds) y u he ry
  exact SeqAt.in_tuple_reads r2 r1 (SeqAt.canLay_of_shaped se) (SeqAt.canLay_of_shaped sd) (room_in_shaped sd hu) ⟨.bl _, H, I, rfl, q⟩
def gInT (neg : Bool) : G2 := fun x y Q => ∃ ys, y = .tup ys ∧ (x.flat 60 = true ∧ D.flatA 59 ys = true) ∧ Q (.bl (xor neg (hasD ys x)))
theorem gInT_mono {n : Bool} : ∀ x y (Q Q' : D → Prop), (∀ d, Q d → Q' d) → gInT n x y Q → gInT n x y Q' := fun _ _ _ _ h ⟨ys, e, f, q⟩ => ⟨ys, e, f, h _ q⟩
theorem op_InT (hu : X.A.units + 65 < cLine) : DOp X (compareOp .In) (gInT false) := by
  refine ⟨gInT_mono, _, op_inT hu, fun F H x y dx dy Q s d1 d2 ⟨ys, e, f, q⟩ => ?_⟩
  subst e
  have f2 : (D.tup ys).flat 60 = true := by rw [D.flat]; exact f.2
  refine ⟨_, _, (d1.mono s).dp f.1, (d2.mono s).dp f2, flat_shaped f.1 (by decide), flat_shaped f2 (by decide), ?_⟩
  have := q.1 _ (.bl _)
  rw [Bool.false_xor, ← hasD_py] at this
  exact this
theorem i_inT {n : Bool} {x : D} {ys : List D} {P : D → Prop} (h1 : x.flat 60 = true) (h2 : D.flatA 59 ys = true) (h : P (.bl (xor n (hasD ys x)))) : gInT n x (.tup ys) P := ⟨ys, rfl, ⟨h1, h2⟩, h⟩
end
end DL
namespace DL
open PySem PySem.Spec PyProof.Rows L2
local macro_rules | `(tactic| walk_at "d1") => `(tactic| first
  | ((with_reducible apply s_seqN4); (· (repeat (with_reducible first | exact set_z | apply set_s))); (· (repeat (with_reducible first | exact set_z | apply set_s))); (· (repeat (with_reducible first | exact set_z | apply set_s))); (· (repeat (with_reducible first | exact set_z | apply set_s))))
  | ((with_reducible apply s_seqN3); (· (repeat (with_reducible first | exact set_z | apply set_s))); (· (repeat (with_reducible first | exact set_z | apply set_s))); (· (repeat (with_reducible first | exact set_z | apply set_s))))
  | ((with_reducible apply s_seqN2); (· (repeat (with_reducible first | exact set_z | apply set_s))); (· (repeat (with_reducible first | exact set_z | apply set_s))))
  | ((with_reducible apply s_seqN); (· (repeat (with_reducible first | exact set_z | apply set_s))))
  | with_reducible refine s_seq ?_
  | ((with_reducible apply at_set2); (· (repeat (with_reducible first | exact set_z | apply set_s))); (· (repeat (with_reducible first | exact set_z | apply set_s))))
  | ((with_reducible apply at_set); (· (repeat (with_reducible first | exact set_z | apply set_s))))
  | with_reducible refine i_C ?_
  | ((with_reducible apply i_var); exact rfl)
  | with_reducible refine i_op ?_
  | with_reducible refine i_cons ?_
  | with_reducible refine i_nil ?_
  | with_reducible refine i_addI ?_
  | with_reducible refine i_gI0 ?_
  | ((with_reducible apply i_ixT); (first | exact rfl | exact atI_zero | exact atI_one | exact atI_two))
  | ((with_reducible apply i_ixL); (first | exact rfl | exact atI_zero | exact atI_one | exact atI_two))
  | (with_reducible refine i_tup ?_)
  | (with_reducible refine i_lst ?_)
  | (with_reducible refine i_nlst ?_)
  | with_reducible refine i_nlstC ?_
  | with_reducible refine i_test ?_
  | with_reducible refine i_bl ?_
  | with_reducible refine i_int ?_
  | with_reducible refine i_and ?_
  | with_reducible refine i_or ?_
  | with_reducible refine i_not ?_
  | with_reducible refine i_andV ?_
  | with_reducible refine i_orV ?_
  | with_reducible refine i_notV ?_
  | with_reducible refine i_if ?_
  | with_reducible refine i_neg ?_
  | with_reducible refine i_chain ?_
  | with_reducible refine i_call ?_
  | with_reducible refine i_callP ?_
  | with_reducible refine i_callPd ?_
  | with_reducible refine i_callN ?_
  | with_reducible refine i_callNK ?_
  | ((with_reducible apply i_callO); exact rfl)
  | with_reducible refine i_callK ?_
  | with_reducible refine i_nw ?_
  | with_reducible refine i_isi ?_
  | with_reducible refine i_lenT ?_
  | with_reducible refine i_lenL ?_
  | with_reducible refine i_lenR ?_
  | with_reducible refine i_tupCT ?_
  | with_reducible refine i_tupCL ?_
  | with_reducible refine i_lstCT ?_
  | with_reducible refine i_lstCL ?_
  | with_reducible refine i_abs ?_
  | with_reducible refine i_repr ?_
  | with_reducible refine i_max2 ?_
  | with_reducible refine i_min2 ?_
  | with_reducible refine i_intI ?_
  | with_reducible refine i_intB ?_
  | with_reducible refine i_isB ?_
  | with_reducible refine s_skip ?_
  | with_reducible refine s_ret ?_
  | with_reducible refine s_retN ?_
  | with_reducible refine s_retL ?_
  | with_reducible refine s_if ?_
  | with_reducible refine s_set ?_
  | with_reducible refine s_asg ?_
  | with_reducible refine s_new ?_
  | with_reducible refine s_expr ?_
  | with_reducible refine s_par2 ?_
  | with_reducible refine s_par3 ?_
  | with_reducible refine s_setI ?_
  | with_reducible refine s_for ?_
  | with_reducible refine s_brk ?_
  | with_reducible refine s_cnt ?_
  | with_reducible refine m_e ?_
  | with_reducible refine m_n ?_
  | with_reducible refine m_nil ?_
  | with_reducible refine i_m2 ?_
  | with_reducible refine i_m3 ?_
  | with_reducible refine i_setE ?_
  | ((with_reducible apply g_T); exact rfl)
  | ((with_reducible apply g_L); exact rfl)
  | with_reducible refine g_cons ?_
  | with_reducible refine g_nil ?_
  | with_reducible refine g_N ?_
  | with_reducible refine i_itemsI ?_
  | ((with_reducible apply i_items); exact rfl)
  | with_reducible refine i_r1 ?_
  | with_reducible refine i_r2 ?_
  | with_reducible refine i_r3 ?_
  | with_reducible refine i_zipD ?_
  | with_reducible refine i_zipM ?_
  | with_reducible refine i_enumD ?_
  | with_reducible refine i_enumA ?_
  | with_reducible refine i_tAll ?_
  | with_reducible refine i_cut ?_
  | with_reducible refine i_cutT ?_
  | with_reducible refine i_cutL ?_
  | with_reducible refine i_cutR ?_
  | with_reducible refine i_oN ?_
  | with_reducible refine i_oS ?_
  | with_reducible refine i_star ?_
  | ((with_reducible apply i_frz); exact rfl)
  | ((with_reducible apply i_frz2); exact rfl)
  | ((with_reducible apply i_own); exact rfl)
  | ((with_reducible apply i_lenO); exact rfl)
  | ((with_reducible apply i_tupO); exact rfl)
  | ((with_reducible apply i_ixO); exact rfl)
  | ((with_reducible apply i_mt); exact rfl)
  | ((with_reducible refine i_eq ?_ ?_ ?_); (exact rfl); (exact rfl))
  | ((with_reducible refine i_ne ?_ ?_ ?_); (exact rfl); (exact rfl))
  | ((with_reducible apply i_ixO2); exact rfl; (first | exact rfl | exact atI_zero | exact atI_one | exact atI_two))
  | ((with_reducible apply i_own2); exact rfl)
  | ((with_reducible apply i_setI2); exact rfl; exact rfl)
  | ((with_reducible apply i_ext0); exact rfl)
  | ((with_reducible apply s_aug); exact rfl)
  | with_reducible refine i_lc ?_
  | with_reducible refine i_dc ?_
  | with_reducible refine i_dix ?_
  | with_reducible refine i_din ?_
  | with_reducible refine i_get1 ?_
  | with_reducible refine i_get2 ?_
  | with_reducible refine i_dict0 ?_
  | with_reducible refine i_boolI ?_
  | with_reducible refine i_keysD ?_
  | with_reducible refine i_lstK ?_
  | with_reducible refine i_lenK ?_
  | with_reducible refine is_dct ?_
  | (with_reducible refine i_setN ?_; intro _)
  | ((with_reducible refine i_mod ?_ ?_); (first | decide | omega))
  | ((with_reducible refine i_div ?_ ?_); exact DivOk.lit (by decide) (by decide +kernel))
  | ((with_reducible refine i_mulI ?_ ?_); (first | exact .inr (.inr (by decide)) | exact .inr (.inl (by decide)) | assumption))
  | ((with_reducible refine i_pow ?_ ?_); exact ⟨by decide, by decide, by decide⟩)
  | ((with_reducible refine i_app ?_ ?_); exact le_rfl' rfl)
  | ((with_reducible apply i_opO); exact rfl)
  | with_reducible refine i_opR ?_
  | with_reducible refine i_step ?_
  | with_reducible refine i_revL ?_
  | with_reducible refine i_back ?_
  | with_reducible refine i_back2 ?_
  | with_reducible refine i_stepL ?_
  | ((with_reducible apply i_callLoc); exact rfl)
  | ((with_reducible apply i_lcEO); exact rfl)
  | ((with_reducible apply i_cutO); exact rfl)
  | with_reducible refine i_nAdd ?_
  | with_reducible refine i_nIf ?_
  | with_reducible refine s_raise ?_
  | with_reducible refine s_raiseV ?_
  | with_reducible refine i_ok ?_
  | with_reducible refine i_er ?_
  | with_reducible refine i_isB ?_
  | with_reducible refine s_try ?_
  | ((with_reducible apply i_told); exact rfl)
  | with_reducible refine Ite.tt ?_
  | with_reducible refine Ite.nt ?_
  | with_reducible refine Ite.nf ?_
  | with_reducible refine Ite.ff ?_)
local macro_rules | `(tactic| walk_at "s") => `(tactic| ((with_reducible refine i_side ?_ ?_); (first | exact le_rfl' rfl | assumption | rfl | (constructor <;> rfl))))
local macro_rules | `(tactic| walk_at "d") => `(tactic| repeat (first | walk_at "d1" | walk_at "s"))
abbrev C_MOST_POINT : D := .int 1000000000000000000000000000000000000000000000000000000000000
abbrev C_MOST_CORNERS : D := .int 60
def topS (i : Nat) : Stmt := PySem.Challenge.pw_gridshapes_k18_whole_rest_papers_by_anyo.main.body.getD i (.Pass ⟨0, 0, 0, 0⟩)

theorem pool_ok (c m : Int) (k : Int) (hm : m = if -1 - c > c then -1 - c else c) : SrcOk (m * (if decide (10 ^ (18 : Int).toNat ≤ m) = true then 1 else 0)) (((m.fmod 2147483629 + 7919 * k * k + 31 * k + 17) * 48271).fmod 2147483647) := by
  have h0 : 0 ≤ m := by rw [hm]; split <;> omega
  refine ⟨?_, Int.fmod_nonneg_of_pos _ (by decide), Int.fmod_lt_of_pos _ (by decide)⟩
  split <;> omega
theorem bool_small {b : Bool} : (if b = true then (1 : Int) else 0).natAbs < 2 ^ 64 := by cases b <;> decide

def S_Lpool : GN := fun ds0 Q _ => ∃ (ns : List Int) (k : Nat), ds0 = [.ro (ns.map D.int), .int k] ∧ (ns.length ≤ 63 ∧ k < 64) ∧ ∀ (a b : Int), (SrcOk a b) → Q [.int a, .int b]
theorem M_Lpool : MonoN S_Lpool := fun _ _ _ _ _ hQ _ ⟨ns, k, e9, p9, q9⟩ => ⟨ns, k, e9, p9, fun a b c9 => hQ _ (q9 a b c9)⟩
theorem Z_Lpool : ∀ ds Q E, S_Lpool ds Q E → ds.length = 2 := fun _ _ _ ⟨ns, k, e9, _⟩ => by rw [e9]; rfl
theorem t_Lpool {ns : List Int} {k : Nat} {Q : List D → Prop} {E : Exc → Prop} (p9 : ns.length ≤ 63 ∧ k < 64) (h9 : ∀ (a b : Int), (SrcOk a b) → Q [.int a, .int b]) : S_Lpool [.ro (ns.map D.int), .int k] Q E := ⟨ns, k, rfl, p9, h9⟩

def S_Ltake : GO := fun xs0 ds0 Q _ => ∃ (a b n : Int), xs0 = [.int a, .int b] ∧ ds0 = [.int n] ∧ (SrcOk a b ∧ 0 < n ∧ n.natAbs < 2 ^ 8000) ∧ ∀ (r a2 b2 : Int), ((0 ≤ r ∧ r < n) ∧ SrcOk a2 b2) → Q (.int r) [.int a2, .int b2]
theorem M_Ltake : MonoO S_Ltake := fun _ _ _ _ _ _ hQ _ ⟨a, b, n, e19, e29, p9, q9⟩ => ⟨a, b, n, e19, e29, p9, fun r a2 b2 c9 => hQ _ _ (q9 r a2 b2 c9)⟩
theorem Z_Ltake : ∀ xs ds Q E, S_Ltake xs ds Q E → ds.length + 1 = 2 := fun _ _ _ _ ⟨a, b, n, e19, e29, _⟩ => by rw [e29]; rfl
theorem t_Ltake {a b n : Int} {Q : D → List D → Prop} {E : Exc → Prop} (p9 : SrcOk a b ∧ 0 < n ∧ n.natAbs < 2 ^ 8000) (h9 : ∀ (r a2 b2 : Int), ((0 ≤ r ∧ r < n) ∧ SrcOk a2 b2) → Q (.int r) [.int a2, .int b2]) : S_Ltake [.int a, .int b] [.int n] Q E := ⟨a, b, n, rfl, rfl, p9, h9⟩


theorem atI_mem {xs : List D} {r : Int} (h0 : 0 ≤ r) (h1 : r < xs.length) : ∃ d, atI xs r = some d ∧ d ∈ xs := by
  obtain ⟨n, rfl⟩ := Int.eq_ofNat_of_zero_le h0
  have hk : n < xs.length := by omega
  exact ⟨xs[n], atI_nat (List.getElem?_eq_getElem hk), List.getElem_mem hk⟩

def S_Lone : GO := fun xs0 ds0 Q _ => ∃ (a b : Int) (xs : List D) (d0 : D), xs0 = [.int a, .int b] ∧ ds0 = [d0] ∧ ((d0 = .lst xs ∨ d0 = .tup xs) ∧ SrcOk a b ∧ 0 < xs.length ∧ xs.length ≤ 1000) ∧ ∀ (d : D) (a2 b2 : Int), (d ∈ xs ∧ SrcOk a2 b2) → Q d [.int a2, .int b2]
theorem M_Lone : MonoO S_Lone := fun _ _ _ _ _ _ hQ _ ⟨a, b, xs, d0, e19, e29, p9, q9⟩ => ⟨a, b, xs, d0, e19, e29, p9, fun d a2 b2 c9 => hQ _ _ (q9 d a2 b2 c9)⟩
theorem Z_Lone : ∀ xs ds Q E, S_Lone xs ds Q E → ds.length + 1 = 2 := fun _ _ _ _ ⟨a, b, xs, d0, e19, e29, _⟩ => by rw [e29]; rfl
theorem t_Lone {a b : Int} {xs : List D} {d0 : D} {Q : D → List D → Prop} {E : Exc → Prop} (p9 : (d0 = .lst xs ∨ d0 = .tup xs) ∧ SrcOk a b ∧ 0 < xs.length ∧ xs.length ≤ 1000) (h9 : ∀ (d : D) (a2 b2 : Int), (d ∈ xs ∧ SrcOk a2 b2) → Q d [.int a2, .int b2]) : S_Lone [.int a, .int b] [d0] Q E := ⟨a, b, xs, d0, rfl, rfl, p9, h9⟩


theorem atI_last {α : Type} {xs : List α} {a : α} (h : xs[xs.length - 1]? = some a) : atI xs (-1) = some a := by
  have hl : 0 < xs.length := by
    rcases Nat.eq_zero_or_pos xs.length with z | z
    · rw [List.length_eq_zero_iff] at z; subst z; cases h
    · exact z
  unfold atI ixN
  rw [if_neg (by omega), if_pos (by omega)]
  show xs[(-1 + (xs.length : Int)).toNat]? = some a
  rw [show (-1 + (xs.length : Int)).toNat = xs.length - 1 from by omega]; exact h
theorem drop_cons_get {α : Type} {xs : List α} {i : Nat} (h : i < xs.length) : xs.drop i = xs[i] :: xs.drop (i + 1) := List.drop_eq_getElem_cons h
theorem atI_map {α : Type} {f : α → D} {xs : List α} {i : Nat} (h : i < xs.length) : atI (xs.map f) (i : Int) = some (f xs[i]) := atI_nat (by rw [List.getElem?_map, List.getElem?_eq_getElem h]; rfl)
theorem sizeL {n : Nat} (h : n ≤ 1000) : n ≤ sizeLine := Nat.le_trans h (le_rfl' rfl)
theorem sizeL' {n : Nat} (h : n < 1000) : n < sizeLine := Nat.lt_of_lt_of_le h (le_rfl' rfl)
def S_is_whole : GS := fun ds0 Q _ => ∃ (d : D), ds0 = [d] ∧ (isO d = false) ∧ Q (.bl (isWhole d))
theorem M_is_whole : MonoP S_is_whole := fun _ _ _ _ _ hQ _ ⟨d, e9, p9, q9⟩ => ⟨d, e9, p9, hQ _ q9⟩
theorem Z_is_whole : ∀ ds Q E, S_is_whole ds Q E → ds.length = 1 := fun _ _ _ ⟨d, e9, _⟩ => by rw [e9]; rfl
theorem t_is_whole {d : D} {Q : D → Prop} {E : Exc → Prop} (p9 : isO d = false) (h9 : Q (.bl (isWhole d))) : S_is_whole [d] Q E := ⟨d, rfl, p9, h9⟩

def S_is_number : GS := fun ds0 Q _ => ∃ (d : D) (a b : Int), ds0 = [d, .int a, .int b] ∧ (isO d = false) ∧ Q (.bl (numIn a b d))
theorem M_is_number : MonoP S_is_number := fun _ _ _ _ _ hQ _ ⟨d, a, b, e9, p9, q9⟩ => ⟨d, a, b, e9, p9, hQ _ q9⟩
theorem Z_is_number : ∀ ds Q E, S_is_number ds Q E → ds.length = 3 := fun _ _ _ ⟨d, a, b, e9, _⟩ => by rw [e9]; rfl
theorem t_is_number {d : D} {a b : Int} {Q : D → Prop} {E : Exc → Prop} (p9 : isO d = false) (h9 : Q (.bl (numIn a b d))) : S_is_number [d, .int a, .int b] Q E := ⟨d, a, b, rfl, p9, h9⟩

def S_is_tuple_of : GS := fun ds0 Q _ => ∃ (d : D) (n : Int), ds0 = [d, .int n] ∧ (isO d = false) ∧ Q (.bl (tupN n d))
theorem M_is_tuple_of : MonoP S_is_tuple_of := fun _ _ _ _ _ hQ _ ⟨d, n, e9, p9, q9⟩ => ⟨d, n, e9, p9, hQ _ q9⟩
theorem Z_is_tuple_of : ∀ ds Q E, S_is_tuple_of ds Q E → ds.length = 2 := fun _ _ _ ⟨d, n, e9, _⟩ => by rw [e9]; rfl
theorem t_is_tuple_of {d : D} {n : Int} {Q : D → Prop} {E : Exc → Prop} (p9 : isO d = false) (h9 : Q (.bl (tupN n d))) : S_is_tuple_of [d, .int n] Q E := ⟨d, n, rfl, p9, h9⟩

def S_sign_of : GS := fun ds0 Q _ => ∃ (n : Int), ds0 = [.int n] ∧ (True) ∧ Q (.int (sgn n))
theorem M_sign_of : MonoP S_sign_of := fun _ _ _ _ _ hQ _ ⟨n, e9, p9, q9⟩ => ⟨n, e9, p9, hQ _ q9⟩
theorem Z_sign_of : ∀ ds Q E, S_sign_of ds Q E → ds.length = 1 := fun _ _ _ ⟨n, e9, _⟩ => by rw [e9]; rfl
theorem t_sign_of {n : Int} {Q : D → Prop} {E : Exc → Prop} (p9 : True) (h9 : Q (.int (sgn n))) : S_sign_of [.int n] Q E := ⟨n, rfl, p9, h9⟩

def S_is_pair_within : GS := fun ds0 Q _ => ∃ (d : D) (m : Int), ds0 = [d, .int m] ∧ (okP d = true) ∧ Q (.bl (pairIn m d))
theorem M_is_pair_within : MonoP S_is_pair_within := fun _ _ _ _ _ hQ _ ⟨d, m, e9, p9, q9⟩ => ⟨d, m, e9, p9, hQ _ q9⟩
theorem Z_is_pair_within : ∀ ds Q E, S_is_pair_within ds Q E → ds.length = 2 := fun _ _ _ ⟨d, m, e9, _⟩ => by rw [e9]; rfl
theorem t_is_pair_within {d : D} {m : Int} {Q : D → Prop} {E : Exc → Prop} (p9 : okP d = true) (h9 : Q (.bl (pairIn m d))) : S_is_pair_within [d, .int m] Q E := ⟨d, m, rfl, p9, h9⟩


def crs (p q : Int × Int) : Int := p.1 * q.2 - p.2 * q.1
def SmP (p : Int × Int) : Prop := Sm p.1 ∧ Sm p.2
theorem Sm.mul {x y : Int} (h : Sm x) (k : Sm y) : MulOk x y := MulOk.of h k (by decide +kernel)
theorem Sm.of {x : Int} {n : Nat} (h : x.natAbs < n) (hn : n ≤ 2 ^ 4000 := by decide +kernel) : Sm x := Nat.lt_of_lt_of_le h hn
def upp (p : Int × Int) : Bool := decide (0 < p.2) || (decide (p.2 = 0) && decide (0 < p.1))
theorem upp_iff2 (p : Int × Int) : upp p = true ↔ 0 < p.2 ∨ (p.2 = 0 ∧ 0 < p.1) := by unfold upp; simp
def slope (p q : Int × Int) : Int := if upp p ≠ upp q then (if upp p = true then -1 else 1) else -sgn (crs p q)

def S_cross_of : GS := fun ds0 Q _ => ∃ (p q : Int × Int), ds0 = [pt p, pt q] ∧ (SmP p ∧ SmP q) ∧ Q (.int (crs p q))
theorem M_cross_of : MonoP S_cross_of := fun _ _ _ _ _ hQ _ ⟨p, q, e9, p9, q9⟩ => ⟨p, q, e9, p9, hQ _ q9⟩
theorem Z_cross_of : ∀ ds Q E, S_cross_of ds Q E → ds.length = 2 := fun _ _ _ ⟨p, q, e9, _⟩ => by rw [e9]; rfl
theorem t_cross_of {p q : Int × Int} {Q : D → Prop} {E : Exc → Prop} (p9 : SmP p ∧ SmP q) (h9 : Q (.int (crs p q))) : S_cross_of [pt p, pt q] Q E := ⟨p, q, rfl, p9, h9⟩

def S_is_upper : GS := fun ds0 Q _ => ∃ (p : Int × Int), ds0 = [pt p] ∧ (True) ∧ Q (.bl (upp p))
theorem M_is_upper : MonoP S_is_upper := fun _ _ _ _ _ hQ _ ⟨p, e9, p9, q9⟩ => ⟨p, e9, p9, hQ _ q9⟩
theorem Z_is_upper : ∀ ds Q E, S_is_upper ds Q E → ds.length = 1 := fun _ _ _ ⟨p, e9, _⟩ => by rw [e9]; rfl
theorem t_is_upper {p : Int × Int} {Q : D → Prop} {E : Exc → Prop} (p9 : True) (h9 : Q (.bl (upp p))) : S_is_upper [pt p] Q E := ⟨p, rfl, p9, h9⟩

def S_slope_order : GS := fun ds0 Q _ => ∃ (p q : Int × Int), ds0 = [pt p, pt q] ∧ (SmP p ∧ SmP q) ∧ Q (.int (slope p q))
theorem M_slope_order : MonoP S_slope_order := fun _ _ _ _ _ hQ _ ⟨p, q, e9, p9, q9⟩ => ⟨p, q, e9, p9, hQ _ q9⟩
theorem Z_slope_order : ∀ ds Q E, S_slope_order ds Q E → ds.length = 2 := fun _ _ _ ⟨p, q, e9, _⟩ => by rw [e9]; rfl
theorem t_slope_order {p q : Int × Int} {Q : D → Prop} {E : Exc → Prop} (p9 : SmP p ∧ SmP q) (h9 : Q (.int (slope p q))) : S_slope_order [pt p, pt q] Q E := ⟨p, q, rfl, p9, h9⟩


abbrev Pt := Int × Int
theorem slope_total {p q : Pt} (h : ¬ slope p q ≤ 0) : slope q p ≤ 0 := by
  unfold slope sgn crs at *
  by_cases e : upp p = upp q
  · rw [if_neg (by simp [e])] at h
    rw [if_neg (by simp [e])]
    have e2 : q.1 * p.2 - q.2 * p.1 = -(p.1 * q.2 - p.2 * q.1) := by rw [Int.mul_comm q.1, Int.mul_comm q.2]; omega
    rw [e2]
    split at h <;> split <;> omega
  · rw [if_pos e] at h
    rw [if_pos (fun z => e z.symm)]
    cases hp : upp p <;> cases hq : upp q <;> rw [hp] at h e <;> rw [hq] at e <;> simp at h e ⊢
theorem sgn_le {n : Int} : -sgn n ≤ 0 ↔ 0 ≤ n := by unfold sgn; split <;> (try split) <;> omega
theorem crs_id2 (u v w : Pt) : crs u w * v.2 = crs v w * u.2 + crs u v * w.2 := by unfold crs; grind
theorem crs_trans {u v w : Pt} (hu : upp u = true) (hv : upp v = true) (hw : upp w = true) (h1 : 0 ≤ crs u v) (h2 : 0 ≤ crs v w) : 0 ≤ crs u w := by
  have pu := (upp_iff2 u).mp hu
  have pv := (upp_iff2 v).mp hv
  have pw := (upp_iff2 w).mp hw
  have i2 := crs_id2 u v w
  have nu : 0 ≤ u.2 := by omega
  have nw : 0 ≤ w.2 := by omega
  have a := Int.mul_nonneg h2 nu
  have b := Int.mul_nonneg h1 nw
  rcases pv with pv | ⟨pv, pv1⟩
  · by_cases z : 0 ≤ crs u w
    · exact z
    · have := Int.mul_neg_of_neg_of_pos (Int.not_le.mp z) pv
      omega
  · -- v along the axis
    have c : crs u v = -(u.2 * v.1) := by unfold crs; rw [pv]; simp
    have d : 0 ≤ u.2 * v.1 := Int.mul_nonneg nu (by omega)
    have e : u.2 * v.1 = 0 := by omega
    have f : u.2 = 0 := by
      rcases Int.mul_eq_zero.mp e with z | z
      · exact z
      · omega
    have g : 0 < u.1 := by omega
    unfold crs
    rw [f]
    have := Int.mul_nonneg (Int.le_of_lt g) nw
    omega
theorem crs_neg (u w : Pt) : crs (-u.1, -u.2) (-w.1, -w.2) = crs u w := by
  show -u.1 * -w.2 - -u.2 * -w.1 = u.1 * w.2 - u.2 * w.1
  rw [Int.neg_mul_neg, Int.neg_mul_neg]
theorem upp_iff2' (p : Pt) : upp p = false ↔ ¬ (0 < p.2 ∨ (p.2 = 0 ∧ 0 < p.1)) := by rw [Bool.eq_false_iff, ne_eq, upp_iff2]
theorem upp_neg {p : Pt} (h : p ≠ (0, 0)) (hp : upp p = false) : upp (-p.1, -p.2) = true := by
  have h' : ¬ (p.1 = 0 ∧ p.2 = 0) := fun z => h (Prod.ext z.1 z.2)
  have := (upp_iff2' p).mp hp
  rw [upp_iff2]
  show 0 < -p.2 ∨ (-p.2 = 0 ∧ 0 < -p.1)
  omega
theorem slope_trans {u v w : Pt} (hu : u ≠ (0, 0)) (hv : v ≠ (0, 0)) (hw : w ≠ (0, 0)) (h1 : slope u v ≤ 0) (h2 : slope v w ≤ 0) : slope u w ≤ 0 := by
  unfold slope at *
  cases a : upp u <;> cases b : upp v <;> cases c : upp w <;> simp only [a, b, c, ne_eq, not_true_eq_false, if_false, if_true, reduceCtorEq, not_false_eq_true, Bool.false_eq_true, Bool.true_eq_false] at h1 h2 ⊢ <;> first | omega | skip
  · rw [sgn_le] at *
    rw [← crs_neg] at *
    exact crs_trans (upp_neg hu a) (upp_neg hv b) (upp_neg hw c) h1 h2
  · rw [sgn_le] at *
    exact crs_trans a b c h1 h2


/-- from p to q -/
def toV (p q : Pt) : Pt := (q.1 - p.1, q.2 - p.2)
def dotP (p q : Pt) : Int := p.1 * q.1 + p.2 * q.2
def sizeP (p q : Pt) : Int := dotP (toV p q) (toV p q)
/-- the half plane to the left of d, with the ray against d -/
def InH (d w : Pt) : Prop := 0 < crs d w ∨ (crs d w = 0 ∧ dotP d w < 0)
theorem crs_tri (u v w : Pt) : (crs u w * v.1 = crs v w * u.1 + crs u v * w.1) ∧ (crs u w * v.2 = crs v w * u.2 + crs u v * w.2) := by unfold crs; constructor <;> grind
theorem lagr (u v : Pt) : crs u v * crs u v + dotP u v * dotP u v = dotP u u * dotP v v := by unfold crs dotP; grind
theorem sqn (a : Int) : 0 ≤ a * a := by
  rcases Int.le_total 0 a with h | h
  · exact Int.mul_nonneg h h
  · exact Int.mul_nonneg_of_nonpos_of_nonpos h h
theorem sqp {a : Int} (h : a ≠ 0) : 0 < a * a := by
  rcases Int.lt_or_gt_of_ne h with h | h
  · exact Int.mul_pos_of_neg_of_neg h h
  · exact Int.mul_pos h h
theorem dot_self_pos {u : Pt} (h : u ≠ (0, 0)) : 0 < dotP u u := by
  have h' : u.1 ≠ 0 ∨ u.2 ≠ 0 := by
    by_cases a : u.1 = 0
    · right; intro b; exact h (Prod.ext a b)
    · left; exact a
  have a := sqn u.1
  have b := sqn u.2
  unfold dotP
  rcases h' with h' | h'
  · have := sqp h'; omega
  · have := sqp h'; omega
/-- crs in the frame of d -/
theorem frame (d u v : Pt) : crs u v * dotP d d = dotP d u * crs d v - crs d u * dotP d v := by unfold crs dotP; grind
theorem InH.ne {d w : Pt} (h : InH d w) : w ≠ (0, 0) := by
  rintro rfl
  rcases h with h | ⟨_, h⟩
  · unfold crs at h; simp at h
  · unfold dotP at h; simp at h
theorem InH.dne {d w : Pt} (h : InH d w) : d ≠ (0, 0) := by
  rintro rfl
  rcases h with h | ⟨_, h⟩
  · unfold crs at h; simp at h
  · unfold dotP at h; simp at h
/-- no two of a half plane lie opposite -/
theorem InH.noopp {d u v : Pt} (hu : InH d u) (hv : InH d v) (h : crs u v = 0) : 0 < dotP u v := by
  have hd := dot_self_pos hu.dne
  have f := frame d u v
  rw [h, Int.zero_mul] at f
  have g : dotP u v * dotP d d = dotP d u * dotP d v + crs d u * crs d v := by unfold crs dotP; grind
  have key : 0 < dotP d u * dotP d v + crs d u * crs d v := by
    rcases hu with hu | ⟨hu, hu2⟩ <;> rcases hv with hv | ⟨hv, hv2⟩
    · -- both strictly left: dot d u / crs d u = dot d v / crs d v
      have p := Int.mul_pos hu hv
      by_cases z : 0 ≤ dotP d u * dotP d v
      · omega
      · exfalso
        have e : dotP d u * crs d v = crs d u * dotP d v := by omega
        by_cases s : 0 ≤ dotP d u
        · have := Int.mul_nonneg s (Int.le_of_lt hv)
          by_cases s2 : 0 ≤ dotP d v
          · exact z (Int.mul_nonneg s s2)
          · have := Int.mul_neg_of_pos_of_neg hu (Int.not_le.mp s2)
            omega
        · have := Int.mul_neg_of_neg_of_pos (Int.not_le.mp s) hv
          by_cases s2 : 0 ≤ dotP d v
          · have := Int.mul_nonneg (Int.le_of_lt hu) s2
            omega
          · exact z (Int.le_of_lt (Int.mul_pos_of_neg_of_neg (Int.not_le.mp s) (Int.not_le.mp s2)))
    · rw [hv, Int.mul_zero, Int.zero_sub] at f
      have := Int.mul_neg_of_pos_of_neg hu hv2
      omega
    · rw [hu, Int.zero_mul, Int.sub_zero] at f
      have := Int.mul_neg_of_neg_of_pos hu2 hv
      omega
    · rw [hu, Int.zero_mul]
      have := Int.mul_pos_of_neg_of_neg hu2 hv2
      omega
  by_cases z : 0 < dotP u v
  · exact z
  · have := Int.mul_nonpos_of_nonpos_of_nonneg (Int.not_lt.mp z) (Int.le_of_lt hd)
    omega
/-- cross is transitive within a half plane -/
theorem InH.trans {d u v w : Pt} (hu : InH d u) (hv : InH d v) (hw : InH d w) (h1 : 0 ≤ crs u v) (h2 : 0 ≤ crs v w) : 0 ≤ crs u w := by
  have hd := dot_self_pos hu.dne
  have cu : 0 ≤ crs d u := by rcases hu with h | h <;> omega
  have cw : 0 ≤ crs d w := by rcases hw with h | h <;> omega
  have idc : crs u w * crs d v = crs v w * crs d u + crs u v * crs d w := by unfold crs; grind
  have idd : crs u w * dotP d v = crs v w * dotP d u + crs u v * dotP d w := by unfold crs dotP; grind
  by_cases z : 0 ≤ crs u w
  · exact z
  · exfalso
    have zn := Int.not_le.mp z
    have a := Int.mul_nonneg h2 cu
    have b := Int.mul_nonneg h1 cw
    rcases hv with hv | ⟨hv, hv2⟩
    · have := Int.mul_neg_of_neg_of_pos zn hv
      omega
    · -- v against d
      have f2 := frame d v w
      rw [hv, Int.zero_mul, Int.sub_zero] at f2
      have g1 := Int.mul_nonneg h2 (Int.le_of_lt hd)
      have cw0 : crs d w = 0 := by
        rcases Int.lt_or_eq_of_le cw with c | c
        · have := Int.mul_neg_of_neg_of_pos hv2 c
          omega
        · exact c.symm
      have dw : dotP d w < 0 := by rcases hw with h | h <;> omega
      have f3 := frame d u w
      rw [cw0, Int.mul_zero, Int.zero_sub] at f3
      have g2 := Int.mul_nonpos_of_nonneg_of_nonpos cu (Int.le_of_lt dw)
      have g3 := Int.mul_neg_of_neg_of_pos zn hd
      omega
/-! ### the next corner -/
/-- q is not behind b, as seen from h -/
def Bhd (h b q : Pt) : Prop := 0 < crs (toV h b) (toV h q) ∨ (crs (toV h b) (toV h q) = 0 ∧ sizeP h q ≤ sizeP h b)
def stepB (h : Pt) (best : Option Pt) (q : Pt) : Option Pt :=
  if q = h then best else match best with
    | none => some q
    | some b => if 0 < crs (toV h q) (toV h b) ∨ (crs (toV h q) (toV h b) = 0 ∧ sizeP h b < sizeP h q) then some q else some b
def nxt (S : List Pt) (h : Pt) : Option Pt := S.foldl (stepB h) none
theorem toV_ne {h q : Pt} (n : q ≠ h) : toV h q ≠ (0, 0) := fun z => n (by
  have a := congrArg Prod.fst z
  have b := congrArg Prod.snd z
  unfold toV at a b
  exact Prod.ext (by omega) (by omega))
theorem crs_anti (u v : Pt) : crs u v = -crs v u := by unfold crs; grind
theorem crs_self (u : Pt) : crs u u = 0 := by unfold crs; grind
theorem Bhd.refl (h b : Pt) : Bhd h b b := .inr ⟨crs_self _, Int.le_refl _⟩
/-- in a half plane: seen from h, b before c and c before q -/
theorem Bhd.trans {d h b c q : Pt} (hb : InH d (toV h b)) (hc : InH d (toV h c)) (hq : InH d (toV h q)) (h1 : Bhd h b c) (h2 : Bhd h c q) : Bhd h b q := by
  have p1 : 0 ≤ crs (toV h b) (toV h c) := by rcases h1 with h | h <;> omega
  have p2 : 0 ≤ crs (toV h c) (toV h q) := by rcases h2 with h | h <;> omega
  have p3 := InH.trans hb hc hq p1 p2
  rcases Int.lt_or_eq_of_le p3 with p | p
  · exact .inl p
  · refine .inr ⟨p.symm, ?_⟩
    -- all on one ray
    have q1 : 0 ≤ crs (toV h q) (toV h b) := by rw [crs_anti]; omega
    have e1 : crs (toV h b) (toV h c) = 0 := by
      have := InH.trans hc hq hb p2 q1
      rw [crs_anti] at this; omega
    have e2 : crs (toV h c) (toV h q) = 0 := by
      have := InH.trans hq hb hc q1 p1
      rw [crs_anti] at this; omega
    rcases h1 with h1 | ⟨_, h1⟩
    · omega
    · rcases h2 with h2 | ⟨_, h2⟩
      · omega
      · omega
theorem Bhd.total {d h b q : Pt} (hb : InH d (toV h b)) (hq : InH d (toV h q)) (n : ¬ (0 < crs (toV h q) (toV h b) ∨ (crs (toV h q) (toV h b) = 0 ∧ sizeP h b < sizeP h q))) : Bhd h b q := by
  unfold Bhd
  have := crs_anti (toV h q) (toV h b)
  omega
/-- what a walk over T finds, best being had -/
def NX (S : List Pt) (h : Pt) (best : Option Pt) (T : List Pt) (r : Option Pt) : Prop :=
  (r = none → best = none ∧ ∀ q ∈ T, q = h) ∧ ∀ b, r = some b → b ∈ S ∧ b ≠ h ∧ (∀ c, best = some c → Bhd h b c) ∧ ∀ q ∈ T, q ≠ h → Bhd h b q
theorem nxt_gen {S : List Pt} {h d : Pt} (hd : ∀ q ∈ S, q ≠ h → InH d (toV h q)) : ∀ {T : List Pt} {best : Option Pt}, (∀ q ∈ T, q ∈ S) → (∀ b, best = some b → b ∈ S ∧ b ≠ h) → NX S h best T (T.foldl (stepB h) best) := by
  intro T
  induction T with
  | nil =>
    intro best _ hb
    refine ⟨fun e => ⟨e, by simp⟩, fun b e => ?_⟩
    have e' : best = some b := e
    subst e'
    exact ⟨(hb b rfl).1, (hb b rfl).2, fun c e => by cases e; exact Bhd.refl _ _, by simp⟩
  | cons q T ih =>
    intro best hT hb
    rw [List.foldl_cons]
    have hq := hT q List.mem_cons_self
    have hT' : ∀ p ∈ T, p ∈ S := fun p hp => hT p (List.mem_cons_of_mem _ hp)
    by_cases e : q = h
    · rw [show stepB h best q = best from if_pos e]
      obtain ⟨i1, i2⟩ := ih hT' hb
      refine ⟨fun z => ⟨(i1 z).1, fun p hp => ?_⟩, fun b z => ?_⟩
      · rcases List.mem_cons.mp hp with y | y
        · rw [y]; exact e
        · exact (i1 z).2 p y
      · obtain ⟨j1, j2, j3, j4⟩ := i2 b z
        refine ⟨j1, j2, j3, fun p hp hn => ?_⟩
        rcases List.mem_cons.mp hp with y | y
        · exact absurd (y.trans e) hn
        · exact j4 p y hn
    · have cq := hd q hq e
      cases best with
      | none =>
        rw [show stepB h none q = some q from if_neg e]
        obtain ⟨i1, i2⟩ := ih hT' (best := some q) (fun b z => by cases z; exact ⟨hq, e⟩)
        refine ⟨fun z => (by cases (i1 z).1), fun b z => ?_⟩
        obtain ⟨j1, j2, j3, j4⟩ := i2 b z
        refine ⟨j1, j2, fun c z => (by cases z), fun p hp hn => ?_⟩
        rcases List.mem_cons.mp hp with y | y
        · rw [y]; exact j3 q rfl
        · exact j4 p y hn
      | some c =>
        obtain ⟨hc, nc⟩ := hb c rfl
        have cc := hd c hc nc
        by_cases t : 0 < crs (toV h q) (toV h c) ∨ (crs (toV h q) (toV h c) = 0 ∧ sizeP h c < sizeP h q)
        · rw [show stepB h (some c) q = some q from (if_neg e).trans (if_pos t)]
          obtain ⟨i1, i2⟩ := ih hT' (best := some q) (fun b z => by cases z; exact ⟨hq, e⟩)
          refine ⟨fun z => (by cases (i1 z).1), fun b z => ?_⟩
          obtain ⟨j1, j2, j3, j4⟩ := i2 b z
          have bq := j3 q rfl
          have qc : Bhd h q c := by rcases t with t | t; exact .inl t; exact .inr ⟨t.1, by omega⟩
          refine ⟨j1, j2, fun c' z => (by cases z; exact Bhd.trans (hd b j1 j2) cq cc bq qc), fun p hp hn => ?_⟩
          rcases List.mem_cons.mp hp with y | y
          · rw [y]; exact bq
          · exact j4 p y hn
        · rw [show stepB h (some c) q = some c from (if_neg e).trans (if_neg t)]
          obtain ⟨i1, i2⟩ := ih hT' (best := some c) (fun b z => by cases z; exact ⟨hc, nc⟩)
          refine ⟨fun z => (by cases (i1 z).1), fun b z => ?_⟩
          obtain ⟨j1, j2, j3, j4⟩ := i2 b z
          refine ⟨j1, j2, j3, fun p hp hn => ?_⟩
          rcases List.mem_cons.mp hp with y | y
          · rw [y]; exact Bhd.trans (hd b j1 j2) cc cq (j3 c rfl) (Bhd.total cc cq t)
          · exact j4 p y hn
theorem nxt_none {S : List Pt} {h d : Pt} (hd : ∀ q ∈ S, q ≠ h → InH d (toV h q)) (e : nxt S h = none) : ∀ q ∈ S, q = h :=
  ((nxt_gen hd (T := S) (best := none) (fun _ z => z) fun _ z => by cases z).1 e).2
theorem nxt_some {S : List Pt} {h d b : Pt} (hd : ∀ q ∈ S, q ≠ h → InH d (toV h q)) (e : nxt S h = some b) : b ∈ S ∧ b ≠ h ∧ ∀ q ∈ S, q ≠ h → Bhd h b q := by
  obtain ⟨h1, h2, _, h3⟩ := (nxt_gen hd (T := S) (best := none) (fun _ z => z) fun _ z => by cases z).2 b e
  exact ⟨h1, h2, h3⟩
/-- at the next corner all lie in the half plane of the side that led there -/
theorem next_cone {S : List Pt} {h d b : Pt} (hd : ∀ q ∈ S, q ≠ h → InH d (toV h q)) (e : nxt S h = some b) : ∀ q ∈ S, q ≠ b → InH (toV h b) (toV b q) := by
  obtain ⟨hb, nb, hm⟩ := nxt_some hd e
  intro q hq nq
  have dv := dot_self_pos (toV_ne nb)
  by_cases hh : q = h
  · subst hh
    refine .inr ⟨by unfold crs toV; grind, ?_⟩
    have : dotP (toV q b) (toV b q) = -dotP (toV q b) (toV q b) := by unfold dotP toV; grind
    omega
  · have c : crs (toV h b) (toV b q) = crs (toV h b) (toV h q) := by unfold crs toV; grind
    rcases hm q hq hh with m | ⟨m, sz⟩
    · exact .inl (by rw [c]; exact m)
    · refine .inr ⟨by rw [c]; exact m, ?_⟩
      have op := InH.noopp (hd b hb nb) (hd q hq hh) m
      have lg := lagr (toV h b) (toV h q)
      rw [m, Int.zero_mul, Int.zero_add] at lg
      have ds : dotP (toV h b) (toV b q) = dotP (toV h b) (toV h q) - dotP (toV h b) (toV h b) := by unfold dotP toV; grind
      have sz' : dotP (toV h q) (toV h q) ≤ dotP (toV h b) (toV h b) := sz
      -- the length of the part
      have ne : dotP (toV b q) (toV b q) = dotP (toV h q) (toV h q) - 2 * dotP (toV h b) (toV h q) + dotP (toV h b) (toV h b) := by unfold dotP toV; grind
      have pos := dot_self_pos (toV_ne nq)
      by_cases z : dotP (toV h b) (toV b q) < 0
      · exact z
      · exfalso
        have ge : dotP (toV h b) (toV h b) ≤ dotP (toV h b) (toV h q) := by omega
        have a1 : dotP (toV h b) (toV h b) * dotP (toV h b) (toV h b) ≤ dotP (toV h b) (toV h q) * dotP (toV h b) (toV h q) := Int.mul_le_mul ge ge (Int.le_of_lt dv) (by omega)
        have a2 : dotP (toV h b) (toV h b) * dotP (toV h q) (toV h q) ≤ dotP (toV h b) (toV h b) * dotP (toV h b) (toV h b) := Int.mul_le_mul_of_nonneg_left sz' (Int.le_of_lt dv)
        have a3 : dotP (toV h b) (toV h q) * dotP (toV h b) (toV h q) = dotP (toV h b) (toV h b) * dotP (toV h b) (toV h b) := by omega
        have a4 : dotP (toV h b) (toV h q) = dotP (toV h b) (toV h b) := by
          by_cases y : dotP (toV h b) (toV h q) = dotP (toV h b) (toV h b)
          · exact y
          · exfalso
            have gt : dotP (toV h b) (toV h b) < dotP (toV h b) (toV h q) := by omega
            have := Int.mul_lt_mul gt ge dv (by omega)
            omega
        omega
/-- in one half by upp: not opposite -/
theorem upp_noopp {u v : Pt} (hu : upp u = true) (hv : upp v = true) (h : crs u v = 0) : 0 < dotP u v := by
  have key : ∀ w : Pt, upp w = true → InH (1, 0) (-w.1, w.2) := fun w hw => by
    rcases (upp_iff2 w).mp hw with h | ⟨h, h'⟩
    · left; unfold crs; dsimp only; omega
    · right; unfold crs dotP; dsimp only; omega
  have := InH.noopp (key u hu) (key v hv) (by
    unfold crs at h ⊢; dsimp only
    have e : -u.1 * v.2 - u.2 * -v.1 = -(u.1 * v.2 - u.2 * v.1) := by grind
    rw [e, h]; rfl)
  unfold dotP at this ⊢
  dsimp only at this
  rw [Int.neg_mul_neg] at this
  exact this
theorem upp_negT {p : Pt} (h : p ≠ (0, 0)) (hp : upp p = false) : upp (-p.1, -p.2) = true := by
  have h' : ¬ (p.1 = 0 ∧ p.2 = 0) := fun z => h (Prod.ext z.1 z.2)
  have := (upp_iff2' p).mp hp
  rw [upp_iff2]
  show 0 < -p.2 ∨ (-p.2 = 0 ∧ 0 < -p.1)
  omega
theorem low_noopp {u v : Pt} (nu : u ≠ (0, 0)) (nv : v ≠ (0, 0)) (hu : upp u = false) (hv : upp v = false) (h : crs u v = 0) : 0 < dotP u v := by
  have := upp_noopp (upp_negT nu hu) (upp_negT nv hv) (by unfold crs at h ⊢; dsimp only; rw [Int.neg_mul_neg, Int.neg_mul_neg]; exact h)
  unfold dotP at this ⊢
  dsimp only at this
  rw [Int.neg_mul_neg, Int.neg_mul_neg] at this
  exact this
/-- below all others, of the lowest the leftmost -/
def Low (p q : Pt) : Prop := p.2 < q.2 ∨ (p.2 = q.2 ∧ p.1 ≤ q.1)
/-- the sides rise by slope until the lowest point is met again -/
theorem rise {S : List Pt} {p0 h b b2 d : Pt} (hd : ∀ q ∈ S, q ≠ h → InH d (toV h q)) (e : nxt S h = some b) (e2 : nxt S b = some b2) (h0 : p0 ∈ S) (hl : ∀ q ∈ S, Low p0 q) (nb : b ≠ p0) : slope (toV h b) (toV b b2) < 0 := by
  have cn := next_cone hd e
  obtain ⟨m1, m2, m3⟩ := nxt_some cn e2
  obtain ⟨k1, k2, _⟩ := nxt_some hd e
  have c1 := cn b2 m1 m2
  have c0 := cn p0 h0 (Ne.symm nb)
  have lowE : upp (toV b p0) = false := by
    rw [upp_iff2']
    have l := hl b k1
    have ne : ¬ (p0.1 = b.1 ∧ p0.2 = b.2) := fun z => nb (Prod.ext z.1 z.2).symm
    unfold Low at l
    unfold toV
    dsimp only
    omega
  have bm := m3 p0 h0 (Ne.symm nb)
  have ge : 0 ≤ crs (toV b b2) (toV b p0) := by rcases bm with h | h <;> omega
  generalize hu : toV h b = u at *
  generalize hv : toV b b2 = v at *
  generalize he : toV b p0 = w at *
  have nu : u ≠ (0, 0) := c1.dne
  have nv : v ≠ (0, 0) := c1.ne
  unfold slope
  by_cases s : upp u = upp v
  · rw [if_neg (by simp [s])]
    -- both in one half: no opposites there
    have pos : 0 < crs u v := by
      rcases c1 with c | ⟨c, dn⟩
      · exact c
      · exfalso
        cases a : upp u with
        | true =>
          have := upp_noopp a (by rw [← s]; exact a) c
          omega
        | false =>
          have := low_noopp nu nv a (by rw [← s]; exact a) c
          omega
    unfold sgn
    rw [if_pos pos]; decide
  · rw [if_pos s]
    cases a : upp u with
    | true => decide
    | false =>
      exfalso
      have vt : upp v = true := by
        cases y : upp v with
        | true => rfl
        | false => exact absurd (a.trans y.symm) s
      have uw : 0 < crs u w := by
        rcases c0 with c | ⟨c, dn⟩
        · exact c
        · have := low_noopp nu (InH.ne (d := u) (.inr ⟨c, dn⟩)) a lowE c
          omega
      have uv : 0 ≤ crs u v := by rcases c1 with c | c <;> omega
      have hu' := (upp_iff2' u).mp a
      have hw' := (upp_iff2' w).mp lowE
      have hv' := (upp_iff2 v).mp vt
      obtain ⟨i1, i2⟩ := crs_tri u v w
      have nu' : ¬ (u.1 = 0 ∧ u.2 = 0) := fun z => nu (Prod.ext z.1 z.2)
      have y1 := Int.mul_nonpos_of_nonneg_of_nonpos ge (show u.2 ≤ 0 by omega)
      have y2 := Int.mul_nonpos_of_nonneg_of_nonpos uv (show w.2 ≤ 0 by omega)
      rcases hv' with hv' | ⟨v2, v1⟩
      · have := Int.mul_pos uw hv'
        omega
      · rw [v2, Int.mul_zero] at i2
        have x0 := Int.mul_pos uw v1
        have x1 : crs v w * u.1 ≤ 0 := by
          rcases Int.lt_or_eq_of_le ge with g | g
          · have : u.2 = 0 := by
              rcases Int.mul_eq_zero.mp (show crs v w * u.2 = 0 by omega) with z | z <;> omega
            exact Int.mul_nonpos_of_nonneg_of_nonpos ge (by omega)
          · rw [← g, Int.zero_mul]; exact Int.le_refl 0
        have x2 : crs u v * w.1 ≤ 0 := by
          rcases Int.lt_or_eq_of_le uv with g | g
          · have : w.2 = 0 := by
              rcases Int.mul_eq_zero.mp (show crs u v * w.2 = 0 by omega) with z | z <;> omega
            exact Int.mul_nonpos_of_nonneg_of_nonpos uv (by omega)
          · rw [← g, Int.zero_mul]; exact Int.le_refl 0
        omega
theorem sgn_neg (n : Int) : sgn (-n) = -sgn n := by unfold sgn; split <;> split <;> (try split) <;> omega
theorem slope_anti (u v : Pt) : slope v u = -slope u v := by
  by_cases e : upp u = upp v
  · have h1 : slope v u = -sgn (crs v u) := if_neg (by simp [e])
    have h2 : slope u v = -sgn (crs u v) := if_neg (by simp [e])
    rw [h1, h2, crs_anti v u, sgn_neg]
  · unfold slope
    rw [if_pos e, if_pos (fun z => e z.symm)]
    cases a : upp u <;> cases b : upp v <;> rw [a] at e <;> rw [b] at e <;> simp at e ⊢
theorem slope_self (u : Pt) : slope u u = 0 := by
  have := slope_anti u u; omega
/-- the walk from h back to p0 -/
def Chn (S : List Pt) (p0 : Pt) : Pt → List Pt → Prop
  | h, [] => nxt S h = some p0
  | h, b :: t => nxt S h = some b ∧ b ≠ p0 ∧ Chn S p0 b t
def hullGo (S : List Pt) (p0 : Pt) : Nat → Pt → List Pt → List Pt
  | 0, _, fs => fs
  | k + 1, h, fs => match nxt S h with
    | none => fs
    | some b => if b = p0 then fs else hullGo S p0 k b (fs ++ [b])
theorem nodup_le {α : Type} [DecidableEq α] : ∀ {l m : List α}, l.Nodup → (∀ a ∈ l, a ∈ m) → l.length ≤ m.length
  | [], _, _, _ => Nat.zero_le _
  | a :: l, m, hn, hs => by
    obtain ⟨h1, h2⟩ := List.nodup_cons.mp hn
    have ha := hs a List.mem_cons_self
    have key : ∀ b ∈ l, b ∈ m.erase a := fun b hb => by
      have ne : b ≠ a := fun z => h1 (by rw [← z]; exact hb)
      exact (List.mem_erase_of_ne ne).mpr (hs b (List.mem_cons_of_mem _ hb))
    have := nodup_le h2 key
    rw [List.length_erase_of_mem ha] at this
    have pos := List.length_pos_of_mem ha
    rw [List.length_cons]; omega
theorem hullGo_ok {S : List Pt} {p0 : Pt} (h0 : p0 ∈ S) (hl : ∀ q ∈ S, Low p0 q) : ∀ (k : Nat) (h d : Pt) (fs : List Pt), (∀ q ∈ S, q ≠ h → InH d (toV h q)) → ((h = p0 ∧ fs = [p0]) ∨ (h ≠ p0 ∧ ∃ g d0, g ≠ h ∧ d = toV g h ∧ nxt S g = some h ∧ ∀ q ∈ S, q ≠ g → InH d0 (toV g q))) → fs.Nodup → (∀ q ∈ fs, q ∈ S) → h ∈ fs → p0 ∈ fs →
    (∀ v ∈ fs, v ≠ h → ∃ b, nxt S v = some b ∧ v ≠ b ∧ slope (toV v b) d ≤ 0) → (∃ q ∈ S, q ≠ p0) → k + fs.length = S.length + 1 → ∃ t, hullGo S p0 k h fs = fs ++ t ∧ Chn S p0 h t
  | 0, h, d, fs, _, _, hn, hs, _, _, _, _, hk => by
    have := nodup_le hn hs
    omega
  | k + 1, h, d, fs, hd, hp, hn, hs, hf, hp0, hv, hq, hk => by
    unfold hullGo
    cases e : nxt S h with
    | none =>
      exfalso
      obtain ⟨q, hq1, hq2⟩ := hq
      have := nxt_none hd e
      exact hq2 ((this q hq1).trans (this p0 h0).symm)
    | some b =>
      dsimp only
      obtain ⟨b1, b2, b3⟩ := nxt_some hd e
      by_cases z : b = p0
      · rw [if_pos z]
        exact ⟨[], (List.append_nil _).symm, by show nxt S h = some p0; rw [e, z]⟩
      · rw [if_neg z]
        -- the step from h goes on rising
        have up : h ≠ p0 → slope d (toV h b) < 0 := fun nh => by
          rcases hp with y | ⟨_, g, d0, ng, rfl, eg, cg⟩
          · exact absurd y.1 nh
          · exact rise cg eg e h0 hl nh
        have dn : h ≠ p0 → d ≠ (0, 0) := fun nh => by
          rcases hp with y | ⟨_, g, d0, ng, rfl, eg, cg⟩
          · exact absurd y.1 nh
          · exact toV_ne (Ne.symm ng)
        have nb : b ∉ fs := fun hb => by
          obtain ⟨b', e1, n1, s1⟩ := hv b hb b2
          have r := rise hd e e1 h0 hl z
          have cb := next_cone hd e
          obtain ⟨_, nb', _⟩ := nxt_some cb e1
          have nh : h ≠ p0 := fun y => by
            rcases hp with w | w
            · rw [w.2] at hb
              exact z (List.mem_singleton.mp hb)
            · exact w.1 y
          have t := slope_trans (toV_ne nb') (dn nh) (toV_ne b2) s1 (Int.le_of_lt (up nh))
          have a := slope_anti (toV h b) (toV b b')
          omega
        have cb := next_cone hd e
        obtain ⟨t, e1, e2⟩ := hullGo_ok h0 hl k b (toV h b) (fs ++ [b]) cb (.inr ⟨z, h, d, Ne.symm b2, rfl, e, hd⟩) (by
            rw [List.nodup_append]
            refine ⟨hn, by simp, fun x hx y hy => ?_⟩
            rw [List.mem_singleton.mp hy]
            intro w; subst w; exact nb hx) (fun q hq => by
            rcases List.mem_append.mp hq with y | y
            · exact hs q y
            · rw [List.mem_singleton.mp y]; exact b1) (by simp) (List.mem_append_left _ hp0) (fun v hv' nv => by
            rcases List.mem_append.mp hv' with y | y
            · by_cases vh : v = h
              · subst vh
                exact ⟨b, e, Ne.symm b2, by rw [slope_self]; exact Int.le_refl 0⟩
              · obtain ⟨b', e1, n1, s1⟩ := hv v y vh
                have nh : h ≠ p0 := fun w => by
                  rcases hp with w2 | w2
                  · rw [w2.2] at y
                    exact vh ((List.mem_singleton.mp y).trans w2.1.symm)
                  · exact w2.1 w
                exact ⟨b', e1, n1, slope_trans (toV_ne (Ne.symm n1)) (dn nh) (toV_ne b2) s1 (Int.le_of_lt (up nh))⟩
            · exact absurd (List.mem_singleton.mp y) nv) hq (by rw [List.length_append, List.length_singleton]; omega)
        exact ⟨b :: t, by rw [e1, List.append_assoc]; rfl, e, z, e2⟩
/-! ### the lowest point, and the whole -/
def lowStep (f q : Pt) : Pt := if q.2 < f.2 ∨ (q.2 = f.2 ∧ q.1 < f.1) then q else f
def lowest (f : Pt) (S : List Pt) : Pt := S.foldl lowStep f
theorem Low.refl (p : Pt) : Low p p := .inr ⟨rfl, Int.le_refl _⟩
theorem Low.trans {p q r : Pt} (h : Low p q) (k : Low q r) : Low p r := by unfold Low at *; omega
theorem lowest_ok : ∀ (S : List Pt) (f : Pt), (lowest f S = f ∨ lowest f S ∈ S) ∧ Low (lowest f S) f ∧ ∀ q ∈ S, Low (lowest f S) q
  | [], f => ⟨.inl rfl, Low.refl f, by simp⟩
  | q :: S, f => by
    obtain ⟨h1, h2, h3⟩ := lowest_ok S (lowStep f q)
    show (lowest (lowStep f q) S = f ∨ lowest (lowStep f q) S ∈ q :: S) ∧ Low (lowest (lowStep f q) S) f ∧ ∀ p ∈ q :: S, Low (lowest (lowStep f q) S) p
    have l : Low (lowStep f q) f ∧ Low (lowStep f q) q := by
      unfold lowStep Low
      split <;> constructor <;> omega
    have m : lowStep f q = f ∨ lowStep f q = q := by unfold lowStep; split <;> simp
    refine ⟨?_, h2.trans l.1, fun p hp => ?_⟩
    · rcases h1 with h | h
      · rcases m with m | m
        · exact .inl (h.trans m)
        · exact .inr (by rw [h, m]; exact List.mem_cons_self)
      · exact .inr (List.mem_cons_of_mem _ h)
    · rcases List.mem_cons.mp hp with z | z
      · rw [z]; exact h2.trans l.2
      · exact h3 p z
theorem low_cone {p0 : Pt} : ∀ {S : List Pt}, (∀ q ∈ S, Low p0 q) → ∃ d : Pt, ∀ q ∈ S, q ≠ p0 → InH d (toV p0 q) := by
  intro S hl
  have bound : ∀ T : List Pt, ∃ M : Int, 0 < M ∧ ∀ q ∈ T, (toV p0 q).1.natAbs < M := by
    intro T
    induction T with
    | nil => exact ⟨1, by omega, by simp⟩
    | cons q T ih =>
      obtain ⟨M, m0, hM⟩ := ih
      refine ⟨M + (toV p0 q).1.natAbs + 1, by omega, fun p hp => ?_⟩
      rcases List.mem_cons.mp hp with z | z
      · rw [z]; omega
      · have := hM p z; omega
  obtain ⟨M, m0, hM⟩ := bound S
  refine ⟨(M, -1), fun q hq nq => .inl ?_⟩
  have l := hl q hq
  have m := hM q hq
  have n : ¬ (q.1 = p0.1 ∧ q.2 = p0.2) := fun z => nq (Prod.ext z.1 z.2)
  have e : crs (M, -1) (toV p0 q) = M * (toV p0 q).2 + (toV p0 q).1 := by unfold crs; grind
  rw [e]
  unfold Low at l
  have w2 : (toV p0 q).2 = q.2 - p0.2 := rfl
  have w1 : (toV p0 q).1 = q.1 - p0.1 := rfl
  by_cases z : (toV p0 q).2 = 0
  · rw [z, Int.mul_zero]; omega
  · have g : 1 ≤ (toV p0 q).2 := by omega
    have := Int.mul_le_mul_of_nonneg_left g (Int.le_of_lt m0)
    omega
def hullP (f : Pt) (S : List Pt) : List Pt := hullGo S (lowest f S) S.length (lowest f S) [lowest f S]
/-- the sides of the walk from h back to p0 -/
def sds (p0 : Pt) : Pt → List Pt → List Pt
  | h, [] => [toV h p0]
  | h, b :: t => toV h b :: sds p0 b t
def Rises : List Pt → Prop
  | u :: v :: r => slope u v < 0 ∧ Rises (v :: r)
  | _ => True
/-- h's successors on the walk: each side has all of S to its left -/
def Lefts (S : List Pt) (p0 : Pt) : Pt → List Pt → Prop
  | h, [] => p0 ≠ h ∧ p0 ∈ S ∧ ∀ q ∈ S, 0 ≤ crs (toV h p0) (toV h q)
  | h, b :: t => (b ≠ h ∧ b ∈ S ∧ ∀ q ∈ S, 0 ≤ crs (toV h b) (toV h q)) ∧ Lefts S p0 b t
theorem left_of {S : List Pt} {h b d : Pt} (hd : ∀ q ∈ S, q ≠ h → InH d (toV h q)) (e : nxt S h = some b) : b ≠ h ∧ b ∈ S ∧ ∀ q ∈ S, 0 ≤ crs (toV h b) (toV h q) := by
  obtain ⟨h1, h2, h3⟩ := nxt_some hd e
  refine ⟨h2, h1, fun q hq => ?_⟩
  by_cases z : q = h
  · rw [z]
    have : crs (toV h b) (toV h h) = 0 := by unfold crs toV; grind
    omega
  · rcases h3 q hq z with m | m <;> omega
theorem chn_ok {S : List Pt} {p0 : Pt} (h0 : p0 ∈ S) (hl : ∀ q ∈ S, Low p0 q) : ∀ (t : List Pt) (h d : Pt), (∀ q ∈ S, q ≠ h → InH d (toV h q)) → Chn S p0 h t → Lefts S p0 h t ∧ Rises (sds p0 h t)
  | [], h, d, hd, c => ⟨left_of hd c, trivial⟩
  | b :: t, h, d, hd, ⟨e, nb, c⟩ => by
    obtain ⟨i1, i2⟩ := chn_ok h0 hl t b (toV h b) (next_cone hd e) c
    refine ⟨⟨left_of hd e, i1⟩, ?_⟩
    cases t with
    | nil => exact ⟨rise hd e c h0 hl nb, trivial⟩
    | cons b2 t => exact ⟨rise hd e c.1 h0 hl nb, i2⟩
theorem hull_ok {f : Pt} {S : List Pt} (hf : f ∈ S) : ∃ p0 t, hullP f S = p0 :: t ∧ p0 ∈ S ∧ (∀ q ∈ S, Low p0 q) ∧ ((t = [] ∧ ∀ q ∈ S, q = p0) ∨ (t ≠ [] ∧ Lefts S p0 p0 t ∧ Rises (sds p0 p0 t))) := by
  obtain ⟨h1, h2, h3⟩ := lowest_ok S f
  have h0 : lowest f S ∈ S := by
    rcases h1 with h | h
    · rw [h]; exact hf
    · exact h
  obtain ⟨d, hd⟩ := low_cone h3
  by_cases one : ∃ q ∈ S, q ≠ lowest f S
  · obtain ⟨t, e1, e2⟩ := hullGo_ok h0 h3 S.length (lowest f S) d [lowest f S] hd (.inl ⟨rfl, rfl⟩) (by simp) (fun q hq => by rw [List.mem_singleton.mp hq]; exact h0) (by simp) (by simp) (fun v hv nv => absurd (List.mem_singleton.mp hv) nv) one (by simp)
    have c := chn_ok h0 h3 t _ d hd e2
    refine ⟨_, t, e1, h0, h3, .inr ⟨?_, c.1, c.2⟩⟩
    rintro rfl
    exact (left_of hd e2).1 rfl
  · have all : ∀ q ∈ S, q = lowest f S := fun q hq => by
      by_cases z : q = lowest f S
      · exact z
      · exact absurd ⟨q, hq, z⟩ one
    refine ⟨lowest f S, [], ?_, h0, h3, .inl ⟨rfl, all⟩⟩
    show hullGo S (lowest f S) S.length (lowest f S) [lowest f S] = [lowest f S]
    have pos := List.length_pos_of_mem h0
    obtain ⟨k, ek⟩ : ∃ k, S.length = k + 1 := ⟨S.length - 1, by omega⟩
    rw [ek]
    unfold hullGo
    cases e : nxt S (lowest f S) with
    | none => rfl
    | some b =>
      obtain ⟨b1, b2, _⟩ := nxt_some hd e
      exact absurd (all b b1) b2

/-- a coordinate of moderate size -/
def Md (x : Int) : Prop := x.natAbs < 2 ^ 1000
def MdP (p : Pt) : Prop := Md p.1 ∧ Md p.2
theorem two_pow_1000 : (2 : Nat) ^ 1000 + 2 ^ 1000 ≤ 2 ^ 1001 := by decide +kernel
theorem MdP.toV {p q : Pt} (h : MdP p) (k : MdP q) : SmP (toV p q) := by
  obtain ⟨a, b⟩ := h
  obtain ⟨c, d⟩ := k
  have key : ∀ x y : Int, Md x → Md y → Sm (y - x) := fun x y hx hy => by
    unfold Md at hx hy
    exact Sm.of (n := 2 ^ 1001) (by have := two_pow_1000; omega)
  exact ⟨key _ _ a c, key _ _ b d⟩
theorem MdP.sm {p : Pt} (h : MdP p) : SmP p := by
  have key : ∀ x : Int, Md x → Sm x := fun x hx => Sm.of (n := 2 ^ 1000) hx
  exact ⟨key _ h.1, key _ h.2⟩
def optD : Option Pt → D
  | none => .non
  | some b => pt b
theorem lexLt2 (a b c d : Int) : HT.lexLt [a, b] [c, d] = decide (a < c ∨ (a = c ∧ b < d)) := by
  rw [Bool.eq_iff_iff]
  simp only [HT.lexLt]
  by_cases h : a = c
  · subst h; simp; omega
  · simp [h]
theorem hullGo_succ (S : List Pt) (p0 : Pt) (k : Nat) (h : Pt) (fs : List Pt) : hullGo S p0 (k + 1) h fs = match nxt S h with
    | none => fs
    | some b => if b = p0 then fs else hullGo S p0 k b (fs ++ [b]) := rfl
theorem stepB_mem {S : List Pt} {g p : Pt} {best : Option Pt} (hp : p ∈ S) (hb : ∀ b, best = some b → b ∈ S) : ∀ b, stepB g best p = some b → b ∈ S := by
  intro b z
  unfold stepB at z
  split at z
  · exact hb b z
  · cases best with
    | none => cases z; exact hp
    | some c =>
      dsimp only at z
      split at z
      · cases z; exact hp
      · exact hb b z
theorem hullP_eq (f : Pt) (S : List Pt) : hullP f S = hullGo S (lowest f S) S.length (lowest f S) [lowest f S] := rfl

def S_Lto : GS := fun ds0 Q _ => ∃ (p q : Pt), ds0 = [pt p, pt q] ∧ (True) ∧ Q (pt (toV p q))
theorem M_Lto : MonoP S_Lto := fun _ _ _ _ _ hQ _ ⟨p, q, e9, p9, q9⟩ => ⟨p, q, e9, p9, hQ _ q9⟩
theorem Z_Lto : ∀ ds Q E, S_Lto ds Q E → ds.length = 2 := fun _ _ _ ⟨p, q, e9, _⟩ => by rw [e9]; rfl
theorem t_Lto {p q : Pt} {Q : D → Prop} {E : Exc → Prop} (p9 : True) (h9 : Q (pt (toV p q))) : S_Lto [pt p, pt q] Q E := ⟨p, q, rfl, p9, h9⟩

def S_Lcross : GS := fun ds0 Q _ => ∃ (p q : Pt), ds0 = [pt p, pt q] ∧ (SmP p ∧ SmP q) ∧ Q (.int (crs p q))
theorem M_Lcross : MonoP S_Lcross := fun _ _ _ _ _ hQ _ ⟨p, q, e9, p9, q9⟩ => ⟨p, q, e9, p9, hQ _ q9⟩
theorem Z_Lcross : ∀ ds Q E, S_Lcross ds Q E → ds.length = 2 := fun _ _ _ ⟨p, q, e9, _⟩ => by rw [e9]; rfl
theorem t_Lcross {p q : Pt} {Q : D → Prop} {E : Exc → Prop} (p9 : SmP p ∧ SmP q) (h9 : Q (.int (crs p q))) : S_Lcross [pt p, pt q] Q E := ⟨p, q, rfl, p9, h9⟩

def S_Ldot : GS := fun ds0 Q _ => ∃ (p q : Pt), ds0 = [pt p, pt q] ∧ (SmP p ∧ SmP q) ∧ Q (.int (dotP p q))
theorem M_Ldot : MonoP S_Ldot := fun _ _ _ _ _ hQ _ ⟨p, q, e9, p9, q9⟩ => ⟨p, q, e9, p9, hQ _ q9⟩
theorem Z_Ldot : ∀ ds Q E, S_Ldot ds Q E → ds.length = 2 := fun _ _ _ ⟨p, q, e9, _⟩ => by rw [e9]; rfl
theorem t_Ldot {p q : Pt} {Q : D → Prop} {E : Exc → Prop} (p9 : SmP p ∧ SmP q) (h9 : Q (.int (dotP p q))) : S_Ldot [pt p, pt q] Q E := ⟨p, q, rfl, p9, h9⟩

def S_Lsize : GS := fun ds0 Q _ => ∃ (p q : Pt), ds0 = [pt p, pt q] ∧ (MdP p ∧ MdP q) ∧ Q (.int (sizeP p q))
theorem M_Lsize : MonoP S_Lsize := fun _ _ _ _ _ hQ _ ⟨p, q, e9, p9, q9⟩ => ⟨p, q, e9, p9, hQ _ q9⟩
theorem Z_Lsize : ∀ ds Q E, S_Lsize ds Q E → ds.length = 2 := fun _ _ _ ⟨p, q, e9, _⟩ => by rw [e9]; rfl
theorem t_Lsize {p q : Pt} {Q : D → Prop} {E : Exc → Prop} (p9 : MdP p ∧ MdP q) (h9 : Q (.int (sizeP p q))) : S_Lsize [pt p, pt q] Q E := ⟨p, q, rfl, p9, h9⟩

def S_Llowest : GS := fun ds0 Q _ => ∃ (S : List Pt) (f : Pt), ds0 = [.lst (S.map pt)] ∧ (S.head? = some f) ∧ Q (pt (lowest f S))
theorem M_Llowest : MonoP S_Llowest := fun _ _ _ _ _ hQ _ ⟨S, f, e9, p9, q9⟩ => ⟨S, f, e9, p9, hQ _ q9⟩
theorem Z_Llowest : ∀ ds Q E, S_Llowest ds Q E → ds.length = 1 := fun _ _ _ ⟨S, f, e9, _⟩ => by rw [e9]; rfl
theorem t_Llowest {S : List Pt} {f : Pt} {Q : D → Prop} {E : Exc → Prop} (p9 : S.head? = some f) (h9 : Q (pt (lowest f S))) : S_Llowest [.lst (S.map pt)] Q E := ⟨S, f, rfl, p9, h9⟩

def S_Lhull : GS := fun ds0 Q _ => ∃ (S : List Pt) (f : Pt), ds0 = [.lst (S.map pt)] ∧ (S.head? = some f ∧ (∀ p ∈ S, MdP p) ∧ S.length ≤ 200) ∧ Q (.tup ((hullP f S).map pt))
theorem M_Lhull : MonoP S_Lhull := fun _ _ _ _ _ hQ _ ⟨S, f, e9, p9, q9⟩ => ⟨S, f, e9, p9, hQ _ q9⟩
theorem Z_Lhull : ∀ ds Q E, S_Lhull ds Q E → ds.length = 1 := fun _ _ _ ⟨S, f, e9, _⟩ => by rw [e9]; rfl
theorem t_Lhull {S : List Pt} {f : Pt} {Q : D → Prop} {E : Exc → Prop} (p9 : S.head? = some f ∧ (∀ p ∈ S, MdP p) ∧ S.length ≤ 200) (h9 : Q (.tup ((hullP f S).map pt))) : S_Lhull [.lst (S.map pt)] Q E := ⟨S, f, rfl, p9, h9⟩

def S_greatest_divisor : GS := fun ds0 Q _ => ∃ (a b : Int), ds0 = [.int a, .int b] ∧ (True) ∧ Q (.int (Int.gcd a b))
theorem M_greatest_divisor : MonoP S_greatest_divisor := fun _ _ _ _ _ hQ _ ⟨a, b, e9, p9, q9⟩ => ⟨a, b, e9, p9, hQ _ q9⟩
theorem Z_greatest_divisor : ∀ ds Q E, S_greatest_divisor ds Q E → ds.length = 2 := fun _ _ _ ⟨a, b, e9, _⟩ => by rw [e9]; rfl
theorem t_greatest_divisor {a b : Int} {Q : D → Prop} {E : Exc → Prop} (p9 : True) (h9 : Q (.int (Int.gcd a b))) : S_greatest_divisor [.int a, .int b] Q E := ⟨a, b, rfl, p9, h9⟩


theorem gcd_pos {a b : Int} (h : ¬ (a = 0 ∧ b = 0)) : 0 < Int.gcd a b := by
  rcases Nat.eq_zero_or_pos (Int.gcd a b) with z | z
  · exact absurd (Int.gcd_eq_zero_iff.mp z) h
  · exact z
theorem gcd_le_l {a b : Int} (h : a ≠ 0) : Int.gcd a b ≤ a.natAbs := Nat.le_of_dvd (by omega) (Int.gcd_dvd_natAbs_left a b)
theorem gcd_lt {a b : Int} {n : Nat} (ha : a.natAbs < n) (hb : b.natAbs < n) : Int.gcd a b < n := by
  by_cases h : a = 0
  · subst h
    rw [Int.gcd_zero_left]; exact hb
  · exact Nat.lt_of_le_of_lt (gcd_le_l h) ha
def bare (p : Int × Int) : Int × Int := (p.1.fdiv (Int.gcd p.1 p.2), p.2.fdiv (Int.gcd p.1 p.2))
theorem gcd_divOk {a b x : Int} (h : ¬ (a = 0 ∧ b = 0)) (ha : Sm a) (hb : Sm b) : DivOk x (Int.gcd a b) :=
  .of (n := 4000) (by have := gcd_pos h; omega) (by rw [Int.natAbs_natCast]; exact gcd_lt ha hb)

def S_bare_of : GS := fun ds0 Q _ => ∃ (p : Int × Int), ds0 = [pt p] ∧ (SmP p ∧ p ≠ (0, 0)) ∧ Q (pt (bare p))
theorem M_bare_of : MonoP S_bare_of := fun _ _ _ _ _ hQ _ ⟨p, e9, p9, q9⟩ => ⟨p, e9, p9, hQ _ q9⟩
theorem Z_bare_of : ∀ ds Q E, S_bare_of ds Q E → ds.length = 1 := fun _ _ _ ⟨p, e9, _⟩ => by rw [e9]; rfl
theorem t_bare_of {p : Int × Int} {Q : D → Prop} {E : Exc → Prop} (p9 : SmP p ∧ p ≠ (0, 0)) (h9 : Q (pt (bare p))) : S_bare_of [pt p] Q E := ⟨p, rfl, p9, h9⟩

def S_Ldivisor : GS := fun ds0 Q _ => ∃ (a b : Int), ds0 = [.int a, .int b] ∧ (True) ∧ Q (.int (Int.gcd a b))
theorem M_Ldivisor : MonoP S_Ldivisor := fun _ _ _ _ _ hQ _ ⟨a, b, e9, p9, q9⟩ => ⟨a, b, e9, p9, hQ _ q9⟩
theorem Z_Ldivisor : ∀ ds Q E, S_Ldivisor ds Q E → ds.length = 2 := fun _ _ _ ⟨a, b, e9, _⟩ => by rw [e9]; rfl
theorem t_Ldivisor {a b : Int} {Q : D → Prop} {E : Exc → Prop} (p9 : True) (h9 : Q (.int (Int.gcd a b))) : S_Ldivisor [.int a, .int b] Q E := ⟨a, b, rfl, p9, h9⟩


/-- top / bottom in lowest terms -/
def low (t b : Int) : Int × Int := (t.fdiv (if b < 0 then -(Int.gcd t b : Int) else Int.gcd t b), b.fdiv (if b < 0 then -(Int.gcd t b : Int) else Int.gcd t b))
def PtP (p : Pt) : Prop := (-(10 ^ 60) ≤ p.1 ∧ p.1 ≤ 10 ^ 60) ∧ (-(10 ^ 60) ≤ p.2 ∧ p.2 ≤ 10 ^ 60)
def plSides : List Pt → List Pt
  | [] => []
  | [_] => []
  | p0 :: q :: t => sds p0 p0 (q :: t)
def Rnd (ps : List Pt) : Prop := ps ≠ [] ∧ ps.length ≤ 60 ∧ (∀ p ∈ ps, PtP p) ∧ (∀ s ∈ plSides ps, s ≠ (0, 0)) ∧ Rises (plSides ps)
theorem PtP.md {p : Pt} (h : PtP p) : MdP p := by
  obtain ⟨⟨a, b⟩, c, d⟩ := h
  have key : ∀ x : Int, -(10 ^ 60) ≤ x → x ≤ 10 ^ 60 → Md x := fun x h1 h2 => by
    refine Nat.lt_of_le_of_lt (show x.natAbs ≤ 10 ^ 60 by omega) (by decide +kernel)
  exact ⟨key _ a b, key _ c d⟩
theorem sds_len : ∀ {p0 h : Pt} {t : List Pt}, (sds p0 h t).length = t.length + 1
  | _, _, [] => rfl
  | p0, _, b :: t => by unfold sds; rw [List.length_cons, sds_len, List.length_cons]
theorem plSides_len {ps : List Pt} : (plSides ps).length ≤ ps.length := by
  match ps with
  | [] => exact Nat.le_refl _
  | [_] => exact Nat.zero_le _
  | p0 :: q :: t => exact Nat.le_of_eq sds_len
theorem zipD_map {α β : Type} {f : α → D} {g : β → D} {xs : List α} {ys : List β} : zipD (xs.map f) (ys.map g) = (xs.zip ys).map fun p => D.tup [f p.1, g p.2] := by
  unfold zipD
  rw [List.zip_map, List.map_map]; rfl
theorem zip_sds {p0 : Pt} : ∀ {h : Pt} {t : List Pt}, ((h :: t).zip (t ++ [p0])).map (fun p => toV p.1 p.2) = sds p0 h t
  | _, [] => rfl
  | h, b :: t => by
    show toV h b :: ((b :: t).zip (t ++ [p0])).map _ = toV h b :: sds p0 b t
    rw [zip_sds]
theorem sds_mem {p0 : Pt} : ∀ {h : Pt} {t : List Pt} {s : Pt}, s ∈ sds p0 h t → ∃ a b, a ∈ h :: t ∧ (b ∈ t ∨ b = p0) ∧ s = toV a b
  | h, [], s, m => ⟨h, p0, by simp, .inr rfl, List.mem_singleton.mp m⟩
  | h, b :: t, s, m => by
    rcases List.mem_cons.mp m with z | z
    · exact ⟨h, b, by simp, .inl (by simp), z⟩
    · obtain ⟨x, y, h1, h2, h3⟩ := sds_mem z
      exact ⟨x, y, List.mem_cons_of_mem _ h1, h2.elim (fun z => .inl (List.mem_cons_of_mem _ z)) .inr, h3⟩
theorem plSides_mem {ps : List Pt} {s : Pt} (h : s ∈ plSides ps) : ∃ a b, a ∈ ps ∧ b ∈ ps ∧ s = toV a b := by
  match ps, h with
  | p0 :: q :: t, h =>
    obtain ⟨a, b, h1, h2, h3⟩ := sds_mem h
    exact ⟨a, b, h1, h2.elim (fun z => List.mem_cons_of_mem _ z) (fun z => by rw [z]; simp), h3⟩
theorem side_sm {ps : List Pt} (h : ∀ p ∈ ps, PtP p) {s : Pt} (m : s ∈ plSides ps) : SmP s := by
  obtain ⟨a, b, h1, h2, rfl⟩ := plSides_mem m
  exact (h a h1).md.toV (h b h2).md

def S_is_point : GS := fun ds0 Q _ => ∃ (d : D), ds0 = [d] ∧ (okP d = true) ∧ Q (.bl (pairIn (10 ^ 60) d))
theorem M_is_point : MonoP S_is_point := fun _ _ _ _ _ hQ _ ⟨d, e9, p9, q9⟩ => ⟨d, e9, p9, hQ _ q9⟩
theorem Z_is_point : ∀ ds Q E, S_is_point ds Q E → ds.length = 1 := fun _ _ _ ⟨d, e9, _⟩ => by rw [e9]; rfl
theorem t_is_point {d : D} {Q : D → Prop} {E : Exc → Prop} (p9 : okP d = true) (h9 : Q (.bl (pairIn (10 ^ 60) d))) : S_is_point [d] Q E := ⟨d, rfl, p9, h9⟩

def S_vector_between : GS := fun ds0 Q _ => ∃ (p q : Pt), ds0 = [pt p, pt q] ∧ (True) ∧ Q (pt (toV p q))
theorem M_vector_between : MonoP S_vector_between := fun _ _ _ _ _ hQ _ ⟨p, q, e9, p9, q9⟩ => ⟨p, q, e9, p9, hQ _ q9⟩
theorem Z_vector_between : ∀ ds Q E, S_vector_between ds Q E → ds.length = 2 := fun _ _ _ ⟨p, q, e9, _⟩ => by rw [e9]; rfl
theorem t_vector_between {p q : Pt} {Q : D → Prop} {E : Exc → Prop} (p9 : True) (h9 : Q (pt (toV p q))) : S_vector_between [pt p, pt q] Q E := ⟨p, q, rfl, p9, h9⟩


theorem zip_rises : ∀ {ss : List Pt}, Rises ss ↔ ((ss.zip (ss.drop 1)).all fun p => decide (slope p.1 p.2 < 0)) = true
  | [] => by simp [Rises]
  | [a] => by simp [Rises]
  | a :: b :: r => by
    have ih := zip_rises (ss := b :: r)
    show slope a b < 0 ∧ Rises (b :: r) ↔ (decide (slope a b < 0) && (((b :: r).zip r).all fun p => decide (slope p.1 p.2 < 0))) = true
    rw [Bool.and_eq_true, decide_eq_true_eq, ih]; rfl

def S_plain_sides : GS := fun ds0 Q _ => ∃ (ps : List Pt), ds0 = [.tup (ps.map pt)] ∧ (ps ≠ [] ∧ ps.length ≤ 60) ∧ Q (.lst ((plSides ps).map pt))
theorem M_plain_sides : MonoP S_plain_sides := fun _ _ _ _ _ hQ _ ⟨ps, e9, p9, q9⟩ => ⟨ps, e9, p9, hQ _ q9⟩
theorem Z_plain_sides : ∀ ds Q E, S_plain_sides ds Q E → ds.length = 1 := fun _ _ _ ⟨ps, e9, _⟩ => by rw [e9]; rfl
theorem t_plain_sides {ps : List Pt} {Q : D → Prop} {E : Exc → Prop} (p9 : ps ≠ [] ∧ ps.length ≤ 60) (h9 : Q (.lst ((plSides ps).map pt))) : S_plain_sides [.tup (ps.map pt)] Q E := ⟨ps, rfl, p9, h9⟩


theorem PtP.is {p : Pt} (h : PtP p) : pairIn (10 ^ 60) (pt p) = true := by
  obtain ⟨⟨a, b⟩, ⟨c, d⟩⟩ := h
  show (decide (_ ≤ _) && decide (_ ≤ _) && (decide (_ ≤ _) && decide (_ ≤ _))) = true
  rw [decide_eq_true a, decide_eq_true b, decide_eq_true c, decide_eq_true d]; rfl

def S_check_shape : GS := fun ds0 Q _ => ∃ (ps : List Pt), ds0 = [.tup (ps.map pt)] ∧ (Rnd ps) ∧ Q .non
theorem M_check_shape : MonoP S_check_shape := fun _ _ _ _ _ hQ _ ⟨ps, e9, p9, q9⟩ => ⟨ps, e9, p9, hQ _ q9⟩
theorem Z_check_shape : ∀ ds Q E, S_check_shape ds Q E → ds.length = 1 := fun _ _ _ ⟨ps, e9, _⟩ => by rw [e9]; rfl
theorem t_check_shape {ps : List Pt} {Q : D → Prop} {E : Exc → Prop} (p9 : Rnd ps) (h9 : Q .non) : S_check_shape [.tup (ps.map pt)] Q E := ⟨ps, rfl, p9, h9⟩


def mx : List Int → Int
  | [] => 0
  | [a] => a
  | a :: b :: t => if mx (b :: t) ≤ a then a else mx (b :: t)
def opp (p : Pt) : Pt := (-p.1, -p.2)
theorem SmP.opp {p : Pt} (h : SmP p) : SmP (opp p) := by
  obtain ⟨a, b⟩ := h
  refine ⟨?_, ?_⟩
  · show Sm (-p.1); unfold Sm at a ⊢; omega
  · show Sm (-p.2); unfold Sm at b ⊢; omega
theorem SmP.turn {p : Pt} (h : SmP p) : SmP (p.2, -p.1) := by
  obtain ⟨a, b⟩ := h
  refine ⟨b, ?_⟩
  show Sm (-p.1); unfold Sm at a ⊢; omega
theorem bare_bound {p : Pt} : (bare p).1.natAbs ≤ p.1.natAbs ∧ (bare p).2.natAbs ≤ p.2.natAbs := by
  by_cases z : p.1 = 0 ∧ p.2 = 0
  · unfold bare; rw [z.1, z.2]; decide
  · have g0 := gcd_pos z
    have key : ∀ a x : Int, a * (Int.gcd p.1 p.2 : Int) = x → a.natAbs ≤ x.natAbs := fun a x e => by
      rw [← e, Int.natAbs_mul, Int.natAbs_natCast]
      exact Nat.le_mul_of_pos_right _ g0
    have h1 := Int.fdiv_mul_cancel (Int.gcd_dvd_left (a := p.1) (b := p.2))
    have h2 := Int.fdiv_mul_cancel (Int.gcd_dvd_right (a := p.1) (b := p.2))
    exact ⟨key _ _ h1, key _ _ h2⟩
/-- a direction of moderate size -/
def W61 (u : Pt) : Prop := u.1.natAbs ≤ 10 ^ 61 ∧ u.2.natAbs ≤ 10 ^ 61
theorem W61.sm {u : Pt} (h : W61 u) : SmP u := by
  have key : ∀ x : Int, x.natAbs ≤ 10 ^ 61 → Sm x := fun x hx => Sm.of (n := 10 ^ 62) (by omega)
  exact ⟨key _ h.1, key _ h.2⟩
theorem side_w {ps : List Pt} (h : ∀ p ∈ ps, PtP p) {s : Pt} (m : s ∈ plSides ps) : W61 s := by
  obtain ⟨a, b, h1, h2, rfl⟩ := plSides_mem m
  obtain ⟨⟨a1, a2⟩, a3, a4⟩ := h a h1
  obtain ⟨⟨b1, b2⟩, b3, b4⟩ := h b h2
  unfold W61 toV
  constructor <;> dsimp only <;> omega
theorem sgn_mul_pos {k x : Int} (h : 0 < k) : sgn (x * k) = sgn x := by
  unfold sgn
  by_cases a : 0 < x
  · rw [if_pos a, if_pos (Int.mul_pos a h)]
  · by_cases b : x < 0
    · have := Int.mul_neg_of_neg_of_pos b h
      rw [if_neg a, if_pos b, if_neg (by omega), if_pos this]
    · have z : x = 0 := by omega
      rw [z, Int.zero_mul]
theorem W61.md {u : Pt} (h : W61 u) : MdP u := by
  have key : ∀ x : Int, x.natAbs ≤ 10 ^ 61 → Md x := fun x hx => Nat.lt_of_le_of_lt hx (by decide +kernel)
  exact ⟨key _ h.1, key _ h.2⟩


def gt (ps : List Pt) (i : Nat) : Pt := ps.getD i (0, 0)
def nxi (ps : List Pt) (i : Nat) : Pt := gt ps ((i + 1) % ps.length)
theorem gt_eq {ps : List Pt} {i : Nat} (h : i < ps.length) : gt ps i = ps[i] := by unfold gt; rw [List.getD_eq_getElem?_getD, List.getElem?_eq_getElem h]; rfl
theorem gt_mem {ps : List Pt} {i : Nat} (h : i < ps.length) : gt ps i ∈ ps := by rw [gt_eq h]; exact List.getElem_mem h
theorem nxi_mem {ps : List Pt} {i : Nat} (h : i < ps.length) : nxi ps i ∈ ps := gt_mem (Nat.mod_lt _ (by omega))
theorem atI_gt {ps : List Pt} {i : Nat} (h : i < ps.length) : atI (ps.map pt) (0 + (i : Int)) = some (pt (gt ps i)) := by rw [Int.zero_add, atI_map h, gt_eq h]
theorem atI_nxi {ps : List Pt} {i : Nat} (h : i < ps.length) : atI (ps.map pt) ((0 + (i : Int) + 1).fmod (ps.length : Int)) = some (pt (nxi ps i)) := by
  have e : (0 + (i : Int) + 1).fmod (ps.length : Int) = (((i + 1) % ps.length : Nat) : Int) := by
    rw [Int.zero_add, show ((i : Int) + 1) = ((i + 1 : Nat) : Int) by omega, fmod_nat]
  have h2 : (i + 1) % ps.length < ps.length := Nat.mod_lt _ (by omega)
  rw [e, atI_map h2]
  unfold nxi
  rw [gt_eq h2]
theorem sides_range {ps : List Pt} (h : 2 ≤ ps.length) : plSides ps = (List.range ps.length).map fun i => toV (gt ps i) (nxi ps i) := by
  match ps, h with
  | p0 :: q :: t, _ =>
    show sds p0 p0 (q :: t) = _
    rw [← zip_sds]
    refine List.ext_getElem (by simp) fun i h1 h2 => ?_
    have hi : i < (p0 :: q :: t).length := by simpa using h2
    rw [List.getElem_map, List.getElem_map, List.getElem_zip, List.getElem_range, gt_eq hi]
    dsimp only
    refine congrArg (toV _) ?_
    unfold nxi
    by_cases z : i + 1 < (p0 :: q :: t).length
    · rw [Nat.mod_eq_of_lt z, gt_eq z, List.getElem_append_left (by simpa using z)]
      simp
    · have e : i + 1 = (p0 :: q :: t).length := by omega
      rw [e, Nat.mod_self, gt_eq (by simp), List.getElem_append_right (by simp at e ⊢; omega)]
      simp

def S_Lsides : GS := fun ds0 Q _ => ∃ (ps : List Pt), ds0 = [.tup (ps.map pt)] ∧ (ps ≠ [] ∧ ps.length ≤ 60) ∧ Q (.lst ((plSides ps).map pt))
theorem M_Lsides : MonoP S_Lsides := fun _ _ _ _ _ hQ _ ⟨ps, e9, p9, q9⟩ => ⟨ps, e9, p9, hQ _ q9⟩
theorem Z_Lsides : ∀ ds Q E, S_Lsides ds Q E → ds.length = 1 := fun _ _ _ ⟨ps, e9, _⟩ => by rw [e9]; rfl
theorem t_Lsides {ps : List Pt} {Q : D → Prop} {E : Exc → Prop} (p9 : ps ≠ [] ∧ ps.length ≤ 60) (h9 : Q (.lst ((plSides ps).map pt))) : S_Lsides [.tup (ps.map pt)] Q E := ⟨ps, rfl, p9, h9⟩


def SzN (n : Int) (v : Pt) : Prop := (-n ≤ v.1 ∧ v.1 ≤ n) ∧ (-n ≤ v.2 ∧ v.2 ≤ n)

def S_Lpoint : GO := fun xs0 ds0 Q _ => ∃ (a b n : Int), xs0 = [.int a, .int b] ∧ ds0 = [.int n] ∧ (SrcOk a b ∧ 0 ≤ n ∧ n ≤ 100) ∧ ∀ (v : Pt) (a2 b2 : Int), (SzN n v ∧ SrcOk a2 b2) → Q (pt v) [.int a2, .int b2]
theorem M_Lpoint : MonoO S_Lpoint := fun _ _ _ _ _ _ hQ _ ⟨a, b, n, e19, e29, p9, q9⟩ => ⟨a, b, n, e19, e29, p9, fun v a2 b2 c9 => hQ _ _ (q9 v a2 b2 c9)⟩
theorem Z_Lpoint : ∀ xs ds Q E, S_Lpoint xs ds Q E → ds.length + 1 = 2 := fun _ _ _ _ ⟨a, b, n, e19, e29, _⟩ => by rw [e29]; rfl
theorem t_Lpoint {a b n : Int} {Q : D → List D → Prop} {E : Exc → Prop} (p9 : SrcOk a b ∧ 0 ≤ n ∧ n ≤ 100) (h9 : ∀ (v : Pt) (a2 b2 : Int), (SzN n v ∧ SrcOk a2 b2) → Q (pt v) [.int a2, .int b2]) : S_Lpoint [.int a, .int b] [.int n] Q E := ⟨a, b, n, rfl, rfl, p9, h9⟩

def S_Lpoints : GO := fun xs0 ds0 Q _ => ∃ (a b m n : Int), xs0 = [.int a, .int b] ∧ ds0 = [.int m, .int n] ∧ (SrcOk a b ∧ (0 ≤ n ∧ n ≤ 100) ∧ 0 ≤ m ∧ m ≤ 100) ∧ ∀ (vs : List Pt) (a2 b2 : Int), ((∀ v ∈ vs, SzN n v) ∧ vs.length = m.toNat ∧ SrcOk a2 b2) → Q (.lst (vs.map pt)) [.int a2, .int b2]
theorem M_Lpoints : MonoO S_Lpoints := fun _ _ _ _ _ _ hQ _ ⟨a, b, m, n, e19, e29, p9, q9⟩ => ⟨a, b, m, n, e19, e29, p9, fun vs a2 b2 c9 => hQ _ _ (q9 vs a2 b2 c9)⟩
theorem Z_Lpoints : ∀ xs ds Q E, S_Lpoints xs ds Q E → ds.length + 1 = 3 := fun _ _ _ _ ⟨a, b, m, n, e19, e29, _⟩ => by rw [e29]; rfl
theorem t_Lpoints {a b m n : Int} {Q : D → List D → Prop} {E : Exc → Prop} (p9 : SrcOk a b ∧ (0 ≤ n ∧ n ≤ 100) ∧ 0 ≤ m ∧ m ≤ 100) (h9 : ∀ (vs : List Pt) (a2 b2 : Int), ((∀ v ∈ vs, SzN n v) ∧ vs.length = m.toNat ∧ SrcOk a2 b2) → Q (.lst (vs.map pt)) [.int a2, .int b2]) : S_Lpoints [.int a, .int b] [.int m, .int n] Q E := ⟨a, b, m, n, rfl, rfl, p9, h9⟩


theorem SzN.md {n : Int} {v : Pt} (h : SzN n v) (hn : n ≤ 100) : MdP v := by
  have key : ∀ x : Int, x.natAbs ≤ 100 → Md x := fun x hx => Nat.lt_of_le_of_lt hx (by decide +kernel)
  obtain ⟨h1, h2⟩ := h
  exact ⟨key _ (by omega), key _ (by omega)⟩

def S_Lround : GO := fun xs0 ds0 Q _ => ∃ (a b n : Int), xs0 = [.int a, .int b] ∧ ds0 = [.int n] ∧ (SrcOk a b ∧ 0 ≤ n ∧ n ≤ 100) ∧ ∀ (S : List Pt) (f : Pt) (a2 b2 : Int), ((f ∈ S ∧ S.length ≤ 6 ∧ ∀ v ∈ S, SzN n v) ∧ SrcOk a2 b2) → Q (.tup ((hullP f S).map pt)) [.int a2, .int b2]
theorem M_Lround : MonoO S_Lround := fun _ _ _ _ _ _ hQ _ ⟨a, b, n, e19, e29, p9, q9⟩ => ⟨a, b, n, e19, e29, p9, fun S f a2 b2 c9 => hQ _ _ (q9 S f a2 b2 c9)⟩
theorem Z_Lround : ∀ xs ds Q E, S_Lround xs ds Q E → ds.length + 1 = 2 := fun _ _ _ _ ⟨a, b, n, e19, e29, _⟩ => by rw [e29]; rfl
theorem t_Lround {a b n : Int} {Q : D → List D → Prop} {E : Exc → Prop} (p9 : SrcOk a b ∧ 0 ≤ n ∧ n ≤ 100) (h9 : ∀ (S : List Pt) (f : Pt) (a2 b2 : Int), ((f ∈ S ∧ S.length ≤ 6 ∧ ∀ v ∈ S, SzN n v) ∧ SrcOk a2 b2) → Q (.tup ((hullP f S).map pt)) [.int a2, .int b2]) : S_Lround [.int a, .int b] [.int n] Q E := ⟨a, b, n, rfl, rfl, p9, h9⟩

def S_Lbare : GS := fun ds0 Q _ => ∃ (p : Int × Int), ds0 = [pt p] ∧ (SmP p ∧ p ≠ (0, 0)) ∧ Q (pt (bare p))
theorem M_Lbare : MonoP S_Lbare := fun _ _ _ _ _ hQ _ ⟨p, e9, p9, q9⟩ => ⟨p, e9, p9, hQ _ q9⟩
theorem Z_Lbare : ∀ ds Q E, S_Lbare ds Q E → ds.length = 1 := fun _ _ _ ⟨p, e9, _⟩ => by rw [e9]; rfl
theorem t_Lbare {p : Int × Int} {Q : D → Prop} {E : Exc → Prop} (p9 : SmP p ∧ p ≠ (0, 0)) (h9 : Q (pt (bare p))) : S_Lbare [pt p] Q E := ⟨p, rfl, p9, h9⟩


theorem bare_mulG (p : Pt) : (bare p).1 * (Int.gcd p.1 p.2 : Int) = p.1 ∧ (bare p).2 * (Int.gcd p.1 p.2 : Int) = p.2 :=
  ⟨Int.fdiv_mul_cancel (Int.gcd_dvd_left (a := p.1) (b := p.2)), Int.fdiv_mul_cancel (Int.gcd_dvd_right (a := p.1) (b := p.2))⟩
theorem sgn_pos {x : Int} : 0 < sgn x ↔ 0 < x := by
  unfold sgn; split
  · simp_all
  · split <;> simp_all
theorem sgn_zero {x : Int} : sgn x = 0 ↔ x = 0 := by
  unfold sgn; split
  · constructor <;> intro h <;> omega
  · split <;> constructor <;> intro h <;> omega
theorem gcd_posP {w : Pt} (h : w ≠ (0, 0)) : 0 < (Int.gcd w.1 w.2 : Int) := by
  have := gcd_pos (a := w.1) (b := w.2) fun z => h (Prod.ext z.1 z.2)
  omega
/-- all corners lie left of each side -/
def Cvx (ps : List Pt) : Prop := ∀ i, i < ps.length → ∀ q ∈ ps, 0 ≤ crs (toV (gt ps i) (nxi ps i)) (toV (gt ps i) q)
/-! the drawn shape: the hull, moved far out at times -/
def aff (k a b : Int) (p : Pt) : Pt := (p.1 * k + a, p.2 * k + b)
def mulP (k : Int) (v : Pt) : Pt := (v.1 * k, v.2 * k)
theorem aff_toV (k a b : Int) (p q : Pt) : toV (aff k a b p) (aff k a b q) = mulP k (toV p q) := by
  unfold toV aff mulP
  exact Prod.ext (by dsimp only; grind) (by dsimp only; grind)
theorem sds_aff {k a b : Int} {p0 : Pt} : ∀ {h : Pt} {t : List Pt}, sds (aff k a b p0) (aff k a b h) (t.map (aff k a b)) = (sds p0 h t).map (mulP k)
  | h, [] => by simp [sds, aff_toV]
  | h, c :: t => by
    rw [List.map_cons]
    unfold sds
    rw [List.map_cons, aff_toV, sds_aff]
theorem plSides_aff {k a b : Int} : ∀ {ps : List Pt}, plSides (ps.map (aff k a b)) = (plSides ps).map (mulP k)
  | [] => rfl
  | [_] => rfl
  | p0 :: q :: t => by
    show sds (aff k a b p0) (aff k a b p0) ((q :: t).map (aff k a b)) = _
    rw [sds_aff]; rfl
theorem upp_mul {k : Int} (h : 0 < k) (u : Pt) : upp (mulP k u) = upp u := by
  rw [Bool.eq_iff_iff, upp_iff2, upp_iff2]
  unfold mulP
  dsimp only
  have p1 : 0 < u.2 * k ↔ 0 < u.2 := ⟨fun z => Int.pos_of_mul_pos_left z h, fun z => Int.mul_pos z h⟩
  have p2 : 0 < u.1 * k ↔ 0 < u.1 := ⟨fun z => Int.pos_of_mul_pos_left z h, fun z => Int.mul_pos z h⟩
  have p3 : u.2 * k = 0 ↔ u.2 = 0 := ⟨fun z => (Int.mul_eq_zero.mp z).elim id fun z => by omega, fun z => by rw [z, Int.zero_mul]⟩
  rw [p1, p2, p3]
theorem gt_map {g : Pt → Pt} {ps : List Pt} {i : Nat} (h : i < ps.length) : gt (ps.map g) i = g (gt ps i) := by
  rw [gt_eq (by rw [List.length_map]; exact h), gt_eq h, List.getElem_map]
theorem lefts_zip {S : List Pt} {p0 : Pt} : ∀ {h : Pt} {t : List Pt}, Lefts S p0 h t → ∀ c ∈ (h :: t).zip (t ++ [p0]), c.2 ≠ c.1 ∧ c.2 ∈ S ∧ ∀ q ∈ S, 0 ≤ crs (toV c.1 c.2) (toV c.1 q)
  | h, [], l, c, m => by
    have m' : c = (h, p0) := by simpa using m
    rw [m']; exact l
  | h, b :: t, ⟨l1, l2⟩, c, m => by
    have m' : c = (h, b) ∨ c ∈ (b :: t).zip (t ++ [p0]) := by simpa using m
    rcases m' with z | z
    · rw [z]; exact l1
    · exact lefts_zip l2 c z
theorem zip_cyc {p0 : Pt} {t : List Pt} {i : Nat} (h : i < (p0 :: t).length) : (gt (p0 :: t) i, nxi (p0 :: t) i) ∈ (p0 :: t).zip (t ++ [p0]) := by
  have hl : i < ((p0 :: t).zip (t ++ [p0])).length := by simpa using h
  have e : ((p0 :: t).zip (t ++ [p0]))[i] = (gt (p0 :: t) i, nxi (p0 :: t) i) := by
    rw [List.getElem_zip]
    refine Prod.ext (gt_eq h).symm ?_
    dsimp only
    unfold nxi
    by_cases z : i + 1 < (p0 :: t).length
    · rw [Nat.mod_eq_of_lt z, gt_eq z, List.getElem_append_left (by simpa using z)]
      simp
    · have e : i + 1 = (p0 :: t).length := by omega
      rw [e, Nat.mod_self, gt_eq (by simp), List.getElem_append_right (by simp at e ⊢; omega)]
      simp
  rw [← e]; exact List.getElem_mem hl
theorem hullGo_len (S : List Pt) (p0 : Pt) : ∀ (k : Nat) (h : Pt) (fs : List Pt), (hullGo S p0 k h fs).length ≤ fs.length + k
  | 0, _, fs => Nat.le_refl _
  | k + 1, h, fs => by
    rw [hullGo_succ]
    split
    · omega
    · split
      · omega
      · rename_i b _ _
        have := hullGo_len S p0 k b (fs ++ [b])
        rw [List.length_append, List.length_singleton] at this
        omega
theorem lefts_mem {S : List Pt} {p0 : Pt} : ∀ {h : Pt} {t : List Pt}, Lefts S p0 h t → ∀ q ∈ t, q ∈ S
  | _, [], _, q, m => by cases m
  | _, b :: t, ⟨l1, l2⟩, q, m => by
    rcases List.mem_cons.mp m with z | z
    · rw [z]; exact l1.2.1
    · exact lefts_mem l2 q z
theorem hull_mem {f : Pt} {S : List Pt} (hf : f ∈ S) : ∀ p ∈ hullP f S, p ∈ S := by
  obtain ⟨p0, t, e, h0, _, h⟩ := hull_ok hf
  rw [e]
  rcases h with ⟨rfl, _⟩ | ⟨_, hl, _⟩
  · intro p m; rw [List.mem_singleton.mp m]; exact h0
  · intro p m
    rcases List.mem_cons.mp m with z | z
    · rw [z]; exact h0
    · exact lefts_mem hl p z
theorem hull_shape {f : Pt} {S : List Pt} (hf : f ∈ S) (hl : S.length ≤ 59) (hp : ∀ p ∈ S, PtP p) : Rnd (hullP f S) ∧ Cvx (hullP f S) := by
  have len : (hullP f S).length ≤ 60 := by
    have := hullGo_len S (lowest f S) S.length (lowest f S) [lowest f S]
    rw [hullP_eq]; rw [List.length_singleton] at this; omega
  have mem := hull_mem hf
  obtain ⟨p0, t, e, h0, low, h⟩ := hull_ok hf
  rw [e] at len mem ⊢
  rcases h with ⟨rfl, _⟩ | ⟨ht, hL, hR⟩
  · refine ⟨⟨by simp, by simp, fun p m => hp p (mem p m), ?_, ?_⟩, fun i hi q m => ?_⟩
    · show ∀ s ∈ ([] : List Pt), s ≠ (0, 0)
      intro s m; cases m
    · show Rises ([] : List Pt)
      trivial
    have i0 : i = 0 := by simpa using hi
    subst i0
    rw [List.mem_singleton.mp m, show nxi [p0] 0 = p0 from by simp [nxi, gt], show gt [p0] 0 = p0 from by simp [gt]]
    rw [crs_self]; exact Int.le_refl _
  · obtain ⟨q, r, rfl⟩ : ∃ q r, t = q :: r := by
      cases t with
      | nil => exact absurd rfl ht
      | cons q r => exact ⟨q, r, rfl⟩
    refine ⟨⟨by simp, len, fun p m => hp p (mem p m), fun s m => ?_, hR⟩, fun i hi p m => ?_⟩
    · have m' : s ∈ sds p0 p0 (q :: r) := m
      rw [← zip_sds] at m'
      obtain ⟨c, mc, rfl⟩ := List.mem_map.mp m'
      exact toV_ne (lefts_zip hL c mc).1
    · exact (lefts_zip hL _ (zip_cyc hi)).2.2 p (mem p m)


theorem SzN.pt {n : Int} {v : Pt} (h : SzN n v) (hn : n ≤ 100) : PtP v := by
  obtain ⟨⟨z1, z2⟩, z3, z4⟩ := h; exact ⟨⟨by omega, by omega⟩, by omega, by omega⟩
theorem W61.in {u : Pt} (h : W61 u) : pairIn (10 ^ 61) (pt u) = true := by
  obtain ⟨a, b⟩ := h
  show (decide (_ ≤ _) && decide (_ ≤ _) && (decide (_ ≤ _) && decide (_ ≤ _))) = true
  rw [decide_eq_true (show -10 ^ 61 ≤ u.1 by omega), decide_eq_true (show u.1 ≤ 10 ^ 61 by omega), decide_eq_true (show -10 ^ 61 ≤ u.2 by omega), decide_eq_true (show u.2 ≤ 10 ^ 61 by omega)]; rfl
theorem SzN.w {n : Int} {v : Pt} (h : SzN n v) (hn : n ≤ 100) : W61 v := by
  obtain ⟨⟨z1, z2⟩, z3, z4⟩ := h; exact ⟨by omega, by omega⟩
theorem bf_iff {u v : Pt} : slope u v < 0 ↔ (upp u = true ∧ upp v = false) ∨ (upp u = upp v ∧ 0 < crs u v) := by
  unfold slope
  have s : ∀ n : Int, -sgn n < 0 ↔ 0 < n := fun n => by
    have := @sgn_pos n; omega
  cases a : upp u <;> cases b : upp v <;> simp [sgn_pos]
theorem crs_transP {u v w : Pt} (hu : upp u = true) (hv : upp v = true) (hw : upp w = true) (h1 : 0 ≤ crs u v) (h2 : 0 < crs v w) : 0 < crs u w := by
  have pu := (upp_iff2 u).mp hu
  have pv := (upp_iff2 v).mp hv
  have pw := (upp_iff2 w).mp hw
  have i2 := crs_id2 u v w
  have nu : 0 ≤ u.2 := by omega
  have nw : 0 ≤ w.2 := by omega
  rcases pv with pv | ⟨pv, pv1⟩
  · have b := Int.mul_nonneg h1 nw
    rcases Int.lt_or_eq_of_le nu with u2 | u2
    · have a := Int.mul_pos h2 u2
      refine Int.pos_of_mul_pos_left (b := v.2) (by omega) pv
    · have u1 : 0 < u.1 := by omega
      have w2 : 0 < w.2 := by
        rcases Int.lt_or_eq_of_le nw with z | z
        · exact z
        · exfalso
          have w1 : 0 < w.1 := by omega
          unfold crs at h2
          rw [← z, Int.mul_zero] at h2
          have := Int.mul_pos pv w1
          omega
      unfold crs
      rw [← u2, Int.zero_mul]
      have := Int.mul_pos u1 w2
      omega
  · have c1 : crs u v = -(u.2 * v.1) := by unfold crs; rw [pv]; simp
    have u2 : u.2 = 0 := by
      have := Int.mul_nonneg nu (Int.le_of_lt pv1)
      rcases Int.mul_eq_zero.mp (show u.2 * v.1 = 0 by omega) with z | z
      · exact z
      · omega
    have c2 : crs v w = v.1 * w.2 := by unfold crs; rw [pv]; simp
    have w2 : 0 < w.2 := by
      rcases Int.lt_or_eq_of_le nw with z | z
      · exact z
      · rw [c2, ← z, Int.mul_zero] at h2; omega
    unfold crs
    rw [u2, Int.zero_mul]
    have := Int.mul_pos (show 0 < u.1 by omega) w2
    omega
theorem crs_opp (u v : Pt) : crs (opp u) v = -crs u v ∧ crs u (opp v) = -crs u v := by unfold crs opp; constructor <;> grind
theorem upp_opp {p : Pt} (h : p ≠ (0, 0)) (hp : upp p = false) : upp (opp p) = true := upp_neg h hp
theorem bf_after {u a b : Pt} (ha : a ≠ (0, 0)) (hb : b ≠ (0, 0)) (h1 : slope u a < 0) (h2 : slope a b < 0) (h3 : crs u a ≤ 0) : crs u b < 0 := by
  rcases bf_iff.mp h1 with ⟨p1, p2⟩ | ⟨_, p2⟩
  · rcases bf_iff.mp h2 with ⟨q1, _⟩ | ⟨q1, q2⟩
    · rw [p2] at q1; cases q1
    · have := crs_transP (w := opp b) p1 (upp_opp ha p2) (upp_opp hb (q1.symm.trans p2)) (by rw [(crs_opp _ _).2]; omega) (by rw [(crs_opp _ _).1, (crs_opp _ _).2]; omega)
      rw [(crs_opp _ _).2] at this; omega
  · omega
theorem bf_before {u a b : Pt} (hu : u ≠ (0, 0)) (h1 : slope a b < 0) (h2 : slope b u < 0) (h3 : crs u a ≤ 0) : crs u b < 0 := by
  rcases bf_iff.mp h2 with ⟨p1, p2⟩ | ⟨_, p2⟩
  · rcases bf_iff.mp h1 with ⟨_, q2⟩ | ⟨q1, q2⟩
    · rw [p1] at q2; cases q2
    · have := crs_transP (u := opp u) (upp_opp hu p2) (q1.trans p1) p1 (by rw [(crs_opp _ _).1]; omega) q2
      rw [(crs_opp _ _).1] at this; omega
  · rw [crs_anti]; omega
theorem bf_trans {u v w : Pt} (hu : u ≠ (0, 0)) (hv : v ≠ (0, 0)) (hw : w ≠ (0, 0)) (h1 : slope u v < 0) (h2 : slope v w < 0) : slope u w < 0 := by
  rw [bf_iff] at *
  rcases h1 with ⟨a1, a2⟩ | ⟨a1, a2⟩
  · rcases h2 with ⟨b1, _⟩ | ⟨b1, _⟩
    · rw [a2] at b1; cases b1
    · exact .inl ⟨a1, b1.symm.trans a2⟩
  · rcases h2 with ⟨b1, b2⟩ | ⟨b1, b2⟩
    · exact .inl ⟨a1.trans b1, b2⟩
    · refine .inr ⟨a1.trans b1, ?_⟩
      cases hu' : upp u with
      | true => exact crs_transP hu' (a1.symm.trans hu') (b1.symm.trans (a1.symm.trans hu')) (Int.le_of_lt a2) b2
      | false =>
        have := crs_transP (upp_opp hu hu') (upp_opp hv (a1.symm.trans hu')) (upp_opp hw (b1.symm.trans (a1.symm.trans hu'))) (by rw [(crs_opp _ _).1, (crs_opp _ _).2]; omega) (by rw [(crs_opp _ _).1, (crs_opp _ _).2]; omega)
        rw [(crs_opp _ _).1, (crs_opp _ _).2] at this; omega
theorem rises_pair : ∀ {ss : List Pt}, (∀ s ∈ ss, s ≠ (0, 0)) → Rises ss → ss.Pairwise fun a b => slope a b < 0
  | [], _, _ => .nil
  | [a], _, _ => by simp
  | a :: b :: r, hn, ⟨h1, h2⟩ => by
    have ih := rises_pair (ss := b :: r) (fun s m => hn s (List.mem_cons_of_mem _ m)) h2
    refine .cons (fun x m => ?_) ih
    rcases List.mem_cons.mp m with rfl | m
    · exact h1
    · exact bf_trans (hn a (by simp)) (hn b (by simp)) (hn x (by simp [m])) h1 ((List.pairwise_cons.mp ih).1 x m)
/-! first up, then down -/
theorem mono_up {F : Nat → Int} {lo : Nat} : ∀ {k : Nat}, (∀ a, lo ≤ a → a < k → F a < F (a + 1)) → lo < k → F lo < F k
  | k + 1, h, hk => by
    have l := h k (by omega) (by omega)
    by_cases e : lo = k
    · rw [e]; exact l
    · have := mono_up (F := F) (lo := lo) (k := k) (fun a h1 h2 => h a h1 (by omega)) (by omega)
      omega
theorem hump {F : Nat → Int} {lo hi : Nat} (hd : ∀ a b, lo ≤ a → a < b → b < hi → F (a + 1) ≤ F a → F (b + 1) < F b) {k : Nat} (h1 : lo < k) (h2 : k < hi) : F lo < F k ∨ F hi < F k := by
  by_cases c : F k ≤ F (k - 1)
  · right
    have := mono_up (F := fun j => -F j) (lo := k) (k := hi) (fun b hb hb2 => by
      have := hd (k - 1) b (by omega) (by omega) hb2 (by rw [show k - 1 + 1 = k by omega]; exact c)
      show -F b < -F (b + 1); omega) h2
    (try dsimp only at this); omega
  · left
    refine mono_up (fun a ha ha2 => ?_) h1
    by_cases e : a = k - 1
    · rw [e, show k - 1 + 1 = k by omega]; omega
    · by_cases z : F (a + 1) ≤ F a
      · have := hd a (k - 1) ha (by omega) (by omega) z
        rw [show k - 1 + 1 = k by omega] at this; omega
      · omega
/-! a closed walk whose sides rise: all corners lie left of each side -/
def sdi (ps : List Pt) (i : Nat) : Pt := toV (gt ps i) (nxi ps i)
def cyc (ps : List Pt) (k : Nat) : Pt := gt ps (k % ps.length)
theorem sdi_mem {ps : List Pt} (h : 2 ≤ ps.length) {i : Nat} (hi : i < ps.length) : sdi ps i ∈ plSides ps := by
  rw [sides_range h]; exact List.mem_map.mpr ⟨i, List.mem_range.mpr hi, rfl⟩
theorem sdi_ne {ps : List Pt} (hr : Rnd ps) (h : 2 ≤ ps.length) {i : Nat} (hi : i < ps.length) : sdi ps i ≠ (0, 0) := hr.2.2.2.1 _ (sdi_mem h hi)
theorem sdi_bf {ps : List Pt} (hr : Rnd ps) (h : 2 ≤ ps.length) {i j : Nat} (hij : i < j) (hj : j < ps.length) : slope (sdi ps i) (sdi ps j) < 0 := by
  have pw := rises_pair hr.2.2.2.1 hr.2.2.2.2
  rw [sides_range h, List.pairwise_iff_getElem] at pw
  have := pw i j (by simp; omega) (by simpa using hj) hij
  rw [List.getElem_map, List.getElem_map, List.getElem_range, List.getElem_range] at this
  exact this
theorem cyc_lt {ps : List Pt} {k : Nat} (h : k < ps.length) : cyc ps k = gt ps k := by unfold cyc; rw [Nat.mod_eq_of_lt h]
theorem cyc_n (ps : List Pt) : cyc ps ps.length = gt ps 0 := by unfold cyc; rw [Nat.mod_self]
theorem cyc_succ (ps : List Pt) (k : Nat) : cyc ps (k + 1) = nxi ps k := rfl
theorem crs_step (u : Pt) (ps : List Pt) {k : Nat} (h : k < ps.length) : crs u (cyc ps (k + 1)) - crs u (cyc ps k) = crs u (sdi ps k) := by
  rw [cyc_succ, cyc_lt h]; unfold sdi crs toV; grind
theorem strict_left {ps : List Pt} (hr : Rnd ps) (h : 2 ≤ ps.length) {i k : Nat} (hi : i < ps.length) (hk : k < ps.length) (h1 : k ≠ i) (h2 : k ≠ (i + 1) % ps.length) : 0 < crs (sdi ps i) (toV (gt ps i) (gt ps k)) := by
  have ui := sdi_ne hr h hi
  have st := fun {j : Nat} (hj : j < ps.length) => crs_step (sdi ps i) ps hj
  have fi : crs (sdi ps i) (cyc ps (i + 1)) = crs (sdi ps i) (cyc ps i) := by
    have := st hi; rw [crs_self] at this; omega
  have fn : crs (sdi ps i) (cyc ps ps.length) = crs (sdi ps i) (cyc ps 0) := by rw [cyc_n, cyc_lt (by omega)]
  have humpA : ∀ j, i + 1 < j → j < ps.length → crs (sdi ps i) (cyc ps (i + 1)) < crs (sdi ps i) (cyc ps j) ∨ crs (sdi ps i) (cyc ps ps.length) < crs (sdi ps i) (cyc ps j) := fun j q1 q2 =>
    hump (F := fun j => crs (sdi ps i) (cyc ps j)) (fun a b ha hab hb z => by
      have s1 := st (show a < ps.length by omega)
      have s2 := st hb
      have := bf_after (sdi_ne hr h (by omega)) (sdi_ne hr h hb) (sdi_bf hr h (show i < a by omega) (by omega)) (sdi_bf hr h hab hb) (by (try dsimp only at z); omega)
      (try dsimp only); omega) q1 q2
  have humpB : ∀ j, 0 < j → j < i → crs (sdi ps i) (cyc ps 0) < crs (sdi ps i) (cyc ps j) ∨ crs (sdi ps i) (cyc ps i) < crs (sdi ps i) (cyc ps j) := fun j q1 q2 =>
    hump (F := fun j => crs (sdi ps i) (cyc ps j)) (fun a b ha hab hb z => by
      have s1 := st (show a < ps.length by omega)
      have s2 := st (show b < ps.length by omega)
      have := bf_before ui (sdi_bf hr h hab (by omega)) (sdi_bf hr h hb hi) (by (try dsimp only at z); omega)
      (try dsimp only); omega) q1 q2
  have f0 : crs (sdi ps i) (cyc ps i) ≤ crs (sdi ps i) (cyc ps 0) ∧ (0 < i → i + 1 < ps.length → crs (sdi ps i) (cyc ps i) < crs (sdi ps i) (cyc ps 0)) := by
    cases up : upp (sdi ps i) with
    | true =>
      have neg : ∀ a, a < i → crs (sdi ps i) (cyc ps (a + 1)) < crs (sdi ps i) (cyc ps a) := fun a ha => by
        have s1 := st (show a < ps.length by omega)
        rcases bf_iff.mp (sdi_bf hr h ha hi) with ⟨_, z⟩ | ⟨_, z⟩
        · rw [up] at z; cases z
        · rw [crs_anti] at z; omega
      by_cases i0 : i = 0
      · subst i0; exact ⟨Int.le_refl _, fun z => by omega⟩
      · have := mono_up (F := fun j => -crs (sdi ps i) (cyc ps j)) (lo := 0) (k := i) (fun a _ ha => by have := neg a ha; (try dsimp only); omega) (by omega)
        (try dsimp only at this)
        exact ⟨by omega, fun _ _ => by omega⟩
    | false =>
      have pos : ∀ b, i < b → b < ps.length → crs (sdi ps i) (cyc ps b) < crs (sdi ps i) (cyc ps (b + 1)) := fun b hb hb2 => by
        have s1 := st hb2
        rcases bf_iff.mp (sdi_bf hr h hb hb2) with ⟨z, _⟩ | ⟨_, z⟩
        · rw [up] at z; cases z
        · omega
      by_cases i0 : i + 1 = ps.length
      · rw [← i0] at fn; exact ⟨by omega, fun _ z => by omega⟩
      · have := mono_up (F := fun j => crs (sdi ps i) (cyc ps j)) (lo := i + 1) (k := ps.length) (fun a ha ha2 => pos a (by omega) ha2) (by omega)
        (try dsimp only at this)
        exact ⟨by omega, fun _ _ => by omega⟩
  have goal : crs (sdi ps i) (cyc ps i) < crs (sdi ps i) (cyc ps k) := by
    by_cases k0 : k = 0
    · subst k0
      have : i + 1 < ps.length := by
        by_cases z : i + 1 = ps.length
        · rw [z, Nat.mod_self] at h2; exact absurd rfl h2
        · omega
      exact f0.2 (by omega) this
    · by_cases ki : k < i
      · have := humpB k (by omega) ki; omega
      · have k1 : k ≠ i + 1 := fun z => h2 (by rw [← z, Nat.mod_eq_of_lt hk])
        have := humpA k (by omega) hk; omega
  have e : crs (sdi ps i) (toV (gt ps i) (gt ps k)) = crs (sdi ps i) (gt ps k) - crs (sdi ps i) (gt ps i) := by unfold crs toV; grind
  rw [e, ← cyc_lt hi, ← cyc_lt hk]; omega
theorem mem_gt {ps : List Pt} {q : Pt} (h : q ∈ ps) : ∃ k, k < ps.length ∧ q = gt ps k := by
  obtain ⟨k, hk, e⟩ := List.mem_iff_getElem.mp h
  exact ⟨k, hk, by rw [gt_eq hk, e]⟩
/-! the first corner is the lowest -/
theorem low_refl (p : Pt) : Low p p := .inr ⟨rfl, Int.le_refl _⟩
theorem low_anti {p q : Pt} (h1 : Low p q) (h2 : Low q p) : p = q := by
  unfold Low at *; exact Prod.ext (by omega) (by omega)
theorem low_up {p q : Pt} (h : upp (toV p q) = true) : Low p q := by
  have := (upp_iff2 _).mp h; unfold toV at this; unfold Low; dsimp only at this; omega
theorem low_dn {p q : Pt} (h : upp (toV p q) = false) : Low q p := by
  have := (upp_iff2' _).mp h; unfold toV at this; unfold Low; dsimp only at this; omega
theorem low_first {ps : List Pt} (hr : Rnd ps) : ∀ q ∈ ps, Low (gt ps 0) q := by
  intro q mq
  obtain ⟨k, hk, rfl⟩ := mem_gt mq
  by_cases h : 2 ≤ ps.length
  · by_cases k0 : k = 0
    · rw [k0]; exact low_refl _
    cases up : upp (sdi ps (k - 1)) with
    | true =>
      have all : ∀ a, a < k → upp (sdi ps a) = true := fun a ha => by
        by_cases e : a = k - 1
        · rw [e]; exact up
        · rcases bf_iff.mp (sdi_bf hr h (show a < k - 1 by omega) (by omega)) with ⟨z, _⟩ | ⟨z, _⟩
          · exact z
          · rw [z]; exact up
      have go : ∀ j, j ≤ k → Low (gt ps 0) (cyc ps j) := by
        intro j
        induction j with
        | zero => intro _; rw [cyc_lt (by omega)]; exact low_refl _
        | succ j ih =>
          intro hj
          have h1 := ih (by omega)
          have h2 : Low (gt ps j) (nxi ps j) := low_up (all j (by omega))
          rw [cyc_lt (by omega)] at h1
          exact h1.trans h2
      have := go k (Nat.le_refl _)
      rw [cyc_lt hk] at this; exact this
    | false =>
      have all : ∀ b, k - 1 ≤ b → b < ps.length → upp (sdi ps b) = false := fun b hb hb2 => by
        by_cases e : b = k - 1
        · rw [e]; exact up
        · rcases bf_iff.mp (sdi_bf hr h (show k - 1 < b by omega) hb2) with ⟨z, _⟩ | ⟨z, _⟩
          · rw [up] at z; cases z
          · rw [← z]; exact up
      have go : ∀ j, k + j ≤ ps.length → Low (cyc ps (k + j)) (gt ps k) := by
        intro j
        induction j with
        | zero => intro _; rw [Nat.add_zero, cyc_lt hk]; exact low_refl _
        | succ j ih =>
          intro hj
          have h1 := ih (by omega)
          have h2 : Low (nxi ps (k + j)) (gt ps (k + j)) := low_dn (all (k + j) (by omega) (by omega))
          rw [cyc_lt (by omega)] at h1
          exact h2.trans h1
      have := go (ps.length - k) (by omega)
      rw [show k + (ps.length - k) = ps.length by omega, cyc_n] at this; exact this
  · have : k = 0 := by omega
    rw [this]; exact low_refl _
theorem first_ne {ps : List Pt} (hr : Rnd ps) (h : 2 ≤ ps.length) {j : Nat} (h0 : 0 < j) (hj : j < ps.length) : gt ps j ≠ gt ps 0 := by
  intro e
  by_cases z : 0 = (j + 1) % ps.length
  · have : nxi ps j = gt ps 0 := by unfold nxi; rw [← z]
    refine sdi_ne hr h hj ?_
    unfold sdi; rw [this, e]; unfold toV; simp
  · have := strict_left hr h hj (k := 0) (by omega) (by omega) z
    rw [e] at this
    have e2 : crs (sdi ps j) (toV (gt ps 0) (gt ps 0)) = 0 := by unfold crs toV; grind
    omega
/-! going round a round shape gives it back -/
theorem nxt_self {ps : List Pt} (hr : Rnd ps) (h : 2 ≤ ps.length) {i : Nat} (hi : i < ps.length) : nxt ps (gt ps i) = some (nxi ps i) := by
  have ne : nxi ps i ≠ gt ps i := fun z => sdi_ne hr h hi (by unfold sdi; rw [z]; unfold toV; simp)
  obtain ⟨i', hi', e'⟩ : ∃ i', i' < ps.length ∧ (i' + 1) % ps.length = i := by
    by_cases z : i = 0
    · exact ⟨ps.length - 1, by omega, by rw [show ps.length - 1 + 1 = ps.length by omega, Nat.mod_self, z]⟩
    · exact ⟨i - 1, by omega, by rw [show i - 1 + 1 = i by omega, Nat.mod_eq_of_lt hi]⟩
  have en : nxi ps i' = gt ps i := by unfold nxi; rw [e']
  have hd : ∀ q ∈ ps, q ≠ gt ps i → InH (sdi ps i') (toV (gt ps i) q) := by
    intro q mq nq
    obtain ⟨k, hk, rfl⟩ := mem_gt mq
    by_cases k1 : k = i'
    · subst k1
      have d0 := dot_self_pos (sdi_ne hr h hk)
      refine .inr ⟨?_, ?_⟩
      · unfold sdi; rw [en]; unfold crs toV; grind
      · have : dotP (sdi ps k) (toV (gt ps i) (gt ps k)) = -dotP (sdi ps k) (sdi ps k) := by unfold sdi; rw [en]; unfold dotP toV; grind
        omega
    · have k2 : k ≠ (i' + 1) % ps.length := fun z => nq (by rw [z, e'])
      have := strict_left hr h hi' hk k1 k2
      refine .inl ?_
      have e : crs (sdi ps i') (toV (gt ps i) (gt ps k)) = crs (sdi ps i') (toV (gt ps i') (gt ps k)) := by unfold sdi; rw [en]; unfold crs toV; grind
      rw [e]; exact this
  cases e : nxt ps (gt ps i) with
  | none => exact absurd (nxt_none hd e _ (nxi_mem hi)) ne
  | some b =>
    obtain ⟨b1, b2, b3⟩ := nxt_some hd e
    obtain ⟨k, hk, rfl⟩ := mem_gt b1
    by_cases k1 : k = (i + 1) % ps.length
    · rw [k1]; rfl
    · exfalso
      have k2 : k ≠ i := fun z => b2 (by rw [z])
      have st := strict_left hr h hi hk k2 k1
      have bh := b3 (nxi ps i) (nxi_mem hi) ne
      have an : crs (toV (gt ps i) (gt ps k)) (toV (gt ps i) (nxi ps i)) = -crs (sdi ps i) (toV (gt ps i) (gt ps k)) := crs_anti _ _
      rcases bh with z | ⟨z, _⟩ <;> omega
theorem hullGo_self {ps : List Pt} (hr : Rnd ps) (h : 2 ≤ ps.length) : ∀ (k j : Nat), j + k = ps.length → j < ps.length → hullGo ps (gt ps 0) k (gt ps j) (ps.take (j + 1)) = ps
  | 0, j, e, hj => by omega
  | k + 1, j, e, hj => by
    rw [hullGo_succ, nxt_self hr h hj]
    dsimp only
    by_cases c : j + 1 = ps.length
    · have : nxi ps j = gt ps 0 := by unfold nxi; rw [c, Nat.mod_self]
      rw [if_pos this, c, List.take_length]
    · have hj2 : j + 1 < ps.length := by omega
      have e2 : nxi ps j = gt ps (j + 1) := by unfold nxi; rw [Nat.mod_eq_of_lt hj2]
      rw [e2, if_neg (first_ne hr h (by omega) hj2)]
      have := hullGo_self hr h k (j + 1) (by omega) hj2
      rw [show ps.take (j + 1) ++ [gt ps (j + 1)] = ps.take (j + 1 + 1) by rw [gt_eq hj2, List.take_append_getElem]]
      exact this
theorem hull_self {ps : List Pt} (hr : Rnd ps) {f : Pt} (hf : f ∈ ps) : hullP f ps = ps := by
  by_cases h : 2 ≤ ps.length
  · rw [hullP_eq]
    obtain ⟨l1, l2, l3⟩ := lowest_ok ps f
    have lm : lowest f ps ∈ ps := by
      rcases l1 with z | z
      · rw [z]; exact hf
      · exact z
    have e : lowest f ps = gt ps 0 := low_anti (l3 _ (gt_mem (by omega))) (low_first hr _ lm)
    rw [e]
    have := hullGo_self hr h ps.length 0 (by omega) (by omega)
    have t1 : ps.take (0 + 1) = [gt ps 0] := by
      match ps, h with
      | p :: q :: r, _ => simp [gt]
    rw [t1] at this
    exact this
  · have h1 : ps.length = 1 := by have := List.length_pos_iff.mpr hr.1; omega
    match ps, h1, hf with
    | [p], _, hf =>
      obtain ⟨p0, t, e, h0, _, hc⟩ := hull_ok hf
      have e0 : p0 = p := List.mem_singleton.mp h0
      rcases hc with ⟨rfl, _⟩ | ⟨ht, hL, _⟩
      · rw [e, e0]
      · cases t with
        | nil => exact absurd rfl ht
        | cons b t => exact absurd (List.mem_singleton.mp hL.1.2.1) (by rw [← e0]; exact hL.1.1)


theorem mulP_ne {k : Int} {u : Pt} (hk : 0 < k) (hu : u ≠ (0, 0)) : mulP k u ≠ (0, 0) := fun z => hu (by
  obtain ⟨z1, z2⟩ := Prod.mk.inj z
  have n0 : k ≠ 0 := by omega
  exact Prod.ext ((Int.mul_eq_zero.mp z1).elim id fun z => absurd z n0) ((Int.mul_eq_zero.mp z2).elim id fun z => absurd z n0))
theorem ne_of_mulP {k : Int} {u : Pt} (hu : mulP k u ≠ (0, 0)) : u ≠ (0, 0) := fun z => hu (by rw [z]; unfold mulP; simp)
theorem slope_mul2 {k l : Int} (hk : 0 < k) (hl : 0 < l) (u v : Pt) : slope (mulP k u) (mulP l v) = slope u v := by
  have e : crs (mulP k u) (mulP l v) = crs u v * (k * l) := by unfold crs mulP; grind
  unfold slope
  rw [upp_mul hk, upp_mul hl, e, sgn_mul_pos (Int.mul_pos hk hl)]


/-- a vector that is_vector takes, not null -/
def DirP (p : Int × Int) : Prop := (-(10 ^ 61) ≤ p.1 ∧ p.1 ≤ 10 ^ 61) ∧ (-(10 ^ 61) ≤ p.2 ∧ p.2 ≤ 10 ^ 61) ∧ p ≠ (0, 0)
theorem DirP.sm {p : Int × Int} (h : DirP p) : SmP p := by
  obtain ⟨⟨a, b⟩, ⟨c, d⟩, _⟩ := h
  have k : ∀ x : Int, -(10 ^ 61) ≤ x → x ≤ 10 ^ 61 → Sm x := fun x h1 h2 => Sm.of (n := 10 ^ 62) (by omega)
  exact ⟨k _ a b, k _ c d⟩
theorem DirP.is {p : Int × Int} (h : DirP p) : pairIn (10 ^ 61) (pt p) = true := by
  obtain ⟨⟨a, b⟩, ⟨c, d⟩, _⟩ := h
  show (decide (_ ≤ _) && decide (_ ≤ _) && (decide (_ ≤ _) && decide (_ ≤ _))) = true
  rw [decide_eq_true a, decide_eq_true b, decide_eq_true c, decide_eq_true d]; rfl


/-- a stable merge -/
def mg : List Pt → List Pt → List Pt
  | [], ys => ys
  | x :: xs, [] => x :: xs
  | x :: xs, y :: ys => if slope x y ≤ 0 then x :: mg xs (y :: ys) else y :: mg (x :: xs) ys
termination_by xs ys => xs.length + ys.length
theorem mg_nil (ys : List Pt) : mg [] ys = ys := by rw [mg]
theorem mg_nil2 (xs : List Pt) : mg xs [] = xs := by cases xs <;> rw [mg]
theorem mg_cons (x : Pt) (xs : List Pt) (y : Pt) (ys : List Pt) : mg (x :: xs) (y :: ys) = if slope x y ≤ 0 then x :: mg xs (y :: ys) else y :: mg (x :: xs) ys := by rw [mg]
theorem mg_len : ∀ xs ys : List Pt, (mg xs ys).length = xs.length + ys.length
  | [], ys => by rw [mg_nil]; simp
  | x :: xs, [] => by rw [mg_nil2]; simp
  | x :: xs, y :: ys => by
    rw [mg_cons]
    split
    · simp [mg_len xs (y :: ys)]; omega
    · simp [mg_len (x :: xs) ys]; omega
termination_by xs ys => xs.length + ys.length
def S_merged_by (f_slope_order : Addr) : GS := fun ds0 Q _ => ∃ (xs ys : List Pt), ds0 = [.ob (.ref f_slope_order), .lst (xs.map pt), .lst (ys.map pt)] ∧ ((∀ p ∈ xs, SmP p) ∧ (∀ p ∈ ys, SmP p) ∧ xs.length + ys.length ≤ 500) ∧ Q (.lst ((mg xs ys).map pt))
theorem M_merged_by {f_slope_order : Addr} : MonoP (S_merged_by f_slope_order) := fun _ _ _ _ _ hQ _ ⟨xs, ys, e9, p9, q9⟩ => ⟨xs, ys, e9, p9, hQ _ q9⟩
theorem Z_merged_by {f_slope_order : Addr} : ∀ ds Q E, (S_merged_by f_slope_order) ds Q E → ds.length = 3 := fun _ _ _ ⟨xs, ys, e9, _⟩ => by rw [e9]; rfl
theorem t_merged_by {f_slope_order : Addr} {xs ys : List Pt} {Q : D → Prop} {E : Exc → Prop} (p9 : (∀ p ∈ xs, SmP p) ∧ (∀ p ∈ ys, SmP p) ∧ xs.length + ys.length ≤ 500) (h9 : Q (.lst ((mg xs ys).map pt))) : (S_merged_by f_slope_order) [.ob (.ref f_slope_order), .lst (xs.map pt), .lst (ys.map pt)] Q E := ⟨xs, ys, rfl, p9, h9⟩


theorem snoc_ind {α : Type} {P : List α → Prop} (h0 : P []) (hs : ∀ xs x, P xs → P (xs ++ [x])) (xs : List α) : P xs := by
  have key : ∀ ys : List α, P ys.reverse := by
    intro ys
    induction ys with
    | nil => exact h0
    | cons y r ih => rw [List.reverse_cons]; exact hs _ _ ih
  have := key xs.reverse
  rwa [List.reverse_reverse] at this
theorem filterMap_cg {α β : Type} {f g : α → Option β} : ∀ {l : List α}, (∀ a ∈ l, f a = g a) → l.filterMap f = l.filterMap g
  | [], _ => rfl
  | a :: l, h => by rw [List.filterMap_cons, List.filterMap_cons, h a List.mem_cons_self, filterMap_cg fun b hb => h b (List.mem_cons_of_mem _ hb)]
/-- v behind all that are not behind it -/
def ins (v : Pt) : List Pt → List Pt
  | [] => [v]
  | b :: B => if slope b v ≤ 0 then b :: ins v B else v :: b :: B
def isort (xs : List Pt) : List Pt := xs.foldl (fun acc v => ins v acc) []
def NZ (xs : List Pt) : Prop := ∀ p ∈ xs, p ≠ (0, 0)
theorem ins_mem {p v : Pt} : ∀ {B : List Pt}, p ∈ ins v B ↔ p = v ∨ p ∈ B
  | [] => by simp [ins]
  | b :: B => by
    unfold ins
    split
    · simp only [List.mem_cons, ins_mem (B := B)]
      constructor
      · rintro (h | h | h) <;> simp [h]
      · rintro (h | h | h) <;> simp [h]
    · simp only [List.mem_cons]
theorem mg_ins {v : Pt} : ∀ {A B : List Pt}, NZ A → NZ B → v ≠ (0, 0) → mg A (ins v B) = ins v (mg A B)
  | [], B, _, _, _ => by rw [mg_nil, mg_nil]
  | a :: A, [], hA, hB, hv => by
    rw [mg_nil2]
    show mg (a :: A) [v] = ins v (a :: A)
    rw [mg_cons, ins]
    split
    · have := mg_ins (v := v) (A := A) (B := []) (fun p h => hA p (List.mem_cons_of_mem _ h)) hB hv
      rw [mg_nil2] at this
      rw [← this]; rfl
    · rw [mg_nil2]
  | a :: A, b :: B, hA, hB, hv => by
    have hA' : NZ A := fun p h => hA p (List.mem_cons_of_mem _ h)
    have hB' : NZ B := fun p h => hB p (List.mem_cons_of_mem _ h)
    have ha := hA a List.mem_cons_self
    have hb := hB b List.mem_cons_self
    have I1 := mg_ins (v := v) (A := A) (B := b :: B) hA' hB hv
    have I2 := mg_ins (v := v) (A := a :: A) (B := B) hA hB' hv
    unfold ins at I1
    rw [ins, mg_cons a A b B]
    by_cases hbv : slope b v ≤ 0
    · rw [if_pos hbv] at I1 ⊢
      rw [mg_cons]
      by_cases hab : slope a b ≤ 0
      · rw [if_pos hab, if_pos hab, I1, ins, if_pos (slope_trans ha hb hv hab hbv)]
        cases h : mg A (b :: B) <;> rfl
      · rw [if_neg hab, if_neg hab, ins, if_pos hbv, I2]
    · rw [if_neg hbv] at I1 ⊢
      rw [mg_cons]
      by_cases hab : slope a b ≤ 0
      · rw [if_pos hab, ins]
        by_cases hav : slope a v ≤ 0
        · rw [if_pos hav, if_pos hav, I1]
          cases h : mg A (b :: B) <;> rfl
        · rw [if_neg hav, if_neg hav, mg_cons, if_pos hab]
      · rw [if_neg hab, ins, if_neg hbv]
        have hav : ¬ slope a v ≤ 0 := fun z => hbv (slope_trans hb ha hv (slope_total hab) z)
        rw [if_neg hav, mg_cons, if_neg hab]
termination_by A B => A.length + B.length
theorem isort_snoc (xs : List Pt) (v : Pt) : isort (xs ++ [v]) = ins v (isort xs) := by unfold isort; rw [List.foldl_append]; rfl
theorem isort_mem {p : Pt} {xs : List Pt} : p ∈ isort xs ↔ p ∈ xs := by
  have key : ∀ (ys acc : List Pt), p ∈ ys.foldl (fun acc v => ins v acc) acc ↔ p ∈ acc ∨ p ∈ ys := by
    intro ys
    induction ys with
    | nil => intro acc; simp
    | cons y r ih =>
      intro acc
      rw [List.foldl_cons, ih, ins_mem, List.mem_cons]
      constructor
      · rintro ((h | h) | h) <;> simp [h]
      · rintro (h | h | h) <;> simp [h]
  unfold isort
  rw [key]; simp
theorem mg_isort {xs : List Pt} (hx : NZ xs) : ∀ {ys : List Pt}, NZ ys → mg (isort xs) (isort ys) = isort (xs ++ ys) := by
  intro ys
  have hx' : NZ (isort xs) := fun p h => hx p (isort_mem.mp h)
  induction ys using snoc_ind with
  | h0 => intro _; show mg (isort xs) [] = _; rw [mg_nil2, List.append_nil]
  | hs ys v ih =>
    intro hy
    have hy' : NZ ys := fun p h => hy p (List.mem_append_left _ h)
    rw [isort_snoc, mg_ins hx' (fun p h => hy' p (isort_mem.mp h)) (hy v (List.mem_append_right _ (by simp))), ih hy', ← List.append_assoc, isort_snoc]
theorem isort_len (xs : List Pt) : (isort xs).length = xs.length := by
  have hi : ∀ (v : Pt) (B : List Pt), (ins v B).length = B.length + 1 := by
    intro v B
    induction B with
    | nil => rfl
    | cons b B ih => unfold ins; split <;> simp [ih]
  have key : ∀ (ys acc : List Pt), (ys.foldl (fun acc v => ins v acc) acc).length = acc.length + ys.length := by
    intro ys
    induction ys with
    | nil => intro acc; simp
    | cons y r ih => intro acc; rw [List.foldl_cons, ih, hi, List.length_cons]; omega
  unfold isort
  rw [key]; simp
/-! pairs of a list, one by one -/
def pairs {α : Type} (f : α → α → α) : List α → List α
  | a :: b :: r => f a b :: pairs f r
  | r => r
def evens {α : Type} : List α → List α
  | a :: _ :: r => a :: evens r
  | r => r
def odds {α : Type} : List α → List α
  | _ :: b :: r => b :: odds r
  | _ => []
def lastIf {α : Type} : List α → List α
  | _ :: _ :: r => lastIf r
  | r => r
theorem pairs_zip {α : Type} (f : α → α → α) : ∀ l : List α, ((evens l).zip (odds l)).map (fun p => f p.1 p.2) ++ lastIf l = pairs f l
  | [] => rfl
  | [_] => rfl
  | a :: b :: r => by
    show f a b :: (((evens r).zip (odds r)).map _ ++ lastIf r) = f a b :: pairs f r
    rw [pairs_zip f r]
theorem pairs_len {α : Type} (f : α → α → α) : ∀ l : List α, (pairs f l).length = (l.length + 1) / 2
  | [] => by simp [pairs]
  | [_] => by simp [pairs]
  | a :: b :: r => by
    show (pairs f r).length + 1 = (r.length + 2 + 1) / 2
    rw [pairs_len f r]; omega
theorem pairs_flat {α : Type} : ∀ l : List (List α), (pairs (· ++ ·) l).flatten = l.flatten
  | [] => rfl
  | [_] => rfl
  | a :: b :: r => by
    show (a ++ b) ++ (pairs (· ++ ·) r).flatten = a ++ (b ++ r.flatten)
    rw [pairs_flat r, List.append_assoc]
theorem evens_map {α β : Type} (h : β → α) : ∀ l : List β, evens (l.map h) = (evens l).map h
  | [] => rfl
  | [_] => rfl
  | a :: b :: r => by show h a :: evens (r.map h) = _; rw [evens_map h r]; rfl
theorem odds_map {α β : Type} (h : β → α) : ∀ l : List β, odds (l.map h) = (odds l).map h
  | [] => rfl
  | [_] => rfl
  | a :: b :: r => by show h b :: odds (r.map h) = _; rw [odds_map h r]; rfl
theorem evens_get {α : Type} : ∀ (l : List α) (k : Nat), (evens l)[k]? = l[2 * k]?
  | [], k => by simp [evens]
  | [a], k => by cases k with
    | zero => rfl
    | succ k => simp [evens]
  | a :: b :: r, k => by
    cases k with
    | zero => rfl
    | succ k =>
      show (evens r)[k]? = (a :: b :: r)[2 * (k + 1)]?
      rw [evens_get r k, show 2 * (k + 1) = 2 * k + 1 + 1 from by omega]; rfl
theorem odds_get {α : Type} : ∀ (l : List α) (k : Nat), (odds l)[k]? = l[2 * k + 1]?
  | [], k => by simp [odds]
  | [a], k => by simp [odds]
  | a :: b :: r, k => by
    cases k with
    | zero => rfl
    | succ k =>
      show (odds r)[k]? = (a :: b :: r)[2 * (k + 1) + 1]?
      rw [odds_get r k, show 2 * (k + 1) + 1 = 2 * k + 1 + 1 + 1 from by omega]; rfl
theorem evens_len {α : Type} : ∀ l : List α, (evens l).length = (l.length + 1) / 2
  | [] => by simp [evens]
  | [_] => by simp [evens]
  | a :: b :: r => by show (evens r).length + 1 = _; rw [evens_len r]; simp only [List.length_cons]; omega
theorem odds_len {α : Type} : ∀ l : List α, (odds l).length = l.length / 2
  | [] => by simp [odds]
  | [_] => by simp [odds]
  | a :: b :: r => by show (odds r).length + 1 = _; rw [odds_len r]; simp only [List.length_cons]; omega
theorem filterMap_range {α : Type} (xs : List α) (f : Nat → Nat) (n : Nat) (h : ∀ k, k < n → f k < xs.length) (ys : List α) (hl : ys.length = n) (hy : ∀ k, k < n → ys[k]? = xs[f k]?) : ((List.range n).map f).filterMap (xs[·]?) = ys := by
  subst hl
  apply List.ext_getElem?
  intro k
  have e : ((List.range ys.length).map f).filterMap (xs[·]?) = (List.range ys.length).filterMap fun k => ys[k]? := by
    rw [List.filterMap_map]
    refine filterMap_cg ?_
    intro a ha
    exact (hy a (List.mem_range.mp ha)).symm
  rw [e]
  have e2 : ∀ zs : List α, (List.range zs.length).filterMap (fun k => zs[k]?) = zs := by
    intro zs
    induction zs using snoc_ind with
    | h0 => rfl
    | hs zs z ih =>
      rw [List.length_append, List.length_singleton, List.range_succ, List.filterMap_append]
      have : (List.range zs.length).filterMap (fun k => (zs ++ [z])[k]?) = zs := by
        conv => rhs; rw [← ih]
        refine filterMap_cg ?_
        intro a ha
        rw [List.getElem?_append_left (List.mem_range.mp ha)]
      rw [this]; simp
  rw [e2]
theorem byStep_evens (xs : List D) : byStep xs none 2 = evens xs ∧ (places none 2 xs.length).length ≤ xs.length := by
  have e : places none 2 xs.length = (List.range ((xs.length + 1) / 2)).map (fun k => 2 * k) := by
    unfold places sliceBounds sliceRange
    simp only [Option.getD_some, show ((2 : Int) > 0) = True from by simp, if_true]
    have c : (if (0 : Int) < (xs.length : Int) then ((xs.length : Int) - 0 + 2 - 1) / 2 else 0).toNat = (xs.length + 1) / 2 := by split <;> omega
    rw [c]
    apply List.map_congr_left
    intro k _
    omega
  unfold byStep
  rw [e]
  refine ⟨filterMap_range xs _ _ (fun k hk => by omega) _ (evens_len xs) fun k _ => evens_get xs k, ?_⟩
  rw [List.length_map, List.length_range]; omega
theorem byStep_odds (xs : List D) : byStep xs (some 1) 2 = odds xs ∧ (places (some 1) 2 xs.length).length ≤ xs.length := by
  have e : places (some 1) 2 xs.length = (List.range (xs.length / 2)).map (fun k => 2 * k + 1) := by
    unfold places sliceBounds sliceRange
    simp only [Option.getD_some, show ((2 : Int) > 0) = True from by simp, if_true]
    by_cases h0 : xs.length = 0
    · rw [h0]; rfl
    · have m : max (0 : Int) (min (if (1 : Int) < 0 then 1 + (xs.length : Int) else 1) (xs.length : Int)) = 1 := by
        rw [if_neg (by omega)]; omega
      rw [m]
      have c : (if (1 : Int) < (xs.length : Int) then ((xs.length : Int) - 1 + 2 - 1) / 2 else 0).toNat = xs.length / 2 := by split <;> omega
      rw [c]
      apply List.map_congr_left
      intro k _
      omega
  unfold byStep
  rw [e]
  refine ⟨filterMap_range xs _ _ (fun k hk => by omega) _ (odds_len xs) fun k _ => odds_get xs k, ?_⟩
  rw [List.length_map, List.length_range]; omega
theorem zipD_mapX {α β : Type} (e : α → D) (f : β → D) (xs : List α) (ys : List β) : zipD (xs.map e) (ys.map f) = (xs.zip ys).map fun p => .tup [e p.1, f p.2] := by
  unfold zipD
  rw [List.zip_map, List.map_map]; rfl


abbrev L (r : List Pt) : D := .lst (r.map pt)
theorem evens_mem {α : Type} {a : α} : ∀ {l : List α}, a ∈ evens l → a ∈ l
  | [], h => h
  | [_], h => h
  | x :: y :: r, h => by
    rcases List.mem_cons.mp (show a ∈ x :: evens r from h) with z | z
    · rw [z]; exact List.mem_cons_self
    · exact List.mem_cons_of_mem _ (List.mem_cons_of_mem _ (evens_mem z))
theorem odds_mem {α : Type} {a : α} : ∀ {l : List α}, a ∈ odds l → a ∈ l
  | [], h => h
  | [_], h => by cases h
  | x :: y :: r, h => by
    rcases List.mem_cons.mp (show a ∈ y :: odds r from h) with z | z
    · rw [z]; simp
    · exact List.mem_cons_of_mem _ (List.mem_cons_of_mem _ (odds_mem z))
theorem lastIf_even {α : Type} : ∀ {l : List α}, l.length % 2 = 0 → lastIf l = []
  | [], _ => rfl
  | [_], h => by simp at h
  | _ :: _ :: r, h => lastIf_even (l := r) (by simp only [List.length_cons] at h; omega)
theorem lastIf_odd {α : Type} : ∀ {l : List α}, l.length % 2 = 1 → ∃ a, l[l.length - 1]? = some a ∧ lastIf l = [a]
  | [], h => by simp at h
  | [a], _ => ⟨a, rfl, rfl⟩
  | x :: y :: r, h => by
    obtain ⟨a, h1, h2⟩ := lastIf_odd (l := r) (by simp only [List.length_cons] at h; omega)
    refine ⟨a, ?_, h2⟩
    have : r.length ≠ 0 := by simp only [List.length_cons] at h; omega
    rw [show (x :: y :: r).length - 1 = (r.length - 1) + 1 + 1 from by simp only [List.length_cons]; omega]
    exact h1
theorem flat_len2 {α : Type} {p : List α × List α} : ∀ {ss : List (List α)}, p ∈ (evens ss).zip (odds ss) → p.1.length + p.2.length ≤ ss.flatten.length
  | [], h => by cases h
  | [_], h => by simp [evens, odds] at h
  | a :: b :: r, h => by
    rw [List.flatten_cons, List.flatten_cons, List.length_append, List.length_append]
    rcases List.mem_cons.mp (show p ∈ (a, b) :: (evens r).zip (odds r) from h) with z | z
    · rw [z]; show a.length + b.length ≤ _; omega
    · have := flat_len2 z; omega


theorem flat_single {α : Type} : ∀ xs : List α, (xs.map fun p => [p]).flatten = xs
  | [] => rfl
  | x :: r => by rw [List.map_cons, List.flatten_cons, flat_single r]; rfl
theorem lastIf_map {α β : Type} (h : β → α) : ∀ l : List β, lastIf (l.map h) = (lastIf l).map h
  | [] => rfl
  | [_] => rfl
  | a :: b :: r => by show lastIf (r.map h) = _; rw [lastIf_map h r]; rfl

def S_sorted_by (f_slope_order : Addr) : GS := fun ds0 Q _ => ∃ (xs : List Pt) (d : D), ds0 = [.ob (.ref f_slope_order), d] ∧ ((d = .lst (xs.map pt) ∨ d = .tup (xs.map pt)) ∧ (∀ p ∈ xs, SmP p ∧ p ≠ (0, 0)) ∧ xs.length ≤ 500) ∧ Q (.lst ((isort xs).map pt))
theorem M_sorted_by {f_slope_order : Addr} : MonoP (S_sorted_by f_slope_order) := fun _ _ _ _ _ hQ _ ⟨xs, d, e9, p9, q9⟩ => ⟨xs, d, e9, p9, hQ _ q9⟩
theorem Z_sorted_by {f_slope_order : Addr} : ∀ ds Q E, (S_sorted_by f_slope_order) ds Q E → ds.length = 2 := fun _ _ _ ⟨xs, d, e9, _⟩ => by rw [e9]; rfl
theorem t_sorted_by {f_slope_order : Addr} {xs : List Pt} {d : D} {Q : D → Prop} {E : Exc → Prop} (p9 : (d = .lst (xs.map pt) ∨ d = .tup (xs.map pt)) ∧ (∀ p ∈ xs, SmP p ∧ p ≠ (0, 0)) ∧ xs.length ≤ 500) (h9 : Q (.lst ((isort xs).map pt))) : (S_sorted_by f_slope_order) [.ob (.ref f_slope_order), d] Q E := ⟨xs, d, rfl, p9, h9⟩


def VecK (v : Int × Int) : Prop := v.1.natAbs ≤ 4 * 10 ^ 40 ∧ v.2.natAbs ≤ 4 * 10 ^ 40 ∧ v ≠ (0, 0)
theorem VecK.of {x y t : Int} (hx : x.natAbs ≤ 4) (hy : y.natAbs ≤ 4) (ht : 0 < t ∧ t ≤ 10 ^ 40) (h : ¬ (x = 0 ∧ y = 0)) : VecK (x * t, y * t) := by
  have ht2 : t.natAbs ≤ 10 ^ 40 := by omega
  refine ⟨?_, ?_, fun e => h ?_⟩
  · show (x * t).natAbs ≤ _
    rw [Int.natAbs_mul]; exact Nat.mul_le_mul hx ht2
  · show (y * t).natAbs ≤ _
    rw [Int.natAbs_mul]; exact Nat.mul_le_mul hy ht2
  · obtain ⟨e1, e2⟩ := Prod.mk.inj e
    have t0 : t ≠ 0 := by omega
    exact ⟨(Int.mul_eq_zero.mp e1).resolve_right t0, (Int.mul_eq_zero.mp e2).resolve_right t0⟩
theorem VecK.one {t : Int} (ht : 0 < t ∧ t ≤ 10 ^ 40) : VecK (t, 0) := ⟨by show t.natAbs ≤ _; omega, by show Int.natAbs 0 ≤ _; decide +kernel, fun e => by obtain ⟨e1, _⟩ := Prod.mk.inj e; omega⟩


def quart (p : Int × Int) : Int × (Int × Int) := if 0 < p.1 ∧ 0 ≤ p.2 then (0, (p.2, p.1)) else if p.1 ≤ 0 ∧ 0 < p.2 then (1, (0 - p.1, p.2)) else if p.1 < 0 ∧ p.2 ≤ 0 then (2, (0 - p.2, 0 - p.1)) else (3, (p.1, 0 - p.2))
def turn (p q : Int × Int) : Int := if (quart p).1 ≠ (quart q).1 then (if (quart p).1 < (quart q).1 then -1 else 1) else sgn ((quart p).2.1 * (quart q).2.2 - (quart q).2.1 * (quart p).2.2)


theorem VecK.dir {v : Int × Int} (h : VecK v) : DirP v := ⟨by have := h.1; omega, by have := h.2.1; omega, h.2.2⟩
/-- the list of the law's vectors -/
def Big (v : Int × Int) : Prop := v.1.natAbs ≤ 12 * 10 ^ 40 ∧ v.2.natAbs ≤ 12 * 10 ^ 40 ∧ v ≠ (0, 0)
theorem Big.dir {v : Int × Int} (h : Big v) : DirP v := ⟨by have := h.1; omega, by have := h.2.1; omega, h.2.2⟩
theorem VecK.big {v : Int × Int} (h : VecK v) : Big v := ⟨by have := h.1; omega, by have := h.2.1; omega, h.2.2⟩
theorem VecK.neg {v : Int × Int} (h : VecK v) : Big (0 - v.1, 0 - v.2) := ⟨by have := h.1; show (0 - v.1).natAbs ≤ _; omega, by have := h.2.1; show (0 - v.2).natAbs ≤ _; omega, fun z => h.2.2 (by obtain ⟨a, b⟩ := Prod.mk.inj z; exact Prod.ext (by show v.1 = 0; omega) (by show v.2 = 0; omega))⟩
def S_by_slopes (f_slope_order : Addr) : GS := fun ds0 Q _ => ∃ (xs : List Pt) (d : D), ds0 = [d] ∧ ((d = .lst (xs.map pt) ∨ d = .tup (xs.map pt)) ∧ (∀ p ∈ xs, SmP p ∧ p ≠ (0, 0)) ∧ xs.length ≤ 500) ∧ Q (.lst ((isort xs).map pt))
theorem M_by_slopes {f_slope_order : Addr} : MonoP (S_by_slopes f_slope_order) := fun _ _ _ _ _ hQ _ ⟨xs, d, e9, p9, q9⟩ => ⟨xs, d, e9, p9, hQ _ q9⟩
theorem Z_by_slopes {f_slope_order : Addr} : ∀ ds Q E, (S_by_slopes f_slope_order) ds Q E → ds.length = 1 := fun _ _ _ ⟨xs, d, e9, _⟩ => by rw [e9]; rfl
theorem t_by_slopes {f_slope_order : Addr} {xs : List Pt} {d : D} {Q : D → Prop} {E : Exc → Prop} (p9 : (d = .lst (xs.map pt) ∨ d = .tup (xs.map pt)) ∧ (∀ p ∈ xs, SmP p ∧ p ≠ (0, 0)) ∧ xs.length ≤ 500) (h9 : Q (.lst ((isort xs).map pt))) : (S_by_slopes f_slope_order) [d] Q E := ⟨xs, d, rfl, p9, h9⟩


def Srt (xs : List Pt) : Prop := xs.Pairwise fun a b => slope a b ≤ 0
theorem ins_srt {v : Pt} (hv : v ≠ (0, 0)) : ∀ {B : List Pt}, NZ B → Srt B → Srt (ins v B)
  | [], _, _ => by unfold ins Srt; exact List.pairwise_singleton _ _
  | b :: B, hB, h => by
    have hb := hB b List.mem_cons_self
    obtain ⟨h1, h2⟩ := List.pairwise_cons.mp h
    unfold ins
    split
    · rename_i hbv
      refine List.pairwise_cons.mpr ⟨fun p hp => ?_, ins_srt hv (fun p h => hB p (List.mem_cons_of_mem _ h)) h2⟩
      rcases ins_mem.mp hp with z | z
      · rw [z]; exact hbv
      · exact h1 p z
    · rename_i hbv
      refine List.pairwise_cons.mpr ⟨fun p hp => ?_, h⟩
      rcases List.mem_cons.mp hp with z | z
      · rw [z]; exact slope_total hbv
      · exact slope_trans hv hb (hB p (List.mem_cons_of_mem _ z)) (slope_total hbv) (h1 p z)
theorem isort_srt : ∀ {xs : List Pt}, NZ xs → Srt (isort xs) := by
  intro xs
  induction xs using snoc_ind with
  | h0 => intro _; exact List.Pairwise.nil
  | hs xs v ih =>
    intro hx
    have hx' : NZ xs := fun p h => hx p (List.mem_append_left _ h)
    rw [isort_snoc]
    exact ins_srt (hx v (List.mem_append_right _ (by simp))) (fun p h => hx' p (isort_mem.mp h)) (ih hx')
/-! ### a corner that lies farthest against a direction -/
theorem slope_le_tr {u v w : Pt} (hu : u ≠ (0, 0)) (hv : v ≠ (0, 0)) (hw : w ≠ (0, 0)) (h1 : slope u v ≤ 0) (h2 : slope v w < 0) : slope u w < 0 := by
  have h3 := slope_trans hu hv hw h1 (by omega)
  rcases Int.lt_or_eq_of_le h3 with z | z
  · exact z
  · exfalso
    have anti : ∀ {a b : Pt}, slope a b = 0 → slope b a ≤ 0 := fun {a b} h => by
      unfold slope at h ⊢
      by_cases e : upp a = upp b
      · rw [if_neg (by simp [e])] at h
        rw [if_neg (by simp [e])]
        have : sgn (crs a b) = 0 := by omega
        rw [crs_anti, sgn_zero.mp this]; decide
      · rw [if_pos e] at h; split at h <;> cases h
    have h4 := slope_trans hw hu hv (anti z) h1
    have h5 : slope v w < 0 := h2
    rcases bf_iff.mp h5 with ⟨a1, a2⟩ | ⟨a1, a2⟩
    · unfold slope at h4
      rw [if_pos (by rw [a1, a2]; decide), a2] at h4
      simp at h4
    · unfold slope at h4
      rw [if_neg (by simp [a1]), sgn_le] at h4
      rw [crs_anti] at h4; omega
theorem slope_lt_tr {u v w : Pt} (hu : u ≠ (0, 0)) (hv : v ≠ (0, 0)) (hw : w ≠ (0, 0)) (h1 : slope u v < 0) (h2 : slope v w ≤ 0) : slope u w < 0 := by
  have h3 := slope_trans hu hv hw (by omega) h2
  rcases Int.lt_or_eq_of_le h3 with z | z
  · exact z
  · exfalso
    have anti : slope w u ≤ 0 := by
      unfold slope at z ⊢
      by_cases e : upp u = upp w
      · rw [if_neg (by simp [e])] at z
        rw [if_neg (by simp [e])]
        have : sgn (crs u w) = 0 := by omega
        rw [crs_anti, sgn_zero.mp this]; decide
      · rw [if_pos e] at z; split at z <;> cases z
    have h4 := slope_trans hv hw hu h2 anti
    rcases bf_iff.mp h1 with ⟨a1, a2⟩ | ⟨a1, a2⟩
    · unfold slope at h4
      rw [if_pos (by rw [a1, a2]; decide), a2] at h4
      simp at h4
    · unfold slope at h4
      rw [if_neg (by simp [a1]), sgn_le] at h4
      rw [crs_anti] at h4; omega
theorem slope_zero {u v : Pt} : slope u v = 0 ↔ upp u = upp v ∧ crs u v = 0 := by
  unfold slope
  by_cases e : upp u = upp v
  · rw [if_neg (by simp [e])]
    have := @sgn_zero (crs u v)
    constructor
    · intro h; exact ⟨e, this.mp (by omega)⟩
    · intro h; rw [this.mpr h.2]; rfl
  · rw [if_pos e]
    constructor
    · intro h; split at h <;> cases h
    · intro h; exact absurd h.1 e
theorem slope_zero_comm {u v : Pt} (h : slope u v = 0) : slope v u = 0 := by
  obtain ⟨a, b⟩ := slope_zero.mp h
  exact slope_zero.mpr ⟨a.symm, by rw [crs_anti, b]; rfl⟩
/-- i sides come before the direction u -/
def CutAt (ps : List Pt) (u : Pt) (i : Nat) : Prop := i ≤ ps.length ∧ (∀ k, k < i → slope (sdi ps k) u < 0) ∧ ∀ k, i ≤ k → k < ps.length → slope u (sdi ps k) ≤ 0
/-- all corners lie left of u at that corner; those on the line are it and the next one, if its side is alike -/
theorem ext_left {ps : List Pt} (hr : Rnd ps) (h : 2 ≤ ps.length) {u : Pt} (hu : u ≠ (0, 0)) {i : Nat} (hc : CutAt ps u i) {k : Nat} (hk : k < ps.length) :
    0 < crs u (toV (cyc ps i) (gt ps k)) ∨ gt ps k = cyc ps i ∨ (i < ps.length ∧ slope u (sdi ps i) = 0 ∧ gt ps k = cyc ps (i + 1)) := by
  obtain ⟨hi, hb, ha⟩ := hc
  have st := fun {j : Nat} (hj : j < ps.length) => crs_step u ps hj
  have fn : crs u (cyc ps ps.length) = crs u (cyc ps 0) := by rw [cyc_n, cyc_lt (by omega)]
  have sn := fun {j : Nat} (hj : j < ps.length) => sdi_ne hr h hj
  -- where to start behind i
  obtain ⟨i', e1, e2, e3, e4⟩ : ∃ i', (i' = i ∨ (i' = i + 1 ∧ i < ps.length ∧ slope u (sdi ps i) = 0)) ∧ i' ≤ ps.length ∧ crs u (cyc ps i') = crs u (cyc ps i) ∧ ∀ k, i' ≤ k → k < ps.length → slope u (sdi ps k) < 0 := by
    by_cases c : i < ps.length ∧ slope u (sdi ps i) = 0
    · refine ⟨i + 1, .inr ⟨rfl, c⟩, by omega, ?_, fun k k1 k2 => ?_⟩
      · have := st c.1
        rw [(slope_zero.mp c.2).2] at this; omega
      · exact slope_le_tr hu (sn c.1) (sn k2) (by omega) (sdi_bf hr h k1 k2)
    · refine ⟨i, .inl rfl, hi, rfl, fun k k1 k2 => ?_⟩
      have h1 := ha k k1 k2
      rcases Int.lt_or_eq_of_le h1 with z | z
      · exact z
      · exfalso
        by_cases e : k = i
        · subst e; exact c ⟨k2, z⟩
        · have h2 := ha i (Nat.le_refl _) (by omega)
          have := slope_le_tr hu (sn (by omega)) (sn k2) h2 (sdi_bf hr h (show i < k by omega) k2)
          omega
  have humpA : ∀ j, i' < j → j < ps.length → crs u (cyc ps i') < crs u (cyc ps j) ∨ crs u (cyc ps ps.length) < crs u (cyc ps j) := fun j q1 q2 =>
    hump (F := fun j => crs u (cyc ps j)) (fun a b ha' hab hb' z => by
      have s1 := st (show a < ps.length by omega)
      have s2 := st hb'
      have := bf_after (sn (by omega)) (sn hb') (e4 a ha' (by omega)) (sdi_bf hr h hab hb') (by (try dsimp only at z); omega)
      (try dsimp only); omega) q1 q2
  have humpB : ∀ j, 0 < j → j < i → crs u (cyc ps 0) < crs u (cyc ps j) ∨ crs u (cyc ps i) < crs u (cyc ps j) := fun j q1 q2 =>
    hump (F := fun j => crs u (cyc ps j)) (fun a b ha' hab hb' z => by
      have s1 := st (show a < ps.length by omega)
      have s2 := st (show b < ps.length by omega)
      have := bf_before hu (sdi_bf hr h hab (by omega)) (hb b hb') (by (try dsimp only at z); omega)
      (try dsimp only); omega) q1 q2
  have f0 : crs u (cyc ps i) ≤ crs u (cyc ps 0) ∧ (0 < i → i' < ps.length → crs u (cyc ps i) < crs u (cyc ps 0)) := by
    cases up : upp u with
    | true =>
      have neg : ∀ a, a < i → crs u (cyc ps (a + 1)) < crs u (cyc ps a) := fun a ha' => by
        have s1 := st (show a < ps.length by omega)
        rcases bf_iff.mp (hb a ha') with ⟨_, z⟩ | ⟨_, z⟩
        · rw [up] at z; cases z
        · rw [crs_anti] at z; omega
      by_cases i0 : i = 0
      · subst i0; exact ⟨Int.le_refl _, fun z => by omega⟩
      · have := mono_up (F := fun j => -crs u (cyc ps j)) (lo := 0) (k := i) (fun a _ ha' => by have := neg a ha'; (try dsimp only); omega) (by omega)
        (try dsimp only at this)
        exact ⟨by omega, fun _ _ => by omega⟩
    | false =>
      have pos : ∀ b, i' ≤ b → b < ps.length → crs u (cyc ps b) < crs u (cyc ps (b + 1)) := fun b hb1 hb2 => by
        have s1 := st hb2
        rcases bf_iff.mp (e4 b hb1 hb2) with ⟨z, _⟩ | ⟨_, z⟩
        · rw [up] at z; cases z
        · omega
      by_cases i0 : i' = ps.length
      · rw [i0] at e3; exact ⟨by omega, fun _ z => by omega⟩
      · have := mono_up (F := fun j => crs u (cyc ps j)) (lo := i') (k := ps.length) (fun a ha' ha2 => pos a ha' ha2) (by omega)
        (try dsimp only at this)
        exact ⟨by omega, fun _ _ => by omega⟩
  have e : crs u (toV (cyc ps i) (gt ps k)) = crs u (cyc ps k) - crs u (cyc ps i) := by rw [cyc_lt hk]; unfold crs toV; grind
  have fin : crs u (cyc ps i) < crs u (cyc ps k) → 0 < crs u (toV (cyc ps i) (gt ps k)) := fun z => by omega
  by_cases ki : k = i
  · right; left; rw [← ki, cyc_lt hk]
  by_cases k0 : k = 0
  · subst k0
    by_cases il : i' < ps.length
    · exact .inl (fin (f0.2 (by omega) il))
    · have il2 : i' = ps.length := by omega
      right
      rcases e1 with z | ⟨z, z2, z3⟩
      · left; rw [← z, il2, cyc_n]
      · right; exact ⟨z2, z3, by rw [← z, il2, cyc_n]⟩
  · by_cases kl : k < i
    · have := humpB k (by omega) kl
      exact .inl (fin (by omega))
    · by_cases k2 : k < i' + 1
      · have k3 : k = i' := by
          rcases e1 with z | ⟨z, _⟩ <;> omega
        right; right
        rcases e1 with z | ⟨z, z2, z3⟩
        · omega
        · exact ⟨z2, z3, by rw [← z, ← k3, cyc_lt hk]⟩
      · have := humpA k (by omega) hk
        exact .inl (fin (by omega))
theorem cut_ex {ps : List Pt} (hr : Rnd ps) (h : 2 ≤ ps.length) {u : Pt} (hu : u ≠ (0, 0)) : ∃ i, CutAt ps u i := by
  have key : ∀ n, n ≤ ps.length → ∃ i, i ≤ n ∧ (∀ k, k < i → slope (sdi ps k) u < 0) ∧ ∀ k, i ≤ k → k < n → slope u (sdi ps k) ≤ 0 := by
    intro n
    induction n with
    | zero => intro _; exact ⟨0, Nat.le_refl _, fun k hk => by omega, fun k h1 h2 => by omega⟩
    | succ n ih =>
      intro hn
      obtain ⟨i, i1, i2, i3⟩ := ih (by omega)
      by_cases c : slope u (sdi ps n) ≤ 0
      · exact ⟨i, by omega, i2, fun k h1 h2 => by
          by_cases e : k = n
          · rw [e]; exact c
          · exact i3 k h1 (by omega)⟩
      · have c' : slope (sdi ps n) u < 0 := by
          have h1 := slope_total c
          rcases Int.lt_or_eq_of_le h1 with z | z
          · exact z
          · exact absurd (Int.le_of_eq (slope_zero_comm z)) c
        refine ⟨n + 1, Nat.le_refl _, fun k hk => ?_, fun k h1 h2 => by omega⟩
        by_cases e : k = n
        · rw [e]; exact c'
        · exact slope_lt_tr (sdi_ne hr h (by omega)) (sdi_ne hr h (by omega)) hu (sdi_bf hr h (show k < n by omega) (by omega)) (by omega)
  obtain ⟨i, h1, h2, h3⟩ := key ps.length (Nat.le_refl _)
  exact ⟨i, h1, h2, h3⟩
/-! ### a hull is told by its sides -/
/-- q lies left of side i, or on it -/
def OnS (ps : List Pt) (i : Nat) (q : Pt) : Prop := 0 < crs (sdi ps i) (toV (gt ps i) q) ∨ (crs (sdi ps i) (toV (gt ps i) q) = 0 ∧ 0 ≤ dotP (sdi ps i) (toV (gt ps i) q) ∧ dotP (sdi ps i) (toV (gt ps i) q) ≤ dotP (sdi ps i) (sdi ps i))
theorem par_eq {s w : Pt} (hs : s ≠ (0, 0)) (h1 : crs s w = 0) (h2 : dotP s w = dotP s s) : w = s := by
  have d := dot_self_pos hs
  have e1 : (w.1 - s.1) * dotP s s = 0 := by
    have : (w.1 - s.1) * dotP s s = s.1 * (dotP s w - dotP s s) - s.2 * crs s w := by unfold dotP crs; grind
    rw [this, h1, h2]; simp
  have e2 : (w.2 - s.2) * dotP s s = 0 := by
    have : (w.2 - s.2) * dotP s s = s.2 * (dotP s w - dotP s s) + s.1 * crs s w := by unfold dotP crs; grind
    rw [this, h1, h2]; simp
  have z1 := (Int.mul_eq_zero.mp e1).resolve_right (by omega)
  have z2 := (Int.mul_eq_zero.mp e2).resolve_right (by omega)
  exact Prod.ext (by omega) (by omega)
theorem par_zero {s w : Pt} (hs : s ≠ (0, 0)) (h1 : crs s w = 0) (h2 : dotP s w = 0) : w = (0, 0) := by
  have d := dot_self_pos hs
  have e1 : w.1 * dotP s s = 0 := by
    have : w.1 * dotP s s = s.1 * dotP s w - s.2 * crs s w := by unfold dotP crs; grind
    rw [this, h1, h2]; simp
  have e2 : w.2 * dotP s s = 0 := by
    have : w.2 * dotP s s = s.2 * dotP s w + s.1 * crs s w := by unfold dotP crs; grind
    rw [this, h1, h2]; simp
  exact Prod.ext ((Int.mul_eq_zero.mp e1).resolve_right (by omega)) ((Int.mul_eq_zero.mp e2).resolve_right (by omega))
theorem nxt_uniq' {S ps : List Pt} (hne : ∀ i, i < ps.length → sdi ps i ≠ (0, 0)) (hS : ∀ p ∈ ps, p ∈ S) (hO : ∀ i, i < ps.length → ∀ q ∈ S, OnS ps i q) {i : Nat} (hi : i < ps.length) : nxt S (gt ps i) = some (nxi ps i) := by
  have ne : nxi ps i ≠ gt ps i := fun z => hne _ hi (by unfold sdi; rw [z]; unfold toV; simp)
  obtain ⟨i', hi', e'⟩ : ∃ i', i' < ps.length ∧ (i' + 1) % ps.length = i := by
    by_cases z : i = 0
    · exact ⟨ps.length - 1, by omega, by rw [show ps.length - 1 + 1 = ps.length by omega, Nat.mod_self, z]⟩
    · exact ⟨i - 1, by omega, by rw [show i - 1 + 1 = i by omega, Nat.mod_eq_of_lt hi]⟩
  have en : nxi ps i' = gt ps i := by unfold nxi; rw [e']
  have hd : ∀ q ∈ S, q ≠ gt ps i → InH (sdi ps i') (toV (gt ps i) q) := by
    intro q mq nq
    have e1 : crs (sdi ps i') (toV (gt ps i) q) = crs (sdi ps i') (toV (gt ps i') q) := by unfold sdi; rw [en]; unfold crs toV; grind
    have e2 : dotP (sdi ps i') (toV (gt ps i) q) = dotP (sdi ps i') (toV (gt ps i') q) - dotP (sdi ps i') (sdi ps i') := by unfold sdi; rw [en]; unfold dotP toV; grind
    rcases hO i' hi' q mq with z | ⟨z1, z2, z3⟩
    · exact .inl (by rw [e1]; exact z)
    · refine .inr ⟨by rw [e1]; exact z1, ?_⟩
      by_cases c : dotP (sdi ps i') (toV (gt ps i) q) < 0
      · exact c
      · exfalso
        have := par_zero (w := toV (gt ps i) q) (hne _ hi') (by rw [e1]; exact z1) (by omega)
        exact toV_ne nq this
  have mb : nxi ps i ∈ S := hS _ (nxi_mem hi)
  cases e : nxt S (gt ps i) with
  | none => exact absurd (nxt_none hd e _ mb) ne
  | some b =>
    obtain ⟨b1, b2, b3⟩ := nxt_some hd e
    have bh := b3 (nxi ps i) mb ne
    have an : crs (toV (gt ps i) b) (toV (gt ps i) (nxi ps i)) = -crs (sdi ps i) (toV (gt ps i) b) := crs_anti _ _
    rcases hO i hi b b1 with z | ⟨z1, z2, z3⟩
    · rcases bh with y | ⟨y, _⟩ <;> omega
    · rcases bh with y | ⟨_, y⟩
      · omega
      · have ss : sizeP (gt ps i) (nxi ps i) = dotP (sdi ps i) (sdi ps i) := rfl
        have sb : sizeP (gt ps i) b = dotP (toV (gt ps i) b) (toV (gt ps i) b) := rfl
        have lg := lagr (sdi ps i) (toV (gt ps i) b)
        rw [z1, Int.zero_mul, Int.zero_add] at lg
        have d0 := dot_self_pos (hne _ hi)
        rw [ss, sb] at y
        have eqd : dotP (sdi ps i) (toV (gt ps i) b) = dotP (sdi ps i) (sdi ps i) := by
          by_cases c : dotP (sdi ps i) (toV (gt ps i) b) = dotP (sdi ps i) (sdi ps i)
          · exact c
          · exfalso
            have k1 : dotP (sdi ps i) (toV (gt ps i) b) * dotP (sdi ps i) (toV (gt ps i) b) < dotP (sdi ps i) (sdi ps i) * dotP (sdi ps i) (sdi ps i) := Int.mul_lt_mul' (by omega) (by omega) z2 d0
            have k2 : dotP (sdi ps i) (sdi ps i) * dotP (sdi ps i) (sdi ps i) ≤ dotP (sdi ps i) (sdi ps i) * dotP (toV (gt ps i) b) (toV (gt ps i) b) := Int.mul_le_mul_of_nonneg_left y (Int.le_of_lt d0)
            omega
        have := par_eq (hne _ hi) z1 eqd
        have eb : b = nxi ps i := by
          have e1 := congrArg Prod.fst this
          have e2 := congrArg Prod.snd this
          unfold sdi toV at e1 e2
          exact Prod.ext (by dsimp only at e1; omega) (by dsimp only at e2; omega)
        rw [eb]
theorem hull_uniq' {S ps : List Pt} (hne : ∀ i, i < ps.length → sdi ps i ≠ (0, 0)) (h0 : ∀ j, 0 < j → j < ps.length → gt ps j ≠ gt ps 0) (h : 2 ≤ ps.length) (hS : ∀ p ∈ ps, p ∈ S) (hO : ∀ i, i < ps.length → ∀ q ∈ S, OnS ps i q) (hL : ∀ q ∈ S, Low (gt ps 0) q) (hl : ps.length ≤ S.length) {f : Pt} (hf : f ∈ S) : hullP f S = ps := by
  have go : ∀ (k j : Nat), ps.length ≤ j + k → j < ps.length → hullGo S (gt ps 0) k (gt ps j) (ps.take (j + 1)) = ps := by
    intro k
    induction k with
    | zero => intro j e hj; omega
    | succ k ih =>
      intro j e hj
      rw [hullGo_succ, nxt_uniq' hne hS hO hj]
      dsimp only
      by_cases c : j + 1 = ps.length
      · have : nxi ps j = gt ps 0 := by unfold nxi; rw [c, Nat.mod_self]
        rw [if_pos this, c, List.take_length]
      · have hj2 : j + 1 < ps.length := by omega
        have e2 : nxi ps j = gt ps (j + 1) := by unfold nxi; rw [Nat.mod_eq_of_lt hj2]
        rw [e2, if_neg (h0 _ (by omega) hj2)]
        have := ih (j + 1) (by omega) hj2
        rw [show ps.take (j + 1) ++ [gt ps (j + 1)] = ps.take (j + 1 + 1) by rw [gt_eq hj2, List.take_append_getElem]]
        exact this
  rw [hullP_eq]
  obtain ⟨l1, l2, l3⟩ := lowest_ok S f
  have lm : lowest f S ∈ S := by
    rcases l1 with z | z
    · rw [z]; exact hf
    · exact z
  have e : lowest f S = gt ps 0 := low_anti (l3 _ (hS _ (gt_mem (by omega)))) (hL _ lm)
  rw [e]
  have := go S.length 0 (by omega) (by omega)
  have t1 : ps.take (0 + 1) = [gt ps 0] := by
    match ps, h with
    | p :: q :: r, _ => simp [gt]
  rw [t1] at this
  exact this
theorem hull_uniq {S ps : List Pt} (hr : Rnd ps) (h : 2 ≤ ps.length) (hS : ∀ p ∈ ps, p ∈ S) (hO : ∀ i, i < ps.length → ∀ q ∈ S, OnS ps i q) (hL : ∀ q ∈ S, Low (gt ps 0) q) (hl : ps.length ≤ S.length) {f : Pt} (hf : f ∈ S) : hullP f S = ps :=
  hull_uniq' (fun _ hi => sdi_ne hr h hi) (fun _ h1 h2 => first_ne hr h h1 h2) h hS hO hL hl hf
theorem hull_one {S : List Pt} {p f : Pt} (hS : ∀ q ∈ S, q = p) (hf : f ∈ S) : hullP f S = [p] := by
  obtain ⟨p0, t, e, h0, _, hc⟩ := hull_ok hf
  have e0 := hS p0 h0
  rcases hc with ⟨rfl, _⟩ | ⟨ht, hL, _⟩
  · rw [e, e0]
  · cases t with
    | nil => exact absurd rfl ht
    | cons b t => exact absurd (hS _ hL.1.2.1) (by rw [← e0]; exact hL.1.1)


/-! ### sums of vectors -/
def padd (p q : Pt) : Pt := (p.1 + q.1, p.2 + q.2)
def vsum (ss : List Pt) : Pt := ss.foldr padd (0, 0)
theorem padd_zero (p : Pt) : padd p (0, 0) = p := by unfold padd; exact Prod.ext (by dsimp only; omega) (by dsimp only; omega)
theorem zero_padd (p : Pt) : padd (0, 0) p = p := by unfold padd; exact Prod.ext (by dsimp only; omega) (by dsimp only; omega)
theorem padd_comm (p q : Pt) : padd p q = padd q p := by unfold padd; exact Prod.ext (by dsimp only; omega) (by dsimp only; omega)
theorem padd_assoc (p q r : Pt) : padd (padd p q) r = padd p (padd q r) := by unfold padd; exact Prod.ext (by dsimp only; omega) (by dsimp only; omega)
theorem vsum_cons (a : Pt) (l : List Pt) : vsum (a :: l) = padd a (vsum l) := rfl
theorem vsum_append (a b : List Pt) : vsum (a ++ b) = padd (vsum a) (vsum b) := by
  induction a with
  | nil => rw [List.nil_append]; exact (zero_padd _).symm
  | cons x a ih => rw [List.cons_append, vsum_cons, vsum_cons, ih, padd_assoc]
theorem vsum_perm {a b : List Pt} (h : a.Perm b) : vsum a = vsum b := by
  induction h with
  | nil => rfl
  | cons x _ ih => rw [vsum_cons, vsum_cons, ih]
  | swap x y l => rw [vsum_cons, vsum_cons, vsum_cons, vsum_cons, ← padd_assoc, ← padd_assoc, padd_comm y x]
  | trans _ _ i1 i2 => rw [i1, i2]
theorem ins_perm (v : Pt) : ∀ B : List Pt, (ins v B).Perm (v :: B)
  | [] => .refl _
  | b :: B => by
    unfold ins
    split
    · exact ((ins_perm v B).cons b).trans (List.Perm.swap v b B)
    · exact .refl _
theorem isort_perm (xs : List Pt) : (isort xs).Perm xs := by
  have key : ∀ (xs acc : List Pt), (xs.foldl (fun acc v => ins v acc) acc).Perm (acc ++ xs) := by
    intro xs
    induction xs with
    | nil => intro acc; rw [List.append_nil]; exact .refl _
    | cons x xs ih =>
      intro acc
      rw [List.foldl_cons]
      exact (ih (ins x acc)).trans (((ins_perm x acc).append_right xs).trans (List.perm_middle.symm))
  have := key xs []
  rw [List.nil_append] at this
  exact this
/-! ### vectors of one slope -/
theorem alike_dot {a b : Pt} (ha : a ≠ (0, 0)) (hb : b ≠ (0, 0)) (h : slope a b = 0) : 0 < dotP a b := by
  obtain ⟨h1, h2⟩ := slope_zero.mp h
  cases u : upp a with
  | true => exact upp_noopp u (h1.symm.trans u) h2
  | false => exact low_noopp ha hb u (h1.symm.trans u) h2
theorem alike_mul {a b : Pt} (h : crs a b = 0) : mulP (dotP a a) b = mulP (dotP a b) a := by
  unfold mulP
  refine Prod.ext ?_ ?_
  · show b.1 * dotP a a = a.1 * dotP a b
    have : b.1 * dotP a a - a.1 * dotP a b = -(a.2 * crs a b) := by unfold dotP crs; grind
    rw [h] at this; omega
  · show b.2 * dotP a a = a.2 * dotP a b
    have : b.2 * dotP a a - a.2 * dotP a b = a.1 * crs a b := by unfold dotP crs; grind
    rw [h] at this; omega
/-- slope classes -/
def SameDir (a b : Pt) : Prop := ∃ k l : Int, 0 < k ∧ 0 < l ∧ mulP k a = mulP l b
theorem SameDir.slopeL {a b : Pt} (h : SameDir a b) (w : Pt) : slope a w = slope b w := by
  obtain ⟨k, l, hk, hl, e⟩ := h
  have h1 := slope_mul2 hk (show (0 : Int) < 1 by decide) a w
  have h2 := slope_mul2 hl (show (0 : Int) < 1 by decide) b w
  rw [← h1, ← h2, e]
theorem SameDir.slopeR {a b : Pt} (h : SameDir a b) (w : Pt) : slope w a = slope w b := by
  obtain ⟨k, l, hk, hl, e⟩ := h
  have h1 := slope_mul2 (show (0 : Int) < 1 by decide) hk w a
  have h2 := slope_mul2 (show (0 : Int) < 1 by decide) hl w b
  rw [← h1, ← h2, e]
theorem alike_dir {a b : Pt} (ha : a ≠ (0, 0)) (hb : b ≠ (0, 0)) (h : slope a b = 0) : SameDir b a := ⟨dotP a a, dotP a b, dot_self_pos ha, alike_dot ha hb h, alike_mul (slope_zero.mp h).2⟩
theorem alike_add {a b : Pt} (ha : a ≠ (0, 0)) (hb : b ≠ (0, 0)) (h : slope a b = 0) : SameDir (padd a b) a ∧ padd a b ≠ (0, 0) := by
  have d1 := dot_self_pos ha
  have d2 := alike_dot ha hb h
  have e := alike_mul (slope_zero.mp h).2
  have e2 : mulP (dotP a a) (padd a b) = mulP (dotP a a + dotP a b) a := by
    have e1 := congrArg Prod.fst e
    have e3 := congrArg Prod.snd e
    unfold mulP padd at *
    dsimp only at e1 e3
    exact Prod.ext (by dsimp only; rw [Int.add_mul, Int.mul_add, e1]) (by dsimp only; rw [Int.add_mul, Int.mul_add, e3])
  exact ⟨⟨_, _, d1, by omega, e2⟩, ne_of_mulP (k := dotP a a) (by rw [e2]; exact mulP_ne (by omega) ha)⟩
theorem SameDir.symm {a b : Pt} (h : SameDir a b) : SameDir b a := let ⟨k, l, hk, hl, e⟩ := h; ⟨l, k, hl, hk, e.symm⟩
theorem SameDir.alike {a b : Pt} (h : SameDir a b) : slope a b = 0 := by rw [h.slopeL]; exact slope_self b
theorem vsum_alike {a : Pt} : ∀ {g : List Pt}, (∀ x ∈ g, x ≠ (0, 0) ∧ slope x a = 0) → a ≠ (0, 0) → g ≠ [] → SameDir (vsum g) a ∧ vsum g ≠ (0, 0)
  | [x], h, ha, _ => by
    obtain ⟨h1, h2⟩ := h x (by simp)
    rw [show vsum [x] = x from padd_zero x]
    exact ⟨(alike_dir h1 ha h2).symm, h1⟩
  | x :: y :: g, h, ha, _ => by
    obtain ⟨i1, i2⟩ := vsum_alike (g := y :: g) (fun z m => h z (List.mem_cons_of_mem _ m)) ha (by simp)
    obtain ⟨h1, h2⟩ := h x (by simp)
    rw [vsum_cons]
    have e : slope x (vsum (y :: g)) = 0 := by rw [i1.slopeR]; exact h2
    obtain ⟨k1, k2⟩ := alike_add h1 i2 e
    refine ⟨?_, k2⟩
    obtain ⟨k, l, hk, hl, e1⟩ := k1
    obtain ⟨k', l', hk', hl', e2⟩ := (alike_dir h1 ha h2).symm
    refine ⟨k * k', l * l', Int.mul_pos hk hk', Int.mul_pos hl hl', ?_⟩
    have m2 : ∀ (a b : Int) (p : Pt), mulP (a * b) p = mulP b (mulP a p) := fun a b p => by unfold mulP; exact Prod.ext (by dsimp only; grind) (by dsimp only; grind)
    have sw : ∀ (a b : Int) (p : Pt), mulP a (mulP b p) = mulP b (mulP a p) := fun a b p => by unfold mulP; exact Prod.ext (by dsimp only; grind) (by dsimp only; grind)
    rw [m2, e1, sw, e2, sw, m2, sw]
/-! ### sides of one slope joined -/
def jn (acc : List Pt) (v : Pt) : List Pt := match acc.getLast? with
  | none => [v]
  | some l => if slope l v = 0 then acc.dropLast ++ [padd l v] else acc ++ [v]
def joinS (xs : List Pt) : List Pt := xs.foldl jn []
structure Grp (gs : List (List Pt)) (xs js : List Pt) : Prop where
  xs : xs = gs.flatten
  js : js = gs.map vsum
  al : ∀ g ∈ gs, g ≠ [] ∧ (∀ a ∈ g, a ≠ (0, 0)) ∧ ∀ a ∈ g, ∀ b ∈ g, slope a b = 0
  pw : gs.Pairwise fun g g' => ∀ a ∈ g, ∀ b ∈ g', slope a b < 0
theorem grp_ex : ∀ (xs : List Pt), NZ xs → Srt xs → ∃ gs, Grp gs xs (joinS xs) := by
  intro xs
  induction xs using snoc_ind with
  | h0 => intro _ _; exact ⟨[], rfl, rfl, by simp, .nil⟩
  | hs xs v ih =>
    intro hn hs
    have hn' : NZ xs := fun p m => hn p (List.mem_append_left _ m)
    have hs' : Srt xs := (List.pairwise_append.mp hs).1
    have hlast : ∀ a ∈ xs, slope a v ≤ 0 := fun a m => (List.pairwise_append.mp hs).2.2 a m v (by simp)
    have hv : v ≠ (0, 0) := hn v (by simp)
    obtain ⟨gs, hg⟩ := ih hn' hs'
    have ej : joinS (xs ++ [v]) = jn (joinS xs) v := by unfold joinS; rw [List.foldl_append]; rfl
    rw [ej, hg.js]
    by_cases c : gs = []
    · subst c
      refine ⟨[[v]], by rw [hg.xs]; rfl, ?_, ?_, by simp⟩
      · show jn [] v = [vsum [v]]
        rw [show vsum [v] = v from padd_zero v]; rfl
      · intro g m
        rw [List.mem_singleton.mp m]
        exact ⟨by simp, by simpa using hv, by simp [slope_self]⟩
    · obtain ⟨hs0, g, rfl⟩ : ∃ hs0 g, gs = hs0 ++ [g] := ⟨gs.dropLast, gs.getLast c, (List.dropLast_concat_getLast c).symm⟩
      obtain ⟨g1, g2, g3⟩ := hg.al g (by simp)
      obtain ⟨a0, ma⟩ : ∃ a, a ∈ g := List.exists_mem_of_ne_nil g g1
      have dir := vsum_alike (a := a0) (fun x m => ⟨g2 x m, g3 x m a0 ma⟩) (g2 a0 ma) g1
      have ml : ∀ a ∈ g, a ∈ xs := fun a m => by rw [hg.xs]; simp [m]
      have el : ((hs0 ++ [g]).map vsum).getLast? = some (vsum g) := by simp
      unfold jn
      rw [el]
      dsimp only
      rw [dir.1.slopeL]
      by_cases z : slope a0 v = 0
      · rw [if_pos z]
        have gv : ∀ a ∈ g, slope a v = 0 := fun a m => by rw [(alike_dir (g2 a0 ma) (g2 a m) (g3 a0 ma a m)).slopeL]; exact z
        refine ⟨hs0 ++ [g ++ [v]], by rw [hg.xs]; simp, ?_, ?_, ?_⟩
        · rw [List.map_append, List.map_append]
          show List.dropLast (hs0.map vsum ++ [vsum g]) ++ [padd (vsum g) v] = hs0.map vsum ++ [vsum (g ++ [v])]
          rw [List.dropLast_concat, vsum_append, show vsum [v] = v from padd_zero v]
        · intro h m
          rcases List.mem_append.mp m with y | y
          · exact hg.al h (List.mem_append_left _ y)
          · rw [List.mem_singleton.mp y]
            refine ⟨by simp, fun a m => ?_, fun a ma b mb => ?_⟩
            · rcases List.mem_append.mp m with w | w
              · exact g2 a w
              · rw [List.mem_singleton.mp w]; exact hv
            · rcases List.mem_append.mp ma with w | w <;> rcases List.mem_append.mp mb with w' | w'
              · exact g3 a w b w'
              · rw [List.mem_singleton.mp w']; exact gv a w
              · rw [List.mem_singleton.mp w]; exact slope_zero_comm (gv b w')
              · rw [List.mem_singleton.mp w, List.mem_singleton.mp w']; exact slope_self v
        · have pw := List.pairwise_append.mp hg.pw
          refine List.pairwise_append.mpr ⟨pw.1, by simp, fun h mh k mk a ha b hb => ?_⟩
          rw [List.mem_singleton.mp mk] at hb
          have hh := fun b mb => pw.2.2 h mh g (by simp) a ha b mb
          rcases List.mem_append.mp hb with w | w
          · exact hh b w
          · rw [List.mem_singleton.mp w]
            exact slope_lt_tr ((hg.al h (List.mem_append_left _ mh)).2.1 a ha) (g2 a0 ma) hv (hh a0 ma) (by omega)
      · rw [if_neg z]
        have gv : ∀ a ∈ g, slope a v < 0 := fun a m => by
          have := hlast a (ml a m)
          have e := (alike_dir (g2 a0 ma) (g2 a m) (g3 a0 ma a m)).slopeL v
          omega
        refine ⟨hs0 ++ [g] ++ [[v]], by rw [hg.xs]; simp, ?_, ?_, ?_⟩
        · simp [show vsum [v] = v from padd_zero v]
        · intro h m
          rcases List.mem_append.mp m with y | y
          · exact hg.al h y
          · rw [List.mem_singleton.mp y]
            exact ⟨by simp, by simpa using hv, by simp [slope_self]⟩
        · refine List.pairwise_append.mpr ⟨hg.pw, by simp, fun h mh k mk a ha b hb => ?_⟩
          rw [List.mem_singleton.mp mk] at hb
          rw [List.mem_singleton.mp hb]
          rcases List.mem_append.mp mh with w | w
          · exact slope_lt_tr ((hg.al h (List.mem_append_left _ w)).2.1 a ha) (g2 a0 ma) hv ((List.pairwise_append.mp hg.pw).2.2 h w g (by simp) a ha a0 ma) (Int.le_of_lt (gv a0 ma))
          · rw [List.mem_singleton.mp w] at ha; exact gv a ha
/-- what comes before u, and what is like u -/
def befS (u : Pt) (xs : List Pt) : List Pt := xs.filter fun x => decide (slope x u < 0)
def likS (u : Pt) (xs : List Pt) : List Pt := xs.filter fun x => decide (slope x u = 0)
structure Joined (xs js : List Pt) : Prop where
  nz : NZ js
  pw : js.Pairwise fun a b => slope a b < 0
  lik : ∀ u, u ≠ (0, 0) → vsum (likS u js) = vsum (likS u xs)
  bef : ∀ u, u ≠ (0, 0) → vsum (befS u js) = vsum (befS u xs)
theorem joined_of {gs : List (List Pt)} {xs js : List Pt} (h : Grp gs xs js) : Joined xs js := by
  have dir : ∀ g ∈ gs, ∀ a ∈ g, SameDir (vsum g) a ∧ vsum g ≠ (0, 0) := fun g mg a ma => by
    obtain ⟨g1, g2, g3⟩ := h.al g mg
    exact vsum_alike (fun x m => ⟨g2 x m, g3 x m a ma⟩) (g2 a ma) g1
  have nz : NZ js := fun p m => by
    rw [h.js] at m
    obtain ⟨g, mg, rfl⟩ := List.mem_map.mp m
    obtain ⟨a, ma⟩ := List.exists_mem_of_ne_nil g (h.al g mg).1
    exact (dir g mg a ma).2
  have flt : ∀ (P : Pt → Bool), (∀ g ∈ gs, ∀ a ∈ g, P a = P (vsum g)) → vsum ((gs.map vsum).filter P) = vsum (gs.flatten.filter P) := by
    intro P
    have key : ∀ gs : List (List Pt), (∀ g ∈ gs, ∀ a ∈ g, P a = P (vsum g)) → vsum ((gs.map vsum).filter P) = vsum (gs.flatten.filter P) := by
      intro gs
      induction gs with
      | nil => intro _; rfl
      | cons g gs ih =>
        intro hP
        rw [List.map_cons, List.flatten_cons, List.filter_append, vsum_append, ← ih fun g m => hP g (List.mem_cons_of_mem _ m)]
        have hg := hP g List.mem_cons_self
        cases e : P (vsum g) with
        | true =>
          have z : g.filter P = g := List.filter_eq_self.mpr fun a ma => (hg a ma).trans e
          rw [List.filter_cons_of_pos e, vsum_cons, z]
        | false =>
          have z : g.filter P = [] := List.filter_eq_nil_iff.mpr fun a ma => by rw [hg a ma, e]; decide
          rw [List.filter_cons_of_neg (by rw [e]; decide), z]
          exact (zero_padd _).symm
    exact key gs
  refine ⟨nz, ?_, fun u hu => ?_, fun u hu => ?_⟩
  · rw [h.js]
    refine List.pairwise_map.mpr (h.pw.imp_of_mem fun {g g'} mg mg' hh => ?_)
    obtain ⟨a, ma⟩ := List.exists_mem_of_ne_nil g (h.al g mg).1
    obtain ⟨b, mb⟩ := List.exists_mem_of_ne_nil g' (h.al g' mg').1
    rw [(dir g mg a ma).1.slopeL, (dir g' mg' b mb).1.slopeR]
    exact hh a ma b mb
  · unfold likS
    rw [h.js, h.xs]
    exact flt _ fun g mg a ma => by rw [(dir g mg a ma).1.slopeL]
  · unfold befS
    rw [h.js, h.xs]
    exact flt _ fun g mg a ma => by rw [(dir g mg a ma).1.slopeL]
def canon (xs : List Pt) : List Pt := joinS (isort xs)
theorem canon_ok {xs : List Pt} (h : NZ xs) : Joined xs (canon xs) := by
  have hn : NZ (isort xs) := fun p m => h p (isort_mem.mp m)
  obtain ⟨gs, hg⟩ := grp_ex (isort xs) hn (isort_srt h)
  have j := joined_of hg
  refine ⟨j.nz, j.pw, fun u hu => (j.lik u hu).trans ?_, fun u hu => (j.bef u hu).trans ?_⟩
  · exact vsum_perm ((isort_perm xs).filter _)
  · exact vsum_perm ((isort_perm xs).filter _)
theorem joinS_len : ∀ (xs : List Pt), (joinS xs).length ≤ xs.length := by
  intro xs
  induction xs using snoc_ind with
  | h0 => exact Nat.le_refl _
  | hs xs v ih =>
    have ej : joinS (xs ++ [v]) = jn (joinS xs) v := by unfold joinS; rw [List.foldl_append]; rfl
    rw [ej, List.length_append]
    unfold jn
    split
    · simp
    · split
      · simp; omega
      · simp; omega
theorem canon_len (xs : List Pt) : (canon xs).length ≤ xs.length := by
  have := joinS_len (isort xs)
  rw [isort_len] at this; exact this
/-- strictly rising lists with the same totals are one -/
theorem lik_self {js : List Pt} (hn : NZ js) (hp : js.Pairwise fun a b => slope a b < 0) {v : Pt} (m : v ∈ js) : likS v js = [v] := by
  unfold likS
  induction js with
  | nil => cases m
  | cons a js ih =>
    obtain ⟨p1, p2⟩ := List.pairwise_cons.mp hp
    rcases List.mem_cons.mp m with rfl | m'
    · rw [List.filter_cons_of_pos (by simp [slope_self])]
      rw [List.filter_eq_nil_iff.mpr fun x mx => ?_]
      have h1 := p1 x mx
      intro z
      have z' : slope x v = 0 := of_decide_eq_true z
      have := slope_zero_comm z'
      omega
    · have h1 := p1 v m'
      rw [List.filter_cons_of_neg (by simp; omega)]
      exact ih (fun p mp => hn p (List.mem_cons_of_mem _ mp)) p2 m'
theorem lik_mem {js : List Pt} {v : Pt} (hn : NZ js) (hp : js.Pairwise fun a b => slope a b < 0) (h : vsum (likS v js) = v) (hv : v ≠ (0, 0)) : v ∈ js := by
  cases e : likS v js with
  | nil => rw [e] at h; exact absurd h.symm hv
  | cons w r =>
    have mw : w ∈ likS v js := by rw [e]; simp
    obtain ⟨m1, m2⟩ := List.mem_filter.mp mw
    have z : slope w v = 0 := of_decide_eq_true m2
    have e2 : likS v js = likS w js := by
      unfold likS
      refine List.filter_congr fun x _ => ?_
      have d := alike_dir (hn w m1) hv z
      rw [d.slopeR]
    rw [e2, lik_self hn hp m1] at h
    rw [show vsum [w] = w from padd_zero w] at h
    rw [← h]; exact m1
theorem rise_uniq : ∀ {a b : List Pt}, a.Pairwise (fun x y => slope x y < 0) → b.Pairwise (fun x y => slope x y < 0) → (∀ v, v ∈ a ↔ v ∈ b) → a = b
  | [], [], _, _, _ => rfl
  | [], y :: b, _, _, h => absurd ((h y).mpr (by simp)) (by simp)
  | x :: a, [], _, _, h => absurd ((h x).mp (by simp)) (by simp)
  | x :: a, y :: b, ha, hb, h => by
    obtain ⟨a1, a2⟩ := List.pairwise_cons.mp ha
    obtain ⟨b1, b2⟩ := List.pairwise_cons.mp hb
    have irr : ∀ {u w : Pt}, slope u w < 0 → slope w u < 0 → False := fun {u w} h1 h2 => by
      rcases bf_iff.mp h1 with ⟨p, q⟩ | ⟨p, q⟩ <;> rcases bf_iff.mp h2 with ⟨p', q'⟩ | ⟨p', q'⟩
      · rw [q] at p'; cases p'
      · rw [p, q] at p'; cases p'
      · rw [p', q'] at p; cases p
      · rw [crs_anti] at q'; omega
    have exy : x = y := by
      rcases List.mem_cons.mp ((h x).mp (by simp)) with z | z
      · exact z
      · rcases List.mem_cons.mp ((h y).mpr (by simp)) with w | w
        · exact w.symm
        · exact (irr (b1 x z) (a1 y w)).elim
    subst exy
    rw [rise_uniq a2 b2 fun v => ?_]
    constructor
    · intro m
      rcases List.mem_cons.mp ((h v).mp (List.mem_cons_of_mem _ m)) with z | z
      · rw [z] at m; exact (irr (a1 x m) (a1 x m)).elim
      · exact z
    · intro m
      rcases List.mem_cons.mp ((h v).mpr (List.mem_cons_of_mem _ m)) with z | z
      · rw [z] at m; exact (irr (b1 x m) (b1 x m)).elim
      · exact z
/-! ### corners from sides -/
def walkT : Pt → List Pt → List Pt
  | _, [] => []
  | _, [_] => []
  | p, s :: t :: r => padd p s :: walkT (padd p s) (t :: r)
def walkF (p : Pt) (ss : List Pt) : List Pt := p :: walkT p ss
theorem walkT_len : ∀ (p : Pt) (ss : List Pt), (walkT p ss).length = ss.length - 1
  | _, [] => rfl
  | _, [_] => rfl
  | p, s :: t :: r => by
    unfold walkT
    rw [List.length_cons, walkT_len]; simp
theorem toV_padd (p s : Pt) : toV p (padd p s) = s := by unfold toV padd; exact Prod.ext (by dsimp only; omega) (by dsimp only; omega)
theorem sds_walk {p0 : Pt} : ∀ (ss : List Pt) (p : Pt), ss ≠ [] → padd p (vsum ss) = p0 → sds p0 p (walkT p ss) = ss
  | [s], p, _, h => by
    show [toV p p0] = [s]
    rw [← h, show vsum [s] = s from padd_zero s, toV_padd]
  | s :: t :: r, p, _, h => by
    show toV p (padd p s) :: sds p0 (padd p s) (walkT (padd p s) (t :: r)) = _
    rw [toV_padd, sds_walk (t :: r) (padd p s) (by simp) (by rw [padd_assoc, ← vsum_cons]; exact h)]
theorem plSides_walk {p : Pt} {ss : List Pt} (h1 : ss.length ≠ 1) (h : vsum ss = (0, 0)) : plSides (walkF p ss) = ss := by
  match ss, h1 with
  | [], _ => rfl
  | [_], h => exact absurd rfl h
  | s :: t :: r, _ =>
    have := sds_walk (p0 := p) (s :: t :: r) p (by simp) (by rw [h, padd_zero])
    exact this
theorem walk_sds {p0 : Pt} : ∀ (t : List Pt) (h : Pt), walkT h (sds p0 h t) = t
  | [], h => rfl
  | b :: t, h => by
    have e : padd h (toV h b) = b := by unfold padd toV; exact Prod.ext (by dsimp only; omega) (by dsimp only; omega)
    cases t with
    | nil => show [padd h (toV h b)] = [b]; rw [e]
    | cons c t =>
      show padd h (toV h b) :: walkT (padd h (toV h b)) (sds p0 b (c :: t)) = _
      rw [e, walk_sds (c :: t) b]
theorem walk_sides {ps : List Pt} (h : ps ≠ []) : walkF (gt ps 0) (plSides ps) = ps := by
  match ps, h with
  | [p], _ => rfl
  | p0 :: q :: t, _ =>
    show p0 :: walkT p0 (sds p0 p0 (q :: t)) = _
    rw [walk_sds]
theorem vsum_sds {p0 : Pt} : ∀ (t : List Pt) (h : Pt), vsum (sds p0 h t) = toV h p0
  | [], h => padd_zero _
  | b :: t, h => by
    show padd (toV h b) (vsum (sds p0 b t)) = _
    rw [vsum_sds]; unfold padd toV; exact Prod.ext (by dsimp only; omega) (by dsimp only; omega)
theorem vsum_sides (ps : List Pt) : vsum (plSides ps) = (0, 0) := by
  match ps with
  | [] => rfl
  | [_] => rfl
  | p0 :: q :: t => show vsum (sds p0 p0 (q :: t)) = _; rw [vsum_sds]; unfold toV; simp
/-- a corner of the walk -/
theorem walkT_get : ∀ (ss : List Pt) (p : Pt) (k : Nat), k + 1 < ss.length → (walkT p ss)[k]? = some (padd p (vsum (ss.take (k + 1))))
  | s :: t :: r, p, 0, _ => by
    show some (padd p s) = _
    rw [List.take_succ_cons, List.take_zero, show vsum [s] = s from padd_zero s]
  | s :: t :: r, p, k + 1, h => by
    show (walkT (padd p s) (t :: r))[k]? = _
    rw [walkT_get (t :: r) (padd p s) k (by simpa using h), padd_assoc]
    rfl
theorem gt_walk {ss : List Pt} {p : Pt} {k : Nat} (h : k < (walkF p ss).length) : gt (walkF p ss) k = padd p (vsum (ss.take k)) := by
  cases k with
  | zero => rw [List.take_zero]; exact (padd_zero p).symm
  | succ k =>
    have hl : (walkF p ss).length = ss.length - 1 + 1 := by unfold walkF; rw [List.length_cons, walkT_len]
    have := walkT_get ss p k (by omega)
    unfold gt
    rw [List.getD_eq_getElem?_getD]
    show ((walkT p ss)[k]?).getD (0, 0) = _
    rw [this]; rfl
/-! ### what a shape is, seen in a direction -/
theorem sides_pw {ps : List Pt} (hr : Rnd ps) : (plSides ps).Pairwise fun a b => slope a b < 0 := rises_pair hr.2.2.2.1 hr.2.2.2.2
theorem vsum_take {ps : List Pt} (h : 2 ≤ ps.length) : ∀ {j : Nat}, j ≤ ps.length → padd (gt ps 0) (vsum ((plSides ps).take j)) = cyc ps j
  | 0, _ => by rw [List.take_zero, cyc_lt (by omega)]; exact padd_zero _
  | j + 1, hj => by
    have e : (plSides ps).take (j + 1) = (plSides ps).take j ++ [sdi ps j] := by
      rw [sides_range h]
      have hl : j < ((List.range ps.length).map fun i => toV (gt ps i) (nxi ps i)).length := by simp; omega
      rw [← List.take_append_getElem hl, List.getElem_map, List.getElem_range]; rfl
    rw [e, vsum_append, ← padd_assoc, vsum_take h (by omega), show vsum [sdi ps j] = sdi ps j from padd_zero _, cyc_succ, cyc_lt (by omega)]
    unfold padd sdi toV; exact Prod.ext (by dsimp only; omega) (by dsimp only; omega)
/-- the corner farthest against u, and the side along u -/
def extP (ps : List Pt) (u : Pt) : Pt := padd (gt ps 0) (vsum (befS u (plSides ps)))
def extS (ps : List Pt) (u : Pt) : Pt := vsum (likS u (plSides ps))
theorem ext_ok {ps : List Pt} (hr : Rnd ps) {u : Pt} (hu : u ≠ (0, 0)) : extP ps u ∈ ps ∧ (extS ps u = (0, 0) ∨ SameDir (extS ps u) u) ∧ ∀ q ∈ ps, 0 < crs u (toV (extP ps u) q) ∨ q = extP ps u ∨ q = padd (extP ps u) (extS ps u) := by
  by_cases h : 2 ≤ ps.length
  · obtain ⟨i, hc⟩ := cut_ex hr h hu
    have len : (plSides ps).length = ps.length := by rw [sides_range h]; simp
    have gs : ∀ k (hk : k < (plSides ps).length), (plSides ps)[k] = sdi ps k := fun k hk => by
      have := List.getElem_of_eq (sides_range h) hk
      rw [this, List.getElem_map, List.getElem_range]; rfl
    have split : plSides ps = (plSides ps).take i ++ (plSides ps).drop i := (List.take_append_drop i _).symm
    have b1 : befS u (plSides ps) = (plSides ps).take i := by
      unfold befS
      conv => lhs; rw [split]
      rw [List.filter_append]
      have t1 : ((plSides ps).take i).filter (fun x => decide (slope x u < 0)) = (plSides ps).take i := List.filter_eq_self.mpr fun x m => by
        obtain ⟨k, hk, e⟩ := List.mem_iff_getElem.mp m
        rw [List.getElem_take] at e
        rw [List.length_take] at hk
        rw [← e, gs]
        exact decide_eq_true (hc.2.1 k (by omega))
      have t2 : ((plSides ps).drop i).filter (fun x => decide (slope x u < 0)) = [] := List.filter_eq_nil_iff.mpr fun x m => by
        obtain ⟨k, hk, e⟩ := List.mem_iff_getElem.mp m
        rw [List.getElem_drop] at e
        rw [List.length_drop] at hk
        rw [← e, gs]
        intro z
        have z' := of_decide_eq_true z
        have := hc.2.2 (i + k) (by omega) (by omega)
        have := slope_le_tr hu (sdi_ne hr h (by omega)) hu this z'
        rw [slope_self] at this; omega
      rw [t1, t2, List.append_nil]
    have pe : extP ps u = cyc ps i := by unfold extP; rw [b1, vsum_take h hc.1]
    have pm : cyc ps i ∈ ps := by
      by_cases z : i = ps.length
      · rw [z, cyc_n]; exact gt_mem (by omega)
      · rw [cyc_lt (by have := hc.1; omega)]; exact gt_mem (by have := hc.1; omega)
    have se : (i < ps.length ∧ slope u (sdi ps i) = 0 ∧ extS ps u = sdi ps i) ∨ (¬ (i < ps.length ∧ slope u (sdi ps i) = 0) ∧ extS ps u = (0, 0)) := by
      by_cases z : i < ps.length ∧ slope u (sdi ps i) = 0
      · refine .inl ⟨z.1, z.2, ?_⟩
        have d := alike_dir hu (sdi_ne hr h z.1) z.2
        have : likS u (plSides ps) = likS (sdi ps i) (plSides ps) := by
          unfold likS
          exact List.filter_congr fun x _ => by rw [d.slopeR]
        unfold extS
        rw [this, lik_self hr.2.2.2.1 (sides_pw hr) (sdi_mem h z.1)]
        exact padd_zero _
      · refine .inr ⟨z, ?_⟩
        unfold extS
        have : likS u (plSides ps) = [] := List.filter_eq_nil_iff.mpr fun x m => by
          intro y
          have y' : slope x u = 0 := of_decide_eq_true y
          obtain ⟨k, hk, e⟩ := List.mem_iff_getElem.mp m
          rw [gs] at e
          have hk' : k < ps.length := by omega
          rw [← e] at y'
          by_cases ki : k < i
          · have := hc.2.1 k ki; omega
          · by_cases k2 : k = i
            · subst k2; exact z ⟨hk', slope_zero_comm y'⟩
            · have h1 := hc.2.2 i (Nat.le_refl _) (by omega)
              have := slope_le_tr hu (sdi_ne hr h (by omega)) (sdi_ne hr h hk') h1 (sdi_bf hr h (show i < k by omega) hk')
              have := slope_zero_comm y'
              omega
        rw [this]; rfl
    rw [pe]
    refine ⟨pm, ?_, fun q mq => ?_⟩
    · rcases se with ⟨i1, z, e⟩ | ⟨_, e⟩
      · rw [e]; exact .inr (alike_dir hu (sdi_ne hr h i1) z)
      · exact .inl e
    · obtain ⟨k, hk, rfl⟩ := mem_gt mq
      rcases ext_left hr h hu hc hk with z | z | ⟨z1, z2, z3⟩
      · exact .inl z
      · exact .inr (.inl z)
      · refine .inr (.inr ?_)
        rcases se with ⟨_, _, e⟩ | ⟨n, _⟩
        · rw [z3, e, cyc_succ, cyc_lt z1]
          unfold padd sdi toV; exact Prod.ext (by dsimp only; omega) (by dsimp only; omega)
        · exact absurd ⟨z1, z2⟩ n
  · have h1 : ps.length = 1 := by have := List.length_pos_iff.mpr hr.1; omega
    match ps, h1 with
    | [p], _ =>
      have e1 : extP [p] u = p := padd_zero p
      have e2 : extS [p] u = (0, 0) := rfl
      rw [e1, e2]
      exact ⟨by simp, .inl rfl, fun q mq => .inr (.inl (List.mem_singleton.mp mq))⟩
/-! ### the sum of two shapes -/
def sumP (A B : List Pt) : List Pt := walkF (padd (gt A 0) (gt B 0)) (canon (plSides A ++ plSides B))
theorem sum_sides_nz {A B : List Pt} (ha : Rnd A) (hb : Rnd B) : NZ (plSides A ++ plSides B) := fun p m => (List.mem_append.mp m).elim (ha.2.2.2.1 p) (hb.2.2.2.1 p)
theorem vsum_canon {xs : List Pt} (h : NZ xs) : vsum (canon xs) = vsum xs := by
  have key : ∀ ys : List Pt, vsum (joinS ys) = vsum ys := by
    intro ys
    induction ys using snoc_ind with
    | h0 => rfl
    | hs ys v ih =>
      have ej : joinS (ys ++ [v]) = jn (joinS ys) v := by unfold joinS; rw [List.foldl_append]; rfl
      rw [ej, vsum_append, ← ih]
      generalize joinS ys = acc
      by_cases z : acc = []
      · subst z; show vsum [v] = padd (0, 0) (vsum [v]); rw [zero_padd]
      · obtain ⟨a0, l, rfl⟩ : ∃ a0 l, acc = a0 ++ [l] := ⟨acc.dropLast, acc.getLast z, (List.dropLast_concat_getLast z).symm⟩
        have el : (a0 ++ [l]).getLast? = some l := by simp
        unfold jn
        rw [el]
        dsimp only
        split
        · rw [List.dropLast_concat, vsum_append, vsum_append, padd_assoc]
          refine congrArg (padd _) ?_
          rw [show vsum [padd l v] = padd l v from padd_zero _, show vsum [l] = l from padd_zero _, show vsum [v] = v from padd_zero _]
        · rw [vsum_append]
  unfold canon
  rw [key]
  exact vsum_perm (isort_perm xs)
theorem sum_close {A B : List Pt} (ha : Rnd A) (hb : Rnd B) : vsum (canon (plSides A ++ plSides B)) = (0, 0) := by
  rw [vsum_canon (sum_sides_nz ha hb), vsum_append, vsum_sides, vsum_sides]; exact padd_zero _
theorem canon_len1 {xs : List Pt} (h : NZ xs) (hz : vsum xs = (0, 0)) : (canon xs).length ≠ 1 := by
  intro e
  have j := canon_ok h
  rw [← vsum_canon h] at hz
  generalize canon xs = js at *
  match js, e with
  | [a], _ => exact j.nz a (by simp) (by rw [← hz]; exact (padd_zero a).symm)
theorem sum_sides {A B : List Pt} (ha : Rnd A) (hb : Rnd B) : plSides (sumP A B) = canon (plSides A ++ plSides B) :=
  plSides_walk (canon_len1 (sum_sides_nz ha hb) (by rw [vsum_append, vsum_sides, vsum_sides]; exact padd_zero _)) (sum_close ha hb)
theorem pw_rises : ∀ {ss : List Pt}, (ss.Pairwise fun a b => slope a b < 0) → Rises ss
  | [], _ => trivial
  | [_], _ => trivial
  | a :: b :: r, h => ⟨(List.pairwise_cons.mp h).1 b (by simp), pw_rises (ss := b :: r) (List.pairwise_cons.mp h).2⟩
theorem take_bef {js : List Pt} (hp : js.Pairwise fun a b => slope a b < 0) {k : Nat} (hk : k < js.length) : befS js[k] js = js.take k := by
  have pw := List.pairwise_iff_getElem.mp hp
  have p1 : ∀ i (hi : i < js.length), i < k → slope js[i] js[k] < 0 := fun i hi h => pw i k hi hk h
  have p2 : ∀ i (hi : i < js.length), k < i → slope js[k] js[i] < 0 := fun i hi h => pw k i hk hi h
  have p3 : ∀ i (hi : i < js.length), i = k → js[i] = js[k] := fun i hi h => by subst h; rfl
  generalize js[k] = u at *
  unfold befS
  have split : js = js.take k ++ js.drop k := (List.take_append_drop k js).symm
  conv => lhs; rw [split]
  rw [List.filter_append]
  have t1 : (js.take k).filter (fun x => decide (slope x u < 0)) = js.take k := List.filter_eq_self.mpr fun x m => by
    obtain ⟨i, hi, e⟩ := List.mem_iff_getElem.mp m
    rw [List.getElem_take] at e
    rw [List.length_take] at hi
    rw [← e]
    exact decide_eq_true (p1 i (by omega) (by omega))
  have t2 : (js.drop k).filter (fun x => decide (slope x u < 0)) = [] := List.filter_eq_nil_iff.mpr fun x m => by
    obtain ⟨i, hi, e⟩ := List.mem_iff_getElem.mp m
    rw [List.getElem_drop] at e
    rw [List.length_drop] at hi
    rw [← e]
    intro z
    have z' := of_decide_eq_true z
    by_cases i0 : i = 0
    · rw [p3 (k + i) (by omega) (by omega), slope_self] at z'; omega
    · have h1 := p2 (k + i) (by omega) (by omega)
      rcases bf_iff.mp h1 with ⟨p, q⟩ | ⟨p, q⟩ <;> rcases bf_iff.mp z' with ⟨p', q'⟩ | ⟨p', q'⟩
      · rw [q] at p'; cases p'
      · rw [p, q] at p'; cases p'
      · rw [p', q'] at p; cases p
      · rw [crs_anti] at q'; omega
  rw [t1, t2, List.append_nil]
/-- each corner of the sum is the sum of the corners there -/
theorem sum_corner {A B : List Pt} (ha : Rnd A) (hb : Rnd B) {k : Nat} (hk : k < (canon (plSides A ++ plSides B)).length) : padd (padd (gt A 0) (gt B 0)) (vsum ((canon (plSides A ++ plSides B)).take k)) = padd (extP A (canon (plSides A ++ plSides B))[k]) (extP B (canon (plSides A ++ plSides B))[k]) ∧
    (canon (plSides A ++ plSides B))[k] = padd (extS A (canon (plSides A ++ plSides B))[k]) (extS B (canon (plSides A ++ plSides B))[k]) := by
  have j := canon_ok (sum_sides_nz ha hb)
  generalize canon (plSides A ++ plSides B) = js at *
  have hu : js[k] ≠ (0, 0) := j.nz _ (List.getElem_mem hk)
  constructor
  · rw [← take_bef j.pw hk, j.bef _ hu]
    unfold extP befS
    rw [List.filter_append, vsum_append]
    unfold padd; exact Prod.ext (by dsimp only; omega) (by dsimp only; omega)
  · have h1 := j.lik _ hu
    rw [lik_self j.nz j.pw (List.getElem_mem hk)] at h1
    have h2 : js[k] = vsum [js[k]] := (padd_zero _).symm
    conv => lhs; rw [h2, h1]
    unfold extS likS
    rw [List.filter_append, vsum_append]


theorem sumP_len {A B : List Pt} (ha : Rnd A) (hb : Rnd B) : (sumP A B).length = (canon (plSides A ++ plSides B)).length - 1 + 1 ∧ (sumP A B).length ≤ max 1 (plSides A ++ plSides B).length := by
  have e : (sumP A B).length = (canon (plSides A ++ plSides B)).length - 1 + 1 := by unfold sumP walkF; rw [List.length_cons, walkT_len]
  have := canon_len (plSides A ++ plSides B)
  exact ⟨e, by omega⟩
theorem sum_mem {A B : List Pt} (ha : Rnd A) (hb : Rnd B) : ∀ p ∈ sumP A B, ∃ a b, a ∈ A ∧ b ∈ B ∧ p = padd a b := by
  intro p m
  obtain ⟨k, hk, rfl⟩ := mem_gt m
  have hl := (sumP_len ha hb).1
  rw [show gt (sumP A B) k = padd (padd (gt A 0) (gt B 0)) (vsum ((canon (plSides A ++ plSides B)).take k)) from gt_walk hk]
  by_cases z : k < (canon (plSides A ++ plSides B)).length
  · have j := canon_ok (sum_sides_nz ha hb)
    rw [(sum_corner ha hb z).1]
    have hu := j.nz _ (List.getElem_mem z)
    exact ⟨_, _, (ext_ok ha hu).1, (ext_ok hb hu).1, rfl⟩
  · have e : canon (plSides A ++ plSides B) = [] := List.length_eq_zero_iff.mp (by omega)
    rw [e, List.take_nil]
    refine ⟨gt A 0, gt B 0, gt_mem (List.length_pos_iff.mpr ha.1), gt_mem (List.length_pos_iff.mpr hb.1), padd_zero _⟩
theorem sum_rnd {A B : List Pt} (ha : Rnd A) (hb : Rnd B) (hl : (plSides A ++ plSides B).length ≤ 60) (hp : ∀ a ∈ A, ∀ b ∈ B, PtP (padd a b)) : Rnd (sumP A B) := by
  have j := canon_ok (sum_sides_nz ha hb)
  refine ⟨by unfold sumP walkF; simp, by have := (sumP_len ha hb).2; omega, fun p m => ?_, ?_, ?_⟩
  · obtain ⟨a, b, h1, h2, rfl⟩ := sum_mem ha hb p m
    exact hp a h1 b h2
  · rw [sum_sides ha hb]; exact j.nz
  · rw [sum_sides ha hb]; exact pw_rises j.pw
theorem dir_dot {s u : Pt} (h : SameDir s u) (hu : u ≠ (0, 0)) : crs u s = 0 ∧ 0 ≤ dotP u s := by
  obtain ⟨k, l, hk, hl, e⟩ := h
  have e1 := congrArg Prod.fst e
  have e2 := congrArg Prod.snd e
  unfold mulP at e1 e2
  dsimp only at e1 e2
  constructor
  · have : crs u s * k = 0 := by
      have : crs u s * k = u.1 * (s.2 * k) - u.2 * (s.1 * k) := by unfold crs; grind
      rw [this, e1, e2]; grind
    exact (Int.mul_eq_zero.mp this).resolve_right (by omega)
  · have d := dot_self_pos hu
    have : dotP u s * k = dotP u u * l := by
      have : dotP u s * k = u.1 * (s.1 * k) + u.2 * (s.2 * k) := by unfold dotP; grind
      rw [this, e1, e2]; unfold dotP; grind
    have p := Int.mul_pos d hl
    rw [← this] at p
    exact Int.le_of_lt (Int.pos_of_mul_pos_left p hk)
/-- the sum is the hull of all sums of corners -/
theorem sum_hull {A B S : List Pt} (ha : Rnd A) (hb : Rnd B) (hl : (plSides A ++ plSides B).length ≤ 60) (hp : ∀ a ∈ A, ∀ b ∈ B, PtP (padd a b)) (hS : ∀ q, q ∈ S ↔ ∃ a b, a ∈ A ∧ b ∈ B ∧ q = padd a b)
    (hn : (sumP A B).length ≤ S.length) {f : Pt} (hf : f ∈ S) : hullP f S = sumP A B := by
  have hr := sum_rnd ha hb hl hp
  have j := canon_ok (sum_sides_nz ha hb)
  have len := (sumP_len ha hb).1
  have first : gt (sumP A B) 0 = padd (gt A 0) (gt B 0) := rfl
  by_cases h : 2 ≤ (sumP A B).length
  · have ln : (canon (plSides A ++ plSides B)).length = (sumP A B).length := by omega
    refine hull_uniq hr h (fun p m => (hS p).mpr (sum_mem ha hb p m)) (fun i hi q mq => ?_) (fun q mq => ?_) hn hf
    · have hi' : i < (canon (plSides A ++ plSides B)).length := by omega
      obtain ⟨c1, c2⟩ := sum_corner ha hb hi'
      have gi : gt (sumP A B) i = padd (extP A (canon (plSides A ++ plSides B))[i]) (extP B (canon (plSides A ++ plSides B))[i]) := (gt_walk hi).trans c1
      have si : sdi (sumP A B) i = (canon (plSides A ++ plSides B))[i] := by
        have e1 := sum_sides ha hb
        have e2 := sides_range h
        rw [e1] at e2
        have := List.getElem_of_eq e2 hi'
        rw [this, List.getElem_map, List.getElem_range]; rfl
      have hu : (canon (plSides A ++ plSides B))[i] ≠ (0, 0) := j.nz _ (List.getElem_mem hi')
      unfold OnS
      rw [si, gi]
      generalize (canon (plSides A ++ plSides B))[i] = u at *
      obtain ⟨a, b, ma, mb, rfl⟩ := (hS q).mp mq
      obtain ⟨_, a1, a2⟩ := ext_ok ha hu
      obtain ⟨_, b1, b2⟩ := ext_ok hb hu
      have zz : crs u (0, 0) = 0 ∧ 0 ≤ dotP u (0, 0) := by unfold crs dotP; simp
      have dA : crs u (extS A u) = 0 ∧ 0 ≤ dotP u (extS A u) := by
        rcases a1 with z | z
        · rw [z]; exact zz
        · exact dir_dot z hu
      have dB : crs u (extS B u) = 0 ∧ 0 ≤ dotP u (extS B u) := by
        rcases b1 with z | z
        · rw [z]; exact zz
        · exact dir_dot z hu
      have tot : dotP u u = dotP u (extS A u) + dotP u (extS B u) := by
        have : dotP u u = dotP u (padd (extS A u) (extS B u)) := by rw [← c2]
        rw [this]; unfold dotP padd; grind
      have cs : crs u (toV (padd (extP A u) (extP B u)) (padd a b)) = crs u (toV (extP A u) a) + crs u (toV (extP B u) b) := by unfold crs toV padd; grind
      have ds : dotP u (toV (padd (extP A u) (extP B u)) (padd a b)) = dotP u (toV (extP A u) a) + dotP u (toV (extP B u) b) := by unfold dotP toV padd; grind
      rw [cs, ds]
      have on : ∀ {p s q : Pt}, crs u s = 0 ∧ 0 ≤ dotP u s → (q = p ∨ q = padd p s) → crs u (toV p q) = 0 ∧ 0 ≤ dotP u (toV p q) ∧ dotP u (toV p q) ≤ dotP u s := fun {p s q} h1 h2 => by
        rcases h2 with rfl | rfl
        · have e1 : crs u (toV q q) = 0 := by unfold crs toV; grind
          have e2 : dotP u (toV q q) = 0 := by unfold dotP toV; grind
          omega
        · rw [toV_padd]; omega
      rcases a2 a ma with x | x
      · left
        rcases b2 b mb with y | y
        · omega
        · have := on dB y; omega
      · have x' := on dA x
        rcases b2 b mb with y | y
        · left; omega
        · have y' := on dB y
          right; omega
    · obtain ⟨a, b, ma, mb, rfl⟩ := (hS q).mp mq
      rw [first]
      have l1 := low_first ha a ma
      have l2 := low_first hb b mb
      unfold Low padd at *
      dsimp only; omega
  · -- both are points
    have e : canon (plSides A ++ plSides B) = [] := by
      cases e : canon (plSides A ++ plSides B) with
      | nil => rfl
      | cons s r =>
        cases r with
        | nil => exact absurd (by rw [e]; rfl) (canon_len1 (sum_sides_nz ha hb) (by rw [vsum_append, vsum_sides, vsum_sides]; exact padd_zero _))
        | cons t r => rw [e] at len; simp only [List.length_cons] at len; omega
    have z : plSides A ++ plSides B = [] := by
      cases e2 : plSides A ++ plSides B with
      | nil => rfl
      | cons v r =>
        have hv : v ≠ (0, 0) := sum_sides_nz ha hb v (by rw [e2]; simp)
        have ok := canon_ok (sum_sides_nz ha hb)
        have h1 := ok.lik v hv
        rw [e] at h1
        have nz := sum_sides_nz ha hb
        have mv : v ∈ likS v (plSides A ++ plSides B) := List.mem_filter.mpr ⟨by rw [e2]; simp, by simp [slope_self]⟩
        have := vsum_alike (a := v) (g := likS v (plSides A ++ plSides B)) (fun x m => by
          obtain ⟨m1, m2⟩ := List.mem_filter.mp m
          exact ⟨nz x m1, of_decide_eq_true m2⟩) hv (fun z => by rw [z] at mv; cases mv)
        exact absurd h1.symm this.2
    have sA : plSides A = [] := (List.append_eq_nil_iff.mp z).1
    have sB : plSides B = [] := (List.append_eq_nil_iff.mp z).2
    have one : ∀ {X : List Pt}, Rnd X → plSides X = [] → ∃ p, X = [p] := fun {X} hx hs => by
      match X, hx, hs with
      | [], hx, _ => exact absurd rfl hx.1
      | [p], _, _ => exact ⟨p, rfl⟩
      | p :: q :: t, _, hs => exact absurd (congrArg List.length hs) (by show (sds p p (q :: t)).length ≠ 0; rw [sds_len]; omega)
    obtain ⟨p, rfl⟩ := one ha sA
    obtain ⟨q, rfl⟩ := one hb sB
    have eZ : sumP [p] [q] = [padd p q] := by unfold sumP walkF; rw [e]; rfl
    rw [eZ]
    refine hull_one (fun r mr => ?_) hf
    obtain ⟨a, b, ma, mb, rfl⟩ := (hS r).mp mr
    rw [List.mem_singleton.mp ma, List.mem_singleton.mp mb]
theorem SzN.add {m n : Int} {p q : Pt} (h : SzN m p) (k : SzN n q) : SzN (m + n) (padd p q) := by
  obtain ⟨⟨a1, a2⟩, a3, a4⟩ := h
  obtain ⟨⟨b1, b2⟩, b3, b4⟩ := k
  unfold SzN padd
  dsimp only
  omega
theorem SzN.le {m n : Int} {p : Pt} (h : SzN m p) (hl : m ≤ n) : SzN n p := by
  obtain ⟨⟨a1, a2⟩, a3, a4⟩ := h
  exact ⟨⟨by omega, by omega⟩, by omega, by omega⟩
theorem SzN.sm' {n : Int} {p : Pt} (h : SzN n p) (hn : n ≤ 10 ^ 100) : SmP p := by
  obtain ⟨⟨a1, a2⟩, a3, a4⟩ := h
  exact ⟨.of (n := 10 ^ 100 + 1) (by omega), .of (n := 10 ^ 100 + 1) (by omega)⟩
theorem PtP.sz {p : Pt} (h : PtP p) : SzN (10 ^ 60) p := h
theorem side_sz {ps : List Pt} (h : ∀ p ∈ ps, PtP p) {s : Pt} (m : s ∈ plSides ps) : SzN (2 * 10 ^ 60) s := by
  obtain ⟨a, b, h1, h2, rfl⟩ := plSides_mem m
  obtain ⟨⟨a1, a2⟩, a3, a4⟩ := h a h1
  obtain ⟨⟨b1, b2⟩, b3, b4⟩ := h b h2
  unfold toV SzN
  dsimp only
  omega
theorem joinS_snoc (xs : List Pt) (v : Pt) : joinS (xs ++ [v]) = jn (joinS xs) v := by unfold joinS; rw [List.foldl_append]; rfl
theorem joinS_sz {M : Int} (hM : 0 ≤ M) {xs : List Pt} : (∀ x ∈ xs, SzN M x) → ∀ v ∈ joinS xs, SzN (xs.length * M) v := by
  induction xs using snoc_ind with
  | h0 => intro _ v m; cases m
  | hs xs x ih =>
    intro h v m
    have ih' := ih fun y hy => h y (List.mem_append_left _ hy)
    have hx := h x (by simp)
    have el : (((xs ++ [x]).length : Nat) : Int) * M = xs.length * M + M := by rw [List.length_append, List.length_singleton]; push_cast; rw [Int.add_mul, Int.one_mul]
    have n0 : 0 ≤ (xs.length : Int) * M := Int.mul_nonneg (by omega) hM
    rw [el]
    rw [joinS_snoc] at m
    generalize joinS xs = acc at *
    unfold jn at m
    split at m
    · rw [List.mem_singleton.mp m]; exact hx.le (by omega)
    · rename_i l e
      have ml : l ∈ acc := List.mem_of_getLast? e
      split at m
      · rcases List.mem_append.mp m with z | z
        · exact (ih' v (List.dropLast_subset acc z)).le (by omega)
        · rw [List.mem_singleton.mp z]; exact (ih' l ml).add hx
      · rcases List.mem_append.mp m with z | z
        · exact (ih' v z).le (by omega)
        · rw [List.mem_singleton.mp z]; exact hx.le (by omega)
theorem set_last (acc : List Pt) (l v : Pt) (f : Pt → D) {k : Nat} (hk : k = acc.length) : ((acc ++ [l]).map f).set k (f v) = (acc ++ [v]).map f := by
  subst hk
  rw [List.map_append, List.map_append]
  simp

def S_point_moved : GS := fun ds0 Q _ => ∃ (p q : Pt), ds0 = [pt p, pt q] ∧ (True) ∧ Q (pt (padd p q))
theorem M_point_moved : MonoP S_point_moved := fun _ _ _ _ _ hQ _ ⟨p, q, e9, p9, q9⟩ => ⟨p, q, e9, p9, hQ _ q9⟩
theorem Z_point_moved : ∀ ds Q E, S_point_moved ds Q E → ds.length = 2 := fun _ _ _ ⟨p, q, e9, _⟩ => by rw [e9]; rfl
theorem t_point_moved {p q : Pt} {Q : D → Prop} {E : Exc → Prop} (p9 : True) (h9 : Q (pt (padd p q))) : S_point_moved [pt p, pt q] Q E := ⟨p, q, rfl, p9, h9⟩

def S_joined_sides (f_slope_order : Addr) : GS := fun ds0 Q _ => ∃ (xs : List Pt), ds0 = [.lst (xs.map pt)] ∧ ((∀ p ∈ xs, SzN (2 * 10 ^ 60) p ∧ p ≠ (0, 0)) ∧ xs.length ≤ 200) ∧ Q (.lst ((canon xs).map pt))
theorem M_joined_sides {f_slope_order : Addr} : MonoP (S_joined_sides f_slope_order) := fun _ _ _ _ _ hQ _ ⟨xs, e9, p9, q9⟩ => ⟨xs, e9, p9, hQ _ q9⟩
theorem Z_joined_sides {f_slope_order : Addr} : ∀ ds Q E, (S_joined_sides f_slope_order) ds Q E → ds.length = 1 := fun _ _ _ ⟨xs, e9, _⟩ => by rw [e9]; rfl
theorem t_joined_sides {f_slope_order : Addr} {xs : List Pt} {Q : D → Prop} {E : Exc → Prop} (p9 : (∀ p ∈ xs, SzN (2 * 10 ^ 60) p ∧ p ≠ (0, 0)) ∧ xs.length ≤ 200) (h9 : Q (.lst ((canon xs).map pt))) : (S_joined_sides f_slope_order) [.lst (xs.map pt)] Q E := ⟨xs, rfl, p9, h9⟩


theorem cut_dropLast {xs : List D} : cut xs none (some (-1)) = xs.dropLast := by
  unfold cut
  rw [HT.sIx_none, List.drop_zero, Nat.sub_zero, List.dropLast_eq_take]
  congr 1
  unfold HT.sIx
  simp <;> omega
def scF (p : Pt) (l : List Pt) : List Pt := l.foldl (fun acc s => acc ++ [padd (acc.getLastD (0, 0)) s]) [p]
theorem scF_snoc (p : Pt) (l : List Pt) (s : Pt) : scF p (l ++ [s]) = scF p l ++ [padd ((scF p l).getLastD (0, 0)) s] := by unfold scF; rw [List.foldl_append]; rfl
theorem scF_ne (p : Pt) (l : List Pt) : scF p l ≠ [] ∧ (scF p l).length = l.length + 1 := by
  induction l using snoc_ind with
  | h0 => exact ⟨by unfold scF; simp, rfl⟩
  | hs l s ih => rw [scF_snoc]; exact ⟨by simp, by simp [ih.2]⟩
theorem scF_walk (p : Pt) (ss : List Pt) : scF p ss.dropLast = walkF p ss := by
  have key : ∀ (ss : List Pt) (acc : List Pt) (p : Pt), acc.getLastD (0, 0) = p → ss.dropLast.foldl (fun acc s => acc ++ [padd (acc.getLastD (0, 0)) s]) acc = acc ++ walkT p ss := by
    intro ss
    induction ss with
    | nil => intro acc p _; simp [walkT]
    | cons s r ih =>
      intro acc p h
      cases r with
      | nil => simp [walkT]
      | cons t r =>
        rw [List.dropLast_cons₂, List.foldl_cons, h, ih (acc ++ [padd p s]) (padd p s) (by simp), List.append_assoc]; rfl
  unfold scF walkF
  rw [key ss [p] p rfl]; rfl

def S_corners_by : GS := fun ds0 Q _ => ∃ (p : Pt) (ss : List Pt), ds0 = [pt p, .lst (ss.map pt)] ∧ (ss.length ≤ 500) ∧ Q (.tup ((walkF p ss).map pt))
theorem M_corners_by : MonoP S_corners_by := fun _ _ _ _ _ hQ _ ⟨p, ss, e9, p9, q9⟩ => ⟨p, ss, e9, p9, hQ _ q9⟩
theorem Z_corners_by : ∀ ds Q E, S_corners_by ds Q E → ds.length = 2 := fun _ _ _ ⟨p, ss, e9, _⟩ => by rw [e9]; rfl
theorem t_corners_by {p : Pt} {ss : List Pt} {Q : D → Prop} {E : Exc → Prop} (p9 : ss.length ≤ 500) (h9 : Q (.tup ((walkF p ss).map pt))) : S_corners_by [pt p, .lst (ss.map pt)] Q E := ⟨p, ss, rfl, p9, h9⟩


theorem Rnd.ps {ps : List Pt} (h : Rnd ps) : ps ≠ [] ∧ ps.length ≤ 60 := ⟨h.1, h.2.1⟩
theorem gtP {ps : List Pt} (h : ps ≠ []) : atI (ps.map pt) 0 = some (pt (gt ps 0)) := by
  cases ps with
  | nil => exact absurd rfl h
  | cons a r => exact atI_zero
theorem sides_len (ps : List Pt) : (plSides ps).length ≤ ps.length := by
  match ps with
  | [] => exact Nat.le_refl _
  | [_] => exact Nat.zero_le _
  | p :: q :: r => show (sds p p (q :: r)).length ≤ _; rw [sds_len]; simp

def S_Ladd : GS := fun ds0 Q _ => ∃ (p q : Pt), ds0 = [pt p, pt q] ∧ (True) ∧ Q (pt (padd p q))
theorem M_Ladd : MonoP S_Ladd := fun _ _ _ _ _ hQ _ ⟨p, q, e9, p9, q9⟩ => ⟨p, q, e9, p9, hQ _ q9⟩
theorem Z_Ladd : ∀ ds Q E, S_Ladd ds Q E → ds.length = 2 := fun _ _ _ ⟨p, q, e9, _⟩ => by rw [e9]; rfl
theorem t_Ladd {p q : Pt} {Q : D → Prop} {E : Exc → Prop} (p9 : True) (h9 : Q (pt (padd p q))) : S_Ladd [pt p, pt q] Q E := ⟨p, q, rfl, p9, h9⟩

def S_Lmoved : GS := fun ds0 Q _ => ∃ (A : List Pt) (t : Pt), ds0 = [.tup (A.map pt), pt t] ∧ (A.length ≤ 60) ∧ Q (.tup ((A.map fun p => padd p t).map pt))
theorem M_Lmoved : MonoP S_Lmoved := fun _ _ _ _ _ hQ _ ⟨A, t, e9, p9, q9⟩ => ⟨A, t, e9, p9, hQ _ q9⟩
theorem Z_Lmoved : ∀ ds Q E, S_Lmoved ds Q E → ds.length = 2 := fun _ _ _ ⟨A, t, e9, _⟩ => by rw [e9]; rfl
theorem t_Lmoved {A : List Pt} {t : Pt} {Q : D → Prop} {E : Exc → Prop} (p9 : A.length ≤ 60) (h9 : Q (.tup ((A.map fun p => padd p t).map pt))) : S_Lmoved [.tup (A.map pt), pt t] Q E := ⟨A, t, rfl, p9, h9⟩


def sums (A B : List Pt) : List Pt := A.flatMap fun a => B.map fun b => padd a b
theorem mem_sums {A B : List Pt} {q : Pt} : q ∈ sums A B ↔ ∃ a b, a ∈ A ∧ b ∈ B ∧ q = padd a b := by
  unfold sums
  rw [List.mem_flatMap]
  constructor
  · rintro ⟨a, ha, m⟩
    obtain ⟨b, hb, e⟩ := List.mem_map.mp m
    exact ⟨a, b, ha, hb, e.symm⟩
  · rintro ⟨a, b, ha, hb, e⟩
    exact ⟨a, ha, List.mem_map.mpr ⟨b, hb, e.symm⟩⟩
theorem sums_len (A B : List Pt) : (sums A B).length = A.length * B.length := by
  unfold sums
  induction A with
  | nil => simp
  | cons a r ih => rw [List.flatMap_cons, List.length_append, ih, List.length_map, List.length_cons, Nat.add_mul, Nat.one_mul, Nat.add_comm]
theorem sums_snoc (A B : List Pt) (a : Pt) : sums (A ++ [a]) B = sums A B ++ B.map fun b => padd a b := by unfold sums; rw [List.flatMap_append]; simp


theorem PtP.opp {p : Pt} (h : PtP p) : PtP (opp p) := by
  obtain ⟨⟨a, b⟩, c, d⟩ := h
  unfold DL.opp PtP
  dsimp only
  omega
theorem PtP.abs {p : Pt} (h : PtP p) : p.1.natAbs ≤ 10 ^ 60 ∧ p.2.natAbs ≤ 10 ^ 60 := by
  obtain ⟨⟨a, b⟩, c, d⟩ := h
  omega
/-- a round shape of at most l corners, none beyond n -/
structure Shp (A : List Pt) (n : Int) (l : Nat) : Prop where
  r : Rnd A
  l : A.length ≤ l
  s : ∀ p ∈ A, SzN n p
theorem sums_head {A B : List Pt} (ha : A ≠ []) (hb : B ≠ []) : (sums A B).head? = some (padd (gt A 0) (gt B 0)) := by
  match A, B, ha, hb with
  | a :: r, b :: t, _, _ => rfl
theorem Shp.add {A B : List Pt} {m n : Int} {k l : Nat} (h : Shp A m k) (h2 : Shp B n l) (hl : k + l ≤ 30) (hm : m + n ≤ 10 ^ 60) : Shp (sumP A B) (m + n) (k + l) ∧ hullP (padd (gt A 0) (gt B 0)) (sums A B) = sumP A B := by
  have pa := List.length_pos_iff.mpr h.r.1
  have pb := List.length_pos_iff.mpr h2.r.1
  have sa := sides_len A
  have sb := sides_len B
  have la := h.l
  have lb := h2.l
  have l60 : (plSides A ++ plSides B).length ≤ 60 := by rw [List.length_append]; omega
  have hp : ∀ a ∈ A, ∀ b ∈ B, PtP (padd a b) := fun a ha b hb => ((h.s a ha).add (h2.s b hb)).le hm
  have len := (sumP_len h.r h2.r).2
  rw [List.length_append] at len
  refine ⟨⟨sum_rnd h.r h2.r l60 hp, by omega, fun p mp => ?_⟩, ?_⟩
  · obtain ⟨a, b, ha, hb, rfl⟩ := sum_mem h.r h2.r p mp
    exact (h.s a ha).add (h2.s b hb)
  · refine sum_hull h.r h2.r l60 hp (fun q => mem_sums) ?_ (by
      have := sums_head h.r.1 h2.r.1
      exact List.mem_of_head? this)
    rw [sums_len]
    have one : ∀ {X : List Pt}, X.length = 1 → (plSides X).length = 0 := fun {X} e => by
      match X, e with
      | [p], _ => rfl
    by_cases a1 : A.length = 1
    · rw [a1, Nat.one_mul]; have := one a1; omega
    · by_cases b1 : B.length = 1
      · rw [b1, Nat.mul_one]; have := one b1; omega
      · have : A.length + B.length ≤ A.length * B.length := by
          obtain ⟨x, ex⟩ : ∃ x, A.length = x + 2 := ⟨A.length - 2, by omega⟩
          obtain ⟨y, ey⟩ : ∃ y, B.length = y + 2 := ⟨B.length - 2, by omega⟩
          rw [ex, ey, Nat.add_mul, Nat.mul_add, Nat.mul_add]
          have := Nat.zero_le (x * y)
          omega
        omega
theorem Shp.sums_md {A B : List Pt} {m n : Int} {k l : Nat} (h : Shp A m k) (h2 : Shp B n l) (hm : m + n ≤ 10 ^ 60) : ∀ p ∈ sums A B, MdP p := by
  intro p mp
  obtain ⟨a, b, ha, hb, rfl⟩ := mem_sums.mp mp
  exact PtP.md (((h.s a ha).add (h2.s b hb)).le hm)
theorem Shp.len {A : List Pt} {n : Int} {l : Nat} (h : Shp A n l) {k : Nat} (hk : l ≤ k) : A.length ≤ k := Nat.le_trans h.l hk
theorem pt_rnd {t : Pt} (h : PtP t) : Rnd [t] := by
  refine ⟨by simp, by simp, fun p m => by rw [List.mem_singleton.mp m]; exact h, fun s m => (by cases m), trivial⟩
theorem Shp.point {t : Pt} {n : Int} (h : SzN n t) (hn : n ≤ 10 ^ 60) : Shp [t] n 1 := ⟨pt_rnd (h.le hn), Nat.le_refl _, fun p m => by rw [List.mem_singleton.mp m]; exact h⟩


/-! ### sides by their bare vectors -/
def lenS (s : Pt) : Int := (Int.gcd s.1 s.2 : Int)
theorem lenS_pos {s : Pt} (h : s ≠ (0, 0)) : 0 < lenS s := gcd_posP h
theorem bare_lenS (s : Pt) : mulP (lenS s) (bare s) = s := by
  obtain ⟨b1, b2⟩ := bare_mulG s
  exact Prod.ext b1 b2
theorem bareM {k : Int} {u : Pt} (hk : 0 < k) (hu : u ≠ (0, 0)) : bare (mulP k u) = bare u ∧ lenS (mulP k u) = k * lenS u := by
  obtain ⟨b1, b2⟩ := bare_mulG u
  have g := gcd_posP hu
  have eg : (Int.gcd (u.1 * k) (u.2 * k) : Int) = (Int.gcd u.1 u.2 : Int) * k := by
    rw [Int.gcd_mul_right]
    push_cast
    rw [show (k.natAbs : Int) = k by omega]
  have nz : (Int.gcd u.1 u.2 : Int) * k ≠ 0 := by have := Int.mul_pos g hk; omega
  constructor
  · show ((u.1 * k).fdiv (Int.gcd (u.1 * k) (u.2 * k)), (u.2 * k).fdiv (Int.gcd (u.1 * k) (u.2 * k))) = bare u
    rw [eg]
    have k1 : u.1 * k = (bare u).1 * ((Int.gcd u.1 u.2 : Int) * k) := by rw [← Int.mul_assoc, b1]
    have k2 : u.2 * k = (bare u).2 * ((Int.gcd u.1 u.2 : Int) * k) := by rw [← Int.mul_assoc, b2]
    rw [k1, k2, Int.mul_fdiv_cancel _ nz, Int.mul_fdiv_cancel _ nz]
  · unfold lenS mulP
    dsimp only
    rw [eg, Int.mul_comm]
theorem bareN {u : Pt} (h : u ≠ (0, 0)) : bare u ≠ (0, 0) := fun z => by
  have := bare_lenS u
  rw [z] at this
  apply h
  rw [← this]
  unfold mulP; simp
theorem bare_len1 {u : Pt} (h : u ≠ (0, 0)) : lenS (bare u) = 1 ∧ bare (bare u) = bare u := by
  obtain ⟨h1, h2⟩ := bareM (lenS_pos h) (bareN h)
  rw [bare_lenS] at h1 h2
  refine ⟨?_, h1.symm⟩
  have p := lenS_pos h
  have : lenS u * 1 = lenS u * lenS (bare u) := by rw [Int.mul_one]; exact h2
  exact (Int.eq_of_mul_eq_mul_left (by omega) this).symm
theorem bare_dirS {u : Pt} (h : u ≠ (0, 0)) : SameDir (bare u) u := ⟨lenS u, 1, lenS_pos h, by decide, by rw [bare_lenS]; unfold mulP; simp⟩
theorem bare_slopeL {u w : Pt} (h : u ≠ (0, 0)) : slope (bare u) w = slope u w := (bare_dirS h).slopeL w
theorem bare_eq_iff {a b : Pt} (ha : a ≠ (0, 0)) (hb : b ≠ (0, 0)) : bare a = bare b ↔ slope a b = 0 := by
  constructor
  · intro h
    rw [← bare_slopeL ha, h, bare_slopeL hb, slope_self]
  · intro h
    obtain ⟨k, l, hk, hl, e⟩ := alike_dir ha hb h
    have e1 := (bareM hk hb).1
    have e2 := (bareM hl ha).1
    rw [← e2, ← e, e1]
theorem mulP_mulP (k l : Int) (u : Pt) : mulP k (mulP l u) = mulP (k * l) u := by unfold mulP; exact Prod.ext (by dsimp only; rw [Int.mul_comm k l, Int.mul_assoc]) (by dsimp only; rw [Int.mul_comm k l, Int.mul_assoc])
theorem mulP_add (k l : Int) (u : Pt) : padd (mulP k u) (mulP l u) = mulP (k + l) u := by unfold mulP padd; exact Prod.ext (by dsimp only; rw [Int.mul_add]) (by dsimp only; rw [Int.mul_add])
theorem mulP_zero (u : Pt) : mulP 0 u = (0, 0) := by unfold mulP; simp
/-- strictly rising -/
abbrev RisL (ss : List Pt) : Prop := ss.Pairwise fun a b => slope a b < 0
theorem RisL.ne {ss : List Pt} (hr : RisL ss) (hn : NZ ss) : ss.Pairwise fun a b => bare a ≠ bare b := by
  refine hr.imp_of_mem fun {a b} ma mb h z => ?_
  have := (bare_eq_iff (hn a ma) (hn b mb)).mp z
  omega
/-- the length of the side of that bare vector, or 0 -/
def lenAt (ss : List Pt) (b : Pt) : Int := match ss.find? (fun s => decide (bare s = b)) with
  | some s => lenS s
  | none => 0
theorem lenAt_some {ss : List Pt} (hr : RisL ss) (hn : NZ ss) {s : Pt} (m : s ∈ ss) : lenAt ss (bare s) = lenS s := by
  unfold lenAt
  cases e : ss.find? (fun t => decide (bare t = bare s)) with
  | none =>
    have := List.find?_eq_none.mp e s m
    simp at this
  | some t =>
    have mt := List.mem_of_find?_eq_some e
    have bt : bare t = bare s := by simpa using List.find?_some e
    have : t = s := by
      by_cases z : t = s
      · exact z
      · exfalso
        have sl := (bare_eq_iff (hn t mt) (hn s m)).mp bt
        obtain ⟨i, hi, rfl⟩ := List.getElem_of_mem mt
        obtain ⟨j, hj, rfl⟩ := List.getElem_of_mem m
        have pw := List.pairwise_iff_getElem.mp hr
        rcases Nat.lt_trichotomy i j with c | c | c
        · have := pw i j hi hj c; omega
        · subst c; exact z rfl
        · have := pw j i hj hi c
          have := slope_zero_comm sl
          omega
    show lenS t = lenS s
    rw [this]
theorem lenAt_none {ss : List Pt} {b : Pt} (h : ∀ s ∈ ss, bare s ≠ b) : lenAt ss b = 0 := by
  unfold lenAt
  rw [List.find?_eq_none.mpr fun s m => by simpa using h s m]
theorem lenAt_nonneg {ss : List Pt} (hn : NZ ss) (b : Pt) : 0 ≤ lenAt ss b := by
  unfold lenAt
  cases e : ss.find? (fun t => decide (bare t = b)) with
  | none => exact Int.le_refl _
  | some t => exact Int.le_of_lt (lenS_pos (hn t (List.mem_of_find?_eq_some e)))
theorem lenAt_pos {ss : List Pt} (hn : NZ ss) {b : Pt} (h : 0 < lenAt ss b) : ∃ s ∈ ss, bare s = b ∧ lenAt ss b = lenS s := by
  unfold lenAt at h ⊢
  cases e : ss.find? (fun t => decide (bare t = b)) with
  | none => rw [e] at h; exact absurd h (by decide)
  | some t => exact ⟨t, List.mem_of_find?_eq_some e, by simpa using List.find?_some e, rfl⟩
/-- as a dict -/
def lenD (ss : List Pt) : List (D × D) := ss.map fun s => (pt (bare s), .int (lenS s))
theorem nk_pt_ne {p q : Pt} (h : p ≠ q) : D.nk (pt p) ≠ D.nk (pt q) := fun z => by
  obtain ⟨a, b⟩ := nk_pr_eq.mp z
  exact h (Prod.ext a b)
theorem lenD_pw {ss : List Pt} (hr : RisL ss) (hn : NZ ss) : ss.Pairwise fun a b => D.nk (pt (bare a)) ≠ D.nk (pt (bare b)) := (hr.ne hn).imp fun h => nk_pt_ne h
theorem look_lenD (ss : List Pt) (b : Pt) : (look (lenD ss) (pt b)).getD (.int 0) = .int (lenAt ss b) := by
  unfold look lenD lenAt
  induction ss with
  | nil => rfl
  | cons s ss ih =>
    rw [List.map_cons]
    by_cases c : bare s = b
    · rw [List.find?_cons_of_pos (by simp [c]), List.find?_cons_of_pos (by simp [c])]; rfl
    · rw [List.find?_cons_of_neg (by simpa using nk_pt_ne c), List.find?_cons_of_neg (by simp [c])]
      exact ih
theorem look_mem {ss : List Pt} (hr : RisL ss) (hn : NZ ss) {s : Pt} (m : s ∈ ss) : look (lenD ss) (pt (bare s)) = some (.int (lenS s)) := by
  have h := look_lenD ss (bare s)
  rw [lenAt_some hr hn m] at h
  cases e : look (lenD ss) (pt (bare s)) with
  | some d => rw [e] at h; rw [show d = .int (lenS s) from h]
  | none =>
    exfalso
    unfold look at e
    rw [Option.map_eq_none_iff, List.find?_eq_none] at e
    have := e (pt (bare s), .int (lenS s)) (List.mem_map.mpr ⟨s, m, rfl⟩)
    simp at this
theorem lenD_keys (ss : List Pt) : (lenD ss).map (·.1) = ss.map fun s => pt (bare s) := by unfold lenD; rw [List.map_map]; rfl
/-! ### what is left of a shape -/
def lefN (ps : List Pt) (s : Pt) : Int := lenS s - lenAt ps (bare s)
def restS (ws ps : List Pt) : List Pt := (ws.filter fun s => decide (0 < lefN ps s)).map fun s => mulP (lefN ps s) (bare s)
/-- no side of the part is too long -/
def Fits (ws ps : List Pt) : Prop := ∀ s ∈ ps, lenS s ≤ lenAt ws (bare s)
theorem lik_apd (u : Pt) (xs ys : List Pt) : likS u (xs ++ ys) = likS u xs ++ likS u ys := by unfold likS; rw [List.filter_append]
/-- what of a rising list lies in one direction -/
theorem lik_ris {ss : List Pt} (hr : RisL ss) (hn : NZ ss) {u : Pt} (hu : u ≠ (0, 0)) : vsum (likS u ss) = mulP (lenAt ss (bare u)) (bare u) := by
  by_cases c : ∃ s ∈ ss, slope s u = 0
  · obtain ⟨s, m, z⟩ := c
    have e2 : likS u ss = likS s ss := by
      unfold likS
      refine List.filter_congr fun x _ => ?_
      have d := alike_dir (hn s m) hu z
      rw [d.slopeR]
    have eb := (bare_eq_iff (hn s m) hu).mpr z
    rw [e2, lik_self hn hr m, ← eb, lenAt_some hr hn m, bare_lenS]
    exact padd_zero s
  · have h0 : likS u ss = [] := by
      unfold likS
      refine List.filter_eq_nil_iff.mpr fun x m z => c ⟨x, m, of_decide_eq_true z⟩
    rw [h0, lenAt_none fun s m z => c ⟨s, m, (bare_eq_iff (hn s m) hu).mp z⟩, mulP_zero]; rfl
theorem mulP_inj {k l : Int} {u : Pt} (hu : u ≠ (0, 0)) (h : mulP k u = mulP l u) : k = l := by
  obtain ⟨h1, h2⟩ := Prod.mk.inj h
  by_cases c : u.1 = 0
  · have c2 : u.2 ≠ 0 := fun z => hu (Prod.ext c z)
    exact Int.eq_of_mul_eq_mul_left c2 h2
  · exact Int.eq_of_mul_eq_mul_left c h1
/-- rising lists are told by their lengths -/
theorem ris_uniq {xs ys : List Pt} (hx : RisL xs) (nx : NZ xs) (hy : RisL ys) (ny : NZ ys) (h : ∀ u, u ≠ (0, 0) → lenAt xs (bare u) = lenAt ys (bare u)) : xs = ys := by
  refine rise_uniq hx hy fun v => ⟨fun m => ?_, fun m => ?_⟩
  · have hv := nx v m
    refine lik_mem ny hy ?_ hv
    rw [lik_ris hy ny hv, ← h v hv, lenAt_some hx nx m, bare_lenS]
  · have hv := ny v m
    refine lik_mem nx hx ?_ hv
    rw [lik_ris hx nx hv, h v hv, lenAt_some hy ny m, bare_lenS]
theorem joined_len {xs js : List Pt} (j : Joined xs js) {u : Pt} (hu : u ≠ (0, 0)) {k : Int} (h : vsum (likS u xs) = mulP k (bare u)) : lenAt js (bare u) = k := by
  have e := j.lik u hu
  rw [lik_ris j.pw j.nz hu, h] at e
  exact mulP_inj (bareN hu) e
theorem canon_len2 {xs ys : List Pt} (hx : RisL xs) (nx : NZ xs) (hy : RisL ys) (ny : NZ ys) {u : Pt} (hu : u ≠ (0, 0)) : lenAt (canon (xs ++ ys)) (bare u) = lenAt xs (bare u) + lenAt ys (bare u) := by
  have nz : NZ (xs ++ ys) := fun p m => (List.mem_append.mp m).elim (nx p) (ny p)
  refine joined_len (canon_ok nz) hu ?_
  rw [lik_apd, vsum_append, lik_ris hx nx hu, lik_ris hy ny hu, mulP_add]
theorem restS_ok {ws ps : List Pt} (hw : RisL ws) (nw : NZ ws) : RisL (restS ws ps) ∧ NZ (restS ws ps) ∧ ∀ u, u ≠ (0, 0) → lenAt (restS ws ps) (bare u) = if 0 < lenAt ws (bare u) - lenAt ps (bare u) ∧ 0 < lenAt ws (bare u) then lenAt ws (bare u) - lenAt ps (bare u) else 0 := by
  have dir : ∀ s ∈ ws, 0 < lefN ps s → SameDir (mulP (lefN ps s) (bare s)) s ∧ mulP (lefN ps s) (bare s) ≠ (0, 0) ∧ bare (mulP (lefN ps s) (bare s)) = bare s ∧ lenS (mulP (lefN ps s) (bare s)) = lefN ps s := fun s m h => by
    have hs := nw s m
    obtain ⟨e1, e2⟩ := bareM h (bareN hs)
    obtain ⟨f1, f2⟩ := bare_len1 hs
    rw [f1, Int.mul_one] at e2
    rw [f2] at e1
    refine ⟨⟨lenS s, lefN ps s, lenS_pos hs, h, ?_⟩, fun z => ?_, e1, e2⟩
    · rw [mulP_mulP, Int.mul_comm, ← mulP_mulP, bare_lenS]
    · rw [z] at e2
      have : lenS (0, 0) = 0 := by decide
      omega
  have mem : ∀ {x}, x ∈ restS ws ps ↔ ∃ s ∈ ws, 0 < lefN ps s ∧ mulP (lefN ps s) (bare s) = x := fun {x} => by
    unfold restS
    rw [List.mem_map]
    constructor
    · rintro ⟨s, m, e⟩
      obtain ⟨m1, m2⟩ := List.mem_filter.mp m
      exact ⟨s, m1, of_decide_eq_true m2, e⟩
    · rintro ⟨s, m, h, e⟩
      exact ⟨s, List.mem_filter.mpr ⟨m, decide_eq_true h⟩, e⟩
  have hr : RisL (restS ws ps) := by
    unfold restS
    refine List.pairwise_map.mpr ((hw.filter _).imp_of_mem fun {a b} ma mb h => ?_)
    obtain ⟨a1, a2⟩ := List.mem_filter.mp ma
    obtain ⟨b1, b2⟩ := List.mem_filter.mp mb
    rw [(dir a a1 (of_decide_eq_true a2)).1.slopeL, (dir b b1 (of_decide_eq_true b2)).1.slopeR]
    exact h
  have hn : NZ (restS ws ps) := fun x m => by
    obtain ⟨s, m1, h, rfl⟩ := mem.mp m
    exact (dir s m1 h).2.1
  refine ⟨hr, hn, fun u hu => ?_⟩
  split
  · rename_i c
    obtain ⟨s, m, eb, el⟩ := lenAt_pos nw c.2
    have hl : lefN ps s = lenAt ws (bare u) - lenAt ps (bare u) := by unfold lefN; rw [el, eb]
    have h : 0 < lefN ps s := by omega
    obtain ⟨_, _, d1, d2⟩ := dir s m h
    have mr : mulP (lefN ps s) (bare s) ∈ restS ws ps := mem.mpr ⟨s, m, h, rfl⟩
    have := lenAt_some hr hn mr
    rw [d1, d2, eb] at this
    omega
  · rename_i c
    refine lenAt_none fun x m z => c ?_
    obtain ⟨s, m1, h, rfl⟩ := mem.mp m
    obtain ⟨_, _, d1, d2⟩ := dir s m1 h
    rw [d1] at z
    have e := lenAt_some hw nw m1
    unfold lefN at h
    rw [z] at e h
    have := lenS_pos (nw s m1)
    omega
theorem fits_at {ws ps : List Pt} (np : NZ ps) (hp : RisL ps) (nw : NZ ws) (h : Fits ws ps) (u : Pt) : lenAt ps (bare u) ≤ lenAt ws (bare u) := by
  rcases Int.lt_or_le 0 (lenAt ps (bare u)) with c | c
  · obtain ⟨s, m, eb, el⟩ := lenAt_pos np c
    have := h s m
    rw [eb] at this
    omega
  · exact Int.le_trans c (lenAt_nonneg nw _)
/-- the rest and the part are the whole -/
theorem rest_canon {ws ps : List Pt} (hw : RisL ws) (nw : NZ ws) (hp : RisL ps) (np : NZ ps) (h : Fits ws ps) : canon (restS ws ps ++ ps) = ws := by
  obtain ⟨r1, r2, r3⟩ := restS_ok (ps := ps) hw nw
  have nz : NZ (restS ws ps ++ ps) := fun p m => (List.mem_append.mp m).elim (r2 p) (np p)
  have j := canon_ok nz
  refine ris_uniq j.pw j.nz hw nw fun u hu => ?_
  rw [canon_len2 r1 r2 hp np hu, r3 u hu]
  have f := fits_at np hp nw h u
  have n1 := lenAt_nonneg np (bare u)
  split
  · omega
  · rename_i c
    omega
theorem rest_vsum {ws ps : List Pt} (hw : RisL ws) (nw : NZ ws) (hp : RisL ps) (np : NZ ps) (h : Fits ws ps) (zw : vsum ws = (0, 0)) (zp : vsum ps = (0, 0)) : vsum (restS ws ps) = (0, 0) := by
  obtain ⟨r1, r2, r3⟩ := restS_ok (ps := ps) hw nw
  have nz : NZ (restS ws ps ++ ps) := fun p m => (List.mem_append.mp m).elim (r2 p) (np p)
  have e := vsum_canon nz
  rw [rest_canon hw nw hp np h, vsum_append, zp, padd_zero, zw] at e
  exact e.symm
def restP (W P : List Pt) : List Pt := walkF (toV (gt P 0) (gt W 0)) (restS (plSides W) (plSides P))
theorem Rnd.nz {A : List Pt} (h : Rnd A) : NZ (plSides A) := h.2.2.2.1
theorem ris_len1 {ss : List Pt} (hn : NZ ss) (hz : vsum ss = (0, 0)) : ss.length ≠ 1 := fun z => by
  match ss, z with
  | [s], _ => exact hn s (by simp) (by rw [← hz]; exact (padd_zero s).symm)
theorem walk_sz {m n : Int} (hm : 0 ≤ m) (hn : 0 ≤ n) {ss : List Pt} : ∀ {p : Pt}, SzN m p → (∀ s ∈ ss, SzN n s) → ∀ q ∈ walkF p ss, SzN (m + ss.length * n) q := by
  have key : ∀ (ss : List Pt) {p : Pt} {m : Int}, 0 ≤ m → SzN m p → (∀ s ∈ ss, SzN n s) → ∀ q ∈ walkT p ss, SzN (m + ss.length * n) q := by
    intro ss
    induction ss with
    | nil => intro p m _ _ _ q mq; cases mq
    | cons s r ih =>
      intro p m hm h1 h2 q mq
      cases r with
      | nil => cases mq
      | cons t r =>
        have el : (((s :: t :: r).length : Nat) : Int) * n = n + ((t :: r).length : Nat) * n := by
          rw [List.length_cons]; push_cast; rw [Int.add_mul, Int.one_mul, Int.add_comm]
        have pos : 0 ≤ (((t :: r).length : Nat) : Int) * n := Int.mul_nonneg (by omega) hn
        have sp := h1.add (h2 s List.mem_cons_self)
        rw [el, ← Int.add_assoc]
        have : q = padd p s ∨ q ∈ walkT (padd p s) (t :: r) := by
          have : q ∈ padd p s :: walkT (padd p s) (t :: r) := mq
          exact List.mem_cons.mp this
        rcases this with rfl | mq
        · exact sp.le (by omega)
        · exact ih (by omega) sp (fun x mx => h2 x (List.mem_cons_of_mem _ mx)) q mq
  intro p h1 h2 q mq
  have pos : 0 ≤ (ss.length : Int) * n := Int.mul_nonneg (by omega) hn
  rcases List.mem_cons.mp (show q ∈ p :: walkT p ss from mq) with rfl | mq
  · exact h1.le (by omega)
  · exact key ss hm h1 h2 q mq
theorem rest_sides {W P : List Pt} (hw : Rnd W) (hp : Rnd P) (h : Fits (plSides W) (plSides P)) : plSides (restP W P) = restS (plSides W) (plSides P) := by
  obtain ⟨r1, r2, _⟩ := restS_ok (ps := plSides P) (sides_pw hw) hw.nz
  have z := rest_vsum (sides_pw hw) hw.nz (sides_pw hp) hp.nz h (vsum_sides W) (vsum_sides P)
  exact plSides_walk (ris_len1 r2 z) z
theorem restS_len (ws ps : List Pt) : (restS ws ps).length ≤ ws.length := by unfold restS; rw [List.length_map]; exact List.length_filter_le _ _
theorem restS_sz {ws ps : List Pt} {n : Int} (nw : NZ ws) (np : NZ ps) (h : ∀ s ∈ ws, SzN n s) : ∀ s ∈ restS ws ps, SzN n s := fun x m => by
  unfold restS at m
  obtain ⟨s, m1, rfl⟩ := List.mem_map.mp m
  obtain ⟨m2, m3⟩ := List.mem_filter.mp m1
  have c : 0 < lefN ps s := of_decide_eq_true m3
  have l : lefN ps s ≤ lenS s := by unfold lefN; have := lenAt_nonneg np (bare s); omega
  have e := bare_lenS s
  obtain ⟨⟨a1, a2⟩, a3, a4⟩ := h s m2
  have e1 : (bare s).1 * lenS s = s.1 := congrArg Prod.fst e
  have e2 : (bare s).2 * lenS s = s.2 := congrArg Prod.snd e
  have key : ∀ b : Int, -n ≤ b * lenS s → b * lenS s ≤ n → -n ≤ b * lefN ps s ∧ b * lefN ps s ≤ n := fun b h1 h2 => by
    rcases Int.le_total 0 b with hb | hb
    · have := Int.mul_le_mul_of_nonneg_left l hb
      have := Int.mul_nonneg hb (Int.le_of_lt c)
      omega
    · have := Int.mul_le_mul_of_nonpos_left hb l
      have := Int.mul_nonpos_of_nonpos_of_nonneg hb (Int.le_of_lt c)
      omega
  have k1 := key (bare s).1 (by omega) (by omega)
  have k2 := key (bare s).2 (by omega) (by omega)
  exact ⟨k1, k2⟩
theorem rest_rnd {W P : List Pt} (hw : Rnd W) (hp : Rnd P) (h : Fits (plSides W) (plSides P)) (hs : ∀ q ∈ restP W P, PtP q) : Rnd (restP W P) := by
  obtain ⟨r1, r2, _⟩ := restS_ok (ps := plSides P) (sides_pw hw) hw.nz
  have es := rest_sides hw hp h
  refine ⟨by unfold restP walkF; simp, ?_, hs, by rw [es]; exact r2, by rw [es]; exact pw_rises r1⟩
  unfold restP walkF
  rw [List.length_cons, walkT_len]
  have := restS_len (plSides W) (plSides P)
  have := sides_len W
  have := hw.2.1
  omega
theorem rest_sum {W P : List Pt} (hw : Rnd W) (hp : Rnd P) (h : Fits (plSides W) (plSides P)) : sumP (restP W P) P = W := by
  have es := rest_sides hw hp h
  have e0 : padd (gt (restP W P) 0) (gt P 0) = gt W 0 := by
    show padd (toV (gt P 0) (gt W 0)) (gt P 0) = _
    unfold padd toV; exact Prod.ext (by dsimp only; omega) (by dsimp only; omega)
  unfold sumP
  rw [e0, es, rest_canon (sides_pw hw) hw.nz (sides_pw hp) hp.nz h, walk_sides hw.1]
def firstD (ws ps : List Pt) : D := match ps.find? (fun s => decide (lenAt ws (bare s) < lenS s)) with
  | some s => .tup [pt (bare s), .int (lenAt ws (bare s)), .int (lenS s)]
  | none => .non
theorem first_none {ws ps : List Pt} : firstD ws ps = .non ↔ Fits ws ps := by
  unfold firstD
  cases e : ps.find? (fun s => decide (lenAt ws (bare s) < lenS s)) with
  | none =>
    refine ⟨fun _ s m => ?_, fun _ => rfl⟩
    have := List.find?_eq_none.mp e s m
    simp at this
    exact this
  | some s =>
    refine ⟨fun z => (by cases z), fun z => ?_⟩
    have m := List.mem_of_find?_eq_some e
    have c : decide (lenAt ws (bare s) < lenS s) = true := List.find?_some (p := fun s => decide (lenAt ws (bare s) < lenS s)) e
    have := of_decide_eq_true c
    have := z s m
    omega
theorem first_at {ws ps done rest : List Pt} {s : Pt} (e : ps = done ++ s :: rest) (h : ∀ x ∈ done, ¬ lenAt ws (bare x) < lenS x) (c : lenAt ws (bare s) < lenS s) : firstD ws ps = .tup [pt (bare s), .int (lenAt ws (bare s)), .int (lenS s)] := by
  unfold firstD
  rw [e, List.find?_append, List.find?_eq_none.mpr fun x m => by simpa using h x m, List.find?_cons_of_pos (by simpa using c)]
  rfl
theorem first_end {ws ps : List Pt} (h : ∀ x ∈ ps, ¬ lenAt ws (bare x) < lenS x) : firstD ws ps = .non := first_none.mpr fun s m => Int.not_lt.mp (h s m)
/-- a shape's sides are small numbers -/
theorem side_smS {A : List Pt} (ha : Rnd A) {s : Pt} (m : s ∈ plSides A) : SmP s := side_sm ha.2.2.1 m
theorem lenS_bound {s : Pt} : (lenS s).natAbs ≤ s.1.natAbs + s.2.natAbs := by
  unfold lenS
  rw [Int.natAbs_natCast]
  by_cases c : s.1 = 0
  · rw [c]; simp
  · have := Nat.le_of_dvd (by omega) (Int.gcd_dvd_natAbs_left s.1 s.2)
    omega

def S_length_number : GS := fun ds0 Q _ => ∃ (p : Pt), ds0 = [pt p] ∧ (True) ∧ Q (.int (lenS p))
theorem M_length_number : MonoP S_length_number := fun _ _ _ _ _ hQ _ ⟨p, e9, p9, q9⟩ => ⟨p, e9, p9, hQ _ q9⟩
theorem Z_length_number : ∀ ds Q E, S_length_number ds Q E → ds.length = 1 := fun _ _ _ ⟨p, e9, _⟩ => by rw [e9]; rfl
theorem t_length_number {p : Pt} {Q : D → Prop} {E : Exc → Prop} (p9 : True) (h9 : Q (.int (lenS p))) : S_length_number [pt p] Q E := ⟨p, rfl, p9, h9⟩

def S_side_lengths : GS := fun ds0 Q _ => ∃ (A : List Pt), ds0 = [.tup (A.map pt)] ∧ (Rnd A) ∧ Q (.dct (lenD (plSides A)))
theorem M_side_lengths : MonoP S_side_lengths := fun _ _ _ _ _ hQ _ ⟨A, e9, p9, q9⟩ => ⟨A, e9, p9, hQ _ q9⟩
theorem Z_side_lengths : ∀ ds Q E, S_side_lengths ds Q E → ds.length = 1 := fun _ _ _ ⟨A, e9, _⟩ => by rw [e9]; rfl
theorem t_side_lengths {A : List Pt} {Q : D → Prop} {E : Exc → Prop} (p9 : Rnd A) (h9 : Q (.dct (lenD (plSides A)))) : S_side_lengths [.tup (A.map pt)] Q E := ⟨A, rfl, p9, h9⟩

def S_first_short : GS := fun ds0 Q _ => ∃ (W P : List Pt), ds0 = [.tup (W.map pt), .tup (P.map pt)] ∧ (Rnd W ∧ Rnd P) ∧ Q (firstD (plSides W) (plSides P))
theorem M_first_short : MonoP S_first_short := fun _ _ _ _ _ hQ _ ⟨W, P, e9, p9, q9⟩ => ⟨W, P, e9, p9, hQ _ q9⟩
theorem Z_first_short : ∀ ds Q E, S_first_short ds Q E → ds.length = 2 := fun _ _ _ ⟨W, P, e9, _⟩ => by rw [e9]; rfl
theorem t_first_short {W P : List Pt} {Q : D → Prop} {E : Exc → Prop} (p9 : Rnd W ∧ Rnd P) (h9 : Q (firstD (plSides W) (plSides P))) : S_first_short [.tup (W.map pt), .tup (P.map pt)] Q E := ⟨W, P, rfl, p9, h9⟩

def S_plain_rest : GS := fun ds0 Q _ => ∃ (W P : List Pt), ds0 = [.tup (W.map pt), .tup (P.map pt)] ∧ (Rnd W ∧ Rnd P) ∧ Q (.tup ((restP W P).map pt))
theorem M_plain_rest : MonoP S_plain_rest := fun _ _ _ _ _ hQ _ ⟨W, P, e9, p9, q9⟩ => ⟨W, P, e9, p9, hQ _ q9⟩
theorem Z_plain_rest : ∀ ds Q E, S_plain_rest ds Q E → ds.length = 2 := fun _ _ _ ⟨W, P, e9, _⟩ => by rw [e9]; rfl
theorem t_plain_rest {W P : List Pt} {Q : D → Prop} {E : Exc → Prop} (p9 : Rnd W ∧ Rnd P) (h9 : Q (.tup ((restP W P).map pt))) : S_plain_rest [.tup (W.map pt), .tup (P.map pt)] Q E := ⟨W, P, rfl, p9, h9⟩


instance fitsDec (ws ps : List Pt) : Decidable (Fits ws ps) := by unfold Fits; infer_instance
def S_check_both : GS := fun ds0 Q _ => ∃ (A B : List Pt), ds0 = [.tup (A.map pt), .tup (B.map pt)] ∧ (Rnd A ∧ Rnd B) ∧ Q .non
theorem M_check_both : MonoP S_check_both := fun _ _ _ _ _ hQ _ ⟨A, B, e9, p9, q9⟩ => ⟨A, B, e9, p9, hQ _ q9⟩
theorem Z_check_both : ∀ ds Q E, S_check_both ds Q E → ds.length = 2 := fun _ _ _ ⟨A, B, e9, _⟩ => by rw [e9]; rfl
theorem t_check_both {A B : List Pt} {Q : D → Prop} {E : Exc → Prop} (p9 : Rnd A ∧ Rnd B) (h9 : Q .non) : S_check_both [.tup (A.map pt), .tup (B.map pt)] Q E := ⟨A, B, rfl, p9, h9⟩


def S_Llongs : GS := fun ds0 Q _ => ∃ (A : List Pt), ds0 = [.tup (A.map pt)] ∧ (Rnd A) ∧ Q (.dct (lenD (plSides A)))
theorem M_Llongs : MonoP S_Llongs := fun _ _ _ _ _ hQ _ ⟨A, e9, p9, q9⟩ => ⟨A, e9, p9, hQ _ q9⟩
theorem Z_Llongs : ∀ ds Q E, S_Llongs ds Q E → ds.length = 1 := fun _ _ _ ⟨A, e9, _⟩ => by rw [e9]; rfl
theorem t_Llongs {A : List Pt} {Q : D → Prop} {E : Exc → Prop} (p9 : Rnd A) (h9 : Q (.dct (lenD (plSides A)))) : S_Llongs [.tup (A.map pt)] Q E := ⟨A, rfl, p9, h9⟩

def S_Lshort : GS := fun ds0 Q _ => ∃ (W P : List Pt), ds0 = [.tup (W.map pt), .tup (P.map pt)] ∧ (Rnd W ∧ Rnd P) ∧ Q (firstD (plSides W) (plSides P))
theorem M_Lshort : MonoP S_Lshort := fun _ _ _ _ _ hQ _ ⟨W, P, e9, p9, q9⟩ => ⟨W, P, e9, p9, hQ _ q9⟩
theorem Z_Lshort : ∀ ds Q E, S_Lshort ds Q E → ds.length = 2 := fun _ _ _ ⟨W, P, e9, _⟩ => by rw [e9]; rfl
theorem t_Lshort {W P : List Pt} {Q : D → Prop} {E : Exc → Prop} (p9 : Rnd W ∧ Rnd P) (h9 : Q (firstD (plSides W) (plSides P))) : S_Lshort [.tup (W.map pt), .tup (P.map pt)] Q E := ⟨W, P, rfl, p9, h9⟩


open Classical in
noncomputable def dB (p : Prop) : Bool := decide p
open Classical in
theorem dB_t {p : Prop} (h : p) : dB p = true := by unfold dB; exact decide_eq_true h
open Classical in
theorem dB_f {p : Prop} (h : ¬ p) : dB p = false := by unfold dB; exact decide_eq_false h
theorem flatA_mem {n : Nat} : ∀ {xs : List D} {x : D}, D.flatA n xs = true → x ∈ xs → x.flat n = true
  | y :: ys, x, h, m => by
    unfold D.flatA at h
    rw [Bool.and_eq_true] at h
    rcases List.mem_cons.mp m with rfl | m
    · exact h.1
    · exact flatA_mem h.2 m
theorem flat_noO {n : Nat} {d : D} (h : d.flat n = true) : isO d = false := by
  cases d with
  | ob v => cases h
  | exc a C dd d => cases h
  | thk f c q σ is ds => cases h
  | _ => rfl
theorem flat_tupA {n : Nat} {xs : List D} (h : (D.tup xs).flat (n + 1) = true) : D.flatA n xs = true := by
  unfold D.flat at h; exact h
mutual
theorem flat_up {n : Nat} : ∀ {d : D} {m : Nat}, n ≤ m → d.flat n = true → d.flat m = true
  | .non, _, _, _ => by unfold D.flat; rfl
  | .bl _, _, _, _ => by unfold D.flat; rfl
  | .int _, _, _, _ => by unfold D.flat; rfl
  | .str x, _, _, h => by unfold D.flat at h ⊢; exact h
  | .tup ds, m, hm, h => by
    cases n with
    | zero => unfold D.flat at h; cases h
    | succ k =>
      cases m with
      | zero => omega
      | succ m => unfold D.flat at h ⊢; exact flatA_up (by omega) h
  | .lst ds, m, hm, h => by
    cases n with
    | zero => unfold D.flat at h; cases h
    | succ k =>
      cases m with
      | zero => omega
      | succ m => unfold D.flat at h ⊢; exact flatA_up (by omega) h
  | .ro ds, m, hm, h => by
    cases n with
    | zero => unfold D.flat at h; cases h
    | succ k =>
      cases m with
      | zero => omega
      | succ m => unfold D.flat at h ⊢; exact flatA_up (by omega) h
  | .ob _, _, _, h => by cases h
  | .exc _ _ _ _ _, _, _, h => by cases h
theorem flatA_up {n : Nat} : ∀ {ds : List D} {m : Nat}, n ≤ m → D.flatA n ds = true → D.flatA m ds = true
  | [], _, _, _ => rfl
  | d :: ds, m, hm, h => by
    unfold D.flatA at h ⊢
    rw [Bool.and_eq_true] at h ⊢
    exact ⟨flat_up hm h.1, flatA_up hm h.2⟩
end
theorem all_map {α : Type} {f : α → D} {P : α → Prop} {p : D → Bool} (h : ∀ d, p d = true → ∃ a, d = f a ∧ P a) : ∀ {xs : List D}, (∀ x ∈ xs, p x = true) → ∃ as : List α, xs = as.map f ∧ ∀ a ∈ as, P a
  | [], _ => ⟨[], rfl, by simp⟩
  | x :: xs, hx => by
    obtain ⟨a, rfl, ha⟩ := h x (hx x List.mem_cons_self)
    obtain ⟨as, rfl, hs⟩ := all_map h (xs := xs) fun y m => hx y (List.mem_cons_of_mem _ m)
    exact ⟨a :: as, rfl, fun b m => by rcases List.mem_cons.mp m with rfl | m; exact ha; exact hs b m⟩
theorem all_mem {α : Type} {f : α → D} {P : α → Prop} : ∀ {xs : List D}, (∀ x ∈ xs, ∃ a, x = f a ∧ P a) → ∃ as : List α, xs = as.map f ∧ ∀ a ∈ as, P a
  | [], _ => ⟨[], rfl, by simp⟩
  | x :: xs, hx => by
    obtain ⟨a, rfl, ha⟩ := hx x List.mem_cons_self
    obtain ⟨as, rfl, hs⟩ := all_mem (xs := xs) fun y m => hx y (List.mem_cons_of_mem _ m)
    exact ⟨a :: as, rfl, fun b m => by rcases List.mem_cons.mp m with rfl | m; exact ha; exact hs b m⟩
theorem pt_inj {p q : Pt} (h : pt p = pt q) : p = q := by
  injection h with h
  injection h with h1 h2
  injection h2 with h2 _
  injection h1 with h1
  injection h2 with h2
  exact Prod.ext h1 h2
theorem map_inj {α : Type} {f : α → D} (h : ∀ a b, f a = f b → a = b) : ∀ {xs ys : List α}, xs.map f = ys.map f → xs = ys
  | [], [], _ => rfl
  | [], _ :: _, e => by cases e
  | _ :: _, [], e => by cases e
  | a :: xs, b :: ys, e => by
    rw [List.map_cons, List.map_cons] at e
    obtain ⟨e1, e2⟩ := List.cons.inj e
    rw [h a b e1, map_inj h e2]
theorem rises_not {ss : List Pt} : ((ss.zip (ss.drop 1)).all fun p => decide (slope p.1 p.2 < 0)) = dB (Rises ss) := by
  by_cases h : Rises ss
  · rw [dB_t h]; exact zip_rises.mp h
  · rw [dB_f h, Bool.eq_false_iff]; exact fun z => h (zip_rises.mpr z)

def S_rises : GS := fun ds0 Q _ => ∃ (ss : List Pt), ds0 = [.lst (ss.map pt)] ∧ ((∀ s ∈ ss, SmP s) ∧ ss.length ≤ 60) ∧ Q (.bl (dB (Rises ss)))
theorem M_rises : MonoP S_rises := fun _ _ _ _ _ hQ _ ⟨ss, e9, p9, q9⟩ => ⟨ss, e9, p9, hQ _ q9⟩
theorem Z_rises : ∀ ds Q E, S_rises ds Q E → ds.length = 1 := fun _ _ _ ⟨ss, e9, _⟩ => by rw [e9]; rfl
theorem t_rises {ss : List Pt} {Q : D → Prop} {E : Exc → Prop} (p9 : (∀ s ∈ ss, SmP s) ∧ ss.length ≤ 60) (h9 : Q (.bl (dB (Rises ss)))) : S_rises [.lst (ss.map pt)] Q E := ⟨ss, rfl, p9, h9⟩


theorem any_zero {ss : List Pt} : (ss.map fun s => decide (s.1 = 0) && decide (s.2 = 0)).any (fun b => b) = dB (∃ s ∈ ss, s = (0, 0)) := by
  rw [List.any_map, Bool.eq_iff_iff, List.any_eq_true]
  constructor
  · rintro ⟨s, m, h⟩
    have h' : (decide (s.1 = 0) && decide (s.2 = 0)) = true := h
    rw [Bool.and_eq_true, decide_eq_true_eq, decide_eq_true_eq] at h'
    exact dB_t ⟨s, m, Prod.ext h'.1 h'.2⟩
  · intro h
    by_cases z : ∃ s ∈ ss, s = (0, 0)
    · obtain ⟨s, m, rfl⟩ := z
      exact ⟨(0, 0), m, by decide⟩
    · rw [dB_f z] at h; cases h


theorem rnd_shp {S : List Pt} {f : Pt} {n : Int} (hf : f ∈ S) (hl : S.length ≤ 6) (hv : ∀ v ∈ S, SzN n v) (hn : n ≤ 100) : Shp (hullP f S) n 7 := by
  obtain ⟨hr, hc⟩ := hull_shape hf (by omega) fun p m => (hv p m).pt (by omega)
  have ln : (hullP f S).length ≤ 7 := by
    have := hullGo_len S (lowest f S) S.length (lowest f S) [lowest f S]
    rw [hullP_eq]; rw [List.length_singleton] at this; omega
  exact ⟨hr, ln, fun p m => hv p (hull_mem hf p m)⟩
theorem shp_sides {A : List Pt} {n : Int} {l : Nat} (h : Shp A n l) : ∀ s ∈ plSides A, SzN (2 * n) s := fun s m => by
  obtain ⟨a, b, h1, h2, rfl⟩ := plSides_mem m
  obtain ⟨⟨a1, a2⟩, a3, a4⟩ := h.s a h1
  obtain ⟨⟨b1, b2⟩, b3, b4⟩ := h.s b h2
  unfold toV SzN
  dsimp only
  omega
theorem rest_shp {W P : List Pt} {n m : Int} (hw : Shp W n 14) (hp : Shp P m 7) (h : Fits (plSides W) (plSides P)) (n0 : 0 ≤ n) (m0 : 0 ≤ m) (hn : n ≤ 1000) (hm : m ≤ 1000) : Shp (restP W P) 100000 14 := by
  have sz : ∀ q ∈ restP W P, SzN 100000 q := fun q mq => by
    have s0 : SzN (n + m) (toV (gt P 0) (gt W 0)) := by
      obtain ⟨⟨a1, a2⟩, a3, a4⟩ := hw.s _ (gt_mem (List.length_pos_iff.mpr hw.r.1))
      obtain ⟨⟨b1, b2⟩, b3, b4⟩ := hp.s _ (gt_mem (List.length_pos_iff.mpr hp.r.1))
      unfold toV SzN
      dsimp only
      omega
    have := walk_sz (m := n + m) (n := 2 * n) (by omega) (by omega) s0 (restS_sz (ps := plSides P) hw.r.nz hp.r.nz (shp_sides hw)) q mq
    have l1 := restS_len (plSides W) (plSides P)
    have l2 := sides_len W
    have l3 := hw.l
    refine this.le ?_
    have : ((restS (plSides W) (plSides P)).length : Int) * (2 * n) ≤ 14 * (2 * n) := Int.mul_le_mul_of_nonneg_right (by omega) (by omega)
    omega
  refine ⟨rest_rnd hw.r hp.r h fun q m => (sz q m).le (by decide), ?_, sz⟩
  unfold restP walkF
  rw [List.length_cons, walkT_len]
  have l1 := restS_len (plSides W) (plSides P)
  have l2 := sides_len W
  have l3 := hw.l
  have := List.length_pos_iff.mpr hw.r.1
  omega


def S_is_round : GS := fun ds0 Q _ => ∃ (ps : List Pt), ds0 = [.tup (ps.map pt)] ∧ (Rnd ps) ∧ Q (.bl true)
theorem M_is_round : MonoP S_is_round := fun _ _ _ _ _ hQ _ ⟨ps, e9, p9, q9⟩ => ⟨ps, e9, p9, hQ _ q9⟩
theorem Z_is_round : ∀ ds Q E, S_is_round ds Q E → ds.length = 1 := fun _ _ _ ⟨ps, e9, _⟩ => by rw [e9]; rfl
theorem t_is_round {ps : List Pt} {Q : D → Prop} {E : Exc → Prop} (p9 : Rnd ps) (h9 : Q (.bl true)) : S_is_round [.tup (ps.map pt)] Q E := ⟨ps, rfl, p9, h9⟩


/-! ### shapes of any size, moved shapes -/
def RndA (ps : List Pt) : Prop := ps ≠ [] ∧ ps.length ≤ 60 ∧ (∀ s ∈ plSides ps, s ≠ (0, 0)) ∧ Rises (plSides ps)
def IsAny (d : D) : Prop := ∃ ps : List Pt, d = .tup (ps.map pt) ∧ RndA ps
theorem isAny_iff {ps : List Pt} : IsAny (.tup (ps.map pt)) ↔ RndA ps :=
  ⟨fun ⟨qs, e, h⟩ => by
    have e2 := map_inj (fun _ _ => pt_inj) (D.tup.inj e)
    rw [e2]; exact h, fun h => ⟨ps, rfl, h⟩⟩
def mvL (t : Pt) (A : List Pt) : List Pt := A.map fun p => padd p t
theorem mvL_ne {t : Pt} {A : List Pt} : mvL t A ≠ [] ↔ A ≠ [] := by unfold mvL; simp
theorem mvL_len {t : Pt} {A : List Pt} : (mvL t A).length = A.length := by unfold mvL; simp
theorem mv_toV (p q t : Pt) : toV (padd p t) (padd q t) = toV p q := by unfold toV padd; exact Prod.ext (by dsimp only; omega) (by dsimp only; omega)
theorem sides_mv (A : List Pt) (t : Pt) : plSides (mvL t A) = plSides A := by
  have e : mvL t A = A.map (aff 1 t.1 t.2) := List.map_congr_left fun p _ => by
    unfold padd aff; exact Prod.ext (by dsimp only; omega) (by dsimp only; omega)
  rw [e, plSides_aff]
  conv => rhs; rw [← List.map_id (plSides A)]
  refine List.map_congr_left fun p _ => ?_
  show mulP 1 p = p
  unfold mulP; exact Prod.ext (by dsimp only; omega) (by dsimp only; omega)
theorem rndA_mv {A : List Pt} {t : Pt} (hs : ∀ p ∈ A, PtP p) : RndA (mvL t A) ↔ Rnd A := by
  unfold RndA Rnd
  rw [sides_mv, mvL_ne, mvL_len]
  exact ⟨fun ⟨a, b, c, d⟩ => ⟨a, b, hs, c, d⟩, fun ⟨a, b, _, c, d⟩ => ⟨a, b, c, d⟩⟩
theorem mv_inj {p q t : Pt} : padd p t = padd q t ↔ p = q := by
  constructor
  · intro h
    unfold padd at h
    obtain ⟨h1, h2⟩ := Prod.mk.inj h
    exact Prod.ext (by omega) (by omega)
  · intro h; rw [h]
theorem lowest_mv (t : Pt) : ∀ (S : List Pt) (f : Pt), lowest (padd f t) (mvL t S) = padd (lowest f S) t
  | [], _ => rfl
  | q :: S, f => by
    have e : lowStep (padd f t) (padd q t) = padd (lowStep f q) t := by
      unfold lowStep padd
      dsimp only
      by_cases c : q.2 < f.2 ∨ (q.2 = f.2 ∧ q.1 < f.1)
      · rw [if_pos c, if_pos (by omega)]
      · rw [if_neg c, if_neg (by omega)]
    show lowest (lowStep (padd f t) (padd q t)) (mvL t S) = padd (lowest (lowStep f q) S) t
    rw [e]
    exact lowest_mv t S _
theorem stepB_mv (t h q : Pt) (b : Option Pt) : stepB (padd h t) (b.map fun p => padd p t) (padd q t) = (stepB h b q).map fun p => padd p t := by
  unfold stepB
  by_cases c : q = h
  · rw [if_pos c, if_pos (mv_inj.mpr c)]
  · rw [if_neg c, if_neg fun z => c (mv_inj.mp z)]
    cases b with
    | none => rfl
    | some b =>
      have s : ∀ p q : Pt, sizeP (padd p t) (padd q t) = sizeP p q := fun p q => by unfold sizeP; rw [mv_toV]
      simp only [Option.map_some, mv_toV, s]
      split <;> rfl
theorem nxt_mv (t h : Pt) (S : List Pt) : nxt (mvL t S) (padd h t) = (nxt S h).map fun p => padd p t := by
  have key : ∀ (S : List Pt) (b : Option Pt), (mvL t S).foldl (stepB (padd h t)) (b.map fun p => padd p t) = (S.foldl (stepB h) b).map fun p => padd p t := by
    intro S
    induction S with
    | nil => intro b; rfl
    | cons q S ih =>
      intro b
      show (mvL t S).foldl (stepB (padd h t)) (stepB (padd h t) (b.map fun p => padd p t) (padd q t)) = _
      rw [stepB_mv]
      exact ih _
  exact key S none
theorem hullGo_mv (t p0 : Pt) (S : List Pt) : ∀ (k : Nat) (h : Pt) (fs : List Pt), hullGo (mvL t S) (padd p0 t) k (padd h t) (mvL t fs) = mvL t (hullGo S p0 k h fs)
  | 0, _, _ => rfl
  | k + 1, h, fs => by
    rw [hullGo_succ, hullGo_succ, nxt_mv]
    cases nxt S h with
    | none => rfl
    | some b =>
      show (if padd b t = padd p0 t then mvL t fs else hullGo (mvL t S) (padd p0 t) k (padd b t) (mvL t fs ++ [padd b t])) = mvL t (if b = p0 then fs else hullGo S p0 k b (fs ++ [b]))
      by_cases c : b = p0
      · rw [if_pos c, if_pos (mv_inj.mpr c)]
      · rw [if_neg c, if_neg fun z => c (mv_inj.mp z)]
        rw [← hullGo_mv t p0 S k b (fs ++ [b])]
        congr 1
        unfold mvL; simp
theorem hull_mv (t f : Pt) (S : List Pt) : hullP (padd f t) (mvL t S) = mvL t (hullP f S) := by
  rw [hullP_eq, hullP_eq, lowest_mv, mvL_len]
  exact hullGo_mv t _ S _ _ [_]
theorem walkF_mv (ss : List Pt) (p t : Pt) : walkF (padd p t) ss = mvL t (walkF p ss) := by
  have w : ∀ (ss : List Pt) (p : Pt), walkT (padd p t) ss = (walkT p ss).map fun p => padd p t := by
    intro ss
    induction ss with
    | nil => intro p; rfl
    | cons s r ih =>
      intro p
      cases r with
      | nil => rfl
      | cons s2 r =>
        show padd (padd p t) s :: walkT (padd (padd p t) s) (s2 :: r) = padd (padd p s) t :: _
        have e2 : padd (padd p t) s = padd (padd p s) t := by rw [padd_assoc, padd_comm t s, ← padd_assoc]
        rw [e2, ih (padd p s)]
  unfold walkF mvL
  rw [List.map_cons, w]
theorem gt_mv {A : List Pt} {t : Pt} (h : A ≠ []) : gt (mvL t A) 0 = padd (gt A 0) t := gt_map (List.length_pos_iff.mpr h)
theorem padd4 (a b s t : Pt) : padd (padd a t) (padd b s) = padd (padd a b) (padd t s) := by unfold padd; exact Prod.ext (by dsimp only; omega) (by dsimp only; omega)
theorem sumP_mv {A B : List Pt} {t s : Pt} (ha : A ≠ []) (hb : B ≠ []) : sumP (mvL t A) (mvL s B) = mvL (padd t s) (sumP A B) := by
  unfold sumP
  rw [sides_mv, sides_mv, gt_mv ha, gt_mv hb, padd4, walkF_mv]
theorem sums_mv (A B : List Pt) (t s : Pt) : sums (mvL t A) (mvL s B) = mvL (padd t s) (sums A B) := by
  unfold sums mvL
  rw [List.flatMap_map, List.map_flatMap]
  refine congrArg (fun f => A.flatMap f) (funext fun a => ?_)
  rw [List.map_map, List.map_map]
  exact List.map_congr_left fun b _ => padd4 a b s t
theorem rest_mv {W P : List Pt} {t s : Pt} (hw : W ≠ []) (hp : P ≠ []) : restP (mvL t W) (mvL s P) = mvL (toV s t) (restP W P) := by
  unfold restP
  rw [sides_mv, sides_mv, gt_mv hw, gt_mv hp, ← walkF_mv]
  congr 1
  unfold toV padd; exact Prod.ext (by dsimp only; omega) (by dsimp only; omega)
/-- a shape is its own hull just if it is round -/
theorem self_iff {A : List Pt} {t f : Pt} (hA : A ≠ []) (hs : ∀ p ∈ A, PtP p) (hl : A.length ≤ 59) (hf : f ∈ A) : hullP (padd f t) (mvL t A) = mvL t A ↔ Rnd A := by
  rw [hull_mv]
  have inj : ∀ {A B : List Pt}, mvL t A = mvL t B → A = B := fun {A B} h => by
    unfold mvL at h
    exact List.map_inj_right (fun _ _ e => mv_inj.mp e) |>.mp h
  constructor
  · intro h
    have h2 := inj h
    have := (hull_shape hf hl hs).1
    rw [h2] at this
    exact this
  · intro h
    rw [hull_self h hf]
def isPtB : D → Bool
  | .tup [.int _, .int _] => true
  | _ => false
theorem isWhK {d : D} (h : isWhole d = true) : ∃ i, d = .int i := by
  cases d with
  | int i => exact ⟨i, rfl⟩
  | _ => cases h
theorem isPtB_ex {d : D} (h : isPtB d = true) : ∃ p, d = pt p := by
  unfold isPtB at h
  split at h
  · exact ⟨(_, _), rfl⟩
  · cases h
/-- one that can be asked about -/
def RX (X : D) : Prop := (∃ (A : List Pt) (t : Pt), X = .tup ((mvL t A).map pt) ∧ A.length ≤ 16 ∧ (∀ p ∈ A, SzN 200000 p) ∧ SzN (10 ^ 61) t) ∨ (∃ xs, X = .lst xs) ∨ X = .tup [.tup [.bl true, .int 0]]
theorem not_any {X : D} (h : (∃ xs, X = .lst xs) ∨ X = .tup [.tup [.bl true, .int 0]]) : ¬ IsAny X := by
  rintro ⟨ps, e, _⟩
  rcases h with ⟨xs, rfl⟩ | rfl
  · cases e
  · cases ps with
    | nil => cases e
    | cons a r =>
      have e1 := D.tup.inj e
      injection e1 with e2 _
      unfold pt at e2
      injection e2 with e3
      injection e3 with e4 _
      cases e4
theorem SzN.md' {n : Int} {p : Pt} (h : SzN n p) (hn : n ≤ 10 ^ 100) : MdP p := by
  obtain ⟨⟨a, b⟩, c, d⟩ := h
  have e : (10 : Nat) ^ 100 < 2 ^ 1000 := by decide +kernel
  exact ⟨by unfold Md; omega, by unfold Md; omega⟩
theorem mv_md {A : List Pt} {t : Pt} (h : ∀ p ∈ A, SzN 200000 p) (ht : SzN (10 ^ 61) t) : ∀ p ∈ mvL t A, MdP p := fun p m => by
  obtain ⟨q, mq, rfl⟩ := List.mem_map.mp m
  exact ((h q mq).add ht).md' (by decide)
theorem side_szS {ps : List Pt} {n : Int} (h : ∀ p ∈ ps, SzN n p) {s : Pt} (m : s ∈ plSides ps) : SzN (2 * n) s := by
  obtain ⟨a, b, ma, mb, rfl⟩ := plSides_mem m
  obtain ⟨⟨a1, a2⟩, a3, a4⟩ := h a ma
  obtain ⟨⟨b1, b2⟩, b3, b4⟩ := h b mb
  unfold toV SzN
  dsimp only
  omega

def S_Lis_whole : GS := fun ds0 Q _ => ∃ (d : D), ds0 = [d] ∧ (isO d = false) ∧ Q (.bl (isWhole d))
theorem M_Lis_whole : MonoP S_Lis_whole := fun _ _ _ _ _ hQ _ ⟨d, e9, p9, q9⟩ => ⟨d, e9, p9, hQ _ q9⟩
theorem Z_Lis_whole : ∀ ds Q E, S_Lis_whole ds Q E → ds.length = 1 := fun _ _ _ ⟨d, e9, _⟩ => by rw [e9]; rfl
theorem t_Lis_whole {d : D} {Q : D → Prop} {E : Exc → Prop} (p9 : isO d = false) (h9 : Q (.bl (isWhole d))) : S_Lis_whole [d] Q E := ⟨d, rfl, p9, h9⟩

def S_is_one_of : GS := fun ds0 Q _ => ∃ (d : D) (ws : List D), ds0 = [d, .tup ws] ∧ (d.flat 50 = true ∧ D.flatA 59 ws = true) ∧ Q (.bl (isS d && hasD ws d))
theorem M_is_one_of : MonoP S_is_one_of := fun _ _ _ _ _ hQ _ ⟨d, ws, e9, p9, q9⟩ => ⟨d, ws, e9, p9, hQ _ q9⟩
theorem Z_is_one_of : ∀ ds Q E, S_is_one_of ds Q E → ds.length = 2 := fun _ _ _ ⟨d, ws, e9, _⟩ => by rw [e9]; rfl
theorem t_is_one_of {d : D} {ws : List D} {Q : D → Prop} {E : Exc → Prop} (p9 : d.flat 50 = true ∧ D.flatA 59 ws = true) (h9 : Q (.bl (isS d && hasD ws d))) : S_is_one_of [d, .tup ws] Q E := ⟨d, ws, rfl, p9, h9⟩

def S_Lis_pair : GS := fun ds0 Q _ => ∃ (d : D), ds0 = [d] ∧ (d.flat 50 = true) ∧ Q (.bl (isPtB d))
theorem M_Lis_pair : MonoP S_Lis_pair := fun _ _ _ _ _ hQ _ ⟨d, e9, p9, q9⟩ => ⟨d, e9, p9, hQ _ q9⟩
theorem Z_Lis_pair : ∀ ds Q E, S_Lis_pair ds Q E → ds.length = 1 := fun _ _ _ ⟨d, e9, _⟩ => by rw [e9]; rfl
theorem t_Lis_pair {d : D} {Q : D → Prop} {E : Exc → Prop} (p9 : d.flat 50 = true) (h9 : Q (.bl (isPtB d))) : S_Lis_pair [d] Q E := ⟨d, rfl, p9, h9⟩

def S_is_direction : GS := fun ds0 Q _ => ∃ (d : D), ds0 = [d] ∧ (d.flat 50 = true) ∧ Q (.bl (isPtB d && !D.eq d (pt (0, 0))))
theorem M_is_direction : MonoP S_is_direction := fun _ _ _ _ _ hQ _ ⟨d, e9, p9, q9⟩ => ⟨d, e9, p9, hQ _ q9⟩
theorem Z_is_direction : ∀ ds Q E, S_is_direction ds Q E → ds.length = 1 := fun _ _ _ ⟨d, e9, _⟩ => by rw [e9]; rfl
theorem t_is_direction {d : D} {Q : D → Prop} {E : Exc → Prop} (p9 : d.flat 50 = true) (h9 : Q (.bl (isPtB d && !D.eq d (pt (0, 0))))) : S_is_direction [d] Q E := ⟨d, rfl, p9, h9⟩

def S_is_any_round : GS := fun ds0 Q _ => ∃ (X : D), ds0 = [X] ∧ (RX X) ∧ Q (.bl (dB (IsAny X)))
theorem M_is_any_round : MonoP S_is_any_round := fun _ _ _ _ _ hQ _ ⟨X, e9, p9, q9⟩ => ⟨X, e9, p9, hQ _ q9⟩
theorem Z_is_any_round : ∀ ds Q E, S_is_any_round ds Q E → ds.length = 1 := fun _ _ _ ⟨X, e9, _⟩ => by rw [e9]; rfl
theorem t_is_any_round {X : D} {Q : D → Prop} {E : Exc → Prop} (p9 : RX X) (h9 : Q (.bl (dB (IsAny X)))) : S_is_any_round [X] Q E := ⟨X, rfl, p9, h9⟩

def S_Lis_shape : GS := fun ds0 Q _ => ∃ (X : D), ds0 = [X] ∧ (RX X) ∧ Q (.bl (dB (IsAny X)))
theorem M_Lis_shape : MonoP S_Lis_shape := fun _ _ _ _ _ hQ _ ⟨X, e9, p9, q9⟩ => ⟨X, e9, p9, hQ _ q9⟩
theorem Z_Lis_shape : ∀ ds Q E, S_Lis_shape ds Q E → ds.length = 1 := fun _ _ _ ⟨X, e9, _⟩ => by rw [e9]; rfl
theorem t_Lis_shape {X : D} {Q : D → Prop} {E : Exc → Prop} (p9 : RX X) (h9 : Q (.bl (dB (IsAny X)))) : S_Lis_shape [X] Q E := ⟨X, rfl, p9, h9⟩

def S_plain_sum (f_slope_order : Addr) : GS := fun ds0 Q _ => ∃ (A B : List Pt), ds0 = [.tup (A.map pt), .tup (B.map pt)] ∧ ((RndA A ∧ ∀ s ∈ plSides A, SzN (2 * 10 ^ 60) s) ∧ Rnd B) ∧ Q (.tup ((sumP A B).map pt))
theorem M_plain_sum {f_slope_order : Addr} : MonoP (S_plain_sum f_slope_order) := fun _ _ _ _ _ hQ _ ⟨A, B, e9, p9, q9⟩ => ⟨A, B, e9, p9, hQ _ q9⟩
theorem Z_plain_sum {f_slope_order : Addr} : ∀ ds Q E, (S_plain_sum f_slope_order) ds Q E → ds.length = 2 := fun _ _ _ ⟨A, B, e9, _⟩ => by rw [e9]; rfl
theorem t_plain_sum {f_slope_order : Addr} {A B : List Pt} {Q : D → Prop} {E : Exc → Prop} (p9 : (RndA A ∧ ∀ s ∈ plSides A, SzN (2 * 10 ^ 60) s) ∧ Rnd B) (h9 : Q (.tup ((sumP A B).map pt))) : (S_plain_sum f_slope_order) [.tup (A.map pt), .tup (B.map pt)] Q E := ⟨A, B, rfl, p9, h9⟩

def S_Lsum_due : GS := fun ds0 Q _ => ∃ (A B : List Pt) (f : Pt), ds0 = [.tup (A.map pt), .tup (B.map pt)] ∧ ((sums A B).head? = some f ∧ (A.length ≤ 16 ∧ B.length ≤ 7) ∧ (∀ p ∈ sums A B, MdP p)) ∧ Q (.tup ((hullP f (sums A B)).map pt))
theorem M_Lsum_due : MonoP S_Lsum_due := fun _ _ _ _ _ hQ _ ⟨A, B, f, e9, p9, q9⟩ => ⟨A, B, f, e9, p9, hQ _ q9⟩
theorem Z_Lsum_due : ∀ ds Q E, S_Lsum_due ds Q E → ds.length = 2 := fun _ _ _ ⟨A, B, f, e9, _⟩ => by rw [e9]; rfl
theorem t_Lsum_due {A B : List Pt} {f : Pt} {Q : D → Prop} {E : Exc → Prop} (p9 : (sums A B).head? = some f ∧ (A.length ≤ 16 ∧ B.length ≤ 7) ∧ (∀ p ∈ sums A B, MdP p)) (h9 : Q (.tup ((hullP f (sums A B)).map pt))) : S_Lsum_due [.tup (A.map pt), .tup (B.map pt)] Q E := ⟨A, B, f, rfl, p9, h9⟩


/-! ### papers -/
def shortB (W P : List Pt) : D → D → D → Bool
  | .tup [.int a, .int b], .int l, .int h => (look (lenD (plSides P)) (pt (a, b))).isSome && decide (lenAt (plSides P) (a, b) = h) && decide (lenAt (plSides W) (a, b) = l) && decide (l < h)
  | _, _, _ => false
noncomputable def holdsB (W P : List Pt) : D → Bool
  | .tup [.str w, X] => decide (w = "rest") && dB (∃ ps : List Pt, X = .tup (ps.map pt) ∧ RndA ps ∧ sumP ps P = W)
  | .tup [.str w, U, L, H] => decide (w = "short") && shortB W P U L H
  | _ => false
def LO (L : D) : Prop := (∃ i, L = .int i) ∨ (∃ b, L = .bl b) ∨ ∃ s, L = .str s
def SdOk (U L H : D) : Prop := ((∃ u : Pt, U = pt u ∧ u ≠ (0, 0)) ∨ ∃ xs, U = .lst xs ∧ (D.lst xs).flat 49 = true) ∧ LO L ∧ LO H
def Junk (d : D) : Prop := d = .non ∨ (∃ xs, d = .lst xs) ∨ (∃ s, d = .str s) ∨ d = .dct [] ∨ (∃ xs, d = .tup xs ∧ xs.length ≠ 2 ∧ xs.length ≠ 4 ∧ xs.length ≤ 5) ∨ (∃ x X, d = .tup [x, X] ∧ (x = .int 1 ∨ x = .non)) ∨ ∃ x U L H, d = .tup [x, U, L, H] ∧ (x = .int 1 ∨ x = .non)
def PapOk (d : D) : Prop :=
  (∃ w X, d = .tup [.str w, X] ∧ (D.str w).flat 49 = true ∧ (w = "rest" → RX X)) ∨
  (∃ w U L H, d = .tup [.str w, U, L, H] ∧ (D.str w).flat 49 = true ∧ (w = "short" → SdOk U L H)) ∨ Junk d
theorem holds_len {W P : List Pt} {xs : List D} (h2 : xs.length ≠ 2) (h4 : xs.length ≠ 4) : holdsB W P (.tup xs) = false := by
  match xs, h2, h4 with
  | [], _, _ => rfl
  | [x], _, _ => cases x <;> rfl
  | [x, y, z], _, _ => cases x <;> rfl
  | x :: y :: z :: u :: v :: r, _, _ => cases x <;> rfl
theorem look_v {ss : List Pt} {b : Pt} {v : D} (h : look (lenD ss) (pt b) = some v) : v = .int (lenAt ss b) := by
  have := look_lenD ss b
  rw [h] at this
  exact this
theorem non_int (m : Int) : D.eq .non (.int m) = false := by
  unfold D.eq D.py; rfl
theorem hasD_one {w s : Str} : hasD [.str s] (.str w) = decide (w = s) := by
  show (D.eq (.str s) (.str w) || false) = _
  rw [D.eq_str, Bool.or_false]
  by_cases c : w = s
  · rw [decide_eq_true c, decide_eq_true c.symm]
  · rw [decide_eq_false c, decide_eq_false fun z => c z.symm]
theorem LO.noO {L : D} (h : LO L) : isO L = false := by
  rcases h with ⟨i, rfl⟩ | ⟨b, rfl⟩ | ⟨s, rfl⟩ <;> rfl

def S_accepts_rest (f_slope_order : Addr) : GS := fun ds0 Q _ => ∃ (W P : List Pt) (d : D), ds0 = [.tup (W.map pt), .tup (P.map pt), d] ∧ ((Rnd W ∧ Rnd P) ∧ PapOk d) ∧ Q (.bl (holdsB W P d))
theorem M_accepts_rest {f_slope_order : Addr} : MonoP (S_accepts_rest f_slope_order) := fun _ _ _ _ _ hQ _ ⟨W, P, d, e9, p9, q9⟩ => ⟨W, P, d, e9, p9, hQ _ q9⟩
theorem Z_accepts_rest {f_slope_order : Addr} : ∀ ds Q E, (S_accepts_rest f_slope_order) ds Q E → ds.length = 3 := fun _ _ _ ⟨W, P, d, e9, _⟩ => by rw [e9]; rfl
theorem t_accepts_rest {f_slope_order : Addr} {W P : List Pt} {d : D} {Q : D → Prop} {E : Exc → Prop} (p9 : (Rnd W ∧ Rnd P) ∧ PapOk d) (h9 : Q (.bl (holdsB W P d))) : (S_accepts_rest f_slope_order) [.tup (W.map pt), .tup (P.map pt), d] Q E := ⟨W, P, d, rfl, p9, h9⟩


theorem not24 {n : Nat} {P : D → Prop} (h : P (.bl (!(decide (n = 2) || decide (n = 4))))) : gIn true (.int n) (.lst [.int 2, .int 4]) P := by
  refine i_in rfl rfl ?_
  have e : (xor true (hasD [.int 2, .int 4] (.int (n : Int)))) = !(decide (n = 2) || decide (n = 4)) := by
    rw [show ([.int 2, .int 4] : List D) = [2, 4].map D.int from rfl, hasD_ints, Bool.true_xor]
    congr 1
    rw [Bool.eq_iff_iff]
    simp
    omega
  rw [e]
  exact h


theorem two24 {P : D → Prop} (h : P (.bl false)) : gIn true (.int (2 : Nat)) (.lst [.int 2, .int 4]) P := not24 (n := 2) h
theorem four24 {P : D → Prop} (h : P (.bl false)) : gIn true (.int (4 : Nat)) (.lst [.int 2, .int 4]) P := not24 (n := 4) h

def S_Lholds : GS := fun ds0 Q _ => ∃ (W P : List Pt) (d : D), ds0 = [.tup (W.map pt), .tup (P.map pt), d] ∧ (((Rnd W ∧ Rnd P) ∧ ∃ W0 P0 w s, (W = mvL w W0 ∧ P = mvL s P0) ∧ (Shp W0 100 14 ∧ Shp P0 4 7) ∧ SzN (10 ^ 60) s) ∧ PapOk d) ∧ Q (.bl (holdsB W P d))
theorem M_Lholds : MonoP S_Lholds := fun _ _ _ _ _ hQ _ ⟨W, P, d, e9, p9, q9⟩ => ⟨W, P, d, e9, p9, hQ _ q9⟩
theorem Z_Lholds : ∀ ds Q E, S_Lholds ds Q E → ds.length = 3 := fun _ _ _ ⟨W, P, d, e9, _⟩ => by rw [e9]; rfl
theorem t_Lholds {W P : List Pt} {d : D} {Q : D → Prop} {E : Exc → Prop} (p9 : ((Rnd W ∧ Rnd P) ∧ ∃ W0 P0 w s, (W = mvL w W0 ∧ P = mvL s P0) ∧ (Shp W0 100 14 ∧ Shp P0 4 7) ∧ SzN (10 ^ 60) s) ∧ PapOk d) (h9 : Q (.bl (holdsB W P d))) : S_Lholds [.tup (W.map pt), .tup (P.map pt), d] Q E := ⟨W, P, d, rfl, p9, h9⟩


/-- a told paper -/
def ToldP (d : D) : Prop := (∃ (A : List Pt) (t : Pt), d = .tup [.str "rest", .tup ((mvL t A).map pt)] ∧ Shp A 100000 14 ∧ SzN (3 * 10 ^ 60) t) ∨ ∃ (u : Pt) (l m : Int), d = .tup [.str "short", pt u, .int l, .int m] ∧ u ≠ (0, 0) ∧ SzN (10 ^ 9) u ∧ l.natAbs ≤ 10 ^ 9 ∧ m.natAbs ≤ 10 ^ 9
theorem restW {W0 P0 : List Pt} {w s : Pt} (sW : Shp W0 100 14) (sP : Shp P0 4 7) (hw : SzN (10 ^ 60) w) (hs : SzN (10 ^ 60) s) (h : Fits (plSides W0) (plSides P0)) : restP (mvL w W0) (mvL s P0) = mvL (toV s w) (restP W0 P0) ∧ Shp (restP W0 P0) 100000 14 ∧ SzN (3 * 10 ^ 60) (toV s w) := by
  refine ⟨rest_mv sW.r.1 sP.r.1, rest_shp sW sP h (by decide) (by decide) (by decide) (by decide), ?_⟩
  obtain ⟨⟨a1, a2⟩, a3, a4⟩ := hw
  obtain ⟨⟨b1, b2⟩, b3, b4⟩ := hs
  unfold toV SzN
  dsimp only
  omega
theorem side_sml {A : List Pt} {n : Int} {l : Nat} (h : Shp A n l) (hn : n ≤ 100) {s : Pt} (m : s ∈ plSides A) : bare s ≠ (0, 0) ∧ SzN (10 ^ 9) (bare s) ∧ (lenS s).natAbs ≤ 10 ^ 9 := by
  have hz := side_szS h.s m
  obtain ⟨⟨a1, a2⟩, a3, a4⟩ := hz
  have b := bare_bound (p := s)
  have l := lenS_bound (s := s)
  refine ⟨bareN (h.r.nz s m), ?_, by omega⟩
  unfold SzN
  omega
theorem lenAt_sml {A : List Pt} {n : Int} {l : Nat} (h : Shp A n l) (hn : n ≤ 100) (b : Pt) : (lenAt (plSides A) b).natAbs ≤ 10 ^ 9 := by
  by_cases c : 0 < lenAt (plSides A) b
  · obtain ⟨s, m, _, e⟩ := lenAt_pos h.r.nz c
    rw [e]
    exact (side_sml h hn m).2.2
  · have := lenAt_nonneg h.r.nz b
    omega
theorem firstD_cases (ws ps : List Pt) : (firstD ws ps = .non ∧ Fits ws ps) ∨ ∃ s ∈ ps, firstD ws ps = .tup [pt (bare s), .int (lenAt ws (bare s)), .int (lenS s)] := by
  by_cases c : Fits ws ps
  · exact .inl ⟨first_none.mpr c, c⟩
  · right
    unfold firstD
    cases e : ps.find? (fun s => decide (lenAt ws (bare s) < lenS s)) with
    | none => exact absurd (first_none.mp (by unfold firstD; rw [e])) c
    | some s => exact ⟨s, List.mem_of_find?_eq_some e, rfl⟩

def paperD (W P : List Pt) : D := match firstD (plSides W) (plSides P) with
  | .tup xs => .tup (.str "short" :: xs)
  | _ => .tup [.str "rest", .tup ((restP W P).map pt)]
def S_rest_paper : GS := fun ds0 Q _ => ∃ (W P : List Pt), ds0 = [.tup (W.map pt), .tup (P.map pt)] ∧ (Rnd W ∧ Rnd P) ∧ Q (paperD W P)
theorem M_rest_paper : MonoP S_rest_paper := fun _ _ _ _ _ hQ _ ⟨W, P, e9, p9, q9⟩ => ⟨W, P, e9, p9, hQ _ q9⟩
theorem Z_rest_paper : ∀ ds Q E, S_rest_paper ds Q E → ds.length = 2 := fun _ _ _ ⟨W, P, e9, _⟩ => by rw [e9]; rfl
theorem t_rest_paper {W P : List Pt} {Q : D → Prop} {E : Exc → Prop} (p9 : Rnd W ∧ Rnd P) (h9 : Q (paperD W P)) : S_rest_paper [.tup (W.map pt), .tup (P.map pt)] Q E := ⟨W, P, rfl, p9, h9⟩

def S_Lshorts : GS := fun ds0 Q _ => ∃ (W P : List Pt), ds0 = [.tup (W.map pt), .tup (P.map pt)] ∧ (Rnd W ∧ Rnd P) ∧ Q (.lst ((plSides P).map fun s => .tup [.str "short", pt (bare s), .int (lenAt (plSides W) (bare s)), .int (lenS s)]))
theorem M_Lshorts : MonoP S_Lshorts := fun _ _ _ _ _ hQ _ ⟨W, P, e9, p9, q9⟩ => ⟨W, P, e9, p9, hQ _ q9⟩
theorem Z_Lshorts : ∀ ds Q E, S_Lshorts ds Q E → ds.length = 2 := fun _ _ _ ⟨W, P, e9, _⟩ => by rw [e9]; rfl
theorem t_Lshorts {W P : List Pt} {Q : D → Prop} {E : Exc → Prop} (p9 : Rnd W ∧ Rnd P) (h9 : Q (.lst ((plSides P).map fun s => .tup [.str "short", pt (bare s), .int (lenAt (plSides W) (bare s)), .int (lenS s)]))) : S_Lshorts [.tup (W.map pt), .tup (P.map pt)] Q E := ⟨W, P, rfl, p9, h9⟩


theorem mv_zero (A : List Pt) : mvL (0, 0) A = A := by
  unfold mvL
  rw [List.map_congr_left (g := id) fun p _ => padd_zero p, List.map_id]
theorem rx_of {ds : List D} {t : Pt} (hl : ds.length ≤ 16) (ht : SzN (10 ^ 61) t) (h : ∀ y ∈ ds, ∃ p : Pt, y = pt (padd p t) ∧ SzN 200000 p) : RX (.tup ds) := by
  obtain ⟨A, e, hA⟩ := all_mem (f := fun p : Pt => pt (padd p t)) h
  refine .inl ⟨A, t, ?_, ?_, hA, ht⟩
  · rw [e]; unfold mvL; rw [List.map_map]; rfl
  · rw [e, List.length_map] at hl; exact hl
theorem rx_told {A : List Pt} {t : Pt} (h : Shp A 100000 14) (ht : SzN (3 * 10 ^ 60) t) : ∀ y ∈ (mvL t A).map pt, ∃ p : Pt, y = pt (padd p t) ∧ SzN 200000 p := fun y m => by
  obtain ⟨q, mq, rfl⟩ := List.mem_map.mp m
  obtain ⟨p, mp, rfl⟩ := List.mem_map.mp mq
  exact ⟨p, rfl, (h.s p mp).le (by decide)⟩
theorem cut_memD {xs : List D} {lo hi : Option Int} {y : D} (h : y ∈ cut xs lo hi) : y ∈ xs := List.mem_of_mem_drop (List.mem_of_mem_take h)
theorem cut_lenD (xs : List D) (lo hi : Option Int) : (cut xs lo hi).length ≤ xs.length := by
  unfold cut; rw [List.length_take, List.length_drop]; omega
theorem rx_rest {X : D} {A : List Pt} {t : Pt} (e : X = .tup ((mvL t A).map pt)) (h : Shp A 100000 14) (ht : SzN (3 * 10 ^ 60) t) : RX X := by
  rw [e]
  exact rx_of (by rw [List.length_map, mvL_len]; have := h.l; omega) (ht.le (by decide)) (rx_told h ht)

def S_Lbent : GO := fun xs0 ds0 Q _ => ∃ (a b : Int) (d : D) (W P : List Pt), xs0 = [.int a, .int b] ∧ ds0 = [d, .tup (W.map pt), .tup (P.map pt)] ∧ (SrcOk a b ∧ ToldP d ∧ RX (.tup (W.map pt)) ∧ RX (.tup (P.map pt))) ∧ ∀ (v : D) (a2 b2 : Int), (PapOk v ∧ SrcOk a2 b2) → Q v [.int a2, .int b2]
theorem M_Lbent : MonoO S_Lbent := fun _ _ _ _ _ _ hQ _ ⟨a, b, d, W, P, e19, e29, p9, q9⟩ => ⟨a, b, d, W, P, e19, e29, p9, fun v a2 b2 c9 => hQ _ _ (q9 v a2 b2 c9)⟩
theorem Z_Lbent : ∀ xs ds Q E, S_Lbent xs ds Q E → ds.length + 1 = 4 := fun _ _ _ _ ⟨a, b, d, W, P, e19, e29, _⟩ => by rw [e29]; rfl
theorem t_Lbent {a b : Int} {d : D} {W P : List Pt} {Q : D → List D → Prop} {E : Exc → Prop} (p9 : SrcOk a b ∧ ToldP d ∧ RX (.tup (W.map pt)) ∧ RX (.tup (P.map pt))) (h9 : ∀ (v : D) (a2 b2 : Int), (PapOk v ∧ SrcOk a2 b2) → Q v [.int a2, .int b2]) : S_Lbent [.int a, .int b] [d, .tup (W.map pt), .tup (P.map pt)] Q E := ⟨a, b, d, W, P, rfl, rfl, p9, h9⟩


theorem rnd_mvK {A : List Pt} {t : Pt} {n : Int} {l : Nat} (h : Shp A n l) (ht : ∀ p ∈ A, PtP (padd p t)) : Rnd (mvL t A) := by
  refine ⟨mvL_ne.mpr h.r.1, by rw [mvL_len]; exact h.r.2.1, fun p m => ?_, ?_, ?_⟩
  · obtain ⟨q, mq, rfl⟩ := List.mem_map.mp m
    exact ht q mq
  · rw [sides_mv]; exact h.r.2.2.2.1
  · rw [sides_mv]; exact h.r.2.2.2.2
theorem told_ok {d : D} (h : ToldP d) : PapOk d := by
  have fS : (D.str "short").flat 49 = true ∧ (D.str "rest").flat 49 = true := by decide +kernel
  rcases h with ⟨A, t, rfl, hA, ht⟩ | ⟨u, l, m, rfl, u0, hu, hl, hm⟩
  · exact .inl ⟨_, _, rfl, fS.2, fun _ => rx_rest rfl hA ht⟩
  · exact .inr (.inl ⟨_, _, _, _, rfl, fS.1, fun _ => ⟨.inl ⟨u, rfl, u0⟩, .inl ⟨_, rfl⟩, .inl ⟨_, rfl⟩⟩⟩)
theorem rp_short {b : Pt} {l m : Int} (h : SzN (10 ^ 9) b) (hl : l.natAbs ≤ 10 ^ 9) (hm : m.natAbs ≤ 10 ^ 9) : Rp 60 100000 (.tup [.str "short", pt b, .int l, .int m]) := by
  obtain ⟨⟨a1, a2⟩, a3, a4⟩ := h
  have e : (10 : Nat) ^ 9 < 2 ^ 300 := by decide +kernel
  have i1 : ∀ {k : Nat} {x : Int}, x.natAbs ≤ 10 ^ 9 → Rp k 301 (.int x) := fun {k x} hx => Rp.ints (Nat.lt_of_le_of_lt hx e)
  have r1 : Rp 3 1000 (pt b) := by
    have r : Rp 3 (([.int b.1, .int b.2] : List D).length * (301 + 2) + 3) (pt b) := Rp.tup (k := 2) fun d md => by
      simp only [List.mem_cons, List.not_mem_nil, or_false] at md
      rcases md with rfl | rfl
      · exact i1 (by omega)
      · exact i1 (by omega)
    exact r.le (show 2 * (301 + 2) + 3 ≤ 1000 by decide)
  have r0 : Rp 3 1000 (.str "short") := Rp.str (by decide +kernel) (by decide +kernel) (by decide +kernel)
  have r : Rp 4 (([.str "short", pt b, .int l, .int m] : List D).length * (1000 + 2) + 3) (.tup [.str "short", pt b, .int l, .int m]) := Rp.tup (k := 3) fun d md => by
    simp only [List.mem_cons, List.not_mem_nil, or_false] at md
    rcases md with rfl | rfl | rfl | rfl
    · exact r0
    · exact r1
    · exact (i1 hl).le (by decide)
    · exact (i1 hm).le (by decide)
  exact (r.up (by decide)).le (show 4 * (1000 + 2) + 3 ≤ 100000 by decide)
def S_law : GS := lawS 63
theorem Z_law : ∀ ds Q E, S_law ds Q E → ds.length = 1 := fun _ _ _ ⟨_, e9, _⟩ => by rw [e9]; rfl


def g_Lpool_r1 : Ws :=
    (dSeq (dSet 3 (dCall gMax2 (dCons (dCall gInt (dCons (dVar 2) dNil)) (dCons (dCall gInt (dCons (dOp cSub (dNeg (dC (.int 1))) (dVar 2)) dNil)) dNil))))
    (dSeq (dSet 4 (dOp cMod (dCall gInt (dCons (dOp gMul (dOp gAdd (dOp gAdd (dOp gAdd (dOp cMod (dCall gInt (dCons (dVar 3) dNil)) (dC (.int 2147483629))) (dOp gMul (dOp gMul (dC (.int 7919)) (dVar 1)) (dVar 1))) (dOp gMul (dC (.int 31)) (dVar 1))) (dC (.int 17))) (dC (.int 48271))) dNil)) (dC (.int 2147483647))))
    (dRetL (nLst (dCons (dOp gMul (dVar 3) (dCall gInt (dCons (dOp cGe (dVar 3) (dOp cPow (dC (.int 10)) (dC (.int 18)))) dNil))) (dCons (dVar 4) dNil))))))
def g_Lpool : Ws :=
    (dSeq (dSet 2 (dC (.int 0)))
    (dSeq (dIfS (dTest (dOp cLt (dVar 1) (dCall gLen (dCons (dVar 0) dNil)))) (dSet 2 (dOp gIx (dVar 0) (dVar 1))) dSkip)
    g_Lpool_r1))
abbrev N_Lpool : List Str := ["_law_script", "_law_k", "_law_cell", "_law_big", "_law_mixed"]
theorem W_Lpool : ∀ ds Q E, S_Lpool ds Q E → g_Lpool (env0 N_Lpool ds) (endN Q E) := by
  rintro _ Q E ⟨ns, k, rfl, hp, h⟩
  show g_Lpool [some (.fz (.ro (ns.map D.int))), some (.fz (.int k)), none, none, none] (endN Q E)
  unfold g_Lpool
  obtain ⟨hl, hk⟩ := hp
  have hk9 : ∀ x : Int, MulOk x k := fun x => .inr (.inr (by omega))
  walk_at "d"
  refine Ite.dec (fun c => ?_) (fun c => ?_)
  · simp only [List.length_map] at c
    have hk2 : k < ns.length := by omega
    walk_at "d"
    refine i_ixR (y := .int ns[k]) (atI_nat (by rw [List.getElem?_map, List.getElem?_eq_getElem hk2] <;> rfl)) ?_
    walk_at "d"
    unfold g_Lpool_r1
    walk_at "d"
    refine i_mulI (hk9 _) ?_
    walk_at "d"
    refine i_mulI (.inr (.inr bool_small)) ?_
    walk_at "d"
    exact h _ _ (pool_ok _ _ _ rfl)
  · walk_at "d"
    unfold g_Lpool_r1
    walk_at "d"
    refine i_mulI (hk9 _) ?_
    walk_at "d"
    exact h _ _ (pool_ok 0 _ _ rfl)

def g_Ltake : Ws :=
    (dSeq (dIfS (dTest (dOp cGt (dIxO 0 (dC (.int 0))) (dC (.int 0)))) (dSeq (dSet 2 (dOp cMod (dCall gInt (dCons (dIxO 0 (dC (.int 0))) dNil)) (dVar 1)))
    (dSeq (dSetI 0 (dC (.int 0)) (dOp cDiv (dIxO 0 (dC (.int 0))) (dVar 1)))
    (dRet (dVar 2)))) dSkip)
    (dSeq (dSetI 0 (dC (.int 1)) (dOp cMod (dCall gInt (dCons (dOp gAdd (dOp gMul (dIxO 0 (dC (.int 1))) (dC (.int 39373))) (dC (.int 7))) dNil)) (dC (.int 2147483647))))
    (dRet (dOp cMod (dCall gInt (dCons (dOp cDiv (dOp cMod (dCall gInt (dCons (dOp gMul (dIxO 0 (dC (.int 1))) (dIxO 0 (dC (.int 1)))) dNil)) (dC (.int 2147483629))) (dC (.int 32))) dNil)) (dVar 1)))))
abbrev N_Ltake : List Str := ["_law_source", "_law_top", "_law_drawn"]
theorem W_Ltake : ∀ a xs ds Q E, S_Ltake xs ds Q E → g_Ltake (envO N_Ltake a xs ds) (endO a Q E) := by
  rintro ad _ _ Q E ⟨a, b, n, rfl, rfl, hp, h⟩
  show g_Ltake [some (.own ad [.int a, .int b]), some (.fz (.int n)), none] (endO ad Q E)
  unfold g_Ltake
  obtain ⟨⟨h1, h2, h3⟩, h4, h5⟩ := hp
  walk_at "d"
  refine Ite.dec (fun c => ?_) (fun c => ?_)
  · walk_at "d"
    refine i_div (.of (by omega) h5) ?_
    walk_at "d"
    exact h _ _ _ ⟨⟨Int.fmod_nonneg_of_pos _ h4, Int.fmod_lt_of_pos _ h4⟩, Int.fdiv_nonneg h1 (by omega), h2, h3⟩
  · walk_at "d"
    refine i_mulI (.inr (.inr ?_)) ?_
    · have h6 := Int.fmod_nonneg_of_pos (b * 39373 + 7) (b := 2147483647) (by decide)
      have h7 := Int.fmod_lt_of_pos (b * 39373 + 7) (b := 2147483647) (by decide)
      omega
    walk_at "d"
    exact h _ _ _ ⟨⟨Int.fmod_nonneg_of_pos _ h4, Int.fmod_lt_of_pos _ h4⟩, h1, Int.fmod_nonneg_of_pos _ (by decide), Int.fmod_lt_of_pos _ (by decide)⟩

def g_Lone : Ws :=
    (dRet (dOp gIx (dVar 1) (dCallOw 0 S_Ltake (dCons (dCall gLen (dCons (dVar 1) dNil)) dNil))))
abbrev N_Lone : List Str := ["_law_source", "_law_things"]
theorem W_Lone : ∀ a xs ds Q E, S_Lone xs ds Q E → g_Lone (envO N_Lone a xs ds) (endO a Q E) := by
  rintro ad _ _ Q E ⟨a, b, xs, d0, rfl, rfl, hp, h⟩
  show g_Lone [some (.own ad [.int a, .int b]), some (.fz (d0))] (endO ad Q E)
  unfold g_Lone
  obtain ⟨hd, h1, h2, h3⟩ := hp
  rcases hd with rfl | rfl
  · walk_at "d"
    refine t_Ltake ⟨h1, by omega, ?_⟩ ?_
    · refine Nat.lt_of_le_of_lt (m := 1000) (by omega) (by decide +kernel)
    rintro r a2 b2 ⟨⟨q1, q2⟩, q3⟩
    walk_at "d"
    obtain ⟨d, e1, e2⟩ := atI_mem q1 q2
    refine i_ixL e1 ?_
    walk_at "d"
    exact h _ _ _ ⟨e2, q3⟩
  walk_at "d"
  refine t_Ltake ⟨h1, by omega, ?_⟩ ?_
  · refine Nat.lt_of_le_of_lt (m := 1000) (by omega) (by decide +kernel)
  rintro r a2 b2 ⟨⟨q1, q2⟩, q3⟩
  walk_at "d"
  obtain ⟨d, e1, e2⟩ := atI_mem q1 q2
  refine i_ixT e1 ?_
  walk_at "d"
  exact h _ _ _ ⟨e2, q3⟩

def g_Ladd : Ws :=
    (dRet (dTup (dCons (dOp gAdd (dOp gIx (dVar 0) (dC (.int 0))) (dOp gIx (dVar 1) (dC (.int 0)))) (dCons (dOp gAdd (dOp gIx (dVar 0) (dC (.int 1))) (dOp gIx (dVar 1) (dC (.int 1)))) dNil))))
abbrev N_Ladd : List Str := ["_law_one_here", "_law_other"]
theorem W_Ladd : ∀ ds Q E, S_Ladd ds Q E → g_Ladd (env0 N_Ladd ds) (endP Q E) := by
  rintro _ Q E ⟨p, q, rfl, hp, h⟩
  show g_Ladd [some (.fz (pt p)), some (.fz (pt q))] (endP Q E)
  unfold g_Ladd
  walk_at "d"
  exact h

def g_Lmoved : Ws :=
    (dRet (dCall gTupC (dCons (dNw (nLc (iItems (dVar 0)) (gN 2) tAll (dCallP S_Ladd (dCons (dVar 2) (dCons (dVar 1) dNil))) [2])) dNil)))
abbrev N_Lmoved : List Str := ["_law_shape", "_law_t", "_law_point_here"]
theorem W_Lmoved : ∀ ds Q E, S_Lmoved ds Q E → g_Lmoved (env0 N_Lmoved ds) (endP Q E) := by
  rintro _ Q E ⟨A, t, rfl, hp, h⟩
  show g_Lmoved [some (.fz (.tup (A.map pt))), some (.fz (pt t)), none] (endP Q E)
  unfold g_Lmoved
  walk_at "d"
  refine ⟨sizeL (by rw [List.length_map]; omega), ?_⟩
  refine lcL_of (f := fun p => pt (padd p t)) (fun p m P hP => ?_) ?_
  · walk_at "d"
    refine t_Ladd trivial ?_
    exact hP _ rfl
  walk_at "d"
  rw [List.map_map] at h
  exact h

def g_Llowest_b1 : Ws :=
    (dIfS (dTest (dOp gLtT (dTup (dCons (dOp gIx (dVar 2) (dC (.int 1))) (dCons (dOp gIx (dVar 2) (dC (.int 0))) dNil))) (dTup (dCons (dOp gIx (dVar 1) (dC (.int 1))) (dCons (dOp gIx (dVar 1) (dC (.int 0))) dNil))))) (dSet 1 (dVar 2)) dSkip)
def g_Llowest_r1 : Ws :=
    (dRet (dVar 1))
def g_Llowest : Ws :=
    (dSeq (dSet 1 (dOp gIx (dVar 0) (dC (.int 0))))
    (dSeq (dFor (iItems (dVar 0)) (gN 2) g_Llowest_b1)
    g_Llowest_r1))
abbrev N_Llowest : List Str := ["_law_points_here", "_law_found", "_law_one_here"]
theorem W_Llowest : ∀ ds Q E, S_Llowest ds Q E → g_Llowest (env0 N_Llowest ds) (endP Q E) := by
  rintro _ Q E ⟨S, f, rfl, hp, h⟩
  show g_Llowest [some (.fz (.lst (S.map pt))), none, none] (endP Q E)
  unfold g_Llowest
  obtain ⟨T, rfl⟩ : ∃ T, S = f :: T := by
    cases S with
    | nil => cases hp
    | cons a T => cases hp; exact ⟨T, rfl⟩
  walk_at "d"
  refine forL_inv (fun ds ρ => ∃ (T' : List Pt) (g : Pt) (a2 : Option Sv), ds = T'.map pt ∧ lowest g T' = lowest f (f :: T) ∧ ρ = [some (.fz (.lst ((f :: T).map pt))), some (.fz (pt g)), a2]) ?_ ?_ ⟨f :: T, f, _, rfl, rfl, rfl⟩
  · rintro _ ⟨T', g, a2, h1, h2, rfl⟩
    unfold g_Llowest_r1
    cases T' with
    | cons _ _ => cases h1
    | nil =>
      walk_at "d"
      rw [← h2] at h
      exact h
  · rintro d ds _ ⟨T', g, a2, h1, h2, rfl⟩ K hK
    cases T' with
    | nil => cases h1
    | cons q T' =>
      obtain ⟨rfl, rfl⟩ := List.cons.inj h1
      walk_at "d"
      unfold g_Llowest_b1
      walk_at "d"
      refine ⟨[q.2, q.1], [g.2, g.1], rfl, rfl, ?_⟩
      walk_at "d"
      rw [lexLt2]
      have h3 : lowest (lowStep g q) T' = lowest f (f :: T) := h2
      unfold lowStep at h3
      refine Ite.dec (fun c => ?_) (fun c => ?_)
      · rw [if_pos c] at h3
        walk_at "d"
        exact hK _ ⟨T', q, _, rfl, h3, rfl⟩
      · rw [if_neg c] at h3
        walk_at "d"
        exact hK _ ⟨T', g, _, rfl, h3, rfl⟩

def g_Lcross : Ws :=
    (dRet (dOp cSub (dOp gMul (dOp gIx (dVar 0) (dC (.int 0))) (dOp gIx (dVar 1) (dC (.int 1)))) (dOp gMul (dOp gIx (dVar 0) (dC (.int 1))) (dOp gIx (dVar 1) (dC (.int 0))))))
abbrev N_Lcross : List Str := ["_law_one_here", "_law_other"]
theorem W_Lcross : ∀ ds Q E, S_Lcross ds Q E → g_Lcross (env0 N_Lcross ds) (endP Q E) := by
  rintro _ Q E ⟨p, q, rfl, hp, h⟩
  show g_Lcross [some (.fz (pt p)), some (.fz (pt q))] (endP Q E)
  unfold g_Lcross
  obtain ⟨⟨h1, h2⟩, h3, h4⟩ := hp
  walk_at "d"
  refine i_mulI (h1.mul h4) ?_
  walk_at "d"
  refine i_mulI (h2.mul h3) ?_
  walk_at "d"
  exact h

def g_Lto : Ws :=
    (dRet (dTup (dCons (dOp cSub (dOp gIx (dVar 1) (dC (.int 0))) (dOp gIx (dVar 0) (dC (.int 0)))) (dCons (dOp cSub (dOp gIx (dVar 1) (dC (.int 1))) (dOp gIx (dVar 0) (dC (.int 1)))) dNil))))
abbrev N_Lto : List Str := ["_law_one_here", "_law_other"]
theorem W_Lto : ∀ ds Q E, S_Lto ds Q E → g_Lto (env0 N_Lto ds) (endP Q E) := by
  rintro _ Q E ⟨p, q, rfl, hp, h⟩
  show g_Lto [some (.fz (pt p)), some (.fz (pt q))] (endP Q E)
  unfold g_Lto
  walk_at "d"
  exact h

def g_Ldot : Ws :=
    (dRet (dOp gAdd (dOp gMul (dOp gIx (dVar 0) (dC (.int 0))) (dOp gIx (dVar 1) (dC (.int 0)))) (dOp gMul (dOp gIx (dVar 0) (dC (.int 1))) (dOp gIx (dVar 1) (dC (.int 1))))))
abbrev N_Ldot : List Str := ["_law_one_here", "_law_other"]
theorem W_Ldot : ∀ ds Q E, S_Ldot ds Q E → g_Ldot (env0 N_Ldot ds) (endP Q E) := by
  rintro _ Q E ⟨p, q, rfl, hp, h⟩
  show g_Ldot [some (.fz (pt p)), some (.fz (pt q))] (endP Q E)
  unfold g_Ldot
  obtain ⟨⟨h1, h2⟩, h3, h4⟩ := hp
  walk_at "d"
  refine i_mulI (h1.mul h3) ?_
  walk_at "d"
  refine i_mulI (h2.mul h4) ?_
  walk_at "d"
  exact h

def g_Lsize : Ws :=
    (dSeq (dSet 2 (dCallP S_Lto (dCons (dVar 0) (dCons (dVar 1) dNil))))
    (dRet (dCallP S_Ldot (dCons (dVar 2) (dCons (dVar 2) dNil)))))
abbrev N_Lsize : List Str := ["_law_one_here", "_law_other", "_law_way"]
theorem W_Lsize : ∀ ds Q E, S_Lsize ds Q E → g_Lsize (env0 N_Lsize ds) (endP Q E) := by
  rintro _ Q E ⟨p, q, rfl, hp, h⟩
  show g_Lsize [some (.fz (pt p)), some (.fz (pt q)), none] (endP Q E)
  unfold g_Lsize
  walk_at "d"
  refine t_Lto trivial ?_
  walk_at "d"
  refine t_Ldot ⟨hp.1.toV hp.2, hp.1.toV hp.2⟩ ?_
  exact h

def g_Lhull_r1 : Ws :=
    (dSet 5 (dIf (dTest (dOp cGt (dVar 6) (dC (.int 0)))) (dVar 3) (dVar 5)))
def g_Lhull_r2 : Ws :=
    (dSeq (dIfS (dAnd (dTest (dOp gEq (dVar 6) (dC (.int 0)))) (dTest (dOp cGt (dCallP S_Lsize (dCons (dVar 4) (dCons (dVar 3) dNil))) (dCallP S_Lsize (dCons (dVar 4) (dCons (dVar 5) dNil)))))) (dSet 6 (dC (.int 1))) dSkip)
    g_Lhull_r1)
def g_Lhull_b1 : Ws :=
    (dIfS (dTest (dOp gNe (dVar 3) (dVar 4))) (dSeq (dSet 6 (dC (.int 1)))
    (dSeq (dIfS (dTest (dOp (gIsN true) (dVar 5) (dC .non))) (dSet 6 (dCallP S_Lcross (dCons (dCallP S_Lto (dCons (dVar 4) (dCons (dVar 3) dNil))) (dCons (dCallP S_Lto (dCons (dVar 4) (dCons (dVar 5) dNil))) dNil)))) dSkip)
    g_Lhull_r2)) dSkip)
def g_Lhull_r3 : Ws :=
    (dSeq (dIfS (dOr (dTest (dOp (gIsN false) (dVar 5) (dC .non))) (dTest (dOp gEq (dVar 5) (dIxO 1 (dC (.int 0)))))) (dRet (dTupO 1)) dSkip)
    (dExpr (dMt 1 gApp (dCons (dVar 5) dNil))))
def g_Lhull_b2 : Ws :=
    (dSeq (dPar2 4 5 (mE (dIxO 1 (dNeg (dC (.int 1)))) (mE (dC .non) mNil)))
    (dSeq (dFor (iItems (dVar 0)) (gN 3) g_Lhull_b1)
    g_Lhull_r3))
def g_Lhull_r4 : Ws :=
    (dRet (dTupO 1))
def g_Lhull : Ws :=
    (dSeq (dNew 1 (nLst (dCons (dCallP S_Llowest (dCons (dVar 0) dNil)) dNil)))
    (dSeq (dFor (iR1 (dCons (dCall gLen (dCons (dVar 0) dNil)) dNil)) (gN 2) g_Lhull_b2)
    g_Lhull_r4))
abbrev N_Lhull : List Str := ["_law_points_here", "_law_found", "_law_turn", "_law_one_here", "_law_here", "_law_best", "_law_side"]
theorem W_Lhull : ∀ ds Q E, S_Lhull ds Q E → g_Lhull (env0 N_Lhull ds) (endP Q E) := by
  rintro _ Q E ⟨S, f, rfl, hp, h⟩
  show g_Lhull [some (.fz (.lst (S.map pt))), none, none, none, none, none, none] (endP Q E)
  unfold g_Lhull
  obtain ⟨hf, hm, hl⟩ := hp
  walk_at "d"
  refine t_Llowest hf ?_
  walk_at "d"
  intro q
  walk_at "d"
  rw [List.length_map]
  refine i_range1 ⟨by omega, by omega⟩ ?_
  have h0 : lowest f S ∈ S := by
    rcases (lowest_ok S f).1 with z | z
    · rw [z]
      cases S with
      | nil => cases hf
      | cons a T => cases hf; exact List.mem_cons_self
    · exact z
  refine forL_inv (fun ds ρ => ∃ (g : Pt) (fs : List Pt) (q : Addr) (a2 a3 a4 a5 a6 : Option Sv), fs[0]? = some (lowest f S) ∧ fs[fs.length - 1]? = some g ∧ (∀ p ∈ fs, p ∈ S) ∧ fs.length + ds.length ≤ 401 ∧ hullGo S (lowest f S) ds.length g fs = hullP f S ∧
      ρ = [some (.fz (.lst (S.map pt))), some (.own q (fs.map pt)), a2, a3, a4, a5, a6]) ?_ ?_ ⟨lowest f S, [lowest f S], q, _, _, _, _, _, rfl, rfl, fun p hp => by rw [List.mem_singleton.mp hp]; exact h0, by rw [range_len]; simp; omega, by rw [range_len, hullP_eq]; simp, rfl⟩
  · rintro _ ⟨g, fs, q, a2, a3, a4, a5, a6, h1, h2, h3, h4, h5, rfl⟩
    unfold g_Lhull_r4
    walk_at "d"
    have e : fs = hullP f S := h5
    rw [e]
    exact h
  · rintro d ds _ ⟨g, fs, q, a2, a3, a4, a5, a6, h1, h2, h3, h4, h5, rfl⟩ K hK
    have hg : g ∈ S := h3 g (List.mem_of_getElem? h2)
    walk_at "d"
    unfold g_Lhull_b2
    walk_at "d"
    refine i_ixO2 rfl (atI_last (by rw [List.length_map, List.getElem?_map, h2]; rfl)) ?_
    walk_at "d"
    refine forL_inv (fun ds ρ => ∃ (T : List Pt) (best : Option Pt) (a3 a6 : Option Sv), ds = T.map pt ∧ (∀ p ∈ T, p ∈ S) ∧ (∀ b, best = some b → b ∈ S) ∧ T.foldl (stepB g) best = nxt S g ∧
        ρ = [some (.fz (.lst (S.map pt))), some (.own q (fs.map pt)), some (.fz d), a3, some (.fz (pt g)), some (.fz (optD best)), a6]) ?_ ?_ ⟨S, none, _, _, rfl, fun _ z => z, (fun _ z => by cases z), rfl, rfl⟩
    · rintro _ ⟨T, best, a3, a6, e1, _, hb, e2, rfl⟩
      have et : T = [] := by cases T with | nil => rfl | cons _ _ => cases e1
      subst et
      have e3 : best = nxt S g := e2
      unfold g_Lhull_r3
      rw [List.length_cons, hullGo_succ, ← e3] at h5
      cases best with
      | none =>
        walk_at "d"
        refine i_isN (fun v z => by cases z) ?_
        walk_at "d"
        refine Ite.tt ?_
        walk_at "d"
        have e4 : fs = hullP f S := h5
        rw [e4]
        exact h
      | some b =>
        have hb' := hb b rfl
        walk_at "d"
        refine i_isN (fun v z => by cases z) ?_
        walk_at "d"
        refine Ite.ff ?_
        walk_at "d"
        refine i_ixO2 rfl (show atI (fs.map pt) 0 = some (pt (lowest f S)) from atI_nat (j := 0) (by rw [List.getElem?_map, h1]; rfl)) ?_
        walk_at "d"
        show Ite ((pt b).eq (pt (lowest f S))) _ _
        rw [D.eq_pt]
        walk_at "d"
        refine Ite.dec (fun c => ?_) (fun c => ?_)
        · walk_at "d"
          have e4 : fs = hullP f S := by
            dsimp only at h5
            rw [if_pos c] at h5; exact h5
          rw [e4]
          exact h
        · walk_at "d"
          refine i_app (by rw [List.length_map]; simp only [List.length_cons] at h4; exact sizeL' (by omega)) ?_
          walk_at "d"
          dsimp only at h5
          rw [if_neg c] at h5
          have key : ∀ a2 a3 a4 a5 a6 : Option Sv, K [some (.fz (.lst (S.map pt))), some (.own q ((fs ++ [b]).map pt)), a2, a3, a4, a5, a6] := fun a2 a3 a4 a5 a6 =>
            hK _ ⟨b, fs ++ [b], q, a2, a3, a4, a5, a6, by rw [List.getElem?_append_left (by have := (List.getElem?_eq_some_iff.mp h1).1; omega)]; exact h1, by rw [List.length_append, List.length_singleton, Nat.add_sub_cancel, List.getElem?_append_right (Nat.le_refl _)]; simp, fun p hp => by
              rcases List.mem_append.mp hp with z | z
              · exact h3 p z
              · rw [List.mem_singleton.mp z]; exact hb', by rw [List.length_append, List.length_singleton]; simp only [List.length_cons] at h4; omega, h5, rfl⟩
          have em : (fs ++ [b]).map pt = fs.map pt ++ [pt b] := by rw [List.map_append]; rfl
          rw [em] at key
          exact key _ _ _ _ _
    · rintro _ _ _ ⟨T, best, a3, a6, e1, hT, hb, e2, rfl⟩ K2 hK2
      cases T with
      | nil => cases e1
      | cons p T =>
        obtain ⟨rfl, rfl⟩ := List.cons.inj e1
        have hp := hT p List.mem_cons_self
        have hT' : ∀ r ∈ T, r ∈ S := fun r hr => hT r (List.mem_cons_of_mem _ hr)
        rw [List.foldl_cons] at e2
        have fin : ∀ (b' : Option Pt) (a3 a6 : Option Sv), stepB g best p = b' → K2 [some (.fz (.lst (S.map pt))), some (.own q (fs.map pt)), some (.fz d), a3, some (.fz (pt g)), some (.fz (optD b')), a6] := fun b' a3 a6 e => by
          refine hK2 _ ⟨T, b', a3, a6, rfl, hT', fun b z => ?_, by rw [← e]; exact e2, rfl⟩
          rw [← e] at z
          exact stepB_mem hp hb b z
        walk_at "d"
        unfold g_Lhull_b1
        walk_at "d"
        show Ite (!(pt p).eq (pt g)) _ _
        rw [D.eq_pt]
        by_cases c : p = g
        · rw [decide_eq_true c]
          walk_at "d"
          exact fin best _ _ (if_pos c)
        · rw [decide_eq_false c]
          walk_at "d"
          cases best with
          | none =>
            refine i_isN (fun v z => by cases z) ?_
            walk_at "d"
            refine Ite.ff ?_
            walk_at "d"
            unfold g_Lhull_r2
            walk_at "d"
            rw [D.eq_int, decide_eq_false (by decide)]
            walk_at "d"
            unfold g_Lhull_r1
            walk_at "d"
            rw [decide_eq_true (show (0 : Int) < 1 by decide)]
            walk_at "d"
            exact fin (some p) _ _ (if_neg c)
          | some b =>
            have hb' := hb b rfl
            refine i_isN (fun v z => by cases z) ?_
            walk_at "d"
            refine Ite.tt ?_
            walk_at "d"
            refine t_Lto (p := g) (q := p) trivial ?_
            walk_at "d"
            refine t_Lto (p := g) (q := b) trivial ?_
            walk_at "d"
            refine t_Lcross ⟨(hm g hg).toV (hm p hp), (hm g hg).toV (hm b hb')⟩ ?_
            walk_at "d"
            unfold g_Lhull_r2
            walk_at "d"
            rw [D.eq_int]
            have fin1 : ∀ (side : Int) (ρ : Env), (0 < side ↔ (0 < crs (toV g p) (toV g b) ∨ (crs (toV g p) (toV g b) = 0 ∧ sizeP g b < sizeP g p))) →
                ρ = [some (.fz (.lst (S.map pt))), some (.own q (fs.map pt)), some (.fz d), some (.fz (pt p)), some (.fz (pt g)), some (.fz (pt b)), some (.fz (.int side))] → ∀ bk : Env → Prop, g_Lhull_r1 ρ ⟨K2, fun d _ => Q d, bk, K2, fun x _ => E x, fun _ _ => False⟩ := by
              rintro side _ hs rfl bk
              unfold g_Lhull_r1
              walk_at "d"
              refine Ite.dec (fun s => ?_) (fun s => ?_)
              · walk_at "d"
                exact fin (some p) _ _ ((if_neg c).trans (if_pos (hs.mp s)))
              · walk_at "d"
                exact fin (some b) _ _ ((if_neg c).trans (if_neg (fun z => s (hs.mpr z))))
            refine Ite.dec (fun s => ?_) (fun s => ?_)
            · walk_at "d"
              refine t_Lsize ⟨hm g hg, hm p hp⟩ ?_
              walk_at "d"
              refine t_Lsize ⟨hm g hg, hm b hb'⟩ ?_
              walk_at "d"
              refine Ite.dec (fun s2 => ?_) (fun s2 => ?_)
              · walk_at "d"
                exact fin1 1 _ (by omega) rfl _
              · exact fin1 _ _ (by omega) rfl _
            · walk_at "d"
              exact fin1 _ _ (by omega) rfl _

def g_Lpoint : Ws :=
    (dRet (dTup (dCons (dOp cSub (dCallOw 0 S_Ltake (dCons (dOp gAdd (dOp gMul (dC (.int 2)) (dVar 1)) (dC (.int 1))) dNil)) (dVar 1)) (dCons (dOp cSub (dCallOw 0 S_Ltake (dCons (dOp gAdd (dOp gMul (dC (.int 2)) (dVar 1)) (dC (.int 1))) dNil)) (dVar 1)) dNil))))
abbrev N_Lpoint : List Str := ["_law_source", "_law_size_here"]
theorem W_Lpoint : ∀ a xs ds Q E, S_Lpoint xs ds Q E → g_Lpoint (envO N_Lpoint a xs ds) (endO a Q E) := by
  rintro ad _ _ Q E ⟨a, b, n, rfl, rfl, hp, h⟩
  show g_Lpoint [some (.own ad [.int a, .int b]), some (.fz (.int n))] (endO ad Q E)
  unfold g_Lpoint
  obtain ⟨hs, n0, n1⟩ := hp
  have sm : (2 * n + 1).natAbs < 2 ^ 8000 := Nat.lt_of_le_of_lt (show (2 * n + 1).natAbs ≤ 300 by omega) (by decide +kernel)
  walk_at "d"
  refine t_Ltake ⟨hs, by omega, sm⟩ ?_
  rintro x a2 b2 ⟨hx, h2⟩
  walk_at "d"
  refine t_Ltake ⟨h2, by omega, sm⟩ ?_
  rintro y a3 b3 ⟨hy, h3⟩
  walk_at "d"
  exact h (x - n, y - n) _ _ ⟨⟨⟨by omega, by omega⟩, by omega, by omega⟩, h3⟩

def g_Lpoints : Ws :=
    (dRet (dNw (nLc (iR1 (dCons (dVar 1) dNil)) (gN 3) tAll (dCallOw 0 S_Lpoint (dCons (dVar 2) dNil)) [3])))
abbrev N_Lpoints : List Str := ["_law_source", "_law_many", "_law_size_here", "_law_turn"]
theorem W_Lpoints : ∀ a xs ds Q E, S_Lpoints xs ds Q E → g_Lpoints (envO N_Lpoints a xs ds) (endO a Q E) := by
  rintro ad _ _ Q E ⟨a, b, m, n, rfl, rfl, hp, h⟩
  show g_Lpoints [some (.own ad [.int a, .int b]), some (.fz (.int m)), some (.fz (.int n)), none] (endO ad Q E)
  unfold g_Lpoints
  obtain ⟨hs, hn, m0, m1⟩ := hp
  walk_at "d"
  refine i_range1 (by constructor <;> omega) ?_
  refine ⟨sizeL (by rw [range_len]; omega), ?_⟩
  refine lcL_inv (fun ds acc ρ => ∃ (vs : List Pt) (a b : Int), acc = vs.map pt ∧ (∀ v ∈ vs, SzN n v) ∧ vs.length + ds.length = m.toNat ∧ SrcOk a b ∧ ρ = [some (.own ad [.int a, .int b]), some (.fz (.int m)), some (.fz (.int n)), none]) ?_ ?_ ⟨[], a, b, rfl, by simp, by rw [range_len]; simp, hs, rfl⟩
  · rintro _ _ ⟨vs, a, b, rfl, hv, hl, hs, rfl⟩
    walk_at "d"
    exact h _ _ _ ⟨hv, by simpa using hl, hs⟩
  · rintro d ds _ _ ⟨vs, a, b, rfl, hv, hl, hs, rfl⟩ K hK
    walk_at "d"
    refine t_Lpoint ⟨hs, hn⟩ ?_
    rintro v a2 b2 ⟨h1, h2⟩
    walk_at "d"
    refine hK _ _ ⟨vs ++ [v], a2, b2, by simp, ?_, by simp at hl ⊢; omega, h2, rfl⟩
    intro u hu
    rcases List.mem_append.mp hu with z | z
    · exact hv u z
    · rw [List.mem_singleton.mp z]; exact h1

def g_Lround : Ws :=
    (dRet (dCallP S_Lhull (dCons (dCallOw 0 S_Lpoints (dCons (dCallOw 0 S_Lone (dCons (dNw (nLst (dCons (dC (.int 1)) (dCons (dC (.int 2)) (dCons (dC (.int 3)) (dCons (dC (.int 3)) (dCons (dC (.int 4)) (dCons (dC (.int 5)) (dCons (dC (.int 6)) dNil))))))))) dNil)) (dCons (dVar 1) dNil))) dNil)))
abbrev N_Lround : List Str := ["_law_source", "_law_size_here"]
theorem W_Lround : ∀ a xs ds Q E, S_Lround xs ds Q E → g_Lround (envO N_Lround a xs ds) (endO a Q E) := by
  rintro ad _ _ Q E ⟨a, b, n, rfl, rfl, hp, h⟩
  show g_Lround [some (.own ad [.int a, .int b]), some (.fz (.int n))] (endO ad Q E)
  unfold g_Lround
  obtain ⟨hs, hn⟩ := hp
  walk_at "d"
  refine t_Lone ⟨.inl rfl, hs, by decide, by decide⟩ ?_
  rintro d a2 b2 ⟨hd, h2⟩
  obtain ⟨m, rfl, hm⟩ : ∃ m, d = .int m ∧ 1 ≤ m ∧ m ≤ 6 := by
    simp only [List.mem_cons, List.not_mem_nil, or_false] at hd
    rcases hd with rfl | rfl | rfl | rfl | rfl | rfl | rfl <;> exact ⟨_, rfl, by decide, by decide⟩
  walk_at "d"
  refine t_Lpoints ⟨h2, hn, by omega, by omega⟩ ?_
  rintro vs a3 b3 ⟨hv, hl, h3⟩
  walk_at "d"
  obtain ⟨f, r, rfl⟩ : ∃ f r, vs = f :: r := by
    cases vs with
    | nil => simp at hl; omega
    | cons f r => exact ⟨f, r, rfl⟩
  refine t_Lhull (f := f) ⟨rfl, fun p m => (hv p m).md hn.2, by omega⟩ ?_
  walk_at "d"
  exact h _ f _ _ ⟨⟨by simp, by omega, hv⟩, h3⟩

def g_Lsum_due_b1 : Ws :=
    (dSet 2 (dOp gAdd (dVar 2) (dNw (nLc (iItems (dVar 1)) (gN 4) tAll (dCallP S_Ladd (dCons (dVar 3) (dCons (dVar 4) dNil))) [4]))))
def g_Lsum_due_r1 : Ws :=
    (dRet (dCallP S_Lhull (dCons (dVar 2) dNil)))
def g_Lsum_due : Ws :=
    (dSeq (dSet 2 (dNw (nLst dNil)))
    (dSeq (dFor (iItems (dVar 0)) (gN 3) g_Lsum_due_b1)
    g_Lsum_due_r1))
abbrev N_Lsum_due : List Str := ["_law_shape", "_law_other", "_law_points_here", "_law_a", "_law_b"]
theorem W_Lsum_due : ∀ ds Q E, S_Lsum_due ds Q E → g_Lsum_due (env0 N_Lsum_due ds) (endP Q E) := by
  rintro _ Q E ⟨A, B, f, rfl, hp, h⟩
  show g_Lsum_due [some (.fz (.tup (A.map pt))), some (.fz (.tup (B.map pt))), none, none, none] (endP Q E)
  unfold g_Lsum_due
  obtain ⟨hf, ⟨l1, l2⟩, hm⟩ := hp
  walk_at "d"
  refine forL_list (I := fun done ρ => ∃ (a3 a4 : Option Sv), ρ = [some (.fz (.tup (A.map pt))), some (.fz (.tup (B.map pt))), some (.fz (.lst ((sums done B).map pt))), a3, a4]) ?_ ?_ ⟨_, _, rfl⟩
  · rintro _ ⟨a3, a4, rfl⟩
    unfold g_Lsum_due_r1
    walk_at "d"
    refine t_Lhull ⟨hf, hm, ?_⟩ ?_
    · rw [sums_len]
      have := Nat.mul_le_mul l1 l2
      omega
    exact h
  · rintro done v rest _ e ⟨a3, a4, rfl⟩ K hK
    have key : ∀ a a4, K [some (.fz (.tup (A.map pt))), some (.fz (.tup (B.map pt))), some (.fz (.lst ((sums (done ++ [v]) B).map pt))), a, a4] := fun a a4 => hK _ ⟨a, a4, rfl⟩
    rw [sums_snoc, List.map_append, List.map_map] at key
    unfold g_Lsum_due_b1
    walk_at "d"
    refine ⟨sizeL (by rw [List.length_map]; omega), ?_⟩
    refine lcL_of (f := fun p => pt (padd v p)) (fun p m P hP => ?_) ?_
    · walk_at "d"
      refine t_Ladd trivial ?_
      exact hP _ rfl
    walk_at "d"
    have dl : done.length ≤ 16 := by
      have := congrArg List.length e
      simp at this; omega
    have sl : (sums done B).length ≤ 112 := by
      rw [sums_len]
      exact Nat.mul_le_mul dl l2
    refine i_addL (sizeL (by rw [List.nil_append, List.length_map, List.length_map]; omega)) ?_
    walk_at "d"
    exact key _ _

def g_vector_between : Ws :=
    (dRet (dTup (dCons (dOp cSub (dOp gIx (dVar 1) (dC (.int 0))) (dOp gIx (dVar 0) (dC (.int 0)))) (dCons (dOp cSub (dOp gIx (dVar 1) (dC (.int 1))) (dOp gIx (dVar 0) (dC (.int 1)))) dNil))))
abbrev N_vector_between : List Str := ["one", "other"]
theorem W_vector_between : ∀ ds Q E, S_vector_between ds Q E → g_vector_between (env0 N_vector_between ds) (endP Q E) := by
  rintro _ Q E ⟨p, q, rfl, hp, h⟩
  show g_vector_between [some (.fz (pt p)), some (.fz (pt q))] (endP Q E)
  unfold g_vector_between
  walk_at "d"
  exact h

def g_plain_sides : Ws :=
    (dSeq (dIfS (dTest (dOp gEq (dCall gLen (dCons (dVar 0) dNil)) (dC (.int 1)))) (dRet (dNw (nLst dNil))) dSkip)
    (dRet (dNw (nLc (iZipD (dCons (dVar 0) (dCons (dTup (dStar (dCut (dVar 0) (oSome (dC (.int 1))) oNone) (dCons (dOp gIx (dVar 0) (dC (.int 0))) dNil))) dNil))) (gT 2 (gsCons (gN 1) (gsCons (gN 2) gsNil))) tAll (dCallP S_vector_between (dCons (dVar 1) (dCons (dVar 2) dNil))) [1, 2]))))
abbrev N_plain_sides : List Str := ["corners", "one", "other"]
theorem W_plain_sides : ∀ ds Q E, S_plain_sides ds Q E → g_plain_sides (env0 N_plain_sides ds) (endP Q E) := by
  rintro _ Q E ⟨ps, rfl, hp, h⟩
  show g_plain_sides [some (.fz (.tup (ps.map pt))), none, none] (endP Q E)
  unfold g_plain_sides
  obtain ⟨hn, hl⟩ := hp
  walk_at "d"
  rw [List.length_map, D.eq_int]
  match ps, hn with
  | [p], _ =>
    rw [decide_eq_true (show (([p].length : Nat) : Int) = 1 from rfl)]
    walk_at "d"
    exact h
  | p0 :: q :: t, _ =>
    rw [decide_eq_false (by simp only [List.length_cons]; omega)]
    walk_at "d"
    have e : cut ((p0 :: q :: t).map pt) (some 1) none ++ [pt p0] = ((q :: t) ++ [p0]).map pt := by rw [cut_dropM (j := 1) 1 rfl]; simp
    have l2 : t.length ≤ 58 := by simp only [List.length_cons] at hl; omega
    refine ⟨by rw [e]; exact sizeL (by simp; omega), ?_⟩
    walk_at "d"
    refine ⟨_, _, rfl, _, _, .inl ⟨rfl, rfl⟩, ?_⟩
    rw [e, zipD_map]
    refine ⟨sizeL (by rw [List.length_map, List.length_zip]; simp; omega), ?_⟩
    refine lcL_of (f := fun p => pt (toV p.1 p.2)) (fun p hp P hP => ?_) ?_
    · walk_at "d"
      refine t_vector_between trivial ?_
      exact hP _ rfl
    · have e2 : plSides (p0 :: q :: t) = sds p0 p0 (q :: t) := rfl
      rw [e2, ← zip_sds, List.map_map] at h
      exact h

def g_is_upper : Ws :=
    (dRet (dOrV (dOp cGt (dOp gIx (dVar 0) (dC (.int 1))) (dC (.int 0))) (dAndV (dOp gEq (dOp gIx (dVar 0) (dC (.int 1))) (dC (.int 0))) (dOp cGt (dOp gIx (dVar 0) (dC (.int 0))) (dC (.int 0))))))
abbrev N_is_upper : List Str := ["vector"]
theorem W_is_upper : ∀ ds Q E, S_is_upper ds Q E → g_is_upper (env0 N_is_upper ds) (endP Q E) := by
  rintro _ Q E ⟨p, rfl, hp, h⟩
  show g_is_upper [some (.fz (pt p))] (endP Q E)
  unfold g_is_upper
  walk_at "d"
  unfold upp at h
  refine Ite.dec (fun c => ?_) (fun c => ?_)
  · rw [decide_eq_true c, Bool.true_or] at h; exact h
  · walk_at "d"
    rw [D.eq_int]
    rw [decide_eq_false c, Bool.false_or] at h
    refine Ite.dec (fun c => ?_) (fun c => ?_)
    · walk_at "d"
      rw [decide_eq_true c, Bool.true_and] at h
      exact h
    · rw [decide_eq_false c, Bool.false_and] at h
      exact h

def g_sign_of : Ws :=
    (dRet (dIf (dTest (dOp cGt (dVar 0) (dC (.int 0)))) (dC (.int 1)) (dIf (dTest (dOp cLt (dVar 0) (dC (.int 0)))) (dNeg (dC (.int 1))) (dC (.int 0)))))
abbrev N_sign_of : List Str := ["number"]
theorem W_sign_of : ∀ ds Q E, S_sign_of ds Q E → g_sign_of (env0 N_sign_of ds) (endP Q E) := by
  rintro _ Q E ⟨n, rfl, hp, h⟩
  show g_sign_of [some (.fz (.int n))] (endP Q E)
  unfold g_sign_of
  walk_at "d"
  unfold sgn at h
  refine Ite.dec (fun c => ?_) (fun c => ?_)
  · walk_at "d"; rw [if_pos c] at h; exact h
  · walk_at "d"
    rw [if_neg c] at h
    refine Ite.dec (fun c2 => ?_) (fun c2 => ?_)
    · walk_at "d"; rw [if_pos c2] at h; exact h
    · walk_at "d"; rw [if_neg c2] at h; exact h

def g_cross_of : Ws :=
    (dRet (dOp cSub (dOp gMul (dOp gIx (dVar 0) (dC (.int 0))) (dOp gIx (dVar 1) (dC (.int 1)))) (dOp gMul (dOp gIx (dVar 0) (dC (.int 1))) (dOp gIx (dVar 1) (dC (.int 0))))))
abbrev N_cross_of : List Str := ["one", "other"]
theorem W_cross_of : ∀ ds Q E, S_cross_of ds Q E → g_cross_of (env0 N_cross_of ds) (endP Q E) := by
  rintro _ Q E ⟨p, q, rfl, hp, h⟩
  show g_cross_of [some (.fz (pt p)), some (.fz (pt q))] (endP Q E)
  unfold g_cross_of
  obtain ⟨⟨h1, h2⟩, h3, h4⟩ := hp
  walk_at "d"
  refine i_mulI (h1.mul h4) ?_
  walk_at "d"
  refine i_mulI (h2.mul h3) ?_
  walk_at "d"
  exact h

def g_slope_order : Ws :=
    (dSeq (dIfS (dTest (dOp gNe (dCallP S_is_upper (dCons (dVar 0) dNil)) (dCallP S_is_upper (dCons (dVar 1) dNil)))) (dRet (dIf (dTest (dCallP S_is_upper (dCons (dVar 0) dNil))) (dNeg (dC (.int 1))) (dC (.int 1)))) dSkip)
    (dRet (dNeg (dCallP S_sign_of (dCons (dCallP S_cross_of (dCons (dVar 0) (dCons (dVar 1) dNil))) dNil)))))
abbrev N_slope_order : List Str := ["one", "other"]
theorem W_slope_order : ∀ ds Q E, S_slope_order ds Q E → g_slope_order (env0 N_slope_order ds) (endP Q E) := by
  rintro _ Q E ⟨p, q, rfl, hp, h⟩
  show g_slope_order [some (.fz (pt p)), some (.fz (pt q))] (endP Q E)
  unfold g_slope_order
  walk_at "d"
  refine t_is_upper trivial ?_
  walk_at "d"
  refine t_is_upper trivial ?_
  walk_at "d"
  rw [D.eq_bl]
  unfold slope at h
  refine Ite.by (fun c => ?_) (fun c => ?_)
  · have c' : upp p ≠ upp q := by simpa using c
    rw [if_pos c'] at h
    walk_at "d"
    refine t_is_upper trivial ?_
    walk_at "d"
    refine Ite.by (fun c => ?_) (fun c => ?_)
    · walk_at "d"; rw [if_pos c] at h; exact h
    · walk_at "d"; rw [if_neg (by rw [c]; decide)] at h; exact h
  · have c' : ¬ upp p ≠ upp q := by simpa using c
    rw [if_neg c'] at h
    walk_at "d"
    refine t_cross_of hp ?_
    walk_at "d"
    refine t_sign_of trivial ?_
    walk_at "d"
    exact h

def g_rises : Ws :=
    (dRet (dCall gAll (dCons (dNw (nLc (iZipD (dCons (dVar 0) (dCons (dCut (dVar 0) (oSome (dC (.int 1))) oNone) dNil))) (gT 2 (gsCons (gN 1) (gsCons (gN 2) gsNil))) tAll (dOp cLt (dCallP S_slope_order (dCons (dVar 1) (dCons (dVar 2) dNil))) (dC (.int 0))) [1, 2])) dNil)))
abbrev N_rises : List Str := ["vectors", "one", "other"]
theorem W_rises : ∀ ds Q E, S_rises ds Q E → g_rises (env0 N_rises ds) (endP Q E) := by
  rintro _ Q E ⟨ss, rfl, hp, h⟩
  show g_rises [some (.fz (.lst (ss.map pt))), none, none] (endP Q E)
  unfold g_rises
  obtain ⟨hs, hl⟩ := hp
  walk_at "d"
  refine ⟨_, _, rfl, _, _, .inr ⟨rfl, rfl⟩, ?_⟩
  rw [cut_dropM (j := 1) 1 rfl, zipD_map]
  refine ⟨sizeL (by rw [List.length_map, List.length_zip]; omega), ?_⟩
  refine lcL_of (f := fun p => D.bl (decide (slope p.1 p.2 < 0))) (fun p hp P hP => ?_) ?_
  · obtain ⟨m1, m2⟩ := List.of_mem_zip hp
    walk_at "d"
    refine t_slope_order ⟨hs _ m1, hs _ (List.mem_of_mem_drop m2)⟩ ?_
    walk_at "d"
    exact hP _ rfl
  · refine ⟨(ss.zip (ss.drop 1)).map fun p => decide (slope p.1 p.2 < 0), by simp [Function.comp_def], ?_⟩
    rw [List.all_map]
    show Q (.bl ((ss.zip (ss.drop 1)).all fun p => decide (slope p.1 p.2 < 0)))
    rw [rises_not]
    exact h

def g_is_tuple_of : Ws :=
    (dRet (dAndV (dIsi isT (dVar 0)) (dOp gEq (dCall gLen (dCons (dVar 0) dNil)) (dVar 1))))
abbrev N_is_tuple_of : List Str := ["value", "many"]
theorem W_is_tuple_of : ∀ ds Q E, S_is_tuple_of ds Q E → g_is_tuple_of (env0 N_is_tuple_of ds) (endP Q E) := by
  rintro _ Q E ⟨d, n, rfl, hp, h⟩
  show g_is_tuple_of [some (.fz (d)), some (.fz (.int n))] (endP Q E)
  unfold g_is_tuple_of
  walk_at "d"
  cases d with
  | tup xs =>
    refine Ite.tt ?_
    walk_at "d"
    rw [D.eq_int]
    exact h
  | ob v => cases hp
  | _ => refine Ite.ff ?_; exact h

def g_is_whole : Ws :=
    (dRet (dAndV (dIsi isI (dVar 0)) (dNotV (dIsi isB (dVar 0)))))
abbrev N_is_whole : List Str := ["value"]
theorem W_is_whole : ∀ ds Q E, S_is_whole ds Q E → g_is_whole (env0 N_is_whole ds) (endP Q E) := by
  rintro _ Q E ⟨d, rfl, hp, h⟩
  show g_is_whole [some (.fz (d))] (endP Q E)
  unfold g_is_whole
  walk_at "d"
  cases d with
  | int i => refine Ite.tt ?_; walk_at "d"; exact h
  | bl b => refine Ite.tt ?_; walk_at "d"; exact h
  | ob v => cases hp
  | _ => refine Ite.ff ?_; exact h

def g_is_number : Ws :=
    (dRet (dAndV (dCallP S_is_whole (dCons (dVar 0) dNil)) (dChain cLe cLe (dVar 1) (dVar 0) (dVar 2))))
abbrev N_is_number : List Str := ["value", "low", "high"]
theorem W_is_number : ∀ ds Q E, S_is_number ds Q E → g_is_number (env0 N_is_number ds) (endP Q E) := by
  rintro _ Q E ⟨d, a, b, rfl, hp, h⟩
  show g_is_number [some (.fz (d)), some (.fz (.int a)), some (.fz (.int b))] (endP Q E)
  unfold g_is_number
  walk_at "d"
  refine t_is_whole hp ?_
  walk_at "d"
  cases d with
  | int i =>
    refine Ite.tt ?_
    walk_at "d"
    refine Ite.by (fun c => ?_) (fun c => ?_)
    · walk_at "d"; simp only [numIn, c, Bool.true_and] at h; exact h
    · simp only [numIn, c, Bool.false_and] at h; exact h
  | _ => refine Ite.ff ?_; exact h

def g_is_pair_within : Ws :=
    (dRet (dAndV (dCallP S_is_tuple_of (dCons (dVar 0) (dCons (dC (.int 2)) dNil))) (dAndV (dCallP S_is_number (dCons (dOp gIx (dVar 0) (dC (.int 0))) (dCons (dNeg (dVar 1)) (dCons (dVar 1) dNil)))) (dCallP S_is_number (dCons (dOp gIx (dVar 0) (dC (.int 1))) (dCons (dNeg (dVar 1)) (dCons (dVar 1) dNil)))))))
abbrev N_is_pair_within : List Str := ["value", "most"]
theorem W_is_pair_within : ∀ ds Q E, S_is_pair_within ds Q E → g_is_pair_within (env0 N_is_pair_within ds) (endP Q E) := by
  rintro _ Q E ⟨d, m, rfl, hp, h⟩
  show g_is_pair_within [some (.fz (d)), some (.fz (.int m))] (endP Q E)
  unfold g_is_pair_within
  walk_at "d"
  have hO : isO d = false := by cases d <;> first | rfl | cases hp
  refine t_is_tuple_of hO ?_
  walk_at "d"
  refine Ite.by (fun c => ?_) (fun c => ?_)
  · obtain ⟨x, y, rfl⟩ := tupN_two c
    have hx : isO x = false ∧ isO y = false := by simpa [okP, noO] using hp
    walk_at "d"
    refine t_is_number hx.1 ?_
    walk_at "d"
    refine Ite.by (fun c => ?_) (fun c => ?_)
    · walk_at "d"
      refine t_is_number hx.2 ?_
      walk_at "d"
      simp only [pairIn, c, Bool.true_and] at h
      exact h
    · simp only [pairIn, c, Bool.false_and] at h
      exact h
  · have e : pairIn m d = false := tupN_twoF c
    rw [e] at h
    exact h

def g_is_point : Ws :=
    (dRet (dCallP S_is_pair_within (dCons (dVar 0) (dCons (dC C_MOST_POINT) dNil))))
abbrev N_is_point : List Str := ["value"]
theorem W_is_point : ∀ ds Q E, S_is_point ds Q E → g_is_point (env0 N_is_point ds) (endP Q E) := by
  rintro _ Q E ⟨d, rfl, hp, h⟩
  show g_is_point [some (.fz (d))] (endP Q E)
  unfold g_is_point
  walk_at "d"
  refine t_is_pair_within hp ?_
  exact h

def g_is_round : Ws :=
    (dSeq (dIfS (dOr (dNot (dTest (dIsi isT (dVar 0)))) (dOr (dNot (dTest (dChain cLe cLe (dC (.int 1)) (dCall gLen (dCons (dVar 0) dNil)) (dC C_MOST_CORNERS)))) (dNot (dTest (dCall gAll (dCons (dNw (nLc (iItems (dVar 0)) (gN 2) tAll (dCallP S_is_point (dCons (dVar 2) dNil)) [2])) dNil)))))) (dRet (dC (.bl false))) dSkip)
    (dSeq (dSet 1 (dCallP S_plain_sides (dCons (dVar 0) dNil)))
    (dRet (dAndV (dNotV (dCall gAny (dCons (dNw (nLc (iItems (dVar 1)) (gN 3) tAll (dOp gEq (dVar 3) (dTup (dCons (dC (.int 0)) (dCons (dC (.int 0)) dNil)))) [3])) dNil))) (dCallP S_rises (dCons (dVar 1) dNil))))))
abbrev N_is_round : List Str := ["value", "sides", "one", "side"]
theorem W_is_round : ∀ ds Q E, S_is_round ds Q E → g_is_round (env0 N_is_round ds) (endP Q E) := by
  rintro _ Q E ⟨ps, rfl, hp, h⟩
  show g_is_round [some (.fz (.tup (ps.map pt))), none, none, none] (endP Q E)
  unfold g_is_round
  obtain ⟨h1, h2, h3, h4, h5⟩ := hp
  have pos : 0 < ps.length := List.length_pos_iff.mpr h1
  have hs : (plSides ps).length ≤ 60 := Nat.le_trans plSides_len h2
  walk_at "d"
  refine Ite.ff ?_
  walk_at "d"
  rw [List.length_map]
  rw [decide_eq_true (show (1 : Int) ≤ ps.length by omega)]
  walk_at "d"
  rw [decide_eq_true (show ((ps.length : Nat) : Int) ≤ 60 by omega)]
  walk_at "d"
  refine ⟨sizeL (by rw [List.length_map]; omega), ?_⟩
  refine lcL_of (f := fun _ => D.bl true) (fun p hp P hP => ?_) ?_
  · walk_at "d"
    refine t_is_point rfl ?_
    rw [(h3 p hp).is]
    exact hP _ rfl
  walk_at "d"
  refine ⟨ps.map fun _ => true, by simp [Function.comp_def], ?_⟩
  rw [show ((ps.map fun _ => true).all fun b => b) = true by simp]
  walk_at "d"
  refine t_plain_sides ⟨h1, h2⟩ ?_
  walk_at "d"
  refine ⟨sizeL (by rw [List.length_map]; omega), ?_⟩
  refine lcL_of (f := fun _ => D.bl false) (fun s hs P hP => ?_) ?_
  · walk_at "d"
    rw [D.eq_pr]
    have c : (decide (s.1 = 0) && decide (s.2 = 0)) = false := by
      have := h4 s hs
      rw [Bool.eq_false_iff]
      intro z
      rw [Bool.and_eq_true, decide_eq_true_eq, decide_eq_true_eq] at z
      exact this (Prod.ext z.1 z.2)
    rw [c]
    exact hP _ rfl
  walk_at "d"
  refine ⟨(plSides ps).map fun _ => false, by simp [Function.comp_def], ?_⟩
  rw [show (((plSides ps).map fun _ => false).any fun b => b) = false by simp]
  walk_at "d"
  refine t_rises ⟨fun s m => side_sm h3 m, hs⟩ ?_
  rw [dB_t h5]
  exact h

def g_check_shape : Ws :=
    (dIfS (dNot (dTest (dCallP S_is_round (dCons (dVar 0) dNil)))) dNever dSkip)
abbrev N_check_shape : List Str := ["shape"]
theorem W_check_shape : ∀ ds Q E, S_check_shape ds Q E → g_check_shape (env0 N_check_shape ds) (endP Q E) := by
  rintro _ Q E ⟨ps, rfl, hp, h⟩
  show g_check_shape [some (.fz (.tup (ps.map pt)))] (endP Q E)
  unfold g_check_shape
  walk_at "d"
  refine t_is_round hp ?_
  walk_at "d"
  exact h

def g_check_both : Ws :=
    (dSeq (dExpr (dCallP S_check_shape (dCons (dVar 0) dNil)))
    (dExpr (dCallP S_check_shape (dCons (dVar 1) dNil))))
abbrev N_check_both : List Str := ["one", "other"]
theorem W_check_both : ∀ ds Q E, S_check_both ds Q E → g_check_both (env0 N_check_both ds) (endP Q E) := by
  rintro _ Q E ⟨A, B, rfl, hp, h⟩
  show g_check_both [some (.fz (.tup (A.map pt))), some (.fz (.tup (B.map pt)))] (endP Q E)
  unfold g_check_both
  walk_at "d"
  refine t_check_shape hp.1 ?_
  walk_at "d"
  refine t_check_shape hp.2 ?_
  walk_at "d"
  exact h

def g_greatest_divisor_b1 : Ws :=
    (dPar2 2 3 (mE (dVar 3) (mE (dOp cMod (dVar 2) (dVar 3)) mNil)))
def g_greatest_divisor_r1 : Ws :=
    (dRet (dVar 2))
def g_greatest_divisor : Ws :=
    (dSeq (dPar2 2 3 (mE (dCall gAbs (dCons (dVar 0) dNil)) (mE (dCall gAbs (dCons (dVar 1) dNil)) mNil)))
    (dSeq (dWhile (dTest (dOp gNe (dVar 3) (dC (.int 0)))) g_greatest_divisor_b1)
    g_greatest_divisor_r1))
abbrev N_greatest_divisor : List Str := ["one", "other", "first", "second"]
theorem W_greatest_divisor : ∀ ds Q E, S_greatest_divisor ds Q E → g_greatest_divisor (env0 N_greatest_divisor ds) (endP Q E) := by
  rintro _ Q E ⟨a, b, rfl, hp, h⟩
  show g_greatest_divisor [some (.fz (.int a)), some (.fz (.int b)), none, none] (endP Q E)
  unfold g_greatest_divisor
  walk_at "d"
  rw [abs_if, abs_if]
  walk_at "d"
  refine while_I (fun y ρ => ∃ x : Nat, Nat.gcd x y = Int.gcd a b ∧ ρ = [some (.fz (.int a)), some (.fz (.int b)), some (.fz (.int x)), some (.fz (.int y))]) (m := b.natAbs) ⟨a.natAbs, rfl, rfl⟩ ?_
  rintro y _ ⟨x, hg, rfl⟩
  walk_at "d"
  rw [D.eq_int]
  by_cases hy : (y : Int) = 0
  · rw [decide_eq_true hy]
    walk_at "d"
    unfold g_greatest_divisor_r1
    walk_at "d"
    have e : y = 0 := by omega
    subst e
    rw [Nat.gcd_zero_right] at hg
    rw [hg]
    exact h
  · rw [decide_eq_false hy]
    walk_at "d"
    unfold g_greatest_divisor_b1
    walk_at "d"
    rw [fmod_nat]
    refine ⟨x % y, Nat.mod_lt _ (by omega), y, ?_, rfl⟩
    rw [← hg, Nat.gcd_comm y, ← Nat.gcd_rec, Nat.gcd_comm]

def g_bare_of : Ws :=
    (dSeq (dSet 1 (dCallP S_greatest_divisor (dCons (dOp gIx (dVar 0) (dC (.int 0))) (dCons (dOp gIx (dVar 0) (dC (.int 1))) dNil))))
    (dRet (dTup (dCons (dOp cDiv (dOp gIx (dVar 0) (dC (.int 0))) (dVar 1)) (dCons (dOp cDiv (dOp gIx (dVar 0) (dC (.int 1))) (dVar 1)) dNil)))))
abbrev N_bare_of : List Str := ["vector", "common"]
theorem W_bare_of : ∀ ds Q E, S_bare_of ds Q E → g_bare_of (env0 N_bare_of ds) (endP Q E) := by
  rintro _ Q E ⟨p, rfl, hp, h⟩
  show g_bare_of [some (.fz (pt p)), none] (endP Q E)
  unfold g_bare_of
  have hz : ¬ (p.1 = 0 ∧ p.2 = 0) := fun z => hp.2 (Prod.ext z.1 z.2)
  walk_at "d"
  refine t_greatest_divisor trivial ?_
  walk_at "d"
  refine i_div (gcd_divOk hz hp.1.1 hp.1.2) ?_
  walk_at "d"
  refine i_div (gcd_divOk hz hp.1.1 hp.1.2) ?_
  walk_at "d"
  exact h

def g_length_number : Ws :=
    (dRet (dCallP S_greatest_divisor (dCons (dOp gIx (dVar 0) (dC (.int 0))) (dCons (dOp gIx (dVar 0) (dC (.int 1))) dNil))))
abbrev N_length_number : List Str := ["vector"]
theorem W_length_number : ∀ ds Q E, S_length_number ds Q E → g_length_number (env0 N_length_number ds) (endP Q E) := by
  rintro _ Q E ⟨p, rfl, hp, h⟩
  show g_length_number [some (.fz (pt p))] (endP Q E)
  unfold g_length_number
  walk_at "d"
  refine t_greatest_divisor trivial ?_
  exact h

def g_side_lengths : Ws :=
    (dRet (nDc (iItems (dCallP S_plain_sides (dCons (dVar 0) dNil))) (gN 1) tAll (dCallP S_bare_of (dCons (dVar 1) dNil)) (dCallP S_length_number (dCons (dVar 1) dNil)) [1]))
abbrev N_side_lengths : List Str := ["shape", "side"]
theorem W_side_lengths : ∀ ds Q E, S_side_lengths ds Q E → g_side_lengths (env0 N_side_lengths ds) (endP Q E) := by
  rintro _ Q E ⟨A, rfl, hp, h⟩
  show g_side_lengths [some (.fz (.tup (A.map pt))), none] (endP Q E)
  unfold g_side_lengths
  have la := hp.2.1
  have sl := sides_len A
  walk_at "d"
  refine t_plain_sides ⟨hp.1, hp.2.1⟩ ?_
  walk_at "d"
  refine ⟨sizeL (by rw [List.length_map]; omega), ?_⟩
  refine dcL_of (kf := fun s => pt (bare s)) (vf := fun s => .int (lenS s)) (fun s m => ⟨rfl, fun P hP => ?_⟩) ?_
  · walk_at "d"
    refine t_bare_of ⟨side_smS hp m, hp.nz s m⟩ ?_
    walk_at "d"
    refine t_length_number trivial ?_
    exact hP _ rfl
  rw [dput_new (lenD_pw (sides_pw hp) hp.nz) (fun p m => by cases m)]
  exact h

def g_first_short_b1 : Ws :=
    (dIfS (dTest (dOp cLt (dGet2 (dVar 3) (dVar 2) (dC (.int 0))) (dIxD (dVar 4) (dVar 2)))) (dRet (dTup (dCons (dVar 2) (dCons (dGet2 (dVar 3) (dVar 2) (dC (.int 0))) (dCons (dIxD (dVar 4) (dVar 2)) dNil))))) dSkip)
def g_first_short_r1 : Ws :=
    (dRet (dC .non))
def g_first_short : Ws :=
    (dSeq (dPar2 3 4 (mE (dCallP S_side_lengths (dCons (dVar 0) dNil)) (mE (dCallP S_side_lengths (dCons (dVar 1) dNil)) mNil)))
    (dSeq (dFor (iKeysD (dVar 4)) (gN 2) g_first_short_b1)
    g_first_short_r1))
abbrev N_first_short : List Str := ["whole", "part", "bare", "lengths", "asked"]
theorem W_first_short : ∀ ds Q E, S_first_short ds Q E → g_first_short (env0 N_first_short ds) (endP Q E) := by
  rintro _ Q E ⟨W, P, rfl, hp, h⟩
  show g_first_short [some (.fz (.tup (W.map pt))), some (.fz (.tup (P.map pt))), none, none, none] (endP Q E)
  unfold g_first_short
  obtain ⟨hW, hP⟩ := hp
  walk_at "d"
  refine t_side_lengths hW ?_
  walk_at "d"
  refine t_side_lengths hP ?_
  walk_at "d"
  rw [lenD_keys]
  refine forL_list (I := fun done ρ => (∀ x ∈ done, ¬ lenAt (plSides W) (bare x) < lenS x) ∧ ∃ a2, ρ = [some (.fz (.tup (W.map pt))), some (.fz (.tup (P.map pt))), a2, some (.fz (.dct (lenD (plSides W)))), some (.fz (.dct (lenD (plSides P))))]) ?_ ?_ ⟨fun x m => (by cases m), _, rfl⟩
  · rintro _ ⟨hd, a2, rfl⟩
    unfold g_first_short_r1
    walk_at "d"
    rw [first_end hd] at h
    exact h
  · rintro done s rest _ e ⟨hd, a2, rfl⟩ K hK
    have m : s ∈ plSides P := by rw [e]; simp
    unfold g_first_short_b1
    walk_at "d"
    refine ⟨_, look_mem (sides_pw hP) hP.nz m, ?_⟩
    rw [look_lenD]
    walk_at "d"
    refine Ite.dec (fun c => ?_) (fun c => ?_)
    · rw [first_at e hd c] at h
      walk_at "d"
      refine ⟨_, look_mem (sides_pw hP) hP.nz m, ?_⟩
      rw [look_lenD]
      walk_at "d"
      exact h
    · walk_at "d"
      exact hK _ ⟨fun x mx => (List.mem_append.mp mx).elim (hd x) fun z => by rw [List.mem_singleton.mp z]; exact c, _, rfl⟩

def g_point_moved : Ws :=
    (dRet (dTup (dCons (dOp gAdd (dOp gIx (dVar 0) (dC (.int 0))) (dOp gIx (dVar 1) (dC (.int 0)))) (dCons (dOp gAdd (dOp gIx (dVar 0) (dC (.int 1))) (dOp gIx (dVar 1) (dC (.int 1)))) dNil))))
abbrev N_point_moved : List Str := ["point", "vector"]
theorem W_point_moved : ∀ ds Q E, S_point_moved ds Q E → g_point_moved (env0 N_point_moved ds) (endP Q E) := by
  rintro _ Q E ⟨p, q, rfl, hp, h⟩
  show g_point_moved [some (.fz (pt p)), some (.fz (pt q))] (endP Q E)
  unfold g_point_moved
  walk_at "d"
  exact h

def g_corners_by_b1 : Ws :=
    (dExpr (dMt 2 gApp (dCons (dCallP S_point_moved (dCons (dIxO 2 (dNeg (dC (.int 1)))) (dCons (dVar 3) dNil))) dNil)))
def g_corners_by_r1 : Ws :=
    (dRet (dTupO 2))
def g_corners_by : Ws :=
    (dSeq (dNew 2 (nLst (dCons (dVar 0) dNil)))
    (dSeq (dFor (iItems (dCut (dVar 1) oNone (oSome (dNeg (dC (.int 1)))))) (gN 3) g_corners_by_b1)
    g_corners_by_r1))
abbrev N_corners_by : List Str := ["point", "sides", "found", "side"]
theorem W_corners_by : ∀ ds Q E, S_corners_by ds Q E → g_corners_by (env0 N_corners_by ds) (endP Q E) := by
  rintro _ Q E ⟨p, ss, rfl, hp, h⟩
  show g_corners_by [some (.fz (pt p)), some (.fz (.lst (ss.map pt))), none, none] (endP Q E)
  unfold g_corners_by
  walk_at "d"
  intro q0
  walk_at "d"
  rw [cut_dropLast, ← List.map_dropLast]
  refine forL_list (I := fun done ρ => ∃ (q : Addr) (a3 : Option Sv), ρ = [some (.fz (pt p)), some (.fz (.lst (ss.map pt))), some (.own q ((scF p done).map pt)), a3]) ?_ ?_ ⟨_, _, rfl⟩
  · rintro _ ⟨q, a3, rfl⟩
    unfold g_corners_by_r1
    walk_at "d"
    rw [scF_walk]
    exact h
  · rintro done v rest _ e ⟨q, a3, rfl⟩ K hK
    have key : ∀ a q, K [some (.fz (pt p)), some (.fz (.lst (ss.map pt))), some (.own q ((scF p (done ++ [v])).map pt)), a] := fun a q => hK _ ⟨q, a, rfl⟩
    have dl : done.length ≤ 500 := by have := congrArg List.length e; simp at this; omega
    obtain ⟨n0, n1⟩ := scF_ne p done
    rw [scF_snoc] at key
    generalize scF p done = acc at *
    obtain ⟨a0, l, rfl⟩ : ∃ a0 l, acc = a0 ++ [l] := ⟨acc.dropLast, acc.getLast n0, (List.dropLast_concat_getLast n0).symm⟩
    rw [show (a0 ++ [l]).getLastD (0, 0) = l by simp] at key
    unfold g_corners_by_b1
    walk_at "d"
    refine i_ixO2 rfl (show atI ((a0 ++ [l]).map pt) (-1) = some (pt l) from atI_last (by simp)) ?_
    walk_at "d"
    refine t_point_moved trivial ?_
    walk_at "d"
    refine i_app (sizeL' (by rw [List.length_map]; omega)) ?_
    walk_at "d"
    rw [show (a0 ++ [l]).map pt ++ [pt (padd l v)] = ((a0 ++ [l]) ++ [padd l v]).map pt by rw [List.map_append (l₂ := [padd l v])]; rfl]
    exact key _ _

def g_plain_rest : Ws :=
    (dSeq (dAsg (dTup (dCons (dCallP S_side_lengths (dCons (dVar 0) dNil)) (dCons (dCallP S_side_lengths (dCons (dVar 1) dNil)) dNil))) (gT 2 (gsCons (gN 4) (gsCons (gN 5) gsNil))))
    (dSeq (dSet 2 (dNw (nLc (iKeysD (dVar 4)) (gN 6) tAll (dTup (dCons (dVar 6) (dCons (dOp cSub (dIxD (dVar 4) (dVar 6)) (dGet2 (dVar 5) (dVar 6) (dC (.int 0)))) dNil))) [6])))
    (dSeq (dSet 3 (dNw (nLc (iItems (dVar 2)) (gT 2 (gsCons (gN 6) (gsCons (gN 7) gsNil))) (dTest (dOp cGt (dVar 7) (dC (.int 0)))) (dTup (dCons (dOp gMul (dOp gIx (dVar 6) (dC (.int 0))) (dVar 7)) (dCons (dOp gMul (dOp gIx (dVar 6) (dC (.int 1))) (dVar 7)) dNil))) [6, 7])))
    (dRet (dCallP S_corners_by (dCons (dCallP S_vector_between (dCons (dOp gIx (dVar 1) (dC (.int 0))) (dCons (dOp gIx (dVar 0) (dC (.int 0))) dNil))) (dCons (dVar 3) dNil)))))))
abbrev N_plain_rest : List Str := ["whole", "part", "left", "sides", "lengths", "taken", "bare", "many"]
theorem W_plain_rest : ∀ ds Q E, S_plain_rest ds Q E → g_plain_rest (env0 N_plain_rest ds) (endP Q E) := by
  rintro _ Q E ⟨W, P, rfl, hp, h⟩
  show g_plain_rest [some (.fz (.tup (W.map pt))), some (.fz (.tup (P.map pt))), none, none, none, none, none, none] (endP Q E)
  unfold g_plain_rest
  obtain ⟨hW, hP⟩ := hp
  have lw := hW.2.1
  have sw := sides_len W
  walk_at "d"
  refine t_side_lengths hW ?_
  walk_at "d"
  refine t_side_lengths hP ?_
  walk_at "d"
  rw [lenD_keys]
  refine ⟨sizeL (by rw [List.length_map]; omega), ?_⟩
  refine lcL_of (e := fun s => pt (bare s)) (f := fun s => .tup [pt (bare s), .int (lefN (plSides P) s)]) (fun s m P2 hP2 => ?_) ?_
  · walk_at "d"
    refine ⟨_, look_mem (sides_pw hW) hW.nz m, ?_⟩
    walk_at "d"
    rw [look_lenD]
    walk_at "d"
    exact hP2 _ rfl
  rw [List.nil_append]
  walk_at "d"
  refine ⟨sizeL (by rw [List.length_map]; omega), ?_⟩
  refine lcL_fil (f := fun s => pt (mulP (lefN (plSides P) s) (bare s))) (c := fun s => decide (0 < lefN (plSides P) s)) (fun s m P1 P2 hP1 hP2 => ?_) ?_
  · walk_at "d"
    refine Ite.dec (fun c => ?_) (fun c => ?_)
    · have sb : Sm (bare s).1 ∧ Sm (bare s).2 := by
        have := @bare_bound s
        obtain ⟨s1, s2⟩ := side_smS hW m
        exact ⟨Nat.lt_of_le_of_lt this.1 s1, Nat.lt_of_le_of_lt this.2 s2⟩
      have sl : Sm (lefN (plSides P) s) := by
        have l : lefN (plSides P) s ≤ lenS s := by unfold lefN; have := lenAt_nonneg hP.nz (bare s); omega
        have b := @lenS_bound s
        have w := side_w hW.2.2.1 m
        refine Sm.of (n := 10 ^ 62) ?_
        have := w.1
        have := w.2
        omega
      walk_at "d"
      refine i_mulI (sb.1.mul sl) ?_
      walk_at "d"
      refine i_mulI (sb.2.mul sl) ?_
      walk_at "d"
      exact hP1 (decide_eq_true c) _ rfl
    · exact hP2 (decide_eq_false c) _ rfl
  rw [List.nil_append]
  have er : ((plSides W).filter fun s => decide (0 < lefN (plSides P) s)).map (fun s => pt (mulP (lefN (plSides P) s) (bare s))) = (restS (plSides W) (plSides P)).map pt := by
    unfold restS; rw [List.map_map]; rfl
  rw [er]
  walk_at "d"
  have aP : atI (P.map pt) 0 = some (pt (gt P 0)) := by have := atI_gt (List.length_pos_iff.mpr hP.1); simpa using this
  have aW : atI (W.map pt) 0 = some (pt (gt W 0)) := by have := atI_gt (List.length_pos_iff.mpr hW.1); simpa using this
  refine i_ixT aP ?_
  walk_at "d"
  refine i_ixT aW ?_
  walk_at "d"
  refine t_vector_between trivial ?_
  walk_at "d"
  refine t_corners_by (by have := restS_len (plSides W) (plSides P); omega) ?_
  exact h

def g_rest_paper : Ws :=
    (dSeq (dExpr (dCallP S_check_both (dCons (dVar 0) (dCons (dVar 1) dNil))))
    (dSeq (dSet 2 (dCallP S_first_short (dCons (dVar 0) (dCons (dVar 1) dNil))))
    (dRet (dIf (dTest (dOp (gIsN false) (dVar 2) (dC .non))) (dTup (dCons (dC (.str "rest")) (dCons (dCallP S_plain_rest (dCons (dVar 0) (dCons (dVar 1) dNil))) dNil))) (dTup (dCons (dC (.str "short")) (dStar (dVar 2) dNil)))))))
abbrev N_rest_paper : List Str := ["whole", "part", "short"]
theorem W_rest_paper : ∀ ds Q E, S_rest_paper ds Q E → g_rest_paper (env0 N_rest_paper ds) (endP Q E) := by
  rintro _ Q E ⟨W, P, rfl, hp, h⟩
  show g_rest_paper [some (.fz (.tup (W.map pt))), some (.fz (.tup (P.map pt))), none] (endP Q E)
  unfold g_rest_paper
  walk_at "d"
  refine t_check_both hp ?_
  walk_at "d"
  refine t_first_short hp ?_
  walk_at "d"
  unfold paperD at h
  refine i_isN (fun v e => by unfold firstD at e; split at e <;> cases e) ?_
  rcases firstD_cases (plSides W) (plSides P) with ⟨e, _⟩ | ⟨s, _, e⟩
  · rw [e] at h ⊢
    refine ⟨true, rfl, .tt ?_⟩
    walk_at "d"
    refine t_plain_rest hp ?_
    walk_at "d"
    exact h
  · rw [e] at h ⊢
    refine ⟨false, rfl, .ff ?_⟩
    walk_at "d"
    exact h

def g_Lsides : Ws :=
    (dSeq (dIfS (dTest (dOp gEq (dCall gLen (dCons (dVar 0) dNil)) (dC (.int 1)))) (dRet (dNw (nLst dNil))) dSkip)
    (dRet (dNw (nLc (iR1 (dCons (dCall gLen (dCons (dVar 0) dNil)) dNil)) (gN 1) tAll (dCallP S_Lto (dCons (dOp gIx (dVar 0) (dVar 1)) (dCons (dOp gIx (dVar 0) (dOp cMod (dOp gAdd (dVar 1) (dC (.int 1))) (dCall gLen (dCons (dVar 0) dNil)))) dNil))) [1]))))
abbrev N_Lsides : List Str := ["_law_shape", "_law_at"]
theorem W_Lsides : ∀ ds Q E, S_Lsides ds Q E → g_Lsides (env0 N_Lsides ds) (endP Q E) := by
  rintro _ Q E ⟨ps, rfl, hp, h⟩
  show g_Lsides [some (.fz (.tup (ps.map pt))), none] (endP Q E)
  unfold g_Lsides
  obtain ⟨hn, hl⟩ := hp
  walk_at "d"
  rw [List.length_map, D.eq_int]
  by_cases z : ps.length = 1
  · rw [decide_eq_true (show ((ps.length : Nat) : Int) = 1 by omega)]
    walk_at "d"
    match ps, z with
    | [p], _ => exact h
  · have h2 : 2 ≤ ps.length := by
      match ps, hn, z with
      | [_], _, z => exact absurd rfl z
      | _ :: _ :: t, _, _ => simp
    rw [decide_eq_false (show ¬ ((ps.length : Nat) : Int) = 1 by omega)]
    walk_at "d"
    rw [List.length_map]
    refine i_range1 (by constructor <;> omega) ?_
    rw [Int.toNat_natCast]
    refine ⟨sizeL (by rw [range_len]; omega), ?_⟩
    refine lcL_of (f := fun i => pt (toV (gt ps i) (nxi ps i))) (fun i m P hP => ?_) ?_
    · have hi : i < ps.length := List.mem_range.mp m
      walk_at "d"
      refine i_ixT (atI_gt hi) ?_
      walk_at "d"
      rw [List.length_map]
      refine i_mod (by omega) ?_
      walk_at "d"
      refine i_ixT (atI_nxi hi) ?_
      walk_at "d"
      refine t_Lto trivial ?_
      exact hP _ rfl
    · rw [sides_range h2, List.map_map] at h
      exact h

def g_Ldivisor_b1 : Ws :=
    (dPar2 2 3 (mE (dVar 3) (mE (dOp cMod (dVar 2) (dVar 3)) mNil)))
def g_Ldivisor_r1 : Ws :=
    (dRet (dVar 2))
def g_Ldivisor : Ws :=
    (dSeq (dPar2 2 3 (mE (dCall gMax2 (dCons (dCall gInt (dCons (dVar 0) dNil)) (dCons (dCall gInt (dCons (dOp cSub (dC (.int 0)) (dVar 0)) dNil)) dNil))) (mE (dCall gMax2 (dCons (dCall gInt (dCons (dVar 1) dNil)) (dCons (dCall gInt (dCons (dOp cSub (dC (.int 0)) (dVar 1)) dNil)) dNil))) mNil)))
    (dSeq (dWhile (dTest (dOp gNe (dVar 3) (dC (.int 0)))) g_Ldivisor_b1)
    g_Ldivisor_r1))
abbrev N_Ldivisor : List Str := ["_law_one_here", "_law_other", "_law_first", "_law_second"]
theorem W_Ldivisor : ∀ ds Q E, S_Ldivisor ds Q E → g_Ldivisor (env0 N_Ldivisor ds) (endP Q E) := by
  rintro _ Q E ⟨a, b, rfl, hp, h⟩
  show g_Ldivisor [some (.fz (.int a)), some (.fz (.int b)), none, none] (endP Q E)
  unfold g_Ldivisor
  walk_at "d"
  have e : ∀ a : Int, (if 0 - a > a then 0 - a else a) = (a.natAbs : Int) := fun a => by split <;> omega
  rw [e, e]
  walk_at "d"
  refine while_I (fun y ρ => ∃ x : Nat, Nat.gcd x y = Int.gcd a b ∧ ρ = [some (.fz (.int a)), some (.fz (.int b)), some (.fz (.int x)), some (.fz (.int y))]) (m := b.natAbs) ⟨a.natAbs, rfl, rfl⟩ ?_
  rintro y _ ⟨x, hg, rfl⟩
  walk_at "d"
  rw [D.eq_int]
  by_cases hy : (y : Int) = 0
  · rw [decide_eq_true hy]
    walk_at "d"
    unfold g_Ldivisor_r1
    walk_at "d"
    have e : y = 0 := by omega
    subst e
    rw [Nat.gcd_zero_right] at hg
    rw [hg]
    exact h
  · rw [decide_eq_false hy]
    walk_at "d"
    unfold g_Ldivisor_b1
    walk_at "d"
    rw [fmod_nat]
    refine ⟨x % y, Nat.mod_lt _ (by omega), y, ?_, rfl⟩
    rw [← hg, Nat.gcd_comm y, ← Nat.gcd_rec, Nat.gcd_comm]

def g_Lbare : Ws :=
    (dSeq (dSet 1 (dCallP S_Ldivisor (dCons (dOp gIx (dVar 0) (dC (.int 0))) (dCons (dOp gIx (dVar 0) (dC (.int 1))) dNil))))
    (dRet (dTup (dCons (dOp cDiv (dOp gIx (dVar 0) (dC (.int 0))) (dVar 1)) (dCons (dOp cDiv (dOp gIx (dVar 0) (dC (.int 1))) (dVar 1)) dNil)))))
abbrev N_Lbare : List Str := ["_law_way", "_law_common"]
theorem W_Lbare : ∀ ds Q E, S_Lbare ds Q E → g_Lbare (env0 N_Lbare ds) (endP Q E) := by
  rintro _ Q E ⟨p, rfl, hp, h⟩
  show g_Lbare [some (.fz (pt p)), none] (endP Q E)
  unfold g_Lbare
  have hz : ¬ (p.1 = 0 ∧ p.2 = 0) := fun z => hp.2 (Prod.ext z.1 z.2)
  walk_at "d"
  refine t_Ldivisor trivial ?_
  walk_at "d"
  refine i_div (gcd_divOk hz hp.1.1 hp.1.2) ?_
  walk_at "d"
  refine i_div (gcd_divOk hz hp.1.1 hp.1.2) ?_
  walk_at "d"
  exact h

def g_Llongs : Ws :=
    (dRet (dCall gDictK (dCons (dNw (nLc (iItems (dCallP S_Lsides (dCons (dVar 0) dNil))) (gN 1) tAll (dTup (dCons (dCallP S_Lbare (dCons (dVar 1) dNil)) (dCons (dCallP S_Ldivisor (dCons (dOp gIx (dVar 1) (dC (.int 0))) (dCons (dOp gIx (dVar 1) (dC (.int 1))) dNil))) dNil))) [1])) dNil)))
abbrev N_Llongs : List Str := ["_law_shape", "_law_way"]
theorem W_Llongs : ∀ ds Q E, S_Llongs ds Q E → g_Llongs (env0 N_Llongs ds) (endP Q E) := by
  rintro _ Q E ⟨A, rfl, hp, h⟩
  show g_Llongs [some (.fz (.tup (A.map pt))), none] (endP Q E)
  unfold g_Llongs
  have la := hp.2.1
  have sl := sides_len A
  walk_at "d"
  refine t_Lsides ⟨hp.1, hp.2.1⟩ ?_
  walk_at "d"
  refine ⟨sizeL (by rw [List.length_map]; omega), ?_⟩
  refine lcL_of (e := pt) (f := fun s => .tup [pt (bare s), .int (lenS s)]) (fun s m P2 hP2 => ?_) ?_
  · walk_at "d"
    refine t_Lbare ⟨side_smS hp m, hp.nz s m⟩ ?_
    walk_at "d"
    refine t_Ldivisor trivial ?_
    walk_at "d"
    exact hP2 _ rfl
  rw [List.nil_append]
  walk_at "d"
  refine ⟨(plSides A).map fun s => (pt (bare s), .int (lenS s)), by rw [List.map_map]; rfl, fun e m => ?_, ?_⟩
  · obtain ⟨s, ms, rfl⟩ := List.mem_map.mp m
    rfl
  rw [dputs_map (lenD_pw (sides_pw hp) hp.nz)]
  walk_at "d"
  exact h

def g_Lshort_b1 : Ws :=
    (dSeq (dSet 5 (dCallP S_Lbare (dCons (dVar 2) dNil)))
    (dIfS (dTest (dOp cLt (dGet2 (dVar 3) (dVar 5) (dC (.int 0))) (dIxD (dVar 4) (dVar 5)))) (dRet (dTup (dCons (dVar 5) (dCons (dGet2 (dVar 3) (dVar 5) (dC (.int 0))) (dCons (dIxD (dVar 4) (dVar 5)) dNil))))) dSkip))
def g_Lshort_r1 : Ws :=
    (dRet (dC .non))
def g_Lshort : Ws :=
    (dSeq (dPar2 3 4 (mE (dCallP S_Llongs (dCons (dVar 0) dNil)) (mE (dCallP S_Llongs (dCons (dVar 1) dNil)) mNil)))
    (dSeq (dFor (iItems (dCallP S_Lsides (dCons (dVar 1) dNil))) (gN 2) g_Lshort_b1)
    g_Lshort_r1))
abbrev N_Lshort : List Str := ["_law_whole", "_law_part", "_law_way", "_law_longs_here", "_law_asked", "_law_bare_here"]
theorem W_Lshort : ∀ ds Q E, S_Lshort ds Q E → g_Lshort (env0 N_Lshort ds) (endP Q E) := by
  rintro _ Q E ⟨W, P, rfl, hp, h⟩
  show g_Lshort [some (.fz (.tup (W.map pt))), some (.fz (.tup (P.map pt))), none, none, none, none] (endP Q E)
  unfold g_Lshort
  obtain ⟨hW, hP⟩ := hp
  walk_at "d"
  refine t_Llongs hW ?_
  walk_at "d"
  refine t_Llongs hP ?_
  walk_at "d"
  refine t_Lsides ⟨hP.1, hP.2.1⟩ ?_
  walk_at "d"
  refine forL_list (I := fun done ρ => (∀ x ∈ done, ¬ lenAt (plSides W) (bare x) < lenS x) ∧ ∃ a2 a5, ρ = [some (.fz (.tup (W.map pt))), some (.fz (.tup (P.map pt))), a2, some (.fz (.dct (lenD (plSides W)))), some (.fz (.dct (lenD (plSides P)))), a5]) ?_ ?_ ⟨fun x m => (by cases m), _, _, rfl⟩
  · rintro _ ⟨hd, a2, a5, rfl⟩
    unfold g_Lshort_r1
    walk_at "d"
    rw [first_end hd] at h
    exact h
  · rintro done s rest _ e ⟨hd, a2, a5, rfl⟩ K hK
    have m : s ∈ plSides P := by rw [e]; simp
    unfold g_Lshort_b1
    walk_at "d"
    refine t_Lbare ⟨side_smS hP m, hP.nz s m⟩ ?_
    walk_at "d"
    refine ⟨_, look_mem (sides_pw hP) hP.nz m, ?_⟩
    rw [look_lenD]
    walk_at "d"
    refine Ite.dec (fun c => ?_) (fun c => ?_)
    · rw [first_at e hd c] at h
      walk_at "d"
      refine ⟨_, look_mem (sides_pw hP) hP.nz m, ?_⟩
      rw [look_lenD]
      walk_at "d"
      exact h
    · walk_at "d"
      exact hK _ ⟨fun x mx => (List.mem_append.mp mx).elim (hd x) fun z => by rw [List.mem_singleton.mp z]; exact c, _, _, rfl⟩

def g_Lshorts : Ws :=
    (dSeq (dAsg (dTup (dCons (dCallP S_Llongs (dCons (dVar 0) dNil)) (dCons (dCallP S_Llongs (dCons (dVar 1) dNil)) dNil))) (gT 2 (gsCons (gN 2) (gsCons (gN 3) gsNil))))
    (dRet (dNw (nLc (iKeysD (dVar 3)) (gN 4) tAll (dTup (dCons (dC (.str "short")) (dCons (dVar 4) (dCons (dGet2 (dVar 2) (dVar 4) (dC (.int 0))) (dCons (dIxD (dVar 3) (dVar 4)) dNil))))) [4]))))
abbrev N_Lshorts : List Str := ["_law_whole", "_law_part", "_law_longs_here", "_law_asked", "_law_u"]
theorem W_Lshorts : ∀ ds Q E, S_Lshorts ds Q E → g_Lshorts (env0 N_Lshorts ds) (endP Q E) := by
  rintro _ Q E ⟨W, P, rfl, hp, h⟩
  show g_Lshorts [some (.fz (.tup (W.map pt))), some (.fz (.tup (P.map pt))), none, none, none] (endP Q E)
  unfold g_Lshorts
  obtain ⟨hW, hP⟩ := hp
  have lp := hP.2.1
  have sp := sides_len P
  walk_at "d"
  refine t_Llongs hW ?_
  walk_at "d"
  refine t_Llongs hP ?_
  walk_at "d"
  rw [lenD_keys]
  refine ⟨sizeL (by rw [List.length_map]; omega), ?_⟩
  refine lcL_of (f := fun s => D.tup [.str "short", pt (bare s), .int (lenAt (plSides W) (bare s)), .int (lenS s)]) (fun s m P2 hP2 => ?_) ?_
  · walk_at "d"
    rw [look_lenD]
    walk_at "d"
    refine ⟨_, look_mem (sides_pw hP) hP.nz m, ?_⟩
    walk_at "d"
    exact hP2 _ rfl
  rw [List.nil_append]
  exact h

def g_Lbent_r1 : Ws :=
    (dSeq (dSet 5 (dNw (nLst (dCons (dBack (dVar 6)) (dCons (dOp gAdd (dCut (dVar 6) (oSome (dC (.int 1))) oNone) (dCut (dVar 6) oNone (oSome (dC (.int 1))))) (dCons (dCut (dVar 6) oNone (oSome (dNeg (dC (.int 1))))) (dCons (dOp gAdd (dVar 6) (dCut (dVar 6) oNone (oSome (dC (.int 1))))) (dCons (dCallP S_Lmoved (dCons (dVar 6) (dCons (dTup (dCons (dC (.int 1)) (dCons (dC (.int 0)) dNil))) dNil))) dNil))))))))
    (dSeq (dSet 5 (dOp gAdd (dVar 5) (dNw (nLst (dCons (dCall gLstC (dCons (dVar 6) dNil)) (dCons (dVar 3) (dCons (dVar 2) (dCons (dTup (dCons (dTup (dCons (dC (.bl true)) (dCons (dC (.int 0)) dNil))) dNil)) (dCons (dCallOw 0 S_Lround (dCons (dC (.int 2)) dNil)) dNil)))))))))
    (dRet (dTup (dCons (dC (.str "rest")) (dCons (dCallOw 0 S_Lone (dCons (dVar 5) dNil)) dNil))))))
def g_Lbent : Ws :=
    (dSeq (dSet 4 (dCallOw 0 S_Ltake (dCons (dC (.int 6)) dNil)))
    (dSeq (dIfS (dTest (dOp gEq (dVar 4) (dC (.int 0)))) (dRet (dOp gAdd (dTup (dCons (dCallOw 0 S_Lone (dCons (dNw (nLst (dCons (dC (.str "rest")) (dCons (dC (.str "short")) (dCons (dC (.str "rests")) (dCons (dC (.int 1)) (dCons (dC .non) dNil))))))) dNil)) dNil)) (dCut (dVar 1) (oSome (dC (.int 1))) oNone))) dSkip)
    (dSeq (dIfS (dTest (dOp gEq (dVar 4) (dC (.int 1)))) (dRet (dCut (dVar 1) oNone (oSome (dNeg (dC (.int 1)))))) dSkip)
    (dSeq (dIfS (dTest (dOp gEq (dVar 4) (dC (.int 2)))) (dRet (dCallOw 0 S_Lone (dCons (dNw (nLst (dCons (dC .non) (dCons (dCall gLstC (dCons (dVar 1) dNil)) (dCons (dOp gAdd (dVar 1) (dTup (dCons (dC (.int 0)) dNil))) (dCons (dOp gIx (dVar 1) (dC (.int 0))) (dCons (dTup dNil) (dCons dDct0 dNil)))))))) dNil))) dSkip)
    (dSeq (dIfS (dTest (dOp gEq (dCall gLen (dCons (dVar 1) dNil)) (dC (.int 2)))) (dSeq (dSet 6 (dIf (dAnd (dTest (dIsi isT (dOp gIx (dVar 1) (dC (.int 1))))) (dTest (dOp cGt (dCall gLen (dCons (dOp gIx (dVar 1) (dC (.int 1))) dNil)) (dC (.int 0))))) (dOp gIx (dVar 1) (dC (.int 1))) (dVar 3)))
    g_Lbent_r1) dSkip)
    (dSeq (dAsg (dVar 1) (gT 4 (gsCons (gN 7) (gsCons (gN 8) (gsCons (gN 9) (gsCons (gN 10) gsNil))))))
    (dSeq (dSet 5 (dNw (nLst (dCons (dTup (dCons (dVar 8) (dCons (dVar 9) (dCons (dOp gAdd (dVar 10) (dC (.int 1))) dNil)))) (dCons (dTup (dCons (dVar 8) (dCons (dOp gAdd (dVar 9) (dC (.int 1))) (dCons (dVar 10) dNil)))) (dCons (dTup (dCons (dTup (dCons (dOp gMul (dC (.int 2)) (dOp gIx (dVar 8) (dC (.int 0)))) (dCons (dOp gMul (dC (.int 2)) (dOp gIx (dVar 8) (dC (.int 1)))) dNil))) (dCons (dVar 9) (dCons (dVar 10) dNil)))) (dCons (dTup (dCons (dCall gLstC (dCons (dVar 8) dNil)) (dCons (dVar 9) (dCons (dVar 10) dNil)))) dNil)))))))
    (dSeq (dSet 5 (dOp gAdd (dVar 5) (dNw (nLst (dCons (dTup (dCons (dTup (dCons (dOp cSub (dC (.int 0)) (dOp gIx (dVar 8) (dC (.int 0)))) (dCons (dOp cSub (dC (.int 0)) (dOp gIx (dVar 8) (dC (.int 1)))) dNil))) (dCons (dVar 9) (dCons (dVar 10) dNil)))) (dCons (dTup (dCons (dVar 8) (dCons (dVar 10) (dCons (dVar 9) dNil)))) (dCons (dTup (dCons (dVar 8) (dCons (dCall gBoolI (dCons (dVar 9) dNil)) (dCons (dVar 10) dNil)))) (dCons (dTup (dCons (dVar 8) (dCons (dVar 9) (dCons (dCall gStrI (dCons (dVar 10) dNil)) dNil)))) dNil))))))))
    (dRet (dOp gAdd (dTup (dCons (dVar 7) dNil)) (dCallOw 0 S_Lone (dCons (dVar 5) dNil))))))))))))
abbrev N_Lbent : List Str := ["_law_source", "_law_paper", "_law_whole", "_law_part", "_law_way", "_law_some", "_law_shape", "_law_word", "_law_u", "_law_low", "_law_high"]
theorem W_Lbent : ∀ a xs ds Q E, S_Lbent xs ds Q E → g_Lbent (envO N_Lbent a xs ds) (endO a Q E) := by
  rintro ad _ _ Q E ⟨a, b, d, W, P, rfl, rfl, hp, h⟩
  show g_Lbent [some (.own ad [.int a, .int b]), some (.fz (d)), some (.fz (.tup (W.map pt))), some (.fz (.tup (P.map pt))), none, none, none, none, none, none, none] (endO ad Q E)
  unfold g_Lbent
  obtain ⟨hs, hd, rW, rP⟩ := hp
  have fS : (D.str "short").flat 49 = true ∧ (D.str "rest").flat 49 = true ∧ (D.str "rests").flat 49 = true := by decide +kernel
  have nS : ¬ ("short" : Str) = "rest" ∧ ¬ ("rests" : Str) = "rest" ∧ ¬ ("rest" : Str) = "short" ∧ ¬ ("rests" : Str) = "short" := by decide +kernel
  walk_at "d"
  refine t_Ltake ⟨hs, by decide, by decide +kernel⟩ ?_
  rintro w a b ⟨hw, hs⟩
  walk_at "d"
  rw [D.eq_int]
  by_cases c0 : w = 0
  · rw [decide_eq_true c0]
    walk_at "d"
    refine t_Lone ⟨.inl rfl, hs, by decide, by decide⟩ ?_
    rintro x a b ⟨hx, hs⟩
    simp only [List.mem_cons, List.not_mem_nil, or_false] at hx
    rcases hd with ⟨A, t, rfl, hA, ht⟩ | ⟨u, l, m, rfl, u0, hu, hl, hm⟩
    · have rx := rx_rest rfl hA ht
      walk_at "d"
      refine i_addT (sizeL (show (1 + 1 : Nat) ≤ 1000 by decide)) ?_
      rw [show ([x] ++ cut [D.str "rest", .tup ((mvL t A).map pt)] (some 1) none) = [x, .tup ((mvL t A).map pt)] from rfl]
      walk_at "d"
      refine h _ _ _ ⟨?_, hs⟩
      rcases hx with rfl | rfl | rfl | rfl | rfl
      · exact .inl ⟨_, _, rfl, fS.2.1, fun _ => rx⟩
      · exact .inl ⟨_, _, rfl, fS.1, fun _ => rx⟩
      · exact .inl ⟨_, _, rfl, fS.2.2, fun _ => rx⟩
      · exact .inr (.inr (.inr (.inr (.inr (.inr (.inr (.inl ⟨_, _, rfl, .inl rfl⟩)))))))
      · exact .inr (.inr (.inr (.inr (.inr (.inr (.inr (.inl ⟨_, _, rfl, .inr rfl⟩)))))))
    · have so : SdOk (pt u) (.int l) (.int m) := ⟨.inl ⟨u, rfl, u0⟩, .inl ⟨_, rfl⟩, .inl ⟨_, rfl⟩⟩
      walk_at "d"
      refine i_addT (sizeL (show (1 + 3 : Nat) ≤ 1000 by decide)) ?_
      rw [show ([x] ++ cut [D.str "short", pt u, .int l, .int m] (some 1) none) = [x, pt u, .int l, .int m] from rfl]
      walk_at "d"
      refine h _ _ _ ⟨?_, hs⟩
      rcases hx with rfl | rfl | rfl | rfl | rfl
      · exact .inr (.inl ⟨_, _, _, _, rfl, fS.2.1, fun _ => so⟩)
      · exact .inr (.inl ⟨_, _, _, _, rfl, fS.1, fun _ => so⟩)
      · exact .inr (.inl ⟨_, _, _, _, rfl, fS.2.2, fun _ => so⟩)
      · exact .inr (.inr (.inr (.inr (.inr (.inr (.inr (.inr ⟨_, _, _, _, rfl, .inl rfl⟩)))))))
      · exact .inr (.inr (.inr (.inr (.inr (.inr (.inr (.inr ⟨_, _, _, _, rfl, .inr rfl⟩)))))))
  · rw [decide_eq_false c0]
    walk_at "d"
    rw [D.eq_int]
    by_cases c1 : w = 1
    · rw [decide_eq_true c1]
      walk_at "d"
      rcases hd with ⟨A, t, rfl, hA, ht⟩ | ⟨u, l, m, rfl, u0, hu, hl, hm⟩
      · walk_at "d"
        refine h _ _ _ ⟨.inr (.inr (.inr (.inr (.inr (.inr (.inl ⟨_, rfl, by show (1 : Nat) ≠ 2; decide, by show (1 : Nat) ≠ 4; decide, by show (1 : Nat) ≤ 5; decide⟩)))))), hs⟩
      · walk_at "d"
        refine h _ _ _ ⟨.inr (.inr (.inr (.inr (.inr (.inr (.inl ⟨_, rfl, by show (3 : Nat) ≠ 2; decide, by show (3 : Nat) ≠ 4; decide, by show (3 : Nat) ≤ 5; decide⟩)))))), hs⟩
    · rw [decide_eq_false c1]
      walk_at "d"
      rw [D.eq_int]
      by_cases c2 : w = 2
      · rw [decide_eq_true c2]
        walk_at "d"
        rcases hd with ⟨A, t, rfl, hA, ht⟩ | ⟨u, l, m, rfl, u0, hu, hl, hm⟩
        · walk_at "d"
          refine i_addT (sizeL (show (2 + 1 : Nat) ≤ 1000 by decide)) ?_
          walk_at "d"
          refine t_Lone ⟨.inl rfl, hs, by show (0 : Nat) < 6; decide, by show (6 : Nat) ≤ _; decide⟩ ?_
          rintro x a b ⟨hx, hs⟩
          simp only [List.mem_cons, List.not_mem_nil, or_false] at hx
          walk_at "d"
          refine h _ _ _ ⟨.inr (.inr ?_), hs⟩
          rcases hx with rfl | rfl | rfl | rfl | rfl | rfl
          · exact .inl rfl
          · exact .inr (.inl ⟨_, rfl⟩)
          · exact .inr (.inr (.inr (.inr (.inl ⟨_, rfl, by show (3 : Nat) ≠ 2; decide, by show (3 : Nat) ≠ 4; decide, by show (3 : Nat) ≤ 5; decide⟩))))
          · exact .inr (.inr (.inl ⟨_, rfl⟩))
          · exact .inr (.inr (.inr (.inr (.inl ⟨_, rfl, by decide, by decide, by decide⟩))))
          · exact .inr (.inr (.inr (.inl rfl)))
        · walk_at "d"
          refine i_addT (sizeL (show (4 + 1 : Nat) ≤ 1000 by decide)) ?_
          walk_at "d"
          refine t_Lone ⟨.inl rfl, hs, by show (0 : Nat) < 6; decide, by show (6 : Nat) ≤ _; decide⟩ ?_
          rintro x a b ⟨hx, hs⟩
          simp only [List.mem_cons, List.not_mem_nil, or_false] at hx
          walk_at "d"
          refine h _ _ _ ⟨.inr (.inr ?_), hs⟩
          rcases hx with rfl | rfl | rfl | rfl | rfl | rfl
          · exact .inl rfl
          · exact .inr (.inl ⟨_, rfl⟩)
          · exact .inr (.inr (.inr (.inr (.inl ⟨_, rfl, by show (5 : Nat) ≠ 2; decide, by show (5 : Nat) ≠ 4; decide, by show (5 : Nat) ≤ 5; decide⟩))))
          · exact .inr (.inr (.inl ⟨_, rfl⟩))
          · exact .inr (.inr (.inr (.inr (.inl ⟨_, rfl, by decide, by decide, by decide⟩))))
          · exact .inr (.inr (.inr (.inl rfl)))
      · rw [decide_eq_false c2]
        rcases hd with ⟨A, t, rfl, hA, ht⟩ | ⟨u, l, m, rfl, u0, hu, hl, hm⟩
        · walk_at "d"
          rw [show D.eq (D.int (([D.str "rest", .tup ((mvL t A).map pt)] : List D).length : Nat)) (.int 2) = true from by rw [D.eq_int]; exact decide_eq_true rfl]
          walk_at "d"
          refine Ite.tt ?_
          walk_at "d"
          rw [List.length_map]
          have pA := List.length_pos_iff.mpr hA.r.1
          have lA := hA.l
          have ml : (mvL t A).length = A.length := mvL_len
          rw [decide_eq_true (show (0 : Int) < ((mvL t A).length : Nat) by omega)]
          walk_at "d"
          unfold g_Lbent_r1
          have mem := rx_told hA ht
          have ht2 : SzN (10 ^ 61) t := ht.le (by decide)
          have cl : ∀ lo hi, (cut ((mvL t A).map pt) lo hi).length ≤ 14 := fun lo hi => Nat.le_trans (cut_lenD _ _ _) (by rw [List.length_map]; omega)
          have c1l : ∀ xs : List D, (cut xs none (some 1)).length ≤ 1 := fun xs => by
            cases xs with
            | nil => decide
            | cons y ys => unfold cut; rw [List.length_take]; exact Nat.le_trans (Nat.min_le_left _ _) (by show HT.sIx (ys.length + 1) (ys.length + 1) (some 1) - HT.sIx (ys.length + 1) 0 none ≤ 1; unfold HT.sIx; simp)
          have r1 : RX (.tup (((mvL t A).map pt).reverse)) := rx_of (by rw [List.length_reverse, List.length_map]; omega) ht2 fun y m => mem y (List.mem_reverse.mp m)
          have r2 : RX (.tup (cut ((mvL t A).map pt) (some 1) none ++ cut ((mvL t A).map pt) none (some 1))) := rx_of (by rw [List.length_append]; have := cl (some 1) none; have := c1l ((mvL t A).map pt); omega) ht2 fun y m => mem y ((List.mem_append.mp m).elim cut_memD cut_memD)
          have r3 : RX (.tup (cut ((mvL t A).map pt) none (some (-1)))) := rx_of (by have := cl none (some (-1)); omega) ht2 fun y m => mem y (cut_memD m)
          have r4 : RX (.tup ((mvL t A).map pt ++ cut ((mvL t A).map pt) none (some 1))) := rx_of (by rw [List.length_append, List.length_map]; have := c1l ((mvL t A).map pt); omega) ht2 fun y m => mem y ((List.mem_append.mp m).elim id cut_memD)
          have r5 : RX (.tup (((mvL t A).map fun p => padd p (1, 0)).map pt)) := rx_of (by rw [List.length_map, List.length_map]; omega) ht2 fun y m => by
            obtain ⟨q, mq, rfl⟩ := List.mem_map.mp m
            obtain ⟨q2, mq2, rfl⟩ := List.mem_map.mp mq
            obtain ⟨p, mp, rfl⟩ := List.mem_map.mp mq2
            refine ⟨padd p (1, 0), ?_, ((hA.s p mp).add (n := 1) ⟨⟨by decide, by decide⟩, by decide, by decide⟩).le (by decide)⟩
            congr 1
            show padd (padd p t) (1, 0) = padd (padd p (1, 0)) t
            rw [padd_assoc, padd_comm t, ← padd_assoc]
          walk_at "d"
          refine i_addT (sizeL (by have := cl (some 1) none; have := cl none (some 1); omega)) ?_
          walk_at "d"
          refine i_addT (sizeL (by rw [List.length_map]; have := cl none (some 1); omega)) ?_
          walk_at "d"
          refine t_Lmoved (A := mvL t A) (t := (1, 0)) (by omega) ?_
          walk_at "d"
          refine t_Lround ⟨hs, by decide, by decide⟩ ?_
          rintro S f a b ⟨⟨hf, hSl, hS⟩, hs⟩
          have sS := rnd_shp hf hSl hS (by decide)
          have r6 : RX (.tup ((hullP f S).map pt)) := .inl ⟨_, (0, 0), by rw [mv_zero], by have := sS.l; omega, fun p m => (sS.s p m).le (by decide), ⟨by decide, by decide⟩, by decide, by decide⟩
          walk_at "d"
          refine i_addL (sizeL (show (5 + 5 : Nat) ≤ 1000 by decide)) ?_
          walk_at "d"
          refine t_Lone ⟨.inl rfl, hs, ?_, ?_⟩ ?_
          · show (0 : Nat) < 10; decide
          · show (10 : Nat) ≤ 1000; decide
          rintro x a b ⟨hx, hs⟩
          simp only [List.cons_append, List.nil_append, List.mem_cons, List.not_mem_nil, or_false] at hx
          have ok : RX x := by
            rcases hx with rfl | rfl | rfl | rfl | rfl | rfl | rfl | rfl | rfl | rfl
            · exact r1
            · exact r2
            · exact r3
            · exact r4
            · exact r5
            · exact .inr (.inl ⟨_, rfl⟩)
            · exact rP
            · exact rW
            · exact .inr (.inr rfl)
            · exact r6
          walk_at "d"
          exact h _ _ _ ⟨.inl ⟨_, _, rfl, fS.2.1, fun _ => ok⟩, hs⟩
        · walk_at "d"
          rw [show D.eq (D.int (([D.str "short", pt u, .int l, .int m] : List D).length : Nat)) (.int 2) = false from by rw [D.eq_int]; exact decide_eq_false (by simp)]
          walk_at "d"
          refine i_strI (Nat.lt_of_le_of_lt hm (by decide +kernel)) ?_
          walk_at "d"
          refine i_addL (sizeL (show (4 + 4 : Nat) ≤ 1000 by decide)) ?_
          walk_at "d"
          refine t_Lone ⟨.inl rfl, hs, ?_, ?_⟩ ?_
          · show (0 : Nat) < 8; decide
          · show (8 : Nat) ≤ 1000; decide
          rintro x a b ⟨hx, hs⟩
          simp only [List.cons_append, List.nil_append, List.mem_cons, List.not_mem_nil, or_false] at hx
          have fl : (D.lst [D.int u.1, D.int u.2]).flat 49 = true := rfl
          have ok : ∃ U L H, x = .tup [U, L, H] ∧ SdOk U L H := by
            rcases hx with rfl | rfl | rfl | rfl | rfl | rfl | rfl | rfl
            · exact ⟨_, _, _, rfl, .inl ⟨u, rfl, u0⟩, .inl ⟨_, rfl⟩, .inl ⟨_, rfl⟩⟩
            · exact ⟨_, _, _, rfl, .inl ⟨u, rfl, u0⟩, .inl ⟨_, rfl⟩, .inl ⟨_, rfl⟩⟩
            · exact ⟨_, _, _, rfl, .inl ⟨(2 * u.1, 2 * u.2), rfl, fun z => u0 (by have e1 := congrArg Prod.fst z; have e2 := congrArg Prod.snd z; dsimp only at e1 e2; exact Prod.ext (by dsimp only; omega) (by dsimp only; omega))⟩, .inl ⟨_, rfl⟩, .inl ⟨_, rfl⟩⟩
            · exact ⟨_, _, _, rfl, .inr ⟨_, rfl, fl⟩, .inl ⟨_, rfl⟩, .inl ⟨_, rfl⟩⟩
            · exact ⟨_, _, _, rfl, .inl ⟨(0 - u.1, 0 - u.2), rfl, fun z => u0 (by have e1 := congrArg Prod.fst z; have e2 := congrArg Prod.snd z; dsimp only at e1 e2; exact Prod.ext (by dsimp only; omega) (by dsimp only; omega))⟩, .inl ⟨_, rfl⟩, .inl ⟨_, rfl⟩⟩
            · exact ⟨_, _, _, rfl, .inl ⟨u, rfl, u0⟩, .inl ⟨_, rfl⟩, .inl ⟨_, rfl⟩⟩
            · exact ⟨_, _, _, rfl, .inl ⟨u, rfl, u0⟩, .inr (.inl ⟨_, rfl⟩), .inl ⟨_, rfl⟩⟩
            · exact ⟨_, _, _, rfl, .inl ⟨u, rfl, u0⟩, .inl ⟨_, rfl⟩, .inr (.inr ⟨_, rfl⟩)⟩
          obtain ⟨U, L, H, rfl, so⟩ := ok
          walk_at "d"
          refine i_addT (sizeL (show (1 + 3 : Nat) ≤ 1000 by decide)) ?_
          walk_at "d"
          exact h _ _ _ ⟨.inr (.inl ⟨_, _, _, _, rfl, fS.1, fun _ => so⟩), hs⟩

def g_Lis_whole : Ws :=
    (dRet (dAndV (dIsi isI (dVar 0)) (dNotV (dIsi isB (dVar 0)))))
abbrev N_Lis_whole : List Str := ["_law_value"]
theorem W_Lis_whole : ∀ ds Q E, S_Lis_whole ds Q E → g_Lis_whole (env0 N_Lis_whole ds) (endP Q E) := by
  rintro _ Q E ⟨d, rfl, hp, h⟩
  show g_Lis_whole [some (.fz (d))] (endP Q E)
  unfold g_Lis_whole
  walk_at "d"
  cases d with
  | int i => refine Ite.tt ?_; walk_at "d"; exact h
  | bl b => refine Ite.tt ?_; walk_at "d"; exact h
  | ob v => cases hp
  | exc a C dd d => cases hp
  | thk f c q σ is ds => cases hp
  | _ => refine Ite.ff ?_; exact h

def g_Lis_pair : Ws :=
    (dRet (dAndV (dIsi isT (dVar 0)) (dAndV (dOp gEq (dCall gLen (dCons (dVar 0) dNil)) (dC (.int 2))) (dAndV (dCallP S_Lis_whole (dCons (dOp gIx (dVar 0) (dC (.int 0))) dNil)) (dCallP S_Lis_whole (dCons (dOp gIx (dVar 0) (dC (.int 1))) dNil))))))
abbrev N_Lis_pair : List Str := ["_law_value"]
theorem W_Lis_pair : ∀ ds Q E, S_Lis_pair ds Q E → g_Lis_pair (env0 N_Lis_pair ds) (endP Q E) := by
  rintro _ Q E ⟨d, rfl, hp, h⟩
  show g_Lis_pair [some (.fz (d))] (endP Q E)
  unfold g_Lis_pair
  cases d with
  | tup xs =>
    have hA := flat_tupA (n := 49) hp
    walk_at "d"
    refine Ite.tt ?_
    walk_at "d"
    rw [D.eq_int]
    by_cases c1 : xs.length = 2
    · rw [decide_eq_true (show ((xs.length : Nat) : Int) = 2 by omega)]
      match xs, c1, hA, h with
      | [x, y], _, hA, h =>
        have fx := flat_noO (flatA_mem hA (show x ∈ [x, y] by simp))
        have fy := flat_noO (flatA_mem hA (show y ∈ [x, y] by simp))
        walk_at "d"
        refine t_Lis_whole fx ?_
        walk_at "d"
        refine Ite.by (fun c => ?_) (fun c => ?_)
        · obtain ⟨i, rfl⟩ := isWhK c
          walk_at "d"
          refine t_Lis_whole fy ?_
          cases y with
          | int j => exact h
          | _ => exact h
        · have e : isPtB (.tup [x, y]) = false := by
            cases x with
            | int i => exact absurd c (by show ¬ (true = false); decide)
            | _ => rfl
          rw [e] at h
          exact h
    · have e : isPtB (.tup xs) = false := by
        match xs, c1 with
        | [], _ => rfl
        | [x], _ => cases x <;> rfl
        | x :: y :: z :: r, _ => cases x <;> cases y <;> rfl
      rw [e] at h
      rw [decide_eq_false (show ¬ ((xs.length : Nat) : Int) = 2 by omega)]
      walk_at "d"
      exact h
  | ob v => cases hp
  | exc a C dd d => cases hp
  | thk f c q σ is ds => cases hp
  | _ =>
    walk_at "d"
    refine Ite.ff ?_
    exact h

def g_Lis_shape : Ws :=
    (dSeq (dIfS (dOr (dNot (dTest (dIsi isT (dVar 0)))) (dOr (dTest (dOp gEq (dCall gLen (dCons (dVar 0) dNil)) (dC (.int 0)))) (dTest (dOp gNe (dNw (nLc (iItems (dVar 0)) (gN 1) (dNot (dTest (dCallP S_Lis_pair (dCons (dVar 1) dNil)))) (dVar 1) [1])) (dNw (nLst dNil)))))) (dRet (dC (.bl false))) dSkip)
    (dRet (dOp gEq (dCallP S_Lhull (dCons (dCall gLstC (dCons (dVar 0) dNil)) dNil)) (dVar 0))))
abbrev N_Lis_shape : List Str := ["_law_value", "_law_one_here"]
theorem W_Lis_shape : ∀ ds Q E, S_Lis_shape ds Q E → g_Lis_shape (env0 N_Lis_shape ds) (endP Q E) := by
  rintro _ Q E ⟨X, rfl, hp, h⟩
  show g_Lis_shape [some (.fz (X)), none] (endP Q E)
  unfold g_Lis_shape
  obtain ⟨A, t, rfl, hl, hs, ht⟩ | ⟨xs, rfl⟩ | rfl := hp
  · have md := mv_md hs ht
    have la : (mvL t A).length = A.length := mvL_len
    have sp : ∀ p ∈ A, PtP p := fun p m => (hs p m).le (by decide)
    walk_at "d"
    refine Ite.nt ?_
    walk_at "d"
    rw [List.length_map, D.eq_int]
    cases A with
    | nil =>
      rw [show (mvL t ([] : List Pt)) = [] from rfl] at h
      rw [dB_f (fun z => (isAny_iff.mp z).1 rfl)] at h
      walk_at "d"
      refine Ite.tt ?_
      walk_at "d"
      exact h
    | cons a r =>
      rw [decide_eq_false (show ¬ (((mvL t (a :: r)).length : Nat) : Int) = 0 by rw [la]; simp; omega)]
      walk_at "d"
      refine ⟨sizeL (by rw [List.length_map]; omega), ?_⟩
      refine lcL_filt (f := pt) (p := fun _ => false) (fun v m P R hP hR => ?_) ?_
      · walk_at "d"
        refine t_Lis_pair rfl ?_
        walk_at "d"
        refine Ite.ff ?_
        exact hR rfl _ rfl
      rw [List.nil_append, show (mvL t (a :: r)).filter (fun _ => false) = [] from List.filter_eq_nil_iff.mpr fun _ _ => by decide, List.map_nil]
      walk_at "d"
      rw [show D.eq (.lst []) (.lst []) = true from rfl]
      walk_at "d"
      refine t_Lhull (S := mvL t (a :: r)) (f := padd a t) ⟨rfl, md, by omega⟩ ?_
      walk_at "d"
      refine i_eq (flat_tup (n := 59) fun _ => rfl) (flat_tup (n := 59) fun _ => rfl) ?_
      rw [D.eq_tup, D.eqA_map (fun a b => D.eq_pt)]
      have e : decide (hullP (padd a t) (mvL t (a :: r)) = mvL t (a :: r)) = dB (IsAny (.tup ((mvL t (a :: r)).map pt))) := by
        have iff := self_iff (t := t) (by simp) sp (by omega) (List.mem_cons_self (a := a) (l := r))
        by_cases c : Rnd (a :: r)
        · rw [dB_t (isAny_iff.mpr ((rndA_mv sp).mpr c)), decide_eq_true (iff.mpr c)]
        · rw [dB_f fun z => c ((rndA_mv sp).mp (isAny_iff.mp z)), decide_eq_false fun z => c (iff.mp z)]
      rw [e]
      exact h
  · rw [dB_f (not_any (.inl ⟨xs, rfl⟩))] at h
    walk_at "d"
    refine Ite.nf ?_
    walk_at "d"
    exact h
  · rw [dB_f (not_any (.inr rfl))] at h
    walk_at "d"
    refine Ite.nt ?_
    walk_at "d"
    rw [D.eq_int]
    walk_at "d"
    refine Ite.ff ?_
    walk_at "d"
    show lcL _ _ _ _ ([()].map fun _ => D.tup [.bl true, .int 0]) [] _ _
    refine lcL_filt (e := fun _ => D.tup [.bl true, .int 0]) (f := fun _ => D.tup [.bl true, .int 0]) (p := fun _ => true) (fun x m P R hP hR => ?_) ?_
    · walk_at "d"
      refine t_Lis_pair (d := .tup [.bl true, .int 0]) rfl ?_
      rw [show isPtB (.tup [.bl true, .int 0]) = false from rfl]
      walk_at "d"
      exact hP rfl _ rfl
    rw [show ([] ++ List.map (fun _ => D.tup [.bl true, .int 0]) (List.filter (fun _ => true) [()]) : List D) = [D.tup [.bl true, .int 0]] from rfl]
    walk_at "d"
    rw [show D.eq (.lst [D.tup [.bl true, .int 0]]) (.lst []) = false from by decide +kernel]
    walk_at "d"
    exact h

def g_Lholds : Ws :=
    (dSeq (dIfS (dOr (dNot (dTest (dIsi isT (dVar 2)))) (dTest (dOp (gIn true) (dCall gLen (dCons (dVar 2) dNil)) (dNw (nLst (dCons (dC (.int 2)) (dCons (dC (.int 4)) dNil))))))) (dRet (dC (.bl false))) dSkip)
    (dSeq (dIfS (dTest (dOp gEq (dCall gLen (dCons (dVar 2) dNil)) (dC (.int 2)))) (dRet (dAndV (dOp gEq (dOp gIx (dVar 2) (dC (.int 0))) (dC (.str "rest"))) (dAndV (dCallP S_Lis_shape (dCons (dOp gIx (dVar 2) (dC (.int 1))) dNil)) (dOp gEq (dCallP S_Lsum_due (dCons (dOp gIx (dVar 2) (dC (.int 1))) (dCons (dVar 1) dNil))) (dVar 0))))) dSkip)
    (dSeq (dAsg (dVar 2) (gT 4 (gsCons (gN 3) (gsCons (gN 4) (gsCons (gN 5) (gsCons (gN 6) gsNil))))))
    (dSeq (dIfS (dOr (dTest (dOp gNe (dVar 3) (dC (.str "short")))) (dOr (dNot (dTest (dCallP S_Lis_pair (dCons (dVar 4) dNil)))) (dOr (dNot (dTest (dCallP S_Lis_whole (dCons (dVar 5) dNil)))) (dNot (dTest (dCallP S_Lis_whole (dCons (dVar 6) dNil))))))) (dRet (dC (.bl false))) dSkip)
    (dSeq (dPar2 7 8 (mE (dCallP S_Llongs (dCons (dVar 0) dNil)) (mE (dCallP S_Llongs (dCons (dVar 1) dNil)) mNil)))
    (dRet (dAndV (dInD false (dVar 4) (dVar 8)) (dAndV (dOp gEq (dIxD (dVar 8) (dVar 4)) (dVar 6)) (dAndV (dOp gEq (dGet2 (dVar 7) (dVar 4) (dC (.int 0))) (dVar 5)) (dOp cLt (dVar 5) (dVar 6)))))))))))
abbrev N_Lholds : List Str := ["_law_whole", "_law_part", "_law_paper", "_law_word", "_law_u", "_law_low", "_law_high", "_law_longs_here", "_law_asked"]
theorem W_Lholds : ∀ ds Q E, S_Lholds ds Q E → g_Lholds (env0 N_Lholds ds) (endP Q E) := by
  rintro _ Q E ⟨W, P, d, rfl, hp, h⟩
  show g_Lholds [some (.fz (.tup (W.map pt))), some (.fz (.tup (P.map pt))), some (.fz (d)), none, none, none, none, none, none] (endP Q E)
  unfold g_Lholds
  obtain ⟨⟨⟨hW, hP⟩, W0, P0, w, s, ⟨eW, eP⟩, ⟨sW, sP⟩, hz⟩, hd⟩ := hp
  rcases hd with ⟨w, X, rfl, fw, hx⟩ | ⟨w, U, L, H, rfl, fw, hs⟩ | hj
  · rw [show holdsB W P (.tup [.str w, X]) = (decide (w = "rest") && dB (∃ ps : List Pt, X = .tup (ps.map pt) ∧ RndA ps ∧ sumP ps P = W)) from rfl] at h
    walk_at "d"
    refine Ite.nt ?_
    walk_at "d"
    refine two24 ?_
    walk_at "d"
    rw [show D.eq (D.int (([D.str w, X] : List D).length : Nat)) (.int 2) = true from by rw [D.eq_int]; exact decide_eq_true rfl]
    walk_at "d"
    refine i_eq (flat_up (by decide) fw) (by decide +kernel) ?_
    rw [D.eq_str]
    by_cases c : w = "rest"
    · have rx := hx c
      rw [decide_eq_true c, Bool.true_and] at h
      rw [decide_eq_true c]
      walk_at "d"
      refine t_Lis_shape rx ?_
      by_cases c2 : IsAny X
      · rw [dB_t c2]
        walk_at "d"
        obtain ⟨ps, rfl, hr⟩ := c2
        rcases rx with ⟨A, t, e, hl, hs, ht⟩ | ⟨xs, e⟩ | e
        · have e2 : ps = mvL t A := map_inj (fun _ _ => pt_inj) (D.tup.inj e)
          subst e2
          have sp : ∀ p ∈ A, PtP p := fun p m => (hs p m).le (by decide)
          have rA : Rnd A := (rndA_mv sp).mp hr
          have sA : Shp A 200000 16 := ⟨rA, hl, hs⟩
          have ad := (sA.add sP (by decide) (by decide)).2
          have hd : (sums (mvL t A) P).head? = some (padd (padd (gt A 0) (gt P0 0)) (padd t s)) := by
            rw [eP, sums_mv]
            unfold mvL
            rw [List.head?_map, sums_head rA.1 sP.r.1]; rfl
          have hm : ∀ p ∈ sums (mvL t A) P, MdP p := fun p m => by
            rw [eP, sums_mv] at m
            obtain ⟨q, mq, rfl⟩ := List.mem_map.mp m
            obtain ⟨a, b, ma, mb, rfl⟩ := mem_sums.mp mq
            exact (((hs a ma).add (sP.s b mb)).add (ht.add hz)).md' (by decide)
          refine t_Lsum_due ⟨hd, ⟨by rw [mvL_len]; exact hl, by rw [eP, mvL_len]; exact sP.l⟩, hm⟩ ?_
          walk_at "d"
          refine i_eq (flat_tup (n := 59) fun _ => rfl) (flat_tup (n := 59) fun _ => rfl) ?_
          rw [D.eq_tup, D.eqA_map (fun a b => D.eq_pt)]
          have eh : hullP (padd (padd (gt A 0) (gt P0 0)) (padd t s)) (sums (mvL t A) P) = sumP (mvL t A) P := by
            rw [eP, sums_mv, hull_mv, ad, sumP_mv rA.1 sP.r.1]
          rw [eh]
          have e : decide (sumP (mvL t A) P = W) = dB (∃ ps : List Pt, D.tup ((mvL t A).map pt) = .tup (ps.map pt) ∧ RndA ps ∧ sumP ps P = W) := by
            by_cases c3 : sumP (mvL t A) P = W
            · rw [decide_eq_true c3, dB_t ⟨mvL t A, rfl, hr, c3⟩]
            · rw [decide_eq_false c3, dB_f]
              rintro ⟨qs, e, _, e2⟩
              have e3 : mvL t A = qs := map_inj (fun _ _ => pt_inj) (D.tup.inj e)
              exact c3 (by rw [e3]; exact e2)
          rw [e]
          exact h
        · exact absurd ⟨ps, rfl, hr⟩ (not_any (.inl ⟨xs, e⟩))
        · exact absurd ⟨ps, rfl, hr⟩ (not_any (.inr e))
      · rw [dB_f c2]
        rw [dB_f (fun ⟨ps, e, hr, _⟩ => c2 ⟨ps, e, hr⟩)] at h
        walk_at "d"
        exact h
    · rw [decide_eq_false c, Bool.false_and] at h
      rw [decide_eq_false c]
      walk_at "d"
      exact h
  · rw [show holdsB W P (.tup [.str w, U, L, H]) = (decide (w = "short") && shortB W P U L H) from rfl] at h
    walk_at "d"
    refine Ite.nt ?_
    walk_at "d"
    refine four24 ?_
    walk_at "d"
    rw [show D.eq (D.int (([D.str w, U, L, H] : List D).length : Nat)) (.int 2) = false from by rw [D.eq_int]; exact decide_eq_false (by simp)]
    walk_at "d"
    refine i_ne (flat_up (by decide) fw) (by decide +kernel) ?_
    rw [D.eq_str]
    by_cases c : w = "short"
    · obtain ⟨hU, hL, hH⟩ := hs c
      rw [decide_eq_true c, Bool.true_and] at h
      rw [decide_eq_true c]
      walk_at "d"
      rcases hU with ⟨u, rfl, u0⟩ | ⟨xs, rfl, fx⟩
      · refine t_Lis_pair (d := pt u) rfl ?_
        rw [show isPtB (pt u) = true from rfl]
        walk_at "d"
        refine t_Lis_whole hL.noO ?_
        rcases hL with ⟨l, rfl⟩ | ⟨b, rfl⟩ | ⟨s, rfl⟩
        · rw [show isWhole (.int l) = true from rfl]
          walk_at "d"
          refine t_Lis_whole hH.noO ?_
          rcases hH with ⟨m, rfl⟩ | ⟨b, rfl⟩ | ⟨s, rfl⟩
          · rw [show isWhole (.int m) = true from rfl]
            rw [show shortB W P (pt u) (.int l) (.int m) = ((look (lenD (plSides P)) (pt u)).isSome && decide (lenAt (plSides P) u = m) && decide (lenAt (plSides W) u = l) && decide (l < m)) from rfl] at h
            walk_at "d"
            refine t_Llongs hW ?_
            walk_at "d"
            refine t_Llongs hP ?_
            walk_at "d"
            rw [Bool.false_xor]
            cases e : look (lenD (plSides P)) (pt u) with
            | none =>
              rw [e, show (none : Option D).isSome = false from rfl, Bool.false_and, Bool.false_and, Bool.false_and] at h
              rw [show (none : Option D).isSome = false from rfl]
              walk_at "d"
              exact h
            | some v =>
              have ev := look_v e
              subst ev
              rw [e, show (some (D.int (lenAt (plSides P) u))).isSome = true from rfl, Bool.true_and] at h
              rw [show (some (D.int (lenAt (plSides P) u))).isSome = true from rfl]
              walk_at "d"
              refine ⟨_, e, ?_⟩
              walk_at "d"
              rw [D.eq_int]
              by_cases c1 : lenAt (plSides P) u = m
              · rw [decide_eq_true c1, Bool.true_and] at h
                rw [decide_eq_true c1]
                walk_at "d"
                rw [look_lenD]
                refine i_eq rfl rfl ?_
                rw [D.eq_int]
                by_cases c2 : lenAt (plSides W) u = l
                · rw [decide_eq_true c2, Bool.true_and] at h
                  rw [decide_eq_true c2]
                  walk_at "d"
                  exact h
                · rw [decide_eq_false c2, Bool.false_and] at h
                  rw [decide_eq_false c2]
                  walk_at "d"
                  exact h
              · rw [decide_eq_false c1, Bool.false_and, Bool.false_and] at h
                rw [decide_eq_false c1]
                walk_at "d"
                exact h
          · rw [show isWhole (.bl b) = false from rfl]
            walk_at "d"
            exact h
          · rw [show isWhole (.str s) = false from rfl]
            walk_at "d"
            exact h
        · rw [show isWhole (.bl b) = false from rfl]
          walk_at "d"
          exact h
        · rw [show isWhole (.str s) = false from rfl]
          walk_at "d"
          exact h
      · refine t_Lis_pair (d := .lst xs) (flat_up (by decide) fx) ?_
        rw [show isPtB (.lst xs) = false from rfl]
        have h : Q (.bl false) := h
        walk_at "d"
        exact h
    · rw [decide_eq_false c, Bool.false_and] at h
      rw [decide_eq_false c]
      walk_at "d"
      exact h
  · rcases hj with rfl | ⟨xs, rfl⟩ | ⟨s, rfl⟩ | rfl | ⟨xs, rfl, n2, n4, _⟩ | ⟨x, X, rfl, hx⟩ | ⟨x, U, L, H, rfl, hx⟩
    · have h : Q (.bl false) := h
      walk_at "d"
      refine Ite.nf ?_
      walk_at "d"
      exact h
    · have h : Q (.bl false) := h
      walk_at "d"
      refine Ite.nf ?_
      walk_at "d"
      exact h
    · have h : Q (.bl false) := h
      walk_at "d"
      refine Ite.nf ?_
      walk_at "d"
      exact h
    · have h : Q (.bl false) := h
      walk_at "d"
      refine Ite.nf ?_
      walk_at "d"
      exact h
    · rw [holds_len n2 n4] at h
      walk_at "d"
      refine Ite.nt ?_
      walk_at "d"
      refine not24 (n := xs.length) ?_
      rw [decide_eq_false n2, decide_eq_false n4, show (!(false || false)) = true from rfl]
      walk_at "d"
      exact h
    · have e : holdsB W P (.tup [x, X]) = false ∧ D.eq x (.str "rest") = false ∧ x.flat 60 = true := by rcases hx with rfl | rfl <;> exact ⟨rfl, by decide +kernel, rfl⟩
      rw [e.1] at h
      walk_at "d"
      refine Ite.nt ?_
      walk_at "d"
      refine two24 ?_
      walk_at "d"
      rw [show D.eq (D.int (([x, X] : List D).length : Nat)) (.int 2) = true from by rw [D.eq_int]; exact decide_eq_true rfl]
      walk_at "d"
      refine i_eq e.2.2 (by decide +kernel) ?_
      rw [e.2.1]
      walk_at "d"
      exact h
    · have e : holdsB W P (.tup [x, U, L, H]) = false ∧ D.eq x (.str "short") = false ∧ x.flat 60 = true := by rcases hx with rfl | rfl <;> exact ⟨rfl, by decide +kernel, rfl⟩
      rw [e.1] at h
      walk_at "d"
      refine Ite.nt ?_
      walk_at "d"
      refine four24 ?_
      walk_at "d"
      rw [show D.eq (D.int (([x, U, L, H] : List D).length : Nat)) (.int 2) = false from by rw [D.eq_int]; exact decide_eq_false (by simp)]
      walk_at "d"
      refine i_ne e.2.2 (by decide +kernel) ?_
      rw [e.2.1]
      walk_at "d"
      exact h

def g_is_one_of : Ws :=
    (dRet (dAndV (dIsi isS (dVar 0)) (dOp (gInT false) (dVar 0) (dVar 1))))
abbrev N_is_one_of : List Str := ["value", "words"]
theorem W_is_one_of : ∀ ds Q E, S_is_one_of ds Q E → g_is_one_of (env0 N_is_one_of ds) (endP Q E) := by
  rintro _ Q E ⟨d, ws, rfl, hp, h⟩
  show g_is_one_of [some (.fz (d)), some (.fz (.tup ws))] (endP Q E)
  unfold g_is_one_of
  have nO := flat_noO hp.1
  walk_at "d"
  cases e : isS d with
  | false =>
    rw [e] at h
    refine Ite.ff ?_
    exact h
  | true =>
    rw [e] at h
    refine Ite.tt ?_
    walk_at "d"
    refine i_inT (flat_up (by decide) hp.1) hp.2 ?_
    rw [Bool.false_xor]
    exact h

def g_is_any_round : Ws :=
    (dSeq (dIfS (dOr (dNot (dTest (dIsi isT (dVar 0)))) (dNot (dTest (dChain cLe cLe (dC (.int 1)) (dCall gLen (dCons (dVar 0) dNil)) (dC C_MOST_CORNERS))))) (dRet (dC (.bl false))) dSkip)
    (dSeq (dIfS (dNot (dTest (dCall gAll (dCons (dNw (nLc (iItems (dVar 0)) (gN 2) tAll (dAndV (dCallP S_is_tuple_of (dCons (dVar 2) (dCons (dC (.int 2)) dNil))) (dAndV (dCallP S_is_whole (dCons (dOp gIx (dVar 2) (dC (.int 0))) dNil)) (dCallP S_is_whole (dCons (dOp gIx (dVar 2) (dC (.int 1))) dNil)))) [2])) dNil)))) (dRet (dC (.bl false))) dSkip)
    (dSeq (dSet 1 (dCallP S_plain_sides (dCons (dVar 0) dNil)))
    (dRet (dAndV (dNotV (dCall gAny (dCons (dNw (nLc (iItems (dVar 1)) (gN 3) tAll (dOp gEq (dVar 3) (dTup (dCons (dC (.int 0)) (dCons (dC (.int 0)) dNil)))) [3])) dNil))) (dCallP S_rises (dCons (dVar 1) dNil)))))))
abbrev N_is_any_round : List Str := ["value", "sides", "one", "side"]
theorem W_is_any_round : ∀ ds Q E, S_is_any_round ds Q E → g_is_any_round (env0 N_is_any_round ds) (endP Q E) := by
  rintro _ Q E ⟨X, rfl, hp, h⟩
  show g_is_any_round [some (.fz (X)), none, none, none] (endP Q E)
  unfold g_is_any_round
  obtain ⟨A, t, rfl, hl, hs, ht⟩ | ⟨xs, rfl⟩ | rfl := hp
  · have md := mv_md hs ht
    have la : (mvL t A).length = A.length := mvL_len
    have sp : ∀ p ∈ A, PtP p := fun p m => (hs p m).le (by decide)
    rw [show dB (IsAny (.tup ((mvL t A).map pt))) = dB (Rnd A) from by
      by_cases c : Rnd A
      · rw [dB_t c, dB_t (isAny_iff.mpr ((rndA_mv sp).mpr c))]
      · rw [dB_f c, dB_f fun z => c ((rndA_mv sp).mp (isAny_iff.mp z))]] at h
    walk_at "d"
    refine Ite.ff ?_
    walk_at "d"
    rw [List.length_map]
    refine Ite.dec (fun c1 => ?_) (fun c1 => ?_)
    · walk_at "d"
      rw [decide_eq_true (show (((mvL t A).length : Nat) : Int) ≤ 60 by omega)]
      walk_at "d"
      refine ⟨sizeL (by rw [List.length_map]; omega), ?_⟩
      refine lcL_of (f := fun _ => D.bl true) (fun p hp P hP => ?_) ?_
      · walk_at "d"
        refine t_is_tuple_of rfl ?_
        rw [show tupN 2 (pt p) = true from rfl]
        walk_at "d"
        refine t_is_whole (d := .int p.1) rfl ?_
        rw [show isWhole (.int p.1) = true from rfl]
        walk_at "d"
        refine t_is_whole (d := .int p.2) rfl ?_
        exact hP _ rfl
      walk_at "d"
      refine ⟨(mvL t A).map fun _ => true, by simp [Function.comp_def], ?_⟩
      rw [show (((mvL t A).map fun _ => true).all fun b => b) = true by simp]
      walk_at "d"
      have pos : A ≠ [] := fun z => by rw [la, z] at c1; simp at c1
      have hsd : (plSides A).length ≤ 60 := Nat.le_trans plSides_len (by omega)
      refine t_plain_sides ⟨mvL_ne.mpr pos, by omega⟩ ?_
      rw [sides_mv]
      walk_at "d"
      refine ⟨sizeL (by rw [List.length_map]; omega), ?_⟩
      refine lcL_of (f := fun s => D.bl (decide (s.1 = 0) && decide (s.2 = 0))) (fun s hs P hP => ?_) ?_
      · walk_at "d"
        rw [D.eq_pr]
        exact hP _ rfl
      rw [List.nil_append]
      walk_at "d"
      refine ⟨(plSides A).map fun s => decide (s.1 = 0) && decide (s.2 = 0), by rw [List.map_map]; rfl, ?_⟩
      rw [any_zero]
      by_cases c3 : ∃ s ∈ plSides A, s = (0, 0)
      · rw [dB_t c3]
        rw [dB_f (fun z : Rnd A => by obtain ⟨s, m, e⟩ := c3; exact z.2.2.2.1 s m e)] at h
        walk_at "d"
        exact h
      · rw [dB_f c3]
        walk_at "d"
        refine t_rises ⟨fun s m => side_sm sp m, hsd⟩ ?_
        have e4 : dB (Rises (plSides A)) = dB (Rnd A) := by
          by_cases c4 : Rises (plSides A)
          · rw [dB_t c4, dB_t (show Rnd A from ⟨pos, by omega, sp, fun s m z => c3 ⟨s, m, z⟩, c4⟩)]
          · rw [dB_f c4, dB_f fun z : Rnd A => c4 z.2.2.2.2]
        rw [e4]
        exact h
    · rw [dB_f (fun z : Rnd A => by have := List.length_pos_iff.mpr z.1; omega)] at h
      walk_at "d"
      exact h
  · rw [dB_f (not_any (.inl ⟨xs, rfl⟩))] at h
    walk_at "d"
    refine Ite.tt ?_
    walk_at "d"
    exact h
  · rw [dB_f (not_any (.inr rfl))] at h
    walk_at "d"
    refine Ite.ff ?_
    walk_at "d"
    rw [decide_eq_true (show (1 : Int) ≤ (([D.tup [.bl true, .int 0]] : List D).length : Nat) by decide)]
    walk_at "d"
    rw [decide_eq_true (show ((([D.tup [.bl true, .int 0]] : List D).length : Nat) : Int) ≤ 60 by decide)]
    walk_at "d"
    show lcL _ _ _ _ ([()].map fun _ => D.tup [.bl true, .int 0]) [] _ _
    refine lcL_of (e := fun _ => D.tup [.bl true, .int 0]) (f := fun _ => D.bl false) (fun x m P hP => ?_) ?_
    · walk_at "d"
      refine t_is_tuple_of (d := .tup [.bl true, .int 0]) rfl ?_
      rw [show tupN 2 (.tup [.bl true, .int 0]) = true from rfl]
      walk_at "d"
      refine t_is_whole (d := .bl true) rfl ?_
      rw [show isWhole (.bl true) = false from rfl]
      walk_at "d"
      exact hP _ rfl
    walk_at "d"
    refine ⟨[false], rfl, ?_⟩
    rw [show ([false].all fun b => b) = false from rfl]
    walk_at "d"
    exact h

def g_is_direction : Ws :=
    (dRet (dAndV (dCallP S_is_tuple_of (dCons (dVar 0) (dCons (dC (.int 2)) dNil))) (dAndV (dCallP S_is_whole (dCons (dOp gIx (dVar 0) (dC (.int 0))) dNil)) (dAndV (dCallP S_is_whole (dCons (dOp gIx (dVar 0) (dC (.int 1))) dNil)) (dOp gNe (dVar 0) (dTup (dCons (dC (.int 0)) (dCons (dC (.int 0)) dNil))))))))
abbrev N_is_direction : List Str := ["value"]
theorem W_is_direction : ∀ ds Q E, S_is_direction ds Q E → g_is_direction (env0 N_is_direction ds) (endP Q E) := by
  rintro _ Q E ⟨d, rfl, hp, h⟩
  show g_is_direction [some (.fz (d))] (endP Q E)
  unfold g_is_direction
  have nO := flat_noO hp
  walk_at "d"
  refine t_is_tuple_of nO ?_
  cases e : tupN 2 d with
  | false =>
    have e2 : isPtB d = false := by
      refine Bool.eq_false_iff.mpr fun z => ?_
      obtain ⟨p, rfl⟩ := isPtB_ex z
      cases e
    rw [e2] at h
    walk_at "d"
    exact h
  | true =>
    obtain ⟨x, y, rfl⟩ := tupN_two e
    have hA := flat_tupA (n := 49) hp
    have fx := flat_noO (flatA_mem hA (show x ∈ [x, y] by simp))
    have fy := flat_noO (flatA_mem hA (show y ∈ [x, y] by simp))
    walk_at "d"
    refine t_is_whole fx ?_
    walk_at "d"
    refine Ite.by (fun c => ?_) (fun c => ?_)
    · obtain ⟨i, rfl⟩ := isWhK c
      walk_at "d"
      refine t_is_whole fy ?_
      walk_at "d"
      refine Ite.by (fun c => ?_) (fun c => ?_)
      · obtain ⟨j, rfl⟩ := isWhK c
        walk_at "d"
        rw [D.eq_pr] at h ⊢
        exact h
      · have e : isPtB (.tup [.int i, y]) = false := by
          cases y with
          | int i => exact absurd c (by show ¬ (true = false); decide)
          | _ => rfl
        rw [e] at h
        exact h
    · have e : isPtB (.tup [x, y]) = false := by
        cases x with
        | int i => exact absurd c (by show ¬ (true = false); decide)
        | _ => rfl
      rw [e] at h
      exact h

def g_merged_by_b1 (f_slope_order : Addr) : Ws :=
    (dIfS (dTest (dOp cLe (dCallLoc 0 f_slope_order S_slope_order (dCons (dOp gIx (dVar 1) (dVar 4)) (dCons (dOp gIx (dVar 2) (dVar 5)) dNil))) (dC (.int 0)))) (dSeq (dExpr (dMt 3 gApp (dCons (dOp gIx (dVar 1) (dVar 4)) dNil)))
    (dAug 4 cAdd (dC (.int 1)))) (dSeq (dExpr (dMt 3 gApp (dCons (dOp gIx (dVar 2) (dVar 5)) dNil)))
    (dAug 5 cAdd (dC (.int 1)))))
def g_merged_by_r1 (f_slope_order : Addr) : Ws :=
    (dRet (dNw (nLst (dStar (dFrz 3) (dStar (dCut (dVar 1) (oSome (dVar 4)) oNone) (dStar (dCut (dVar 2) (oSome (dVar 5)) oNone) dNil))))))
def g_merged_by (f_slope_order : Addr) : Ws :=
    (dSeq (dPar3 3 4 5 (mN (nLst dNil) (mE (dC (.int 0)) (mE (dC (.int 0)) mNil))))
    (dSeq (dWhile (dAnd (dTest (dOp cLt (dVar 4) (dCall gLen (dCons (dVar 1) dNil)))) (dTest (dOp cLt (dVar 5) (dCall gLen (dCons (dVar 2) dNil))))) (g_merged_by_b1 f_slope_order))
    (g_merged_by_r1 f_slope_order)))
abbrev N_merged_by : List Str := ["order", "one", "other", "found", "first", "second"]
theorem W_merged_by {f_slope_order : Addr} : ∀ ds Q E, (S_merged_by f_slope_order) ds Q E → (g_merged_by f_slope_order) (env0 N_merged_by ds) (endP Q E) := by
  rintro _ Q E ⟨xs, ys, rfl, hp, h⟩
  show (g_merged_by f_slope_order) [some (.fz (.ob (.ref f_slope_order))), some (.fz (.lst (xs.map pt))), some (.fz (.lst (ys.map pt))), none, none, none] (endP Q E)
  unfold g_merged_by
  obtain ⟨hx, hy, hl⟩ := hp
  have fin : ∀ (i j : Nat) (acc : List Pt) (q : Addr) (ρ : Env), i ≤ xs.length → j ≤ ys.length → acc.length = i + j → (i = xs.length ∨ j = ys.length) → acc ++ mg (xs.drop i) (ys.drop j) = mg xs ys →
      ρ = [some (.fz (.ob (.ref f_slope_order))), some (.fz (.lst (xs.map pt))), some (.fz (.lst (ys.map pt))), some (.own q (acc.map pt)), some (.fz (.int i)), some (.fz (.int j))] → g_merged_by_r1 f_slope_order ρ (endP Q E) := by
    rintro i j acc q _ hi hj ha hij hm rfl
    unfold g_merged_by_r1
    walk_at "d"
    rw [cut_dropM i rfl]
    walk_at "d"
    rw [cut_dropM j rfl]
    walk_at "d"
    have e : acc.map pt ++ ((xs.drop i).map pt ++ ((ys.drop j).map pt ++ [])) = (mg xs ys).map pt := by
      rw [← hm, List.append_nil, List.map_append, ← List.map_append]
      congr 1
      rcases hij with z | z
      · rw [z, List.drop_length, mg_nil]; rfl
      · rw [z, List.drop_length, mg_nil2, List.append_nil]
    rw [e]
    refine ⟨sizeL ?_, h⟩
    rw [List.length_map, mg_len]; omega
  walk_at "d"
  refine while_I (fun m ρ => ∃ (i j : Nat) (acc : List Pt) (q : Addr), m = (xs.length - i) + (ys.length - j) ∧ i ≤ xs.length ∧ j ≤ ys.length ∧ acc.length = i + j ∧ acc ++ mg (xs.drop i) (ys.drop j) = mg xs ys ∧
      ρ = [some (.fz (.ob (.ref f_slope_order))), some (.fz (.lst (xs.map pt))), some (.fz (.lst (ys.map pt))), some (.own q (acc.map pt)), some (.fz (.int i)), some (.fz (.int j))]) ⟨0, 0, [], _, rfl, Nat.zero_le _, Nat.zero_le _, rfl, rfl, rfl⟩ ?_
  rintro _ _ ⟨i, j, acc, q, rfl, hi, hj, ha, hm, rfl⟩
  walk_at "d"
  refine Ite.dec (fun c => ?_) (fun c => ?_)
  · walk_at "d"
    rw [List.length_map] at c
    refine Ite.dec (fun c2 => ?_) (fun c2 => ?_)
    · rw [List.length_map] at c2
      have hi' : i < xs.length := by omega
      have hj' : j < ys.length := by omega
      unfold g_merged_by_b1
      walk_at "d"
      refine i_ixL (atI_map hi') ?_
      walk_at "d"
      refine i_ixL (atI_map hj') ?_
      walk_at "d"
      refine t_slope_order ⟨hx _ (List.getElem_mem _), hy _ (List.getElem_mem _)⟩ ?_
      walk_at "d"
      rw [drop_cons_get hi', drop_cons_get hj', mg_cons] at hm
      refine Ite.dec (fun c3 => ?_) (fun c3 => ?_)
      · rw [if_pos c3] at hm
        walk_at "d"
        refine i_ixL (atI_map hi') ?_
        walk_at "d"
        refine i_app (by rw [List.length_map]; exact sizeL' (by omega)) ?_
        walk_at "d"
        refine ⟨_, ?_, i + 1, j, acc ++ [xs[i]], q, rfl, hi', hj, by simp; omega, ?_, by simp⟩
        · omega
        · rw [drop_cons_get hj', List.append_assoc]; exact hm
      · rw [if_neg c3] at hm
        walk_at "d"
        refine i_ixL (atI_map hj') ?_
        walk_at "d"
        refine i_app (by rw [List.length_map]; exact sizeL' (by omega)) ?_
        walk_at "d"
        refine ⟨_, ?_, i, j + 1, acc ++ [ys[j]], q, rfl, hi, hj', by simp; omega, ?_, by simp⟩
        · omega
        · rw [drop_cons_get hi', List.append_assoc]; exact hm
    · rw [List.length_map] at c2
      exact fin i j acc q _ hi hj ha (.inr (by omega)) hm rfl
  · rw [List.length_map] at c
    walk_at "d"
    exact fin i j acc q _ hi hj ha (.inl (by omega)) hm rfl

def g_sorted_by_r1 (f_slope_order : Addr) : Ws :=
    (dSet 2 (dNw (nLst (dStar (dNw (nLc (iZipD (dCons (dStep 2 (dVar 2) oNone) (dCons (dStep 2 (dVar 2) (oSome (dC (.int 1)))) dNil))) (gT 2 (gsCons (gN 4) (gsCons (gN 5) gsNil))) tAll (dCallP (S_merged_by f_slope_order) (dCons (dVar 0) (dCons (dVar 4) (dCons (dVar 5) dNil)))) [4, 5])) (dStar (dVar 3) dNil)))))
def g_sorted_by_b1 (f_slope_order : Addr) : Ws :=
    (dSeq (dSet 3 (dIf (dTest (dOp gEq (dOp cMod (dCall gLen (dCons (dVar 2) dNil)) (dC (.int 2))) (dC (.int 0)))) (dNw (nLst dNil)) (dNw (nLst (dCons (dOp gIx (dVar 2) (dNeg (dC (.int 1)))) dNil)))))
    (g_sorted_by_r1 f_slope_order))
def g_sorted_by_r2 (f_slope_order : Addr) : Ws :=
    (dRet (dIf (dTest (dOp cGt (dCall gLen (dCons (dVar 2) dNil)) (dC (.int 0)))) (dOp gIx (dVar 2) (dC (.int 0))) (dNw (nLst dNil))))
def g_sorted_by (f_slope_order : Addr) : Ws :=
    (dSeq (dSet 2 (dNw (nLc (iItems (dVar 1)) (gN 4) tAll (dNw (nLst (dCons (dVar 4) dNil))) [4])))
    (dSeq (dWhile (dTest (dOp cGt (dCall gLen (dCons (dVar 2) dNil)) (dC (.int 1)))) (g_sorted_by_b1 f_slope_order))
    (g_sorted_by_r2 f_slope_order)))
abbrev N_sorted_by : List Str := ["order", "some", "runs", "last", "one", "other"]
theorem W_sorted_by {f_slope_order : Addr} : ∀ ds Q E, (S_sorted_by f_slope_order) ds Q E → (g_sorted_by f_slope_order) (env0 N_sorted_by ds) (endP Q E) := by
  rintro _ Q E ⟨xs, d, rfl, hp, h⟩
  show (g_sorted_by f_slope_order) [some (.fz (.ob (.ref f_slope_order))), some (.fz (d)), none, none, none, none] (endP Q E)
  unfold g_sorted_by
  obtain ⟨hd, hx, hl⟩ := hp
  have hit : itemsD d = some (xs.map pt) := by rcases hd with rfl | rfl <;> rfl
  walk_at "d"
  refine i_items hit ?_
  refine ⟨sizeL (by rw [List.length_map]; omega), ?_⟩
  refine lcL_of (f := fun p => L [p]) (fun v _ P hP => ?_) ?_
  · walk_at "d"
    exact hP _ rfl
  walk_at "d"
  have e0 : [] ++ xs.map (fun p => L [p]) = (xs.map fun p => [p]).map fun s => L (isort s) := by
    rw [List.nil_append, List.map_map]; rfl
  rw [e0]
  have fin : ∀ (ss : List (List Pt)) (a3 a4 a5 : Option Sv) (ρ : Env), ss.flatten = xs → ss.length ≤ 1 → ρ = [some (.fz (.ob (.ref f_slope_order))), some (.fz d), some (.fz (.lst (ss.map fun s => L (isort s)))), a3, a4, a5] → g_sorted_by_r2 f_slope_order ρ (endP Q E) := by
    rintro ss a3 a4 a5 _ hf h1 rfl
    unfold g_sorted_by_r2
    walk_at "d"
    match ss, hf, h1 with
    | [], hf, _ =>
      refine Ite.ff ?_
      walk_at "d"
      have : xs = [] := hf.symm
      subst this
      exact h
    | [s], hf, _ =>
      refine Ite.tt ?_
      walk_at "d"
      have : s = xs := by rw [← hf]; simp
      subst this
      exact h
    | _ :: _ :: r, _, h1 => simp only [List.length_cons] at h1; omega
  refine while_I (fun m ρ => ∃ (ss : List (List Pt)) (a3 a4 a5 : Option Sv), m = ss.length ∧ ss.length ≤ 500 ∧ ss.flatten = xs ∧ ρ = [some (.fz (.ob (.ref f_slope_order))), some (.fz d), some (.fz (.lst (ss.map fun s => L (isort s)))), a3, a4, a5]) ⟨_, _, _, _, rfl, by rw [List.length_map]; exact hl, flat_single xs, rfl⟩ ?_
  rintro _ _ ⟨ss, a3, a4, a5, rfl, hs, hf, rfl⟩
  walk_at "d"
  rw [List.length_map]
  refine Ite.dec (fun c => ?_) (fun c => ?_)
  · have hmem : ∀ s ∈ ss, ∀ p ∈ s, p ∈ xs := fun s h1 p h2 => by rw [← hf]; exact List.mem_flatten.mpr ⟨s, h1, h2⟩
    have next : ∀ (a4 a5 : Option Sv) (ρ : Env), ρ = [some (.fz (.ob (.ref f_slope_order))), some (.fz d), some (.fz (.lst (ss.map fun s => L (isort s)))), some (.fz (.lst (lastIf (ss.map fun s => L (isort s))))), a4, a5] →
      ∀ (D1 : Es), (∀ (a3 a4 a5 : Option Sv), D1.nx [some (.fz (.ob (.ref f_slope_order))), some (.fz d), some (.fz (.lst ((pairs (· ++ ·) ss).map fun s => L (isort s)))), a3, a4, a5]) → g_sorted_by_r1 f_slope_order ρ D1 := by
      rintro a4 a5 _ rfl ⟨nx, rt, bk, ct, ex, rn⟩ hD
      unfold g_sorted_by_r1
      walk_at "d"
      have sm : ∀ n, n ≤ ss.length → n ≤ sizeLine := fun n h => sizeL (by omega)
      have be := byStep_evens (ss.map fun s => L (isort s))
      have bo := byStep_odds (ss.map fun s => L (isort s))
      rw [List.length_map] at be bo
      rw [List.length_map]
      refine ⟨sm _ be.2, ?_⟩
      rw [be.1]
      walk_at "d"
      rw [List.length_map]
      refine ⟨sm _ bo.2, ?_⟩
      rw [bo.1]
      walk_at "d"
      refine ⟨_, _, rfl, _, _, .inr ⟨rfl, rfl⟩, ?_⟩
      rw [evens_map, odds_map, zipD_mapX]
      have hz : ((evens ss).zip (odds ss)).length ≤ ss.length := by rw [List.length_zip, evens_len, odds_len]; omega
      refine ⟨sm _ (by rw [List.length_map]; exact hz), ?_⟩
      refine lcL_of (f := fun p => L (isort (p.1 ++ p.2))) (fun p hp P hP => ?_) ?_
      · have m1 := evens_mem (List.of_mem_zip hp).1
        have m2 := odds_mem (List.of_mem_zip hp).2
        have l12 := flat_len2 hp
        rw [hf] at l12
        walk_at "d"
        refine t_merged_by ⟨fun q hq => (hx _ (hmem _ m1 _ (isort_mem.mp hq))).1, fun q hq => (hx _ (hmem _ m2 _ (isort_mem.mp hq))).1, by rw [isort_len, isort_len]; omega⟩ ?_
        rw [mg_isort (fun q hq => (hx _ (hmem _ m1 _ hq)).2) (fun q hq => (hx _ (hmem _ m2 _ hq)).2)]
        exact hP _ rfl
      walk_at "d"
      have ep : ([] ++ ((evens ss).zip (odds ss)).map fun p => L (isort (p.1 ++ p.2))) ++ (lastIf (ss.map fun s => L (isort s)) ++ []) = (pairs (· ++ ·) ss).map fun s => L (isort s) := by
        rw [← pairs_zip, List.nil_append, List.append_nil, lastIf_map, List.map_append, List.map_map]; rfl
      rw [ep]
      refine ⟨sm _ (by rw [List.length_map, pairs_len]; omega), ?_⟩
      exact hD _ _ _
    unfold g_sorted_by_b1
    walk_at "d"
    have fin2 := next a4 a5 _ rfl
    have ef : Int.fmod ((ss.map fun s => L (isort s)).length : Int) 2 = ((ss.length % 2 : Nat) : Int) := by rw [List.length_map]; exact fmod_nat _ 2
    rw [ef, D.eq_int]
    have pl : (pairs (· ++ ·) ss).length < ss.length := by rw [pairs_len]; omega
    refine Ite.dec (fun c2 => ?_) (fun c2 => ?_)
    · walk_at "d"
      rw [lastIf_even (by rw [List.length_map]; omega)] at fin2
      exact fin2 _ (fun b3 b4 b5 => ⟨_, pl, _, _, _, _, rfl, by omega, by rw [pairs_flat]; exact hf, rfl⟩)
    · obtain ⟨a, h1, h2⟩ := lastIf_odd (l := ss.map fun s => L (isort s)) (by rw [List.length_map]; omega)
      walk_at "d"
      refine i_ixL (atI_last h1) ?_
      walk_at "d"
      rw [h2] at fin2
      exact fin2 _ (fun b3 b4 b5 => ⟨_, pl, _, _, _, _, rfl, by omega, by rw [pairs_flat]; exact hf, rfl⟩)
  · exact fin ss a3 a4 a5 _ hf (by omega) rfl

def g_by_slopes (f_slope_order : Addr) : Ws :=
    (dRet (dCallP (S_sorted_by f_slope_order) (dCons (dC (.ob (.ref f_slope_order))) (dCons (dVar 0) dNil))))
abbrev N_by_slopes : List Str := ["vectors"]
theorem W_by_slopes {f_slope_order : Addr} : ∀ ds Q E, (S_by_slopes f_slope_order) ds Q E → (g_by_slopes f_slope_order) (env0 N_by_slopes ds) (endP Q E) := by
  rintro _ Q E ⟨xs, d, rfl, hp, h⟩
  show (g_by_slopes f_slope_order) [some (.fz (d))] (endP Q E)
  unfold g_by_slopes
  walk_at "d"
  refine t_sorted_by hp ?_
  exact h

def g_joined_sides_b1 (f_slope_order : Addr) : Ws :=
    (dIfS (dAnd (dTest (dOp cGt (dLenO 1) (dC (.int 0)))) (dTest (dOp gEq (dCallP S_slope_order (dCons (dIxO 1 (dNeg (dC (.int 1)))) (dCons (dVar 2) dNil))) (dC (.int 0))))) (dSetI 1 (dNeg (dC (.int 1))) (dCallP S_point_moved (dCons (dIxO 1 (dNeg (dC (.int 1)))) (dCons (dVar 2) dNil)))) (dExpr (dMt 1 gApp (dCons (dVar 2) dNil))))
def g_joined_sides_r1 (f_slope_order : Addr) : Ws :=
    (dRet (dFrz 1))
def g_joined_sides (f_slope_order : Addr) : Ws :=
    (dSeq (dNew 1 (nLst dNil))
    (dSeq (dFor (iItems (dCallP (S_by_slopes f_slope_order) (dCons (dVar 0) dNil))) (gN 2) (g_joined_sides_b1 f_slope_order))
    (g_joined_sides_r1 f_slope_order)))
abbrev N_joined_sides : List Str := ["vectors", "found", "vector"]
theorem W_joined_sides {f_slope_order : Addr} : ∀ ds Q E, (S_joined_sides f_slope_order) ds Q E → (g_joined_sides f_slope_order) (env0 N_joined_sides ds) (endP Q E) := by
  rintro _ Q E ⟨xs, rfl, hp, h⟩
  show (g_joined_sides f_slope_order) [some (.fz (.lst (xs.map pt))), none, none] (endP Q E)
  unfold g_joined_sides
  obtain ⟨hx, hl⟩ := hp
  walk_at "d"
  intro q0
  walk_at "d"
  refine t_by_slopes ⟨.inl rfl, fun p m => ⟨(hx p m).1.sm' (by decide), (hx p m).2⟩, by omega⟩ ?_
  walk_at "d"
  have hi : ∀ p ∈ isort xs, SzN (2 * 10 ^ 60) p ∧ p ≠ (0, 0) := fun p m => hx p ((isort_perm xs).mem_iff.mp m)
  have hil : (isort xs).length ≤ 200 := by rw [(isort_perm xs).length_eq]; exact hl
  refine forL_list (I := fun done ρ => ∃ (q : Addr) (a2 : Option Sv), ρ = [some (.fz (.lst (xs.map pt))), some (.own q ((joinS done).map pt)), a2]) ?_ ?_ ⟨_, _, rfl⟩
  · rintro _ ⟨q, a2, rfl⟩
    unfold g_joined_sides_r1
    walk_at "d"
    exact h
  · rintro done v rest _ e ⟨q, a2, rfl⟩ K hK
    have hd : ∀ p ∈ done, SzN (2 * 10 ^ 60) p := fun p m => (hi p (by rw [e]; simp [m])).1
    have dl : done.length ≤ 200 := by rw [e] at hil; simp at hil; omega
    have hs := joinS_sz (by decide) hd
    have hv := hi v (by rw [e]; simp)
    have bnd : (done.length : Int) * (2 * 10 ^ 60) ≤ 10 ^ 100 := by omega
    have key : ∀ a q, K [some (.fz (.lst (xs.map pt))), some (.own q ((jn (joinS done) v).map pt)), a] := fun a q => hK _ ⟨q, a, by rw [joinS_snoc]⟩
    unfold g_joined_sides_b1
    have al : (joinS done).length ≤ 200 := by have := joinS_len done; omega
    generalize joinS done = acc at *
    walk_at "d"
    rw [List.length_map]
    by_cases z : acc = []
    · subst z
      refine Ite.dec (fun c => absurd c (by simp)) (fun _ => ?_)
      walk_at "d"
      exact key _ _
    · obtain ⟨a0, l, rfl⟩ : ∃ a0 l, acc = a0 ++ [l] := ⟨acc.dropLast, acc.getLast z, (List.dropLast_concat_getLast z).symm⟩
      have el : (a0 ++ [l]).getLast? = some l := by simp
      have ej : jn (a0 ++ [l]) v = if slope l v = 0 then a0 ++ [padd l v] else (a0 ++ [l]) ++ [v] := by unfold jn; rw [el]; dsimp only; rw [List.dropLast_concat]
      rw [ej] at key
      have sl := hs l (by simp)
      have at' : atI ((a0 ++ [l]).map pt) (-1) = some (pt l) := atI_last (by simp)
      refine Ite.dec (fun _ => ?_) (fun c => absurd c (by simp))
      walk_at "d"
      refine i_ixO2 rfl at' ?_
      walk_at "d"
      refine t_slope_order ⟨sl.sm' bnd, hv.1.sm' (by decide)⟩ ?_
      walk_at "d"
      refine Ite.dec (fun c => ?_) (fun c => ?_)
      · rw [if_pos c] at key
        walk_at "d"
        refine i_ixO2 rfl at' ?_
        walk_at "d"
        refine t_point_moved trivial ?_
        walk_at "d"
        refine i_setI2 rfl (show ixN ((a0 ++ [l]).map pt).length (-1) = some a0.length by rw [List.length_map, List.length_append, List.length_singleton]; unfold ixN; rw [if_neg (by decide), if_pos (by omega)]; congr 1; omega) ?_
        walk_at "d"
        rw [set_last a0 l (padd l v) pt rfl]
        exact key _ _
      · rw [if_neg c] at key
        walk_at "d"
        refine i_app (sizeL' (by rw [List.length_map]; omega)) ?_
        walk_at "d"
        rw [show (a0 ++ [l]).map pt ++ [pt v] = ((a0 ++ [l]) ++ [v]).map pt by rw [List.map_append (l₂ := [v])]; rfl]
        exact key _ _

def g_plain_sum (f_slope_order : Addr) : Ws :=
    (dRet (dCallP S_corners_by (dCons (dCallP S_point_moved (dCons (dOp gIx (dVar 0) (dC (.int 0))) (dCons (dOp gIx (dVar 1) (dC (.int 0))) dNil))) (dCons (dCallP (S_joined_sides f_slope_order) (dCons (dNw (nLst (dStar (dCallP S_plain_sides (dCons (dVar 0) dNil)) (dStar (dCallP S_plain_sides (dCons (dVar 1) dNil)) dNil)))) dNil)) dNil))))
abbrev N_plain_sum : List Str := ["one", "other"]
theorem W_plain_sum {f_slope_order : Addr} : ∀ ds Q E, (S_plain_sum f_slope_order) ds Q E → (g_plain_sum f_slope_order) (env0 N_plain_sum ds) (endP Q E) := by
  rintro _ Q E ⟨A, B, rfl, hp, h⟩
  show (g_plain_sum f_slope_order) [some (.fz (.tup (A.map pt))), some (.fz (.tup (B.map pt)))] (endP Q E)
  unfold g_plain_sum
  obtain ⟨⟨ha, hz⟩, hb⟩ := hp
  have la := sides_len A
  have lb := sides_len B
  have l2 := ha.2.1
  have l3 := hb.2.1
  walk_at "d"
  refine i_ixT (gtP ha.1) ?_
  walk_at "d"
  refine i_ixT (gtP hb.1) ?_
  walk_at "d"
  refine t_point_moved trivial ?_
  walk_at "d"
  refine t_plain_sides ⟨ha.1, ha.2.1⟩ ?_
  walk_at "d"
  refine t_plain_sides hb.ps ?_
  walk_at "d"
  have cl := canon_len (plSides A ++ plSides B)
  rw [List.length_append] at cl
  have e : (plSides A).map pt ++ ((plSides B).map pt ++ []) = (plSides A ++ plSides B).map pt := by rw [List.append_nil, List.map_append]
  rw [e]
  refine ⟨sizeL (by rw [List.length_map, List.length_append]; omega), ?_⟩
  walk_at "d"
  refine t_joined_sides (xs := plSides A ++ plSides B) ⟨fun p m => ?_, by rw [List.length_append]; omega⟩ ?_
  · rcases List.mem_append.mp m with z | z
    · exact ⟨hz p z, ha.2.2.1 p z⟩
    · exact ⟨side_sz hb.2.2.1 z, hb.2.2.2.1 p z⟩
  walk_at "d"
  refine t_corners_by (by omega) ?_
  exact h

def g_accepts_rest (f_slope_order : Addr) : Ws :=
    (dSeq (dExpr (dCallP S_check_both (dCons (dVar 0) (dCons (dVar 1) dNil))))
    (dSeq (dIfS (dAnd (dTest (dCallP S_is_tuple_of (dCons (dVar 2) (dCons (dC (.int 2)) dNil)))) (dTest (dCallP S_is_one_of (dCons (dOp gIx (dVar 2) (dC (.int 0))) (dCons (dTup (dCons (dC (.str "rest")) dNil)) dNil))))) (dRet (dAndV (dCallP S_is_any_round (dCons (dOp gIx (dVar 2) (dC (.int 1))) dNil)) (dOp gEq (dCallP (S_plain_sum f_slope_order) (dCons (dOp gIx (dVar 2) (dC (.int 1))) (dCons (dVar 1) dNil))) (dVar 0)))) dSkip)
    (dSeq (dIfS (dOr (dNot (dTest (dCallP S_is_tuple_of (dCons (dVar 2) (dCons (dC (.int 4)) dNil))))) (dOr (dNot (dTest (dCallP S_is_one_of (dCons (dOp gIx (dVar 2) (dC (.int 0))) (dCons (dTup (dCons (dC (.str "short")) dNil)) dNil))))) (dNot (dTest (dCallP S_is_direction (dCons (dOp gIx (dVar 2) (dC (.int 1))) dNil)))))) (dRet (dC (.bl false))) dSkip)
    (dSeq (dIfS (dOr (dNot (dTest (dCallP S_is_whole (dCons (dOp gIx (dVar 2) (dC (.int 2))) dNil)))) (dOr (dNot (dTest (dCallP S_is_whole (dCons (dOp gIx (dVar 2) (dC (.int 3))) dNil)))) (dTest (dOp gNe (dGet1 (dCallP S_side_lengths (dCons (dVar 1) dNil)) (dOp gIx (dVar 2) (dC (.int 1)))) (dOp gIx (dVar 2) (dC (.int 3))))))) (dRet (dC (.bl false))) dSkip)
    (dRet (dAndV (dOp gEq (dGet2 (dCallP S_side_lengths (dCons (dVar 0) dNil)) (dOp gIx (dVar 2) (dC (.int 1))) (dC (.int 0))) (dOp gIx (dVar 2) (dC (.int 2)))) (dOp cLt (dOp gIx (dVar 2) (dC (.int 2))) (dOp gIx (dVar 2) (dC (.int 3))))))))))
abbrev N_accepts_rest : List Str := ["whole", "part", "paper"]
theorem W_accepts_rest {f_slope_order : Addr} : ∀ ds Q E, (S_accepts_rest f_slope_order) ds Q E → (g_accepts_rest f_slope_order) (env0 N_accepts_rest ds) (endP Q E) := by
  rintro _ Q E ⟨W, P, d, rfl, hp, h⟩
  show (g_accepts_rest f_slope_order) [some (.fz (.tup (W.map pt))), some (.fz (.tup (P.map pt))), some (.fz (d))] (endP Q E)
  unfold g_accepts_rest
  obtain ⟨⟨hW, hP⟩, hd⟩ := hp
  walk_at "d"
  refine t_check_both ⟨hW, hP⟩ ?_
  have f1 : D.flatA 59 [D.str "rest"] = true := by decide +kernel
  have f2 : D.flatA 59 [D.str "short"] = true := by decide +kernel
  rcases hd with ⟨w, X, rfl, fw, hx⟩ | ⟨w, U, L, H, rfl, fw, hs⟩ | hj
  · rw [show holdsB W P (.tup [.str w, X]) = (decide (w = "rest") && dB (∃ ps : List Pt, X = .tup (ps.map pt) ∧ RndA ps ∧ sumP ps P = W)) from rfl] at h
    walk_at "d"
    refine t_is_tuple_of (d := .tup [.str w, X]) rfl ?_
    rw [show tupN 2 (.tup [.str w, X]) = true from rfl]
    walk_at "d"
    refine t_is_one_of (d := .str w) ⟨flat_up (by decide) fw, f1⟩ ?_
    rw [show isS (.str w) = true from rfl, Bool.true_and, hasD_one]
    by_cases c : w = "rest"
    · have rx := hx c
      rw [decide_eq_true c, Bool.true_and] at h
      rw [decide_eq_true c]
      walk_at "d"
      refine t_is_any_round rx ?_
      by_cases c2 : IsAny X
      · rw [dB_t c2]
        walk_at "d"
        obtain ⟨ps, rfl, hr⟩ := c2
        rcases rx with ⟨A, t, e, hl, hs, ht⟩ | ⟨xs, e⟩ | e
        · have e2 : ps = mvL t A := map_inj (fun _ _ => pt_inj) (D.tup.inj e)
          subst e2
          refine t_plain_sum ⟨⟨hr, fun s m => ?_⟩, hP⟩ ?_
          · rw [sides_mv] at m
            exact (side_szS hs m).le (by decide)
          walk_at "d"
          refine i_eq (flat_tup (n := 59) fun _ => rfl) (flat_tup (n := 59) fun _ => rfl) ?_
          rw [D.eq_tup, D.eqA_map (fun a b => D.eq_pt)]
          have e : decide (sumP (mvL t A) P = W) = dB (∃ ps : List Pt, D.tup ((mvL t A).map pt) = .tup (ps.map pt) ∧ RndA ps ∧ sumP ps P = W) := by
            by_cases c3 : sumP (mvL t A) P = W
            · rw [decide_eq_true c3, dB_t ⟨mvL t A, rfl, hr, c3⟩]
            · rw [decide_eq_false c3, dB_f]
              rintro ⟨qs, e, _, e2⟩
              have e3 : mvL t A = qs := map_inj (fun _ _ => pt_inj) (D.tup.inj e)
              exact c3 (by rw [e3]; exact e2)
          rw [e]
          exact h
        · exact absurd ⟨ps, rfl, hr⟩ (not_any (.inl ⟨xs, e⟩))
        · exact absurd ⟨ps, rfl, hr⟩ (not_any (.inr e))
      · rw [dB_f c2]
        rw [dB_f (fun ⟨ps, e, hr, _⟩ => c2 ⟨ps, e, hr⟩)] at h
        walk_at "d"
        exact h
    · rw [decide_eq_false c, Bool.false_and] at h
      rw [decide_eq_false c]
      walk_at "d"
      refine t_is_tuple_of (d := .tup [.str w, X]) rfl ?_
      rw [show tupN 4 (.tup [.str w, X]) = false from rfl]
      walk_at "d"
      exact h
  · rw [show holdsB W P (.tup [.str w, U, L, H]) = (decide (w = "short") && shortB W P U L H) from rfl] at h
    walk_at "d"
    refine t_is_tuple_of (d := .tup [.str w, U, L, H]) rfl ?_
    rw [show tupN 2 (.tup [.str w, U, L, H]) = false from rfl]
    walk_at "d"
    refine t_is_tuple_of (d := .tup [.str w, U, L, H]) rfl ?_
    rw [show tupN 4 (.tup [.str w, U, L, H]) = true from rfl]
    walk_at "d"
    refine t_is_one_of (d := .str w) ⟨flat_up (by decide) fw, f2⟩ ?_
    rw [show isS (.str w) = true from rfl, Bool.true_and, hasD_one]
    by_cases c : w = "short"
    · obtain ⟨hU, hL, hH⟩ := hs c
      rw [decide_eq_true c, Bool.true_and] at h
      rw [decide_eq_true c]
      walk_at "d"
      rcases hU with ⟨u, rfl, u0⟩ | ⟨xs, rfl, fx⟩
      · refine t_is_direction (d := pt u) rfl ?_
        rw [D.eq_pt, decide_eq_false u0, show isPtB (pt u) = true from rfl, Bool.not_false, Bool.and_true]
        walk_at "d"
        refine t_is_whole hL.noO ?_
        rcases hL with ⟨l, rfl⟩ | ⟨b, rfl⟩ | ⟨s, rfl⟩
        · rw [show isWhole (.int l) = true from rfl]
          walk_at "d"
          refine t_is_whole hH.noO ?_
          rcases hH with ⟨m, rfl⟩ | ⟨b, rfl⟩ | ⟨s, rfl⟩
          · rw [show isWhole (.int m) = true from rfl]
            rw [show shortB W P (pt u) (.int l) (.int m) = ((look (lenD (plSides P)) (pt u)).isSome && decide (lenAt (plSides P) u = m) && decide (lenAt (plSides W) u = l) && decide (l < m)) from rfl] at h
            walk_at "d"
            refine t_side_lengths hP ?_
            walk_at "d"
            cases e : look (lenD (plSides P)) (pt u) with
            | none =>
              rw [e, show (none : Option D).isSome = false from rfl, Bool.false_and, Bool.false_and, Bool.false_and] at h
              refine i_ne rfl rfl ?_
              rw [show D.eq ((none : Option D).getD .non) (.int m) = false from non_int m]
              walk_at "d"
              exact h
            | some v =>
              have ev := look_v e
              subst ev
              rw [e, show (some (D.int (lenAt (plSides P) u))).isSome = true from rfl, Bool.true_and] at h
              refine i_ne rfl rfl ?_
              rw [show (some (D.int (lenAt (plSides P) u))).getD .non = .int (lenAt (plSides P) u) from rfl, D.eq_int]
              by_cases c1 : lenAt (plSides P) u = m
              · rw [decide_eq_true c1, Bool.true_and] at h
                rw [decide_eq_true c1]
                walk_at "d"
                refine t_side_lengths hW ?_
                walk_at "d"
                rw [look_lenD]
                refine i_eq rfl rfl ?_
                rw [D.eq_int]
                by_cases c2 : lenAt (plSides W) u = l
                · rw [decide_eq_true c2, Bool.true_and] at h
                  rw [decide_eq_true c2]
                  walk_at "d"
                  exact h
                · rw [decide_eq_false c2, Bool.false_and] at h
                  rw [decide_eq_false c2]
                  walk_at "d"
                  exact h
              · rw [decide_eq_false c1, Bool.false_and, Bool.false_and] at h
                rw [decide_eq_false c1]
                walk_at "d"
                exact h
          · rw [show isWhole (.bl b) = false from rfl]
            walk_at "d"
            exact h
          · rw [show isWhole (.str s) = false from rfl]
            walk_at "d"
            exact h
        · rw [show isWhole (.bl b) = false from rfl]
          walk_at "d"
          exact h
        · rw [show isWhole (.str s) = false from rfl]
          walk_at "d"
          exact h
      · refine t_is_direction (d := .lst xs) (flat_up (by decide) fx) ?_
        rw [show isPtB (.lst xs) = false from rfl, Bool.false_and]
        have h : Q (.bl false) := h
        walk_at "d"
        exact h
    · rw [decide_eq_false c, Bool.false_and] at h
      rw [decide_eq_false c]
      walk_at "d"
      exact h
  · rcases hj with rfl | ⟨xs, rfl⟩ | ⟨s, rfl⟩ | rfl | ⟨xs, rfl, n2, n4, _⟩ | ⟨x, X, rfl, hx⟩ | ⟨x, U, L, H, rfl, hx⟩
    · have h : Q (.bl false) := h
      walk_at "d"
      refine t_is_tuple_of (d := .non) rfl ?_
      rw [show tupN 2 .non = false from rfl]
      walk_at "d"
      refine t_is_tuple_of (d := .non) rfl ?_
      rw [show tupN 4 .non = false from rfl]
      walk_at "d"
      exact h
    · have h : Q (.bl false) := h
      walk_at "d"
      refine t_is_tuple_of (d := .lst xs) rfl ?_
      rw [show tupN 2 (.lst xs) = false from rfl]
      walk_at "d"
      refine t_is_tuple_of (d := .lst xs) rfl ?_
      rw [show tupN 4 (.lst xs) = false from rfl]
      walk_at "d"
      exact h
    · have h : Q (.bl false) := h
      walk_at "d"
      refine t_is_tuple_of (d := .str s) rfl ?_
      rw [show tupN 2 (.str s) = false from rfl]
      walk_at "d"
      refine t_is_tuple_of (d := .str s) rfl ?_
      rw [show tupN 4 (.str s) = false from rfl]
      walk_at "d"
      exact h
    · have h : Q (.bl false) := h
      walk_at "d"
      refine t_is_tuple_of (d := .dct []) rfl ?_
      rw [show tupN 2 (.dct []) = false from rfl]
      walk_at "d"
      refine t_is_tuple_of (d := .dct []) rfl ?_
      rw [show tupN 4 (.dct []) = false from rfl]
      walk_at "d"
      exact h
    · rw [holds_len n2 n4] at h
      walk_at "d"
      refine t_is_tuple_of (d := .tup xs) rfl ?_
      rw [show tupN 2 (.tup xs) = false from decide_eq_false (by omega)]
      walk_at "d"
      refine t_is_tuple_of (d := .tup xs) rfl ?_
      rw [show tupN 4 (.tup xs) = false from decide_eq_false (by omega)]
      walk_at "d"
      exact h
    · have e : holdsB W P (.tup [x, X]) = false ∧ isS x = false ∧ x.flat 50 = true := by rcases hx with rfl | rfl <;> exact ⟨rfl, rfl, rfl⟩
      rw [e.1] at h
      walk_at "d"
      refine t_is_tuple_of (d := .tup [x, X]) rfl ?_
      rw [show tupN 2 (.tup [x, X]) = true from rfl]
      walk_at "d"
      refine t_is_one_of (d := x) ⟨e.2.2, f1⟩ ?_
      rw [e.2.1, Bool.false_and]
      walk_at "d"
      refine t_is_tuple_of (d := .tup [x, X]) rfl ?_
      rw [show tupN 4 (.tup [x, X]) = false from rfl]
      walk_at "d"
      exact h
    · have e : holdsB W P (.tup [x, U, L, H]) = false ∧ isS x = false ∧ x.flat 50 = true := by rcases hx with rfl | rfl <;> exact ⟨rfl, rfl, rfl⟩
      rw [e.1] at h
      walk_at "d"
      refine t_is_tuple_of (d := .tup [x, U, L, H]) rfl ?_
      rw [show tupN 2 (.tup [x, U, L, H]) = false from rfl]
      walk_at "d"
      refine t_is_tuple_of (d := .tup [x, U, L, H]) rfl ?_
      rw [show tupN 4 (.tup [x, U, L, H]) = true from rfl]
      walk_at "d"
      refine t_is_one_of (d := x) ⟨e.2.2, f2⟩ ?_
      rw [e.2.1, Bool.false_and]
      walk_at "d"
      exact h

def g_law_b1 (f_slope_order : Addr) : Ws :=
    (dIfS (dTest (dOp gNe (dCall gReprD (dCons (dCallP (S_accepts_rest f_slope_order) (dCons (dVar 3) (dCons (dVar 8) (dCons (dVar 7) dNil)))) dNil)) (dCall gReprD (dCons (dCallP S_Lholds (dCons (dVar 3) (dCons (dVar 8) (dCons (dVar 7) dNil)))) dNil)))) (dRet (dC (.bl false))) dSkip)
def g_law_r1 (f_slope_order : Addr) : Ws :=
    (dSeq (dSet 4 (dCallOw 2 S_Lone (dCons (dNw (nLst (dCons (dC (.int 0)) (dCons (dC (.int 0)) (dCons (dOp cSub (dOp cPow (dC (.int 10)) (dC (.int 60))) (dC (.int 50))) dNil))))) dNil)))
    (dSeq (dAsg (dTup (dCons (dCallP S_Lmoved (dCons (dVar 8) (dCons (dTup (dCons (dOp cSub (dC (.int 0)) (dVar 4)) (dCons (dVar 4) dNil))) dNil))) (dCons (dCallP S_Lmoved (dCons (dVar 3) (dCons (dTup (dCons (dVar 4) (dCons (dOp cSub (dC (.int 0)) (dVar 4)) dNil))) dNil))) dNil))) (gT 2 (gsCons (gN 8) (gsCons (gN 3) gsNil))))
    (dSeq (dSet 5 (dCallP S_Lmoved (dCons (dVar 5) (dCons (dTup (dCons (dOp gMul (dC (.int 2)) (dVar 4)) (dCons (dOp cSub (dC (.int 0)) (dOp gMul (dC (.int 2)) (dVar 4))) dNil))) dNil))))
    (dSeq (dPar2 9 10 (mE (dCallP S_rest_paper (dCons (dVar 3) (dCons (dVar 8) dNil))) (mE (dCallP S_Lshort (dCons (dVar 3) (dCons (dVar 8) dNil))) mNil)))
    (dSeq (dIfS (dAnd (dTest (dOp (gIsN false) (dVar 10) (dC .non))) (dOr (dTest (dOp gNe (dCut (dVar 9) oNone (oSome (dC (.int 1)))) (dTup (dCons (dC (.str "rest")) dNil)))) (dNot (dTest (dCallP S_Lholds (dCons (dVar 3) (dCons (dVar 8) (dCons (dVar 9) dNil)))))))) (dRet (dC (.bl false))) dSkip)
    (dSeq (dIfS (dAnd (dTest (dOp (gIsN true) (dVar 10) (dC .non))) (dTest (dOp gNe (dCall gReprD (dCons (dVar 9) dNil)) (dCall gReprD (dCons (dOp gAdd (dTup (dCons (dC (.str "short")) dNil)) (dVar 10)) dNil))))) (dRet (dC (.bl false))) dSkip)
    (dSeq (dSet 6 (dOp gAdd (dNw (nLst (dCons (dVar 9) (dCons (dTup (dCons (dC (.str "rest")) (dCons (dVar 5) dNil))) dNil)))) (dCallP S_Lshorts (dCons (dVar 3) (dCons (dVar 8) dNil)))))
    (dFor (iItems (dOp gAdd (dVar 6) (dNw (nLc (iR1 (dCons (dC (.int 8)) dNil)) (gN 11) tAll (dCallOw 2 S_Lbent (dCons (dCallOw 2 S_Lone (dCons (dVar 6) dNil)) (dCons (dVar 3) (dCons (dVar 8) dNil)))) [11])))) (gN 7) (g_law_b1 f_slope_order)))))))))
def g_law_b2 (f_slope_order : Addr) : Ws :=
    (dSeq (dNew 2 (nCall S_Lpool (dCons (dVar 0) (dCons (dVar 1) dNil))))
    (dSeq (dAsg (dTup (dCons (dCallOw 2 S_Lround (dCons (dC (.int 4)) dNil)) (dCons (dCallOw 2 S_Lround (dCons (dC (.int 4)) dNil)) dNil))) (gT 2 (gsCons (gN 8) (gsCons (gN 5) gsNil))))
    (dSeq (dSet 3 (dIf (dTest (dOp gEq (dCallOw 2 S_Ltake (dCons (dC (.int 2)) dNil)) (dC (.int 0)))) (dCallP S_Lsum_due (dCons (dVar 8) (dCons (dVar 5) dNil))) (dVar 5)))
    (g_law_r1 f_slope_order))))
def g_law_r2 (f_slope_order : Addr) : Ws :=
    (dRet (dC (.bl true)))
def g_law (f_slope_order : Addr) : Ws :=
    (dSeq (dFor (iR1 (dCons (dCall gMax2 (dCons (dC (.int 1)) (dCons (dCall gMin2 (dCons (dCall gLen (dCons (dVar 0) dNil)) (dCons (dC (.int 6)) dNil))) dNil))) dNil)) (gN 1) (g_law_b2 f_slope_order))
    (g_law_r2 f_slope_order))
abbrev N_law : List Str := ["_law_script", "_law_k", "_law_source", "_law_whole", "_law_far", "_law_other", "_law_papers", "_law_paper", "_law_part", "_law_told", "_law_short_here", "_law_turn"]
theorem W_law {f_slope_order : Addr} : ∀ ds Q E, S_law ds Q E → (g_law f_slope_order) (env0 N_law ds) (endP Q E) := by
  rintro _ Q E ⟨ns, rfl, hp, h⟩
  show (g_law f_slope_order) [some (.fz (.ro (ns.map D.int))), none, none, none, none, none, none, none, none, none, none, none] (endP Q E)
  unfold g_law
  walk_at "d"
  refine i_range1 ?_ ?_
  · simp only [List.length_map]
    constructor <;> (repeat' split) <;> omega
  refine forL_all (fun d => ∃ i : Nat, d = .int i ∧ i < 64) (fun ρ => ∃ a1 a2 a3 a4 a5 a6 a7 a8 a9 a10, ρ = [some (.fz (.ro (ns.map D.int))), a1, a2, a3, a4, a5, a6, a7, a8, a9, a10, none]) ?_ ?_ ?_ ⟨_, _, _, _, _, _, _, _, _, _, rfl⟩
  · rintro _ ⟨a1, a2, a3, a4, a5, a6, a7, a8, a9, a10, rfl⟩
    unfold g_law_r2
    walk_at "d"
    exact h
  · rintro _ _ ⟨i, rfl, hi⟩ ⟨a1, a2, a3, a4, a5, a6, a7, a8, a9, a10, rfl⟩ K hK
    have main : ∀ (W0 P0 O0 : List Pt) (a b : Int) (q : Addr) (a4 a6 a7 a9 a10 : Option Sv) (bk : Env → Prop), SrcOk a b → Shp W0 8 14 → Shp P0 4 7 → Shp O0 4 7 → g_law_r1 f_slope_order [some (.fz (.ro (ns.map D.int))), some (.fz (.int i)), some (.own q [.int a, .int b]), some (.fz (.tup (W0.map pt))), a4, some (.fz (.tup (O0.map pt))), a6, a7, some (.fz (.tup (P0.map pt))), a9, a10, none] ⟨K, fun d _ => Q d, bk, K, fun x _ => E x, fun _ _ => False⟩ := by
      intro W0 P0 O0 a b q a4 a6 a7 a9 a10 bk hs sW0 sP0 sO0
      have sW : Shp W0 100 14 := ⟨sW0.r, sW0.l, fun p m => (sW0.s p m).le (by decide)⟩
      unfold g_law_r1
      walk_at "d"
      refine t_Lone ⟨.inl rfl, hs, by show (0 : Nat) < 3; decide, by show (3 : Nat) ≤ _; decide⟩ ?_
      rintro d a b ⟨hd, hs⟩
      rw [show ((10 : Int) ^ (60 : Int).toNat) = 10 ^ 60 from rfl] at hd
      obtain ⟨far, rfl, f0, f1⟩ : ∃ far : Int, d = .int far ∧ 0 ≤ far ∧ far ≤ 10 ^ 60 - 50 := by
        simp only [List.mem_cons, List.not_mem_nil, or_false] at hd
        rcases hd with rfl | rfl | rfl
        · exact ⟨0, rfl, by decide, by decide⟩
        · exact ⟨0, rfl, by decide, by decide⟩
        · exact ⟨_, rfl, by decide, by decide⟩
      have hw : SzN (10 ^ 60) (far, 0 - far) := ⟨⟨by dsimp only; omega, by dsimp only; omega⟩, by dsimp only; omega, by dsimp only; omega⟩
      have hz : SzN (10 ^ 60) (0 - far, far) := ⟨⟨by dsimp only; omega, by dsimp only; omega⟩, by dsimp only; omega, by dsimp only; omega⟩
      have ho : SzN (3 * 10 ^ 60) (2 * far, 0 - 2 * far) := ⟨⟨by dsimp only; omega, by dsimp only; omega⟩, by dsimp only; omega, by dsimp only; omega⟩
      have rW : Rnd (mvL (far, 0 - far) W0) := rnd_mvK sW0 fun p m => by
        obtain ⟨⟨z1, z2⟩, z3, z4⟩ := sW0.s p m
        unfold padd
        exact ⟨⟨by dsimp only; omega, by dsimp only; omega⟩, by dsimp only; omega, by dsimp only; omega⟩
      have rP : Rnd (mvL (0 - far, far) P0) := rnd_mvK sP0 fun p m => by
        obtain ⟨⟨z1, z2⟩, z3, z4⟩ := sP0.s p m
        unfold padd
        exact ⟨⟨by dsimp only; omega, by dsimp only; omega⟩, by dsimp only; omega, by dsimp only; omega⟩
      have xW : RX (.tup ((mvL (far, 0 - far) W0).map pt)) := .inl ⟨W0, _, rfl, by have := sW0.l; omega, fun p m => (sW0.s p m).le (by decide), hw.le (by decide)⟩
      have xP : RX (.tup ((mvL (0 - far, far) P0).map pt)) := .inl ⟨P0, _, rfl, by have := sP0.l; omega, fun p m => (sP0.s p m).le (by decide), hz.le (by decide)⟩
      have hctx : (Rnd (mvL (far, 0 - far) W0) ∧ Rnd (mvL (0 - far, far) P0)) ∧ ∃ W0' P0' w s, (mvL (far, 0 - far) W0 = mvL w W0' ∧ mvL (0 - far, far) P0 = mvL s P0') ∧ (Shp W0' 100 14 ∧ Shp P0' 4 7) ∧ SzN (10 ^ 60) s := ⟨⟨rW, rP⟩, W0, P0, _, _, ⟨rfl, rfl⟩, ⟨sW, sP0⟩, hz⟩
      have oT : ToldP (.tup [.str "rest", .tup ((mvL (2 * far, 0 - 2 * far) O0).map pt)]) := .inl ⟨O0, _, rfl, ⟨sO0.r, by have := sO0.l; omega, fun p m => (sO0.s p m).le (by decide)⟩, ho⟩
      have lW := sW0.l
      have lP := sP0.l
      have lO := sO0.l
      have rf := fun hF => restW sW sP0 hw hz hF
      have e0 : padd (toV (0 - far, far) (far, 0 - far)) (0 - far, far) = (far, 0 - far) := by unfold toV padd; exact Prod.ext (by dsimp only; omega) (by dsimp only; omega)
      have eS : plSides (mvL (far, 0 - far) W0) = plSides W0 := sides_mv _ _
      have eP : plSides (mvL (0 - far, far) P0) = plSides P0 := sides_mv _ _
      walk_at "d"
      refine t_Lmoved (A := P0) (t := (0 - far, far)) (by omega) ?_
      walk_at "d"
      refine t_Lmoved (A := W0) (t := (far, 0 - far)) (by omega) ?_
      walk_at "d"
      refine t_Lmoved (A := O0) (t := (2 * far, 0 - 2 * far)) (by omega) ?_
      walk_at "d"
      refine t_rest_paper (W := mvL (far, 0 - far) W0) (P := mvL (0 - far, far) P0) ⟨rW, rP⟩ ?_
      walk_at "d"
      refine t_Lshort (W := mvL (far, 0 - far) W0) (P := mvL (0 - far, far) P0) ⟨rW, rP⟩ ?_
      generalize ((far, 0 - far) : Pt) = w at *
      generalize ((0 - far, far) : Pt) = s at *
      generalize ((2 * far, 0 - 2 * far) : Pt) = t at *
      rw [show (W0.map fun p => padd p w) = mvL w W0 from rfl, show (P0.map fun p => padd p s) = mvL s P0 from rfl, show (O0.map fun p => padd p t) = mvL t O0 from rfl]
      have tail : ∀ (told : D) (a4 a6 a7 a10 : Option Sv), ToldP told → (dSeq (dSet 6 (dOp gAdd (dNw (nLst (dCons (dVar 9) (dCons (dTup (dCons (dC (.str "rest")) (dCons (dVar 5) dNil))) dNil)))) (dCallP S_Lshorts (dCons (dVar 3) (dCons (dVar 8) dNil))))) (dFor (iItems (dOp gAdd (dVar 6) (dNw (nLc (iR1 (dCons (dC (.int 8)) dNil)) (gN 11) tAll (dCallOw 2 S_Lbent (dCons (dCallOw 2 S_Lone (dCons (dVar 6) dNil)) (dCons (dVar 3) (dCons (dVar 8) dNil)))) [11])))) (gN 7) (g_law_b1 f_slope_order))) [some (.fz (.ro (ns.map D.int))), some (.fz (.int i)), some (.own q [.int a, .int b]), some (.fz (.tup ((mvL w W0).map pt))), a4, some (.fz (.tup ((mvL t O0).map pt))), a6, a7, some (.fz (.tup ((mvL s P0).map pt))), some (.fz told), a10, none] ⟨K, fun d _ => Q d, bk, K, fun x _ => E x, fun _ _ => False⟩ := by
        intro told a4 a6 a7 a10 hT
        walk_at "d"
        refine t_Lshorts ⟨rW, rP⟩ ?_
        refine i_addL (sizeL (by rw [List.length_map, eP]; have := sides_len P0; show 2 + _ ≤ 1000; omega)) ?_
        obtain ⟨L, eL⟩ : ∃ L : List D, L = [told, .tup [.str "rest", .tup ((mvL t O0).map pt)]] ++ (plSides (mvL s P0)).map fun x => .tup [.str "short", pt (bare x), .int (lenAt (plSides (mvL w W0)) (bare x)), .int (lenS x)] := ⟨_, rfl⟩
        have hL : ∀ d ∈ L, ToldP d := fun d md => by
          rw [eL] at md
          rcases List.mem_append.mp md with z | z
          · simp only [List.mem_cons, List.not_mem_nil, or_false] at z
            rcases z with rfl | rfl
            · exact hT
            · exact oT
          · obtain ⟨x, mx, rfl⟩ := List.mem_map.mp z
            rw [eP] at mx
            obtain ⟨b0, b1, b2⟩ := side_sml sP0 (by decide) mx
            rw [eS]
            exact .inr ⟨_, _, _, rfl, b0, b1, lenAt_sml sW (by decide) _, b2⟩
        have lL : 0 < L.length ∧ L.length ≤ 100 := by
          rw [eL, List.length_append, List.length_map, eP]
          have := sides_len P0
          exact ⟨by show 0 < 2 + _; omega, by show 2 + _ ≤ 100; omega⟩
        rw [← eL]
        clear eL
        walk_at "d"
        refine i_range1 (by constructor <;> omega) ?_
        refine ⟨sizeL (by rw [range_len]; omega), ?_⟩
        refine lcL_inv (fun ds acc ρ => ∃ (a b : Int), (∀ d ∈ acc, PapOk d) ∧ acc.length + ds.length = 8 ∧ SrcOk a b ∧ ρ = [some (.fz (.ro (ns.map D.int))), some (.fz (.int i)), some (.own q [.int a, .int b]), some (.fz (.tup ((mvL w W0).map pt))), a4, some (.fz (.tup ((mvL t O0).map pt))), some (.fz (.lst L)), a7, some (.fz (.tup ((mvL s P0).map pt))), some (.fz told), a10, none]) ?_ ?_ ⟨a, b, fun d m => (by cases m), by rw [range_len]; rfl, hs, rfl⟩
        · rintro acc _ ⟨a, b, ha, hl, hs, rfl⟩
          rw [List.length_nil] at hl
          walk_at "d"
          refine i_addL (sizeL (by omega)) ?_
          walk_at "d"
          refine forL_all PapOk (fun ρ => ∃ a7, ρ = [some (.fz (.ro (ns.map D.int))), some (.fz (.int i)), some (.own q [.int a, .int b]), some (.fz (.tup ((mvL w W0).map pt))), a4, some (.fz (.tup ((mvL t O0).map pt))), some (.fz (.lst L)), a7, some (.fz (.tup ((mvL s P0).map pt))), some (.fz told), a10, none]) ?_ ?_ ?_ ⟨_, rfl⟩
          · rintro _ ⟨a7, rfl⟩
            exact hK _ ⟨_, _, _, _, _, _, _, _, _, _, rfl⟩
          · rintro d _ hd ⟨a7, rfl⟩ K2 hK2
            unfold g_law_b1
            walk_at "d"
            refine t_accepts_rest ⟨⟨rW, rP⟩, hd⟩ ?_
            walk_at "d"
            refine i_reprD 5 Rp.bl (by decide) ?_
            walk_at "d"
            refine t_Lholds ⟨hctx, hd⟩ ?_
            walk_at "d"
            refine i_reprD 5 Rp.bl (by decide) ?_
            refine i_ne (Rp.flatS (k := 1) (n := 5) Rp.bl) (Rp.flatS (k := 1) (n := 5) Rp.bl) ?_
            rw [D.eq_str, decide_eq_true rfl]
            walk_at "d"
            exact hK2 _ ⟨_, rfl⟩
          · intro d md
            rcases List.mem_append.mp md with z | z
            · exact told_ok (hL d z)
            · exact ha d z
        · rintro d ds acc _ ⟨a, b, ha, hl, hs, rfl⟩ K2 hK2
          walk_at "d"
          refine t_Lone ⟨.inl rfl, hs, lL.1, by omega⟩ ?_
          rintro d a b ⟨hd, hs⟩
          walk_at "d"
          refine t_Lbent ⟨hs, hL d hd, xW, xP⟩ ?_
          rintro v a b ⟨hv, hs⟩
          walk_at "d"
          refine hK2 _ _ ⟨a, b, fun d md => ?_, by simp at hl ⊢; omega, hs, rfl⟩
          rcases List.mem_append.mp md with z | z
          · exact ha d z
          · rw [List.mem_singleton.mp z]; exact hv
      walk_at "d"
      refine i_isN (fun v e => by unfold firstD at e; split at e <;> cases e) ?_
      rcases firstD_cases (plSides (mvL w W0)) (plSides (mvL s P0)) with ⟨e, hF⟩ | ⟨x, mx, e⟩
      · rw [show paperD (mvL w W0) (mvL s P0) = .tup [.str "rest", .tup ((restP (mvL w W0) (mvL s P0)).map pt)] from by unfold paperD; rw [e]]
        rw [eS, eP] at hF
        obtain ⟨r1, r2, r3⟩ := rf hF
        have hT : ToldP (.tup [.str "rest", .tup ((restP (mvL w W0) (mvL s P0)).map pt)]) := .inl ⟨_, _, by rw [r1], r2, r3⟩
        have hold : holdsB (mvL w W0) (mvL s P0) (.tup [.str "rest", .tup ((restP (mvL w W0) (mvL s P0)).map pt)]) = true := by
          show (decide (("rest" : Str) = "rest") && dB _) = true
          rw [decide_eq_true rfl, Bool.true_and]
          refine dB_t ⟨_, rfl, ?_, ?_⟩
          · rw [r1]
            exact (rndA_mv fun p m => (r2.s p m).le (by decide)).mpr r2.r
          · rw [r1, sumP_mv r2.r.1 sP0.r.1, e0, rest_sum sW0.r sP0.r hF]
        rw [e]
        refine ⟨true, rfl, .tt ?_⟩
        walk_at "d"
        rw [show cut [D.str "rest", .tup ((restP (mvL w W0) (mvL s P0)).map pt)] none (some 1) = [D.str "rest"] from rfl]
        refine i_ne (by decide +kernel) (by decide +kernel) ?_
        rw [show D.eq (.tup [.str "rest"]) (.tup [.str "rest"]) = true from by decide +kernel]
        walk_at "d"
        refine t_Lholds ⟨hctx, told_ok hT⟩ ?_
        rw [hold]
        walk_at "d"
        refine i_isN (fun v e => by cases e) ?_
        refine ⟨false, rfl, .ff ?_⟩
        repeat (first | with_reducible refine Ite.ff ?_ | with_reducible refine s_skip ?_)
        exact tail _ _ _ _ _ hT
      · rw [show paperD (mvL w W0) (mvL s P0) = .tup [.str "short", pt (bare x), .int (lenAt (plSides (mvL w W0)) (bare x)), .int (lenS x)] from by unfold paperD; rw [e]]
        have mx2 := mx
        rw [eP] at mx2
        obtain ⟨b0, b1, b2⟩ := side_sml sP0 (by decide) mx2
        have b3 : (lenAt (plSides (mvL w W0)) (bare x)).natAbs ≤ 10 ^ 9 := by rw [eS]; exact lenAt_sml sW (by decide) _
        have hT : ToldP (.tup [.str "short", pt (bare x), .int (lenAt (plSides (mvL w W0)) (bare x)), .int (lenS x)]) := .inr ⟨_, _, _, rfl, b0, b1, b3, b2⟩
        rw [e]
        refine ⟨false, rfl, .ff ?_⟩
        walk_at "d"
        refine i_isN (fun v e => by cases e) ?_
        refine ⟨true, rfl, .tt ?_⟩
        have rp := rp_short b1 b3 b2
        walk_at "d"
        refine i_reprD 100000 rp (by decide) ?_
        walk_at "d"
        refine i_addT (sizeL (show (1 + 3 : Nat) ≤ 1000 by decide)) ?_
        rw [show [D.str "short"] ++ [pt (bare x), .int (lenAt (plSides (mvL w W0)) (bare x)), .int (lenS x)] = [D.str "short", pt (bare x), .int (lenAt (plSides (mvL w W0)) (bare x)), .int (lenS x)] from rfl]
        walk_at "d"
        refine i_reprD 100000 rp (by decide) ?_
        refine i_ne rp.flatS rp.flatS ?_
        rw [D.eq_str, decide_eq_true rfl]
        refine ⟨false, rfl, ?_⟩
        repeat (first | with_reducible refine Ite.ff ?_ | with_reducible refine s_skip ?_)
        exact tail _ _ _ _ _ hT
    unfold g_law_b2
    walk_at "d"
    refine t_Lpool ⟨hp, hi⟩ ?_
    rintro a b hs
    walk_at "d"
    intro q
    walk_at "d"
    refine t_Lround ⟨hs, by decide, by decide⟩ ?_
    rintro S f a b ⟨⟨hf, hSl, hS⟩, hs⟩
    walk_at "d"
    refine t_Lround ⟨hs, by decide, by decide⟩ ?_
    rintro S2 f2 a b ⟨⟨hf2, hSl2, hS2⟩, hs⟩
    have sP := rnd_shp hf hSl hS (by decide)
    have sO := rnd_shp hf2 hSl2 hS2 (by decide)
    generalize hullP f S = P0 at *
    generalize hullP f2 S2 = O0 at *
    walk_at "d"
    refine t_Ltake ⟨hs, by decide, by decide +kernel⟩ ?_
    rintro w a b ⟨hw, hs⟩
    walk_at "d"
    rw [D.eq_int]
    refine Ite.dec (fun c => ?_) (fun c => ?_)
    · have ad := sP.add sO (by decide) (by decide)
      walk_at "d"
      refine t_Lsum_due ⟨sums_head sP.r.1 sO.r.1, ⟨by have := sP.l; omega, sO.l⟩, sP.sums_md sO (by decide)⟩ ?_
      rw [ad.2]
      exact main _ _ _ _ _ _ _ _ _ _ _ _ hs ad.1 sP sO
    · walk_at "d"
      exact main _ _ _ _ _ _ _ _ _ _ _ _ hs ⟨sO.r, by have := sO.l; omega, fun p m => (sO.s p m).le (by decide)⟩ sP sO
  · intro d hd
    obtain ⟨i, h1, rfl⟩ := range_mem hd
    refine ⟨i, by rw [Int.zero_add], ?_⟩
    simp only [List.length_map] at h1
    revert h1
    (repeat' split) <;> intro h1 <;> omega

section
variable [TabSet] {P : Program} {w : World} {K : PySem.W.Frag} {mg : Str → Option Value} {base : Heap}
abbrev s_Lpool : Stmt := topS 42
theorem sc_Lpool : FnScope N_Lpool ["_law_script", "_law_k"] (defScope s_Lpool) := ⟨rfl, rfl, rfl, by decide +kernel, rfl, by decide +kernel, by decide +kernel⟩
theorem d_Lpool (z_len : mg "len" = none)
    (z_max : mg "max" = none)
    (z_int : mg "int" = none)
    {f : Addr} (cdv : Value) (A : Around) (outer : List PySem.Env) (s : Shared) (H : Hp) (E : XK) (hr : Room 0 (A.deeper (envOfC "_law_pool" (defScope s_Lpool) s.heap.objs.size f cdv))) :
    DSs (bodyX P w K mg base N_Lpool "_law_pool" s_Lpool f cdv A outer s H E) (defBody s_Lpool) g_Lpool :=
  (dss_cons (dset 2 sc_Lpool.nd de_int)
    (dss_cons (ds_if (dt_cmp op_Lt (dv 1) (de_callB c_len rfl z_len PySem.boot_len (da_cons (dv 0) da_nil)) (nomark _)) (dss_one (dset 2 sc_Lpool.nd (de_ix (dv 0) (dv 1)))) dss_nil)
    (dss_cons (dset 3 sc_Lpool.nd (de_callB (c_max2 rfl) rfl z_max (by decide +kernel) (da_cons (de_callTy c_int rfl z_int (by decide +kernel) (da_cons (dv 2) da_nil)) (da_cons (de_callTy c_int rfl z_int (by decide +kernel) (da_cons (de_op op_Sub (de_neg de_int) (dv 2)) da_nil)) da_nil))))
    (dss_cons (dset 4 sc_Lpool.nd (de_op op_Mod (de_callTy c_int rfl z_int (by decide +kernel) (da_cons (de_op op_Mul (de_op op_Add (de_op op_Add (de_op op_Add (de_op op_Mod (de_callTy c_int rfl z_int (by decide +kernel) (da_cons (dv 3) da_nil)) de_int) (de_op op_Mul (de_op op_Mul de_int (dv 1)) (dv 1))) (de_op op_Mul de_int (dv 1))) de_int) de_int) da_nil)) de_int))
    (dss_one (ds_retL (dn_lst (da_cons (de_op op_Mul (dv 3) (de_callTy c_int rfl z_int (by decide +kernel) (da_cons (de_cmp op_Ge (dv 3) (de_op op_Pow de_int de_int) (nomark _)) da_nil))) (da_cons (dv 4) da_nil)))))))))
theorem ok_Lpool (z_len : mg "len" = none)
    (z_max : mg "max" = none)
    (z_int : mg "int" = none)
    {f : Addr} {fd : FuncData} (F : Fun K "_law_pool" "_law_pool" s_Lpool f fd) : FnOk P w K mg base (L2.CX P w) 1 f fd ["_law_script", "_law_k"] (toSpN K S_Lpool) :=
  fnN F sc_Lpool Z_Lpool (d_Lpool z_len z_max z_int) W_Lpool
abbrev s_Ltake : Stmt := topS 43
theorem sc_Ltake : FnScope N_Ltake ["_law_source", "_law_top"] (defScope s_Ltake) := ⟨rfl, rfl, rfl, by decide +kernel, rfl, by decide +kernel, by decide +kernel⟩
theorem d_Ltake (z_int : mg "int" = none)
    {f : Addr} (cdv : Value) (A : Around) (outer : List PySem.Env) (s : Shared) (H : Hp) (E : XK) (hr : Room 0 (A.deeper (envOfC "_law_take" (defScope s_Ltake) s.heap.objs.size f cdv))) :
    DSs (bodyX P w K mg base N_Ltake "_law_take" s_Ltake f cdv A outer s H E) (defBody s_Ltake) g_Ltake :=
  (dss_cons (ds_if (dt_cmp op_Gt (dixO 0 de_int) de_int (nomark _)) (dss_cons (dset 2 sc_Ltake.nd (de_op op_Mod (de_callTy c_int rfl z_int (by decide +kernel) (da_cons (dixO 0 de_int) da_nil)) (dv 1)))
    (dss_cons (dsetI 0 de_int (de_op op_Div (dixO 0 de_int) (dv 1)))
    (dss_one (ds_ret (dv 2))))) dss_nil)
    (dss_cons (dsetI 0 de_int (de_op op_Mod (de_callTy c_int rfl z_int (by decide +kernel) (da_cons (de_op op_Add (de_op op_Mul (dixO 0 de_int) de_int) de_int) da_nil)) de_int))
    (dss_one (ds_ret (de_op op_Mod (de_callTy c_int rfl z_int (by decide +kernel) (da_cons (de_op op_Div (de_op op_Mod (de_callTy c_int rfl z_int (by decide +kernel) (da_cons (de_op op_Mul (dixO 0 de_int) (dixO 0 de_int)) da_nil)) de_int) de_int) da_nil)) (dv 1))))))
theorem ok_Ltake (z_int : mg "int" = none)
    {f : Addr} {fd : FuncData} (F : Fun K "_law_take" "_law_take" s_Ltake f fd) : FnOk P w K mg base (L2.CX P w) 1 f fd ["_law_source", "_law_top"] (toSpO K S_Ltake) :=
  fnO F sc_Ltake Z_Ltake (d_Ltake z_int) W_Ltake
abbrev s_Lone : Stmt := topS 44
theorem sc_Lone : FnScope N_Lone ["_law_source", "_law_things"] (defScope s_Lone) := ⟨rfl, rfl, rfl, by decide +kernel, rfl, by decide +kernel, by decide +kernel⟩
theorem d_Lone {f_Ltake : Addr}
    {fd_Ltake : FuncData} (G_Ltake : FnOk P w K mg base (L2.CX P w) 1 f_Ltake fd_Ltake ["_law_source", "_law_top"] (toSpO K S_Ltake)) (m_Ltake : mg "_law_take" = some (.ref f_Ltake)) (k_Ltake : PySem.W.keepIn K (.ref f_Ltake) = true) (b_Ltake : Binds K fd_Ltake ["_law_source", "_law_top"] [])
    (z_len : mg "len" = none)
    {f : Addr} (cdv : Value) (A : Around) (outer : List PySem.Env) (s : Shared) (H : Hp) (E : XK) (hr : Room 1 (A.deeper (envOfC "_law_one" (defScope s_Lone) s.heap.objs.size f cdv))) :
    DSs (bodyX P w K mg base N_Lone "_law_one" s_Lone f cdv A outer s H E) (defBody s_Lone) g_Lone :=
  (dss_one (ds_ret (de_ix (dv 1) (dcallO 0 M_Ltake G_Ltake (hr.mono (by decide)) rfl m_Ltake k_Ltake b_Ltake (da_cons (de_callB c_len rfl z_len PySem.boot_len (da_cons (dv 1) da_nil)) da_nil)))))
theorem ok_Lone {f_Ltake : Addr}
    {fd_Ltake : FuncData} (G_Ltake : FnOk P w K mg base (L2.CX P w) 1 f_Ltake fd_Ltake ["_law_source", "_law_top"] (toSpO K S_Ltake)) (m_Ltake : mg "_law_take" = some (.ref f_Ltake)) (k_Ltake : PySem.W.keepIn K (.ref f_Ltake) = true) (b_Ltake : Binds K fd_Ltake ["_law_source", "_law_top"] [])
    (z_len : mg "len" = none)
    {f : Addr} {fd : FuncData} (F : Fun K "_law_one" "_law_one" s_Lone f fd) : FnOk P w K mg base (L2.CX P w) 2 f fd ["_law_source", "_law_things"] (toSpO K S_Lone) :=
  fnO F sc_Lone Z_Lone (d_Lone G_Ltake m_Ltake k_Ltake b_Ltake z_len) W_Lone
abbrev s_Ladd : Stmt := topS 49
theorem sc_Ladd : FnScope N_Ladd ["_law_one_here", "_law_other"] (defScope s_Ladd) := ⟨rfl, rfl, rfl, by decide +kernel, rfl, by decide +kernel, by decide +kernel⟩
theorem d_Ladd 
    {f : Addr} (cdv : Value) (A : Around) (outer : List PySem.Env) (s : Shared) (H : Hp) (E : XK) (hr : Room 0 (A.deeper (envOfC "_law_add" (defScope s_Ladd) s.heap.objs.size f cdv))) :
    DSs (bodyX P w K mg base N_Ladd "_law_add" s_Ladd f cdv A outer s H E) (defBody s_Ladd) g_Ladd :=
  (dss_one (ds_ret (de_tup (da_cons (de_op op_Add (de_ix (dv 0) de_int) (de_ix (dv 1) de_int)) (da_cons (de_op op_Add (de_ix (dv 0) de_int) (de_ix (dv 1) de_int)) da_nil)))))
theorem ok_Ladd 
    {f : Addr} {fd : FuncData} (F : Fun K "_law_add" "_law_add" s_Ladd f fd) : FnOk P w K mg base (L2.CX P w) 1 f fd ["_law_one_here", "_law_other"] (toSpP K S_Ladd) :=
  fnP F sc_Ladd Z_Ladd (d_Ladd ) W_Ladd
abbrev s_Lmoved : Stmt := topS 57
theorem sc_Lmoved : FnScope N_Lmoved ["_law_shape", "_law_t"] (defScope s_Lmoved) := ⟨rfl, rfl, rfl, by decide +kernel, rfl, by decide +kernel, by decide +kernel⟩
theorem d_Lmoved {f_Ladd : Addr}
    {fd_Ladd : FuncData} (G_Ladd : FnOk P w K mg base (L2.CX P w) 1 f_Ladd fd_Ladd ["_law_one_here", "_law_other"] (toSpP K S_Ladd)) (m_Ladd : mg "_law_add" = some (.ref f_Ladd)) (k_Ladd : PySem.W.keepIn K (.ref f_Ladd) = true) (b_Ladd : Binds K fd_Ladd ["_law_one_here", "_law_other"] [])
    (z_tuple : mg "tuple" = none)
    {f : Addr} (cdv : Value) (A : Around) (outer : List PySem.Env) (s : Shared) (H : Hp) (E : XK) (hr : Room 1 (A.deeper (envOfC "_law_moved" (defScope s_Lmoved) s.heap.objs.size f cdv))) :
    DSs (bodyX P w K mg base N_Lmoved "_law_moved" s_Lmoved f cdv A outer s H E) (defBody s_Lmoved) g_Lmoved :=
  (dss_one (ds_ret (de_callTy c_tuple rfl z_tuple (by decide +kernel) (da_cons (de_n (dn_lc (own := [("_law_point_here", 2)]) rfl sc_Lmoved.nd (di_seq (dv 0)) (blkOk_by (own := [("_law_point_here", 2)]) (N := N_Lmoved) (sc := defScope s_Lmoved) (by decide +kernel)) (by decide) (fun _ _ _ _ _ => (dgn 2 sc_Lmoved.nd)) (fun _ _ _ _ _ => dts_nil) (fun _ _ _ _ _ => (de_call M_Ladd G_Ladd (hr.mono (by decide)) rfl m_Ladd k_Ladd b_Ladd (da_cons (dv 2) (da_cons (dv 1) da_nil)))))) da_nil))))
theorem ok_Lmoved {f_Ladd : Addr}
    {fd_Ladd : FuncData} (G_Ladd : FnOk P w K mg base (L2.CX P w) 1 f_Ladd fd_Ladd ["_law_one_here", "_law_other"] (toSpP K S_Ladd)) (m_Ladd : mg "_law_add" = some (.ref f_Ladd)) (k_Ladd : PySem.W.keepIn K (.ref f_Ladd) = true) (b_Ladd : Binds K fd_Ladd ["_law_one_here", "_law_other"] [])
    (z_tuple : mg "tuple" = none)
    {f : Addr} {fd : FuncData} (F : Fun K "_law_moved" "_law_moved" s_Lmoved f fd) : FnOk P w K mg base (L2.CX P w) 2 f fd ["_law_shape", "_law_t"] (toSpP K S_Lmoved) :=
  fnP F sc_Lmoved Z_Lmoved (d_Lmoved G_Ladd m_Ladd k_Ladd b_Ladd z_tuple) W_Lmoved
abbrev s_Llowest : Stmt := topS 50
theorem sc_Llowest : FnScope N_Llowest ["_law_points_here"] (defScope s_Llowest) := ⟨rfl, rfl, rfl, by decide +kernel, rfl, by decide +kernel, by decide +kernel⟩
theorem d_Llowest 
    {f : Addr} (cdv : Value) (A : Around) (outer : List PySem.Env) (s : Shared) (H : Hp) (E : XK) (hr : Room 0 (A.deeper (envOfC "_law_lowest" (defScope s_Llowest) s.heap.objs.size f cdv))) :
    DSs (bodyX P w K mg base N_Llowest "_law_lowest" s_Llowest f cdv A outer s H E) (defBody s_Llowest) g_Llowest :=
  (dss_cons (dset 1 sc_Llowest.nd (de_ix (dv 0) de_int))
    (dss_cons (ds_for own_passes rfl (di_seq (dv 0)) (dgn 2 sc_Llowest.nd) (dss_one (ds_if (dt_cmp (op_LtT hr.units0) (de_tup (da_cons (de_ix (dv 2) de_int) (da_cons (de_ix (dv 2) de_int) da_nil))) (de_tup (da_cons (de_ix (dv 1) de_int) (da_cons (de_ix (dv 1) de_int) da_nil))) (nomark _)) (dss_one (dset 1 sc_Llowest.nd (dv 2))) dss_nil)))
    (dss_one (ds_ret (dv 1)))))
theorem ok_Llowest 
    {f : Addr} {fd : FuncData} (F : Fun K "_law_lowest" "_law_lowest" s_Llowest f fd) : FnOk P w K mg base (L2.CX P w) 1 f fd ["_law_points_here"] (toSpP K S_Llowest) :=
  fnP F sc_Llowest Z_Llowest (d_Llowest ) W_Llowest
abbrev s_Lcross : Stmt := topS 46
theorem sc_Lcross : FnScope N_Lcross ["_law_one_here", "_law_other"] (defScope s_Lcross) := ⟨rfl, rfl, rfl, by decide +kernel, rfl, by decide +kernel, by decide +kernel⟩
theorem d_Lcross 
    {f : Addr} (cdv : Value) (A : Around) (outer : List PySem.Env) (s : Shared) (H : Hp) (E : XK) (hr : Room 0 (A.deeper (envOfC "_law_cross" (defScope s_Lcross) s.heap.objs.size f cdv))) :
    DSs (bodyX P w K mg base N_Lcross "_law_cross" s_Lcross f cdv A outer s H E) (defBody s_Lcross) g_Lcross :=
  (dss_one (ds_ret (de_op op_Sub (de_op op_Mul (de_ix (dv 0) de_int) (de_ix (dv 1) de_int)) (de_op op_Mul (de_ix (dv 0) de_int) (de_ix (dv 1) de_int)))))
theorem ok_Lcross 
    {f : Addr} {fd : FuncData} (F : Fun K "_law_cross" "_law_cross" s_Lcross f fd) : FnOk P w K mg base (L2.CX P w) 1 f fd ["_law_one_here", "_law_other"] (toSpP K S_Lcross) :=
  fnP F sc_Lcross Z_Lcross (d_Lcross ) W_Lcross
abbrev s_Lto : Stmt := topS 48
theorem sc_Lto : FnScope N_Lto ["_law_one_here", "_law_other"] (defScope s_Lto) := ⟨rfl, rfl, rfl, by decide +kernel, rfl, by decide +kernel, by decide +kernel⟩
theorem d_Lto 
    {f : Addr} (cdv : Value) (A : Around) (outer : List PySem.Env) (s : Shared) (H : Hp) (E : XK) (hr : Room 0 (A.deeper (envOfC "_law_to" (defScope s_Lto) s.heap.objs.size f cdv))) :
    DSs (bodyX P w K mg base N_Lto "_law_to" s_Lto f cdv A outer s H E) (defBody s_Lto) g_Lto :=
  (dss_one (ds_ret (de_tup (da_cons (de_op op_Sub (de_ix (dv 1) de_int) (de_ix (dv 0) de_int)) (da_cons (de_op op_Sub (de_ix (dv 1) de_int) (de_ix (dv 0) de_int)) da_nil)))))
theorem ok_Lto 
    {f : Addr} {fd : FuncData} (F : Fun K "_law_to" "_law_to" s_Lto f fd) : FnOk P w K mg base (L2.CX P w) 1 f fd ["_law_one_here", "_law_other"] (toSpP K S_Lto) :=
  fnP F sc_Lto Z_Lto (d_Lto ) W_Lto
abbrev s_Ldot : Stmt := topS 47
theorem sc_Ldot : FnScope N_Ldot ["_law_one_here", "_law_other"] (defScope s_Ldot) := ⟨rfl, rfl, rfl, by decide +kernel, rfl, by decide +kernel, by decide +kernel⟩
theorem d_Ldot 
    {f : Addr} (cdv : Value) (A : Around) (outer : List PySem.Env) (s : Shared) (H : Hp) (E : XK) (hr : Room 0 (A.deeper (envOfC "_law_dot" (defScope s_Ldot) s.heap.objs.size f cdv))) :
    DSs (bodyX P w K mg base N_Ldot "_law_dot" s_Ldot f cdv A outer s H E) (defBody s_Ldot) g_Ldot :=
  (dss_one (ds_ret (de_op op_Add (de_op op_Mul (de_ix (dv 0) de_int) (de_ix (dv 1) de_int)) (de_op op_Mul (de_ix (dv 0) de_int) (de_ix (dv 1) de_int)))))
theorem ok_Ldot 
    {f : Addr} {fd : FuncData} (F : Fun K "_law_dot" "_law_dot" s_Ldot f fd) : FnOk P w K mg base (L2.CX P w) 1 f fd ["_law_one_here", "_law_other"] (toSpP K S_Ldot) :=
  fnP F sc_Ldot Z_Ldot (d_Ldot ) W_Ldot
abbrev s_Lsize : Stmt := topS 52
theorem sc_Lsize : FnScope N_Lsize ["_law_one_here", "_law_other"] (defScope s_Lsize) := ⟨rfl, rfl, rfl, by decide +kernel, rfl, by decide +kernel, by decide +kernel⟩
theorem d_Lsize {f_Lto f_Ldot : Addr}
    {fd_Lto : FuncData} (G_Lto : FnOk P w K mg base (L2.CX P w) 1 f_Lto fd_Lto ["_law_one_here", "_law_other"] (toSpP K S_Lto)) (m_Lto : mg "_law_to" = some (.ref f_Lto)) (k_Lto : PySem.W.keepIn K (.ref f_Lto) = true) (b_Lto : Binds K fd_Lto ["_law_one_here", "_law_other"] [])
    {fd_Ldot : FuncData} (G_Ldot : FnOk P w K mg base (L2.CX P w) 1 f_Ldot fd_Ldot ["_law_one_here", "_law_other"] (toSpP K S_Ldot)) (m_Ldot : mg "_law_dot" = some (.ref f_Ldot)) (k_Ldot : PySem.W.keepIn K (.ref f_Ldot) = true) (b_Ldot : Binds K fd_Ldot ["_law_one_here", "_law_other"] [])
    {f : Addr} (cdv : Value) (A : Around) (outer : List PySem.Env) (s : Shared) (H : Hp) (E : XK) (hr : Room 1 (A.deeper (envOfC "_law_size" (defScope s_Lsize) s.heap.objs.size f cdv))) :
    DSs (bodyX P w K mg base N_Lsize "_law_size" s_Lsize f cdv A outer s H E) (defBody s_Lsize) g_Lsize :=
  (dss_cons (dset 2 sc_Lsize.nd (de_call M_Lto G_Lto (hr.mono (by decide)) rfl m_Lto k_Lto b_Lto (da_cons (dv 0) (da_cons (dv 1) da_nil))))
    (dss_one (ds_ret (de_call M_Ldot G_Ldot (hr.mono (by decide)) rfl m_Ldot k_Ldot b_Ldot (da_cons (dv 2) (da_cons (dv 2) da_nil))))))
theorem ok_Lsize {f_Lto f_Ldot : Addr}
    {fd_Lto : FuncData} (G_Lto : FnOk P w K mg base (L2.CX P w) 1 f_Lto fd_Lto ["_law_one_here", "_law_other"] (toSpP K S_Lto)) (m_Lto : mg "_law_to" = some (.ref f_Lto)) (k_Lto : PySem.W.keepIn K (.ref f_Lto) = true) (b_Lto : Binds K fd_Lto ["_law_one_here", "_law_other"] [])
    {fd_Ldot : FuncData} (G_Ldot : FnOk P w K mg base (L2.CX P w) 1 f_Ldot fd_Ldot ["_law_one_here", "_law_other"] (toSpP K S_Ldot)) (m_Ldot : mg "_law_dot" = some (.ref f_Ldot)) (k_Ldot : PySem.W.keepIn K (.ref f_Ldot) = true) (b_Ldot : Binds K fd_Ldot ["_law_one_here", "_law_other"] [])
    {f : Addr} {fd : FuncData} (F : Fun K "_law_size" "_law_size" s_Lsize f fd) : FnOk P w K mg base (L2.CX P w) 2 f fd ["_law_one_here", "_law_other"] (toSpP K S_Lsize) :=
  fnP F sc_Lsize Z_Lsize (d_Lsize G_Lto m_Lto k_Lto b_Lto G_Ldot m_Ldot k_Ldot b_Ldot) W_Lsize
abbrev s_Lhull : Stmt := topS 51
theorem sc_Lhull : FnScope N_Lhull ["_law_points_here"] (defScope s_Lhull) := ⟨rfl, rfl, rfl, by decide +kernel, rfl, by decide +kernel, by decide +kernel⟩
theorem d_Lhull {f_Llowest f_Lcross f_Lto f_Lsize : Addr}
    {fd_Llowest : FuncData} (G_Llowest : FnOk P w K mg base (L2.CX P w) 1 f_Llowest fd_Llowest ["_law_points_here"] (toSpP K S_Llowest)) (m_Llowest : mg "_law_lowest" = some (.ref f_Llowest)) (k_Llowest : PySem.W.keepIn K (.ref f_Llowest) = true) (b_Llowest : Binds K fd_Llowest ["_law_points_here"] [])
    {fd_Lcross : FuncData} (G_Lcross : FnOk P w K mg base (L2.CX P w) 1 f_Lcross fd_Lcross ["_law_one_here", "_law_other"] (toSpP K S_Lcross)) (m_Lcross : mg "_law_cross" = some (.ref f_Lcross)) (k_Lcross : PySem.W.keepIn K (.ref f_Lcross) = true) (b_Lcross : Binds K fd_Lcross ["_law_one_here", "_law_other"] [])
    {fd_Lto : FuncData} (G_Lto : FnOk P w K mg base (L2.CX P w) 1 f_Lto fd_Lto ["_law_one_here", "_law_other"] (toSpP K S_Lto)) (m_Lto : mg "_law_to" = some (.ref f_Lto)) (k_Lto : PySem.W.keepIn K (.ref f_Lto) = true) (b_Lto : Binds K fd_Lto ["_law_one_here", "_law_other"] [])
    {fd_Lsize : FuncData} (G_Lsize : FnOk P w K mg base (L2.CX P w) 2 f_Lsize fd_Lsize ["_law_one_here", "_law_other"] (toSpP K S_Lsize)) (m_Lsize : mg "_law_size" = some (.ref f_Lsize)) (k_Lsize : PySem.W.keepIn K (.ref f_Lsize) = true) (b_Lsize : Binds K fd_Lsize ["_law_one_here", "_law_other"] [])
    (z_range : mg "range" = none)
    (z_len : mg "len" = none)
    (z_tuple : mg "tuple" = none)
    {f : Addr} (cdv : Value) (A : Around) (outer : List PySem.Env) (s : Shared) (H : Hp) (E : XK) (hr : Room 2 (A.deeper (envOfC "_law_hull" (defScope s_Lhull) s.heap.objs.size f cdv))) :
    DSs (bodyX P w K mg base N_Lhull "_law_hull" s_Lhull f cdv A outer s H E) (defBody s_Lhull) g_Lhull :=
  (dss_cons (dnew 1 sc_Lhull.nd (dn_lst (da_cons (de_call M_Llowest G_Llowest (hr.mono (by decide)) rfl m_Llowest k_Llowest b_Llowest (da_cons (dv 0) da_nil)) da_nil)))
    (dss_cons (ds_for own_passes rfl (di_range1 rfl z_range (da_cons (de_callB c_len rfl z_len PySem.boot_len (da_cons (dv 0) da_nil)) da_nil)) (dgn 2 sc_Lhull.nd) (dss_cons (ds_par2 (i := 4) (j := 5) rfl sc_Lhull.nd rfl rfl (by decide) rfl rfl (dm_e (dixO 1 (de_neg de_int)) (dm_e de_non dm_nil)) (by rfl))
    (dss_cons (ds_for own_passes rfl (di_seq (dv 0)) (dgn 3 sc_Lhull.nd) (dss_one (ds_if (dt_cmp (op_Ne hr.units) (dv 3) (dv 4) (nomark _)) (dss_cons (dset 6 sc_Lhull.nd de_int)
    (dss_cons (ds_if (dt_cmp op_NotN (dv 5) de_non (nomark _)) (dss_one (dset 6 sc_Lhull.nd (de_call M_Lcross G_Lcross (hr.mono (by decide)) rfl m_Lcross k_Lcross b_Lcross (da_cons (de_call M_Lto G_Lto (hr.mono (by decide)) rfl m_Lto k_Lto b_Lto (da_cons (dv 4) (da_cons (dv 3) da_nil))) (da_cons (de_call M_Lto G_Lto (hr.mono (by decide)) rfl m_Lto k_Lto b_Lto (da_cons (dv 4) (da_cons (dv 5) da_nil))) da_nil))))) dss_nil)
    (dss_cons (ds_if (dt_w (dw_and (dt_cmp (op_Eq hr.units) (dv 6) de_int (nomark _)) (dw_and1 (dt_cmp op_Gt (de_call M_Lsize G_Lsize (hr.mono (by decide)) rfl m_Lsize k_Lsize b_Lsize (da_cons (dv 4) (da_cons (dv 3) da_nil))) (de_call M_Lsize G_Lsize (hr.mono (by decide)) rfl m_Lsize k_Lsize b_Lsize (da_cons (dv 4) (da_cons (dv 5) da_nil))) (nomark _))))) (dss_one (dset 6 sc_Lhull.nd de_int)) dss_nil)
    (dss_one (dset 5 sc_Lhull.nd (de_if (dt_cmp op_Gt (dv 6) de_int (nomark _)) (dv 3) (dv 5))))))) dss_nil)))
    (dss_cons (ds_if (dt_w (dw_or (dt_cmp op_IsN (dv 5) de_non (nomark _)) (dw_or1 (dt_cmp (op_Eq hr.units) (dv 5) (dixO 1 de_int) (nomark _))))) (dss_one (ds_ret (dtupO 1 z_tuple))) dss_nil)
    (dss_one (ds_expr (dmt 1 PySem.F.slot_list_append PySem.F.type_list_append m_app (da_cons (dv 5) da_nil))))))))
    (dss_one (ds_ret (dtupO 1 z_tuple)))))
theorem ok_Lhull {f_Llowest f_Lcross f_Lto f_Lsize : Addr}
    {fd_Llowest : FuncData} (G_Llowest : FnOk P w K mg base (L2.CX P w) 1 f_Llowest fd_Llowest ["_law_points_here"] (toSpP K S_Llowest)) (m_Llowest : mg "_law_lowest" = some (.ref f_Llowest)) (k_Llowest : PySem.W.keepIn K (.ref f_Llowest) = true) (b_Llowest : Binds K fd_Llowest ["_law_points_here"] [])
    {fd_Lcross : FuncData} (G_Lcross : FnOk P w K mg base (L2.CX P w) 1 f_Lcross fd_Lcross ["_law_one_here", "_law_other"] (toSpP K S_Lcross)) (m_Lcross : mg "_law_cross" = some (.ref f_Lcross)) (k_Lcross : PySem.W.keepIn K (.ref f_Lcross) = true) (b_Lcross : Binds K fd_Lcross ["_law_one_here", "_law_other"] [])
    {fd_Lto : FuncData} (G_Lto : FnOk P w K mg base (L2.CX P w) 1 f_Lto fd_Lto ["_law_one_here", "_law_other"] (toSpP K S_Lto)) (m_Lto : mg "_law_to" = some (.ref f_Lto)) (k_Lto : PySem.W.keepIn K (.ref f_Lto) = true) (b_Lto : Binds K fd_Lto ["_law_one_here", "_law_other"] [])
    {fd_Lsize : FuncData} (G_Lsize : FnOk P w K mg base (L2.CX P w) 2 f_Lsize fd_Lsize ["_law_one_here", "_law_other"] (toSpP K S_Lsize)) (m_Lsize : mg "_law_size" = some (.ref f_Lsize)) (k_Lsize : PySem.W.keepIn K (.ref f_Lsize) = true) (b_Lsize : Binds K fd_Lsize ["_law_one_here", "_law_other"] [])
    (z_range : mg "range" = none)
    (z_len : mg "len" = none)
    (z_tuple : mg "tuple" = none)
    {f : Addr} {fd : FuncData} (F : Fun K "_law_hull" "_law_hull" s_Lhull f fd) : FnOk P w K mg base (L2.CX P w) 3 f fd ["_law_points_here"] (toSpP K S_Lhull) :=
  fnP F sc_Lhull Z_Lhull (d_Lhull G_Llowest m_Llowest k_Llowest b_Llowest G_Lcross m_Lcross k_Lcross b_Lcross G_Lto m_Lto k_Lto b_Lto G_Lsize m_Lsize k_Lsize b_Lsize z_range z_len z_tuple) W_Lhull
abbrev s_Lpoint : Stmt := topS 54
theorem sc_Lpoint : FnScope N_Lpoint ["_law_source", "_law_size_here"] (defScope s_Lpoint) := ⟨rfl, rfl, rfl, by decide +kernel, rfl, by decide +kernel, by decide +kernel⟩
theorem d_Lpoint {f_Ltake : Addr}
    {fd_Ltake : FuncData} (G_Ltake : FnOk P w K mg base (L2.CX P w) 1 f_Ltake fd_Ltake ["_law_source", "_law_top"] (toSpO K S_Ltake)) (m_Ltake : mg "_law_take" = some (.ref f_Ltake)) (k_Ltake : PySem.W.keepIn K (.ref f_Ltake) = true) (b_Ltake : Binds K fd_Ltake ["_law_source", "_law_top"] [])
    {f : Addr} (cdv : Value) (A : Around) (outer : List PySem.Env) (s : Shared) (H : Hp) (E : XK) (hr : Room 1 (A.deeper (envOfC "_law_point" (defScope s_Lpoint) s.heap.objs.size f cdv))) :
    DSs (bodyX P w K mg base N_Lpoint "_law_point" s_Lpoint f cdv A outer s H E) (defBody s_Lpoint) g_Lpoint :=
  (dss_one (ds_ret (de_tup (da_cons (de_op op_Sub (dcallO 0 M_Ltake G_Ltake (hr.mono (by decide)) rfl m_Ltake k_Ltake b_Ltake (da_cons (de_op op_Add (de_op op_Mul de_int (dv 1)) de_int) da_nil)) (dv 1)) (da_cons (de_op op_Sub (dcallO 0 M_Ltake G_Ltake (hr.mono (by decide)) rfl m_Ltake k_Ltake b_Ltake (da_cons (de_op op_Add (de_op op_Mul de_int (dv 1)) de_int) da_nil)) (dv 1)) da_nil)))))
theorem ok_Lpoint {f_Ltake : Addr}
    {fd_Ltake : FuncData} (G_Ltake : FnOk P w K mg base (L2.CX P w) 1 f_Ltake fd_Ltake ["_law_source", "_law_top"] (toSpO K S_Ltake)) (m_Ltake : mg "_law_take" = some (.ref f_Ltake)) (k_Ltake : PySem.W.keepIn K (.ref f_Ltake) = true) (b_Ltake : Binds K fd_Ltake ["_law_source", "_law_top"] [])
    {f : Addr} {fd : FuncData} (F : Fun K "_law_point" "_law_point" s_Lpoint f fd) : FnOk P w K mg base (L2.CX P w) 2 f fd ["_law_source", "_law_size_here"] (toSpO K S_Lpoint) :=
  fnO F sc_Lpoint Z_Lpoint (d_Lpoint G_Ltake m_Ltake k_Ltake b_Ltake) W_Lpoint
abbrev s_Lpoints : Stmt := topS 55
theorem sc_Lpoints : FnScope N_Lpoints ["_law_source", "_law_many", "_law_size_here"] (defScope s_Lpoints) := ⟨rfl, rfl, rfl, by decide +kernel, rfl, by decide +kernel, by decide +kernel⟩
theorem d_Lpoints {f_Lpoint : Addr}
    {fd_Lpoint : FuncData} (G_Lpoint : FnOk P w K mg base (L2.CX P w) 2 f_Lpoint fd_Lpoint ["_law_source", "_law_size_here"] (toSpO K S_Lpoint)) (m_Lpoint : mg "_law_point" = some (.ref f_Lpoint)) (k_Lpoint : PySem.W.keepIn K (.ref f_Lpoint) = true) (b_Lpoint : Binds K fd_Lpoint ["_law_source", "_law_size_here"] [])
    (z_range : mg "range" = none)
    {f : Addr} (cdv : Value) (A : Around) (outer : List PySem.Env) (s : Shared) (H : Hp) (E : XK) (hr : Room 2 (A.deeper (envOfC "_law_points" (defScope s_Lpoints) s.heap.objs.size f cdv))) :
    DSs (bodyX P w K mg base N_Lpoints "_law_points" s_Lpoints f cdv A outer s H E) (defBody s_Lpoints) g_Lpoints :=
  (dss_one (ds_ret (de_n (dn_lc (own := [("_law_turn", 3)]) rfl sc_Lpoints.nd (di_range1 rfl z_range (da_cons (dv 1) da_nil)) (blkOk_by (own := [("_law_turn", 3)]) (N := N_Lpoints) (sc := defScope s_Lpoints) (by decide +kernel)) (by decide) (fun _ _ _ _ _ => (dgn 3 sc_Lpoints.nd)) (fun _ _ _ _ _ => dts_nil) (fun _ _ _ _ _ => (dcallO 0 M_Lpoint G_Lpoint (hr.mono (by decide)) rfl m_Lpoint k_Lpoint b_Lpoint (da_cons (dv 2) da_nil)))))))
theorem ok_Lpoints {f_Lpoint : Addr}
    {fd_Lpoint : FuncData} (G_Lpoint : FnOk P w K mg base (L2.CX P w) 2 f_Lpoint fd_Lpoint ["_law_source", "_law_size_here"] (toSpO K S_Lpoint)) (m_Lpoint : mg "_law_point" = some (.ref f_Lpoint)) (k_Lpoint : PySem.W.keepIn K (.ref f_Lpoint) = true) (b_Lpoint : Binds K fd_Lpoint ["_law_source", "_law_size_here"] [])
    (z_range : mg "range" = none)
    {f : Addr} {fd : FuncData} (F : Fun K "_law_points" "_law_points" s_Lpoints f fd) : FnOk P w K mg base (L2.CX P w) 3 f fd ["_law_source", "_law_many", "_law_size_here"] (toSpO K S_Lpoints) :=
  fnO F sc_Lpoints Z_Lpoints (d_Lpoints G_Lpoint m_Lpoint k_Lpoint b_Lpoint z_range) W_Lpoints
abbrev s_Lround : Stmt := topS 56
theorem sc_Lround : FnScope N_Lround ["_law_source", "_law_size_here"] (defScope s_Lround) := ⟨rfl, rfl, rfl, by decide +kernel, rfl, by decide +kernel, by decide +kernel⟩
theorem d_Lround {f_Lhull f_Lpoints f_Lone : Addr}
    {fd_Lhull : FuncData} (G_Lhull : FnOk P w K mg base (L2.CX P w) 3 f_Lhull fd_Lhull ["_law_points_here"] (toSpP K S_Lhull)) (m_Lhull : mg "_law_hull" = some (.ref f_Lhull)) (k_Lhull : PySem.W.keepIn K (.ref f_Lhull) = true) (b_Lhull : Binds K fd_Lhull ["_law_points_here"] [])
    {fd_Lpoints : FuncData} (G_Lpoints : FnOk P w K mg base (L2.CX P w) 3 f_Lpoints fd_Lpoints ["_law_source", "_law_many", "_law_size_here"] (toSpO K S_Lpoints)) (m_Lpoints : mg "_law_points" = some (.ref f_Lpoints)) (k_Lpoints : PySem.W.keepIn K (.ref f_Lpoints) = true) (b_Lpoints : Binds K fd_Lpoints ["_law_source", "_law_many", "_law_size_here"] [])
    {fd_Lone : FuncData} (G_Lone : FnOk P w K mg base (L2.CX P w) 2 f_Lone fd_Lone ["_law_source", "_law_things"] (toSpO K S_Lone)) (m_Lone : mg "_law_one" = some (.ref f_Lone)) (k_Lone : PySem.W.keepIn K (.ref f_Lone) = true) (b_Lone : Binds K fd_Lone ["_law_source", "_law_things"] [])
    {f : Addr} (cdv : Value) (A : Around) (outer : List PySem.Env) (s : Shared) (H : Hp) (E : XK) (hr : Room 3 (A.deeper (envOfC "_law_round" (defScope s_Lround) s.heap.objs.size f cdv))) :
    DSs (bodyX P w K mg base N_Lround "_law_round" s_Lround f cdv A outer s H E) (defBody s_Lround) g_Lround :=
  (dss_one (ds_ret (de_call M_Lhull G_Lhull (hr.mono (by decide)) rfl m_Lhull k_Lhull b_Lhull (da_cons (dcallO 0 M_Lpoints G_Lpoints (hr.mono (by decide)) rfl m_Lpoints k_Lpoints b_Lpoints (da_cons (dcallO 0 M_Lone G_Lone (hr.mono (by decide)) rfl m_Lone k_Lone b_Lone (da_cons (de_n (dn_lst (da_cons de_int (da_cons de_int (da_cons de_int (da_cons de_int (da_cons de_int (da_cons de_int (da_cons de_int da_nil))))))))) da_nil)) (da_cons (dv 1) da_nil))) da_nil))))
theorem ok_Lround {f_Lhull f_Lpoints f_Lone : Addr}
    {fd_Lhull : FuncData} (G_Lhull : FnOk P w K mg base (L2.CX P w) 3 f_Lhull fd_Lhull ["_law_points_here"] (toSpP K S_Lhull)) (m_Lhull : mg "_law_hull" = some (.ref f_Lhull)) (k_Lhull : PySem.W.keepIn K (.ref f_Lhull) = true) (b_Lhull : Binds K fd_Lhull ["_law_points_here"] [])
    {fd_Lpoints : FuncData} (G_Lpoints : FnOk P w K mg base (L2.CX P w) 3 f_Lpoints fd_Lpoints ["_law_source", "_law_many", "_law_size_here"] (toSpO K S_Lpoints)) (m_Lpoints : mg "_law_points" = some (.ref f_Lpoints)) (k_Lpoints : PySem.W.keepIn K (.ref f_Lpoints) = true) (b_Lpoints : Binds K fd_Lpoints ["_law_source", "_law_many", "_law_size_here"] [])
    {fd_Lone : FuncData} (G_Lone : FnOk P w K mg base (L2.CX P w) 2 f_Lone fd_Lone ["_law_source", "_law_things"] (toSpO K S_Lone)) (m_Lone : mg "_law_one" = some (.ref f_Lone)) (k_Lone : PySem.W.keepIn K (.ref f_Lone) = true) (b_Lone : Binds K fd_Lone ["_law_source", "_law_things"] [])
    {f : Addr} {fd : FuncData} (F : Fun K "_law_round" "_law_round" s_Lround f fd) : FnOk P w K mg base (L2.CX P w) 4 f fd ["_law_source", "_law_size_here"] (toSpO K S_Lround) :=
  fnO F sc_Lround Z_Lround (d_Lround G_Lhull m_Lhull k_Lhull b_Lhull G_Lpoints m_Lpoints k_Lpoints b_Lpoints G_Lone m_Lone k_Lone b_Lone) W_Lround
abbrev s_Lsum_due : Stmt := topS 58
theorem sc_Lsum_due : FnScope N_Lsum_due ["_law_shape", "_law_other"] (defScope s_Lsum_due) := ⟨rfl, rfl, rfl, by decide +kernel, rfl, by decide +kernel, by decide +kernel⟩
theorem d_Lsum_due {f_Ladd f_Lhull : Addr}
    {fd_Ladd : FuncData} (G_Ladd : FnOk P w K mg base (L2.CX P w) 1 f_Ladd fd_Ladd ["_law_one_here", "_law_other"] (toSpP K S_Ladd)) (m_Ladd : mg "_law_add" = some (.ref f_Ladd)) (k_Ladd : PySem.W.keepIn K (.ref f_Ladd) = true) (b_Ladd : Binds K fd_Ladd ["_law_one_here", "_law_other"] [])
    {fd_Lhull : FuncData} (G_Lhull : FnOk P w K mg base (L2.CX P w) 3 f_Lhull fd_Lhull ["_law_points_here"] (toSpP K S_Lhull)) (m_Lhull : mg "_law_hull" = some (.ref f_Lhull)) (k_Lhull : PySem.W.keepIn K (.ref f_Lhull) = true) (b_Lhull : Binds K fd_Lhull ["_law_points_here"] [])
    {f : Addr} (cdv : Value) (A : Around) (outer : List PySem.Env) (s : Shared) (H : Hp) (E : XK) (hr : Room 3 (A.deeper (envOfC "_law_sum_due" (defScope s_Lsum_due) s.heap.objs.size f cdv))) :
    DSs (bodyX P w K mg base N_Lsum_due "_law_sum_due" s_Lsum_due f cdv A outer s H E) (defBody s_Lsum_due) g_Lsum_due :=
  (dss_cons (dset 2 sc_Lsum_due.nd (de_n (dn_lst da_nil)))
    (dss_cons (ds_for own_passes rfl (di_seq (dv 0)) (dgn 3 sc_Lsum_due.nd) (dss_one (dset 2 sc_Lsum_due.nd (de_op op_Add (dv 2) (de_n (dn_lc (own := [("_law_b", 4)]) rfl sc_Lsum_due.nd (di_seq (dv 1)) (blkOk_by (own := [("_law_b", 4)]) (N := N_Lsum_due) (sc := defScope s_Lsum_due) (by decide +kernel)) (by decide) (fun _ _ _ _ _ => (dgn 4 sc_Lsum_due.nd)) (fun _ _ _ _ _ => dts_nil) (fun _ _ _ _ _ => (de_call M_Ladd G_Ladd (hr.mono (by decide)) rfl m_Ladd k_Ladd b_Ladd (da_cons (dv 3) (da_cons (dv 4) da_nil))))))))))
    (dss_one (ds_ret (de_call M_Lhull G_Lhull (hr.mono (by decide)) rfl m_Lhull k_Lhull b_Lhull (da_cons (dv 2) da_nil))))))
theorem ok_Lsum_due {f_Ladd f_Lhull : Addr}
    {fd_Ladd : FuncData} (G_Ladd : FnOk P w K mg base (L2.CX P w) 1 f_Ladd fd_Ladd ["_law_one_here", "_law_other"] (toSpP K S_Ladd)) (m_Ladd : mg "_law_add" = some (.ref f_Ladd)) (k_Ladd : PySem.W.keepIn K (.ref f_Ladd) = true) (b_Ladd : Binds K fd_Ladd ["_law_one_here", "_law_other"] [])
    {fd_Lhull : FuncData} (G_Lhull : FnOk P w K mg base (L2.CX P w) 3 f_Lhull fd_Lhull ["_law_points_here"] (toSpP K S_Lhull)) (m_Lhull : mg "_law_hull" = some (.ref f_Lhull)) (k_Lhull : PySem.W.keepIn K (.ref f_Lhull) = true) (b_Lhull : Binds K fd_Lhull ["_law_points_here"] [])
    {f : Addr} {fd : FuncData} (F : Fun K "_law_sum_due" "_law_sum_due" s_Lsum_due f fd) : FnOk P w K mg base (L2.CX P w) 4 f fd ["_law_shape", "_law_other"] (toSpP K S_Lsum_due) :=
  fnP F sc_Lsum_due Z_Lsum_due (d_Lsum_due G_Ladd m_Ladd k_Ladd b_Ladd G_Lhull m_Lhull k_Lhull b_Lhull) W_Lsum_due
abbrev s_vector_between : Stmt := topS 17
theorem sc_vector_between : FnScope N_vector_between ["one", "other"] (defScope s_vector_between) := ⟨rfl, rfl, rfl, by decide +kernel, rfl, by decide +kernel, by decide +kernel⟩
theorem d_vector_between 
    {f : Addr} (cdv : Value) (A : Around) (outer : List PySem.Env) (s : Shared) (H : Hp) (E : XK) (hr : Room 0 (A.deeper (envOfC "vector_between" (defScope s_vector_between) s.heap.objs.size f cdv))) :
    DSs (bodyX P w K mg base N_vector_between "vector_between" s_vector_between f cdv A outer s H E) (defBody s_vector_between) g_vector_between :=
  (dss_one (ds_ret (de_tup (da_cons (de_op op_Sub (de_ix (dv 1) de_int) (de_ix (dv 0) de_int)) (da_cons (de_op op_Sub (de_ix (dv 1) de_int) (de_ix (dv 0) de_int)) da_nil)))))
theorem ok_vector_between 
    {f : Addr} {fd : FuncData} (F : Fun K "vector_between" "vector_between" s_vector_between f fd) : FnOk P w K mg base (L2.CX P w) 1 f fd ["one", "other"] (toSpP K S_vector_between) :=
  fnP F sc_vector_between Z_vector_between (d_vector_between ) W_vector_between
abbrev s_plain_sides : Stmt := topS 27
theorem sc_plain_sides : FnScope N_plain_sides ["corners"] (defScope s_plain_sides) := ⟨rfl, rfl, rfl, by decide +kernel, rfl, by decide +kernel, by decide +kernel⟩
theorem d_plain_sides {f_vector_between : Addr}
    {fd_vector_between : FuncData} (G_vector_between : FnOk P w K mg base (L2.CX P w) 1 f_vector_between fd_vector_between ["one", "other"] (toSpP K S_vector_between)) (m_vector_between : mg "vector_between" = some (.ref f_vector_between)) (k_vector_between : PySem.W.keepIn K (.ref f_vector_between) = true) (b_vector_between : Binds K fd_vector_between ["one", "other"] [])
    (z_len : mg "len" = none)
    (z_zip : mg "zip" = none)
    {f : Addr} (cdv : Value) (A : Around) (outer : List PySem.Env) (s : Shared) (H : Hp) (E : XK) (hr : Room 1 (A.deeper (envOfC "plain_sides" (defScope s_plain_sides) s.heap.objs.size f cdv))) :
    DSs (bodyX P w K mg base N_plain_sides "plain_sides" s_plain_sides f cdv A outer s H E) (defBody s_plain_sides) g_plain_sides :=
  (dss_cons (ds_if (dt_cmp (op_Eq hr.units) (de_callB c_len rfl z_len PySem.boot_len (da_cons (dv 0) da_nil)) de_int (nomark _)) (dss_one (ds_ret (de_n (dn_lst da_nil)))) dss_nil)
    (dss_one (ds_ret (de_n (dn_lc (own := [("one", 1), ("other", 2)]) rfl sc_plain_sides.nd (di_zip rfl z_zip (da_cons (dv 0) (da_cons (de_tup (da_star (de_cut (dv 0) (do_some de_int) do_none) (da_cons (de_ix (dv 0) de_int) da_nil))) da_nil))) (blkOk_by (own := [("one", 1), ("other", 2)]) (N := N_plain_sides) (sc := defScope s_plain_sides) (by decide +kernel)) (by decide) (fun _ _ _ _ _ => (dg_tup rfl (dgs_cons (dgn 1 sc_plain_sides.nd) (dgs_cons (dgn 2 sc_plain_sides.nd) dgs_nil)))) (fun _ _ _ _ _ => dts_nil) (fun _ _ _ _ _ => (de_call M_vector_between G_vector_between (hr.mono (by decide)) rfl m_vector_between k_vector_between b_vector_between (da_cons (dv 1) (da_cons (dv 2) da_nil)))))))))
theorem ok_plain_sides {f_vector_between : Addr}
    {fd_vector_between : FuncData} (G_vector_between : FnOk P w K mg base (L2.CX P w) 1 f_vector_between fd_vector_between ["one", "other"] (toSpP K S_vector_between)) (m_vector_between : mg "vector_between" = some (.ref f_vector_between)) (k_vector_between : PySem.W.keepIn K (.ref f_vector_between) = true) (b_vector_between : Binds K fd_vector_between ["one", "other"] [])
    (z_len : mg "len" = none)
    (z_zip : mg "zip" = none)
    {f : Addr} {fd : FuncData} (F : Fun K "plain_sides" "plain_sides" s_plain_sides f fd) : FnOk P w K mg base (L2.CX P w) 2 f fd ["corners"] (toSpP K S_plain_sides) :=
  fnP F sc_plain_sides Z_plain_sides (d_plain_sides G_vector_between m_vector_between k_vector_between b_vector_between z_len z_zip) W_plain_sides
abbrev s_is_upper : Stmt := topS 21
theorem sc_is_upper : FnScope N_is_upper ["vector"] (defScope s_is_upper) := ⟨rfl, rfl, rfl, by decide +kernel, rfl, by decide +kernel, by decide +kernel⟩
theorem d_is_upper 
    {f : Addr} (cdv : Value) (A : Around) (outer : List PySem.Env) (s : Shared) (H : Hp) (E : XK) (hr : Room 0 (A.deeper (envOfC "is_upper" (defScope s_is_upper) s.heap.objs.size f cdv))) :
    DSs (bodyX P w K mg base N_is_upper "is_upper" s_is_upper f cdv A outer s H E) (defBody s_is_upper) g_is_upper :=
  (dss_one (ds_ret (de_or (de_cmp op_Gt (de_ix (dv 0) de_int) de_int (nomark _)) (de_one (de_and (de_cmp (op_Eq hr.units) (de_ix (dv 0) de_int) de_int (nomark _)) (de_one (de_cmp op_Gt (de_ix (dv 0) de_int) de_int (nomark _))))))))
theorem ok_is_upper 
    {f : Addr} {fd : FuncData} (F : Fun K "is_upper" "is_upper" s_is_upper f fd) : FnOk P w K mg base (L2.CX P w) 1 f fd ["vector"] (toSpP K S_is_upper) :=
  fnP F sc_is_upper Z_is_upper (d_is_upper ) W_is_upper
abbrev s_sign_of : Stmt := topS 9
theorem sc_sign_of : FnScope N_sign_of ["number"] (defScope s_sign_of) := ⟨rfl, rfl, rfl, by decide +kernel, rfl, by decide +kernel, by decide +kernel⟩
theorem d_sign_of 
    {f : Addr} (cdv : Value) (A : Around) (outer : List PySem.Env) (s : Shared) (H : Hp) (E : XK) (hr : Room 0 (A.deeper (envOfC "sign_of" (defScope s_sign_of) s.heap.objs.size f cdv))) :
    DSs (bodyX P w K mg base N_sign_of "sign_of" s_sign_of f cdv A outer s H E) (defBody s_sign_of) g_sign_of :=
  (dss_one (ds_ret (de_if (dt_cmp op_Gt (dv 0) de_int (nomark _)) de_int (de_if (dt_cmp op_Lt (dv 0) de_int (nomark _)) (de_neg de_int) de_int))))
theorem ok_sign_of 
    {f : Addr} {fd : FuncData} (F : Fun K "sign_of" "sign_of" s_sign_of f fd) : FnOk P w K mg base (L2.CX P w) 1 f fd ["number"] (toSpP K S_sign_of) :=
  fnP F sc_sign_of Z_sign_of (d_sign_of ) W_sign_of
abbrev s_cross_of : Stmt := topS 16
theorem sc_cross_of : FnScope N_cross_of ["one", "other"] (defScope s_cross_of) := ⟨rfl, rfl, rfl, by decide +kernel, rfl, by decide +kernel, by decide +kernel⟩
theorem d_cross_of 
    {f : Addr} (cdv : Value) (A : Around) (outer : List PySem.Env) (s : Shared) (H : Hp) (E : XK) (hr : Room 0 (A.deeper (envOfC "cross_of" (defScope s_cross_of) s.heap.objs.size f cdv))) :
    DSs (bodyX P w K mg base N_cross_of "cross_of" s_cross_of f cdv A outer s H E) (defBody s_cross_of) g_cross_of :=
  (dss_one (ds_ret (de_op op_Sub (de_op op_Mul (de_ix (dv 0) de_int) (de_ix (dv 1) de_int)) (de_op op_Mul (de_ix (dv 0) de_int) (de_ix (dv 1) de_int)))))
theorem ok_cross_of 
    {f : Addr} {fd : FuncData} (F : Fun K "cross_of" "cross_of" s_cross_of f fd) : FnOk P w K mg base (L2.CX P w) 1 f fd ["one", "other"] (toSpP K S_cross_of) :=
  fnP F sc_cross_of Z_cross_of (d_cross_of ) W_cross_of
abbrev s_slope_order : Stmt := topS 22
theorem sc_slope_order : FnScope N_slope_order ["one", "other"] (defScope s_slope_order) := ⟨rfl, rfl, rfl, by decide +kernel, rfl, by decide +kernel, by decide +kernel⟩
theorem d_slope_order {f_is_upper f_sign_of f_cross_of : Addr}
    {fd_is_upper : FuncData} (G_is_upper : FnOk P w K mg base (L2.CX P w) 1 f_is_upper fd_is_upper ["vector"] (toSpP K S_is_upper)) (m_is_upper : mg "is_upper" = some (.ref f_is_upper)) (k_is_upper : PySem.W.keepIn K (.ref f_is_upper) = true) (b_is_upper : Binds K fd_is_upper ["vector"] [])
    {fd_sign_of : FuncData} (G_sign_of : FnOk P w K mg base (L2.CX P w) 1 f_sign_of fd_sign_of ["number"] (toSpP K S_sign_of)) (m_sign_of : mg "sign_of" = some (.ref f_sign_of)) (k_sign_of : PySem.W.keepIn K (.ref f_sign_of) = true) (b_sign_of : Binds K fd_sign_of ["number"] [])
    {fd_cross_of : FuncData} (G_cross_of : FnOk P w K mg base (L2.CX P w) 1 f_cross_of fd_cross_of ["one", "other"] (toSpP K S_cross_of)) (m_cross_of : mg "cross_of" = some (.ref f_cross_of)) (k_cross_of : PySem.W.keepIn K (.ref f_cross_of) = true) (b_cross_of : Binds K fd_cross_of ["one", "other"] [])
    {f : Addr} (cdv : Value) (A : Around) (outer : List PySem.Env) (s : Shared) (H : Hp) (E : XK) (hr : Room 1 (A.deeper (envOfC "slope_order" (defScope s_slope_order) s.heap.objs.size f cdv))) :
    DSs (bodyX P w K mg base N_slope_order "slope_order" s_slope_order f cdv A outer s H E) (defBody s_slope_order) g_slope_order :=
  (dss_cons (ds_if (dt_cmp (op_Ne hr.units) (de_call M_is_upper G_is_upper (hr.mono (by decide)) rfl m_is_upper k_is_upper b_is_upper (da_cons (dv 0) da_nil)) (de_call M_is_upper G_is_upper (hr.mono (by decide)) rfl m_is_upper k_is_upper b_is_upper (da_cons (dv 1) da_nil)) (nomark _)) (dss_one (ds_ret (de_if (dt_val (de_call M_is_upper G_is_upper (hr.mono (by decide)) rfl m_is_upper k_is_upper b_is_upper (da_cons (dv 0) da_nil))) (de_neg de_int) de_int))) dss_nil)
    (dss_one (ds_ret (de_neg (de_call M_sign_of G_sign_of (hr.mono (by decide)) rfl m_sign_of k_sign_of b_sign_of (da_cons (de_call M_cross_of G_cross_of (hr.mono (by decide)) rfl m_cross_of k_cross_of b_cross_of (da_cons (dv 0) (da_cons (dv 1) da_nil))) da_nil))))))
theorem ok_slope_order {f_is_upper f_sign_of f_cross_of : Addr}
    {fd_is_upper : FuncData} (G_is_upper : FnOk P w K mg base (L2.CX P w) 1 f_is_upper fd_is_upper ["vector"] (toSpP K S_is_upper)) (m_is_upper : mg "is_upper" = some (.ref f_is_upper)) (k_is_upper : PySem.W.keepIn K (.ref f_is_upper) = true) (b_is_upper : Binds K fd_is_upper ["vector"] [])
    {fd_sign_of : FuncData} (G_sign_of : FnOk P w K mg base (L2.CX P w) 1 f_sign_of fd_sign_of ["number"] (toSpP K S_sign_of)) (m_sign_of : mg "sign_of" = some (.ref f_sign_of)) (k_sign_of : PySem.W.keepIn K (.ref f_sign_of) = true) (b_sign_of : Binds K fd_sign_of ["number"] [])
    {fd_cross_of : FuncData} (G_cross_of : FnOk P w K mg base (L2.CX P w) 1 f_cross_of fd_cross_of ["one", "other"] (toSpP K S_cross_of)) (m_cross_of : mg "cross_of" = some (.ref f_cross_of)) (k_cross_of : PySem.W.keepIn K (.ref f_cross_of) = true) (b_cross_of : Binds K fd_cross_of ["one", "other"] [])
    {f : Addr} {fd : FuncData} (F : Fun K "slope_order" "slope_order" s_slope_order f fd) : FnOk P w K mg base (L2.CX P w) 2 f fd ["one", "other"] (toSpP K S_slope_order) :=
  fnP F sc_slope_order Z_slope_order (d_slope_order G_is_upper m_is_upper k_is_upper b_is_upper G_sign_of m_sign_of k_sign_of b_sign_of G_cross_of m_cross_of k_cross_of b_cross_of) W_slope_order
abbrev s_rises : Stmt := topS 26
theorem sc_rises : FnScope N_rises ["vectors"] (defScope s_rises) := ⟨rfl, rfl, rfl, by decide +kernel, rfl, by decide +kernel, by decide +kernel⟩
theorem d_rises {f_slope_order : Addr}
    {fd_slope_order : FuncData} (G_slope_order : FnOk P w K mg base (L2.CX P w) 2 f_slope_order fd_slope_order ["one", "other"] (toSpP K S_slope_order)) (m_slope_order : mg "slope_order" = some (.ref f_slope_order)) (k_slope_order : PySem.W.keepIn K (.ref f_slope_order) = true) (b_slope_order : Binds K fd_slope_order ["one", "other"] [])
    (z_all : mg "all" = none)
    (z_zip : mg "zip" = none)
    {f : Addr} (cdv : Value) (A : Around) (outer : List PySem.Env) (s : Shared) (H : Hp) (E : XK) (hr : Room 2 (A.deeper (envOfC "rises" (defScope s_rises) s.heap.objs.size f cdv))) :
    DSs (bodyX P w K mg base N_rises "rises" s_rises f cdv A outer s H E) (defBody s_rises) g_rises :=
  (dss_one (ds_ret (de_callB (c_all rfl) rfl z_all (by decide +kernel) (da_cons (de_n (dn_lc (own := [("one", 1), ("other", 2)]) rfl sc_rises.nd (di_zip rfl z_zip (da_cons (dv 0) (da_cons (de_cut (dv 0) (do_some de_int) do_none) da_nil))) (blkOk_by (own := [("one", 1), ("other", 2)]) (N := N_rises) (sc := defScope s_rises) (by decide +kernel)) (by decide) (fun _ _ _ _ _ => (dg_tup rfl (dgs_cons (dgn 1 sc_rises.nd) (dgs_cons (dgn 2 sc_rises.nd) dgs_nil)))) (fun _ _ _ _ _ => dts_nil) (fun _ _ _ _ _ => (de_cmp op_Lt (de_call M_slope_order G_slope_order (hr.mono (by decide)) rfl m_slope_order k_slope_order b_slope_order (da_cons (dv 1) (da_cons (dv 2) da_nil))) de_int (nomark _))))) da_nil))))
theorem ok_rises {f_slope_order : Addr}
    {fd_slope_order : FuncData} (G_slope_order : FnOk P w K mg base (L2.CX P w) 2 f_slope_order fd_slope_order ["one", "other"] (toSpP K S_slope_order)) (m_slope_order : mg "slope_order" = some (.ref f_slope_order)) (k_slope_order : PySem.W.keepIn K (.ref f_slope_order) = true) (b_slope_order : Binds K fd_slope_order ["one", "other"] [])
    (z_all : mg "all" = none)
    (z_zip : mg "zip" = none)
    {f : Addr} {fd : FuncData} (F : Fun K "rises" "rises" s_rises f fd) : FnOk P w K mg base (L2.CX P w) 3 f fd ["vectors"] (toSpP K S_rises) :=
  fnP F sc_rises Z_rises (d_rises G_slope_order m_slope_order k_slope_order b_slope_order z_all z_zip) W_rises
abbrev s_is_tuple_of : Stmt := topS 7
theorem sc_is_tuple_of : FnScope N_is_tuple_of ["value", "many"] (defScope s_is_tuple_of) := ⟨rfl, rfl, rfl, by decide +kernel, rfl, by decide +kernel, by decide +kernel⟩
theorem d_is_tuple_of (z_isinstance : mg "isinstance" = none)
    (z_tuple : mg "tuple" = none)
    (z_len : mg "len" = none)
    {f : Addr} (cdv : Value) (A : Around) (outer : List PySem.Env) (s : Shared) (H : Hp) (E : XK) (hr : Room 0 (A.deeper (envOfC "is_tuple_of" (defScope s_is_tuple_of) s.heap.objs.size f cdv))) :
    DSs (bodyX P w K mg base N_is_tuple_of "is_tuple_of" s_is_tuple_of f cdv A outer s H E) (defBody s_is_tuple_of) g_is_tuple_of :=
  (dss_one (ds_ret (de_and (de_isi tt_tuple rfl z_isinstance rfl z_tuple (by decide +kernel) (dv 0)) (de_one (de_cmp (op_Eq hr.units) (de_callB c_len rfl z_len PySem.boot_len (da_cons (dv 0) da_nil)) (dv 1) (nomark _))))))
theorem ok_is_tuple_of (z_isinstance : mg "isinstance" = none)
    (z_tuple : mg "tuple" = none)
    (z_len : mg "len" = none)
    {f : Addr} {fd : FuncData} (F : Fun K "is_tuple_of" "is_tuple_of" s_is_tuple_of f fd) : FnOk P w K mg base (L2.CX P w) 1 f fd ["value", "many"] (toSpP K S_is_tuple_of) :=
  fnP F sc_is_tuple_of Z_is_tuple_of (d_is_tuple_of z_isinstance z_tuple z_len) W_is_tuple_of
abbrev s_is_whole : Stmt := topS 5
theorem sc_is_whole : FnScope N_is_whole ["value"] (defScope s_is_whole) := ⟨rfl, rfl, rfl, by decide +kernel, rfl, by decide +kernel, by decide +kernel⟩
theorem d_is_whole (z_isinstance : mg "isinstance" = none)
    (z_int : mg "int" = none)
    (z_bool : mg "bool" = none)
    {f : Addr} (cdv : Value) (A : Around) (outer : List PySem.Env) (s : Shared) (H : Hp) (E : XK) (hr : Room 0 (A.deeper (envOfC "is_whole" (defScope s_is_whole) s.heap.objs.size f cdv))) :
    DSs (bodyX P w K mg base N_is_whole "is_whole" s_is_whole f cdv A outer s H E) (defBody s_is_whole) g_is_whole :=
  (dss_one (ds_ret (de_and (de_isi tt_int rfl z_isinstance rfl z_int (by decide +kernel) (dv 0)) (de_one (de_not (de_isi tt_bool rfl z_isinstance rfl z_bool (by decide +kernel) (dv 0)))))))
theorem ok_is_whole (z_isinstance : mg "isinstance" = none)
    (z_int : mg "int" = none)
    (z_bool : mg "bool" = none)
    {f : Addr} {fd : FuncData} (F : Fun K "is_whole" "is_whole" s_is_whole f fd) : FnOk P w K mg base (L2.CX P w) 1 f fd ["value"] (toSpP K S_is_whole) :=
  fnP F sc_is_whole Z_is_whole (d_is_whole z_isinstance z_int z_bool) W_is_whole
abbrev s_is_number : Stmt := topS 6
theorem sc_is_number : FnScope N_is_number ["value", "low", "high"] (defScope s_is_number) := ⟨rfl, rfl, rfl, by decide +kernel, rfl, by decide +kernel, by decide +kernel⟩
theorem d_is_number {f_is_whole : Addr}
    {fd_is_whole : FuncData} (G_is_whole : FnOk P w K mg base (L2.CX P w) 1 f_is_whole fd_is_whole ["value"] (toSpP K S_is_whole)) (m_is_whole : mg "is_whole" = some (.ref f_is_whole)) (k_is_whole : PySem.W.keepIn K (.ref f_is_whole) = true) (b_is_whole : Binds K fd_is_whole ["value"] [])
    {f : Addr} (cdv : Value) (A : Around) (outer : List PySem.Env) (s : Shared) (H : Hp) (E : XK) (hr : Room 1 (A.deeper (envOfC "is_number" (defScope s_is_number) s.heap.objs.size f cdv))) :
    DSs (bodyX P w K mg base N_is_number "is_number" s_is_number f cdv A outer s H E) (defBody s_is_number) g_is_number :=
  (dss_one (ds_ret (de_and (de_call M_is_whole G_is_whole (hr.mono (by decide)) rfl m_is_whole k_is_whole b_is_whole (da_cons (dv 0) da_nil)) (de_one (de_chain op_Le op_Le (dv 1) (dv 0) (dv 2))))))
theorem ok_is_number {f_is_whole : Addr}
    {fd_is_whole : FuncData} (G_is_whole : FnOk P w K mg base (L2.CX P w) 1 f_is_whole fd_is_whole ["value"] (toSpP K S_is_whole)) (m_is_whole : mg "is_whole" = some (.ref f_is_whole)) (k_is_whole : PySem.W.keepIn K (.ref f_is_whole) = true) (b_is_whole : Binds K fd_is_whole ["value"] [])
    {f : Addr} {fd : FuncData} (F : Fun K "is_number" "is_number" s_is_number f fd) : FnOk P w K mg base (L2.CX P w) 2 f fd ["value", "low", "high"] (toSpP K S_is_number) :=
  fnP F sc_is_number Z_is_number (d_is_number G_is_whole m_is_whole k_is_whole b_is_whole) W_is_number
abbrev s_is_pair_within : Stmt := topS 13
theorem sc_is_pair_within : FnScope N_is_pair_within ["value", "most"] (defScope s_is_pair_within) := ⟨rfl, rfl, rfl, by decide +kernel, rfl, by decide +kernel, by decide +kernel⟩
theorem d_is_pair_within {f_is_tuple_of f_is_number : Addr}
    {fd_is_tuple_of : FuncData} (G_is_tuple_of : FnOk P w K mg base (L2.CX P w) 1 f_is_tuple_of fd_is_tuple_of ["value", "many"] (toSpP K S_is_tuple_of)) (m_is_tuple_of : mg "is_tuple_of" = some (.ref f_is_tuple_of)) (k_is_tuple_of : PySem.W.keepIn K (.ref f_is_tuple_of) = true) (b_is_tuple_of : Binds K fd_is_tuple_of ["value", "many"] [])
    {fd_is_number : FuncData} (G_is_number : FnOk P w K mg base (L2.CX P w) 2 f_is_number fd_is_number ["value", "low", "high"] (toSpP K S_is_number)) (m_is_number : mg "is_number" = some (.ref f_is_number)) (k_is_number : PySem.W.keepIn K (.ref f_is_number) = true) (b_is_number : Binds K fd_is_number ["value", "low", "high"] [])
    {f : Addr} (cdv : Value) (A : Around) (outer : List PySem.Env) (s : Shared) (H : Hp) (E : XK) (hr : Room 2 (A.deeper (envOfC "is_pair_within" (defScope s_is_pair_within) s.heap.objs.size f cdv))) :
    DSs (bodyX P w K mg base N_is_pair_within "is_pair_within" s_is_pair_within f cdv A outer s H E) (defBody s_is_pair_within) g_is_pair_within :=
  (dss_one (ds_ret (de_and (de_call M_is_tuple_of G_is_tuple_of (hr.mono (by decide)) rfl m_is_tuple_of k_is_tuple_of b_is_tuple_of (da_cons (dv 0) (da_cons de_int da_nil))) (de_and (de_call M_is_number G_is_number (hr.mono (by decide)) rfl m_is_number k_is_number b_is_number (da_cons (de_ix (dv 0) de_int) (da_cons (de_neg (dv 1)) (da_cons (dv 1) da_nil)))) (de_one (de_call M_is_number G_is_number (hr.mono (by decide)) rfl m_is_number k_is_number b_is_number (da_cons (de_ix (dv 0) de_int) (da_cons (de_neg (dv 1)) (da_cons (dv 1) da_nil)))))))))
theorem ok_is_pair_within {f_is_tuple_of f_is_number : Addr}
    {fd_is_tuple_of : FuncData} (G_is_tuple_of : FnOk P w K mg base (L2.CX P w) 1 f_is_tuple_of fd_is_tuple_of ["value", "many"] (toSpP K S_is_tuple_of)) (m_is_tuple_of : mg "is_tuple_of" = some (.ref f_is_tuple_of)) (k_is_tuple_of : PySem.W.keepIn K (.ref f_is_tuple_of) = true) (b_is_tuple_of : Binds K fd_is_tuple_of ["value", "many"] [])
    {fd_is_number : FuncData} (G_is_number : FnOk P w K mg base (L2.CX P w) 2 f_is_number fd_is_number ["value", "low", "high"] (toSpP K S_is_number)) (m_is_number : mg "is_number" = some (.ref f_is_number)) (k_is_number : PySem.W.keepIn K (.ref f_is_number) = true) (b_is_number : Binds K fd_is_number ["value", "low", "high"] [])
    {f : Addr} {fd : FuncData} (F : Fun K "is_pair_within" "is_pair_within" s_is_pair_within f fd) : FnOk P w K mg base (L2.CX P w) 3 f fd ["value", "most"] (toSpP K S_is_pair_within) :=
  fnP F sc_is_pair_within Z_is_pair_within (d_is_pair_within G_is_tuple_of m_is_tuple_of k_is_tuple_of b_is_tuple_of G_is_number m_is_number k_is_number b_is_number) W_is_pair_within
abbrev s_is_point : Stmt := topS 14
theorem sc_is_point : FnScope N_is_point ["value"] (defScope s_is_point) := ⟨rfl, rfl, rfl, by decide +kernel, rfl, by decide +kernel, by decide +kernel⟩
theorem d_is_point {f_is_pair_within : Addr}
    {fd_is_pair_within : FuncData} (G_is_pair_within : FnOk P w K mg base (L2.CX P w) 3 f_is_pair_within fd_is_pair_within ["value", "most"] (toSpP K S_is_pair_within)) (m_is_pair_within : mg "is_pair_within" = some (.ref f_is_pair_within)) (k_is_pair_within : PySem.W.keepIn K (.ref f_is_pair_within) = true) (b_is_pair_within : Binds K fd_is_pair_within ["value", "most"] [])
    (e_MOST_POINT : ∀ {X : Cx} {pos : Pos}, X.K = K → X.mg = mg → Gl X "MOST_POINT" → DE X (.Name "MOST_POINT" pos) (dC C_MOST_POINT))
    {f : Addr} (cdv : Value) (A : Around) (outer : List PySem.Env) (s : Shared) (H : Hp) (E : XK) (hr : Room 3 (A.deeper (envOfC "is_point" (defScope s_is_point) s.heap.objs.size f cdv))) :
    DSs (bodyX P w K mg base N_is_point "is_point" s_is_point f cdv A outer s H E) (defBody s_is_point) g_is_point :=
  (dss_one (ds_ret (de_call M_is_pair_within G_is_pair_within (hr.mono (by decide)) rfl m_is_pair_within k_is_pair_within b_is_pair_within (da_cons (dv 0) (da_cons (e_MOST_POINT rfl rfl rfl) da_nil)))))
theorem ok_is_point {f_is_pair_within : Addr}
    {fd_is_pair_within : FuncData} (G_is_pair_within : FnOk P w K mg base (L2.CX P w) 3 f_is_pair_within fd_is_pair_within ["value", "most"] (toSpP K S_is_pair_within)) (m_is_pair_within : mg "is_pair_within" = some (.ref f_is_pair_within)) (k_is_pair_within : PySem.W.keepIn K (.ref f_is_pair_within) = true) (b_is_pair_within : Binds K fd_is_pair_within ["value", "most"] [])
    (e_MOST_POINT : ∀ {X : Cx} {pos : Pos}, X.K = K → X.mg = mg → Gl X "MOST_POINT" → DE X (.Name "MOST_POINT" pos) (dC C_MOST_POINT))
    {f : Addr} {fd : FuncData} (F : Fun K "is_point" "is_point" s_is_point f fd) : FnOk P w K mg base (L2.CX P w) 4 f fd ["value"] (toSpP K S_is_point) :=
  fnP F sc_is_point Z_is_point (d_is_point G_is_pair_within m_is_pair_within k_is_pair_within b_is_pair_within e_MOST_POINT) W_is_point
abbrev s_is_round : Stmt := topS 28
theorem sc_is_round : FnScope N_is_round ["value"] (defScope s_is_round) := ⟨rfl, rfl, rfl, by decide +kernel, rfl, by decide +kernel, by decide +kernel⟩
theorem d_is_round {f_is_point f_plain_sides f_rises : Addr}
    {fd_is_point : FuncData} (G_is_point : FnOk P w K mg base (L2.CX P w) 4 f_is_point fd_is_point ["value"] (toSpP K S_is_point)) (m_is_point : mg "is_point" = some (.ref f_is_point)) (k_is_point : PySem.W.keepIn K (.ref f_is_point) = true) (b_is_point : Binds K fd_is_point ["value"] [])
    {fd_plain_sides : FuncData} (G_plain_sides : FnOk P w K mg base (L2.CX P w) 2 f_plain_sides fd_plain_sides ["corners"] (toSpP K S_plain_sides)) (m_plain_sides : mg "plain_sides" = some (.ref f_plain_sides)) (k_plain_sides : PySem.W.keepIn K (.ref f_plain_sides) = true) (b_plain_sides : Binds K fd_plain_sides ["corners"] [])
    {fd_rises : FuncData} (G_rises : FnOk P w K mg base (L2.CX P w) 3 f_rises fd_rises ["vectors"] (toSpP K S_rises)) (m_rises : mg "rises" = some (.ref f_rises)) (k_rises : PySem.W.keepIn K (.ref f_rises) = true) (b_rises : Binds K fd_rises ["vectors"] [])
    (z_isinstance : mg "isinstance" = none)
    (z_tuple : mg "tuple" = none)
    (z_len : mg "len" = none)
    (z_all : mg "all" = none)
    (z_any : mg "any" = none)
    (e_MOST_CORNERS : ∀ {X : Cx} {pos : Pos}, X.K = K → X.mg = mg → Gl X "MOST_CORNERS" → DE X (.Name "MOST_CORNERS" pos) (dC C_MOST_CORNERS))
    {f : Addr} (cdv : Value) (A : Around) (outer : List PySem.Env) (s : Shared) (H : Hp) (E : XK) (hr : Room 4 (A.deeper (envOfC "is_round" (defScope s_is_round) s.heap.objs.size f cdv))) :
    DSs (bodyX P w K mg base N_is_round "is_round" s_is_round f cdv A outer s H E) (defBody s_is_round) g_is_round :=
  (dss_cons (ds_if (dt_w (dw_or (dt_not (dt_val (de_isi tt_tuple rfl z_isinstance rfl z_tuple (by decide +kernel) (dv 0)))) (dw_or (dt_not (dt_chain op_Le op_Le de_int (de_callB c_len rfl z_len PySem.boot_len (da_cons (dv 0) da_nil)) (e_MOST_CORNERS rfl rfl rfl))) (dw_or1 (dt_not (dt_val (de_callB (c_all rfl) rfl z_all (by decide +kernel) (da_cons (de_n (dn_lc (own := [("one", 2)]) rfl sc_is_round.nd (di_seq (dv 0)) (blkOk_by (own := [("one", 2)]) (N := N_is_round) (sc := defScope s_is_round) (by decide +kernel)) (by decide) (fun _ _ _ _ _ => (dgn 2 sc_is_round.nd)) (fun _ _ _ _ _ => dts_nil) (fun _ _ _ _ _ => (de_call M_is_point G_is_point (hr.mono (by decide)) rfl m_is_point k_is_point b_is_point (da_cons (dv 2) da_nil))))) da_nil)))))))) (dss_one (ds_ret de_bl)) dss_nil)
    (dss_cons (dset 1 sc_is_round.nd (de_call M_plain_sides G_plain_sides (hr.mono (by decide)) rfl m_plain_sides k_plain_sides b_plain_sides (da_cons (dv 0) da_nil)))
    (dss_one (ds_ret (de_and (de_not (de_callB (c_any rfl) rfl z_any (by decide +kernel) (da_cons (de_n (dn_lc (own := [("side", 3)]) rfl sc_is_round.nd (di_seq (dv 1)) (blkOk_by (own := [("side", 3)]) (N := N_is_round) (sc := defScope s_is_round) (by decide +kernel)) (by decide) (fun _ _ _ _ _ => (dgn 3 sc_is_round.nd)) (fun _ _ _ _ _ => dts_nil) (fun _ _ _ _ _ => (de_cmp (op_Eq hr.units) (dv 3) (de_tup (da_cons de_int (da_cons de_int da_nil))) (nomark _))))) da_nil))) (de_one (de_call M_rises G_rises (hr.mono (by decide)) rfl m_rises k_rises b_rises (da_cons (dv 1) da_nil))))))))
theorem ok_is_round {f_is_point f_plain_sides f_rises : Addr}
    {fd_is_point : FuncData} (G_is_point : FnOk P w K mg base (L2.CX P w) 4 f_is_point fd_is_point ["value"] (toSpP K S_is_point)) (m_is_point : mg "is_point" = some (.ref f_is_point)) (k_is_point : PySem.W.keepIn K (.ref f_is_point) = true) (b_is_point : Binds K fd_is_point ["value"] [])
    {fd_plain_sides : FuncData} (G_plain_sides : FnOk P w K mg base (L2.CX P w) 2 f_plain_sides fd_plain_sides ["corners"] (toSpP K S_plain_sides)) (m_plain_sides : mg "plain_sides" = some (.ref f_plain_sides)) (k_plain_sides : PySem.W.keepIn K (.ref f_plain_sides) = true) (b_plain_sides : Binds K fd_plain_sides ["corners"] [])
    {fd_rises : FuncData} (G_rises : FnOk P w K mg base (L2.CX P w) 3 f_rises fd_rises ["vectors"] (toSpP K S_rises)) (m_rises : mg "rises" = some (.ref f_rises)) (k_rises : PySem.W.keepIn K (.ref f_rises) = true) (b_rises : Binds K fd_rises ["vectors"] [])
    (z_isinstance : mg "isinstance" = none)
    (z_tuple : mg "tuple" = none)
    (z_len : mg "len" = none)
    (z_all : mg "all" = none)
    (z_any : mg "any" = none)
    (e_MOST_CORNERS : ∀ {X : Cx} {pos : Pos}, X.K = K → X.mg = mg → Gl X "MOST_CORNERS" → DE X (.Name "MOST_CORNERS" pos) (dC C_MOST_CORNERS))
    {f : Addr} {fd : FuncData} (F : Fun K "is_round" "is_round" s_is_round f fd) : FnOk P w K mg base (L2.CX P w) 5 f fd ["value"] (toSpP K S_is_round) :=
  fnP F sc_is_round Z_is_round (d_is_round G_is_point m_is_point k_is_point b_is_point G_plain_sides m_plain_sides k_plain_sides b_plain_sides G_rises m_rises k_rises b_rises z_isinstance z_tuple z_len z_all z_any e_MOST_CORNERS) W_is_round
abbrev s_check_shape : Stmt := topS 29
theorem sc_check_shape : FnScope N_check_shape ["shape"] (defScope s_check_shape) := ⟨rfl, rfl, rfl, by decide +kernel, rfl, by decide +kernel, by decide +kernel⟩
theorem d_check_shape {f_is_round : Addr}
    {fd_is_round : FuncData} (G_is_round : FnOk P w K mg base (L2.CX P w) 5 f_is_round fd_is_round ["value"] (toSpP K S_is_round)) (m_is_round : mg "is_round" = some (.ref f_is_round)) (k_is_round : PySem.W.keepIn K (.ref f_is_round) = true) (b_is_round : Binds K fd_is_round ["value"] [])
    {f : Addr} (cdv : Value) (A : Around) (outer : List PySem.Env) (s : Shared) (H : Hp) (E : XK) (hr : Room 5 (A.deeper (envOfC "check_shape" (defScope s_check_shape) s.heap.objs.size f cdv))) :
    DSs (bodyX P w K mg base N_check_shape "check_shape" s_check_shape f cdv A outer s H E) (defBody s_check_shape) g_check_shape :=
  (dss_one (ds_if (dt_not (dt_val (de_call M_is_round G_is_round (hr.mono (by decide)) rfl m_is_round k_is_round b_is_round (da_cons (dv 0) da_nil)))) (dss_one ds_never) dss_nil))
theorem ok_check_shape {f_is_round : Addr}
    {fd_is_round : FuncData} (G_is_round : FnOk P w K mg base (L2.CX P w) 5 f_is_round fd_is_round ["value"] (toSpP K S_is_round)) (m_is_round : mg "is_round" = some (.ref f_is_round)) (k_is_round : PySem.W.keepIn K (.ref f_is_round) = true) (b_is_round : Binds K fd_is_round ["value"] [])
    {f : Addr} {fd : FuncData} (F : Fun K "check_shape" "check_shape" s_check_shape f fd) : FnOk P w K mg base (L2.CX P w) 6 f fd ["shape"] (toSpP K S_check_shape) :=
  fnP F sc_check_shape Z_check_shape (d_check_shape G_is_round m_is_round k_is_round b_is_round) W_check_shape
abbrev s_check_both : Stmt := topS 35
theorem sc_check_both : FnScope N_check_both ["one", "other"] (defScope s_check_both) := ⟨rfl, rfl, rfl, by decide +kernel, rfl, by decide +kernel, by decide +kernel⟩
theorem d_check_both {f_check_shape : Addr}
    {fd_check_shape : FuncData} (G_check_shape : FnOk P w K mg base (L2.CX P w) 6 f_check_shape fd_check_shape ["shape"] (toSpP K S_check_shape)) (m_check_shape : mg "check_shape" = some (.ref f_check_shape)) (k_check_shape : PySem.W.keepIn K (.ref f_check_shape) = true) (b_check_shape : Binds K fd_check_shape ["shape"] [])
    {f : Addr} (cdv : Value) (A : Around) (outer : List PySem.Env) (s : Shared) (H : Hp) (E : XK) (hr : Room 6 (A.deeper (envOfC "check_both" (defScope s_check_both) s.heap.objs.size f cdv))) :
    DSs (bodyX P w K mg base N_check_both "check_both" s_check_both f cdv A outer s H E) (defBody s_check_both) g_check_both :=
  (dss_cons (ds_expr (de_call M_check_shape G_check_shape (hr.mono (by decide)) rfl m_check_shape k_check_shape b_check_shape (da_cons (dv 0) da_nil)))
    (dss_one (ds_expr (de_call M_check_shape G_check_shape (hr.mono (by decide)) rfl m_check_shape k_check_shape b_check_shape (da_cons (dv 1) da_nil)))))
theorem ok_check_both {f_check_shape : Addr}
    {fd_check_shape : FuncData} (G_check_shape : FnOk P w K mg base (L2.CX P w) 6 f_check_shape fd_check_shape ["shape"] (toSpP K S_check_shape)) (m_check_shape : mg "check_shape" = some (.ref f_check_shape)) (k_check_shape : PySem.W.keepIn K (.ref f_check_shape) = true) (b_check_shape : Binds K fd_check_shape ["shape"] [])
    {f : Addr} {fd : FuncData} (F : Fun K "check_both" "check_both" s_check_both f fd) : FnOk P w K mg base (L2.CX P w) 7 f fd ["one", "other"] (toSpP K S_check_both) :=
  fnP F sc_check_both Z_check_both (d_check_both G_check_shape m_check_shape k_check_shape b_check_shape) W_check_both
abbrev s_greatest_divisor : Stmt := topS 12
theorem sc_greatest_divisor : FnScope N_greatest_divisor ["one", "other"] (defScope s_greatest_divisor) := ⟨rfl, rfl, rfl, by decide +kernel, rfl, by decide +kernel, by decide +kernel⟩
theorem d_greatest_divisor (z_abs : mg "abs" = none)
    {f : Addr} (cdv : Value) (A : Around) (outer : List PySem.Env) (s : Shared) (H : Hp) (E : XK) (hr : Room 0 (A.deeper (envOfC "greatest_divisor" (defScope s_greatest_divisor) s.heap.objs.size f cdv))) :
    DSs (bodyX P w K mg base N_greatest_divisor "greatest_divisor" s_greatest_divisor f cdv A outer s H E) (defBody s_greatest_divisor) g_greatest_divisor :=
  (dss_cons (ds_par2 (i := 2) (j := 3) rfl sc_greatest_divisor.nd rfl rfl (by decide) rfl rfl (dm_e (de_callB c_abs rfl z_abs (by decide +kernel) (da_cons (dv 0) da_nil)) (dm_e (de_callB c_abs rfl z_abs (by decide +kernel) (da_cons (dv 1) da_nil)) dm_nil)) (by rfl))
    (dss_cons (ds_while own_passes (dt_cmp (op_Ne hr.units) (dv 3) de_int (nomark _)) (dss_one (ds_par2 (i := 2) (j := 3) rfl sc_greatest_divisor.nd rfl rfl (by decide) rfl rfl (dm_e (dv 3) (dm_e (de_op op_Mod (dv 2) (dv 3)) dm_nil)) (by rfl))))
    (dss_one (ds_ret (dv 2)))))
theorem ok_greatest_divisor (z_abs : mg "abs" = none)
    {f : Addr} {fd : FuncData} (F : Fun K "greatest_divisor" "greatest_divisor" s_greatest_divisor f fd) : FnOk P w K mg base (L2.CX P w) 1 f fd ["one", "other"] (toSpP K S_greatest_divisor) :=
  fnP F sc_greatest_divisor Z_greatest_divisor (d_greatest_divisor z_abs) W_greatest_divisor
abbrev s_bare_of : Stmt := topS 20
theorem sc_bare_of : FnScope N_bare_of ["vector"] (defScope s_bare_of) := ⟨rfl, rfl, rfl, by decide +kernel, rfl, by decide +kernel, by decide +kernel⟩
theorem d_bare_of {f_greatest_divisor : Addr}
    {fd_greatest_divisor : FuncData} (G_greatest_divisor : FnOk P w K mg base (L2.CX P w) 1 f_greatest_divisor fd_greatest_divisor ["one", "other"] (toSpP K S_greatest_divisor)) (m_greatest_divisor : mg "greatest_divisor" = some (.ref f_greatest_divisor)) (k_greatest_divisor : PySem.W.keepIn K (.ref f_greatest_divisor) = true) (b_greatest_divisor : Binds K fd_greatest_divisor ["one", "other"] [])
    {f : Addr} (cdv : Value) (A : Around) (outer : List PySem.Env) (s : Shared) (H : Hp) (E : XK) (hr : Room 1 (A.deeper (envOfC "bare_of" (defScope s_bare_of) s.heap.objs.size f cdv))) :
    DSs (bodyX P w K mg base N_bare_of "bare_of" s_bare_of f cdv A outer s H E) (defBody s_bare_of) g_bare_of :=
  (dss_cons (dset 1 sc_bare_of.nd (de_call M_greatest_divisor G_greatest_divisor (hr.mono (by decide)) rfl m_greatest_divisor k_greatest_divisor b_greatest_divisor (da_cons (de_ix (dv 0) de_int) (da_cons (de_ix (dv 0) de_int) da_nil))))
    (dss_one (ds_ret (de_tup (da_cons (de_op op_Div (de_ix (dv 0) de_int) (dv 1)) (da_cons (de_op op_Div (de_ix (dv 0) de_int) (dv 1)) da_nil))))))
theorem ok_bare_of {f_greatest_divisor : Addr}
    {fd_greatest_divisor : FuncData} (G_greatest_divisor : FnOk P w K mg base (L2.CX P w) 1 f_greatest_divisor fd_greatest_divisor ["one", "other"] (toSpP K S_greatest_divisor)) (m_greatest_divisor : mg "greatest_divisor" = some (.ref f_greatest_divisor)) (k_greatest_divisor : PySem.W.keepIn K (.ref f_greatest_divisor) = true) (b_greatest_divisor : Binds K fd_greatest_divisor ["one", "other"] [])
    {f : Addr} {fd : FuncData} (F : Fun K "bare_of" "bare_of" s_bare_of f fd) : FnOk P w K mg base (L2.CX P w) 2 f fd ["vector"] (toSpP K S_bare_of) :=
  fnP F sc_bare_of Z_bare_of (d_bare_of G_greatest_divisor m_greatest_divisor k_greatest_divisor b_greatest_divisor) W_bare_of
abbrev s_length_number : Stmt := topS 19
theorem sc_length_number : FnScope N_length_number ["vector"] (defScope s_length_number) := ⟨rfl, rfl, rfl, by decide +kernel, rfl, by decide +kernel, by decide +kernel⟩
theorem d_length_number {f_greatest_divisor : Addr}
    {fd_greatest_divisor : FuncData} (G_greatest_divisor : FnOk P w K mg base (L2.CX P w) 1 f_greatest_divisor fd_greatest_divisor ["one", "other"] (toSpP K S_greatest_divisor)) (m_greatest_divisor : mg "greatest_divisor" = some (.ref f_greatest_divisor)) (k_greatest_divisor : PySem.W.keepIn K (.ref f_greatest_divisor) = true) (b_greatest_divisor : Binds K fd_greatest_divisor ["one", "other"] [])
    {f : Addr} (cdv : Value) (A : Around) (outer : List PySem.Env) (s : Shared) (H : Hp) (E : XK) (hr : Room 1 (A.deeper (envOfC "length_number" (defScope s_length_number) s.heap.objs.size f cdv))) :
    DSs (bodyX P w K mg base N_length_number "length_number" s_length_number f cdv A outer s H E) (defBody s_length_number) g_length_number :=
  (dss_one (ds_ret (de_call M_greatest_divisor G_greatest_divisor (hr.mono (by decide)) rfl m_greatest_divisor k_greatest_divisor b_greatest_divisor (da_cons (de_ix (dv 0) de_int) (da_cons (de_ix (dv 0) de_int) da_nil)))))
theorem ok_length_number {f_greatest_divisor : Addr}
    {fd_greatest_divisor : FuncData} (G_greatest_divisor : FnOk P w K mg base (L2.CX P w) 1 f_greatest_divisor fd_greatest_divisor ["one", "other"] (toSpP K S_greatest_divisor)) (m_greatest_divisor : mg "greatest_divisor" = some (.ref f_greatest_divisor)) (k_greatest_divisor : PySem.W.keepIn K (.ref f_greatest_divisor) = true) (b_greatest_divisor : Binds K fd_greatest_divisor ["one", "other"] [])
    {f : Addr} {fd : FuncData} (F : Fun K "length_number" "length_number" s_length_number f fd) : FnOk P w K mg base (L2.CX P w) 2 f fd ["vector"] (toSpP K S_length_number) :=
  fnP F sc_length_number Z_length_number (d_length_number G_greatest_divisor m_greatest_divisor k_greatest_divisor b_greatest_divisor) W_length_number
abbrev s_side_lengths : Stmt := topS 34
theorem sc_side_lengths : FnScope N_side_lengths ["shape"] (defScope s_side_lengths) := ⟨rfl, rfl, rfl, by decide +kernel, rfl, by decide +kernel, by decide +kernel⟩
theorem d_side_lengths {f_plain_sides f_bare_of f_length_number : Addr}
    {fd_plain_sides : FuncData} (G_plain_sides : FnOk P w K mg base (L2.CX P w) 2 f_plain_sides fd_plain_sides ["corners"] (toSpP K S_plain_sides)) (m_plain_sides : mg "plain_sides" = some (.ref f_plain_sides)) (k_plain_sides : PySem.W.keepIn K (.ref f_plain_sides) = true) (b_plain_sides : Binds K fd_plain_sides ["corners"] [])
    {fd_bare_of : FuncData} (G_bare_of : FnOk P w K mg base (L2.CX P w) 2 f_bare_of fd_bare_of ["vector"] (toSpP K S_bare_of)) (m_bare_of : mg "bare_of" = some (.ref f_bare_of)) (k_bare_of : PySem.W.keepIn K (.ref f_bare_of) = true) (b_bare_of : Binds K fd_bare_of ["vector"] [])
    {fd_length_number : FuncData} (G_length_number : FnOk P w K mg base (L2.CX P w) 2 f_length_number fd_length_number ["vector"] (toSpP K S_length_number)) (m_length_number : mg "length_number" = some (.ref f_length_number)) (k_length_number : PySem.W.keepIn K (.ref f_length_number) = true) (b_length_number : Binds K fd_length_number ["vector"] [])
    {f : Addr} (cdv : Value) (A : Around) (outer : List PySem.Env) (s : Shared) (H : Hp) (E : XK) (hr : Room 2 (A.deeper (envOfC "side_lengths" (defScope s_side_lengths) s.heap.objs.size f cdv))) :
    DSs (bodyX P w K mg base N_side_lengths "side_lengths" s_side_lengths f cdv A outer s H E) (defBody s_side_lengths) g_side_lengths :=
  (dss_one (ds_ret (de_dc (own := [("side", 1)]) hr.units rfl sc_side_lengths.nd (di_seq (de_call M_plain_sides G_plain_sides (hr.mono (by decide)) rfl m_plain_sides k_plain_sides b_plain_sides (da_cons (dv 0) da_nil))) (blkOk_by (own := [("side", 1)]) (N := N_side_lengths) (sc := defScope s_side_lengths) (by decide +kernel)) (by decide) (fun _ _ _ _ _ => (dgn 1 sc_side_lengths.nd)) (fun _ _ _ _ _ => dts_nil) (fun _ _ _ _ _ => (de_call M_bare_of G_bare_of (hr.mono (by decide)) rfl m_bare_of k_bare_of b_bare_of (da_cons (dv 1) da_nil))) (fun _ _ _ _ _ => (de_call M_length_number G_length_number (hr.mono (by decide)) rfl m_length_number k_length_number b_length_number (da_cons (dv 1) da_nil))))))
theorem ok_side_lengths {f_plain_sides f_bare_of f_length_number : Addr}
    {fd_plain_sides : FuncData} (G_plain_sides : FnOk P w K mg base (L2.CX P w) 2 f_plain_sides fd_plain_sides ["corners"] (toSpP K S_plain_sides)) (m_plain_sides : mg "plain_sides" = some (.ref f_plain_sides)) (k_plain_sides : PySem.W.keepIn K (.ref f_plain_sides) = true) (b_plain_sides : Binds K fd_plain_sides ["corners"] [])
    {fd_bare_of : FuncData} (G_bare_of : FnOk P w K mg base (L2.CX P w) 2 f_bare_of fd_bare_of ["vector"] (toSpP K S_bare_of)) (m_bare_of : mg "bare_of" = some (.ref f_bare_of)) (k_bare_of : PySem.W.keepIn K (.ref f_bare_of) = true) (b_bare_of : Binds K fd_bare_of ["vector"] [])
    {fd_length_number : FuncData} (G_length_number : FnOk P w K mg base (L2.CX P w) 2 f_length_number fd_length_number ["vector"] (toSpP K S_length_number)) (m_length_number : mg "length_number" = some (.ref f_length_number)) (k_length_number : PySem.W.keepIn K (.ref f_length_number) = true) (b_length_number : Binds K fd_length_number ["vector"] [])
    {f : Addr} {fd : FuncData} (F : Fun K "side_lengths" "side_lengths" s_side_lengths f fd) : FnOk P w K mg base (L2.CX P w) 3 f fd ["shape"] (toSpP K S_side_lengths) :=
  fnP F sc_side_lengths Z_side_lengths (d_side_lengths G_plain_sides m_plain_sides k_plain_sides b_plain_sides G_bare_of m_bare_of k_bare_of b_bare_of G_length_number m_length_number k_length_number b_length_number) W_side_lengths
abbrev s_first_short : Stmt := topS 36
theorem sc_first_short : FnScope N_first_short ["whole", "part"] (defScope s_first_short) := ⟨rfl, rfl, rfl, by decide +kernel, rfl, by decide +kernel, by decide +kernel⟩
theorem d_first_short {f_side_lengths : Addr}
    {fd_side_lengths : FuncData} (G_side_lengths : FnOk P w K mg base (L2.CX P w) 3 f_side_lengths fd_side_lengths ["shape"] (toSpP K S_side_lengths)) (m_side_lengths : mg "side_lengths" = some (.ref f_side_lengths)) (k_side_lengths : PySem.W.keepIn K (.ref f_side_lengths) = true) (b_side_lengths : Binds K fd_side_lengths ["shape"] [])
    {f : Addr} (cdv : Value) (A : Around) (outer : List PySem.Env) (s : Shared) (H : Hp) (E : XK) (hr : Room 3 (A.deeper (envOfC "first_short" (defScope s_first_short) s.heap.objs.size f cdv))) :
    DSs (bodyX P w K mg base N_first_short "first_short" s_first_short f cdv A outer s H E) (defBody s_first_short) g_first_short :=
  (dss_cons (ds_par2 (i := 3) (j := 4) rfl sc_first_short.nd rfl rfl (by decide) rfl rfl (dm_e (de_call M_side_lengths G_side_lengths (hr.mono (by decide)) rfl m_side_lengths k_side_lengths b_side_lengths (da_cons (dv 0) da_nil)) (dm_e (de_call M_side_lengths G_side_lengths (hr.mono (by decide)) rfl m_side_lengths k_side_lengths b_side_lengths (da_cons (dv 1) da_nil)) dm_nil)) (by rfl))
    (dss_cons (ds_for own_passes rfl (di_keys (dv 4)) (dgn 2 sc_first_short.nd) (dss_one (ds_if (dt_cmp op_Lt (de_get2 hr.units (dv 3) (dv 2) de_int ⟨rfl, rfl, rfl, rfl⟩) (de_dix hr.units (dv 4) (dv 2)) (nomark _)) (dss_one (ds_ret (de_tup (da_cons (dv 2) (da_cons (de_get2 hr.units (dv 3) (dv 2) de_int ⟨rfl, rfl, rfl, rfl⟩) (da_cons (de_dix hr.units (dv 4) (dv 2)) da_nil)))))) dss_nil)))
    (dss_one (ds_ret de_non))))
theorem ok_first_short {f_side_lengths : Addr}
    {fd_side_lengths : FuncData} (G_side_lengths : FnOk P w K mg base (L2.CX P w) 3 f_side_lengths fd_side_lengths ["shape"] (toSpP K S_side_lengths)) (m_side_lengths : mg "side_lengths" = some (.ref f_side_lengths)) (k_side_lengths : PySem.W.keepIn K (.ref f_side_lengths) = true) (b_side_lengths : Binds K fd_side_lengths ["shape"] [])
    {f : Addr} {fd : FuncData} (F : Fun K "first_short" "first_short" s_first_short f fd) : FnOk P w K mg base (L2.CX P w) 4 f fd ["whole", "part"] (toSpP K S_first_short) :=
  fnP F sc_first_short Z_first_short (d_first_short G_side_lengths m_side_lengths k_side_lengths b_side_lengths) W_first_short
abbrev s_point_moved : Stmt := topS 18
theorem sc_point_moved : FnScope N_point_moved ["point", "vector"] (defScope s_point_moved) := ⟨rfl, rfl, rfl, by decide +kernel, rfl, by decide +kernel, by decide +kernel⟩
theorem d_point_moved 
    {f : Addr} (cdv : Value) (A : Around) (outer : List PySem.Env) (s : Shared) (H : Hp) (E : XK) (hr : Room 0 (A.deeper (envOfC "point_moved" (defScope s_point_moved) s.heap.objs.size f cdv))) :
    DSs (bodyX P w K mg base N_point_moved "point_moved" s_point_moved f cdv A outer s H E) (defBody s_point_moved) g_point_moved :=
  (dss_one (ds_ret (de_tup (da_cons (de_op op_Add (de_ix (dv 0) de_int) (de_ix (dv 1) de_int)) (da_cons (de_op op_Add (de_ix (dv 0) de_int) (de_ix (dv 1) de_int)) da_nil)))))
theorem ok_point_moved 
    {f : Addr} {fd : FuncData} (F : Fun K "point_moved" "point_moved" s_point_moved f fd) : FnOk P w K mg base (L2.CX P w) 1 f fd ["point", "vector"] (toSpP K S_point_moved) :=
  fnP F sc_point_moved Z_point_moved (d_point_moved ) W_point_moved
abbrev s_corners_by : Stmt := topS 30
theorem sc_corners_by : FnScope N_corners_by ["point", "sides"] (defScope s_corners_by) := ⟨rfl, rfl, rfl, by decide +kernel, rfl, by decide +kernel, by decide +kernel⟩
theorem d_corners_by {f_point_moved : Addr}
    {fd_point_moved : FuncData} (G_point_moved : FnOk P w K mg base (L2.CX P w) 1 f_point_moved fd_point_moved ["point", "vector"] (toSpP K S_point_moved)) (m_point_moved : mg "point_moved" = some (.ref f_point_moved)) (k_point_moved : PySem.W.keepIn K (.ref f_point_moved) = true) (b_point_moved : Binds K fd_point_moved ["point", "vector"] [])
    (z_tuple : mg "tuple" = none)
    {f : Addr} (cdv : Value) (A : Around) (outer : List PySem.Env) (s : Shared) (H : Hp) (E : XK) (hr : Room 1 (A.deeper (envOfC "corners_by" (defScope s_corners_by) s.heap.objs.size f cdv))) :
    DSs (bodyX P w K mg base N_corners_by "corners_by" s_corners_by f cdv A outer s H E) (defBody s_corners_by) g_corners_by :=
  (dss_cons (dnew 2 sc_corners_by.nd (dn_lst (da_cons (dv 0) da_nil)))
    (dss_cons (ds_for own_passes rfl (di_seq (de_cut (dv 1) do_none (do_some (de_neg de_int)))) (dgn 3 sc_corners_by.nd) (dss_one (ds_expr (dmt 2 PySem.F.slot_list_append PySem.F.type_list_append m_app (da_cons (de_call M_point_moved G_point_moved (hr.mono (by decide)) rfl m_point_moved k_point_moved b_point_moved (da_cons (dixO 2 (de_neg de_int)) (da_cons (dv 3) da_nil))) da_nil)))))
    (dss_one (ds_ret (dtupO 2 z_tuple)))))
theorem ok_corners_by {f_point_moved : Addr}
    {fd_point_moved : FuncData} (G_point_moved : FnOk P w K mg base (L2.CX P w) 1 f_point_moved fd_point_moved ["point", "vector"] (toSpP K S_point_moved)) (m_point_moved : mg "point_moved" = some (.ref f_point_moved)) (k_point_moved : PySem.W.keepIn K (.ref f_point_moved) = true) (b_point_moved : Binds K fd_point_moved ["point", "vector"] [])
    (z_tuple : mg "tuple" = none)
    {f : Addr} {fd : FuncData} (F : Fun K "corners_by" "corners_by" s_corners_by f fd) : FnOk P w K mg base (L2.CX P w) 2 f fd ["point", "sides"] (toSpP K S_corners_by) :=
  fnP F sc_corners_by Z_corners_by (d_corners_by G_point_moved m_point_moved k_point_moved b_point_moved z_tuple) W_corners_by
abbrev s_plain_rest : Stmt := topS 37
theorem sc_plain_rest : FnScope N_plain_rest ["whole", "part"] (defScope s_plain_rest) := ⟨rfl, rfl, rfl, by decide +kernel, rfl, by decide +kernel, by decide +kernel⟩
theorem d_plain_rest {f_side_lengths f_corners_by f_vector_between : Addr}
    {fd_side_lengths : FuncData} (G_side_lengths : FnOk P w K mg base (L2.CX P w) 3 f_side_lengths fd_side_lengths ["shape"] (toSpP K S_side_lengths)) (m_side_lengths : mg "side_lengths" = some (.ref f_side_lengths)) (k_side_lengths : PySem.W.keepIn K (.ref f_side_lengths) = true) (b_side_lengths : Binds K fd_side_lengths ["shape"] [])
    {fd_corners_by : FuncData} (G_corners_by : FnOk P w K mg base (L2.CX P w) 2 f_corners_by fd_corners_by ["point", "sides"] (toSpP K S_corners_by)) (m_corners_by : mg "corners_by" = some (.ref f_corners_by)) (k_corners_by : PySem.W.keepIn K (.ref f_corners_by) = true) (b_corners_by : Binds K fd_corners_by ["point", "sides"] [])
    {fd_vector_between : FuncData} (G_vector_between : FnOk P w K mg base (L2.CX P w) 1 f_vector_between fd_vector_between ["one", "other"] (toSpP K S_vector_between)) (m_vector_between : mg "vector_between" = some (.ref f_vector_between)) (k_vector_between : PySem.W.keepIn K (.ref f_vector_between) = true) (b_vector_between : Binds K fd_vector_between ["one", "other"] [])
    {f : Addr} (cdv : Value) (A : Around) (outer : List PySem.Env) (s : Shared) (H : Hp) (E : XK) (hr : Room 3 (A.deeper (envOfC "plain_rest" (defScope s_plain_rest) s.heap.objs.size f cdv))) :
    DSs (bodyX P w K mg base N_plain_rest "plain_rest" s_plain_rest f cdv A outer s H E) (defBody s_plain_rest) g_plain_rest :=
  (dss_cons (ds_asg (de_tup (da_cons (de_call M_side_lengths G_side_lengths (hr.mono (by decide)) rfl m_side_lengths k_side_lengths b_side_lengths (da_cons (dv 0) da_nil)) (da_cons (de_call M_side_lengths G_side_lengths (hr.mono (by decide)) rfl m_side_lengths k_side_lengths b_side_lengths (da_cons (dv 1) da_nil)) da_nil))) (dg_tup rfl (dgs_cons (dgn 4 sc_plain_rest.nd) (dgs_cons (dgn 5 sc_plain_rest.nd) dgs_nil))))
    (dss_cons (ds_setLc (i := 2) (own := [("bare", 6)]) rfl sc_plain_rest.nd rfl rfl (sw_true rfl rfl rfl (by decide +kernel)) (di_keys (dv 4)) (blkOk_by (own := [("bare", 6)]) (N := N_plain_rest) (sc := defScope s_plain_rest) (by decide +kernel)) (by decide) (fun _ _ _ _ _ => (dgn 6 sc_plain_rest.nd)) (fun _ _ _ _ _ => dts_nil) (fun _ _ _ _ _ => (de_tup (da_cons (dv 6) (da_cons (de_op op_Sub (de_dix hr.units (dv 4) (dv 6)) (de_get2 hr.units (dv 5) (dv 6) de_int ⟨rfl, rfl, rfl, rfl⟩)) da_nil)))))
    (dss_cons (ds_setLc (i := 3) (own := [("bare", 6), ("many", 7)]) rfl sc_plain_rest.nd rfl rfl (sw_true rfl rfl rfl (by decide +kernel)) (di_seq (dv 2)) (blkOk_by (own := [("bare", 6), ("many", 7)]) (N := N_plain_rest) (sc := defScope s_plain_rest) (by decide +kernel)) (by decide) (fun _ _ _ _ _ => (dg_tup rfl (dgs_cons (dgn 6 sc_plain_rest.nd) (dgs_cons (dgn 7 sc_plain_rest.nd) dgs_nil)))) (fun _ _ _ _ _ => (dts_one (dt_cmp op_Gt (dv 7) de_int (nomark _)))) (fun _ _ _ _ _ => (de_tup (da_cons (de_op op_Mul (de_ix (dv 6) de_int) (dv 7)) (da_cons (de_op op_Mul (de_ix (dv 6) de_int) (dv 7)) da_nil)))))
    (dss_one (ds_ret (de_call M_corners_by G_corners_by (hr.mono (by decide)) rfl m_corners_by k_corners_by b_corners_by (da_cons (de_call M_vector_between G_vector_between (hr.mono (by decide)) rfl m_vector_between k_vector_between b_vector_between (da_cons (de_ix (dv 1) de_int) (da_cons (de_ix (dv 0) de_int) da_nil))) (da_cons (dv 3) da_nil))))))))
theorem ok_plain_rest {f_side_lengths f_corners_by f_vector_between : Addr}
    {fd_side_lengths : FuncData} (G_side_lengths : FnOk P w K mg base (L2.CX P w) 3 f_side_lengths fd_side_lengths ["shape"] (toSpP K S_side_lengths)) (m_side_lengths : mg "side_lengths" = some (.ref f_side_lengths)) (k_side_lengths : PySem.W.keepIn K (.ref f_side_lengths) = true) (b_side_lengths : Binds K fd_side_lengths ["shape"] [])
    {fd_corners_by : FuncData} (G_corners_by : FnOk P w K mg base (L2.CX P w) 2 f_corners_by fd_corners_by ["point", "sides"] (toSpP K S_corners_by)) (m_corners_by : mg "corners_by" = some (.ref f_corners_by)) (k_corners_by : PySem.W.keepIn K (.ref f_corners_by) = true) (b_corners_by : Binds K fd_corners_by ["point", "sides"] [])
    {fd_vector_between : FuncData} (G_vector_between : FnOk P w K mg base (L2.CX P w) 1 f_vector_between fd_vector_between ["one", "other"] (toSpP K S_vector_between)) (m_vector_between : mg "vector_between" = some (.ref f_vector_between)) (k_vector_between : PySem.W.keepIn K (.ref f_vector_between) = true) (b_vector_between : Binds K fd_vector_between ["one", "other"] [])
    {f : Addr} {fd : FuncData} (F : Fun K "plain_rest" "plain_rest" s_plain_rest f fd) : FnOk P w K mg base (L2.CX P w) 4 f fd ["whole", "part"] (toSpP K S_plain_rest) :=
  fnP F sc_plain_rest Z_plain_rest (d_plain_rest G_side_lengths m_side_lengths k_side_lengths b_side_lengths G_corners_by m_corners_by k_corners_by b_corners_by G_vector_between m_vector_between k_vector_between b_vector_between) W_plain_rest
abbrev s_rest_paper : Stmt := topS 38
theorem sc_rest_paper : FnScope N_rest_paper ["whole", "part"] (defScope s_rest_paper) := ⟨rfl, rfl, rfl, by decide +kernel, rfl, by decide +kernel, by decide +kernel⟩
theorem d_rest_paper {f_check_both f_first_short f_plain_rest : Addr}
    {fd_check_both : FuncData} (G_check_both : FnOk P w K mg base (L2.CX P w) 7 f_check_both fd_check_both ["one", "other"] (toSpP K S_check_both)) (m_check_both : mg "check_both" = some (.ref f_check_both)) (k_check_both : PySem.W.keepIn K (.ref f_check_both) = true) (b_check_both : Binds K fd_check_both ["one", "other"] [])
    {fd_first_short : FuncData} (G_first_short : FnOk P w K mg base (L2.CX P w) 4 f_first_short fd_first_short ["whole", "part"] (toSpP K S_first_short)) (m_first_short : mg "first_short" = some (.ref f_first_short)) (k_first_short : PySem.W.keepIn K (.ref f_first_short) = true) (b_first_short : Binds K fd_first_short ["whole", "part"] [])
    {fd_plain_rest : FuncData} (G_plain_rest : FnOk P w K mg base (L2.CX P w) 4 f_plain_rest fd_plain_rest ["whole", "part"] (toSpP K S_plain_rest)) (m_plain_rest : mg "plain_rest" = some (.ref f_plain_rest)) (k_plain_rest : PySem.W.keepIn K (.ref f_plain_rest) = true) (b_plain_rest : Binds K fd_plain_rest ["whole", "part"] [])
    {f : Addr} (cdv : Value) (A : Around) (outer : List PySem.Env) (s : Shared) (H : Hp) (E : XK) (hr : Room 7 (A.deeper (envOfC "rest_paper" (defScope s_rest_paper) s.heap.objs.size f cdv))) :
    DSs (bodyX P w K mg base N_rest_paper "rest_paper" s_rest_paper f cdv A outer s H E) (defBody s_rest_paper) g_rest_paper :=
  (dss_cons (ds_expr (de_call M_check_both G_check_both (hr.mono (by decide)) rfl m_check_both k_check_both b_check_both (da_cons (dv 0) (da_cons (dv 1) da_nil))))
    (dss_cons (dset 2 sc_rest_paper.nd (de_call M_first_short G_first_short (hr.mono (by decide)) rfl m_first_short k_first_short b_first_short (da_cons (dv 0) (da_cons (dv 1) da_nil))))
    (dss_one (ds_ret (de_if (dt_cmp op_IsN (dv 2) de_non (nomark _)) (de_tup (da_cons de_str (da_cons (de_call M_plain_rest G_plain_rest (hr.mono (by decide)) rfl m_plain_rest k_plain_rest b_plain_rest (da_cons (dv 0) (da_cons (dv 1) da_nil))) da_nil))) (de_tup (da_cons de_str (da_star (dv 2) da_nil))))))))
theorem ok_rest_paper {f_check_both f_first_short f_plain_rest : Addr}
    {fd_check_both : FuncData} (G_check_both : FnOk P w K mg base (L2.CX P w) 7 f_check_both fd_check_both ["one", "other"] (toSpP K S_check_both)) (m_check_both : mg "check_both" = some (.ref f_check_both)) (k_check_both : PySem.W.keepIn K (.ref f_check_both) = true) (b_check_both : Binds K fd_check_both ["one", "other"] [])
    {fd_first_short : FuncData} (G_first_short : FnOk P w K mg base (L2.CX P w) 4 f_first_short fd_first_short ["whole", "part"] (toSpP K S_first_short)) (m_first_short : mg "first_short" = some (.ref f_first_short)) (k_first_short : PySem.W.keepIn K (.ref f_first_short) = true) (b_first_short : Binds K fd_first_short ["whole", "part"] [])
    {fd_plain_rest : FuncData} (G_plain_rest : FnOk P w K mg base (L2.CX P w) 4 f_plain_rest fd_plain_rest ["whole", "part"] (toSpP K S_plain_rest)) (m_plain_rest : mg "plain_rest" = some (.ref f_plain_rest)) (k_plain_rest : PySem.W.keepIn K (.ref f_plain_rest) = true) (b_plain_rest : Binds K fd_plain_rest ["whole", "part"] [])
    {f : Addr} {fd : FuncData} (F : Fun K "rest_paper" "rest_paper" s_rest_paper f fd) : FnOk P w K mg base (L2.CX P w) 8 f fd ["whole", "part"] (toSpP K S_rest_paper) :=
  fnP F sc_rest_paper Z_rest_paper (d_rest_paper G_check_both m_check_both k_check_both b_check_both G_first_short m_first_short k_first_short b_first_short G_plain_rest m_plain_rest k_plain_rest b_plain_rest) W_rest_paper
abbrev s_Lsides : Stmt := topS 53
theorem sc_Lsides : FnScope N_Lsides ["_law_shape"] (defScope s_Lsides) := ⟨rfl, rfl, rfl, by decide +kernel, rfl, by decide +kernel, by decide +kernel⟩
theorem d_Lsides {f_Lto : Addr}
    {fd_Lto : FuncData} (G_Lto : FnOk P w K mg base (L2.CX P w) 1 f_Lto fd_Lto ["_law_one_here", "_law_other"] (toSpP K S_Lto)) (m_Lto : mg "_law_to" = some (.ref f_Lto)) (k_Lto : PySem.W.keepIn K (.ref f_Lto) = true) (b_Lto : Binds K fd_Lto ["_law_one_here", "_law_other"] [])
    (z_len : mg "len" = none)
    (z_range : mg "range" = none)
    {f : Addr} (cdv : Value) (A : Around) (outer : List PySem.Env) (s : Shared) (H : Hp) (E : XK) (hr : Room 1 (A.deeper (envOfC "_law_sides" (defScope s_Lsides) s.heap.objs.size f cdv))) :
    DSs (bodyX P w K mg base N_Lsides "_law_sides" s_Lsides f cdv A outer s H E) (defBody s_Lsides) g_Lsides :=
  (dss_cons (ds_if (dt_cmp (op_Eq hr.units) (de_callB c_len rfl z_len PySem.boot_len (da_cons (dv 0) da_nil)) de_int (nomark _)) (dss_one (ds_ret (de_n (dn_lst da_nil)))) dss_nil)
    (dss_one (ds_ret (de_n (dn_lc (own := [("_law_at", 1)]) rfl sc_Lsides.nd (di_range1 rfl z_range (da_cons (de_callB c_len rfl z_len PySem.boot_len (da_cons (dv 0) da_nil)) da_nil)) (blkOk_by (own := [("_law_at", 1)]) (N := N_Lsides) (sc := defScope s_Lsides) (by decide +kernel)) (by decide) (fun _ _ _ _ _ => (dgn 1 sc_Lsides.nd)) (fun _ _ _ _ _ => dts_nil) (fun _ _ _ _ _ => (de_call M_Lto G_Lto (hr.mono (by decide)) rfl m_Lto k_Lto b_Lto (da_cons (de_ix (dv 0) (dv 1)) (da_cons (de_ix (dv 0) (de_op op_Mod (de_op op_Add (dv 1) de_int) (de_callB c_len rfl z_len PySem.boot_len (da_cons (dv 0) da_nil)))) da_nil)))))))))
theorem ok_Lsides {f_Lto : Addr}
    {fd_Lto : FuncData} (G_Lto : FnOk P w K mg base (L2.CX P w) 1 f_Lto fd_Lto ["_law_one_here", "_law_other"] (toSpP K S_Lto)) (m_Lto : mg "_law_to" = some (.ref f_Lto)) (k_Lto : PySem.W.keepIn K (.ref f_Lto) = true) (b_Lto : Binds K fd_Lto ["_law_one_here", "_law_other"] [])
    (z_len : mg "len" = none)
    (z_range : mg "range" = none)
    {f : Addr} {fd : FuncData} (F : Fun K "_law_sides" "_law_sides" s_Lsides f fd) : FnOk P w K mg base (L2.CX P w) 2 f fd ["_law_shape"] (toSpP K S_Lsides) :=
  fnP F sc_Lsides Z_Lsides (d_Lsides G_Lto m_Lto k_Lto b_Lto z_len z_range) W_Lsides
abbrev s_Ldivisor : Stmt := topS 45
theorem sc_Ldivisor : FnScope N_Ldivisor ["_law_one_here", "_law_other"] (defScope s_Ldivisor) := ⟨rfl, rfl, rfl, by decide +kernel, rfl, by decide +kernel, by decide +kernel⟩
theorem d_Ldivisor (z_max : mg "max" = none)
    (z_int : mg "int" = none)
    {f : Addr} (cdv : Value) (A : Around) (outer : List PySem.Env) (s : Shared) (H : Hp) (E : XK) (hr : Room 0 (A.deeper (envOfC "_law_divisor" (defScope s_Ldivisor) s.heap.objs.size f cdv))) :
    DSs (bodyX P w K mg base N_Ldivisor "_law_divisor" s_Ldivisor f cdv A outer s H E) (defBody s_Ldivisor) g_Ldivisor :=
  (dss_cons (ds_par2 (i := 2) (j := 3) rfl sc_Ldivisor.nd rfl rfl (by decide) rfl rfl (dm_e (de_callB (c_max2 rfl) rfl z_max (by decide +kernel) (da_cons (de_callTy c_int rfl z_int (by decide +kernel) (da_cons (dv 0) da_nil)) (da_cons (de_callTy c_int rfl z_int (by decide +kernel) (da_cons (de_op op_Sub de_int (dv 0)) da_nil)) da_nil))) (dm_e (de_callB (c_max2 rfl) rfl z_max (by decide +kernel) (da_cons (de_callTy c_int rfl z_int (by decide +kernel) (da_cons (dv 1) da_nil)) (da_cons (de_callTy c_int rfl z_int (by decide +kernel) (da_cons (de_op op_Sub de_int (dv 1)) da_nil)) da_nil))) dm_nil)) (by rfl))
    (dss_cons (ds_while own_passes (dt_cmp (op_Ne hr.units) (dv 3) de_int (nomark _)) (dss_one (ds_par2 (i := 2) (j := 3) rfl sc_Ldivisor.nd rfl rfl (by decide) rfl rfl (dm_e (dv 3) (dm_e (de_op op_Mod (dv 2) (dv 3)) dm_nil)) (by rfl))))
    (dss_one (ds_ret (dv 2)))))
theorem ok_Ldivisor (z_max : mg "max" = none)
    (z_int : mg "int" = none)
    {f : Addr} {fd : FuncData} (F : Fun K "_law_divisor" "_law_divisor" s_Ldivisor f fd) : FnOk P w K mg base (L2.CX P w) 1 f fd ["_law_one_here", "_law_other"] (toSpP K S_Ldivisor) :=
  fnP F sc_Ldivisor Z_Ldivisor (d_Ldivisor z_max z_int) W_Ldivisor
abbrev s_Lbare : Stmt := topS 59
theorem sc_Lbare : FnScope N_Lbare ["_law_way"] (defScope s_Lbare) := ⟨rfl, rfl, rfl, by decide +kernel, rfl, by decide +kernel, by decide +kernel⟩
theorem d_Lbare {f_Ldivisor : Addr}
    {fd_Ldivisor : FuncData} (G_Ldivisor : FnOk P w K mg base (L2.CX P w) 1 f_Ldivisor fd_Ldivisor ["_law_one_here", "_law_other"] (toSpP K S_Ldivisor)) (m_Ldivisor : mg "_law_divisor" = some (.ref f_Ldivisor)) (k_Ldivisor : PySem.W.keepIn K (.ref f_Ldivisor) = true) (b_Ldivisor : Binds K fd_Ldivisor ["_law_one_here", "_law_other"] [])
    {f : Addr} (cdv : Value) (A : Around) (outer : List PySem.Env) (s : Shared) (H : Hp) (E : XK) (hr : Room 1 (A.deeper (envOfC "_law_bare" (defScope s_Lbare) s.heap.objs.size f cdv))) :
    DSs (bodyX P w K mg base N_Lbare "_law_bare" s_Lbare f cdv A outer s H E) (defBody s_Lbare) g_Lbare :=
  (dss_cons (dset 1 sc_Lbare.nd (de_call M_Ldivisor G_Ldivisor (hr.mono (by decide)) rfl m_Ldivisor k_Ldivisor b_Ldivisor (da_cons (de_ix (dv 0) de_int) (da_cons (de_ix (dv 0) de_int) da_nil))))
    (dss_one (ds_ret (de_tup (da_cons (de_op op_Div (de_ix (dv 0) de_int) (dv 1)) (da_cons (de_op op_Div (de_ix (dv 0) de_int) (dv 1)) da_nil))))))
theorem ok_Lbare {f_Ldivisor : Addr}
    {fd_Ldivisor : FuncData} (G_Ldivisor : FnOk P w K mg base (L2.CX P w) 1 f_Ldivisor fd_Ldivisor ["_law_one_here", "_law_other"] (toSpP K S_Ldivisor)) (m_Ldivisor : mg "_law_divisor" = some (.ref f_Ldivisor)) (k_Ldivisor : PySem.W.keepIn K (.ref f_Ldivisor) = true) (b_Ldivisor : Binds K fd_Ldivisor ["_law_one_here", "_law_other"] [])
    {f : Addr} {fd : FuncData} (F : Fun K "_law_bare" "_law_bare" s_Lbare f fd) : FnOk P w K mg base (L2.CX P w) 2 f fd ["_law_way"] (toSpP K S_Lbare) :=
  fnP F sc_Lbare Z_Lbare (d_Lbare G_Ldivisor m_Ldivisor k_Ldivisor b_Ldivisor) W_Lbare
abbrev s_Llongs : Stmt := topS 60
theorem sc_Llongs : FnScope N_Llongs ["_law_shape"] (defScope s_Llongs) := ⟨rfl, rfl, rfl, by decide +kernel, rfl, by decide +kernel, by decide +kernel⟩
theorem d_Llongs {f_Lsides f_Ldivisor f_Lbare : Addr}
    {fd_Lsides : FuncData} (G_Lsides : FnOk P w K mg base (L2.CX P w) 2 f_Lsides fd_Lsides ["_law_shape"] (toSpP K S_Lsides)) (m_Lsides : mg "_law_sides" = some (.ref f_Lsides)) (k_Lsides : PySem.W.keepIn K (.ref f_Lsides) = true) (b_Lsides : Binds K fd_Lsides ["_law_shape"] [])
    {fd_Ldivisor : FuncData} (G_Ldivisor : FnOk P w K mg base (L2.CX P w) 1 f_Ldivisor fd_Ldivisor ["_law_one_here", "_law_other"] (toSpP K S_Ldivisor)) (m_Ldivisor : mg "_law_divisor" = some (.ref f_Ldivisor)) (k_Ldivisor : PySem.W.keepIn K (.ref f_Ldivisor) = true) (b_Ldivisor : Binds K fd_Ldivisor ["_law_one_here", "_law_other"] [])
    {fd_Lbare : FuncData} (G_Lbare : FnOk P w K mg base (L2.CX P w) 2 f_Lbare fd_Lbare ["_law_way"] (toSpP K S_Lbare)) (m_Lbare : mg "_law_bare" = some (.ref f_Lbare)) (k_Lbare : PySem.W.keepIn K (.ref f_Lbare) = true) (b_Lbare : Binds K fd_Lbare ["_law_way"] [])
    (z_dict : mg "dict" = none)
    {f : Addr} (cdv : Value) (A : Around) (outer : List PySem.Env) (s : Shared) (H : Hp) (E : XK) (hr : Room 2 (A.deeper (envOfC "_law_longs" (defScope s_Llongs) s.heap.objs.size f cdv))) :
    DSs (bodyX P w K mg base N_Llongs "_law_longs" s_Llongs f cdv A outer s H E) (defBody s_Llongs) g_Llongs :=
  (dss_one (ds_ret (de_callTy (c_dictK rfl hr.units) rfl z_dict (by decide +kernel) (da_cons (de_n (dn_lc (own := [("_law_way", 1)]) rfl sc_Llongs.nd (di_seq (de_call M_Lsides G_Lsides (hr.mono (by decide)) rfl m_Lsides k_Lsides b_Lsides (da_cons (dv 0) da_nil))) (blkOk_by (own := [("_law_way", 1)]) (N := N_Llongs) (sc := defScope s_Llongs) (by decide +kernel)) (by decide) (fun _ _ _ _ _ => (dgn 1 sc_Llongs.nd)) (fun _ _ _ _ _ => dts_nil) (fun _ _ _ _ _ => (de_tup (da_cons (de_call M_Lbare G_Lbare (hr.mono (by decide)) rfl m_Lbare k_Lbare b_Lbare (da_cons (dv 1) da_nil)) (da_cons (de_call M_Ldivisor G_Ldivisor (hr.mono (by decide)) rfl m_Ldivisor k_Ldivisor b_Ldivisor (da_cons (de_ix (dv 1) de_int) (da_cons (de_ix (dv 1) de_int) da_nil))) da_nil)))))) da_nil))))
theorem ok_Llongs {f_Lsides f_Ldivisor f_Lbare : Addr}
    {fd_Lsides : FuncData} (G_Lsides : FnOk P w K mg base (L2.CX P w) 2 f_Lsides fd_Lsides ["_law_shape"] (toSpP K S_Lsides)) (m_Lsides : mg "_law_sides" = some (.ref f_Lsides)) (k_Lsides : PySem.W.keepIn K (.ref f_Lsides) = true) (b_Lsides : Binds K fd_Lsides ["_law_shape"] [])
    {fd_Ldivisor : FuncData} (G_Ldivisor : FnOk P w K mg base (L2.CX P w) 1 f_Ldivisor fd_Ldivisor ["_law_one_here", "_law_other"] (toSpP K S_Ldivisor)) (m_Ldivisor : mg "_law_divisor" = some (.ref f_Ldivisor)) (k_Ldivisor : PySem.W.keepIn K (.ref f_Ldivisor) = true) (b_Ldivisor : Binds K fd_Ldivisor ["_law_one_here", "_law_other"] [])
    {fd_Lbare : FuncData} (G_Lbare : FnOk P w K mg base (L2.CX P w) 2 f_Lbare fd_Lbare ["_law_way"] (toSpP K S_Lbare)) (m_Lbare : mg "_law_bare" = some (.ref f_Lbare)) (k_Lbare : PySem.W.keepIn K (.ref f_Lbare) = true) (b_Lbare : Binds K fd_Lbare ["_law_way"] [])
    (z_dict : mg "dict" = none)
    {f : Addr} {fd : FuncData} (F : Fun K "_law_longs" "_law_longs" s_Llongs f fd) : FnOk P w K mg base (L2.CX P w) 3 f fd ["_law_shape"] (toSpP K S_Llongs) :=
  fnP F sc_Llongs Z_Llongs (d_Llongs G_Lsides m_Lsides k_Lsides b_Lsides G_Ldivisor m_Ldivisor k_Ldivisor b_Ldivisor G_Lbare m_Lbare k_Lbare b_Lbare z_dict) W_Llongs
abbrev s_Lshort : Stmt := topS 61
theorem sc_Lshort : FnScope N_Lshort ["_law_whole", "_law_part"] (defScope s_Lshort) := ⟨rfl, rfl, rfl, by decide +kernel, rfl, by decide +kernel, by decide +kernel⟩
theorem d_Lshort {f_Llongs f_Lsides f_Lbare : Addr}
    {fd_Llongs : FuncData} (G_Llongs : FnOk P w K mg base (L2.CX P w) 3 f_Llongs fd_Llongs ["_law_shape"] (toSpP K S_Llongs)) (m_Llongs : mg "_law_longs" = some (.ref f_Llongs)) (k_Llongs : PySem.W.keepIn K (.ref f_Llongs) = true) (b_Llongs : Binds K fd_Llongs ["_law_shape"] [])
    {fd_Lsides : FuncData} (G_Lsides : FnOk P w K mg base (L2.CX P w) 2 f_Lsides fd_Lsides ["_law_shape"] (toSpP K S_Lsides)) (m_Lsides : mg "_law_sides" = some (.ref f_Lsides)) (k_Lsides : PySem.W.keepIn K (.ref f_Lsides) = true) (b_Lsides : Binds K fd_Lsides ["_law_shape"] [])
    {fd_Lbare : FuncData} (G_Lbare : FnOk P w K mg base (L2.CX P w) 2 f_Lbare fd_Lbare ["_law_way"] (toSpP K S_Lbare)) (m_Lbare : mg "_law_bare" = some (.ref f_Lbare)) (k_Lbare : PySem.W.keepIn K (.ref f_Lbare) = true) (b_Lbare : Binds K fd_Lbare ["_law_way"] [])
    {f : Addr} (cdv : Value) (A : Around) (outer : List PySem.Env) (s : Shared) (H : Hp) (E : XK) (hr : Room 3 (A.deeper (envOfC "_law_short" (defScope s_Lshort) s.heap.objs.size f cdv))) :
    DSs (bodyX P w K mg base N_Lshort "_law_short" s_Lshort f cdv A outer s H E) (defBody s_Lshort) g_Lshort :=
  (dss_cons (ds_par2 (i := 3) (j := 4) rfl sc_Lshort.nd rfl rfl (by decide) rfl rfl (dm_e (de_call M_Llongs G_Llongs (hr.mono (by decide)) rfl m_Llongs k_Llongs b_Llongs (da_cons (dv 0) da_nil)) (dm_e (de_call M_Llongs G_Llongs (hr.mono (by decide)) rfl m_Llongs k_Llongs b_Llongs (da_cons (dv 1) da_nil)) dm_nil)) (by rfl))
    (dss_cons (ds_for own_passes rfl (di_seq (de_call M_Lsides G_Lsides (hr.mono (by decide)) rfl m_Lsides k_Lsides b_Lsides (da_cons (dv 1) da_nil))) (dgn 2 sc_Lshort.nd) (dss_cons (dset 5 sc_Lshort.nd (de_call M_Lbare G_Lbare (hr.mono (by decide)) rfl m_Lbare k_Lbare b_Lbare (da_cons (dv 2) da_nil)))
    (dss_one (ds_if (dt_cmp op_Lt (de_get2 hr.units (dv 3) (dv 5) de_int ⟨rfl, rfl, rfl, rfl⟩) (de_dix hr.units (dv 4) (dv 5)) (nomark _)) (dss_one (ds_ret (de_tup (da_cons (dv 5) (da_cons (de_get2 hr.units (dv 3) (dv 5) de_int ⟨rfl, rfl, rfl, rfl⟩) (da_cons (de_dix hr.units (dv 4) (dv 5)) da_nil)))))) dss_nil))))
    (dss_one (ds_ret de_non))))
theorem ok_Lshort {f_Llongs f_Lsides f_Lbare : Addr}
    {fd_Llongs : FuncData} (G_Llongs : FnOk P w K mg base (L2.CX P w) 3 f_Llongs fd_Llongs ["_law_shape"] (toSpP K S_Llongs)) (m_Llongs : mg "_law_longs" = some (.ref f_Llongs)) (k_Llongs : PySem.W.keepIn K (.ref f_Llongs) = true) (b_Llongs : Binds K fd_Llongs ["_law_shape"] [])
    {fd_Lsides : FuncData} (G_Lsides : FnOk P w K mg base (L2.CX P w) 2 f_Lsides fd_Lsides ["_law_shape"] (toSpP K S_Lsides)) (m_Lsides : mg "_law_sides" = some (.ref f_Lsides)) (k_Lsides : PySem.W.keepIn K (.ref f_Lsides) = true) (b_Lsides : Binds K fd_Lsides ["_law_shape"] [])
    {fd_Lbare : FuncData} (G_Lbare : FnOk P w K mg base (L2.CX P w) 2 f_Lbare fd_Lbare ["_law_way"] (toSpP K S_Lbare)) (m_Lbare : mg "_law_bare" = some (.ref f_Lbare)) (k_Lbare : PySem.W.keepIn K (.ref f_Lbare) = true) (b_Lbare : Binds K fd_Lbare ["_law_way"] [])
    {f : Addr} {fd : FuncData} (F : Fun K "_law_short" "_law_short" s_Lshort f fd) : FnOk P w K mg base (L2.CX P w) 4 f fd ["_law_whole", "_law_part"] (toSpP K S_Lshort) :=
  fnP F sc_Lshort Z_Lshort (d_Lshort G_Llongs m_Llongs k_Llongs b_Llongs G_Lsides m_Lsides k_Lsides b_Lsides G_Lbare m_Lbare k_Lbare b_Lbare) W_Lshort
abbrev s_Lshorts : Stmt := topS 67
theorem sc_Lshorts : FnScope N_Lshorts ["_law_whole", "_law_part"] (defScope s_Lshorts) := ⟨rfl, rfl, rfl, by decide +kernel, rfl, by decide +kernel, by decide +kernel⟩
theorem d_Lshorts {f_Llongs : Addr}
    {fd_Llongs : FuncData} (G_Llongs : FnOk P w K mg base (L2.CX P w) 3 f_Llongs fd_Llongs ["_law_shape"] (toSpP K S_Llongs)) (m_Llongs : mg "_law_longs" = some (.ref f_Llongs)) (k_Llongs : PySem.W.keepIn K (.ref f_Llongs) = true) (b_Llongs : Binds K fd_Llongs ["_law_shape"] [])
    {f : Addr} (cdv : Value) (A : Around) (outer : List PySem.Env) (s : Shared) (H : Hp) (E : XK) (hr : Room 3 (A.deeper (envOfC "_law_shorts" (defScope s_Lshorts) s.heap.objs.size f cdv))) :
    DSs (bodyX P w K mg base N_Lshorts "_law_shorts" s_Lshorts f cdv A outer s H E) (defBody s_Lshorts) g_Lshorts :=
  (dss_cons (ds_asg (de_tup (da_cons (de_call M_Llongs G_Llongs (hr.mono (by decide)) rfl m_Llongs k_Llongs b_Llongs (da_cons (dv 0) da_nil)) (da_cons (de_call M_Llongs G_Llongs (hr.mono (by decide)) rfl m_Llongs k_Llongs b_Llongs (da_cons (dv 1) da_nil)) da_nil))) (dg_tup rfl (dgs_cons (dgn 2 sc_Lshorts.nd) (dgs_cons (dgn 3 sc_Lshorts.nd) dgs_nil))))
    (dss_one (ds_ret (de_n (dn_lc (own := [("_law_u", 4)]) rfl sc_Lshorts.nd (di_keys (dv 3)) (blkOk_by (own := [("_law_u", 4)]) (N := N_Lshorts) (sc := defScope s_Lshorts) (by decide +kernel)) (by decide) (fun _ _ _ _ _ => (dgn 4 sc_Lshorts.nd)) (fun _ _ _ _ _ => dts_nil) (fun _ _ _ _ _ => (de_tup (da_cons de_str (da_cons (dv 4) (da_cons (de_get2 hr.units (dv 2) (dv 4) de_int ⟨rfl, rfl, rfl, rfl⟩) (da_cons (de_dix hr.units (dv 3) (dv 4)) da_nil)))))))))))
theorem ok_Lshorts {f_Llongs : Addr}
    {fd_Llongs : FuncData} (G_Llongs : FnOk P w K mg base (L2.CX P w) 3 f_Llongs fd_Llongs ["_law_shape"] (toSpP K S_Llongs)) (m_Llongs : mg "_law_longs" = some (.ref f_Llongs)) (k_Llongs : PySem.W.keepIn K (.ref f_Llongs) = true) (b_Llongs : Binds K fd_Llongs ["_law_shape"] [])
    {f : Addr} {fd : FuncData} (F : Fun K "_law_shorts" "_law_shorts" s_Lshorts f fd) : FnOk P w K mg base (L2.CX P w) 4 f fd ["_law_whole", "_law_part"] (toSpP K S_Lshorts) :=
  fnP F sc_Lshorts Z_Lshorts (d_Lshorts G_Llongs m_Llongs k_Llongs b_Llongs) W_Lshorts
abbrev s_Lbent : Stmt := topS 66
theorem sc_Lbent : FnScope N_Lbent ["_law_source", "_law_paper", "_law_whole", "_law_part"] (defScope s_Lbent) := ⟨rfl, rfl, rfl, by decide +kernel, rfl, by decide +kernel, by decide +kernel⟩
theorem d_Lbent {f_Ltake f_Lone f_Lmoved f_Lround : Addr}
    {fd_Ltake : FuncData} (G_Ltake : FnOk P w K mg base (L2.CX P w) 1 f_Ltake fd_Ltake ["_law_source", "_law_top"] (toSpO K S_Ltake)) (m_Ltake : mg "_law_take" = some (.ref f_Ltake)) (k_Ltake : PySem.W.keepIn K (.ref f_Ltake) = true) (b_Ltake : Binds K fd_Ltake ["_law_source", "_law_top"] [])
    {fd_Lone : FuncData} (G_Lone : FnOk P w K mg base (L2.CX P w) 2 f_Lone fd_Lone ["_law_source", "_law_things"] (toSpO K S_Lone)) (m_Lone : mg "_law_one" = some (.ref f_Lone)) (k_Lone : PySem.W.keepIn K (.ref f_Lone) = true) (b_Lone : Binds K fd_Lone ["_law_source", "_law_things"] [])
    {fd_Lmoved : FuncData} (G_Lmoved : FnOk P w K mg base (L2.CX P w) 2 f_Lmoved fd_Lmoved ["_law_shape", "_law_t"] (toSpP K S_Lmoved)) (m_Lmoved : mg "_law_moved" = some (.ref f_Lmoved)) (k_Lmoved : PySem.W.keepIn K (.ref f_Lmoved) = true) (b_Lmoved : Binds K fd_Lmoved ["_law_shape", "_law_t"] [])
    {fd_Lround : FuncData} (G_Lround : FnOk P w K mg base (L2.CX P w) 4 f_Lround fd_Lround ["_law_source", "_law_size_here"] (toSpO K S_Lround)) (m_Lround : mg "_law_round" = some (.ref f_Lround)) (k_Lround : PySem.W.keepIn K (.ref f_Lround) = true) (b_Lround : Binds K fd_Lround ["_law_source", "_law_size_here"] [])
    (z_list : mg "list" = none)
    (z_len : mg "len" = none)
    (z_isinstance : mg "isinstance" = none)
    (z_tuple : mg "tuple" = none)
    (z_str : mg "str" = none)
    (z_bool : mg "bool" = none)
    {f : Addr} (cdv : Value) (A : Around) (outer : List PySem.Env) (s : Shared) (H : Hp) (E : XK) (hr : Room 4 (A.deeper (envOfC "_law_bent" (defScope s_Lbent) s.heap.objs.size f cdv))) :
    DSs (bodyX P w K mg base N_Lbent "_law_bent" s_Lbent f cdv A outer s H E) (defBody s_Lbent) g_Lbent :=
  (dss_cons (dset 4 sc_Lbent.nd (dcallO 0 M_Ltake G_Ltake (hr.mono (by decide)) rfl m_Ltake k_Ltake b_Ltake (da_cons de_int da_nil)))
    (dss_cons (ds_if (dt_cmp (op_Eq hr.units) (dv 4) de_int (nomark _)) (dss_one (ds_ret (de_op op_Add (de_tup (da_cons (dcallO 0 M_Lone G_Lone (hr.mono (by decide)) rfl m_Lone k_Lone b_Lone (da_cons (de_n (dn_lst (da_cons de_str (da_cons de_str (da_cons de_str (da_cons de_int (da_cons de_non da_nil))))))) da_nil)) da_nil)) (de_cut (dv 1) (do_some de_int) do_none)))) dss_nil)
    (dss_cons (ds_if (dt_cmp (op_Eq hr.units) (dv 4) de_int (nomark _)) (dss_one (ds_ret (de_cut (dv 1) do_none (do_some (de_neg de_int))))) dss_nil)
    (dss_cons (ds_if (dt_cmp (op_Eq hr.units) (dv 4) de_int (nomark _)) (dss_one (ds_ret (dcallO 0 M_Lone G_Lone (hr.mono (by decide)) rfl m_Lone k_Lone b_Lone (da_cons (de_n (dn_lst (da_cons de_non (da_cons (de_callTy c_list rfl z_list (by decide +kernel) (da_cons (dv 1) da_nil)) (da_cons (de_op op_Add (dv 1) (de_tup (da_cons de_int da_nil))) (da_cons (de_ix (dv 1) de_int) (da_cons (de_tup da_nil) (da_cons de_dict0 da_nil)))))))) da_nil)))) dss_nil)
    (dss_cons (ds_if (dt_cmp (op_Eq hr.units) (de_callB c_len rfl z_len PySem.boot_len (da_cons (dv 1) da_nil)) de_int (nomark _)) (dss_cons (dset 6 sc_Lbent.nd (de_if (dt_w (dw_and (dt_val (de_isi tt_tuple rfl z_isinstance rfl z_tuple (by decide +kernel) (de_ix (dv 1) de_int))) (dw_and1 (dt_cmp op_Gt (de_callB c_len rfl z_len PySem.boot_len (da_cons (de_ix (dv 1) de_int) da_nil)) de_int (nomark _))))) (de_ix (dv 1) de_int) (dv 3)))
    (dss_cons (dset 5 sc_Lbent.nd (de_n (dn_lst (da_cons (de_back (dv 6)) (da_cons (de_op op_Add (de_cut (dv 6) (do_some de_int) do_none) (de_cut (dv 6) do_none (do_some de_int))) (da_cons (de_cut (dv 6) do_none (do_some (de_neg de_int))) (da_cons (de_op op_Add (dv 6) (de_cut (dv 6) do_none (do_some de_int))) (da_cons (de_call M_Lmoved G_Lmoved (hr.mono (by decide)) rfl m_Lmoved k_Lmoved b_Lmoved (da_cons (dv 6) (da_cons (de_tup (da_cons de_int (da_cons de_int da_nil))) da_nil))) da_nil))))))))
    (dss_cons (dset 5 sc_Lbent.nd (de_op op_Add (dv 5) (de_n (dn_lst (da_cons (de_callTy c_list rfl z_list (by decide +kernel) (da_cons (dv 6) da_nil)) (da_cons (dv 3) (da_cons (dv 2) (da_cons (de_tup (da_cons (de_tup (da_cons de_bl (da_cons de_int da_nil))) da_nil)) (da_cons (dcallO 0 M_Lround G_Lround (hr.mono (by decide)) rfl m_Lround k_Lround b_Lround (da_cons de_int da_nil)) da_nil)))))))))
    (dss_one (ds_ret (de_tup (da_cons de_str (da_cons (dcallO 0 M_Lone G_Lone (hr.mono (by decide)) rfl m_Lone k_Lone b_Lone (da_cons (dv 5) da_nil)) da_nil)))))))) dss_nil)
    (dss_cons (ds_asg (dv 1) (dg_tup rfl (dgs_cons (dgn 7 sc_Lbent.nd) (dgs_cons (dgn 8 sc_Lbent.nd) (dgs_cons (dgn 9 sc_Lbent.nd) (dgs_cons (dgn 10 sc_Lbent.nd) dgs_nil))))))
    (dss_cons (dset 5 sc_Lbent.nd (de_n (dn_lst (da_cons (de_tup (da_cons (dv 8) (da_cons (dv 9) (da_cons (de_op op_Add (dv 10) de_int) da_nil)))) (da_cons (de_tup (da_cons (dv 8) (da_cons (de_op op_Add (dv 9) de_int) (da_cons (dv 10) da_nil)))) (da_cons (de_tup (da_cons (de_tup (da_cons (de_op op_Mul de_int (de_ix (dv 8) de_int)) (da_cons (de_op op_Mul de_int (de_ix (dv 8) de_int)) da_nil))) (da_cons (dv 9) (da_cons (dv 10) da_nil)))) (da_cons (de_tup (da_cons (de_callTy c_list rfl z_list (by decide +kernel) (da_cons (dv 8) da_nil)) (da_cons (dv 9) (da_cons (dv 10) da_nil)))) da_nil)))))))
    (dss_cons (dset 5 sc_Lbent.nd (de_op op_Add (dv 5) (de_n (dn_lst (da_cons (de_tup (da_cons (de_tup (da_cons (de_op op_Sub de_int (de_ix (dv 8) de_int)) (da_cons (de_op op_Sub de_int (de_ix (dv 8) de_int)) da_nil))) (da_cons (dv 9) (da_cons (dv 10) da_nil)))) (da_cons (de_tup (da_cons (dv 8) (da_cons (dv 10) (da_cons (dv 9) da_nil)))) (da_cons (de_tup (da_cons (dv 8) (da_cons (de_callTy c_boolI rfl z_bool (by decide +kernel) (da_cons (dv 9) da_nil)) (da_cons (dv 10) da_nil)))) (da_cons (de_tup (da_cons (dv 8) (da_cons (dv 9) (da_cons (de_callTy c_strI rfl z_str (by decide +kernel) (da_cons (dv 10) da_nil)) da_nil)))) da_nil))))))))
    (dss_one (ds_ret (de_op op_Add (de_tup (da_cons (dv 7) da_nil)) (dcallO 0 M_Lone G_Lone (hr.mono (by decide)) rfl m_Lone k_Lone b_Lone (da_cons (dv 5) da_nil)))))))))))))
theorem ok_Lbent {f_Ltake f_Lone f_Lmoved f_Lround : Addr}
    {fd_Ltake : FuncData} (G_Ltake : FnOk P w K mg base (L2.CX P w) 1 f_Ltake fd_Ltake ["_law_source", "_law_top"] (toSpO K S_Ltake)) (m_Ltake : mg "_law_take" = some (.ref f_Ltake)) (k_Ltake : PySem.W.keepIn K (.ref f_Ltake) = true) (b_Ltake : Binds K fd_Ltake ["_law_source", "_law_top"] [])
    {fd_Lone : FuncData} (G_Lone : FnOk P w K mg base (L2.CX P w) 2 f_Lone fd_Lone ["_law_source", "_law_things"] (toSpO K S_Lone)) (m_Lone : mg "_law_one" = some (.ref f_Lone)) (k_Lone : PySem.W.keepIn K (.ref f_Lone) = true) (b_Lone : Binds K fd_Lone ["_law_source", "_law_things"] [])
    {fd_Lmoved : FuncData} (G_Lmoved : FnOk P w K mg base (L2.CX P w) 2 f_Lmoved fd_Lmoved ["_law_shape", "_law_t"] (toSpP K S_Lmoved)) (m_Lmoved : mg "_law_moved" = some (.ref f_Lmoved)) (k_Lmoved : PySem.W.keepIn K (.ref f_Lmoved) = true) (b_Lmoved : Binds K fd_Lmoved ["_law_shape", "_law_t"] [])
    {fd_Lround : FuncData} (G_Lround : FnOk P w K mg base (L2.CX P w) 4 f_Lround fd_Lround ["_law_source", "_law_size_here"] (toSpO K S_Lround)) (m_Lround : mg "_law_round" = some (.ref f_Lround)) (k_Lround : PySem.W.keepIn K (.ref f_Lround) = true) (b_Lround : Binds K fd_Lround ["_law_source", "_law_size_here"] [])
    (z_list : mg "list" = none)
    (z_len : mg "len" = none)
    (z_isinstance : mg "isinstance" = none)
    (z_tuple : mg "tuple" = none)
    (z_str : mg "str" = none)
    (z_bool : mg "bool" = none)
    {f : Addr} {fd : FuncData} (F : Fun K "_law_bent" "_law_bent" s_Lbent f fd) : FnOk P w K mg base (L2.CX P w) 5 f fd ["_law_source", "_law_paper", "_law_whole", "_law_part"] (toSpO K S_Lbent) :=
  fnO F sc_Lbent Z_Lbent (d_Lbent G_Ltake m_Ltake k_Ltake b_Ltake G_Lone m_Lone k_Lone b_Lone G_Lmoved m_Lmoved k_Lmoved b_Lmoved G_Lround m_Lround k_Lround b_Lround z_list z_len z_isinstance z_tuple z_str z_bool) W_Lbent
abbrev s_Lis_whole : Stmt := topS 62
theorem sc_Lis_whole : FnScope N_Lis_whole ["_law_value"] (defScope s_Lis_whole) := ⟨rfl, rfl, rfl, by decide +kernel, rfl, by decide +kernel, by decide +kernel⟩
theorem d_Lis_whole (z_isinstance : mg "isinstance" = none)
    (z_int : mg "int" = none)
    (z_bool : mg "bool" = none)
    {f : Addr} (cdv : Value) (A : Around) (outer : List PySem.Env) (s : Shared) (H : Hp) (E : XK) (hr : Room 0 (A.deeper (envOfC "_law_is_whole" (defScope s_Lis_whole) s.heap.objs.size f cdv))) :
    DSs (bodyX P w K mg base N_Lis_whole "_law_is_whole" s_Lis_whole f cdv A outer s H E) (defBody s_Lis_whole) g_Lis_whole :=
  (dss_one (ds_ret (de_and (de_isi tt_int rfl z_isinstance rfl z_int (by decide +kernel) (dv 0)) (de_one (de_not (de_isi tt_bool rfl z_isinstance rfl z_bool (by decide +kernel) (dv 0)))))))
theorem ok_Lis_whole (z_isinstance : mg "isinstance" = none)
    (z_int : mg "int" = none)
    (z_bool : mg "bool" = none)
    {f : Addr} {fd : FuncData} (F : Fun K "_law_is_whole" "_law_is_whole" s_Lis_whole f fd) : FnOk P w K mg base (L2.CX P w) 1 f fd ["_law_value"] (toSpP K S_Lis_whole) :=
  fnP F sc_Lis_whole Z_Lis_whole (d_Lis_whole z_isinstance z_int z_bool) W_Lis_whole
abbrev s_Lis_pair : Stmt := topS 63
theorem sc_Lis_pair : FnScope N_Lis_pair ["_law_value"] (defScope s_Lis_pair) := ⟨rfl, rfl, rfl, by decide +kernel, rfl, by decide +kernel, by decide +kernel⟩
theorem d_Lis_pair {f_Lis_whole : Addr}
    {fd_Lis_whole : FuncData} (G_Lis_whole : FnOk P w K mg base (L2.CX P w) 1 f_Lis_whole fd_Lis_whole ["_law_value"] (toSpP K S_Lis_whole)) (m_Lis_whole : mg "_law_is_whole" = some (.ref f_Lis_whole)) (k_Lis_whole : PySem.W.keepIn K (.ref f_Lis_whole) = true) (b_Lis_whole : Binds K fd_Lis_whole ["_law_value"] [])
    (z_isinstance : mg "isinstance" = none)
    (z_tuple : mg "tuple" = none)
    (z_len : mg "len" = none)
    {f : Addr} (cdv : Value) (A : Around) (outer : List PySem.Env) (s : Shared) (H : Hp) (E : XK) (hr : Room 1 (A.deeper (envOfC "_law_is_pair" (defScope s_Lis_pair) s.heap.objs.size f cdv))) :
    DSs (bodyX P w K mg base N_Lis_pair "_law_is_pair" s_Lis_pair f cdv A outer s H E) (defBody s_Lis_pair) g_Lis_pair :=
  (dss_one (ds_ret (de_and (de_isi tt_tuple rfl z_isinstance rfl z_tuple (by decide +kernel) (dv 0)) (de_and (de_cmp (op_Eq hr.units) (de_callB c_len rfl z_len PySem.boot_len (da_cons (dv 0) da_nil)) de_int (nomark _)) (de_and (de_call M_Lis_whole G_Lis_whole (hr.mono (by decide)) rfl m_Lis_whole k_Lis_whole b_Lis_whole (da_cons (de_ix (dv 0) de_int) da_nil)) (de_one (de_call M_Lis_whole G_Lis_whole (hr.mono (by decide)) rfl m_Lis_whole k_Lis_whole b_Lis_whole (da_cons (de_ix (dv 0) de_int) da_nil))))))))
theorem ok_Lis_pair {f_Lis_whole : Addr}
    {fd_Lis_whole : FuncData} (G_Lis_whole : FnOk P w K mg base (L2.CX P w) 1 f_Lis_whole fd_Lis_whole ["_law_value"] (toSpP K S_Lis_whole)) (m_Lis_whole : mg "_law_is_whole" = some (.ref f_Lis_whole)) (k_Lis_whole : PySem.W.keepIn K (.ref f_Lis_whole) = true) (b_Lis_whole : Binds K fd_Lis_whole ["_law_value"] [])
    (z_isinstance : mg "isinstance" = none)
    (z_tuple : mg "tuple" = none)
    (z_len : mg "len" = none)
    {f : Addr} {fd : FuncData} (F : Fun K "_law_is_pair" "_law_is_pair" s_Lis_pair f fd) : FnOk P w K mg base (L2.CX P w) 2 f fd ["_law_value"] (toSpP K S_Lis_pair) :=
  fnP F sc_Lis_pair Z_Lis_pair (d_Lis_pair G_Lis_whole m_Lis_whole k_Lis_whole b_Lis_whole z_isinstance z_tuple z_len) W_Lis_pair
abbrev s_Lis_shape : Stmt := topS 64
theorem sc_Lis_shape : FnScope N_Lis_shape ["_law_value"] (defScope s_Lis_shape) := ⟨rfl, rfl, rfl, by decide +kernel, rfl, by decide +kernel, by decide +kernel⟩
theorem d_Lis_shape {f_Lis_pair f_Lhull : Addr}
    {fd_Lis_pair : FuncData} (G_Lis_pair : FnOk P w K mg base (L2.CX P w) 2 f_Lis_pair fd_Lis_pair ["_law_value"] (toSpP K S_Lis_pair)) (m_Lis_pair : mg "_law_is_pair" = some (.ref f_Lis_pair)) (k_Lis_pair : PySem.W.keepIn K (.ref f_Lis_pair) = true) (b_Lis_pair : Binds K fd_Lis_pair ["_law_value"] [])
    {fd_Lhull : FuncData} (G_Lhull : FnOk P w K mg base (L2.CX P w) 3 f_Lhull fd_Lhull ["_law_points_here"] (toSpP K S_Lhull)) (m_Lhull : mg "_law_hull" = some (.ref f_Lhull)) (k_Lhull : PySem.W.keepIn K (.ref f_Lhull) = true) (b_Lhull : Binds K fd_Lhull ["_law_points_here"] [])
    (z_isinstance : mg "isinstance" = none)
    (z_tuple : mg "tuple" = none)
    (z_len : mg "len" = none)
    (z_list : mg "list" = none)
    {f : Addr} (cdv : Value) (A : Around) (outer : List PySem.Env) (s : Shared) (H : Hp) (E : XK) (hr : Room 3 (A.deeper (envOfC "_law_is_shape" (defScope s_Lis_shape) s.heap.objs.size f cdv))) :
    DSs (bodyX P w K mg base N_Lis_shape "_law_is_shape" s_Lis_shape f cdv A outer s H E) (defBody s_Lis_shape) g_Lis_shape :=
  (dss_cons (ds_if (dt_w (dw_or (dt_not (dt_val (de_isi tt_tuple rfl z_isinstance rfl z_tuple (by decide +kernel) (dv 0)))) (dw_or (dt_cmp (op_Eq hr.units) (de_callB c_len rfl z_len PySem.boot_len (da_cons (dv 0) da_nil)) de_int (nomark _)) (dw_or1 (dt_cmp (op_Ne hr.units) (de_n (dn_lc (own := [("_law_one_here", 1)]) rfl sc_Lis_shape.nd (di_seq (dv 0)) (blkOk_by (own := [("_law_one_here", 1)]) (N := N_Lis_shape) (sc := defScope s_Lis_shape) (by decide +kernel)) (by decide) (fun _ _ _ _ _ => (dgn 1 sc_Lis_shape.nd)) (fun _ _ _ _ _ => (dts_one (dt_not (dt_val (de_call M_Lis_pair G_Lis_pair (hr.mono (by decide)) rfl m_Lis_pair k_Lis_pair b_Lis_pair (da_cons (dv 1) da_nil)))))) (fun _ _ _ _ _ => (dv 1)))) (de_n (dn_lst da_nil)) (nomark _)))))) (dss_one (ds_ret de_bl)) dss_nil)
    (dss_one (ds_ret (de_cmp (op_Eq hr.units) (de_call M_Lhull G_Lhull (hr.mono (by decide)) rfl m_Lhull k_Lhull b_Lhull (da_cons (de_callTy c_list rfl z_list (by decide +kernel) (da_cons (dv 0) da_nil)) da_nil)) (dv 0) (nomark _)))))
theorem ok_Lis_shape {f_Lis_pair f_Lhull : Addr}
    {fd_Lis_pair : FuncData} (G_Lis_pair : FnOk P w K mg base (L2.CX P w) 2 f_Lis_pair fd_Lis_pair ["_law_value"] (toSpP K S_Lis_pair)) (m_Lis_pair : mg "_law_is_pair" = some (.ref f_Lis_pair)) (k_Lis_pair : PySem.W.keepIn K (.ref f_Lis_pair) = true) (b_Lis_pair : Binds K fd_Lis_pair ["_law_value"] [])
    {fd_Lhull : FuncData} (G_Lhull : FnOk P w K mg base (L2.CX P w) 3 f_Lhull fd_Lhull ["_law_points_here"] (toSpP K S_Lhull)) (m_Lhull : mg "_law_hull" = some (.ref f_Lhull)) (k_Lhull : PySem.W.keepIn K (.ref f_Lhull) = true) (b_Lhull : Binds K fd_Lhull ["_law_points_here"] [])
    (z_isinstance : mg "isinstance" = none)
    (z_tuple : mg "tuple" = none)
    (z_len : mg "len" = none)
    (z_list : mg "list" = none)
    {f : Addr} {fd : FuncData} (F : Fun K "_law_is_shape" "_law_is_shape" s_Lis_shape f fd) : FnOk P w K mg base (L2.CX P w) 4 f fd ["_law_value"] (toSpP K S_Lis_shape) :=
  fnP F sc_Lis_shape Z_Lis_shape (d_Lis_shape G_Lis_pair m_Lis_pair k_Lis_pair b_Lis_pair G_Lhull m_Lhull k_Lhull b_Lhull z_isinstance z_tuple z_len z_list) W_Lis_shape
abbrev s_Lholds : Stmt := topS 65
theorem sc_Lholds : FnScope N_Lholds ["_law_whole", "_law_part", "_law_paper"] (defScope s_Lholds) := ⟨rfl, rfl, rfl, by decide +kernel, rfl, by decide +kernel, by decide +kernel⟩
theorem d_Lholds {f_Lis_shape f_Lsum_due f_Lis_pair f_Lis_whole f_Llongs : Addr}
    {fd_Lis_shape : FuncData} (G_Lis_shape : FnOk P w K mg base (L2.CX P w) 4 f_Lis_shape fd_Lis_shape ["_law_value"] (toSpP K S_Lis_shape)) (m_Lis_shape : mg "_law_is_shape" = some (.ref f_Lis_shape)) (k_Lis_shape : PySem.W.keepIn K (.ref f_Lis_shape) = true) (b_Lis_shape : Binds K fd_Lis_shape ["_law_value"] [])
    {fd_Lsum_due : FuncData} (G_Lsum_due : FnOk P w K mg base (L2.CX P w) 4 f_Lsum_due fd_Lsum_due ["_law_shape", "_law_other"] (toSpP K S_Lsum_due)) (m_Lsum_due : mg "_law_sum_due" = some (.ref f_Lsum_due)) (k_Lsum_due : PySem.W.keepIn K (.ref f_Lsum_due) = true) (b_Lsum_due : Binds K fd_Lsum_due ["_law_shape", "_law_other"] [])
    {fd_Lis_pair : FuncData} (G_Lis_pair : FnOk P w K mg base (L2.CX P w) 2 f_Lis_pair fd_Lis_pair ["_law_value"] (toSpP K S_Lis_pair)) (m_Lis_pair : mg "_law_is_pair" = some (.ref f_Lis_pair)) (k_Lis_pair : PySem.W.keepIn K (.ref f_Lis_pair) = true) (b_Lis_pair : Binds K fd_Lis_pair ["_law_value"] [])
    {fd_Lis_whole : FuncData} (G_Lis_whole : FnOk P w K mg base (L2.CX P w) 1 f_Lis_whole fd_Lis_whole ["_law_value"] (toSpP K S_Lis_whole)) (m_Lis_whole : mg "_law_is_whole" = some (.ref f_Lis_whole)) (k_Lis_whole : PySem.W.keepIn K (.ref f_Lis_whole) = true) (b_Lis_whole : Binds K fd_Lis_whole ["_law_value"] [])
    {fd_Llongs : FuncData} (G_Llongs : FnOk P w K mg base (L2.CX P w) 3 f_Llongs fd_Llongs ["_law_shape"] (toSpP K S_Llongs)) (m_Llongs : mg "_law_longs" = some (.ref f_Llongs)) (k_Llongs : PySem.W.keepIn K (.ref f_Llongs) = true) (b_Llongs : Binds K fd_Llongs ["_law_shape"] [])
    (z_isinstance : mg "isinstance" = none)
    (z_tuple : mg "tuple" = none)
    (z_len : mg "len" = none)
    {f : Addr} (cdv : Value) (A : Around) (outer : List PySem.Env) (s : Shared) (H : Hp) (E : XK) (hr : Room 4 (A.deeper (envOfC "_law_holds" (defScope s_Lholds) s.heap.objs.size f cdv))) :
    DSs (bodyX P w K mg base N_Lholds "_law_holds" s_Lholds f cdv A outer s H E) (defBody s_Lholds) g_Lholds :=
  (dss_cons (ds_if (dt_w (dw_or (dt_not (dt_val (de_isi tt_tuple rfl z_isinstance rfl z_tuple (by decide +kernel) (dv 2)))) (dw_or1 (dt_cmp (op_NotInD (room65 hr)) (de_callB c_len rfl z_len PySem.boot_len (da_cons (dv 2) da_nil)) (de_n (dn_lst (da_cons de_int (da_cons de_int da_nil)))) (by with_unfolding_all rfl))))) (dss_one (ds_ret de_bl)) dss_nil)
    (dss_cons (ds_if (dt_cmp (op_Eq hr.units) (de_callB c_len rfl z_len PySem.boot_len (da_cons (dv 2) da_nil)) de_int (nomark _)) (dss_one (ds_ret (de_and (de_cmp (op_Eq hr.units) (de_ix (dv 2) de_int) de_str (nomark _)) (de_and (de_call M_Lis_shape G_Lis_shape (hr.mono (by decide)) rfl m_Lis_shape k_Lis_shape b_Lis_shape (da_cons (de_ix (dv 2) de_int) da_nil)) (de_one (de_cmp (op_Eq hr.units) (de_call M_Lsum_due G_Lsum_due (hr.mono (by decide)) rfl m_Lsum_due k_Lsum_due b_Lsum_due (da_cons (de_ix (dv 2) de_int) (da_cons (dv 1) da_nil))) (dv 0) (nomark _))))))) dss_nil)
    (dss_cons (ds_asg (dv 2) (dg_tup rfl (dgs_cons (dgn 3 sc_Lholds.nd) (dgs_cons (dgn 4 sc_Lholds.nd) (dgs_cons (dgn 5 sc_Lholds.nd) (dgs_cons (dgn 6 sc_Lholds.nd) dgs_nil))))))
    (dss_cons (ds_if (dt_w (dw_or (dt_cmp (op_Ne hr.units) (dv 3) de_str (nomark _)) (dw_or (dt_not (dt_val (de_call M_Lis_pair G_Lis_pair (hr.mono (by decide)) rfl m_Lis_pair k_Lis_pair b_Lis_pair (da_cons (dv 4) da_nil)))) (dw_or (dt_not (dt_val (de_call M_Lis_whole G_Lis_whole (hr.mono (by decide)) rfl m_Lis_whole k_Lis_whole b_Lis_whole (da_cons (dv 5) da_nil)))) (dw_or1 (dt_not (dt_val (de_call M_Lis_whole G_Lis_whole (hr.mono (by decide)) rfl m_Lis_whole k_Lis_whole b_Lis_whole (da_cons (dv 6) da_nil))))))))) (dss_one (ds_ret de_bl)) dss_nil)
    (dss_cons (ds_par2 (i := 7) (j := 8) rfl sc_Lholds.nd rfl rfl (by decide) rfl rfl (dm_e (de_call M_Llongs G_Llongs (hr.mono (by decide)) rfl m_Llongs k_Llongs b_Llongs (da_cons (dv 0) da_nil)) (dm_e (de_call M_Llongs G_Llongs (hr.mono (by decide)) rfl m_Llongs k_Llongs b_Llongs (da_cons (dv 1) da_nil)) dm_nil)) (by rfl))
    (dss_one (ds_ret (de_and (de_inD (fun a b => px_in hr.units a b) (dv 4) (dv 8) (by with_unfolding_all rfl)) (de_and (de_cmp (op_Eq hr.units) (de_dix hr.units (dv 8) (dv 4)) (dv 6) (nomark _)) (de_and (de_cmp (op_Eq hr.units) (de_get2 hr.units (dv 7) (dv 4) de_int ⟨rfl, rfl, rfl, rfl⟩) (dv 5) (nomark _)) (de_one (de_cmp op_Lt (dv 5) (dv 6) (nomark _)))))))))))))
theorem ok_Lholds {f_Lis_shape f_Lsum_due f_Lis_pair f_Lis_whole f_Llongs : Addr}
    {fd_Lis_shape : FuncData} (G_Lis_shape : FnOk P w K mg base (L2.CX P w) 4 f_Lis_shape fd_Lis_shape ["_law_value"] (toSpP K S_Lis_shape)) (m_Lis_shape : mg "_law_is_shape" = some (.ref f_Lis_shape)) (k_Lis_shape : PySem.W.keepIn K (.ref f_Lis_shape) = true) (b_Lis_shape : Binds K fd_Lis_shape ["_law_value"] [])
    {fd_Lsum_due : FuncData} (G_Lsum_due : FnOk P w K mg base (L2.CX P w) 4 f_Lsum_due fd_Lsum_due ["_law_shape", "_law_other"] (toSpP K S_Lsum_due)) (m_Lsum_due : mg "_law_sum_due" = some (.ref f_Lsum_due)) (k_Lsum_due : PySem.W.keepIn K (.ref f_Lsum_due) = true) (b_Lsum_due : Binds K fd_Lsum_due ["_law_shape", "_law_other"] [])
    {fd_Lis_pair : FuncData} (G_Lis_pair : FnOk P w K mg base (L2.CX P w) 2 f_Lis_pair fd_Lis_pair ["_law_value"] (toSpP K S_Lis_pair)) (m_Lis_pair : mg "_law_is_pair" = some (.ref f_Lis_pair)) (k_Lis_pair : PySem.W.keepIn K (.ref f_Lis_pair) = true) (b_Lis_pair : Binds K fd_Lis_pair ["_law_value"] [])
    {fd_Lis_whole : FuncData} (G_Lis_whole : FnOk P w K mg base (L2.CX P w) 1 f_Lis_whole fd_Lis_whole ["_law_value"] (toSpP K S_Lis_whole)) (m_Lis_whole : mg "_law_is_whole" = some (.ref f_Lis_whole)) (k_Lis_whole : PySem.W.keepIn K (.ref f_Lis_whole) = true) (b_Lis_whole : Binds K fd_Lis_whole ["_law_value"] [])
    {fd_Llongs : FuncData} (G_Llongs : FnOk P w K mg base (L2.CX P w) 3 f_Llongs fd_Llongs ["_law_shape"] (toSpP K S_Llongs)) (m_Llongs : mg "_law_longs" = some (.ref f_Llongs)) (k_Llongs : PySem.W.keepIn K (.ref f_Llongs) = true) (b_Llongs : Binds K fd_Llongs ["_law_shape"] [])
    (z_isinstance : mg "isinstance" = none)
    (z_tuple : mg "tuple" = none)
    (z_len : mg "len" = none)
    {f : Addr} {fd : FuncData} (F : Fun K "_law_holds" "_law_holds" s_Lholds f fd) : FnOk P w K mg base (L2.CX P w) 5 f fd ["_law_whole", "_law_part", "_law_paper"] (toSpP K S_Lholds) :=
  fnP F sc_Lholds Z_Lholds (d_Lholds G_Lis_shape m_Lis_shape k_Lis_shape b_Lis_shape G_Lsum_due m_Lsum_due k_Lsum_due b_Lsum_due G_Lis_pair m_Lis_pair k_Lis_pair b_Lis_pair G_Lis_whole m_Lis_whole k_Lis_whole b_Lis_whole G_Llongs m_Llongs k_Llongs b_Llongs z_isinstance z_tuple z_len) W_Lholds
abbrev s_is_one_of : Stmt := topS 8
theorem sc_is_one_of : FnScope N_is_one_of ["value", "words"] (defScope s_is_one_of) := ⟨rfl, rfl, rfl, by decide +kernel, rfl, by decide +kernel, by decide +kernel⟩
theorem d_is_one_of (z_isinstance : mg "isinstance" = none)
    (z_str : mg "str" = none)
    {f : Addr} (cdv : Value) (A : Around) (outer : List PySem.Env) (s : Shared) (H : Hp) (E : XK) (hr : Room 0 (A.deeper (envOfC "is_one_of" (defScope s_is_one_of) s.heap.objs.size f cdv))) :
    DSs (bodyX P w K mg base N_is_one_of "is_one_of" s_is_one_of f cdv A outer s H E) (defBody s_is_one_of) g_is_one_of :=
  (dss_one (ds_ret (de_and (de_isi tt_str rfl z_isinstance rfl z_str (by decide +kernel) (dv 0)) (de_one (de_cmp (op_InT (room65 hr)) (dv 0) (dv 1) (by with_unfolding_all rfl))))))
theorem ok_is_one_of (z_isinstance : mg "isinstance" = none)
    (z_str : mg "str" = none)
    {f : Addr} {fd : FuncData} (F : Fun K "is_one_of" "is_one_of" s_is_one_of f fd) : FnOk P w K mg base (L2.CX P w) 1 f fd ["value", "words"] (toSpP K S_is_one_of) :=
  fnP F sc_is_one_of Z_is_one_of (d_is_one_of z_isinstance z_str) W_is_one_of
abbrev s_is_any_round : Stmt := topS 39
theorem sc_is_any_round : FnScope N_is_any_round ["value"] (defScope s_is_any_round) := ⟨rfl, rfl, rfl, by decide +kernel, rfl, by decide +kernel, by decide +kernel⟩
theorem d_is_any_round {f_is_tuple_of f_is_whole f_plain_sides f_rises : Addr}
    {fd_is_tuple_of : FuncData} (G_is_tuple_of : FnOk P w K mg base (L2.CX P w) 1 f_is_tuple_of fd_is_tuple_of ["value", "many"] (toSpP K S_is_tuple_of)) (m_is_tuple_of : mg "is_tuple_of" = some (.ref f_is_tuple_of)) (k_is_tuple_of : PySem.W.keepIn K (.ref f_is_tuple_of) = true) (b_is_tuple_of : Binds K fd_is_tuple_of ["value", "many"] [])
    {fd_is_whole : FuncData} (G_is_whole : FnOk P w K mg base (L2.CX P w) 1 f_is_whole fd_is_whole ["value"] (toSpP K S_is_whole)) (m_is_whole : mg "is_whole" = some (.ref f_is_whole)) (k_is_whole : PySem.W.keepIn K (.ref f_is_whole) = true) (b_is_whole : Binds K fd_is_whole ["value"] [])
    {fd_plain_sides : FuncData} (G_plain_sides : FnOk P w K mg base (L2.CX P w) 2 f_plain_sides fd_plain_sides ["corners"] (toSpP K S_plain_sides)) (m_plain_sides : mg "plain_sides" = some (.ref f_plain_sides)) (k_plain_sides : PySem.W.keepIn K (.ref f_plain_sides) = true) (b_plain_sides : Binds K fd_plain_sides ["corners"] [])
    {fd_rises : FuncData} (G_rises : FnOk P w K mg base (L2.CX P w) 3 f_rises fd_rises ["vectors"] (toSpP K S_rises)) (m_rises : mg "rises" = some (.ref f_rises)) (k_rises : PySem.W.keepIn K (.ref f_rises) = true) (b_rises : Binds K fd_rises ["vectors"] [])
    (z_isinstance : mg "isinstance" = none)
    (z_tuple : mg "tuple" = none)
    (z_len : mg "len" = none)
    (z_all : mg "all" = none)
    (z_any : mg "any" = none)
    (e_MOST_CORNERS : ∀ {X : Cx} {pos : Pos}, X.K = K → X.mg = mg → Gl X "MOST_CORNERS" → DE X (.Name "MOST_CORNERS" pos) (dC C_MOST_CORNERS))
    {f : Addr} (cdv : Value) (A : Around) (outer : List PySem.Env) (s : Shared) (H : Hp) (E : XK) (hr : Room 3 (A.deeper (envOfC "is_any_round" (defScope s_is_any_round) s.heap.objs.size f cdv))) :
    DSs (bodyX P w K mg base N_is_any_round "is_any_round" s_is_any_round f cdv A outer s H E) (defBody s_is_any_round) g_is_any_round :=
  (dss_cons (ds_if (dt_w (dw_or (dt_not (dt_val (de_isi tt_tuple rfl z_isinstance rfl z_tuple (by decide +kernel) (dv 0)))) (dw_or1 (dt_not (dt_chain op_Le op_Le de_int (de_callB c_len rfl z_len PySem.boot_len (da_cons (dv 0) da_nil)) (e_MOST_CORNERS rfl rfl rfl)))))) (dss_one (ds_ret de_bl)) dss_nil)
    (dss_cons (ds_if (dt_not (dt_val (de_callB (c_all rfl) rfl z_all (by decide +kernel) (da_cons (de_n (dn_lc (own := [("one", 2)]) rfl sc_is_any_round.nd (di_seq (dv 0)) (blkOk_by (own := [("one", 2)]) (N := N_is_any_round) (sc := defScope s_is_any_round) (by decide +kernel)) (by decide) (fun _ _ _ _ _ => (dgn 2 sc_is_any_round.nd)) (fun _ _ _ _ _ => dts_nil) (fun _ _ _ _ _ => (de_and (de_call M_is_tuple_of G_is_tuple_of (hr.mono (by decide)) rfl m_is_tuple_of k_is_tuple_of b_is_tuple_of (da_cons (dv 2) (da_cons de_int da_nil))) (de_and (de_call M_is_whole G_is_whole (hr.mono (by decide)) rfl m_is_whole k_is_whole b_is_whole (da_cons (de_ix (dv 2) de_int) da_nil)) (de_one (de_call M_is_whole G_is_whole (hr.mono (by decide)) rfl m_is_whole k_is_whole b_is_whole (da_cons (de_ix (dv 2) de_int) da_nil)))))))) da_nil)))) (dss_one (ds_ret de_bl)) dss_nil)
    (dss_cons (dset 1 sc_is_any_round.nd (de_call M_plain_sides G_plain_sides (hr.mono (by decide)) rfl m_plain_sides k_plain_sides b_plain_sides (da_cons (dv 0) da_nil)))
    (dss_one (ds_ret (de_and (de_not (de_callB (c_any rfl) rfl z_any (by decide +kernel) (da_cons (de_n (dn_lc (own := [("side", 3)]) rfl sc_is_any_round.nd (di_seq (dv 1)) (blkOk_by (own := [("side", 3)]) (N := N_is_any_round) (sc := defScope s_is_any_round) (by decide +kernel)) (by decide) (fun _ _ _ _ _ => (dgn 3 sc_is_any_round.nd)) (fun _ _ _ _ _ => dts_nil) (fun _ _ _ _ _ => (de_cmp (op_Eq hr.units) (dv 3) (de_tup (da_cons de_int (da_cons de_int da_nil))) (nomark _))))) da_nil))) (de_one (de_call M_rises G_rises (hr.mono (by decide)) rfl m_rises k_rises b_rises (da_cons (dv 1) da_nil)))))))))
theorem ok_is_any_round {f_is_tuple_of f_is_whole f_plain_sides f_rises : Addr}
    {fd_is_tuple_of : FuncData} (G_is_tuple_of : FnOk P w K mg base (L2.CX P w) 1 f_is_tuple_of fd_is_tuple_of ["value", "many"] (toSpP K S_is_tuple_of)) (m_is_tuple_of : mg "is_tuple_of" = some (.ref f_is_tuple_of)) (k_is_tuple_of : PySem.W.keepIn K (.ref f_is_tuple_of) = true) (b_is_tuple_of : Binds K fd_is_tuple_of ["value", "many"] [])
    {fd_is_whole : FuncData} (G_is_whole : FnOk P w K mg base (L2.CX P w) 1 f_is_whole fd_is_whole ["value"] (toSpP K S_is_whole)) (m_is_whole : mg "is_whole" = some (.ref f_is_whole)) (k_is_whole : PySem.W.keepIn K (.ref f_is_whole) = true) (b_is_whole : Binds K fd_is_whole ["value"] [])
    {fd_plain_sides : FuncData} (G_plain_sides : FnOk P w K mg base (L2.CX P w) 2 f_plain_sides fd_plain_sides ["corners"] (toSpP K S_plain_sides)) (m_plain_sides : mg "plain_sides" = some (.ref f_plain_sides)) (k_plain_sides : PySem.W.keepIn K (.ref f_plain_sides) = true) (b_plain_sides : Binds K fd_plain_sides ["corners"] [])
    {fd_rises : FuncData} (G_rises : FnOk P w K mg base (L2.CX P w) 3 f_rises fd_rises ["vectors"] (toSpP K S_rises)) (m_rises : mg "rises" = some (.ref f_rises)) (k_rises : PySem.W.keepIn K (.ref f_rises) = true) (b_rises : Binds K fd_rises ["vectors"] [])
    (z_isinstance : mg "isinstance" = none)
    (z_tuple : mg "tuple" = none)
    (z_len : mg "len" = none)
    (z_all : mg "all" = none)
    (z_any : mg "any" = none)
    (e_MOST_CORNERS : ∀ {X : Cx} {pos : Pos}, X.K = K → X.mg = mg → Gl X "MOST_CORNERS" → DE X (.Name "MOST_CORNERS" pos) (dC C_MOST_CORNERS))
    {f : Addr} {fd : FuncData} (F : Fun K "is_any_round" "is_any_round" s_is_any_round f fd) : FnOk P w K mg base (L2.CX P w) 4 f fd ["value"] (toSpP K S_is_any_round) :=
  fnP F sc_is_any_round Z_is_any_round (d_is_any_round G_is_tuple_of m_is_tuple_of k_is_tuple_of b_is_tuple_of G_is_whole m_is_whole k_is_whole b_is_whole G_plain_sides m_plain_sides k_plain_sides b_plain_sides G_rises m_rises k_rises b_rises z_isinstance z_tuple z_len z_all z_any e_MOST_CORNERS) W_is_any_round
abbrev s_is_direction : Stmt := topS 15
theorem sc_is_direction : FnScope N_is_direction ["value"] (defScope s_is_direction) := ⟨rfl, rfl, rfl, by decide +kernel, rfl, by decide +kernel, by decide +kernel⟩
theorem d_is_direction {f_is_tuple_of f_is_whole : Addr}
    {fd_is_tuple_of : FuncData} (G_is_tuple_of : FnOk P w K mg base (L2.CX P w) 1 f_is_tuple_of fd_is_tuple_of ["value", "many"] (toSpP K S_is_tuple_of)) (m_is_tuple_of : mg "is_tuple_of" = some (.ref f_is_tuple_of)) (k_is_tuple_of : PySem.W.keepIn K (.ref f_is_tuple_of) = true) (b_is_tuple_of : Binds K fd_is_tuple_of ["value", "many"] [])
    {fd_is_whole : FuncData} (G_is_whole : FnOk P w K mg base (L2.CX P w) 1 f_is_whole fd_is_whole ["value"] (toSpP K S_is_whole)) (m_is_whole : mg "is_whole" = some (.ref f_is_whole)) (k_is_whole : PySem.W.keepIn K (.ref f_is_whole) = true) (b_is_whole : Binds K fd_is_whole ["value"] [])
    {f : Addr} (cdv : Value) (A : Around) (outer : List PySem.Env) (s : Shared) (H : Hp) (E : XK) (hr : Room 1 (A.deeper (envOfC "is_direction" (defScope s_is_direction) s.heap.objs.size f cdv))) :
    DSs (bodyX P w K mg base N_is_direction "is_direction" s_is_direction f cdv A outer s H E) (defBody s_is_direction) g_is_direction :=
  (dss_one (ds_ret (de_and (de_call M_is_tuple_of G_is_tuple_of (hr.mono (by decide)) rfl m_is_tuple_of k_is_tuple_of b_is_tuple_of (da_cons (dv 0) (da_cons de_int da_nil))) (de_and (de_call M_is_whole G_is_whole (hr.mono (by decide)) rfl m_is_whole k_is_whole b_is_whole (da_cons (de_ix (dv 0) de_int) da_nil)) (de_and (de_call M_is_whole G_is_whole (hr.mono (by decide)) rfl m_is_whole k_is_whole b_is_whole (da_cons (de_ix (dv 0) de_int) da_nil)) (de_one (de_cmp (op_Ne hr.units) (dv 0) (de_tup (da_cons de_int (da_cons de_int da_nil))) (nomark _))))))))
theorem ok_is_direction {f_is_tuple_of f_is_whole : Addr}
    {fd_is_tuple_of : FuncData} (G_is_tuple_of : FnOk P w K mg base (L2.CX P w) 1 f_is_tuple_of fd_is_tuple_of ["value", "many"] (toSpP K S_is_tuple_of)) (m_is_tuple_of : mg "is_tuple_of" = some (.ref f_is_tuple_of)) (k_is_tuple_of : PySem.W.keepIn K (.ref f_is_tuple_of) = true) (b_is_tuple_of : Binds K fd_is_tuple_of ["value", "many"] [])
    {fd_is_whole : FuncData} (G_is_whole : FnOk P w K mg base (L2.CX P w) 1 f_is_whole fd_is_whole ["value"] (toSpP K S_is_whole)) (m_is_whole : mg "is_whole" = some (.ref f_is_whole)) (k_is_whole : PySem.W.keepIn K (.ref f_is_whole) = true) (b_is_whole : Binds K fd_is_whole ["value"] [])
    {f : Addr} {fd : FuncData} (F : Fun K "is_direction" "is_direction" s_is_direction f fd) : FnOk P w K mg base (L2.CX P w) 2 f fd ["value"] (toSpP K S_is_direction) :=
  fnP F sc_is_direction Z_is_direction (d_is_direction G_is_tuple_of m_is_tuple_of k_is_tuple_of b_is_tuple_of G_is_whole m_is_whole k_is_whole b_is_whole) W_is_direction
abbrev s_merged_by : Stmt := topS 10
theorem sc_merged_by : FnScope N_merged_by ["order", "one", "other"] (defScope s_merged_by) := ⟨rfl, rfl, rfl, by decide +kernel, rfl, by decide +kernel, by decide +kernel⟩
theorem d_merged_by {f_slope_order : Addr}
    {fd_slope_order : FuncData} (G_slope_order : FnOk P w K mg base (L2.CX P w) 2 f_slope_order fd_slope_order ["one", "other"] (toSpP K S_slope_order)) (m_slope_order : mg "slope_order" = some (.ref f_slope_order)) (k_slope_order : PySem.W.keepIn K (.ref f_slope_order) = true) (b_slope_order : Binds K fd_slope_order ["one", "other"] [])
    (z_len : mg "len" = none)
    {f : Addr} (cdv : Value) (A : Around) (outer : List PySem.Env) (s : Shared) (H : Hp) (E : XK) (hr : Room 2 (A.deeper (envOfC "merged_by" (defScope s_merged_by) s.heap.objs.size f cdv))) :
    DSs (bodyX P w K mg base N_merged_by "merged_by" s_merged_by f cdv A outer s H E) (defBody s_merged_by) (g_merged_by f_slope_order) :=
  (dss_cons (ds_par3 (i := 3) (j := 4) (l := 5) rfl sc_merged_by.nd rfl rfl rfl (by decide) (by decide) (by decide) rfl rfl rfl (dm_n (dn_lst da_nil) (dm_e de_int (dm_e de_int dm_nil))) (by rfl))
    (dss_cons (ds_while own_passes (dt_w (dw_and (dt_cmp op_Lt (dv 4) (de_callB c_len rfl z_len PySem.boot_len (da_cons (dv 1) da_nil)) (nomark _)) (dw_and1 (dt_cmp op_Lt (dv 5) (de_callB c_len rfl z_len PySem.boot_len (da_cons (dv 2) da_nil)) (nomark _))))) (dss_one (ds_if (dt_cmp op_Le (de_callLoc (i := 0) M_slope_order G_slope_order (hr.mono (by decide)) k_slope_order b_slope_order (da_cons (de_ix (dv 1) (dv 4)) (da_cons (de_ix (dv 2) (dv 5)) da_nil))) de_int (nomark _)) (dss_cons (ds_expr (dmt 3 PySem.F.slot_list_append PySem.F.type_list_append m_app (da_cons (de_ix (dv 1) (dv 4)) da_nil)))
    (dss_one (daug 4 op_IAdd sc_merged_by.nd de_int))) (dss_cons (ds_expr (dmt 3 PySem.F.slot_list_append PySem.F.type_list_append m_app (da_cons (de_ix (dv 2) (dv 5)) da_nil)))
    (dss_one (daug 5 op_IAdd sc_merged_by.nd de_int))))))
    (dss_one (ds_ret (de_n (dn_lst (da_star (df 3) (da_star (de_cut (dv 1) (do_some (dv 4)) do_none) (da_star (de_cut (dv 2) (do_some (dv 5)) do_none) da_nil)))))))))
theorem ok_merged_by {f_slope_order : Addr}
    {fd_slope_order : FuncData} (G_slope_order : FnOk P w K mg base (L2.CX P w) 2 f_slope_order fd_slope_order ["one", "other"] (toSpP K S_slope_order)) (m_slope_order : mg "slope_order" = some (.ref f_slope_order)) (k_slope_order : PySem.W.keepIn K (.ref f_slope_order) = true) (b_slope_order : Binds K fd_slope_order ["one", "other"] [])
    (z_len : mg "len" = none)
    {f : Addr} {fd : FuncData} (F : Fun K "merged_by" "merged_by" s_merged_by f fd) : FnOk P w K mg base (L2.CX P w) 3 f fd ["order", "one", "other"] (toSpP K (S_merged_by f_slope_order)) :=
  fnP F sc_merged_by Z_merged_by (d_merged_by G_slope_order m_slope_order k_slope_order b_slope_order z_len) W_merged_by
abbrev s_sorted_by : Stmt := topS 11
theorem sc_sorted_by : FnScope N_sorted_by ["order", "some"] (defScope s_sorted_by) := ⟨rfl, rfl, rfl, by decide +kernel, rfl, by decide +kernel, by decide +kernel⟩
theorem d_sorted_by {f_merged_by f_slope_order : Addr}
    {fd_merged_by : FuncData} (G_merged_by : FnOk P w K mg base (L2.CX P w) 3 f_merged_by fd_merged_by ["order", "one", "other"] (toSpP K (S_merged_by f_slope_order))) (m_merged_by : mg "merged_by" = some (.ref f_merged_by)) (k_merged_by : PySem.W.keepIn K (.ref f_merged_by) = true) (b_merged_by : Binds K fd_merged_by ["order", "one", "other"] [])
    (z_len : mg "len" = none)
    (z_zip : mg "zip" = none)
    {f : Addr} (cdv : Value) (A : Around) (outer : List PySem.Env) (s : Shared) (H : Hp) (E : XK) (hr : Room 3 (A.deeper (envOfC "sorted_by" (defScope s_sorted_by) s.heap.objs.size f cdv))) :
    DSs (bodyX P w K mg base N_sorted_by "sorted_by" s_sorted_by f cdv A outer s H E) (defBody s_sorted_by) (g_sorted_by f_slope_order) :=
  (dss_cons (ds_setLc (i := 2) (own := [("one", 4)]) rfl sc_sorted_by.nd rfl rfl (sw_true rfl rfl rfl (by decide +kernel)) (di_seq (dv 1)) (blkOk_by (own := [("one", 4)]) (N := N_sorted_by) (sc := defScope s_sorted_by) (by decide +kernel)) (by decide) (fun _ _ _ _ _ => (dgn 4 sc_sorted_by.nd)) (fun _ _ _ _ _ => dts_nil) (fun _ _ _ _ _ => (de_n (dn_lst (da_cons (dv 4) da_nil)))))
    (dss_cons (ds_while own_passes (dt_cmp op_Gt (de_callB c_len rfl z_len PySem.boot_len (da_cons (dv 2) da_nil)) de_int (nomark _)) (dss_cons (dset 3 sc_sorted_by.nd (de_if (dt_cmp (op_Eq hr.units) (de_op op_Mod (de_callB c_len rfl z_len PySem.boot_len (da_cons (dv 2) da_nil)) de_int) de_int (nomark _)) (de_n (dn_lst da_nil)) (de_n (dn_lst (da_cons (de_ix (dv 2) (de_neg de_int)) da_nil)))))
    (dss_one (dset 2 sc_sorted_by.nd (de_n (dn_lst (da_star (de_n (dn_lc (own := [("one", 4), ("other", 5)]) rfl sc_sorted_by.nd (di_zip rfl z_zip (da_cons (de_step (st := 2) (dv 2) do_none) (da_cons (de_step (st := 2) (dv 2) (do_some de_int)) da_nil))) (blkOk_by (own := [("one", 4), ("other", 5)]) (N := N_sorted_by) (sc := defScope s_sorted_by) (by decide +kernel)) (by decide) (fun _ _ _ _ _ => (dg_tup rfl (dgs_cons (dgn 4 sc_sorted_by.nd) (dgs_cons (dgn 5 sc_sorted_by.nd) dgs_nil)))) (fun _ _ _ _ _ => dts_nil) (fun _ _ _ _ _ => (de_call M_merged_by G_merged_by (hr.mono (by decide)) rfl m_merged_by k_merged_by b_merged_by (da_cons (dv 0) (da_cons (dv 4) (da_cons (dv 5) da_nil))))))) (da_star (dv 3) da_nil))))))))
    (dss_one (ds_ret (de_if (dt_cmp op_Gt (de_callB c_len rfl z_len PySem.boot_len (da_cons (dv 2) da_nil)) de_int (nomark _)) (de_ix (dv 2) de_int) (de_n (dn_lst da_nil)))))))
theorem ok_sorted_by {f_merged_by f_slope_order : Addr}
    {fd_merged_by : FuncData} (G_merged_by : FnOk P w K mg base (L2.CX P w) 3 f_merged_by fd_merged_by ["order", "one", "other"] (toSpP K (S_merged_by f_slope_order))) (m_merged_by : mg "merged_by" = some (.ref f_merged_by)) (k_merged_by : PySem.W.keepIn K (.ref f_merged_by) = true) (b_merged_by : Binds K fd_merged_by ["order", "one", "other"] [])
    (z_len : mg "len" = none)
    (z_zip : mg "zip" = none)
    {f : Addr} {fd : FuncData} (F : Fun K "sorted_by" "sorted_by" s_sorted_by f fd) : FnOk P w K mg base (L2.CX P w) 4 f fd ["order", "some"] (toSpP K (S_sorted_by f_slope_order)) :=
  fnP F sc_sorted_by Z_sorted_by (d_sorted_by G_merged_by m_merged_by k_merged_by b_merged_by z_len z_zip) W_sorted_by
abbrev s_by_slopes : Stmt := topS 23
theorem sc_by_slopes : FnScope N_by_slopes ["vectors"] (defScope s_by_slopes) := ⟨rfl, rfl, rfl, by decide +kernel, rfl, by decide +kernel, by decide +kernel⟩
theorem d_by_slopes {f_sorted_by f_slope_order : Addr}
    {fd_sorted_by : FuncData} (G_sorted_by : FnOk P w K mg base (L2.CX P w) 4 f_sorted_by fd_sorted_by ["order", "some"] (toSpP K (S_sorted_by f_slope_order))) (m_sorted_by : mg "sorted_by" = some (.ref f_sorted_by)) (k_sorted_by : PySem.W.keepIn K (.ref f_sorted_by) = true) (b_sorted_by : Binds K fd_sorted_by ["order", "some"] [])
    {fd_slope_order : FuncData} (G_slope_order : FnOk P w K mg base (L2.CX P w) 2 f_slope_order fd_slope_order ["one", "other"] (toSpP K S_slope_order)) (m_slope_order : mg "slope_order" = some (.ref f_slope_order)) (k_slope_order : PySem.W.keepIn K (.ref f_slope_order) = true) (b_slope_order : Binds K fd_slope_order ["one", "other"] [])
    {f : Addr} (cdv : Value) (A : Around) (outer : List PySem.Env) (s : Shared) (H : Hp) (E : XK) (hr : Room 4 (A.deeper (envOfC "by_slopes" (defScope s_by_slopes) s.heap.objs.size f cdv))) :
    DSs (bodyX P w K mg base N_by_slopes "by_slopes" s_by_slopes f cdv A outer s H E) (defBody s_by_slopes) (g_by_slopes f_slope_order) :=
  (dss_one (ds_ret (de_call M_sorted_by G_sorted_by (hr.mono (by decide)) rfl m_sorted_by k_sorted_by b_sorted_by (da_cons (de_glob (v := .ref f_slope_order) rfl m_slope_order rfl) (da_cons (dv 0) da_nil)))))
theorem ok_by_slopes {f_sorted_by f_slope_order : Addr}
    {fd_sorted_by : FuncData} (G_sorted_by : FnOk P w K mg base (L2.CX P w) 4 f_sorted_by fd_sorted_by ["order", "some"] (toSpP K (S_sorted_by f_slope_order))) (m_sorted_by : mg "sorted_by" = some (.ref f_sorted_by)) (k_sorted_by : PySem.W.keepIn K (.ref f_sorted_by) = true) (b_sorted_by : Binds K fd_sorted_by ["order", "some"] [])
    {fd_slope_order : FuncData} (G_slope_order : FnOk P w K mg base (L2.CX P w) 2 f_slope_order fd_slope_order ["one", "other"] (toSpP K S_slope_order)) (m_slope_order : mg "slope_order" = some (.ref f_slope_order)) (k_slope_order : PySem.W.keepIn K (.ref f_slope_order) = true) (b_slope_order : Binds K fd_slope_order ["one", "other"] [])
    {f : Addr} {fd : FuncData} (F : Fun K "by_slopes" "by_slopes" s_by_slopes f fd) : FnOk P w K mg base (L2.CX P w) 5 f fd ["vectors"] (toSpP K (S_by_slopes f_slope_order)) :=
  fnP F sc_by_slopes Z_by_slopes (d_by_slopes G_sorted_by m_sorted_by k_sorted_by b_sorted_by G_slope_order m_slope_order k_slope_order b_slope_order) W_by_slopes
abbrev s_joined_sides : Stmt := topS 32
theorem sc_joined_sides : FnScope N_joined_sides ["vectors"] (defScope s_joined_sides) := ⟨rfl, rfl, rfl, by decide +kernel, rfl, by decide +kernel, by decide +kernel⟩
theorem d_joined_sides {f_by_slopes f_slope_order f_point_moved : Addr}
    {fd_by_slopes : FuncData} (G_by_slopes : FnOk P w K mg base (L2.CX P w) 5 f_by_slopes fd_by_slopes ["vectors"] (toSpP K (S_by_slopes f_slope_order))) (m_by_slopes : mg "by_slopes" = some (.ref f_by_slopes)) (k_by_slopes : PySem.W.keepIn K (.ref f_by_slopes) = true) (b_by_slopes : Binds K fd_by_slopes ["vectors"] [])
    {fd_slope_order : FuncData} (G_slope_order : FnOk P w K mg base (L2.CX P w) 2 f_slope_order fd_slope_order ["one", "other"] (toSpP K S_slope_order)) (m_slope_order : mg "slope_order" = some (.ref f_slope_order)) (k_slope_order : PySem.W.keepIn K (.ref f_slope_order) = true) (b_slope_order : Binds K fd_slope_order ["one", "other"] [])
    {fd_point_moved : FuncData} (G_point_moved : FnOk P w K mg base (L2.CX P w) 1 f_point_moved fd_point_moved ["point", "vector"] (toSpP K S_point_moved)) (m_point_moved : mg "point_moved" = some (.ref f_point_moved)) (k_point_moved : PySem.W.keepIn K (.ref f_point_moved) = true) (b_point_moved : Binds K fd_point_moved ["point", "vector"] [])
    (z_len : mg "len" = none)
    {f : Addr} (cdv : Value) (A : Around) (outer : List PySem.Env) (s : Shared) (H : Hp) (E : XK) (hr : Room 5 (A.deeper (envOfC "joined_sides" (defScope s_joined_sides) s.heap.objs.size f cdv))) :
    DSs (bodyX P w K mg base N_joined_sides "joined_sides" s_joined_sides f cdv A outer s H E) (defBody s_joined_sides) (g_joined_sides f_slope_order) :=
  (dss_cons (dnew 1 sc_joined_sides.nd (dn_lst da_nil))
    (dss_cons (ds_for own_passes rfl (di_seq (de_call M_by_slopes G_by_slopes (hr.mono (by decide)) rfl m_by_slopes k_by_slopes b_by_slopes (da_cons (dv 0) da_nil))) (dgn 2 sc_joined_sides.nd) (dss_one (ds_if (dt_w (dw_and (dt_cmp op_Gt (dlenO 1 z_len) de_int (nomark _)) (dw_and1 (dt_cmp (op_Eq hr.units) (de_call M_slope_order G_slope_order (hr.mono (by decide)) rfl m_slope_order k_slope_order b_slope_order (da_cons (dixO 1 (de_neg de_int)) (da_cons (dv 2) da_nil))) de_int (nomark _))))) (dss_one (dsetI 1 (de_neg de_int) (de_call M_point_moved G_point_moved (hr.mono (by decide)) rfl m_point_moved k_point_moved b_point_moved (da_cons (dixO 1 (de_neg de_int)) (da_cons (dv 2) da_nil))))) (dss_one (ds_expr (dmt 1 PySem.F.slot_list_append PySem.F.type_list_append m_app (da_cons (dv 2) da_nil)))))))
    (dss_one (ds_ret (df 1)))))
theorem ok_joined_sides {f_by_slopes f_slope_order f_point_moved : Addr}
    {fd_by_slopes : FuncData} (G_by_slopes : FnOk P w K mg base (L2.CX P w) 5 f_by_slopes fd_by_slopes ["vectors"] (toSpP K (S_by_slopes f_slope_order))) (m_by_slopes : mg "by_slopes" = some (.ref f_by_slopes)) (k_by_slopes : PySem.W.keepIn K (.ref f_by_slopes) = true) (b_by_slopes : Binds K fd_by_slopes ["vectors"] [])
    {fd_slope_order : FuncData} (G_slope_order : FnOk P w K mg base (L2.CX P w) 2 f_slope_order fd_slope_order ["one", "other"] (toSpP K S_slope_order)) (m_slope_order : mg "slope_order" = some (.ref f_slope_order)) (k_slope_order : PySem.W.keepIn K (.ref f_slope_order) = true) (b_slope_order : Binds K fd_slope_order ["one", "other"] [])
    {fd_point_moved : FuncData} (G_point_moved : FnOk P w K mg base (L2.CX P w) 1 f_point_moved fd_point_moved ["point", "vector"] (toSpP K S_point_moved)) (m_point_moved : mg "point_moved" = some (.ref f_point_moved)) (k_point_moved : PySem.W.keepIn K (.ref f_point_moved) = true) (b_point_moved : Binds K fd_point_moved ["point", "vector"] [])
    (z_len : mg "len" = none)
    {f : Addr} {fd : FuncData} (F : Fun K "joined_sides" "joined_sides" s_joined_sides f fd) : FnOk P w K mg base (L2.CX P w) 6 f fd ["vectors"] (toSpP K (S_joined_sides f_slope_order)) :=
  fnP F sc_joined_sides Z_joined_sides (d_joined_sides G_by_slopes m_by_slopes k_by_slopes b_by_slopes G_slope_order m_slope_order k_slope_order b_slope_order G_point_moved m_point_moved k_point_moved b_point_moved z_len) W_joined_sides
abbrev s_plain_sum : Stmt := topS 33
theorem sc_plain_sum : FnScope N_plain_sum ["one", "other"] (defScope s_plain_sum) := ⟨rfl, rfl, rfl, by decide +kernel, rfl, by decide +kernel, by decide +kernel⟩
theorem d_plain_sum {f_corners_by f_joined_sides f_plain_sides f_point_moved f_slope_order : Addr}
    {fd_corners_by : FuncData} (G_corners_by : FnOk P w K mg base (L2.CX P w) 2 f_corners_by fd_corners_by ["point", "sides"] (toSpP K S_corners_by)) (m_corners_by : mg "corners_by" = some (.ref f_corners_by)) (k_corners_by : PySem.W.keepIn K (.ref f_corners_by) = true) (b_corners_by : Binds K fd_corners_by ["point", "sides"] [])
    {fd_joined_sides : FuncData} (G_joined_sides : FnOk P w K mg base (L2.CX P w) 6 f_joined_sides fd_joined_sides ["vectors"] (toSpP K (S_joined_sides f_slope_order))) (m_joined_sides : mg "joined_sides" = some (.ref f_joined_sides)) (k_joined_sides : PySem.W.keepIn K (.ref f_joined_sides) = true) (b_joined_sides : Binds K fd_joined_sides ["vectors"] [])
    {fd_plain_sides : FuncData} (G_plain_sides : FnOk P w K mg base (L2.CX P w) 2 f_plain_sides fd_plain_sides ["corners"] (toSpP K S_plain_sides)) (m_plain_sides : mg "plain_sides" = some (.ref f_plain_sides)) (k_plain_sides : PySem.W.keepIn K (.ref f_plain_sides) = true) (b_plain_sides : Binds K fd_plain_sides ["corners"] [])
    {fd_point_moved : FuncData} (G_point_moved : FnOk P w K mg base (L2.CX P w) 1 f_point_moved fd_point_moved ["point", "vector"] (toSpP K S_point_moved)) (m_point_moved : mg "point_moved" = some (.ref f_point_moved)) (k_point_moved : PySem.W.keepIn K (.ref f_point_moved) = true) (b_point_moved : Binds K fd_point_moved ["point", "vector"] [])
    {f : Addr} (cdv : Value) (A : Around) (outer : List PySem.Env) (s : Shared) (H : Hp) (E : XK) (hr : Room 6 (A.deeper (envOfC "plain_sum" (defScope s_plain_sum) s.heap.objs.size f cdv))) :
    DSs (bodyX P w K mg base N_plain_sum "plain_sum" s_plain_sum f cdv A outer s H E) (defBody s_plain_sum) (g_plain_sum f_slope_order) :=
  (dss_one (ds_ret (de_call M_corners_by G_corners_by (hr.mono (by decide)) rfl m_corners_by k_corners_by b_corners_by (da_cons (de_call M_point_moved G_point_moved (hr.mono (by decide)) rfl m_point_moved k_point_moved b_point_moved (da_cons (de_ix (dv 0) de_int) (da_cons (de_ix (dv 1) de_int) da_nil))) (da_cons (de_call M_joined_sides G_joined_sides (hr.mono (by decide)) rfl m_joined_sides k_joined_sides b_joined_sides (da_cons (de_n (dn_lst (da_star (de_call M_plain_sides G_plain_sides (hr.mono (by decide)) rfl m_plain_sides k_plain_sides b_plain_sides (da_cons (dv 0) da_nil)) (da_star (de_call M_plain_sides G_plain_sides (hr.mono (by decide)) rfl m_plain_sides k_plain_sides b_plain_sides (da_cons (dv 1) da_nil)) da_nil)))) da_nil)) da_nil)))))
theorem ok_plain_sum {f_corners_by f_joined_sides f_plain_sides f_point_moved f_slope_order : Addr}
    {fd_corners_by : FuncData} (G_corners_by : FnOk P w K mg base (L2.CX P w) 2 f_corners_by fd_corners_by ["point", "sides"] (toSpP K S_corners_by)) (m_corners_by : mg "corners_by" = some (.ref f_corners_by)) (k_corners_by : PySem.W.keepIn K (.ref f_corners_by) = true) (b_corners_by : Binds K fd_corners_by ["point", "sides"] [])
    {fd_joined_sides : FuncData} (G_joined_sides : FnOk P w K mg base (L2.CX P w) 6 f_joined_sides fd_joined_sides ["vectors"] (toSpP K (S_joined_sides f_slope_order))) (m_joined_sides : mg "joined_sides" = some (.ref f_joined_sides)) (k_joined_sides : PySem.W.keepIn K (.ref f_joined_sides) = true) (b_joined_sides : Binds K fd_joined_sides ["vectors"] [])
    {fd_plain_sides : FuncData} (G_plain_sides : FnOk P w K mg base (L2.CX P w) 2 f_plain_sides fd_plain_sides ["corners"] (toSpP K S_plain_sides)) (m_plain_sides : mg "plain_sides" = some (.ref f_plain_sides)) (k_plain_sides : PySem.W.keepIn K (.ref f_plain_sides) = true) (b_plain_sides : Binds K fd_plain_sides ["corners"] [])
    {fd_point_moved : FuncData} (G_point_moved : FnOk P w K mg base (L2.CX P w) 1 f_point_moved fd_point_moved ["point", "vector"] (toSpP K S_point_moved)) (m_point_moved : mg "point_moved" = some (.ref f_point_moved)) (k_point_moved : PySem.W.keepIn K (.ref f_point_moved) = true) (b_point_moved : Binds K fd_point_moved ["point", "vector"] [])
    {f : Addr} {fd : FuncData} (F : Fun K "plain_sum" "plain_sum" s_plain_sum f fd) : FnOk P w K mg base (L2.CX P w) 7 f fd ["one", "other"] (toSpP K (S_plain_sum f_slope_order)) :=
  fnP F sc_plain_sum Z_plain_sum (d_plain_sum G_corners_by m_corners_by k_corners_by b_corners_by G_joined_sides m_joined_sides k_joined_sides b_joined_sides G_plain_sides m_plain_sides k_plain_sides b_plain_sides G_point_moved m_point_moved k_point_moved b_point_moved) W_plain_sum
abbrev s_accepts_rest : Stmt := topS 40
theorem sc_accepts_rest : FnScope N_accepts_rest ["whole", "part", "paper"] (defScope s_accepts_rest) := ⟨rfl, rfl, rfl, by decide +kernel, rfl, by decide +kernel, by decide +kernel⟩
theorem d_accepts_rest {f_check_both f_is_tuple_of f_is_one_of f_is_any_round f_plain_sum f_is_direction f_is_whole f_side_lengths f_slope_order : Addr}
    {fd_check_both : FuncData} (G_check_both : FnOk P w K mg base (L2.CX P w) 7 f_check_both fd_check_both ["one", "other"] (toSpP K S_check_both)) (m_check_both : mg "check_both" = some (.ref f_check_both)) (k_check_both : PySem.W.keepIn K (.ref f_check_both) = true) (b_check_both : Binds K fd_check_both ["one", "other"] [])
    {fd_is_tuple_of : FuncData} (G_is_tuple_of : FnOk P w K mg base (L2.CX P w) 1 f_is_tuple_of fd_is_tuple_of ["value", "many"] (toSpP K S_is_tuple_of)) (m_is_tuple_of : mg "is_tuple_of" = some (.ref f_is_tuple_of)) (k_is_tuple_of : PySem.W.keepIn K (.ref f_is_tuple_of) = true) (b_is_tuple_of : Binds K fd_is_tuple_of ["value", "many"] [])
    {fd_is_one_of : FuncData} (G_is_one_of : FnOk P w K mg base (L2.CX P w) 1 f_is_one_of fd_is_one_of ["value", "words"] (toSpP K S_is_one_of)) (m_is_one_of : mg "is_one_of" = some (.ref f_is_one_of)) (k_is_one_of : PySem.W.keepIn K (.ref f_is_one_of) = true) (b_is_one_of : Binds K fd_is_one_of ["value", "words"] [])
    {fd_is_any_round : FuncData} (G_is_any_round : FnOk P w K mg base (L2.CX P w) 4 f_is_any_round fd_is_any_round ["value"] (toSpP K S_is_any_round)) (m_is_any_round : mg "is_any_round" = some (.ref f_is_any_round)) (k_is_any_round : PySem.W.keepIn K (.ref f_is_any_round) = true) (b_is_any_round : Binds K fd_is_any_round ["value"] [])
    {fd_plain_sum : FuncData} (G_plain_sum : FnOk P w K mg base (L2.CX P w) 7 f_plain_sum fd_plain_sum ["one", "other"] (toSpP K (S_plain_sum f_slope_order))) (m_plain_sum : mg "plain_sum" = some (.ref f_plain_sum)) (k_plain_sum : PySem.W.keepIn K (.ref f_plain_sum) = true) (b_plain_sum : Binds K fd_plain_sum ["one", "other"] [])
    {fd_is_direction : FuncData} (G_is_direction : FnOk P w K mg base (L2.CX P w) 2 f_is_direction fd_is_direction ["value"] (toSpP K S_is_direction)) (m_is_direction : mg "is_direction" = some (.ref f_is_direction)) (k_is_direction : PySem.W.keepIn K (.ref f_is_direction) = true) (b_is_direction : Binds K fd_is_direction ["value"] [])
    {fd_is_whole : FuncData} (G_is_whole : FnOk P w K mg base (L2.CX P w) 1 f_is_whole fd_is_whole ["value"] (toSpP K S_is_whole)) (m_is_whole : mg "is_whole" = some (.ref f_is_whole)) (k_is_whole : PySem.W.keepIn K (.ref f_is_whole) = true) (b_is_whole : Binds K fd_is_whole ["value"] [])
    {fd_side_lengths : FuncData} (G_side_lengths : FnOk P w K mg base (L2.CX P w) 3 f_side_lengths fd_side_lengths ["shape"] (toSpP K S_side_lengths)) (m_side_lengths : mg "side_lengths" = some (.ref f_side_lengths)) (k_side_lengths : PySem.W.keepIn K (.ref f_side_lengths) = true) (b_side_lengths : Binds K fd_side_lengths ["shape"] [])
    {f : Addr} (cdv : Value) (A : Around) (outer : List PySem.Env) (s : Shared) (H : Hp) (E : XK) (hr : Room 7 (A.deeper (envOfC "accepts_rest" (defScope s_accepts_rest) s.heap.objs.size f cdv))) :
    DSs (bodyX P w K mg base N_accepts_rest "accepts_rest" s_accepts_rest f cdv A outer s H E) (defBody s_accepts_rest) (g_accepts_rest f_slope_order) :=
  (dss_cons (ds_expr (de_call M_check_both G_check_both (hr.mono (by decide)) rfl m_check_both k_check_both b_check_both (da_cons (dv 0) (da_cons (dv 1) da_nil))))
    (dss_cons (ds_if (dt_w (dw_and (dt_val (de_call M_is_tuple_of G_is_tuple_of (hr.mono (by decide)) rfl m_is_tuple_of k_is_tuple_of b_is_tuple_of (da_cons (dv 2) (da_cons de_int da_nil)))) (dw_and1 (dt_val (de_call M_is_one_of G_is_one_of (hr.mono (by decide)) rfl m_is_one_of k_is_one_of b_is_one_of (da_cons (de_ix (dv 2) de_int) (da_cons (de_tup (da_cons de_str da_nil)) da_nil))))))) (dss_one (ds_ret (de_and (de_call M_is_any_round G_is_any_round (hr.mono (by decide)) rfl m_is_any_round k_is_any_round b_is_any_round (da_cons (de_ix (dv 2) de_int) da_nil)) (de_one (de_cmp (op_Eq hr.units) (de_call M_plain_sum G_plain_sum (hr.mono (by decide)) rfl m_plain_sum k_plain_sum b_plain_sum (da_cons (de_ix (dv 2) de_int) (da_cons (dv 1) da_nil))) (dv 0) (nomark _)))))) dss_nil)
    (dss_cons (ds_if (dt_w (dw_or (dt_not (dt_val (de_call M_is_tuple_of G_is_tuple_of (hr.mono (by decide)) rfl m_is_tuple_of k_is_tuple_of b_is_tuple_of (da_cons (dv 2) (da_cons de_int da_nil))))) (dw_or (dt_not (dt_val (de_call M_is_one_of G_is_one_of (hr.mono (by decide)) rfl m_is_one_of k_is_one_of b_is_one_of (da_cons (de_ix (dv 2) de_int) (da_cons (de_tup (da_cons de_str da_nil)) da_nil))))) (dw_or1 (dt_not (dt_val (de_call M_is_direction G_is_direction (hr.mono (by decide)) rfl m_is_direction k_is_direction b_is_direction (da_cons (de_ix (dv 2) de_int) da_nil)))))))) (dss_one (ds_ret de_bl)) dss_nil)
    (dss_cons (ds_if (dt_w (dw_or (dt_not (dt_val (de_call M_is_whole G_is_whole (hr.mono (by decide)) rfl m_is_whole k_is_whole b_is_whole (da_cons (de_ix (dv 2) de_int) da_nil)))) (dw_or (dt_not (dt_val (de_call M_is_whole G_is_whole (hr.mono (by decide)) rfl m_is_whole k_is_whole b_is_whole (da_cons (de_ix (dv 2) de_int) da_nil)))) (dw_or1 (dt_cmp (op_Ne hr.units) (de_get1 hr.units (de_call M_side_lengths G_side_lengths (hr.mono (by decide)) rfl m_side_lengths k_side_lengths b_side_lengths (da_cons (dv 1) da_nil)) (de_ix (dv 2) de_int) ⟨rfl, rfl, rfl, rfl⟩) (de_ix (dv 2) de_int) (nomark _)))))) (dss_one (ds_ret de_bl)) dss_nil)
    (dss_one (ds_ret (de_and (de_cmp (op_Eq hr.units) (de_get2 hr.units (de_call M_side_lengths G_side_lengths (hr.mono (by decide)) rfl m_side_lengths k_side_lengths b_side_lengths (da_cons (dv 0) da_nil)) (de_ix (dv 2) de_int) de_int ⟨rfl, rfl, rfl, rfl⟩) (de_ix (dv 2) de_int) (nomark _)) (de_one (de_cmp op_Lt (de_ix (dv 2) de_int) (de_ix (dv 2) de_int) (nomark _))))))))))
theorem ok_accepts_rest {f_check_both f_is_tuple_of f_is_one_of f_is_any_round f_plain_sum f_is_direction f_is_whole f_side_lengths f_slope_order : Addr}
    {fd_check_both : FuncData} (G_check_both : FnOk P w K mg base (L2.CX P w) 7 f_check_both fd_check_both ["one", "other"] (toSpP K S_check_both)) (m_check_both : mg "check_both" = some (.ref f_check_both)) (k_check_both : PySem.W.keepIn K (.ref f_check_both) = true) (b_check_both : Binds K fd_check_both ["one", "other"] [])
    {fd_is_tuple_of : FuncData} (G_is_tuple_of : FnOk P w K mg base (L2.CX P w) 1 f_is_tuple_of fd_is_tuple_of ["value", "many"] (toSpP K S_is_tuple_of)) (m_is_tuple_of : mg "is_tuple_of" = some (.ref f_is_tuple_of)) (k_is_tuple_of : PySem.W.keepIn K (.ref f_is_tuple_of) = true) (b_is_tuple_of : Binds K fd_is_tuple_of ["value", "many"] [])
    {fd_is_one_of : FuncData} (G_is_one_of : FnOk P w K mg base (L2.CX P w) 1 f_is_one_of fd_is_one_of ["value", "words"] (toSpP K S_is_one_of)) (m_is_one_of : mg "is_one_of" = some (.ref f_is_one_of)) (k_is_one_of : PySem.W.keepIn K (.ref f_is_one_of) = true) (b_is_one_of : Binds K fd_is_one_of ["value", "words"] [])
    {fd_is_any_round : FuncData} (G_is_any_round : FnOk P w K mg base (L2.CX P w) 4 f_is_any_round fd_is_any_round ["value"] (toSpP K S_is_any_round)) (m_is_any_round : mg "is_any_round" = some (.ref f_is_any_round)) (k_is_any_round : PySem.W.keepIn K (.ref f_is_any_round) = true) (b_is_any_round : Binds K fd_is_any_round ["value"] [])
    {fd_plain_sum : FuncData} (G_plain_sum : FnOk P w K mg base (L2.CX P w) 7 f_plain_sum fd_plain_sum ["one", "other"] (toSpP K (S_plain_sum f_slope_order))) (m_plain_sum : mg "plain_sum" = some (.ref f_plain_sum)) (k_plain_sum : PySem.W.keepIn K (.ref f_plain_sum) = true) (b_plain_sum : Binds K fd_plain_sum ["one", "other"] [])
    {fd_is_direction : FuncData} (G_is_direction : FnOk P w K mg base (L2.CX P w) 2 f_is_direction fd_is_direction ["value"] (toSpP K S_is_direction)) (m_is_direction : mg "is_direction" = some (.ref f_is_direction)) (k_is_direction : PySem.W.keepIn K (.ref f_is_direction) = true) (b_is_direction : Binds K fd_is_direction ["value"] [])
    {fd_is_whole : FuncData} (G_is_whole : FnOk P w K mg base (L2.CX P w) 1 f_is_whole fd_is_whole ["value"] (toSpP K S_is_whole)) (m_is_whole : mg "is_whole" = some (.ref f_is_whole)) (k_is_whole : PySem.W.keepIn K (.ref f_is_whole) = true) (b_is_whole : Binds K fd_is_whole ["value"] [])
    {fd_side_lengths : FuncData} (G_side_lengths : FnOk P w K mg base (L2.CX P w) 3 f_side_lengths fd_side_lengths ["shape"] (toSpP K S_side_lengths)) (m_side_lengths : mg "side_lengths" = some (.ref f_side_lengths)) (k_side_lengths : PySem.W.keepIn K (.ref f_side_lengths) = true) (b_side_lengths : Binds K fd_side_lengths ["shape"] [])
    {f : Addr} {fd : FuncData} (F : Fun K "accepts_rest" "accepts_rest" s_accepts_rest f fd) : FnOk P w K mg base (L2.CX P w) 8 f fd ["whole", "part", "paper"] (toSpP K (S_accepts_rest f_slope_order)) :=
  fnP F sc_accepts_rest Z_accepts_rest (d_accepts_rest G_check_both m_check_both k_check_both b_check_both G_is_tuple_of m_is_tuple_of k_is_tuple_of b_is_tuple_of G_is_one_of m_is_one_of k_is_one_of b_is_one_of G_is_any_round m_is_any_round k_is_any_round b_is_any_round G_plain_sum m_plain_sum k_plain_sum b_plain_sum G_is_direction m_is_direction k_is_direction b_is_direction G_is_whole m_is_whole k_is_whole b_is_whole G_side_lengths m_side_lengths k_side_lengths b_side_lengths) W_accepts_rest
abbrev s_law : Stmt := topS 68
theorem sc_law : FnScope N_law ["_law_script"] (defScope s_law) := ⟨rfl, rfl, rfl, by decide +kernel, rfl, by decide +kernel, by decide +kernel⟩
theorem d_law {f_Lpool f_Lround f_Ltake f_Lsum_due f_Lone f_Lmoved f_Lshort f_rest_paper f_Lholds f_Lshorts f_Lbent f_accepts_rest f_slope_order : Addr}
    {fd_Lpool : FuncData} (G_Lpool : FnOk P w K mg base (L2.CX P w) 1 f_Lpool fd_Lpool ["_law_script", "_law_k"] (toSpN K S_Lpool)) (m_Lpool : mg "_law_pool" = some (.ref f_Lpool)) (k_Lpool : PySem.W.keepIn K (.ref f_Lpool) = true) (b_Lpool : Binds K fd_Lpool ["_law_script", "_law_k"] [])
    {fd_Lround : FuncData} (G_Lround : FnOk P w K mg base (L2.CX P w) 4 f_Lround fd_Lround ["_law_source", "_law_size_here"] (toSpO K S_Lround)) (m_Lround : mg "_law_round" = some (.ref f_Lround)) (k_Lround : PySem.W.keepIn K (.ref f_Lround) = true) (b_Lround : Binds K fd_Lround ["_law_source", "_law_size_here"] [])
    {fd_Ltake : FuncData} (G_Ltake : FnOk P w K mg base (L2.CX P w) 1 f_Ltake fd_Ltake ["_law_source", "_law_top"] (toSpO K S_Ltake)) (m_Ltake : mg "_law_take" = some (.ref f_Ltake)) (k_Ltake : PySem.W.keepIn K (.ref f_Ltake) = true) (b_Ltake : Binds K fd_Ltake ["_law_source", "_law_top"] [])
    {fd_Lsum_due : FuncData} (G_Lsum_due : FnOk P w K mg base (L2.CX P w) 4 f_Lsum_due fd_Lsum_due ["_law_shape", "_law_other"] (toSpP K S_Lsum_due)) (m_Lsum_due : mg "_law_sum_due" = some (.ref f_Lsum_due)) (k_Lsum_due : PySem.W.keepIn K (.ref f_Lsum_due) = true) (b_Lsum_due : Binds K fd_Lsum_due ["_law_shape", "_law_other"] [])
    {fd_Lone : FuncData} (G_Lone : FnOk P w K mg base (L2.CX P w) 2 f_Lone fd_Lone ["_law_source", "_law_things"] (toSpO K S_Lone)) (m_Lone : mg "_law_one" = some (.ref f_Lone)) (k_Lone : PySem.W.keepIn K (.ref f_Lone) = true) (b_Lone : Binds K fd_Lone ["_law_source", "_law_things"] [])
    {fd_Lmoved : FuncData} (G_Lmoved : FnOk P w K mg base (L2.CX P w) 2 f_Lmoved fd_Lmoved ["_law_shape", "_law_t"] (toSpP K S_Lmoved)) (m_Lmoved : mg "_law_moved" = some (.ref f_Lmoved)) (k_Lmoved : PySem.W.keepIn K (.ref f_Lmoved) = true) (b_Lmoved : Binds K fd_Lmoved ["_law_shape", "_law_t"] [])
    {fd_Lshort : FuncData} (G_Lshort : FnOk P w K mg base (L2.CX P w) 4 f_Lshort fd_Lshort ["_law_whole", "_law_part"] (toSpP K S_Lshort)) (m_Lshort : mg "_law_short" = some (.ref f_Lshort)) (k_Lshort : PySem.W.keepIn K (.ref f_Lshort) = true) (b_Lshort : Binds K fd_Lshort ["_law_whole", "_law_part"] [])
    {fd_rest_paper : FuncData} (G_rest_paper : FnOk P w K mg base (L2.CX P w) 8 f_rest_paper fd_rest_paper ["whole", "part"] (toSpP K S_rest_paper)) (m_rest_paper : mg "rest_paper" = some (.ref f_rest_paper)) (k_rest_paper : PySem.W.keepIn K (.ref f_rest_paper) = true) (b_rest_paper : Binds K fd_rest_paper ["whole", "part"] [])
    {fd_Lholds : FuncData} (G_Lholds : FnOk P w K mg base (L2.CX P w) 5 f_Lholds fd_Lholds ["_law_whole", "_law_part", "_law_paper"] (toSpP K S_Lholds)) (m_Lholds : mg "_law_holds" = some (.ref f_Lholds)) (k_Lholds : PySem.W.keepIn K (.ref f_Lholds) = true) (b_Lholds : Binds K fd_Lholds ["_law_whole", "_law_part", "_law_paper"] [])
    {fd_Lshorts : FuncData} (G_Lshorts : FnOk P w K mg base (L2.CX P w) 4 f_Lshorts fd_Lshorts ["_law_whole", "_law_part"] (toSpP K S_Lshorts)) (m_Lshorts : mg "_law_shorts" = some (.ref f_Lshorts)) (k_Lshorts : PySem.W.keepIn K (.ref f_Lshorts) = true) (b_Lshorts : Binds K fd_Lshorts ["_law_whole", "_law_part"] [])
    {fd_Lbent : FuncData} (G_Lbent : FnOk P w K mg base (L2.CX P w) 5 f_Lbent fd_Lbent ["_law_source", "_law_paper", "_law_whole", "_law_part"] (toSpO K S_Lbent)) (m_Lbent : mg "_law_bent" = some (.ref f_Lbent)) (k_Lbent : PySem.W.keepIn K (.ref f_Lbent) = true) (b_Lbent : Binds K fd_Lbent ["_law_source", "_law_paper", "_law_whole", "_law_part"] [])
    {fd_accepts_rest : FuncData} (G_accepts_rest : FnOk P w K mg base (L2.CX P w) 8 f_accepts_rest fd_accepts_rest ["whole", "part", "paper"] (toSpP K (S_accepts_rest f_slope_order))) (m_accepts_rest : mg "accepts_rest" = some (.ref f_accepts_rest)) (k_accepts_rest : PySem.W.keepIn K (.ref f_accepts_rest) = true) (b_accepts_rest : Binds K fd_accepts_rest ["whole", "part", "paper"] [])
    (z_range : mg "range" = none)
    (z_max : mg "max" = none)
    (z_min : mg "min" = none)
    (z_len : mg "len" = none)
    (z_repr : mg "repr" = none)
    {f : Addr} (cdv : Value) (A : Around) (outer : List PySem.Env) (s : Shared) (H : Hp) (E : XK) (hG : (A.deeper (envOfC "law" (defScope s_law) s.heap.objs.size f cdv)).guards = some []) (hr : Room 8 (A.deeper (envOfC "law" (defScope s_law) s.heap.objs.size f cdv))) :
    DSs (bodyX P w K mg base N_law "law" s_law f cdv A outer s H E) (defBody s_law) (g_law f_slope_order) :=
  (dss_cons (ds_for own_passes rfl (di_range1 rfl z_range (da_cons (de_callB (c_max2 rfl) rfl z_max (by decide +kernel) (da_cons de_int (da_cons (de_callB (c_min2 rfl) rfl z_min (by decide +kernel) (da_cons (de_callB c_len rfl z_len PySem.boot_len (da_cons (dv 0) da_nil)) (da_cons de_int da_nil))) da_nil))) da_nil)) (dgn 1 sc_law.nd) (dss_cons (dnew 2 sc_law.nd (dn_call M_Lpool G_Lpool (hr.mono (by decide)) rfl m_Lpool k_Lpool b_Lpool (da_cons (dv 0) (da_cons (dv 1) da_nil))))
    (dss_cons (ds_asg (de_tup (da_cons (dcallO 2 M_Lround G_Lround (hr.mono (by decide)) rfl m_Lround k_Lround b_Lround (da_cons de_int da_nil)) (da_cons (dcallO 2 M_Lround G_Lround (hr.mono (by decide)) rfl m_Lround k_Lround b_Lround (da_cons de_int da_nil)) da_nil))) (dg_tup rfl (dgs_cons (dgn 8 sc_law.nd) (dgs_cons (dgn 5 sc_law.nd) dgs_nil))))
    (dss_cons (dset 3 sc_law.nd (de_if (dt_cmp (op_Eq hr.units) (dcallO 2 M_Ltake G_Ltake (hr.mono (by decide)) rfl m_Ltake k_Ltake b_Ltake (da_cons de_int da_nil)) de_int (nomark _)) (de_call M_Lsum_due G_Lsum_due (hr.mono (by decide)) rfl m_Lsum_due k_Lsum_due b_Lsum_due (da_cons (dv 8) (da_cons (dv 5) da_nil))) (dv 5)))
    (dss_cons (dset 4 sc_law.nd (dcallO 2 M_Lone G_Lone (hr.mono (by decide)) rfl m_Lone k_Lone b_Lone (da_cons (de_n (dn_lst (da_cons de_int (da_cons de_int (da_cons (de_op op_Sub (de_op op_Pow de_int de_int) de_int) da_nil))))) da_nil)))
    (dss_cons (ds_asg (de_tup (da_cons (de_call M_Lmoved G_Lmoved (hr.mono (by decide)) rfl m_Lmoved k_Lmoved b_Lmoved (da_cons (dv 8) (da_cons (de_tup (da_cons (de_op op_Sub de_int (dv 4)) (da_cons (dv 4) da_nil))) da_nil))) (da_cons (de_call M_Lmoved G_Lmoved (hr.mono (by decide)) rfl m_Lmoved k_Lmoved b_Lmoved (da_cons (dv 3) (da_cons (de_tup (da_cons (dv 4) (da_cons (de_op op_Sub de_int (dv 4)) da_nil))) da_nil))) da_nil))) (dg_tup rfl (dgs_cons (dgn 8 sc_law.nd) (dgs_cons (dgn 3 sc_law.nd) dgs_nil))))
    (dss_cons (dset 5 sc_law.nd (de_call M_Lmoved G_Lmoved (hr.mono (by decide)) rfl m_Lmoved k_Lmoved b_Lmoved (da_cons (dv 5) (da_cons (de_tup (da_cons (de_op op_Mul de_int (dv 4)) (da_cons (de_op op_Sub de_int (de_op op_Mul de_int (dv 4))) da_nil))) da_nil))))
    (dss_cons (ds_par2 (i := 9) (j := 10) rfl sc_law.nd rfl rfl (by decide) rfl rfl (dm_e (de_call M_rest_paper G_rest_paper (hr.mono (by decide)) rfl m_rest_paper k_rest_paper b_rest_paper (da_cons (dv 3) (da_cons (dv 8) da_nil))) (dm_e (de_call M_Lshort G_Lshort (hr.mono (by decide)) rfl m_Lshort k_Lshort b_Lshort (da_cons (dv 3) (da_cons (dv 8) da_nil))) dm_nil)) (by rfl))
    (dss_cons (ds_if (dt_w (dw_and (dt_cmp op_IsN (dv 10) de_non (nomark _)) (dw_and1 (dt_w (dw_or (dt_cmp (op_Ne hr.units) (de_cut (dv 9) do_none (do_some de_int)) (de_tup (da_cons de_str da_nil)) (nomark _)) (dw_or1 (dt_not (dt_val (de_call M_Lholds G_Lholds (hr.mono (by decide)) rfl m_Lholds k_Lholds b_Lholds (da_cons (dv 3) (da_cons (dv 8) (da_cons (dv 9) da_nil)))))))))))) (dss_one (ds_ret de_bl)) dss_nil)
    (dss_cons (ds_if (dt_w (dw_and (dt_cmp op_NotN (dv 10) de_non (nomark _)) (dw_and1 (dt_cmp (op_Ne hr.units) (de_callB (c_reprD hG hr.units) rfl z_repr (by decide +kernel) (da_cons (dv 9) da_nil)) (de_callB (c_reprD hG hr.units) rfl z_repr (by decide +kernel) (da_cons (de_op op_Add (de_tup (da_cons de_str da_nil)) (dv 10)) da_nil)) (nomark _))))) (dss_one (ds_ret de_bl)) dss_nil)
    (dss_cons (dset 6 sc_law.nd (de_op op_Add (de_n (dn_lst (da_cons (dv 9) (da_cons (de_tup (da_cons de_str (da_cons (dv 5) da_nil))) da_nil)))) (de_call M_Lshorts G_Lshorts (hr.mono (by decide)) rfl m_Lshorts k_Lshorts b_Lshorts (da_cons (dv 3) (da_cons (dv 8) da_nil)))))
    (dss_one (ds_for own_passes rfl (di_seq (de_op op_Add (dv 6) (de_n (dn_lc (own := [("_law_turn", 11)]) rfl sc_law.nd (di_range1 rfl z_range (da_cons de_int da_nil)) (blkOk_by (own := [("_law_turn", 11)]) (N := N_law) (sc := defScope s_law) (by decide +kernel)) (by decide) (fun _ _ _ _ _ => (dgn 11 sc_law.nd)) (fun _ _ _ _ _ => dts_nil) (fun _ _ _ _ _ => (dcallO 2 M_Lbent G_Lbent (hr.mono (by decide)) rfl m_Lbent k_Lbent b_Lbent (da_cons (dcallO 2 M_Lone G_Lone (hr.mono (by decide)) rfl m_Lone k_Lone b_Lone (da_cons (dv 6) da_nil)) (da_cons (dv 3) (da_cons (dv 8) da_nil))))))))) (dgn 7 sc_law.nd) (dss_one (ds_if (dt_cmp (op_Ne hr.units) (de_callB (c_reprD hG hr.units) rfl z_repr (by decide +kernel) (da_cons (de_call M_accepts_rest G_accepts_rest (hr.mono (by decide)) rfl m_accepts_rest k_accepts_rest b_accepts_rest (da_cons (dv 3) (da_cons (dv 8) (da_cons (dv 7) da_nil)))) da_nil)) (de_callB (c_reprD hG hr.units) rfl z_repr (by decide +kernel) (da_cons (de_call M_Lholds G_Lholds (hr.mono (by decide)) rfl m_Lholds k_Lholds b_Lholds (da_cons (dv 3) (da_cons (dv 8) (da_cons (dv 7) da_nil)))) da_nil)) (nomark _)) (dss_one (ds_ret de_bl)) dss_nil)))))))))))))))
    (dss_one (ds_ret de_bl)))
theorem ok_law {f_Lpool f_Lround f_Ltake f_Lsum_due f_Lone f_Lmoved f_Lshort f_rest_paper f_Lholds f_Lshorts f_Lbent f_accepts_rest f_slope_order : Addr}
    {fd_Lpool : FuncData} (G_Lpool : FnOk P w K mg base (L2.CX P w) 1 f_Lpool fd_Lpool ["_law_script", "_law_k"] (toSpN K S_Lpool)) (m_Lpool : mg "_law_pool" = some (.ref f_Lpool)) (k_Lpool : PySem.W.keepIn K (.ref f_Lpool) = true) (b_Lpool : Binds K fd_Lpool ["_law_script", "_law_k"] [])
    {fd_Lround : FuncData} (G_Lround : FnOk P w K mg base (L2.CX P w) 4 f_Lround fd_Lround ["_law_source", "_law_size_here"] (toSpO K S_Lround)) (m_Lround : mg "_law_round" = some (.ref f_Lround)) (k_Lround : PySem.W.keepIn K (.ref f_Lround) = true) (b_Lround : Binds K fd_Lround ["_law_source", "_law_size_here"] [])
    {fd_Ltake : FuncData} (G_Ltake : FnOk P w K mg base (L2.CX P w) 1 f_Ltake fd_Ltake ["_law_source", "_law_top"] (toSpO K S_Ltake)) (m_Ltake : mg "_law_take" = some (.ref f_Ltake)) (k_Ltake : PySem.W.keepIn K (.ref f_Ltake) = true) (b_Ltake : Binds K fd_Ltake ["_law_source", "_law_top"] [])
    {fd_Lsum_due : FuncData} (G_Lsum_due : FnOk P w K mg base (L2.CX P w) 4 f_Lsum_due fd_Lsum_due ["_law_shape", "_law_other"] (toSpP K S_Lsum_due)) (m_Lsum_due : mg "_law_sum_due" = some (.ref f_Lsum_due)) (k_Lsum_due : PySem.W.keepIn K (.ref f_Lsum_due) = true) (b_Lsum_due : Binds K fd_Lsum_due ["_law_shape", "_law_other"] [])
    {fd_Lone : FuncData} (G_Lone : FnOk P w K mg base (L2.CX P w) 2 f_Lone fd_Lone ["_law_source", "_law_things"] (toSpO K S_Lone)) (m_Lone : mg "_law_one" = some (.ref f_Lone)) (k_Lone : PySem.W.keepIn K (.ref f_Lone) = true) (b_Lone : Binds K fd_Lone ["_law_source", "_law_things"] [])
    {fd_Lmoved : FuncData} (G_Lmoved : FnOk P w K mg base (L2.CX P w) 2 f_Lmoved fd_Lmoved ["_law_shape", "_law_t"] (toSpP K S_Lmoved)) (m_Lmoved : mg "_law_moved" = some (.ref f_Lmoved)) (k_Lmoved : PySem.W.keepIn K (.ref f_Lmoved) = true) (b_Lmoved : Binds K fd_Lmoved ["_law_shape", "_law_t"] [])
    {fd_Lshort : FuncData} (G_Lshort : FnOk P w K mg base (L2.CX P w) 4 f_Lshort fd_Lshort ["_law_whole", "_law_part"] (toSpP K S_Lshort)) (m_Lshort : mg "_law_short" = some (.ref f_Lshort)) (k_Lshort : PySem.W.keepIn K (.ref f_Lshort) = true) (b_Lshort : Binds K fd_Lshort ["_law_whole", "_law_part"] [])
    {fd_rest_paper : FuncData} (G_rest_paper : FnOk P w K mg base (L2.CX P w) 8 f_rest_paper fd_rest_paper ["whole", "part"] (toSpP K S_rest_paper)) (m_rest_paper : mg "rest_paper" = some (.ref f_rest_paper)) (k_rest_paper : PySem.W.keepIn K (.ref f_rest_paper) = true) (b_rest_paper : Binds K fd_rest_paper ["whole", "part"] [])
    {fd_Lholds : FuncData} (G_Lholds : FnOk P w K mg base (L2.CX P w) 5 f_Lholds fd_Lholds ["_law_whole", "_law_part", "_law_paper"] (toSpP K S_Lholds)) (m_Lholds : mg "_law_holds" = some (.ref f_Lholds)) (k_Lholds : PySem.W.keepIn K (.ref f_Lholds) = true) (b_Lholds : Binds K fd_Lholds ["_law_whole", "_law_part", "_law_paper"] [])
    {fd_Lshorts : FuncData} (G_Lshorts : FnOk P w K mg base (L2.CX P w) 4 f_Lshorts fd_Lshorts ["_law_whole", "_law_part"] (toSpP K S_Lshorts)) (m_Lshorts : mg "_law_shorts" = some (.ref f_Lshorts)) (k_Lshorts : PySem.W.keepIn K (.ref f_Lshorts) = true) (b_Lshorts : Binds K fd_Lshorts ["_law_whole", "_law_part"] [])
    {fd_Lbent : FuncData} (G_Lbent : FnOk P w K mg base (L2.CX P w) 5 f_Lbent fd_Lbent ["_law_source", "_law_paper", "_law_whole", "_law_part"] (toSpO K S_Lbent)) (m_Lbent : mg "_law_bent" = some (.ref f_Lbent)) (k_Lbent : PySem.W.keepIn K (.ref f_Lbent) = true) (b_Lbent : Binds K fd_Lbent ["_law_source", "_law_paper", "_law_whole", "_law_part"] [])
    {fd_accepts_rest : FuncData} (G_accepts_rest : FnOk P w K mg base (L2.CX P w) 8 f_accepts_rest fd_accepts_rest ["whole", "part", "paper"] (toSpP K (S_accepts_rest f_slope_order))) (m_accepts_rest : mg "accepts_rest" = some (.ref f_accepts_rest)) (k_accepts_rest : PySem.W.keepIn K (.ref f_accepts_rest) = true) (b_accepts_rest : Binds K fd_accepts_rest ["whole", "part", "paper"] [])
    (z_range : mg "range" = none)
    (z_max : mg "max" = none)
    (z_min : mg "min" = none)
    (z_len : mg "len" = none)
    (z_repr : mg "repr" = none)
    {f : Addr} {fd : FuncData} (F : Fun K "law" "law" s_law f fd) : FnG P w K mg base (L2.CX P w) 9 f fd ["_law_script"] (toSpP K S_law) :=
  fnPG F sc_law Z_law (d_law G_Lpool m_Lpool k_Lpool b_Lpool G_Lround m_Lround k_Lround b_Lround G_Ltake m_Ltake k_Ltake b_Ltake G_Lsum_due m_Lsum_due k_Lsum_due b_Lsum_due G_Lone m_Lone k_Lone b_Lone G_Lmoved m_Lmoved k_Lmoved b_Lmoved G_Lshort m_Lshort k_Lshort b_Lshort G_rest_paper m_rest_paper k_rest_paper b_rest_paper G_Lholds m_Lholds k_Lholds b_Lholds G_Lshorts m_Lshorts k_Lshorts b_Lshorts G_Lbent m_Lbent k_Lbent b_Lbent G_accepts_rest m_accepts_rest k_accepts_rest b_accepts_rest z_range z_max z_min z_len z_repr) W_law
end
theorem all_mk [TabSet] {l : PySem.W.OpenLaw} {w : World} {K : PySem.W.Frag} {h : Heap} {mg : Str → Option Value} {fa : Addr} (X : K.In h) (G : h.Ns mainGlobals mg) (hfa : mg "law" = some (.ref fa))
    {f_Lpool : Addr} {od_Lpool an_Lpool : Option Addr} {sl_Lpool : Array (Option Value)} {oc_Lpool kV_Lpool dc_Lpool pm_Lpool cd_Lpool ct_Lpool : Value}
    (a_Lpool : PySem.W.nsIn K mainGlobals "_law_pool" = some (some (.ref f_Lpool))) (l_Lpool : K.lookup f_Lpool = some ⟨oc_Lpool, od_Lpool, .func (PySem.W.fnOf "_law_pool" "_law_pool" (defArgs s_Lpool) (defBody s_Lpool) (defScope s_Lpool) .none kV_Lpool dc_Lpool pm_Lpool an_Lpool cd_Lpool ct_Lpool), sl_Lpool⟩) (cc_Lpool : PySem.W.codeIn K cd_Lpool "_law_pool" = true) (k_Lpool : PySem.W.keepIn K (.ref f_Lpool) = true)
    {f_Ltake : Addr} {od_Ltake an_Ltake : Option Addr} {sl_Ltake : Array (Option Value)} {oc_Ltake kV_Ltake dc_Ltake pm_Ltake cd_Ltake ct_Ltake : Value}
    (a_Ltake : PySem.W.nsIn K mainGlobals "_law_take" = some (some (.ref f_Ltake))) (l_Ltake : K.lookup f_Ltake = some ⟨oc_Ltake, od_Ltake, .func (PySem.W.fnOf "_law_take" "_law_take" (defArgs s_Ltake) (defBody s_Ltake) (defScope s_Ltake) .none kV_Ltake dc_Ltake pm_Ltake an_Ltake cd_Ltake ct_Ltake), sl_Ltake⟩) (cc_Ltake : PySem.W.codeIn K cd_Ltake "_law_take" = true) (k_Ltake : PySem.W.keepIn K (.ref f_Ltake) = true)
    {f_Lone : Addr} {od_Lone an_Lone : Option Addr} {sl_Lone : Array (Option Value)} {oc_Lone kV_Lone dc_Lone pm_Lone cd_Lone ct_Lone : Value}
    (a_Lone : PySem.W.nsIn K mainGlobals "_law_one" = some (some (.ref f_Lone))) (l_Lone : K.lookup f_Lone = some ⟨oc_Lone, od_Lone, .func (PySem.W.fnOf "_law_one" "_law_one" (defArgs s_Lone) (defBody s_Lone) (defScope s_Lone) .none kV_Lone dc_Lone pm_Lone an_Lone cd_Lone ct_Lone), sl_Lone⟩) (cc_Lone : PySem.W.codeIn K cd_Lone "_law_one" = true) (k_Lone : PySem.W.keepIn K (.ref f_Lone) = true)
    {f_Ladd : Addr} {od_Ladd an_Ladd : Option Addr} {sl_Ladd : Array (Option Value)} {oc_Ladd kV_Ladd dc_Ladd pm_Ladd cd_Ladd ct_Ladd : Value}
    (a_Ladd : PySem.W.nsIn K mainGlobals "_law_add" = some (some (.ref f_Ladd))) (l_Ladd : K.lookup f_Ladd = some ⟨oc_Ladd, od_Ladd, .func (PySem.W.fnOf "_law_add" "_law_add" (defArgs s_Ladd) (defBody s_Ladd) (defScope s_Ladd) .none kV_Ladd dc_Ladd pm_Ladd an_Ladd cd_Ladd ct_Ladd), sl_Ladd⟩) (cc_Ladd : PySem.W.codeIn K cd_Ladd "_law_add" = true) (k_Ladd : PySem.W.keepIn K (.ref f_Ladd) = true)
    {f_Lmoved : Addr} {od_Lmoved an_Lmoved : Option Addr} {sl_Lmoved : Array (Option Value)} {oc_Lmoved kV_Lmoved dc_Lmoved pm_Lmoved cd_Lmoved ct_Lmoved : Value}
    (a_Lmoved : PySem.W.nsIn K mainGlobals "_law_moved" = some (some (.ref f_Lmoved))) (l_Lmoved : K.lookup f_Lmoved = some ⟨oc_Lmoved, od_Lmoved, .func (PySem.W.fnOf "_law_moved" "_law_moved" (defArgs s_Lmoved) (defBody s_Lmoved) (defScope s_Lmoved) .none kV_Lmoved dc_Lmoved pm_Lmoved an_Lmoved cd_Lmoved ct_Lmoved), sl_Lmoved⟩) (cc_Lmoved : PySem.W.codeIn K cd_Lmoved "_law_moved" = true) (k_Lmoved : PySem.W.keepIn K (.ref f_Lmoved) = true)
    {f_Llowest : Addr} {od_Llowest an_Llowest : Option Addr} {sl_Llowest : Array (Option Value)} {oc_Llowest kV_Llowest dc_Llowest pm_Llowest cd_Llowest ct_Llowest : Value}
    (a_Llowest : PySem.W.nsIn K mainGlobals "_law_lowest" = some (some (.ref f_Llowest))) (l_Llowest : K.lookup f_Llowest = some ⟨oc_Llowest, od_Llowest, .func (PySem.W.fnOf "_law_lowest" "_law_lowest" (defArgs s_Llowest) (defBody s_Llowest) (defScope s_Llowest) .none kV_Llowest dc_Llowest pm_Llowest an_Llowest cd_Llowest ct_Llowest), sl_Llowest⟩) (cc_Llowest : PySem.W.codeIn K cd_Llowest "_law_lowest" = true) (k_Llowest : PySem.W.keepIn K (.ref f_Llowest) = true)
    {f_Lcross : Addr} {od_Lcross an_Lcross : Option Addr} {sl_Lcross : Array (Option Value)} {oc_Lcross kV_Lcross dc_Lcross pm_Lcross cd_Lcross ct_Lcross : Value}
    (a_Lcross : PySem.W.nsIn K mainGlobals "_law_cross" = some (some (.ref f_Lcross))) (l_Lcross : K.lookup f_Lcross = some ⟨oc_Lcross, od_Lcross, .func (PySem.W.fnOf "_law_cross" "_law_cross" (defArgs s_Lcross) (defBody s_Lcross) (defScope s_Lcross) .none kV_Lcross dc_Lcross pm_Lcross an_Lcross cd_Lcross ct_Lcross), sl_Lcross⟩) (cc_Lcross : PySem.W.codeIn K cd_Lcross "_law_cross" = true) (k_Lcross : PySem.W.keepIn K (.ref f_Lcross) = true)
    {f_Lto : Addr} {od_Lto an_Lto : Option Addr} {sl_Lto : Array (Option Value)} {oc_Lto kV_Lto dc_Lto pm_Lto cd_Lto ct_Lto : Value}
    (a_Lto : PySem.W.nsIn K mainGlobals "_law_to" = some (some (.ref f_Lto))) (l_Lto : K.lookup f_Lto = some ⟨oc_Lto, od_Lto, .func (PySem.W.fnOf "_law_to" "_law_to" (defArgs s_Lto) (defBody s_Lto) (defScope s_Lto) .none kV_Lto dc_Lto pm_Lto an_Lto cd_Lto ct_Lto), sl_Lto⟩) (cc_Lto : PySem.W.codeIn K cd_Lto "_law_to" = true) (k_Lto : PySem.W.keepIn K (.ref f_Lto) = true)
    {f_Ldot : Addr} {od_Ldot an_Ldot : Option Addr} {sl_Ldot : Array (Option Value)} {oc_Ldot kV_Ldot dc_Ldot pm_Ldot cd_Ldot ct_Ldot : Value}
    (a_Ldot : PySem.W.nsIn K mainGlobals "_law_dot" = some (some (.ref f_Ldot))) (l_Ldot : K.lookup f_Ldot = some ⟨oc_Ldot, od_Ldot, .func (PySem.W.fnOf "_law_dot" "_law_dot" (defArgs s_Ldot) (defBody s_Ldot) (defScope s_Ldot) .none kV_Ldot dc_Ldot pm_Ldot an_Ldot cd_Ldot ct_Ldot), sl_Ldot⟩) (cc_Ldot : PySem.W.codeIn K cd_Ldot "_law_dot" = true) (k_Ldot : PySem.W.keepIn K (.ref f_Ldot) = true)
    {f_Lsize : Addr} {od_Lsize an_Lsize : Option Addr} {sl_Lsize : Array (Option Value)} {oc_Lsize kV_Lsize dc_Lsize pm_Lsize cd_Lsize ct_Lsize : Value}
    (a_Lsize : PySem.W.nsIn K mainGlobals "_law_size" = some (some (.ref f_Lsize))) (l_Lsize : K.lookup f_Lsize = some ⟨oc_Lsize, od_Lsize, .func (PySem.W.fnOf "_law_size" "_law_size" (defArgs s_Lsize) (defBody s_Lsize) (defScope s_Lsize) .none kV_Lsize dc_Lsize pm_Lsize an_Lsize cd_Lsize ct_Lsize), sl_Lsize⟩) (cc_Lsize : PySem.W.codeIn K cd_Lsize "_law_size" = true) (k_Lsize : PySem.W.keepIn K (.ref f_Lsize) = true)
    {f_Lhull : Addr} {od_Lhull an_Lhull : Option Addr} {sl_Lhull : Array (Option Value)} {oc_Lhull kV_Lhull dc_Lhull pm_Lhull cd_Lhull ct_Lhull : Value}
    (a_Lhull : PySem.W.nsIn K mainGlobals "_law_hull" = some (some (.ref f_Lhull))) (l_Lhull : K.lookup f_Lhull = some ⟨oc_Lhull, od_Lhull, .func (PySem.W.fnOf "_law_hull" "_law_hull" (defArgs s_Lhull) (defBody s_Lhull) (defScope s_Lhull) .none kV_Lhull dc_Lhull pm_Lhull an_Lhull cd_Lhull ct_Lhull), sl_Lhull⟩) (cc_Lhull : PySem.W.codeIn K cd_Lhull "_law_hull" = true) (k_Lhull : PySem.W.keepIn K (.ref f_Lhull) = true)
    {f_Lpoint : Addr} {od_Lpoint an_Lpoint : Option Addr} {sl_Lpoint : Array (Option Value)} {oc_Lpoint kV_Lpoint dc_Lpoint pm_Lpoint cd_Lpoint ct_Lpoint : Value}
    (a_Lpoint : PySem.W.nsIn K mainGlobals "_law_point" = some (some (.ref f_Lpoint))) (l_Lpoint : K.lookup f_Lpoint = some ⟨oc_Lpoint, od_Lpoint, .func (PySem.W.fnOf "_law_point" "_law_point" (defArgs s_Lpoint) (defBody s_Lpoint) (defScope s_Lpoint) .none kV_Lpoint dc_Lpoint pm_Lpoint an_Lpoint cd_Lpoint ct_Lpoint), sl_Lpoint⟩) (cc_Lpoint : PySem.W.codeIn K cd_Lpoint "_law_point" = true) (k_Lpoint : PySem.W.keepIn K (.ref f_Lpoint) = true)
    {f_Lpoints : Addr} {od_Lpoints an_Lpoints : Option Addr} {sl_Lpoints : Array (Option Value)} {oc_Lpoints kV_Lpoints dc_Lpoints pm_Lpoints cd_Lpoints ct_Lpoints : Value}
    (a_Lpoints : PySem.W.nsIn K mainGlobals "_law_points" = some (some (.ref f_Lpoints))) (l_Lpoints : K.lookup f_Lpoints = some ⟨oc_Lpoints, od_Lpoints, .func (PySem.W.fnOf "_law_points" "_law_points" (defArgs s_Lpoints) (defBody s_Lpoints) (defScope s_Lpoints) .none kV_Lpoints dc_Lpoints pm_Lpoints an_Lpoints cd_Lpoints ct_Lpoints), sl_Lpoints⟩) (cc_Lpoints : PySem.W.codeIn K cd_Lpoints "_law_points" = true) (k_Lpoints : PySem.W.keepIn K (.ref f_Lpoints) = true)
    {f_Lround : Addr} {od_Lround an_Lround : Option Addr} {sl_Lround : Array (Option Value)} {oc_Lround kV_Lround dc_Lround pm_Lround cd_Lround ct_Lround : Value}
    (a_Lround : PySem.W.nsIn K mainGlobals "_law_round" = some (some (.ref f_Lround))) (l_Lround : K.lookup f_Lround = some ⟨oc_Lround, od_Lround, .func (PySem.W.fnOf "_law_round" "_law_round" (defArgs s_Lround) (defBody s_Lround) (defScope s_Lround) .none kV_Lround dc_Lround pm_Lround an_Lround cd_Lround ct_Lround), sl_Lround⟩) (cc_Lround : PySem.W.codeIn K cd_Lround "_law_round" = true) (k_Lround : PySem.W.keepIn K (.ref f_Lround) = true)
    {f_Lsum_due : Addr} {od_Lsum_due an_Lsum_due : Option Addr} {sl_Lsum_due : Array (Option Value)} {oc_Lsum_due kV_Lsum_due dc_Lsum_due pm_Lsum_due cd_Lsum_due ct_Lsum_due : Value}
    (a_Lsum_due : PySem.W.nsIn K mainGlobals "_law_sum_due" = some (some (.ref f_Lsum_due))) (l_Lsum_due : K.lookup f_Lsum_due = some ⟨oc_Lsum_due, od_Lsum_due, .func (PySem.W.fnOf "_law_sum_due" "_law_sum_due" (defArgs s_Lsum_due) (defBody s_Lsum_due) (defScope s_Lsum_due) .none kV_Lsum_due dc_Lsum_due pm_Lsum_due an_Lsum_due cd_Lsum_due ct_Lsum_due), sl_Lsum_due⟩) (cc_Lsum_due : PySem.W.codeIn K cd_Lsum_due "_law_sum_due" = true) (k_Lsum_due : PySem.W.keepIn K (.ref f_Lsum_due) = true)
    {f_vector_between : Addr} {od_vector_between an_vector_between : Option Addr} {sl_vector_between : Array (Option Value)} {oc_vector_between kV_vector_between dc_vector_between pm_vector_between cd_vector_between ct_vector_between : Value}
    (a_vector_between : PySem.W.nsIn K mainGlobals "vector_between" = some (some (.ref f_vector_between))) (l_vector_between : K.lookup f_vector_between = some ⟨oc_vector_between, od_vector_between, .func (PySem.W.fnOf "vector_between" "vector_between" (defArgs s_vector_between) (defBody s_vector_between) (defScope s_vector_between) .none kV_vector_between dc_vector_between pm_vector_between an_vector_between cd_vector_between ct_vector_between), sl_vector_between⟩) (cc_vector_between : PySem.W.codeIn K cd_vector_between "vector_between" = true) (k_vector_between : PySem.W.keepIn K (.ref f_vector_between) = true)
    {f_plain_sides : Addr} {od_plain_sides an_plain_sides : Option Addr} {sl_plain_sides : Array (Option Value)} {oc_plain_sides kV_plain_sides dc_plain_sides pm_plain_sides cd_plain_sides ct_plain_sides : Value}
    (a_plain_sides : PySem.W.nsIn K mainGlobals "plain_sides" = some (some (.ref f_plain_sides))) (l_plain_sides : K.lookup f_plain_sides = some ⟨oc_plain_sides, od_plain_sides, .func (PySem.W.fnOf "plain_sides" "plain_sides" (defArgs s_plain_sides) (defBody s_plain_sides) (defScope s_plain_sides) .none kV_plain_sides dc_plain_sides pm_plain_sides an_plain_sides cd_plain_sides ct_plain_sides), sl_plain_sides⟩) (cc_plain_sides : PySem.W.codeIn K cd_plain_sides "plain_sides" = true) (k_plain_sides : PySem.W.keepIn K (.ref f_plain_sides) = true)
    {f_is_upper : Addr} {od_is_upper an_is_upper : Option Addr} {sl_is_upper : Array (Option Value)} {oc_is_upper kV_is_upper dc_is_upper pm_is_upper cd_is_upper ct_is_upper : Value}
    (a_is_upper : PySem.W.nsIn K mainGlobals "is_upper" = some (some (.ref f_is_upper))) (l_is_upper : K.lookup f_is_upper = some ⟨oc_is_upper, od_is_upper, .func (PySem.W.fnOf "is_upper" "is_upper" (defArgs s_is_upper) (defBody s_is_upper) (defScope s_is_upper) .none kV_is_upper dc_is_upper pm_is_upper an_is_upper cd_is_upper ct_is_upper), sl_is_upper⟩) (cc_is_upper : PySem.W.codeIn K cd_is_upper "is_upper" = true) (k_is_upper : PySem.W.keepIn K (.ref f_is_upper) = true)
    {f_sign_of : Addr} {od_sign_of an_sign_of : Option Addr} {sl_sign_of : Array (Option Value)} {oc_sign_of kV_sign_of dc_sign_of pm_sign_of cd_sign_of ct_sign_of : Value}
    (a_sign_of : PySem.W.nsIn K mainGlobals "sign_of" = some (some (.ref f_sign_of))) (l_sign_of : K.lookup f_sign_of = some ⟨oc_sign_of, od_sign_of, .func (PySem.W.fnOf "sign_of" "sign_of" (defArgs s_sign_of) (defBody s_sign_of) (defScope s_sign_of) .none kV_sign_of dc_sign_of pm_sign_of an_sign_of cd_sign_of ct_sign_of), sl_sign_of⟩) (cc_sign_of : PySem.W.codeIn K cd_sign_of "sign_of" = true) (k_sign_of : PySem.W.keepIn K (.ref f_sign_of) = true)
    {f_cross_of : Addr} {od_cross_of an_cross_of : Option Addr} {sl_cross_of : Array (Option Value)} {oc_cross_of kV_cross_of dc_cross_of pm_cross_of cd_cross_of ct_cross_of : Value}
    (a_cross_of : PySem.W.nsIn K mainGlobals "cross_of" = some (some (.ref f_cross_of))) (l_cross_of : K.lookup f_cross_of = some ⟨oc_cross_of, od_cross_of, .func (PySem.W.fnOf "cross_of" "cross_of" (defArgs s_cross_of) (defBody s_cross_of) (defScope s_cross_of) .none kV_cross_of dc_cross_of pm_cross_of an_cross_of cd_cross_of ct_cross_of), sl_cross_of⟩) (cc_cross_of : PySem.W.codeIn K cd_cross_of "cross_of" = true) (k_cross_of : PySem.W.keepIn K (.ref f_cross_of) = true)
    {f_slope_order : Addr} {od_slope_order an_slope_order : Option Addr} {sl_slope_order : Array (Option Value)} {oc_slope_order kV_slope_order dc_slope_order pm_slope_order cd_slope_order ct_slope_order : Value}
    (a_slope_order : PySem.W.nsIn K mainGlobals "slope_order" = some (some (.ref f_slope_order))) (l_slope_order : K.lookup f_slope_order = some ⟨oc_slope_order, od_slope_order, .func (PySem.W.fnOf "slope_order" "slope_order" (defArgs s_slope_order) (defBody s_slope_order) (defScope s_slope_order) .none kV_slope_order dc_slope_order pm_slope_order an_slope_order cd_slope_order ct_slope_order), sl_slope_order⟩) (cc_slope_order : PySem.W.codeIn K cd_slope_order "slope_order" = true) (k_slope_order : PySem.W.keepIn K (.ref f_slope_order) = true)
    {f_rises : Addr} {od_rises an_rises : Option Addr} {sl_rises : Array (Option Value)} {oc_rises kV_rises dc_rises pm_rises cd_rises ct_rises : Value}
    (a_rises : PySem.W.nsIn K mainGlobals "rises" = some (some (.ref f_rises))) (l_rises : K.lookup f_rises = some ⟨oc_rises, od_rises, .func (PySem.W.fnOf "rises" "rises" (defArgs s_rises) (defBody s_rises) (defScope s_rises) .none kV_rises dc_rises pm_rises an_rises cd_rises ct_rises), sl_rises⟩) (cc_rises : PySem.W.codeIn K cd_rises "rises" = true) (k_rises : PySem.W.keepIn K (.ref f_rises) = true)
    {f_is_tuple_of : Addr} {od_is_tuple_of an_is_tuple_of : Option Addr} {sl_is_tuple_of : Array (Option Value)} {oc_is_tuple_of kV_is_tuple_of dc_is_tuple_of pm_is_tuple_of cd_is_tuple_of ct_is_tuple_of : Value}
    (a_is_tuple_of : PySem.W.nsIn K mainGlobals "is_tuple_of" = some (some (.ref f_is_tuple_of))) (l_is_tuple_of : K.lookup f_is_tuple_of = some ⟨oc_is_tuple_of, od_is_tuple_of, .func (PySem.W.fnOf "is_tuple_of" "is_tuple_of" (defArgs s_is_tuple_of) (defBody s_is_tuple_of) (defScope s_is_tuple_of) .none kV_is_tuple_of dc_is_tuple_of pm_is_tuple_of an_is_tuple_of cd_is_tuple_of ct_is_tuple_of), sl_is_tuple_of⟩) (cc_is_tuple_of : PySem.W.codeIn K cd_is_tuple_of "is_tuple_of" = true) (k_is_tuple_of : PySem.W.keepIn K (.ref f_is_tuple_of) = true)
    {f_is_whole : Addr} {od_is_whole an_is_whole : Option Addr} {sl_is_whole : Array (Option Value)} {oc_is_whole kV_is_whole dc_is_whole pm_is_whole cd_is_whole ct_is_whole : Value}
    (a_is_whole : PySem.W.nsIn K mainGlobals "is_whole" = some (some (.ref f_is_whole))) (l_is_whole : K.lookup f_is_whole = some ⟨oc_is_whole, od_is_whole, .func (PySem.W.fnOf "is_whole" "is_whole" (defArgs s_is_whole) (defBody s_is_whole) (defScope s_is_whole) .none kV_is_whole dc_is_whole pm_is_whole an_is_whole cd_is_whole ct_is_whole), sl_is_whole⟩) (cc_is_whole : PySem.W.codeIn K cd_is_whole "is_whole" = true) (k_is_whole : PySem.W.keepIn K (.ref f_is_whole) = true)
    {f_is_number : Addr} {od_is_number an_is_number : Option Addr} {sl_is_number : Array (Option Value)} {oc_is_number kV_is_number dc_is_number pm_is_number cd_is_number ct_is_number : Value}
    (a_is_number : PySem.W.nsIn K mainGlobals "is_number" = some (some (.ref f_is_number))) (l_is_number : K.lookup f_is_number = some ⟨oc_is_number, od_is_number, .func (PySem.W.fnOf "is_number" "is_number" (defArgs s_is_number) (defBody s_is_number) (defScope s_is_number) .none kV_is_number dc_is_number pm_is_number an_is_number cd_is_number ct_is_number), sl_is_number⟩) (cc_is_number : PySem.W.codeIn K cd_is_number "is_number" = true) (k_is_number : PySem.W.keepIn K (.ref f_is_number) = true)
    {f_is_pair_within : Addr} {od_is_pair_within an_is_pair_within : Option Addr} {sl_is_pair_within : Array (Option Value)} {oc_is_pair_within kV_is_pair_within dc_is_pair_within pm_is_pair_within cd_is_pair_within ct_is_pair_within : Value}
    (a_is_pair_within : PySem.W.nsIn K mainGlobals "is_pair_within" = some (some (.ref f_is_pair_within))) (l_is_pair_within : K.lookup f_is_pair_within = some ⟨oc_is_pair_within, od_is_pair_within, .func (PySem.W.fnOf "is_pair_within" "is_pair_within" (defArgs s_is_pair_within) (defBody s_is_pair_within) (defScope s_is_pair_within) .none kV_is_pair_within dc_is_pair_within pm_is_pair_within an_is_pair_within cd_is_pair_within ct_is_pair_within), sl_is_pair_within⟩) (cc_is_pair_within : PySem.W.codeIn K cd_is_pair_within "is_pair_within" = true) (k_is_pair_within : PySem.W.keepIn K (.ref f_is_pair_within) = true)
    {f_is_point : Addr} {od_is_point an_is_point : Option Addr} {sl_is_point : Array (Option Value)} {oc_is_point kV_is_point dc_is_point pm_is_point cd_is_point ct_is_point : Value}
    (a_is_point : PySem.W.nsIn K mainGlobals "is_point" = some (some (.ref f_is_point))) (l_is_point : K.lookup f_is_point = some ⟨oc_is_point, od_is_point, .func (PySem.W.fnOf "is_point" "is_point" (defArgs s_is_point) (defBody s_is_point) (defScope s_is_point) .none kV_is_point dc_is_point pm_is_point an_is_point cd_is_point ct_is_point), sl_is_point⟩) (cc_is_point : PySem.W.codeIn K cd_is_point "is_point" = true) (k_is_point : PySem.W.keepIn K (.ref f_is_point) = true)
    {f_is_round : Addr} {od_is_round an_is_round : Option Addr} {sl_is_round : Array (Option Value)} {oc_is_round kV_is_round dc_is_round pm_is_round cd_is_round ct_is_round : Value}
    (a_is_round : PySem.W.nsIn K mainGlobals "is_round" = some (some (.ref f_is_round))) (l_is_round : K.lookup f_is_round = some ⟨oc_is_round, od_is_round, .func (PySem.W.fnOf "is_round" "is_round" (defArgs s_is_round) (defBody s_is_round) (defScope s_is_round) .none kV_is_round dc_is_round pm_is_round an_is_round cd_is_round ct_is_round), sl_is_round⟩) (cc_is_round : PySem.W.codeIn K cd_is_round "is_round" = true) (k_is_round : PySem.W.keepIn K (.ref f_is_round) = true)
    {f_check_shape : Addr} {od_check_shape an_check_shape : Option Addr} {sl_check_shape : Array (Option Value)} {oc_check_shape kV_check_shape dc_check_shape pm_check_shape cd_check_shape ct_check_shape : Value}
    (a_check_shape : PySem.W.nsIn K mainGlobals "check_shape" = some (some (.ref f_check_shape))) (l_check_shape : K.lookup f_check_shape = some ⟨oc_check_shape, od_check_shape, .func (PySem.W.fnOf "check_shape" "check_shape" (defArgs s_check_shape) (defBody s_check_shape) (defScope s_check_shape) .none kV_check_shape dc_check_shape pm_check_shape an_check_shape cd_check_shape ct_check_shape), sl_check_shape⟩) (cc_check_shape : PySem.W.codeIn K cd_check_shape "check_shape" = true) (k_check_shape : PySem.W.keepIn K (.ref f_check_shape) = true)
    {f_check_both : Addr} {od_check_both an_check_both : Option Addr} {sl_check_both : Array (Option Value)} {oc_check_both kV_check_both dc_check_both pm_check_both cd_check_both ct_check_both : Value}
    (a_check_both : PySem.W.nsIn K mainGlobals "check_both" = some (some (.ref f_check_both))) (l_check_both : K.lookup f_check_both = some ⟨oc_check_both, od_check_both, .func (PySem.W.fnOf "check_both" "check_both" (defArgs s_check_both) (defBody s_check_both) (defScope s_check_both) .none kV_check_both dc_check_both pm_check_both an_check_both cd_check_both ct_check_both), sl_check_both⟩) (cc_check_both : PySem.W.codeIn K cd_check_both "check_both" = true) (k_check_both : PySem.W.keepIn K (.ref f_check_both) = true)
    {f_greatest_divisor : Addr} {od_greatest_divisor an_greatest_divisor : Option Addr} {sl_greatest_divisor : Array (Option Value)} {oc_greatest_divisor kV_greatest_divisor dc_greatest_divisor pm_greatest_divisor cd_greatest_divisor ct_greatest_divisor : Value}
    (a_greatest_divisor : PySem.W.nsIn K mainGlobals "greatest_divisor" = some (some (.ref f_greatest_divisor))) (l_greatest_divisor : K.lookup f_greatest_divisor = some ⟨oc_greatest_divisor, od_greatest_divisor, .func (PySem.W.fnOf "greatest_divisor" "greatest_divisor" (defArgs s_greatest_divisor) (defBody s_greatest_divisor) (defScope s_greatest_divisor) .none kV_greatest_divisor dc_greatest_divisor pm_greatest_divisor an_greatest_divisor cd_greatest_divisor ct_greatest_divisor), sl_greatest_divisor⟩) (cc_greatest_divisor : PySem.W.codeIn K cd_greatest_divisor "greatest_divisor" = true) (k_greatest_divisor : PySem.W.keepIn K (.ref f_greatest_divisor) = true)
    {f_bare_of : Addr} {od_bare_of an_bare_of : Option Addr} {sl_bare_of : Array (Option Value)} {oc_bare_of kV_bare_of dc_bare_of pm_bare_of cd_bare_of ct_bare_of : Value}
    (a_bare_of : PySem.W.nsIn K mainGlobals "bare_of" = some (some (.ref f_bare_of))) (l_bare_of : K.lookup f_bare_of = some ⟨oc_bare_of, od_bare_of, .func (PySem.W.fnOf "bare_of" "bare_of" (defArgs s_bare_of) (defBody s_bare_of) (defScope s_bare_of) .none kV_bare_of dc_bare_of pm_bare_of an_bare_of cd_bare_of ct_bare_of), sl_bare_of⟩) (cc_bare_of : PySem.W.codeIn K cd_bare_of "bare_of" = true) (k_bare_of : PySem.W.keepIn K (.ref f_bare_of) = true)
    {f_length_number : Addr} {od_length_number an_length_number : Option Addr} {sl_length_number : Array (Option Value)} {oc_length_number kV_length_number dc_length_number pm_length_number cd_length_number ct_length_number : Value}
    (a_length_number : PySem.W.nsIn K mainGlobals "length_number" = some (some (.ref f_length_number))) (l_length_number : K.lookup f_length_number = some ⟨oc_length_number, od_length_number, .func (PySem.W.fnOf "length_number" "length_number" (defArgs s_length_number) (defBody s_length_number) (defScope s_length_number) .none kV_length_number dc_length_number pm_length_number an_length_number cd_length_number ct_length_number), sl_length_number⟩) (cc_length_number : PySem.W.codeIn K cd_length_number "length_number" = true) (k_length_number : PySem.W.keepIn K (.ref f_length_number) = true)
    {f_side_lengths : Addr} {od_side_lengths an_side_lengths : Option Addr} {sl_side_lengths : Array (Option Value)} {oc_side_lengths kV_side_lengths dc_side_lengths pm_side_lengths cd_side_lengths ct_side_lengths : Value}
    (a_side_lengths : PySem.W.nsIn K mainGlobals "side_lengths" = some (some (.ref f_side_lengths))) (l_side_lengths : K.lookup f_side_lengths = some ⟨oc_side_lengths, od_side_lengths, .func (PySem.W.fnOf "side_lengths" "side_lengths" (defArgs s_side_lengths) (defBody s_side_lengths) (defScope s_side_lengths) .none kV_side_lengths dc_side_lengths pm_side_lengths an_side_lengths cd_side_lengths ct_side_lengths), sl_side_lengths⟩) (cc_side_lengths : PySem.W.codeIn K cd_side_lengths "side_lengths" = true) (k_side_lengths : PySem.W.keepIn K (.ref f_side_lengths) = true)
    {f_first_short : Addr} {od_first_short an_first_short : Option Addr} {sl_first_short : Array (Option Value)} {oc_first_short kV_first_short dc_first_short pm_first_short cd_first_short ct_first_short : Value}
    (a_first_short : PySem.W.nsIn K mainGlobals "first_short" = some (some (.ref f_first_short))) (l_first_short : K.lookup f_first_short = some ⟨oc_first_short, od_first_short, .func (PySem.W.fnOf "first_short" "first_short" (defArgs s_first_short) (defBody s_first_short) (defScope s_first_short) .none kV_first_short dc_first_short pm_first_short an_first_short cd_first_short ct_first_short), sl_first_short⟩) (cc_first_short : PySem.W.codeIn K cd_first_short "first_short" = true) (k_first_short : PySem.W.keepIn K (.ref f_first_short) = true)
    {f_point_moved : Addr} {od_point_moved an_point_moved : Option Addr} {sl_point_moved : Array (Option Value)} {oc_point_moved kV_point_moved dc_point_moved pm_point_moved cd_point_moved ct_point_moved : Value}
    (a_point_moved : PySem.W.nsIn K mainGlobals "point_moved" = some (some (.ref f_point_moved))) (l_point_moved : K.lookup f_point_moved = some ⟨oc_point_moved, od_point_moved, .func (PySem.W.fnOf "point_moved" "point_moved" (defArgs s_point_moved) (defBody s_point_moved) (defScope s_point_moved) .none kV_point_moved dc_point_moved pm_point_moved an_point_moved cd_point_moved ct_point_moved), sl_point_moved⟩) (cc_point_moved : PySem.W.codeIn K cd_point_moved "point_moved" = true) (k_point_moved : PySem.W.keepIn K (.ref f_point_moved) = true)
    {f_corners_by : Addr} {od_corners_by an_corners_by : Option Addr} {sl_corners_by : Array (Option Value)} {oc_corners_by kV_corners_by dc_corners_by pm_corners_by cd_corners_by ct_corners_by : Value}
    (a_corners_by : PySem.W.nsIn K mainGlobals "corners_by" = some (some (.ref f_corners_by))) (l_corners_by : K.lookup f_corners_by = some ⟨oc_corners_by, od_corners_by, .func (PySem.W.fnOf "corners_by" "corners_by" (defArgs s_corners_by) (defBody s_corners_by) (defScope s_corners_by) .none kV_corners_by dc_corners_by pm_corners_by an_corners_by cd_corners_by ct_corners_by), sl_corners_by⟩) (cc_corners_by : PySem.W.codeIn K cd_corners_by "corners_by" = true) (k_corners_by : PySem.W.keepIn K (.ref f_corners_by) = true)
    {f_plain_rest : Addr} {od_plain_rest an_plain_rest : Option Addr} {sl_plain_rest : Array (Option Value)} {oc_plain_rest kV_plain_rest dc_plain_rest pm_plain_rest cd_plain_rest ct_plain_rest : Value}
    (a_plain_rest : PySem.W.nsIn K mainGlobals "plain_rest" = some (some (.ref f_plain_rest))) (l_plain_rest : K.lookup f_plain_rest = some ⟨oc_plain_rest, od_plain_rest, .func (PySem.W.fnOf "plain_rest" "plain_rest" (defArgs s_plain_rest) (defBody s_plain_rest) (defScope s_plain_rest) .none kV_plain_rest dc_plain_rest pm_plain_rest an_plain_rest cd_plain_rest ct_plain_rest), sl_plain_rest⟩) (cc_plain_rest : PySem.W.codeIn K cd_plain_rest "plain_rest" = true) (k_plain_rest : PySem.W.keepIn K (.ref f_plain_rest) = true)
    {f_rest_paper : Addr} {od_rest_paper an_rest_paper : Option Addr} {sl_rest_paper : Array (Option Value)} {oc_rest_paper kV_rest_paper dc_rest_paper pm_rest_paper cd_rest_paper ct_rest_paper : Value}
    (a_rest_paper : PySem.W.nsIn K mainGlobals "rest_paper" = some (some (.ref f_rest_paper))) (l_rest_paper : K.lookup f_rest_paper = some ⟨oc_rest_paper, od_rest_paper, .func (PySem.W.fnOf "rest_paper" "rest_paper" (defArgs s_rest_paper) (defBody s_rest_paper) (defScope s_rest_paper) .none kV_rest_paper dc_rest_paper pm_rest_paper an_rest_paper cd_rest_paper ct_rest_paper), sl_rest_paper⟩) (cc_rest_paper : PySem.W.codeIn K cd_rest_paper "rest_paper" = true) (k_rest_paper : PySem.W.keepIn K (.ref f_rest_paper) = true)
    {f_Lsides : Addr} {od_Lsides an_Lsides : Option Addr} {sl_Lsides : Array (Option Value)} {oc_Lsides kV_Lsides dc_Lsides pm_Lsides cd_Lsides ct_Lsides : Value}
    (a_Lsides : PySem.W.nsIn K mainGlobals "_law_sides" = some (some (.ref f_Lsides))) (l_Lsides : K.lookup f_Lsides = some ⟨oc_Lsides, od_Lsides, .func (PySem.W.fnOf "_law_sides" "_law_sides" (defArgs s_Lsides) (defBody s_Lsides) (defScope s_Lsides) .none kV_Lsides dc_Lsides pm_Lsides an_Lsides cd_Lsides ct_Lsides), sl_Lsides⟩) (cc_Lsides : PySem.W.codeIn K cd_Lsides "_law_sides" = true) (k_Lsides : PySem.W.keepIn K (.ref f_Lsides) = true)
    {f_Ldivisor : Addr} {od_Ldivisor an_Ldivisor : Option Addr} {sl_Ldivisor : Array (Option Value)} {oc_Ldivisor kV_Ldivisor dc_Ldivisor pm_Ldivisor cd_Ldivisor ct_Ldivisor : Value}
    (a_Ldivisor : PySem.W.nsIn K mainGlobals "_law_divisor" = some (some (.ref f_Ldivisor))) (l_Ldivisor : K.lookup f_Ldivisor = some ⟨oc_Ldivisor, od_Ldivisor, .func (PySem.W.fnOf "_law_divisor" "_law_divisor" (defArgs s_Ldivisor) (defBody s_Ldivisor) (defScope s_Ldivisor) .none kV_Ldivisor dc_Ldivisor pm_Ldivisor an_Ldivisor cd_Ldivisor ct_Ldivisor), sl_Ldivisor⟩) (cc_Ldivisor : PySem.W.codeIn K cd_Ldivisor "_law_divisor" = true) (k_Ldivisor : PySem.W.keepIn K (.ref f_Ldivisor) = true)
    {f_Lbare : Addr} {od_Lbare an_Lbare : Option Addr} {sl_Lbare : Array (Option Value)} {oc_Lbare kV_Lbare dc_Lbare pm_Lbare cd_Lbare ct_Lbare : Value}
    (a_Lbare : PySem.W.nsIn K mainGlobals "_law_bare" = some (some (.ref f_Lbare))) (l_Lbare : K.lookup f_Lbare = some ⟨oc_Lbare, od_Lbare, .func (PySem.W.fnOf "_law_bare" "_law_bare" (defArgs s_Lbare) (defBody s_Lbare) (defScope s_Lbare) .none kV_Lbare dc_Lbare pm_Lbare an_Lbare cd_Lbare ct_Lbare), sl_Lbare⟩) (cc_Lbare : PySem.W.codeIn K cd_Lbare "_law_bare" = true) (k_Lbare : PySem.W.keepIn K (.ref f_Lbare) = true)
    {f_Llongs : Addr} {od_Llongs an_Llongs : Option Addr} {sl_Llongs : Array (Option Value)} {oc_Llongs kV_Llongs dc_Llongs pm_Llongs cd_Llongs ct_Llongs : Value}
    (a_Llongs : PySem.W.nsIn K mainGlobals "_law_longs" = some (some (.ref f_Llongs))) (l_Llongs : K.lookup f_Llongs = some ⟨oc_Llongs, od_Llongs, .func (PySem.W.fnOf "_law_longs" "_law_longs" (defArgs s_Llongs) (defBody s_Llongs) (defScope s_Llongs) .none kV_Llongs dc_Llongs pm_Llongs an_Llongs cd_Llongs ct_Llongs), sl_Llongs⟩) (cc_Llongs : PySem.W.codeIn K cd_Llongs "_law_longs" = true) (k_Llongs : PySem.W.keepIn K (.ref f_Llongs) = true)
    {f_Lshort : Addr} {od_Lshort an_Lshort : Option Addr} {sl_Lshort : Array (Option Value)} {oc_Lshort kV_Lshort dc_Lshort pm_Lshort cd_Lshort ct_Lshort : Value}
    (a_Lshort : PySem.W.nsIn K mainGlobals "_law_short" = some (some (.ref f_Lshort))) (l_Lshort : K.lookup f_Lshort = some ⟨oc_Lshort, od_Lshort, .func (PySem.W.fnOf "_law_short" "_law_short" (defArgs s_Lshort) (defBody s_Lshort) (defScope s_Lshort) .none kV_Lshort dc_Lshort pm_Lshort an_Lshort cd_Lshort ct_Lshort), sl_Lshort⟩) (cc_Lshort : PySem.W.codeIn K cd_Lshort "_law_short" = true) (k_Lshort : PySem.W.keepIn K (.ref f_Lshort) = true)
    {f_Lshorts : Addr} {od_Lshorts an_Lshorts : Option Addr} {sl_Lshorts : Array (Option Value)} {oc_Lshorts kV_Lshorts dc_Lshorts pm_Lshorts cd_Lshorts ct_Lshorts : Value}
    (a_Lshorts : PySem.W.nsIn K mainGlobals "_law_shorts" = some (some (.ref f_Lshorts))) (l_Lshorts : K.lookup f_Lshorts = some ⟨oc_Lshorts, od_Lshorts, .func (PySem.W.fnOf "_law_shorts" "_law_shorts" (defArgs s_Lshorts) (defBody s_Lshorts) (defScope s_Lshorts) .none kV_Lshorts dc_Lshorts pm_Lshorts an_Lshorts cd_Lshorts ct_Lshorts), sl_Lshorts⟩) (cc_Lshorts : PySem.W.codeIn K cd_Lshorts "_law_shorts" = true) (k_Lshorts : PySem.W.keepIn K (.ref f_Lshorts) = true)
    {f_Lbent : Addr} {od_Lbent an_Lbent : Option Addr} {sl_Lbent : Array (Option Value)} {oc_Lbent kV_Lbent dc_Lbent pm_Lbent cd_Lbent ct_Lbent : Value}
    (a_Lbent : PySem.W.nsIn K mainGlobals "_law_bent" = some (some (.ref f_Lbent))) (l_Lbent : K.lookup f_Lbent = some ⟨oc_Lbent, od_Lbent, .func (PySem.W.fnOf "_law_bent" "_law_bent" (defArgs s_Lbent) (defBody s_Lbent) (defScope s_Lbent) .none kV_Lbent dc_Lbent pm_Lbent an_Lbent cd_Lbent ct_Lbent), sl_Lbent⟩) (cc_Lbent : PySem.W.codeIn K cd_Lbent "_law_bent" = true) (k_Lbent : PySem.W.keepIn K (.ref f_Lbent) = true)
    {f_Lis_whole : Addr} {od_Lis_whole an_Lis_whole : Option Addr} {sl_Lis_whole : Array (Option Value)} {oc_Lis_whole kV_Lis_whole dc_Lis_whole pm_Lis_whole cd_Lis_whole ct_Lis_whole : Value}
    (a_Lis_whole : PySem.W.nsIn K mainGlobals "_law_is_whole" = some (some (.ref f_Lis_whole))) (l_Lis_whole : K.lookup f_Lis_whole = some ⟨oc_Lis_whole, od_Lis_whole, .func (PySem.W.fnOf "_law_is_whole" "_law_is_whole" (defArgs s_Lis_whole) (defBody s_Lis_whole) (defScope s_Lis_whole) .none kV_Lis_whole dc_Lis_whole pm_Lis_whole an_Lis_whole cd_Lis_whole ct_Lis_whole), sl_Lis_whole⟩) (cc_Lis_whole : PySem.W.codeIn K cd_Lis_whole "_law_is_whole" = true) (k_Lis_whole : PySem.W.keepIn K (.ref f_Lis_whole) = true)
    {f_Lis_pair : Addr} {od_Lis_pair an_Lis_pair : Option Addr} {sl_Lis_pair : Array (Option Value)} {oc_Lis_pair kV_Lis_pair dc_Lis_pair pm_Lis_pair cd_Lis_pair ct_Lis_pair : Value}
    (a_Lis_pair : PySem.W.nsIn K mainGlobals "_law_is_pair" = some (some (.ref f_Lis_pair))) (l_Lis_pair : K.lookup f_Lis_pair = some ⟨oc_Lis_pair, od_Lis_pair, .func (PySem.W.fnOf "_law_is_pair" "_law_is_pair" (defArgs s_Lis_pair) (defBody s_Lis_pair) (defScope s_Lis_pair) .none kV_Lis_pair dc_Lis_pair pm_Lis_pair an_Lis_pair cd_Lis_pair ct_Lis_pair), sl_Lis_pair⟩) (cc_Lis_pair : PySem.W.codeIn K cd_Lis_pair "_law_is_pair" = true) (k_Lis_pair : PySem.W.keepIn K (.ref f_Lis_pair) = true)
    {f_Lis_shape : Addr} {od_Lis_shape an_Lis_shape : Option Addr} {sl_Lis_shape : Array (Option Value)} {oc_Lis_shape kV_Lis_shape dc_Lis_shape pm_Lis_shape cd_Lis_shape ct_Lis_shape : Value}
    (a_Lis_shape : PySem.W.nsIn K mainGlobals "_law_is_shape" = some (some (.ref f_Lis_shape))) (l_Lis_shape : K.lookup f_Lis_shape = some ⟨oc_Lis_shape, od_Lis_shape, .func (PySem.W.fnOf "_law_is_shape" "_law_is_shape" (defArgs s_Lis_shape) (defBody s_Lis_shape) (defScope s_Lis_shape) .none kV_Lis_shape dc_Lis_shape pm_Lis_shape an_Lis_shape cd_Lis_shape ct_Lis_shape), sl_Lis_shape⟩) (cc_Lis_shape : PySem.W.codeIn K cd_Lis_shape "_law_is_shape" = true) (k_Lis_shape : PySem.W.keepIn K (.ref f_Lis_shape) = true)
    {f_Lholds : Addr} {od_Lholds an_Lholds : Option Addr} {sl_Lholds : Array (Option Value)} {oc_Lholds kV_Lholds dc_Lholds pm_Lholds cd_Lholds ct_Lholds : Value}
    (a_Lholds : PySem.W.nsIn K mainGlobals "_law_holds" = some (some (.ref f_Lholds))) (l_Lholds : K.lookup f_Lholds = some ⟨oc_Lholds, od_Lholds, .func (PySem.W.fnOf "_law_holds" "_law_holds" (defArgs s_Lholds) (defBody s_Lholds) (defScope s_Lholds) .none kV_Lholds dc_Lholds pm_Lholds an_Lholds cd_Lholds ct_Lholds), sl_Lholds⟩) (cc_Lholds : PySem.W.codeIn K cd_Lholds "_law_holds" = true) (k_Lholds : PySem.W.keepIn K (.ref f_Lholds) = true)
    {f_is_one_of : Addr} {od_is_one_of an_is_one_of : Option Addr} {sl_is_one_of : Array (Option Value)} {oc_is_one_of kV_is_one_of dc_is_one_of pm_is_one_of cd_is_one_of ct_is_one_of : Value}
    (a_is_one_of : PySem.W.nsIn K mainGlobals "is_one_of" = some (some (.ref f_is_one_of))) (l_is_one_of : K.lookup f_is_one_of = some ⟨oc_is_one_of, od_is_one_of, .func (PySem.W.fnOf "is_one_of" "is_one_of" (defArgs s_is_one_of) (defBody s_is_one_of) (defScope s_is_one_of) .none kV_is_one_of dc_is_one_of pm_is_one_of an_is_one_of cd_is_one_of ct_is_one_of), sl_is_one_of⟩) (cc_is_one_of : PySem.W.codeIn K cd_is_one_of "is_one_of" = true) (k_is_one_of : PySem.W.keepIn K (.ref f_is_one_of) = true)
    {f_is_any_round : Addr} {od_is_any_round an_is_any_round : Option Addr} {sl_is_any_round : Array (Option Value)} {oc_is_any_round kV_is_any_round dc_is_any_round pm_is_any_round cd_is_any_round ct_is_any_round : Value}
    (a_is_any_round : PySem.W.nsIn K mainGlobals "is_any_round" = some (some (.ref f_is_any_round))) (l_is_any_round : K.lookup f_is_any_round = some ⟨oc_is_any_round, od_is_any_round, .func (PySem.W.fnOf "is_any_round" "is_any_round" (defArgs s_is_any_round) (defBody s_is_any_round) (defScope s_is_any_round) .none kV_is_any_round dc_is_any_round pm_is_any_round an_is_any_round cd_is_any_round ct_is_any_round), sl_is_any_round⟩) (cc_is_any_round : PySem.W.codeIn K cd_is_any_round "is_any_round" = true) (k_is_any_round : PySem.W.keepIn K (.ref f_is_any_round) = true)
    {f_is_direction : Addr} {od_is_direction an_is_direction : Option Addr} {sl_is_direction : Array (Option Value)} {oc_is_direction kV_is_direction dc_is_direction pm_is_direction cd_is_direction ct_is_direction : Value}
    (a_is_direction : PySem.W.nsIn K mainGlobals "is_direction" = some (some (.ref f_is_direction))) (l_is_direction : K.lookup f_is_direction = some ⟨oc_is_direction, od_is_direction, .func (PySem.W.fnOf "is_direction" "is_direction" (defArgs s_is_direction) (defBody s_is_direction) (defScope s_is_direction) .none kV_is_direction dc_is_direction pm_is_direction an_is_direction cd_is_direction ct_is_direction), sl_is_direction⟩) (cc_is_direction : PySem.W.codeIn K cd_is_direction "is_direction" = true) (k_is_direction : PySem.W.keepIn K (.ref f_is_direction) = true)
    {f_merged_by : Addr} {od_merged_by an_merged_by : Option Addr} {sl_merged_by : Array (Option Value)} {oc_merged_by kV_merged_by dc_merged_by pm_merged_by cd_merged_by ct_merged_by : Value}
    (a_merged_by : PySem.W.nsIn K mainGlobals "merged_by" = some (some (.ref f_merged_by))) (l_merged_by : K.lookup f_merged_by = some ⟨oc_merged_by, od_merged_by, .func (PySem.W.fnOf "merged_by" "merged_by" (defArgs s_merged_by) (defBody s_merged_by) (defScope s_merged_by) .none kV_merged_by dc_merged_by pm_merged_by an_merged_by cd_merged_by ct_merged_by), sl_merged_by⟩) (cc_merged_by : PySem.W.codeIn K cd_merged_by "merged_by" = true) (k_merged_by : PySem.W.keepIn K (.ref f_merged_by) = true)
    {f_sorted_by : Addr} {od_sorted_by an_sorted_by : Option Addr} {sl_sorted_by : Array (Option Value)} {oc_sorted_by kV_sorted_by dc_sorted_by pm_sorted_by cd_sorted_by ct_sorted_by : Value}
    (a_sorted_by : PySem.W.nsIn K mainGlobals "sorted_by" = some (some (.ref f_sorted_by))) (l_sorted_by : K.lookup f_sorted_by = some ⟨oc_sorted_by, od_sorted_by, .func (PySem.W.fnOf "sorted_by" "sorted_by" (defArgs s_sorted_by) (defBody s_sorted_by) (defScope s_sorted_by) .none kV_sorted_by dc_sorted_by pm_sorted_by an_sorted_by cd_sorted_by ct_sorted_by), sl_sorted_by⟩) (cc_sorted_by : PySem.W.codeIn K cd_sorted_by "sorted_by" = true) (k_sorted_by : PySem.W.keepIn K (.ref f_sorted_by) = true)
    {f_by_slopes : Addr} {od_by_slopes an_by_slopes : Option Addr} {sl_by_slopes : Array (Option Value)} {oc_by_slopes kV_by_slopes dc_by_slopes pm_by_slopes cd_by_slopes ct_by_slopes : Value}
    (a_by_slopes : PySem.W.nsIn K mainGlobals "by_slopes" = some (some (.ref f_by_slopes))) (l_by_slopes : K.lookup f_by_slopes = some ⟨oc_by_slopes, od_by_slopes, .func (PySem.W.fnOf "by_slopes" "by_slopes" (defArgs s_by_slopes) (defBody s_by_slopes) (defScope s_by_slopes) .none kV_by_slopes dc_by_slopes pm_by_slopes an_by_slopes cd_by_slopes ct_by_slopes), sl_by_slopes⟩) (cc_by_slopes : PySem.W.codeIn K cd_by_slopes "by_slopes" = true) (k_by_slopes : PySem.W.keepIn K (.ref f_by_slopes) = true)
    {f_joined_sides : Addr} {od_joined_sides an_joined_sides : Option Addr} {sl_joined_sides : Array (Option Value)} {oc_joined_sides kV_joined_sides dc_joined_sides pm_joined_sides cd_joined_sides ct_joined_sides : Value}
    (a_joined_sides : PySem.W.nsIn K mainGlobals "joined_sides" = some (some (.ref f_joined_sides))) (l_joined_sides : K.lookup f_joined_sides = some ⟨oc_joined_sides, od_joined_sides, .func (PySem.W.fnOf "joined_sides" "joined_sides" (defArgs s_joined_sides) (defBody s_joined_sides) (defScope s_joined_sides) .none kV_joined_sides dc_joined_sides pm_joined_sides an_joined_sides cd_joined_sides ct_joined_sides), sl_joined_sides⟩) (cc_joined_sides : PySem.W.codeIn K cd_joined_sides "joined_sides" = true) (k_joined_sides : PySem.W.keepIn K (.ref f_joined_sides) = true)
    {f_plain_sum : Addr} {od_plain_sum an_plain_sum : Option Addr} {sl_plain_sum : Array (Option Value)} {oc_plain_sum kV_plain_sum dc_plain_sum pm_plain_sum cd_plain_sum ct_plain_sum : Value}
    (a_plain_sum : PySem.W.nsIn K mainGlobals "plain_sum" = some (some (.ref f_plain_sum))) (l_plain_sum : K.lookup f_plain_sum = some ⟨oc_plain_sum, od_plain_sum, .func (PySem.W.fnOf "plain_sum" "plain_sum" (defArgs s_plain_sum) (defBody s_plain_sum) (defScope s_plain_sum) .none kV_plain_sum dc_plain_sum pm_plain_sum an_plain_sum cd_plain_sum ct_plain_sum), sl_plain_sum⟩) (cc_plain_sum : PySem.W.codeIn K cd_plain_sum "plain_sum" = true) (k_plain_sum : PySem.W.keepIn K (.ref f_plain_sum) = true)
    {f_accepts_rest : Addr} {od_accepts_rest an_accepts_rest : Option Addr} {sl_accepts_rest : Array (Option Value)} {oc_accepts_rest kV_accepts_rest dc_accepts_rest pm_accepts_rest cd_accepts_rest ct_accepts_rest : Value}
    (a_accepts_rest : PySem.W.nsIn K mainGlobals "accepts_rest" = some (some (.ref f_accepts_rest))) (l_accepts_rest : K.lookup f_accepts_rest = some ⟨oc_accepts_rest, od_accepts_rest, .func (PySem.W.fnOf "accepts_rest" "accepts_rest" (defArgs s_accepts_rest) (defBody s_accepts_rest) (defScope s_accepts_rest) .none kV_accepts_rest dc_accepts_rest pm_accepts_rest an_accepts_rest cd_accepts_rest ct_accepts_rest), sl_accepts_rest⟩) (cc_accepts_rest : PySem.W.codeIn K cd_accepts_rest "accepts_rest" = true) (k_accepts_rest : PySem.W.keepIn K (.ref f_accepts_rest) = true)
    {f_law : Addr} {od_law an_law : Option Addr} {sl_law : Array (Option Value)} {oc_law kV_law dc_law pm_law cd_law ct_law : Value}
    (a_law : PySem.W.nsIn K mainGlobals "law" = some (some (.ref f_law))) (l_law : K.lookup f_law = some ⟨oc_law, od_law, .func (PySem.W.fnOf "law" "law" (defArgs s_law) (defBody s_law) (defScope s_law) .none kV_law dc_law pm_law an_law cd_law ct_law), sl_law⟩) (cc_law : PySem.W.codeIn K cd_law "law" = true) (k_law : PySem.W.keepIn K (.ref f_law) = true)
    (y_len : PySem.W.nsIn K mainGlobals "len" = some none)
    (y_max : PySem.W.nsIn K mainGlobals "max" = some none)
    (y_int : PySem.W.nsIn K mainGlobals "int" = some none)
    (y_tuple : PySem.W.nsIn K mainGlobals "tuple" = some none)
    (y_range : PySem.W.nsIn K mainGlobals "range" = some none)
    (y_zip : PySem.W.nsIn K mainGlobals "zip" = some none)
    (y_all : PySem.W.nsIn K mainGlobals "all" = some none)
    (y_isinstance : PySem.W.nsIn K mainGlobals "isinstance" = some none)
    (y_bool : PySem.W.nsIn K mainGlobals "bool" = some none)
    (y_any : PySem.W.nsIn K mainGlobals "any" = some none)
    (y_abs : PySem.W.nsIn K mainGlobals "abs" = some none)
    (y_dict : PySem.W.nsIn K mainGlobals "dict" = some none)
    (y_list : PySem.W.nsIn K mainGlobals "list" = some none)
    (y_str : PySem.W.nsIn K mainGlobals "str" = some none)
    (y_min : PySem.W.nsIn K mainGlobals "min" = some none)
    (y_repr : PySem.W.nsIn K mainGlobals "repr" = some none)
    {tk_MOST_POINT : Tok}
    {tk_MOST_CORNERS : Tok}
    (y_MOST_POINT : PySem.W.nsIn K mainGlobals "MOST_POINT" = some (some (.int 1000000000000000000000000000000000000000000000000000000000000 tk_MOST_POINT)))
    (y_MOST_CORNERS : PySem.W.nsIn K mainGlobals "MOST_CORNERS" = some (some (.int 60 tk_MOST_CORNERS)))
    : ∃ fd : FuncData, (∀ (s : Shared) (v : Value), BindsTo s fd ⟨[v], []⟩ [("_law_script", v)]) ∧ ∀ base : Heap, K.In base → base.Ns mainGlobals mg → FnG l.prog w K mg base (L2.CX l.prog w) 9 fa fd ["_law_script"] (toSpP K S_law) := by
  have e := hfa.symm.trans (PySem.W.mg_of X G a_law)
  cases e
  have F_Lpool := fun_mk (st := s_Lpool) l_Lpool cc_Lpool k_Lpool
  have b_Lpool := F_Lpool.binds (ps := ["_law_script", "_law_k"]) fun _ _ _ _ _ _ us hl => match us, hl with | [_, _], _ => rfl
  have m_Lpool := PySem.W.mg_of X G a_Lpool
  have F_Ltake := fun_mk (st := s_Ltake) l_Ltake cc_Ltake k_Ltake
  have b_Ltake := F_Ltake.binds (ps := ["_law_source", "_law_top"]) fun _ _ _ _ _ _ us hl => match us, hl with | [_, _], _ => rfl
  have m_Ltake := PySem.W.mg_of X G a_Ltake
  have F_Lone := fun_mk (st := s_Lone) l_Lone cc_Lone k_Lone
  have b_Lone := F_Lone.binds (ps := ["_law_source", "_law_things"]) fun _ _ _ _ _ _ us hl => match us, hl with | [_, _], _ => rfl
  have m_Lone := PySem.W.mg_of X G a_Lone
  have F_Ladd := fun_mk (st := s_Ladd) l_Ladd cc_Ladd k_Ladd
  have b_Ladd := F_Ladd.binds (ps := ["_law_one_here", "_law_other"]) fun _ _ _ _ _ _ us hl => match us, hl with | [_, _], _ => rfl
  have m_Ladd := PySem.W.mg_of X G a_Ladd
  have F_Lmoved := fun_mk (st := s_Lmoved) l_Lmoved cc_Lmoved k_Lmoved
  have b_Lmoved := F_Lmoved.binds (ps := ["_law_shape", "_law_t"]) fun _ _ _ _ _ _ us hl => match us, hl with | [_, _], _ => rfl
  have m_Lmoved := PySem.W.mg_of X G a_Lmoved
  have F_Llowest := fun_mk (st := s_Llowest) l_Llowest cc_Llowest k_Llowest
  have b_Llowest := F_Llowest.binds (ps := ["_law_points_here"]) fun _ _ _ _ _ _ us hl => match us, hl with | [_], _ => rfl
  have m_Llowest := PySem.W.mg_of X G a_Llowest
  have F_Lcross := fun_mk (st := s_Lcross) l_Lcross cc_Lcross k_Lcross
  have b_Lcross := F_Lcross.binds (ps := ["_law_one_here", "_law_other"]) fun _ _ _ _ _ _ us hl => match us, hl with | [_, _], _ => rfl
  have m_Lcross := PySem.W.mg_of X G a_Lcross
  have F_Lto := fun_mk (st := s_Lto) l_Lto cc_Lto k_Lto
  have b_Lto := F_Lto.binds (ps := ["_law_one_here", "_law_other"]) fun _ _ _ _ _ _ us hl => match us, hl with | [_, _], _ => rfl
  have m_Lto := PySem.W.mg_of X G a_Lto
  have F_Ldot := fun_mk (st := s_Ldot) l_Ldot cc_Ldot k_Ldot
  have b_Ldot := F_Ldot.binds (ps := ["_law_one_here", "_law_other"]) fun _ _ _ _ _ _ us hl => match us, hl with | [_, _], _ => rfl
  have m_Ldot := PySem.W.mg_of X G a_Ldot
  have F_Lsize := fun_mk (st := s_Lsize) l_Lsize cc_Lsize k_Lsize
  have b_Lsize := F_Lsize.binds (ps := ["_law_one_here", "_law_other"]) fun _ _ _ _ _ _ us hl => match us, hl with | [_, _], _ => rfl
  have m_Lsize := PySem.W.mg_of X G a_Lsize
  have F_Lhull := fun_mk (st := s_Lhull) l_Lhull cc_Lhull k_Lhull
  have b_Lhull := F_Lhull.binds (ps := ["_law_points_here"]) fun _ _ _ _ _ _ us hl => match us, hl with | [_], _ => rfl
  have m_Lhull := PySem.W.mg_of X G a_Lhull
  have F_Lpoint := fun_mk (st := s_Lpoint) l_Lpoint cc_Lpoint k_Lpoint
  have b_Lpoint := F_Lpoint.binds (ps := ["_law_source", "_law_size_here"]) fun _ _ _ _ _ _ us hl => match us, hl with | [_, _], _ => rfl
  have m_Lpoint := PySem.W.mg_of X G a_Lpoint
  have F_Lpoints := fun_mk (st := s_Lpoints) l_Lpoints cc_Lpoints k_Lpoints
  have b_Lpoints := F_Lpoints.binds (ps := ["_law_source", "_law_many", "_law_size_here"]) fun _ _ _ _ _ _ us hl => match us, hl with | [_, _, _], _ => rfl
  have m_Lpoints := PySem.W.mg_of X G a_Lpoints
  have F_Lround := fun_mk (st := s_Lround) l_Lround cc_Lround k_Lround
  have b_Lround := F_Lround.binds (ps := ["_law_source", "_law_size_here"]) fun _ _ _ _ _ _ us hl => match us, hl with | [_, _], _ => rfl
  have m_Lround := PySem.W.mg_of X G a_Lround
  have F_Lsum_due := fun_mk (st := s_Lsum_due) l_Lsum_due cc_Lsum_due k_Lsum_due
  have b_Lsum_due := F_Lsum_due.binds (ps := ["_law_shape", "_law_other"]) fun _ _ _ _ _ _ us hl => match us, hl with | [_, _], _ => rfl
  have m_Lsum_due := PySem.W.mg_of X G a_Lsum_due
  have F_vector_between := fun_mk (st := s_vector_between) l_vector_between cc_vector_between k_vector_between
  have b_vector_between := F_vector_between.binds (ps := ["one", "other"]) fun _ _ _ _ _ _ us hl => match us, hl with | [_, _], _ => rfl
  have m_vector_between := PySem.W.mg_of X G a_vector_between
  have F_plain_sides := fun_mk (st := s_plain_sides) l_plain_sides cc_plain_sides k_plain_sides
  have b_plain_sides := F_plain_sides.binds (ps := ["corners"]) fun _ _ _ _ _ _ us hl => match us, hl with | [_], _ => rfl
  have m_plain_sides := PySem.W.mg_of X G a_plain_sides
  have F_is_upper := fun_mk (st := s_is_upper) l_is_upper cc_is_upper k_is_upper
  have b_is_upper := F_is_upper.binds (ps := ["vector"]) fun _ _ _ _ _ _ us hl => match us, hl with | [_], _ => rfl
  have m_is_upper := PySem.W.mg_of X G a_is_upper
  have F_sign_of := fun_mk (st := s_sign_of) l_sign_of cc_sign_of k_sign_of
  have b_sign_of := F_sign_of.binds (ps := ["number"]) fun _ _ _ _ _ _ us hl => match us, hl with | [_], _ => rfl
  have m_sign_of := PySem.W.mg_of X G a_sign_of
  have F_cross_of := fun_mk (st := s_cross_of) l_cross_of cc_cross_of k_cross_of
  have b_cross_of := F_cross_of.binds (ps := ["one", "other"]) fun _ _ _ _ _ _ us hl => match us, hl with | [_, _], _ => rfl
  have m_cross_of := PySem.W.mg_of X G a_cross_of
  have F_slope_order := fun_mk (st := s_slope_order) l_slope_order cc_slope_order k_slope_order
  have b_slope_order := F_slope_order.binds (ps := ["one", "other"]) fun _ _ _ _ _ _ us hl => match us, hl with | [_, _], _ => rfl
  have m_slope_order := PySem.W.mg_of X G a_slope_order
  have F_rises := fun_mk (st := s_rises) l_rises cc_rises k_rises
  have b_rises := F_rises.binds (ps := ["vectors"]) fun _ _ _ _ _ _ us hl => match us, hl with | [_], _ => rfl
  have m_rises := PySem.W.mg_of X G a_rises
  have F_is_tuple_of := fun_mk (st := s_is_tuple_of) l_is_tuple_of cc_is_tuple_of k_is_tuple_of
  have b_is_tuple_of := F_is_tuple_of.binds (ps := ["value", "many"]) fun _ _ _ _ _ _ us hl => match us, hl with | [_, _], _ => rfl
  have m_is_tuple_of := PySem.W.mg_of X G a_is_tuple_of
  have F_is_whole := fun_mk (st := s_is_whole) l_is_whole cc_is_whole k_is_whole
  have b_is_whole := F_is_whole.binds (ps := ["value"]) fun _ _ _ _ _ _ us hl => match us, hl with | [_], _ => rfl
  have m_is_whole := PySem.W.mg_of X G a_is_whole
  have F_is_number := fun_mk (st := s_is_number) l_is_number cc_is_number k_is_number
  have b_is_number := F_is_number.binds (ps := ["value", "low", "high"]) fun _ _ _ _ _ _ us hl => match us, hl with | [_, _, _], _ => rfl
  have m_is_number := PySem.W.mg_of X G a_is_number
  have F_is_pair_within := fun_mk (st := s_is_pair_within) l_is_pair_within cc_is_pair_within k_is_pair_within
  have b_is_pair_within := F_is_pair_within.binds (ps := ["value", "most"]) fun _ _ _ _ _ _ us hl => match us, hl with | [_, _], _ => rfl
  have m_is_pair_within := PySem.W.mg_of X G a_is_pair_within
  have F_is_point := fun_mk (st := s_is_point) l_is_point cc_is_point k_is_point
  have b_is_point := F_is_point.binds (ps := ["value"]) fun _ _ _ _ _ _ us hl => match us, hl with | [_], _ => rfl
  have m_is_point := PySem.W.mg_of X G a_is_point
  have F_is_round := fun_mk (st := s_is_round) l_is_round cc_is_round k_is_round
  have b_is_round := F_is_round.binds (ps := ["value"]) fun _ _ _ _ _ _ us hl => match us, hl with | [_], _ => rfl
  have m_is_round := PySem.W.mg_of X G a_is_round
  have F_check_shape := fun_mk (st := s_check_shape) l_check_shape cc_check_shape k_check_shape
  have b_check_shape := F_check_shape.binds (ps := ["shape"]) fun _ _ _ _ _ _ us hl => match us, hl with | [_], _ => rfl
  have m_check_shape := PySem.W.mg_of X G a_check_shape
  have F_check_both := fun_mk (st := s_check_both) l_check_both cc_check_both k_check_both
  have b_check_both := F_check_both.binds (ps := ["one", "other"]) fun _ _ _ _ _ _ us hl => match us, hl with | [_, _], _ => rfl
  have m_check_both := PySem.W.mg_of X G a_check_both
  have F_greatest_divisor := fun_mk (st := s_greatest_divisor) l_greatest_divisor cc_greatest_divisor k_greatest_divisor
  have b_greatest_divisor := F_greatest_divisor.binds (ps := ["one", "other"]) fun _ _ _ _ _ _ us hl => match us, hl with | [_, _], _ => rfl
  have m_greatest_divisor := PySem.W.mg_of X G a_greatest_divisor
  have F_bare_of := fun_mk (st := s_bare_of) l_bare_of cc_bare_of k_bare_of
  have b_bare_of := F_bare_of.binds (ps := ["vector"]) fun _ _ _ _ _ _ us hl => match us, hl with | [_], _ => rfl
  have m_bare_of := PySem.W.mg_of X G a_bare_of
  have F_length_number := fun_mk (st := s_length_number) l_length_number cc_length_number k_length_number
  have b_length_number := F_length_number.binds (ps := ["vector"]) fun _ _ _ _ _ _ us hl => match us, hl with | [_], _ => rfl
  have m_length_number := PySem.W.mg_of X G a_length_number
  have F_side_lengths := fun_mk (st := s_side_lengths) l_side_lengths cc_side_lengths k_side_lengths
  have b_side_lengths := F_side_lengths.binds (ps := ["shape"]) fun _ _ _ _ _ _ us hl => match us, hl with | [_], _ => rfl
  have m_side_lengths := PySem.W.mg_of X G a_side_lengths
  have F_first_short := fun_mk (st := s_first_short) l_first_short cc_first_short k_first_short
  have b_first_short := F_first_short.binds (ps := ["whole", "part"]) fun _ _ _ _ _ _ us hl => match us, hl with | [_, _], _ => rfl
  have m_first_short := PySem.W.mg_of X G a_first_short
  have F_point_moved := fun_mk (st := s_point_moved) l_point_moved cc_point_moved k_point_moved
  have b_point_moved := F_point_moved.binds (ps := ["point", "vector"]) fun _ _ _ _ _ _ us hl => match us, hl with | [_, _], _ => rfl
  have m_point_moved := PySem.W.mg_of X G a_point_moved
  have F_corners_by := fun_mk (st := s_corners_by) l_corners_by cc_corners_by k_corners_by
  have b_corners_by := F_corners_by.binds (ps := ["point", "sides"]) fun _ _ _ _ _ _ us hl => match us, hl with | [_, _], _ => rfl
  have m_corners_by := PySem.W.mg_of X G a_corners_by
  have F_plain_rest := fun_mk (st := s_plain_rest) l_plain_rest cc_plain_rest k_plain_rest
  have b_plain_rest := F_plain_rest.binds (ps := ["whole", "part"]) fun _ _ _ _ _ _ us hl => match us, hl with | [_, _], _ => rfl
  have m_plain_rest := PySem.W.mg_of X G a_plain_rest
  have F_rest_paper := fun_mk (st := s_rest_paper) l_rest_paper cc_rest_paper k_rest_paper
  have b_rest_paper := F_rest_paper.binds (ps := ["whole", "part"]) fun _ _ _ _ _ _ us hl => match us, hl with | [_, _], _ => rfl
  have m_rest_paper := PySem.W.mg_of X G a_rest_paper
  have F_Lsides := fun_mk (st := s_Lsides) l_Lsides cc_Lsides k_Lsides
  have b_Lsides := F_Lsides.binds (ps := ["_law_shape"]) fun _ _ _ _ _ _ us hl => match us, hl with | [_], _ => rfl
  have m_Lsides := PySem.W.mg_of X G a_Lsides
  have F_Ldivisor := fun_mk (st := s_Ldivisor) l_Ldivisor cc_Ldivisor k_Ldivisor
  have b_Ldivisor := F_Ldivisor.binds (ps := ["_law_one_here", "_law_other"]) fun _ _ _ _ _ _ us hl => match us, hl with | [_, _], _ => rfl
  have m_Ldivisor := PySem.W.mg_of X G a_Ldivisor
  have F_Lbare := fun_mk (st := s_Lbare) l_Lbare cc_Lbare k_Lbare
  have b_Lbare := F_Lbare.binds (ps := ["_law_way"]) fun _ _ _ _ _ _ us hl => match us, hl with | [_], _ => rfl
  have m_Lbare := PySem.W.mg_of X G a_Lbare
  have F_Llongs := fun_mk (st := s_Llongs) l_Llongs cc_Llongs k_Llongs
  have b_Llongs := F_Llongs.binds (ps := ["_law_shape"]) fun _ _ _ _ _ _ us hl => match us, hl with | [_], _ => rfl
  have m_Llongs := PySem.W.mg_of X G a_Llongs
  have F_Lshort := fun_mk (st := s_Lshort) l_Lshort cc_Lshort k_Lshort
  have b_Lshort := F_Lshort.binds (ps := ["_law_whole", "_law_part"]) fun _ _ _ _ _ _ us hl => match us, hl with | [_, _], _ => rfl
  have m_Lshort := PySem.W.mg_of X G a_Lshort
  have F_Lshorts := fun_mk (st := s_Lshorts) l_Lshorts cc_Lshorts k_Lshorts
  have b_Lshorts := F_Lshorts.binds (ps := ["_law_whole", "_law_part"]) fun _ _ _ _ _ _ us hl => match us, hl with | [_, _], _ => rfl
  have m_Lshorts := PySem.W.mg_of X G a_Lshorts
  have F_Lbent := fun_mk (st := s_Lbent) l_Lbent cc_Lbent k_Lbent
  have b_Lbent := F_Lbent.binds (ps := ["_law_source", "_law_paper", "_law_whole", "_law_part"]) fun _ _ _ _ _ _ us hl => match us, hl with | [_, _, _, _], _ => rfl
  have m_Lbent := PySem.W.mg_of X G a_Lbent
  have F_Lis_whole := fun_mk (st := s_Lis_whole) l_Lis_whole cc_Lis_whole k_Lis_whole
  have b_Lis_whole := F_Lis_whole.binds (ps := ["_law_value"]) fun _ _ _ _ _ _ us hl => match us, hl with | [_], _ => rfl
  have m_Lis_whole := PySem.W.mg_of X G a_Lis_whole
  have F_Lis_pair := fun_mk (st := s_Lis_pair) l_Lis_pair cc_Lis_pair k_Lis_pair
  have b_Lis_pair := F_Lis_pair.binds (ps := ["_law_value"]) fun _ _ _ _ _ _ us hl => match us, hl with | [_], _ => rfl
  have m_Lis_pair := PySem.W.mg_of X G a_Lis_pair
  have F_Lis_shape := fun_mk (st := s_Lis_shape) l_Lis_shape cc_Lis_shape k_Lis_shape
  have b_Lis_shape := F_Lis_shape.binds (ps := ["_law_value"]) fun _ _ _ _ _ _ us hl => match us, hl with | [_], _ => rfl
  have m_Lis_shape := PySem.W.mg_of X G a_Lis_shape
  have F_Lholds := fun_mk (st := s_Lholds) l_Lholds cc_Lholds k_Lholds
  have b_Lholds := F_Lholds.binds (ps := ["_law_whole", "_law_part", "_law_paper"]) fun _ _ _ _ _ _ us hl => match us, hl with | [_, _, _], _ => rfl
  have m_Lholds := PySem.W.mg_of X G a_Lholds
  have F_is_one_of := fun_mk (st := s_is_one_of) l_is_one_of cc_is_one_of k_is_one_of
  have b_is_one_of := F_is_one_of.binds (ps := ["value", "words"]) fun _ _ _ _ _ _ us hl => match us, hl with | [_, _], _ => rfl
  have m_is_one_of := PySem.W.mg_of X G a_is_one_of
  have F_is_any_round := fun_mk (st := s_is_any_round) l_is_any_round cc_is_any_round k_is_any_round
  have b_is_any_round := F_is_any_round.binds (ps := ["value"]) fun _ _ _ _ _ _ us hl => match us, hl with | [_], _ => rfl
  have m_is_any_round := PySem.W.mg_of X G a_is_any_round
  have F_is_direction := fun_mk (st := s_is_direction) l_is_direction cc_is_direction k_is_direction
  have b_is_direction := F_is_direction.binds (ps := ["value"]) fun _ _ _ _ _ _ us hl => match us, hl with | [_], _ => rfl
  have m_is_direction := PySem.W.mg_of X G a_is_direction
  have F_merged_by := fun_mk (st := s_merged_by) l_merged_by cc_merged_by k_merged_by
  have b_merged_by := F_merged_by.binds (ps := ["order", "one", "other"]) fun _ _ _ _ _ _ us hl => match us, hl with | [_, _, _], _ => rfl
  have m_merged_by := PySem.W.mg_of X G a_merged_by
  have F_sorted_by := fun_mk (st := s_sorted_by) l_sorted_by cc_sorted_by k_sorted_by
  have b_sorted_by := F_sorted_by.binds (ps := ["order", "some"]) fun _ _ _ _ _ _ us hl => match us, hl with | [_, _], _ => rfl
  have m_sorted_by := PySem.W.mg_of X G a_sorted_by
  have F_by_slopes := fun_mk (st := s_by_slopes) l_by_slopes cc_by_slopes k_by_slopes
  have b_by_slopes := F_by_slopes.binds (ps := ["vectors"]) fun _ _ _ _ _ _ us hl => match us, hl with | [_], _ => rfl
  have m_by_slopes := PySem.W.mg_of X G a_by_slopes
  have F_joined_sides := fun_mk (st := s_joined_sides) l_joined_sides cc_joined_sides k_joined_sides
  have b_joined_sides := F_joined_sides.binds (ps := ["vectors"]) fun _ _ _ _ _ _ us hl => match us, hl with | [_], _ => rfl
  have m_joined_sides := PySem.W.mg_of X G a_joined_sides
  have F_plain_sum := fun_mk (st := s_plain_sum) l_plain_sum cc_plain_sum k_plain_sum
  have b_plain_sum := F_plain_sum.binds (ps := ["one", "other"]) fun _ _ _ _ _ _ us hl => match us, hl with | [_, _], _ => rfl
  have m_plain_sum := PySem.W.mg_of X G a_plain_sum
  have F_accepts_rest := fun_mk (st := s_accepts_rest) l_accepts_rest cc_accepts_rest k_accepts_rest
  have b_accepts_rest := F_accepts_rest.binds (ps := ["whole", "part", "paper"]) fun _ _ _ _ _ _ us hl => match us, hl with | [_, _, _], _ => rfl
  have m_accepts_rest := PySem.W.mg_of X G a_accepts_rest
  have F_law := fun_mk (st := s_law) l_law cc_law k_law
  have z_len := PySem.W.mg_none_of X G y_len
  have z_max := PySem.W.mg_none_of X G y_max
  have z_int := PySem.W.mg_none_of X G y_int
  have z_tuple := PySem.W.mg_none_of X G y_tuple
  have z_range := PySem.W.mg_none_of X G y_range
  have z_zip := PySem.W.mg_none_of X G y_zip
  have z_all := PySem.W.mg_none_of X G y_all
  have z_isinstance := PySem.W.mg_none_of X G y_isinstance
  have z_bool := PySem.W.mg_none_of X G y_bool
  have z_any := PySem.W.mg_none_of X G y_any
  have z_abs := PySem.W.mg_none_of X G y_abs
  have z_dict := PySem.W.mg_none_of X G y_dict
  have z_list := PySem.W.mg_none_of X G y_list
  have z_str := PySem.W.mg_none_of X G y_str
  have z_min := PySem.W.mg_none_of X G y_min
  have z_repr := PySem.W.mg_none_of X G y_repr
  have e_MOST_POINT : ∀ {X : Cx} {pos : Pos}, X.K = K → X.mg = mg → Gl X "MOST_POINT" → DE X (.Name "MOST_POINT" pos) (dC C_MOST_POINT) := const_int (PySem.W.mg_of X G y_MOST_POINT)
  have e_MOST_CORNERS : ∀ {X : Cx} {pos : Pos}, X.K = K → X.mg = mg → Gl X "MOST_CORNERS" → DE X (.Name "MOST_CORNERS" pos) (dC C_MOST_CORNERS) := const_int (PySem.W.mg_of X G y_MOST_CORNERS)
  refine ⟨PySem.W.fnOf "law" "law" (defArgs s_law) (defBody s_law) (defScope s_law) .none kV_law dc_law pm_law an_law cd_law ct_law, fun s v => .of_eq rfl, fun base _ _ => ?_⟩
  have G_Lpool := ok_Lpool (P := l.prog) (w := w) (mg := mg) (base := base) z_len z_max z_int F_Lpool
  have G_Ltake := ok_Ltake (P := l.prog) (w := w) (mg := mg) (base := base) z_int F_Ltake
  have G_Lone := ok_Lone (P := l.prog) (w := w) (mg := mg) (base := base) G_Ltake m_Ltake k_Ltake b_Ltake z_len F_Lone
  have G_Ladd := ok_Ladd (P := l.prog) (w := w) (mg := mg) (base := base)  F_Ladd
  have G_Lmoved := ok_Lmoved (P := l.prog) (w := w) (mg := mg) (base := base) G_Ladd m_Ladd k_Ladd b_Ladd z_tuple F_Lmoved
  have G_Llowest := ok_Llowest (P := l.prog) (w := w) (mg := mg) (base := base)  F_Llowest
  have G_Lcross := ok_Lcross (P := l.prog) (w := w) (mg := mg) (base := base)  F_Lcross
  have G_Lto := ok_Lto (P := l.prog) (w := w) (mg := mg) (base := base)  F_Lto
  have G_Ldot := ok_Ldot (P := l.prog) (w := w) (mg := mg) (base := base)  F_Ldot
  have G_Lsize := ok_Lsize (P := l.prog) (w := w) (mg := mg) (base := base) G_Lto m_Lto k_Lto b_Lto G_Ldot m_Ldot k_Ldot b_Ldot F_Lsize
  have G_Lhull := ok_Lhull (P := l.prog) (w := w) (mg := mg) (base := base) G_Llowest m_Llowest k_Llowest b_Llowest G_Lcross m_Lcross k_Lcross b_Lcross G_Lto m_Lto k_Lto b_Lto G_Lsize m_Lsize k_Lsize b_Lsize z_range z_len z_tuple F_Lhull
  have G_Lpoint := ok_Lpoint (P := l.prog) (w := w) (mg := mg) (base := base) G_Ltake m_Ltake k_Ltake b_Ltake F_Lpoint
  have G_Lpoints := ok_Lpoints (P := l.prog) (w := w) (mg := mg) (base := base) G_Lpoint m_Lpoint k_Lpoint b_Lpoint z_range F_Lpoints
  have G_Lround := ok_Lround (P := l.prog) (w := w) (mg := mg) (base := base) G_Lhull m_Lhull k_Lhull b_Lhull G_Lpoints m_Lpoints k_Lpoints b_Lpoints G_Lone m_Lone k_Lone b_Lone F_Lround
  have G_Lsum_due := ok_Lsum_due (P := l.prog) (w := w) (mg := mg) (base := base) G_Ladd m_Ladd k_Ladd b_Ladd G_Lhull m_Lhull k_Lhull b_Lhull F_Lsum_due
  have G_vector_between := ok_vector_between (P := l.prog) (w := w) (mg := mg) (base := base)  F_vector_between
  have G_plain_sides := ok_plain_sides (P := l.prog) (w := w) (mg := mg) (base := base) G_vector_between m_vector_between k_vector_between b_vector_between z_len z_zip F_plain_sides
  have G_is_upper := ok_is_upper (P := l.prog) (w := w) (mg := mg) (base := base)  F_is_upper
  have G_sign_of := ok_sign_of (P := l.prog) (w := w) (mg := mg) (base := base)  F_sign_of
  have G_cross_of := ok_cross_of (P := l.prog) (w := w) (mg := mg) (base := base)  F_cross_of
  have G_slope_order := ok_slope_order (P := l.prog) (w := w) (mg := mg) (base := base) G_is_upper m_is_upper k_is_upper b_is_upper G_sign_of m_sign_of k_sign_of b_sign_of G_cross_of m_cross_of k_cross_of b_cross_of F_slope_order
  have G_rises := ok_rises (P := l.prog) (w := w) (mg := mg) (base := base) G_slope_order m_slope_order k_slope_order b_slope_order z_all z_zip F_rises
  have G_is_tuple_of := ok_is_tuple_of (P := l.prog) (w := w) (mg := mg) (base := base) z_isinstance z_tuple z_len F_is_tuple_of
  have G_is_whole := ok_is_whole (P := l.prog) (w := w) (mg := mg) (base := base) z_isinstance z_int z_bool F_is_whole
  have G_is_number := ok_is_number (P := l.prog) (w := w) (mg := mg) (base := base) G_is_whole m_is_whole k_is_whole b_is_whole F_is_number
  have G_is_pair_within := ok_is_pair_within (P := l.prog) (w := w) (mg := mg) (base := base) G_is_tuple_of m_is_tuple_of k_is_tuple_of b_is_tuple_of G_is_number m_is_number k_is_number b_is_number F_is_pair_within
  have G_is_point := ok_is_point (P := l.prog) (w := w) (mg := mg) (base := base) G_is_pair_within m_is_pair_within k_is_pair_within b_is_pair_within e_MOST_POINT F_is_point
  have G_is_round := ok_is_round (P := l.prog) (w := w) (mg := mg) (base := base) G_is_point m_is_point k_is_point b_is_point G_plain_sides m_plain_sides k_plain_sides b_plain_sides G_rises m_rises k_rises b_rises z_isinstance z_tuple z_len z_all z_any e_MOST_CORNERS F_is_round
  have G_check_shape := ok_check_shape (P := l.prog) (w := w) (mg := mg) (base := base) G_is_round m_is_round k_is_round b_is_round F_check_shape
  have G_check_both := ok_check_both (P := l.prog) (w := w) (mg := mg) (base := base) G_check_shape m_check_shape k_check_shape b_check_shape F_check_both
  have G_greatest_divisor := ok_greatest_divisor (P := l.prog) (w := w) (mg := mg) (base := base) z_abs F_greatest_divisor
  have G_bare_of := ok_bare_of (P := l.prog) (w := w) (mg := mg) (base := base) G_greatest_divisor m_greatest_divisor k_greatest_divisor b_greatest_divisor F_bare_of
  have G_length_number := ok_length_number (P := l.prog) (w := w) (mg := mg) (base := base) G_greatest_divisor m_greatest_divisor k_greatest_divisor b_greatest_divisor F_length_number
  have G_side_lengths := ok_side_lengths (P := l.prog) (w := w) (mg := mg) (base := base) G_plain_sides m_plain_sides k_plain_sides b_plain_sides G_bare_of m_bare_of k_bare_of b_bare_of G_length_number m_length_number k_length_number b_length_number F_side_lengths
  have G_first_short := ok_first_short (P := l.prog) (w := w) (mg := mg) (base := base) G_side_lengths m_side_lengths k_side_lengths b_side_lengths F_first_short
  have G_point_moved := ok_point_moved (P := l.prog) (w := w) (mg := mg) (base := base)  F_point_moved
  have G_corners_by := ok_corners_by (P := l.prog) (w := w) (mg := mg) (base := base) G_point_moved m_point_moved k_point_moved b_point_moved z_tuple F_corners_by
  have G_plain_rest := ok_plain_rest (P := l.prog) (w := w) (mg := mg) (base := base) G_side_lengths m_side_lengths k_side_lengths b_side_lengths G_corners_by m_corners_by k_corners_by b_corners_by G_vector_between m_vector_between k_vector_between b_vector_between F_plain_rest
  have G_rest_paper := ok_rest_paper (P := l.prog) (w := w) (mg := mg) (base := base) G_check_both m_check_both k_check_both b_check_both G_first_short m_first_short k_first_short b_first_short G_plain_rest m_plain_rest k_plain_rest b_plain_rest F_rest_paper
  have G_Lsides := ok_Lsides (P := l.prog) (w := w) (mg := mg) (base := base) G_Lto m_Lto k_Lto b_Lto z_len z_range F_Lsides
  have G_Ldivisor := ok_Ldivisor (P := l.prog) (w := w) (mg := mg) (base := base) z_max z_int F_Ldivisor
  have G_Lbare := ok_Lbare (P := l.prog) (w := w) (mg := mg) (base := base) G_Ldivisor m_Ldivisor k_Ldivisor b_Ldivisor F_Lbare
  have G_Llongs := ok_Llongs (P := l.prog) (w := w) (mg := mg) (base := base) G_Lsides m_Lsides k_Lsides b_Lsides G_Ldivisor m_Ldivisor k_Ldivisor b_Ldivisor G_Lbare m_Lbare k_Lbare b_Lbare z_dict F_Llongs
  have G_Lshort := ok_Lshort (P := l.prog) (w := w) (mg := mg) (base := base) G_Llongs m_Llongs k_Llongs b_Llongs G_Lsides m_Lsides k_Lsides b_Lsides G_Lbare m_Lbare k_Lbare b_Lbare F_Lshort
  have G_Lshorts := ok_Lshorts (P := l.prog) (w := w) (mg := mg) (base := base) G_Llongs m_Llongs k_Llongs b_Llongs F_Lshorts
  have G_Lbent := ok_Lbent (P := l.prog) (w := w) (mg := mg) (base := base) G_Ltake m_Ltake k_Ltake b_Ltake G_Lone m_Lone k_Lone b_Lone G_Lmoved m_Lmoved k_Lmoved b_Lmoved G_Lround m_Lround k_Lround b_Lround z_list z_len z_isinstance z_tuple z_str z_bool F_Lbent
  have G_Lis_whole := ok_Lis_whole (P := l.prog) (w := w) (mg := mg) (base := base) z_isinstance z_int z_bool F_Lis_whole
  have G_Lis_pair := ok_Lis_pair (P := l.prog) (w := w) (mg := mg) (base := base) G_Lis_whole m_Lis_whole k_Lis_whole b_Lis_whole z_isinstance z_tuple z_len F_Lis_pair
  have G_Lis_shape := ok_Lis_shape (P := l.prog) (w := w) (mg := mg) (base := base) G_Lis_pair m_Lis_pair k_Lis_pair b_Lis_pair G_Lhull m_Lhull k_Lhull b_Lhull z_isinstance z_tuple z_len z_list F_Lis_shape
  have G_Lholds := ok_Lholds (P := l.prog) (w := w) (mg := mg) (base := base) G_Lis_shape m_Lis_shape k_Lis_shape b_Lis_shape G_Lsum_due m_Lsum_due k_Lsum_due b_Lsum_due G_Lis_pair m_Lis_pair k_Lis_pair b_Lis_pair G_Lis_whole m_Lis_whole k_Lis_whole b_Lis_whole G_Llongs m_Llongs k_Llongs b_Llongs z_isinstance z_tuple z_len F_Lholds
  have G_is_one_of := ok_is_one_of (P := l.prog) (w := w) (mg := mg) (base := base) z_isinstance z_str F_is_one_of
  have G_is_any_round := ok_is_any_round (P := l.prog) (w := w) (mg := mg) (base := base) G_is_tuple_of m_is_tuple_of k_is_tuple_of b_is_tuple_of G_is_whole m_is_whole k_is_whole b_is_whole G_plain_sides m_plain_sides k_plain_sides b_plain_sides G_rises m_rises k_rises b_rises z_isinstance z_tuple z_len z_all z_any e_MOST_CORNERS F_is_any_round
  have G_is_direction := ok_is_direction (P := l.prog) (w := w) (mg := mg) (base := base) G_is_tuple_of m_is_tuple_of k_is_tuple_of b_is_tuple_of G_is_whole m_is_whole k_is_whole b_is_whole F_is_direction
  have G_merged_by := ok_merged_by (P := l.prog) (w := w) (mg := mg) (base := base) G_slope_order m_slope_order k_slope_order b_slope_order z_len F_merged_by
  have G_sorted_by := ok_sorted_by (P := l.prog) (w := w) (mg := mg) (base := base) G_merged_by m_merged_by k_merged_by b_merged_by z_len z_zip F_sorted_by
  have G_by_slopes := ok_by_slopes (P := l.prog) (w := w) (mg := mg) (base := base) G_sorted_by m_sorted_by k_sorted_by b_sorted_by G_slope_order m_slope_order k_slope_order b_slope_order F_by_slopes
  have G_joined_sides := ok_joined_sides (P := l.prog) (w := w) (mg := mg) (base := base) G_by_slopes m_by_slopes k_by_slopes b_by_slopes G_slope_order m_slope_order k_slope_order b_slope_order G_point_moved m_point_moved k_point_moved b_point_moved z_len F_joined_sides
  have G_plain_sum := ok_plain_sum (P := l.prog) (w := w) (mg := mg) (base := base) G_corners_by m_corners_by k_corners_by b_corners_by G_joined_sides m_joined_sides k_joined_sides b_joined_sides G_plain_sides m_plain_sides k_plain_sides b_plain_sides G_point_moved m_point_moved k_point_moved b_point_moved F_plain_sum
  have G_accepts_rest := ok_accepts_rest (P := l.prog) (w := w) (mg := mg) (base := base) G_check_both m_check_both k_check_both b_check_both G_is_tuple_of m_is_tuple_of k_is_tuple_of b_is_tuple_of G_is_one_of m_is_one_of k_is_one_of b_is_one_of G_is_any_round m_is_any_round k_is_any_round b_is_any_round G_plain_sum m_plain_sum k_plain_sum b_plain_sum G_is_direction m_is_direction k_is_direction b_is_direction G_is_whole m_is_whole k_is_whole b_is_whole G_side_lengths m_side_lengths k_side_lengths b_side_lengths F_accepts_rest
  exact ok_law (P := l.prog) (w := w) (mg := mg) (base := base) G_Lpool m_Lpool k_Lpool b_Lpool G_Lround m_Lround k_Lround b_Lround G_Ltake m_Ltake k_Ltake b_Ltake G_Lsum_due m_Lsum_due k_Lsum_due b_Lsum_due G_Lone m_Lone k_Lone b_Lone G_Lmoved m_Lmoved k_Lmoved b_Lmoved G_Lshort m_Lshort k_Lshort b_Lshort G_rest_paper m_rest_paper k_rest_paper b_rest_paper G_Lholds m_Lholds k_Lholds b_Lholds G_Lshorts m_Lshorts k_Lshorts b_Lshorts G_Lbent m_Lbent k_Lbent b_Lbent G_accepts_rest m_accepts_rest k_accepts_rest b_accepts_rest z_range z_max z_min z_len z_repr F_law
end DL
open PySem PySem.W PyProof.Rows
set_option maxRecDepth 100000 in
set_option maxHeartbeats 0 in
theorem PySem.Challenge.cw_gridshapes_k18_whole_rest_papers_by_anyo_holds : PySem.Challenge.rw_gridshapes_k18_whole_rest_papers_by_anyo.Holds := by
  w_on; o_law; k_head; (case hw => w_witness2)
  k_fill
  refine DL.walk_ofG (l := PySem.Challenge.rw_gridshapes_k18_whole_rest_papers_by_anyo) (n := 63) (k := 9) (x := "_law_script") (CX := fun w => L2.CX PySem.Challenge.rw_gridshapes_k18_whole_rest_papers_by_anyo.prog w) (sp := fun w => _) rfl (by decide) rfl ⟨rfl, by decide, by decide⟩ (fun w h Y => PySem.W.kIn_of Y) ?F (fun w H a ns hl _ hS => DL.law_sp hl hS fun _ m => (by cases m)) (fun w H s e s' => ?X)
  case F =>
    intro w mg fa h KX G hmg
    refine' DL.all_mk KX G hmg ?a_Lpool ?l_Lpool ?cc_Lpool ?k_Lpool ?a_Ltake ?l_Ltake ?cc_Ltake ?k_Ltake ?a_Lone ?l_Lone ?cc_Lone ?k_Lone ?a_Ladd ?l_Ladd ?cc_Ladd ?k_Ladd ?a_Lmoved ?l_Lmoved ?cc_Lmoved ?k_Lmoved ?a_Llowest ?l_Llowest ?cc_Llowest ?k_Llowest ?a_Lcross ?l_Lcross ?cc_Lcross ?k_Lcross ?a_Lto ?l_Lto ?cc_Lto ?k_Lto ?a_Ldot ?l_Ldot ?cc_Ldot ?k_Ldot ?a_Lsize ?l_Lsize ?cc_Lsize ?k_Lsize ?a_Lhull ?l_Lhull ?cc_Lhull ?k_Lhull ?a_Lpoint ?l_Lpoint ?cc_Lpoint ?k_Lpoint ?a_Lpoints ?l_Lpoints ?cc_Lpoints ?k_Lpoints ?a_Lround ?l_Lround ?cc_Lround ?k_Lround ?a_Lsum_due ?l_Lsum_due ?cc_Lsum_due ?k_Lsum_due ?a_vector_between ?l_vector_between ?cc_vector_between ?k_vector_between ?a_plain_sides ?l_plain_sides ?cc_plain_sides ?k_plain_sides ?a_is_upper ?l_is_upper ?cc_is_upper ?k_is_upper ?a_sign_of ?l_sign_of ?cc_sign_of ?k_sign_of ?a_cross_of ?l_cross_of ?cc_cross_of ?k_cross_of ?a_slope_order ?l_slope_order ?cc_slope_order ?k_slope_order ?a_rises ?l_rises ?cc_rises ?k_rises ?a_is_tuple_of ?l_is_tuple_of ?cc_is_tuple_of ?k_is_tuple_of ?a_is_whole ?l_is_whole ?cc_is_whole ?k_is_whole ?a_is_number ?l_is_number ?cc_is_number ?k_is_number ?a_is_pair_within ?l_is_pair_within ?cc_is_pair_within ?k_is_pair_within ?a_is_point ?l_is_point ?cc_is_point ?k_is_point ?a_is_round ?l_is_round ?cc_is_round ?k_is_round ?a_check_shape ?l_check_shape ?cc_check_shape ?k_check_shape ?a_check_both ?l_check_both ?cc_check_both ?k_check_both ?a_greatest_divisor ?l_greatest_divisor ?cc_greatest_divisor ?k_greatest_divisor ?a_bare_of ?l_bare_of ?cc_bare_of ?k_bare_of ?a_length_number ?l_length_number ?cc_length_number ?k_length_number ?a_side_lengths ?l_side_lengths ?cc_side_lengths ?k_side_lengths ?a_first_short ?l_first_short ?cc_first_short ?k_first_short ?a_point_moved ?l_point_moved ?cc_point_moved ?k_point_moved ?a_corners_by ?l_corners_by ?cc_corners_by ?k_corners_by ?a_plain_rest ?l_plain_rest ?cc_plain_rest ?k_plain_rest ?a_rest_paper ?l_rest_paper ?cc_rest_paper ?k_rest_paper ?a_Lsides ?l_Lsides ?cc_Lsides ?k_Lsides ?a_Ldivisor ?l_Ldivisor ?cc_Ldivisor ?k_Ldivisor ?a_Lbare ?l_Lbare ?cc_Lbare ?k_Lbare ?a_Llongs ?l_Llongs ?cc_Llongs ?k_Llongs ?a_Lshort ?l_Lshort ?cc_Lshort ?k_Lshort ?a_Lshorts ?l_Lshorts ?cc_Lshorts ?k_Lshorts ?a_Lbent ?l_Lbent ?cc_Lbent ?k_Lbent ?a_Lis_whole ?l_Lis_whole ?cc_Lis_whole ?k_Lis_whole ?a_Lis_pair ?l_Lis_pair ?cc_Lis_pair ?k_Lis_pair ?a_Lis_shape ?l_Lis_shape ?cc_Lis_shape ?k_Lis_shape ?a_Lholds ?l_Lholds ?cc_Lholds ?k_Lholds ?a_is_one_of ?l_is_one_of ?cc_is_one_of ?k_is_one_of ?a_is_any_round ?l_is_any_round ?cc_is_any_round ?k_is_any_round ?a_is_direction ?l_is_direction ?cc_is_direction ?k_is_direction ?a_merged_by ?l_merged_by ?cc_merged_by ?k_merged_by ?a_sorted_by ?l_sorted_by ?cc_sorted_by ?k_sorted_by ?a_by_slopes ?l_by_slopes ?cc_by_slopes ?k_by_slopes ?a_joined_sides ?l_joined_sides ?cc_joined_sides ?k_joined_sides ?a_plain_sum ?l_plain_sum ?cc_plain_sum ?k_plain_sum ?a_accepts_rest ?l_accepts_rest ?cc_accepts_rest ?k_accepts_rest ?a_law ?l_law ?cc_law ?k_law ?y_len ?y_max ?y_int ?y_tuple ?y_range ?y_zip ?y_all ?y_isinstance ?y_bool ?y_any ?y_abs ?y_dict ?y_list ?y_str ?y_min ?y_repr ?y_MOST_POINT ?y_MOST_CORNERS
    (case a_Lpool => k_is)
    (case l_Lpool => k_is)
    (case cc_Lpool => k_is)
    (case k_Lpool => first | k_is | rfl | kernel_rfl)
    (case a_Ltake => k_is)
    (case l_Ltake => k_is)
    (case cc_Ltake => k_is)
    (case k_Ltake => first | k_is | rfl | kernel_rfl)
    (case a_Lone => k_is)
    (case l_Lone => k_is)
    (case cc_Lone => k_is)
    (case k_Lone => first | k_is | rfl | kernel_rfl)
    (case a_Ladd => k_is)
    (case l_Ladd => k_is)
    (case cc_Ladd => k_is)
    (case k_Ladd => first | k_is | rfl | kernel_rfl)
    (case a_Lmoved => k_is)
    (case l_Lmoved => k_is)
    (case cc_Lmoved => k_is)
    (case k_Lmoved => first | k_is | rfl | kernel_rfl)
    (case a_Llowest => k_is)
    (case l_Llowest => k_is)
    (case cc_Llowest => k_is)
    (case k_Llowest => first | k_is | rfl | kernel_rfl)
    (case a_Lcross => k_is)
    (case l_Lcross => k_is)
    (case cc_Lcross => k_is)
    (case k_Lcross => first | k_is | rfl | kernel_rfl)
    (case a_Lto => k_is)
    (case l_Lto => k_is)
    (case cc_Lto => k_is)
    (case k_Lto => first | k_is | rfl | kernel_rfl)
    (case a_Ldot => k_is)
    (case l_Ldot => k_is)
    (case cc_Ldot => k_is)
    (case k_Ldot => first | k_is | rfl | kernel_rfl)
    (case a_Lsize => k_is)
    (case l_Lsize => k_is)
    (case cc_Lsize => k_is)
    (case k_Lsize => first | k_is | rfl | kernel_rfl)
    (case a_Lhull => k_is)
    (case l_Lhull => k_is)
    (case cc_Lhull => k_is)
    (case k_Lhull => first | k_is | rfl | kernel_rfl)
    (case a_Lpoint => k_is)
    (case l_Lpoint => k_is)
    (case cc_Lpoint => k_is)
    (case k_Lpoint => first | k_is | rfl | kernel_rfl)
    (case a_Lpoints => k_is)
    (case l_Lpoints => k_is)
    (case cc_Lpoints => k_is)
    (case k_Lpoints => first | k_is | rfl | kernel_rfl)
    (case a_Lround => k_is)
    (case l_Lround => k_is)
    (case cc_Lround => k_is)
    (case k_Lround => first | k_is | rfl | kernel_rfl)
    (case a_Lsum_due => k_is)
    (case l_Lsum_due => k_is)
    (case cc_Lsum_due => k_is)
    (case k_Lsum_due => first | k_is | rfl | kernel_rfl)
    (case a_vector_between => k_is)
    (case l_vector_between => k_is)
    (case cc_vector_between => k_is)
    (case k_vector_between => first | k_is | rfl | kernel_rfl)
    (case a_plain_sides => k_is)
    (case l_plain_sides => k_is)
    (case cc_plain_sides => k_is)
    (case k_plain_sides => first | k_is | rfl | kernel_rfl)
    (case a_is_upper => k_is)
    (case l_is_upper => k_is)
    (case cc_is_upper => k_is)
    (case k_is_upper => first | k_is | rfl | kernel_rfl)
    (case a_sign_of => k_is)
    (case l_sign_of => k_is)
    (case cc_sign_of => k_is)
    (case k_sign_of => first | k_is | rfl | kernel_rfl)
    (case a_cross_of => k_is)
    (case l_cross_of => k_is)
    (case cc_cross_of => k_is)
    (case k_cross_of => first | k_is | rfl | kernel_rfl)
    (case a_slope_order => k_is)
    (case l_slope_order => k_is)
    (case cc_slope_order => k_is)
    (case k_slope_order => first | k_is | rfl | kernel_rfl)
    (case a_rises => k_is)
    (case l_rises => k_is)
    (case cc_rises => k_is)
    (case k_rises => first | k_is | rfl | kernel_rfl)
    (case a_is_tuple_of => k_is)
    (case l_is_tuple_of => k_is)
    (case cc_is_tuple_of => k_is)
    (case k_is_tuple_of => first | k_is | rfl | kernel_rfl)
    (case a_is_whole => k_is)
    (case l_is_whole => k_is)
    (case cc_is_whole => k_is)
    (case k_is_whole => first | k_is | rfl | kernel_rfl)
    (case a_is_number => k_is)
    (case l_is_number => k_is)
    (case cc_is_number => k_is)
    (case k_is_number => first | k_is | rfl | kernel_rfl)
    (case a_is_pair_within => k_is)
    (case l_is_pair_within => k_is)
    (case cc_is_pair_within => k_is)
    (case k_is_pair_within => first | k_is | rfl | kernel_rfl)
    (case a_is_point => k_is)
    (case l_is_point => k_is)
    (case cc_is_point => k_is)
    (case k_is_point => first | k_is | rfl | kernel_rfl)
    (case a_is_round => k_is)
    (case l_is_round => k_is)
    (case cc_is_round => k_is)
    (case k_is_round => first | k_is | rfl | kernel_rfl)
    (case a_check_shape => k_is)
    (case l_check_shape => k_is)
    (case cc_check_shape => k_is)
    (case k_check_shape => first | k_is | rfl | kernel_rfl)
    (case a_check_both => k_is)
    (case l_check_both => k_is)
    (case cc_check_both => k_is)
    (case k_check_both => first | k_is | rfl | kernel_rfl)
    (case a_greatest_divisor => k_is)
    (case l_greatest_divisor => k_is)
    (case cc_greatest_divisor => k_is)
    (case k_greatest_divisor => first | k_is | rfl | kernel_rfl)
    (case a_bare_of => k_is)
    (case l_bare_of => k_is)
    (case cc_bare_of => k_is)
    (case k_bare_of => first | k_is | rfl | kernel_rfl)
    (case a_length_number => k_is)
    (case l_length_number => k_is)
    (case cc_length_number => k_is)
    (case k_length_number => first | k_is | rfl | kernel_rfl)
    (case a_side_lengths => k_is)
    (case l_side_lengths => k_is)
    (case cc_side_lengths => k_is)
    (case k_side_lengths => first | k_is | rfl | kernel_rfl)
    (case a_first_short => k_is)
    (case l_first_short => k_is)
    (case cc_first_short => k_is)
    (case k_first_short => first | k_is | rfl | kernel_rfl)
    (case a_point_moved => k_is)
    (case l_point_moved => k_is)
    (case cc_point_moved => k_is)
    (case k_point_moved => first | k_is | rfl | kernel_rfl)
    (case a_corners_by => k_is)
    (case l_corners_by => k_is)
    (case cc_corners_by => k_is)
    (case k_corners_by => first | k_is | rfl | kernel_rfl)
    (case a_plain_rest => k_is)
    (case l_plain_rest => k_is)
    (case cc_plain_rest => k_is)
    (case k_plain_rest => first | k_is | rfl | kernel_rfl)
    (case a_rest_paper => k_is)
    (case l_rest_paper => k_is)
    (case cc_rest_paper => k_is)
    (case k_rest_paper => first | k_is | rfl | kernel_rfl)
    (case a_Lsides => k_is)
    (case l_Lsides => k_is)
    (case cc_Lsides => k_is)
    (case k_Lsides => first | k_is | rfl | kernel_rfl)
    (case a_Ldivisor => k_is)
    (case l_Ldivisor => k_is)
    (case cc_Ldivisor => k_is)
    (case k_Ldivisor => first | k_is | rfl | kernel_rfl)
    (case a_Lbare => k_is)
    (case l_Lbare => k_is)
    (case cc_Lbare => k_is)
    (case k_Lbare => first | k_is | rfl | kernel_rfl)
    (case a_Llongs => k_is)
    (case l_Llongs => k_is)
    (case cc_Llongs => k_is)
    (case k_Llongs => first | k_is | rfl | kernel_rfl)
    (case a_Lshort => k_is)
    (case l_Lshort => k_is)
    (case cc_Lshort => k_is)
    (case k_Lshort => first | k_is | rfl | kernel_rfl)
    (case a_Lshorts => k_is)
    (case l_Lshorts => k_is)
    (case cc_Lshorts => k_is)
    (case k_Lshorts => first | k_is | rfl | kernel_rfl)
    (case a_Lbent => k_is)
    (case l_Lbent => k_is)
    (case cc_Lbent => k_is)
    (case k_Lbent => first | k_is | rfl | kernel_rfl)
    (case a_Lis_whole => k_is)
    (case l_Lis_whole => k_is)
    (case cc_Lis_whole => k_is)
    (case k_Lis_whole => first | k_is | rfl | kernel_rfl)
    (case a_Lis_pair => k_is)
    (case l_Lis_pair => k_is)
    (case cc_Lis_pair => k_is)
    (case k_Lis_pair => first | k_is | rfl | kernel_rfl)
    (case a_Lis_shape => k_is)
    (case l_Lis_shape => k_is)
    (case cc_Lis_shape => k_is)
    (case k_Lis_shape => first | k_is | rfl | kernel_rfl)
    (case a_Lholds => k_is)
    (case l_Lholds => k_is)
    (case cc_Lholds => k_is)
    (case k_Lholds => first | k_is | rfl | kernel_rfl)
    (case a_is_one_of => k_is)
    (case l_is_one_of => k_is)
    (case cc_is_one_of => k_is)
    (case k_is_one_of => first | k_is | rfl | kernel_rfl)
    (case a_is_any_round => k_is)
    (case l_is_any_round => k_is)
    (case cc_is_any_round => k_is)
    (case k_is_any_round => first | k_is | rfl | kernel_rfl)
    (case a_is_direction => k_is)
    (case l_is_direction => k_is)
    (case cc_is_direction => k_is)
    (case k_is_direction => first | k_is | rfl | kernel_rfl)
    (case a_merged_by => k_is)
    (case l_merged_by => k_is)
    (case cc_merged_by => k_is)
    (case k_merged_by => first | k_is | rfl | kernel_rfl)
    (case a_sorted_by => k_is)
    (case l_sorted_by => k_is)
    (case cc_sorted_by => k_is)
    (case k_sorted_by => first | k_is | rfl | kernel_rfl)
    (case a_by_slopes => k_is)
    (case l_by_slopes => k_is)
    (case cc_by_slopes => k_is)
    (case k_by_slopes => first | k_is | rfl | kernel_rfl)
    (case a_joined_sides => k_is)
    (case l_joined_sides => k_is)
    (case cc_joined_sides => k_is)
    (case k_joined_sides => first | k_is | rfl | kernel_rfl)
    (case a_plain_sum => k_is)
    (case l_plain_sum => k_is)
    (case cc_plain_sum => k_is)
    (case k_plain_sum => first | k_is | rfl | kernel_rfl)
    (case a_accepts_rest => k_is)
    (case l_accepts_rest => k_is)
    (case cc_accepts_rest => k_is)
    (case k_accepts_rest => first | k_is | rfl | kernel_rfl)
    (case a_law => k_is)
    (case l_law => k_is)
    (case cc_law => k_is)
    (case k_law => first | k_is | rfl | kernel_rfl)
    (case y_len => k_is)
    (case y_max => k_is)
    (case y_int => k_is)
    (case y_tuple => k_is)
    (case y_range => k_is)
    (case y_zip => k_is)
    (case y_all => k_is)
    (case y_isinstance => k_is)
    (case y_bool => k_is)
    (case y_any => k_is)
    (case y_abs => k_is)
    (case y_dict => k_is)
    (case y_list => k_is)
    (case y_str => k_is)
    (case y_min => k_is)
    (case y_repr => k_is)
    (case y_MOST_POINT => k_is)
    (case y_MOST_CORNERS => k_is)
  case X =>
    exact fun ⟨_, _, _, _, _, _, _, _, _, _, _, _, z⟩ => z

